import PyProof.Rows.All
import KE.KIntText
import KE.KItem
import OpenK.KLine
import Wide.All
import OpenK.AllK
import Wide.FinOn
import PySem.Challenge.RW_uf020027_11
set_option Elab.async false
set_option autoImplicit false
namespace Mine
open PySem

/- values, objects, state -/
inductive V where
  | none | bool (b : Bool) | int (i : Int) | str (s : List Nat)
  | tuple (vs : List V) | range (lo hi : Int) | set (vs : List V) | flist (vs : List V)
  | exc (c : Str) | ref (i : Nat) | own (x : Str) | type (n : String)

inductive Ob where
  | list (xs : List V) | dict (es : List (V × V)) | inst (c : Str) (d : Nat) | ns (fs : List (Str × V))

structure St where
  vars : List (Option V)
  obs : List Ob

inductive Out (α : Type) where
  | stuck
  | ok (a : α) (s : St)
  | exc (c : Str) (s : St)

noncomputable def M (α : Type) := St → Out α
noncomputable def M.pure {α : Type} (a : α) : M α := fun s => .ok a s
noncomputable def M.bind {α β : Type} (m : M α) (f : α → M β) : M β := fun s => match m s with
  | .ok a s' => f a s'
  | .exc c s' => .exc c s'
  | .stuck => .stuck
noncomputable def stuck {α : Type} : M α := fun _ => .stuck
noncomputable def ofOpt {α : Type} : Option α → M α
  | some a => M.pure a
  | none => stuck

inductive Flow where
  | next | ret (v : V)

inductive FnKey where
  | fn (x : Str) | meth (c m : Str)

/- what a body is run in: the calls; which own class is another one's heir -/
structure Wd where
  cf : FnKey → List V → M V
  sub : Str → Str → Bool
  fld : Str → Str → Bool
  has : Str → Str → Bool

/- primitives on the state -/
noncomputable def getVar (i : Nat) : M V := fun s => match s.vars[i]? with
  | some (some v) => .ok v s
  | _ => .stuck
noncomputable def setVar (i : Nat) (v : V) : M Unit := fun s => if i < s.vars.length then .ok () { s with vars := s.vars.set i (some v) } else .stuck
noncomputable def getOb (a : Nat) : M Ob := fun s => match s.obs[a]? with
  | some o => .ok o s
  | none => .stuck
noncomputable def setOb (a : Nat) (o : Ob) : M Unit := fun s => if a < s.obs.length then .ok () { s with obs := s.obs.set a o } else .stuck
noncomputable def alloc (o : Ob) : M V := fun s => .ok (.ref s.obs.length) { s with obs := s.obs ++ [o] }
noncomputable def innerM {α : Type} (base n : Nat) (m : M α) : M α := fun s => match m { s with vars := s.vars.take base ++ List.replicate n none } with
  | .ok a s' => .ok a { s with obs := s'.obs }
  | .exc c s' => .exc c { s with obs := s'.obs }
  | .stuck => .stuck
noncomputable def withObs {α : Type} (f : List Ob → Option α) : M α := fun s => match f s.obs with
  | some a => .ok a s
  | none => .stuck

noncomputable def asBool : V → M Bool
  | .bool b => M.pure b
  | _ => stuck
noncomputable def asInt : V → M Int
  | .int i => M.pure i
  | _ => stuck

noncomputable def getList (a : Nat) : M (List V) := (getOb a).bind fun o => match o with
  | .list xs => M.pure xs
  | _ => stuck

/- plain helpers -/
noncomputable def big : Int := 9223372036854775808
noncomputable def idxL {α : Type} (xs : List α) (i : Int) : Option α :=
  if 0 ≤ i then (if i < big then xs[i.toNat]? else none) else if -(xs.length : Int) ≤ i ∧ -big ≤ i then xs[(i + (xs.length : Int)).toNat]? else none
noncomputable def sliceL {α : Type} (xs : List α) (lo hi : Option Int) : List α :=
  (xs.drop (lo.elim 0 (clipAt xs.length))).take (hi.elim xs.length (clipAt xs.length) - lo.elim 0 (clipAt xs.length))
noncomputable def charsOf (s : List Nat) : List V := s.map fun c => .str [c]
noncomputable def rangeL (lo hi : Int) : List Int := (List.range (hi - lo).toNat).map fun (k : Nat) => lo + (k : Int)
noncomputable def strsOf : List V → Option (List (List Nat))
  | [] => some []
  | .str s :: r => (strsOf r).map (s :: ·)
  | _ => none
/- ==: of plain data, as the kit's PyData tells it -/
mutual
noncomputable def datV (obs : List Ob) (f : V → Option PyData) : V → Option PyData
  | .none => some .none
  | .bool b => some (.bool b)
  | .int i => some (.int i)
  | .str s => some (.str ⟨s.toArray⟩)
  | .tuple vs => (datVs obs f vs).map .tuple
  | .ref a => f (.ref a)
  | _ => none
noncomputable def datVs (obs : List Ob) (f : V → Option PyData) : List V → Option (List PyData)
  | [] => some []
  | v :: r => match datV obs f v, datVs obs f r with
    | some x, some l => some (x :: l)
    | _, _ => none
end
noncomputable def datR (obs : List Ob) : Nat → V → Option PyData
  | 0, _ => none
  | n + 1, .ref a => match obs[a]? with
    | some (.list xs) => (datVs obs (datR obs n) xs).map .list
    | _ => none
  | _ + 1, _ => none
noncomputable def dat (obs : List Ob) (v : V) : Option PyData := datV obs (datR obs 8) v
noncomputable def eqO (obs : List Ob) (a b : V) : Option Bool := match dat obs a, dat obs b with
  | some x, some y => if SeqAt.shaped x && SeqAt.shaped y then some (PyData.eqv x y) else none
  | _, _ => none
noncomputable def pyEq (a b : V) : M Bool := withObs fun obs => eqO obs a b

structure Src where
  items : List V
  chk : List (Nat × Ob)

noncomputable def chkOk (c : List (Nat × Ob)) (obs : List Ob) : Prop := ∀ p : Nat × Ob, p ∈ c → obs[p.1]? = some p.2
open Classical in
noncomputable def chkObs (c : List (Nat × Ob)) : M Unit := fun s => if chkOk c s.obs then .ok () s else .stuck
noncomputable def smallR (lo hi : Int) : Bool := decide (-1000000 ≤ lo) && decide (lo ≤ 1000000) && decide (-1000000 ≤ hi) && decide (hi ≤ 1000000)
noncomputable def toSrc (v : V) : M Src := withObs fun obs => match v with
  | .ref a => match obs[a]? with
    | some (.list xs) => some ⟨xs, [(a, .list xs)]⟩
    | _ => none
  | .range lo hi => if smallR lo hi then some ⟨(rangeL lo hi).map .int, []⟩ else none
  | .str s => some ⟨charsOf s, []⟩
  | _ => none
noncomputable def enumFrom (k : Nat) : List V → List V
  | [] => []
  | v :: r => .tuple [.int k, v] :: enumFrom (k + 1) r
noncomputable def enumV : V → M Src
  | .ref a => (getList a).bind fun xs => M.pure ⟨enumFrom 0 xs, [(a, .list xs)]⟩
  | _ => stuck
/- sizes that the model lets grow -/
noncomputable def lim : Nat := 16777216
noncomputable def strM (s : List Nat) : M V := if s.length ≤ lim then M.pure (.str s) else stuck
noncomputable def allocL (xs : List V) : M V := if xs.length ≤ lim then alloc (.list xs) else stuck
noncomputable def tupL (xs : List V) : M V := if xs.length ≤ lim then M.pure (.tuple xs) else stuck

/- combinators: expressions -/
noncomputable def seqM {α : Type} : List (M α) → M (List α)
  | [] => M.pure []
  | m :: r => m.bind fun v => (seqM r).bind fun vs => M.pure (v :: vs)
noncomputable def appM (f : List V → M V) (args : List (M V)) : M V := (seqM args).bind f
noncomputable def constM (v : V) : M V := M.pure v
noncomputable def varM (i : Nat) : M V := getVar i
noncomputable def tupM (es : List (M V)) : M V := (seqM es).bind tupL
noncomputable def listM (es : List (M V)) : M V := (seqM es).bind allocL
noncomputable def evB (m : M V) : M Bool := m.bind asBool
noncomputable def boolV (m : M Bool) : M V := m.bind fun b => M.pure (.bool b)
noncomputable def andM : List (M Bool) → M Bool
  | [] => M.pure true
  | m :: r => m.bind fun b => if b then andM r else M.pure false
noncomputable def orM : List (M Bool) → M Bool
  | [] => M.pure false
  | m :: r => m.bind fun b => if b then M.pure true else orM r
noncomputable def notM (m : M Bool) : M Bool := m.bind fun b => M.pure !b
noncomputable def negM (m : M V) : M V := m.bind fun v => (asInt v).bind fun i => M.pure (.int (-i))
noncomputable def iteM {α : Type} (t : M Bool) (a b : M α) : M α := t.bind fun x => if x then a else b
noncomputable def asStr : V → M (List Nat)
  | .str s => M.pure s
  | _ => stuck
noncomputable def asRef : V → M Nat
  | .ref i => M.pure i
  | _ => stuck
noncomputable def addV (a b : V) : M V := match a with
  | .int i => (asInt b).bind fun j => M.pure (.int (i + j))
  | .str s => (asStr b).bind fun t => strM (s ++ t)
  | .ref r => (asRef b).bind fun q => (getList r).bind fun x => (getList q).bind fun y => allocL (x ++ y)
  | _ => stuck
noncomputable def int2 {α : Type} (f : Int → Int → M α) (a b : V) : M α := (asInt a).bind fun i => (asInt b).bind fun j => f i j
noncomputable def mulI (a b : Int) : M V := if a.natAbs.log2 + b.natAbs.log2 < 67108864 then M.pure (.int (a * b)) else stuck
noncomputable def modI (a b : Int) : M V := if b = 0 then stuck else M.pure (.int (Int.fmod a b))
noncomputable def divI (a b : Int) : M V := if b = 0 ∨ 1073741824 ≤ b.natAbs then stuck else M.pure (.int (Int.fdiv a b))
noncomputable def binV : Operator → V → V → M V
  | .Add => addV
  | .Mult => int2 mulI
  | .Sub => int2 fun a b => M.pure (.int (a - b))
  | .Mod => int2 modI
  | .FloorDiv => int2 divI
  | _ => fun _ _ => stuck
noncomputable def binM (op : Operator) (a b : M V) : M V := a.bind fun x => b.bind fun y => binV op x y
noncomputable def occ (x y : List Nat) (n : Nat) : List Nat := Builtin.Str.occurrences ⟨x.toArray⟩ ⟨y.toArray⟩ 0 x.length n
noncomputable def inV (a b : V) : M Bool := (asStr a).bind fun y => (asStr b).bind fun x => M.pure !(occ x y 1).isEmpty
noncomputable def isNoneM : V → M Bool
  | .none => M.pure true
  | .bool _ => M.pure false | .int _ => M.pure false | .str _ => M.pure false | .tuple _ => M.pure false | .ref _ => M.pure false
  | _ => stuck
noncomputable def isV (a : V) : V → M Bool
  | .none => isNoneM a
  | .bool c => (asBool a).bind fun b => M.pure (b == c)
  | _ => stuck
noncomputable def cmpV : CmpOp → V → V → M Bool
  | .Eq => pyEq
  | .NotEq => fun a b => (pyEq a b).bind fun x => M.pure !x
  | .Lt => int2 fun a b => M.pure (decide (a < b))
  | .LtE => int2 fun a b => M.pure (decide (a ≤ b))
  | .Gt => int2 fun a b => M.pure (decide (a > b))
  | .GtE => int2 fun a b => M.pure (decide (a ≥ b))
  | .In => inV
  | .NotIn => fun a b => (inV a b).bind fun x => M.pure !x
  | .Is => isV
  | .IsNot => fun a b => (isV a b).bind fun x => M.pure !x
noncomputable def chainM (x : V) : List (CmpOp × M V) → M Bool
  | [] => stuck
  | [(op, m)] => m.bind fun y => cmpV op x y
  | (op, m) :: r => m.bind fun y => (cmpV op x y).bind fun b => if b then chainM y r else M.pure false
noncomputable def cmpM (a : M V) (r : List (CmpOp × M V)) : M Bool := a.bind fun x => chainM x r
noncomputable def attrV (W : Wd) (x : Str) : V → M V
  | .ref a => (getOb a).bind fun o => match o with
    | .inst c d => if W.fld c x then (getOb d).bind fun n => (match n with
      | .ns fs => ofOpt (fs.lookup x)
      | _ => stuck) else stuck
    | _ => stuck
  | _ => stuck
noncomputable def attrM (W : Wd) (m : M V) (x : Str) : M V := m.bind (attrV W x)
noncomputable def subV : V → V → M V
  | .str s, .int i => ofOpt ((idxL s i).map fun c => .str [c])
  | .tuple vs, .int i => ofOpt (idxL vs i)
  | .flist vs, .int i => ofOpt (idxL vs i)
  | .ref a, k => (getOb a).bind fun o => match o with
    | .list xs => (asInt k).bind fun i => ofOpt (idxL xs i)
    | _ => stuck
  | _, _ => stuck
noncomputable def subM (m i : M V) : M V := m.bind fun v => i.bind fun k => subV v k
noncomputable def optI (m : Option (M V)) : M (Option Int) := match m with
  | none => M.pure none
  | some m => m.bind fun v => (asInt v).bind fun i => M.pure (some i)
noncomputable def sliceV (v : V) (lo hi : Option Int) : M V := match v with
  | .str s => if s.length ≤ lim then M.pure (.str (Txt.slice ⟨s.toArray⟩ lo hi).cps.toList) else stuck
  | .flist s => if s.length ≤ lim then alloc (.list (sliceL s lo hi)) else stuck
  | .ref a => (getList a).bind fun xs => if xs.length ≤ lim then alloc (.list (sliceL xs lo hi)) else stuck
  | _ => stuck
noncomputable def sliceM (m : M V) (lo hi : Option (M V)) : M V := m.bind fun v => (optI lo).bind fun l => (optI hi).bind fun h => sliceV v l h
/- built-in functions and methods -/
noncomputable def lenM (n : Nat) : M V := if n ≤ lim then M.pure (.int n) else stuck
noncomputable def fLen : List V → M V
  | [.str s] => lenM s.length
  | [.tuple s] => lenM s.length
  | [.flist s] => lenM s.length
  | [.ref a] => (getList a).bind fun xs => lenM xs.length
  | _ => stuck
noncomputable def nm (s : String) : Str := Str.ofString s
/- isinstance, of the built-in types -/
noncomputable def isiTypes : List String := ["int", "str", "bool", "list"]
noncomputable def isiK (k t : String) : Option Bool := if isiTypes.contains t then some (k == t || (k == "bool" && t == "int")) else none
noncomputable def kindV (obs : List Ob) : V → Option String
  | .bool _ => some "bool"
  | .int _ => some "int"
  | .str _ => some "str"
  | .ref a => match obs[a]? with
    | some (.list _) => some "list"
    | _ => none
  | _ => none
noncomputable def fIsinstance : List V → M V
  | [v, .type t] => withObs fun obs => (kindV obs v).bind fun k => (isiK k t).map .bool
  | _ => stuck
noncomputable def isiOwn (a : Nat) (c : Str) : M V := (getOb a).bind fun o => match o with
  | .inst c' d => (getOb d).bind fun n => (match n with
    | .ns _ => if c' = c then M.pure (.bool true) else stuck
    | _ => stuck)
  | _ => stuck
noncomputable def isi2 (v : V) : V → M V
  | .own c => (asRef v).bind fun a => isiOwn a c
  | w => fIsinstance [v, w]
noncomputable def fIsi : List V → M V
  | [v, w] => isi2 v w
  | _ => stuck
noncomputable def strI (i : Int) : List Nat := (Str.ofString (toString i)).cps.toList
noncomputable def fStr : List V → M V
  | [v] => (asInt v).bind fun i => if i.natAbs.log2 < 1920 then M.pure (.str (strI i)) else stuck
  | _ => stuck
noncomputable def intS (s : List Nat) : M V := if s.length ≤ 640 then (ofOpt (intText? ⟨s.toArray⟩)).bind fun n => M.pure (.int n) else stuck
noncomputable def int1 : V → M V
  | .bool b => M.pure (.int (if b then 1 else 0))
  | .str s => intS s
  | _ => stuck
noncomputable def fInt : List V → M V
  | [v] => int1 v
  | _ => stuck
noncomputable def fList : List V → M V
  | [.ref a] => (getList a).bind fun xs => allocL xs
  | [.tuple xs] => allocL xs
  | [.flist xs] => allocL xs
  | _ => stuck
noncomputable def fRange : List V → M V
  | [.int n] => if -1000000 ≤ n ∧ n ≤ 1000000 then M.pure (.range 0 n) else stuck
  | [.int a, .int b] => if (-1000000 ≤ a ∧ a ≤ 1000000) ∧ -1000000 ≤ b ∧ b ≤ 1000000 then M.pure (.range a b) else stuck
  | _ => stuck
noncomputable def bfun (x : Str) : Option (List V → M V) :=
  if x == nm "len" then some fLen else if x == nm "isinstance" then some fIsi else if x == nm "list" then some fList
  else if x == nm "range" then some fRange else if x == nm "str" then some fStr else if x == nm "int" then some fInt else none
noncomputable def mAppend : List V → M V
  | [.ref a, v] => (getList a).bind fun xs => if xs.length ≤ lim then (setOb a (.list (xs ++ [v]))).bind fun _ => M.pure .none else stuck
  | _ => stuck
noncomputable def mCount : List V → M V
  | [.str x, .str y] => M.pure (.int (occ x y (x.length + 1)).length)
  | _ => stuck
noncomputable def mkS (s : List Nat) : Str := ⟨s.toArray⟩
noncomputable def mJoin : List V → M V
  | [.str sep, .ref a] => (getList a).bind fun xs => (ofOpt (strsOf xs)).bind fun ws =>
    if JoinOk (mkS sep) (ws.map mkS) then M.pure (.str (Txt.join (mkS sep) (ws.map mkS)).cps.toList) else stuck
  | _ => stuck
noncomputable def strO (w : Str) : V := .str w.cps.toList
noncomputable def splitS (x y : List Nat) : M V := if 1 ≤ y.length ∧ x.length + 2 ≤ lim then alloc (.list ((Txt.split (mkS x) (mkS y)).map strO)) else stuck
noncomputable def mSplit : List V → M V
  | [v, w] => (asStr v).bind fun x => (asStr w).bind fun y => splitS x y
  | _ => stuck
noncomputable def mStarts : List V → M V
  | [v, w] => (asStr v).bind fun x => (asStr w).bind fun y => M.pure (.bool (Txt.startswith (mkS x) (mkS y)))
  | _ => stuck
/- which method is meant: by the thing that is asked -/
noncomputable def pickL (f : List V → M V) : V → M (List V → M V)
  | .ref a => (getList a).bind fun _ => M.pure f
  | _ => stuck
noncomputable def pickS (f : List V → M V) : V → M (List V → M V)
  | .str _ => M.pure f
  | _ => stuck
noncomputable def pickO (W : Wd) (x : Str) : V → M (List V → M V)
  | .ref a => (getOb a).bind fun o => match o with
    | .inst c d => (getOb d).bind fun n => (match n with
      | .ns fs => if (fs.lookup x).isNone && W.has c x then M.pure (W.cf (.meth c x)) else stuck
      | _ => stuck)
    | _ => stuck
  | _ => stuck
noncomputable def pickM (W : Wd) (x : Str) : V → M (List V → M V) :=
  if x == nm "append" then pickL mAppend else
  if x == nm "count" then pickS mCount else if x == nm "join" then pickS mJoin else if x == nm "split" then pickS mSplit else if x == nm "startswith" then pickS mStarts else pickO W x
noncomputable def newC (W : Wd) (c : Str) (vs : List V) : M V :=
  (alloc (.ns [])).bind fun d => match d with
    | .ref d => (alloc (.inst c d)).bind fun o => (W.cf (.meth c (nm "__init__")) (o :: vs)).bind fun r => (match r with
      | .none => M.pure o
      | _ => stuck)
    | _ => stuck

/- targets -/
inductive Tg where
  | var (i : Nat) | tup (is : List Nat)
noncomputable def setVars : List Nat → List V → M Unit
  | i :: is, v :: vs => (setVar i v).bind fun _ => setVars is vs
  | [], [] => M.pure ()
  | _, _ => stuck
noncomputable def asg : Tg → V → M Unit
  | .var i, v => setVar i v
  | .tup is, .tuple vs => setVars is vs
  | _, _ => stuck

/- comprehensions, statements -/
noncomputable def compItems (t : Tg) (cond : M Bool) (elt : M V) (c : List (Nat × Ob)) : List V → M (List V)
  | [] => (chkObs c).bind fun _ => M.pure []
  | x :: xs => (chkObs c).bind fun _ => (asg t x).bind fun _ => cond.bind fun b =>
    if b then elt.bind fun v => (compItems t cond elt c xs).bind fun vs => M.pure (v :: vs) else compItems t cond elt c xs
noncomputable def compM (base n : Nat) (src : M Src) (t : Tg) (cond : M Bool) (elt : M V) : M V :=
  src.bind fun s => if s.items.length ≤ lim then (innerM base n (compItems t cond elt s.chk s.items)).bind fun vs => alloc (.list vs) else stuck
noncomputable def seqS : List (M Flow) → M Flow
  | [] => M.pure .next
  | m :: r => m.bind fun f => match f with
    | .next => seqS r
    | .ret v => M.pure (.ret v)
noncomputable def forItems (t : Tg) (body : M Flow) (c : List (Nat × Ob)) : List V → M Flow
  | [] => (chkObs c).bind fun _ => M.pure .next
  | x :: xs => (chkObs c).bind fun _ => (asg t x).bind fun _ => body.bind fun f => match f with
    | .next => forItems t body c xs
    | .ret v => M.pure (.ret v)
noncomputable def forM (t : Tg) (src : M Src) (body : M Flow) : M Flow := src.bind fun s => forItems t body s.chk s.items
noncomputable def exprM (m : M V) : M Flow := m.bind fun _ => M.pure .next
noncomputable def retM (m : M V) : M Flow := m.bind fun v => M.pure (.ret v)
noncomputable def raiseM (_c : Str) : M Flow := stuck
noncomputable def assignM (t : Tg) (m : M V) : M Flow := m.bind fun v => (asg t v).bind fun _ => M.pure .next
noncomputable def setField (x : Str) (v : V) : List (Str × V) → List (Str × V)
  | [] => [(x, v)]
  | e :: r => if e.1 == x then (x, v) :: r else e :: setField x v r
noncomputable def setAttrV (W : Wd) (o : V) (x : Str) (v : V) : M Unit := match o with
  | .ref a => (getOb a).bind fun o => match o with
    | .inst c d => if W.fld c x then (getOb d).bind fun n => (match n with
      | .ns fs => if fs.length ≤ 100 then setOb d (.ns (setField x v fs)) else stuck
      | _ => stuck) else stuck
    | _ => stuck
  | _ => stuck
noncomputable def setAttrM (W : Wd) (o : M V) (x : Str) (m : M V) : M Flow := m.bind fun v => o.bind fun ov => (setAttrV W ov x v).bind fun _ => M.pure .next
noncomputable def runFn (np n : Nat) (body : M Flow) (args : List V) : M V := fun s =>
  if args.length = np then match body ⟨args.map some ++ List.replicate (n - np) none, s.obs⟩ with
    | .ok (.ret v) s' => .ok v { s with obs := s'.obs }
    | .ok .next s' => .ok .none { s with obs := s'.obs }
    | .exc c s' => .exc c { s with obs := s'.obs }
    | .stuck => .stuck
  else .stuck
end Mine
set_option autoImplicit false
namespace Mine
open PySem

/- what the text's globals are -/
structure GI where
  fns : List Str
  clss : List Str
  consts : List (Str × V)

noncomputable def typeNames : List (Str × String) := [(nm "int", "int"), (nm "str", "str"), (nm "bool", "bool"), (nm "list", "list"), (nm "tuple", "tuple"), (nm "dict", "dict")]
noncomputable def dGlob (G : GI) (x : Str) : Option V :=
  match G.consts.lookup x with
  | some v => some v
  | none => if G.clss.contains x then some (.own x) else if G.fns.contains x then none else (typeNames.lookup x).map .type
noncomputable def idxLast : List Str → Str → Option Nat
  | [], _ => none
  | y :: r, x => match idxLast r x with
    | some k => some (k + 1)
    | none => if y == x then some 0 else none
noncomputable def isGlob (sc : Scope) (x : Str) : Bool := sc.names.lookup x == some .globalImplicit
noncomputable def isVar (sc : Scope) (x : Str) : Bool := match sc.names.lookup x with
  | some .local => true | some .cell => true | some .free => true | _ => false
noncomputable def dConst : Const → Option V
  | .none => some .none
  | .bool b => some (.bool b)
  | .int i => some (.int i)
  | .str s => some (.str s.cps.toList)
  | _ => none
noncomputable def isBuiltin (G : GI) (sc : Scope) (x : Str) (n : String) : Bool := x == nm n && isGlob sc x && !G.fns.contains x && !G.clss.contains x && (G.consts.lookup x).isNone
noncomputable def nameIs : Expr → Option Str
  | .Name x _ => some x
  | _ => none
noncomputable def namesOfT : List Expr → Option (List Str)
  | [] => some []
  | .Name x _ :: r => (namesOfT r).map (x :: ·)
  | _ => none
noncomputable def tgNames : Expr → Option (List Str)
  | .Name x _ => some [x]
  | .Tuple es _ _ => namesOfT es
  | _ => none
noncomputable def idxAll (ns : List Str) : List Str → Option (List Nat)
  | [] => some []
  | x :: r => match idxLast ns x, idxAll ns r with
    | some k, some ks => some (k :: ks)
    | _, _ => none
noncomputable def dTg (sc : Scope) (ns : List Str) : Expr → Option Tg
  | .Name x _ => if isVar sc x then (idxLast ns x).map .var else none
  | .Tuple es _ _ => match namesOfT es with
    | some xs => if xs.all (isVar sc) then (idxAll ns xs).map .tup else none
    | none => none
  | _ => none
noncomputable def isTupT : Expr → Bool
  | .Tuple .. => true
  | _ => false
noncomputable def zipOps : List CmpOp → List (M V) → Option (List (CmpOp × M V))
  | [], [] => some []
  | o :: os, m :: ms => (zipOps os ms).map ((o, m) :: ·)
  | _, _ => none
/- a call of a global name -/
noncomputable def dCall (W : Wd) (G : GI) (sc : Scope) (x : Str) (args : List (M V)) : Option (M V) :=
  if isGlob sc x then
    if G.fns.contains x then some (appM (W.cf (.fn x)) args)
    else if G.clss.contains x then (if W.has x (nm "__init__") then some (appM (newC W x) args) else none)
    else if (G.consts.lookup x).isSome then none
    else (bfun x).map fun f => appM f args
  else none
noncomputable def supE : Expr → Bool
  | .Call (.Name _ _) [] [] _ => true
  | _ => false
noncomputable def methM (pick : V → M (List V → M V)) (o : M V) (args : List (M V)) : M V := o.bind fun v => (pick v).bind fun f => (seqM args).bind fun vs => f (v :: vs)
noncomputable def dMeth (W : Wd) (x : Str) (o : M V) (args : List (M V)) : Option (M V) := some (methM (pickM W x) o args)

noncomputable def isSetE : Expr → Bool
  | .Set .. => true
  | _ => false
/- a set display behind in: none here -/
noncomputable def lastMarks0 (_ : List CmpOp) (es : List Expr) : Bool := es.any isSetE
/- what an expression means: its value; as a test; as what a loop runs over -/
structure Dn where
  v : Option (M V)
  b : Option (M Bool)
  s : Option (M Src)
noncomputable def Dn.of (m : Option (M V)) : Dn := ⟨m, m.map evB, m.map fun m => m.bind toSrc⟩
noncomputable def Dn.test (b : Option (M Bool)) : Dn := ⟨b.map boolV, b, none⟩
noncomputable def allV : List Dn → Option (List (M V))
  | [] => some []
  | x :: r => match x.v, allV r with
    | some m, some l => some (m :: l)
    | _, _ => none
noncomputable def allB : List Dn → Option (List (M Bool))
  | [] => some []
  | x :: r => match x.b, allB r with
    | some m, some l => some (m :: l)
    | _, _ => none
noncomputable def optV : Option Dn → Option (Option (M V))
  | none => some none
  | some x => x.v.map some
noncomputable def dSlice : Expr → Bool
  | .Slice .. => true
  | _ => false

noncomputable def dSl (o : Option (M V)) (l h : Option Dn) (st : Option Expr) : Option (M V) := match o, st, optV l, optV h with
  | some m, none, some l, some h => some (sliceM m l h)
  | _, _, _, _ => none
noncomputable def dSu (o k : Option (M V)) : Option (M V) := match o, k with
  | some m, some k => some (subM m k)
  | _, _ => none
/- a comprehension's own block, seen from where it stands -/
noncomputable def compOk (sc : Scope) (ns : List Str) (cs : Scope) (xs : List Str) : Bool :=
  cs.kind == .function && decide (cs.names.map (·.1)).Nodup &&
  cs.names.all (fun p => (p.2 != .cell || xs.contains p.1) && !(p.1 == ("__debug__" : Str)) && (p.2 != .local || xs.contains p.1 || !ns.contains p.1) && (p.2 != .free || (sc.names.lookup p.1 == some .cell || sc.names.lookup p.1 == some .free))) &&
  xs.all fun x => cs.names.lookup x == some .local || cs.names.lookup x == some .cell

mutual
noncomputable def dn (W : Wd) (G : GI) (sc : Scope) (ns : List Str) : Expr → Dn
  | .Constant c _ _ => .of ((dConst c).map constM)
  | .Name x _ => .of (if isGlob sc x then (dGlob G x).map constM else if isVar sc x then (idxLast ns x).map varM else none)
  | .BoolOp .And es _ => ⟨if es.isEmpty then none else (allV (dns W G sc ns es)).map fun l => boolV (andM (l.map evB)), (allB (dns W G sc ns es)).map andM, none⟩
  | .BoolOp .Or es _ => ⟨if es.isEmpty then none else (allV (dns W G sc ns es)).map fun l => boolV (orM (l.map evB)), (allB (dns W G sc ns es)).map orM, none⟩
  | .BinOp l op r _ => .of (match (dn W G sc ns l).v, (dn W G sc ns r).v with
    | some a, some b => some (binM op a b)
    | _, _ => none)
  | .UnaryOp .Not x _ => ⟨(dn W G sc ns x).v.map fun m => boolV (notM (evB m)), (dn W G sc ns x).b.map notM, none⟩
  | .UnaryOp .USub x _ => .of ((dn W G sc ns x).v.map negM)
  | .IfExp t a b _ => ⟨match (dn W G sc ns t).b, (dn W G sc ns a).v, (dn W G sc ns b).v with
    | some t, some a, some b => some (iteM t a b)
    | _, _, _ => none, none, none⟩
  | .List es _ => .of (if es.length ≤ 64 then (allV (dns W G sc ns es)).map listM else none)
  | .Tuple es _ _ => .of (if es.length ≤ 64 then (allV (dns W G sc ns es)).map tupM else none)
  | .ListComp elt gens cs _ => .of (match gens with
    | [⟨t, it, ifs, 0⟩] => match tgNames t with
      | some xs => if !compOk sc ns cs xs || isSetE it || decide (1 < ifs.length) then none else match (if isTupT t then (dn W G sc ns it).s else (dn W G sc ns it).v.map fun m => m.bind toSrc), dTg cs (ns ++ xs) t, allB (dns W G cs (ns ++ xs) ifs), (dn W G cs (ns ++ xs) elt).v with
        | some s, some tg, some cond, some e => some (compM ns.length xs.length s tg (andM cond) e)
        | _, _, _, _ => none
      | none => none
    | _ => none)
  | .Compare l ops cs _ => match (dn W G sc ns l).v, allV (dns W G sc ns cs) with
    | some a, some bs => if lastMarks0 ops cs then .of none else match zipOps ops bs with
      | some (r :: rs) => .test (some (cmpM a (r :: rs)))
      | _ => .of none
    | _, _ => .of none
  | .Call (.Attribute o x ap) as ks p => .of (match (dn W G sc ns o).v, allV (dns W G sc ns as), ks with
    | some m, some l, [] => if (ap.endLine == p.line) && decide (as.length < 29) && !supE o then dMeth W x m l else none
    | _, _, _ => none)
  | .Call (.Name x _) as ks _ => match allV (dns W G sc ns as), ks with
    | some l, [] =>
      if isBuiltin G sc x "enumerate" then ⟨none, none, match l with | [m] => some (m.bind enumV) | _ => none⟩
      else .of (dCall W G sc x l)
    | _, _ => .of none
  | .Attribute o x _ => .of (if supE o then none else (dn W G sc ns o).v.map fun m => attrM W m x)
  | .Subscript o (.Slice l h st _) _ => .of (dSl (dn W G sc ns o).v (dnO W G sc ns l) (dnO W G sc ns h) st)
  | .Subscript o i _ => .of (dSu (dn W G sc ns o).v (dn W G sc ns i).v)
  | _ => .of none
noncomputable def dnO (W : Wd) (G : GI) (sc : Scope) (ns : List Str) : Option Expr → Option Dn
  | none => none
  | some e => some (dn W G sc ns e)
noncomputable def dns (W : Wd) (G : GI) (sc : Scope) (ns : List Str) : List Expr → List Dn
  | [] => []
  | e :: r => dn W G sc ns e :: dns W G sc ns r
end
noncomputable def dE (W : Wd) (G : GI) (sc : Scope) (ns : List Str) (e : Expr) : Option (M V) := (dn W G sc ns e).v
noncomputable def dB (W : Wd) (G : GI) (sc : Scope) (ns : List Str) (e : Expr) : Option (M Bool) := (dn W G sc ns e).b
noncomputable def dSrc (W : Wd) (G : GI) (sc : Scope) (ns : List Str) (tt : Bool) (e : Expr) : Option (M Src) := if tt then (dn W G sc ns e).s else (dn W G sc ns e).v.map fun m => m.bind toSrc

noncomputable def dAsg (W : Wd) (G : GI) (sc : Scope) (ns : List Str) (t e : Expr) (m : Option (M V)) : Option (M Flow) := m.bind fun m => match t with
  | .Attribute o x _ => (dE W G sc ns o).map fun o => setAttrM W o x m
  | .Name x p => (dTg sc ns (.Name x p)).map fun tg => assignM tg m
  | .Tuple ts k p => if isTupT e then none else (dTg sc ns (.Tuple ts k p)).map fun tg => assignM tg m
  | _ => none
noncomputable def callE : Expr → Bool
  | .Call .. => true
  | _ => false
noncomputable def raiseC : Option Expr → Option Str
  | some (.Call (.Name c _) _ [] _) => some c
  | _ => none
noncomputable def dRaise (G : GI) (sc : Scope) (e : Option Expr) : Option (M Flow) := match raiseC e with
  | some c => if isGlob sc c && G.clss.contains c then some (raiseM c) else none
  | none => none
noncomputable def one1 {α : Type} : List α → Option α
  | [t] => some t
  | _ => none
mutual
noncomputable def dS (W : Wd) (G : GI) (sc : Scope) (ns : List Str) : Stmt → Option (M Flow)
  | .Expr e _ => if callE e then (dE W G sc ns e).map exprM else none
  | .Pass _ => some (M.pure .next)
  | .Return e _ => e.bind fun e => (dE W G sc ns e).map retM
  | .Assign ts e _ => (one1 ts).bind fun t => dAsg W G sc ns t e (dE W G sc ns e)
  | .If t b o _ => (dB W G sc ns t).bind fun t => (dSs W G sc ns b).bind fun b => (dSs W G sc ns o).bind fun o => some (iteM t (seqS b) (seqS o))
  | .For t it b o _ => if o.isEmpty then (dTg sc ns t).bind fun tg => (dSrc W G sc ns (isTupT t) it).bind fun s => (dSs W G sc ns b).bind fun b => some (forM tg s (seqS b)) else none
  | .Raise e f _ => if f.isNone then dRaise G sc e else none
  | .Try b hs o f _ => if !hs.isEmpty && o.isEmpty && f.isEmpty then (dSs W G sc ns b).map seqS else none
  | _ => none
noncomputable def dSs (W : Wd) (G : GI) (sc : Scope) (ns : List Str) : List Stmt → Option (List (M Flow))
  | [] => some []
  | s :: r => (dS W G sc ns s).bind fun m => (dSs W G sc ns r).bind fun l => some (m :: l)
end

/- a def -/
noncomputable def slotsOf (sc : Scope) : List Str := (sc.names.filter fun p => p.2 == .local || p.2 == .cell).map (·.1)
structure FnD where
  key : FnKey
  params : List Str
  scope : Scope
  body : List Stmt
noncomputable def fnOfStmt (k : Str → FnKey) : Stmt → Option FnD
  | .FunctionDef name args body [] none [] scope none bind _ =>
    if bind == name && args.posonlyargs.isEmpty && args.vararg.isNone && args.kwonlyargs.isEmpty && args.kwarg.isNone && args.defaults.isEmpty then
      some ⟨k name, args.args.map (·.arg), scope, body⟩ else none
  | _ => none
noncomputable def fnsOf : List Stmt → List FnD
  | [] => []
  | .ClassDef name _ _ body _ _ _ _ _ _ _ :: r => body.filterMap (fnOfStmt (.meth name)) ++ fnsOf r
  | s :: r => (fnOfStmt .fn s).toList ++ fnsOf r
noncomputable def basesOf : List Stmt → List (Str × Str)
  | [] => []
  | .ClassDef name bs _ _ _ _ _ _ _ _ _ :: r => (name, match bs with | [.Name b _] => b | _ => nm "object") :: basesOf r
  | _ :: r => basesOf r
noncomputable def constsOf : List Stmt → List (Str × V)
  | [] => []
  | .Assign [.Name x _] (.Constant c _ _) _ :: r => (match dConst c with | some v => if x == nm "__name__" then [] else [(x, v)] | none => []) ++ constsOf r
  | _ :: r => constsOf r
noncomputable def giOf (p : List Stmt) : GI where
  fns := (fnsOf p).filterMap fun f => match f.key with | .fn x => some x | _ => none
  clss := (basesOf p).map (·.1)
  consts := constsOf p
noncomputable def subOf (bs : List (Str × Str)) : Nat → Str → Str → Bool
  | 0, _, _ => false
  | n + 1, c, d => c == d || match bs.lookup c with
    | some b => subOf bs n b d
    | none => false
noncomputable def FnKey.beq : FnKey → FnKey → Bool
  | .fn x, .fn y => x == y
  | .meth a b, .meth c d => a == c && b == d
  | _, _ => false
noncomputable def FnD.sem (W : Wd) (G : GI) (f : FnD) : List V → M V :=
  match dSs W G f.scope (slotsOf f.scope) f.body with
  | some l => runFn f.params.length (slotsOf f.scope).length (seqS l)
  | none => fun _ => stuck
/- the fields that a class's methods set -/
noncomputable def fieldsIn : List Stmt → List Str
  | [] => []
  | .Assign [.Attribute _ x _] _ _ :: r => x :: fieldsIn r
  | _ :: r => fieldsIn r
noncomputable def fldOf (p : List Stmt) (c x : Str) : Bool := (fnsOf p).any fun f => match f.key with
  | .meth c' _ => c' == c && (fieldsIn f.body).contains x
  | _ => false
noncomputable def hasOf (p : List Stmt) (c x : Str) : Bool := (fnsOf p).any fun f => f.key.beq (.meth c x)
noncomputable def wdOf (p : List Stmt) (cf : FnKey → List V → M V) : Wd := ⟨cf, subOf (basesOf p) 6, fldOf p, hasOf p⟩
noncomputable def cfOf (p : List Stmt) : Nat → FnKey → List V → M V
  | 0, _ => fun _ => stuck
  | d + 1, k => match (fnsOf p).find? (fun f => f.key.beq k) with
    | some f => f.sem (wdOf p (cfOf p d)) (giOf p)
    | none => fun _ => stuck
end Mine
set_option autoImplicit false
set_option linter.unusedVariables false
namespace Mine
open PySem
noncomputable def wpM {α : Type} (m : M α) (st : St) (Q : α → St → Prop) (X : Str → St → Prop) : Prop := match m st with
  | .ok a s => Q a s
  | .exc c s => X c s
  | .stuck => False

theorem wpM_bind {α β : Type} {m : M α} {f : α → M β} {st : St} {Q : β → St → Prop} {X : Str → St → Prop} :
    wpM (m.bind f) st Q X ↔ wpM m st (fun a s => wpM (f a) s Q X) X := by
  unfold wpM M.bind
  cases m st <;> rfl
theorem wpM_pure {α : Type} {a : α} {st : St} {Q : α → St → Prop} {X : Str → St → Prop} : wpM (M.pure a) st Q X ↔ Q a st := Iff.rfl
theorem wpM_stuck {α : Type} {st : St} {Q : α → St → Prop} {X : Str → St → Prop} : wpM (stuck : M α) st Q X ↔ False := Iff.rfl
theorem wpM_mono {α : Type} {m : M α} {st : St} {Q Q' : α → St → Prop} {X X' : Str → St → Prop} (h : wpM m st Q X) (hq : ∀ a s, Q a s → Q' a s) (hx : ∀ c s, X c s → X' c s) : wpM m st Q' X' := by
  unfold wpM at *
  cases hm : m st with
  | ok a s => rw [hm] at h; exact hq a s h
  | exc c s => rw [hm] at h; exact hx c s h
  | stuck => rw [hm] at h; exact h

section
variable {st : St} {X : Str → St → Prop}
theorem wpM_getVar {i : Nat} {Q : V → St → Prop} : wpM (getVar i) st Q X ↔ ∃ v, st.vars[i]? = some (some v) ∧ Q v st := by
  unfold wpM getVar
  cases h : st.vars[i]? with
  | none => simp
  | some o => cases o with
    | none => simp
    | some v => simp
theorem wpM_setVar {i : Nat} {v : V} {Q : Unit → St → Prop} : wpM (setVar i v) st Q X ↔ i < st.vars.length ∧ Q () { st with vars := st.vars.set i (some v) } := by
  unfold wpM setVar
  by_cases h : i < st.vars.length <;> simp [h]
theorem wpM_getOb {a : Nat} {Q : Ob → St → Prop} : wpM (getOb a) st Q X ↔ ∃ o, st.obs[a]? = some o ∧ Q o st := by
  unfold wpM getOb
  cases h : st.obs[a]? with
  | none => simp
  | some o => simp
theorem wpM_setOb {a : Nat} {o : Ob} {Q : Unit → St → Prop} : wpM (setOb a o) st Q X ↔ a < st.obs.length ∧ Q () { st with obs := st.obs.set a o } := by
  unfold wpM setOb
  by_cases h : a < st.obs.length <;> simp [h]
theorem wpM_alloc {o : Ob} {Q : V → St → Prop} : wpM (alloc o) st Q X ↔ Q (.ref st.obs.length) { st with obs := st.obs ++ [o] } := Iff.rfl
theorem wpM_innerM {α : Type} {b n : Nat} {m : M α} {Q : α → St → Prop} : wpM (innerM b n m) st Q X ↔ wpM m { st with vars := st.vars.take b ++ List.replicate n none } (fun a st' => Q a { st with obs := st'.obs }) (fun c st' => X c { st with obs := st'.obs }) := by
  unfold wpM innerM
  cases m { st with vars := st.vars.take b ++ List.replicate n none } <;> rfl
theorem wpM_withObs {α : Type} {f : List Ob → Option α} {Q : α → St → Prop} : wpM (withObs f) st Q X ↔ ∃ a, f st.obs = some a ∧ Q a st := by
  unfold wpM withObs
  cases h : f st.obs with
  | none => simp
  | some o => simp
theorem wpM_ofOpt {α : Type} {o : Option α} {Q : α → St → Prop} : wpM (ofOpt o) st Q X ↔ ∃ a, o = some a ∧ Q a st := by
  cases o with
  | none => simp [ofOpt, wpM_stuck]
  | some a => simp [ofOpt, wpM_pure]
theorem wpM_getList {a : Nat} {Q : List V → St → Prop} : wpM (getList a) st Q X ↔ ∃ xs, st.obs[a]? = some (.list xs) ∧ Q xs st := by
  unfold getList
  rw [wpM_bind, wpM_getOb]
  constructor
  · rintro ⟨o, h1, h2⟩
    cases o <;> first | exact ⟨_, h1, h2⟩ | exact h2.elim
  · rintro ⟨xs, h1, h2⟩
    exact ⟨_, h1, h2⟩
theorem wpM_asBool {v : V} {Q : Bool → St → Prop} : wpM (asBool v) st Q X ↔ ∃ b, v = .bool b ∧ Q b st := by
  cases v <;> simp [asBool, wpM_pure, wpM_stuck]
theorem wpM_asInt {v : V} {Q : Int → St → Prop} : wpM (asInt v) st Q X ↔ ∃ b, v = .int b ∧ Q b st := by
  cases v <;> simp [asInt, wpM_pure, wpM_stuck]
theorem wpM_asStr {v : V} {Q : List Nat → St → Prop} : wpM (asStr v) st Q X ↔ ∃ b, v = .str b ∧ Q b st := by
  cases v <;> simp [asStr, wpM_pure, wpM_stuck]
theorem wpM_asRef {v : V} {Q : Nat → St → Prop} : wpM (asRef v) st Q X ↔ ∃ b, v = .ref b ∧ Q b st := by
  cases v <;> simp [asRef, wpM_pure, wpM_stuck]
theorem wpM_int2 {α : Type} {f : Int → Int → M α} {a b : V} {Q : α → St → Prop} (h : wpM (int2 f a b) st Q X) : ∃ i j, a = .int i ∧ b = .int j ∧ wpM (f i j) st Q X := by
  obtain ⟨i, rfl, h1⟩ := wpM_asInt.mp (wpM_bind.mp h)
  obtain ⟨j, rfl, h2⟩ := wpM_asInt.mp (wpM_bind.mp h1)
  exact ⟨i, j, rfl, rfl, h2⟩
theorem wpM_ite {α : Type} {c : Prop} [Decidable c] {m n : M α} {Q : α → St → Prop} : wpM (if c then m else n) st Q X ↔ if c then wpM m st Q X else wpM n st Q X := by
  by_cases h : c <;> simp [h]
end

end Mine
set_option autoImplicit false
set_option linter.unusedVariables false
namespace Mine
open PySem PyProof.Rows

/- what is known of a run -/
structure Cx where
  prog : Program
  w : World
  base : Heap
  mg : Str → Option Value
  mb : Str → Option Value

mutual
noncomputable def VR (C : Cx) (h : Heap) (ρ : List Addr) : V → Value → Prop
  | .none, v => v = .none
  | .bool b, v => v = .bool b
  | .int i, v => ∃ t, v = .int i t
  | .str s, v => ∃ t, v = .str ⟨s.toArray⟩ t
  | .tuple vs, v => ∃ a items, v = .ref a ∧ IsTup h a items ∧ a ∉ ρ ∧ VRs C h ρ vs items.toList
  | .flist vs, v => ∃ a items, v = .ref a ∧ C.base.IsList a items ∧ VRs C h ρ vs items.toList
  | .range lo hi, v => ∃ a t u k, v = .ref a ∧ a ∉ ρ ∧ IsRange h a lo hi 1 t u k
  | .set _, _ => False
  | .exc _, _ => False
  | .ref i, v => ∃ a, v = .ref a ∧ ρ[i]? = some a
  | .own x, v => ∃ a, v = .ref a ∧ C.mg x = some (.ref a)
  | .type n, v => v = .type n
noncomputable def VRs (C : Cx) (h : Heap) (ρ : List Addr) : List V → List Value → Prop
  | [], l => l = []
  | v :: vs, l => ∃ x xs, l = x :: xs ∧ VR C h ρ v x ∧ VRs C h ρ vs xs
end

noncomputable def KeyR (C : Cx) (h : Heap) (ρ : List Addr) : List (V × V) → List DictEntry → Prop
  | [], l => l = []
  | e :: es, l => ∃ x xs, l = x :: xs ∧ VR C h ρ e.1 x.key ∧ VR C h ρ e.2 x.val ∧ KeyR C h ρ es xs
noncomputable def NsR (C : Cx) (h : Heap) (ρ : List Addr) : List (Str × V) → List DictEntry → Prop
  | [], l => l = []
  | e :: es, l => ∃ x xs t, l = x :: xs ∧ x.key = .str e.1 t ∧ VR C h ρ e.2 x.val ∧ NsR C h ρ es xs

noncomputable def OR (C : Cx) (h : Heap) (ρ : List Addr) : Ob → Addr → Prop
  | .list xs, a => ∃ items n, h.get? a = some { cls := .type "list", data := .seq items n } ∧ VRs C h ρ xs items.toList
  | .dict es, a => ∃ ents n, h.get? a = some { cls := .type "dict", data := .dict ents n } ∧ KeyR C h ρ es ents.toList
  | .inst c d, a => ∃ da k, ρ[d]? = some da ∧ C.mg c = some (.ref k) ∧ h.get? a = some { cls := .ref k, dict := some da }
  | .ns fs, a => ∃ ents n, h.get? a = some { cls := .type "dict", data := .dict ents n } ∧ NsR C h ρ fs ents.toList

structure Inv (C : Cx) (h : Heap) (ρ : List Addr) (obs : List Ob) : Prop where
  base : C.base.StaysIn h
  len : ρ.length = obs.length
  nodup : ρ.Nodup
  new : ∀ a : Addr, a ∈ ρ → C.base.get? a = none
  ob : ∀ (i : Nat) (o : Ob), obs[i]? = some o → ∃ a : Addr, ρ[i]? = some a ∧ OR C h ρ o a

/- things that stand for values -/
noncomputable def isVal (o : Obj) : Bool := match o.data with
  | .seq .. => o.cls == .type "tuple"
  | .fields _ => o.cls == .type "range"
  | _ => false

structure ExtV (C : Cx) (h : Heap) (ρ : List Addr) (h' : Heap) (ρ' : List Addr) : Prop where
  pre : ∃ t, ρ' = ρ ++ t
  val : ∀ (b : Addr) (o : Obj), h.get? b = some o → b ∉ ρ → isVal o = true → h'.get? b = some o ∧ b ∉ ρ'

theorem ExtV.trans {C : Cx} {h h' h'' : Heap} {ρ ρ' ρ'' : List Addr} (x : ExtV C h ρ h' ρ') (y : ExtV C h' ρ' h'' ρ'') : ExtV C h ρ h'' ρ'' :=
  ⟨by obtain ⟨t, rfl⟩ := x.pre; obtain ⟨u, rfl⟩ := y.pre; exact ⟨t ++ u, by rw [List.append_assoc]⟩, fun b o hb hn hv => let ⟨h1, h2⟩ := x.val b o hb hn hv; y.val b o h1 h2 hv⟩
theorem ExtV.at {C : Cx} {h h' : Heap} {ρ ρ' : List Addr} (e : ExtV C h ρ h' ρ') {i : Nat} {a : Addr} (hi : ρ[i]? = some a) : ρ'[i]? = some a := by
  obtain ⟨t, rfl⟩ := e.pre
  rw [List.getElem?_append_left (List.getElem?_eq_some_iff.mp hi).1]; exact hi

mutual
theorem VR.ext {C : Cx} {h h' : Heap} {ρ ρ' : List Addr} (e : ExtV C h ρ h' ρ') : ∀ {v : V} {x : Value}, VR C h ρ v x → VR C h' ρ' v x
  | .none, _, r => r
  | .bool _, _, r => r
  | .int _, _, r => r
  | .str _, _, r => r
  | .tuple vs, x, r => by
    simp only [VR] at r ⊢
    obtain ⟨a, items, rfl, ⟨o, ho, hc, n, hd⟩, hn, hr⟩ := r
    obtain ⟨h1, h2⟩ := e.val a o ho hn (by unfold isVal; rw [hd, hc]; rfl)
    exact ⟨a, items, rfl, ⟨o, h1, hc, n, hd⟩, h2, VRs.ext e hr⟩
  | .flist vs, x, r => by
    simp only [VR] at r ⊢
    obtain ⟨a, items, rfl, hl, hr⟩ := r
    exact ⟨a, items, rfl, hl, VRs.ext e hr⟩
  | .range lo hi, x, r => by
    simp only [VR] at r ⊢
    obtain ⟨a, t, u, k, rfl, hn, ho⟩ := r
    obtain ⟨h1, h2⟩ := e.val a _ ho hn rfl
    exact ⟨a, t, u, k, rfl, h2, h1⟩
  | .set _, _, r => by simp only [VR] at r
  | .exc _, _, r => by simp only [VR] at r
  | .ref i, x, r => by
    simp only [VR] at r ⊢
    obtain ⟨a, rfl, hi⟩ := r
    exact ⟨a, rfl, e.at hi⟩
  | .own _, _, r => by simp only [VR] at r ⊢; exact r
  | .type _, _, r => by simp only [VR] at r ⊢; exact r
theorem VRs.ext {C : Cx} {h h' : Heap} {ρ ρ' : List Addr} (e : ExtV C h ρ h' ρ') : ∀ {vs : List V} {xs : List Value}, VRs C h ρ vs xs → VRs C h' ρ' vs xs
  | [], _, r => by simp only [VRs] at r ⊢; exact r
  | v :: vs, l, r => by
    simp only [VRs] at r ⊢
    obtain ⟨x, xs, rfl, h1, h2⟩ := r
    exact ⟨x, xs, rfl, VR.ext e h1, VRs.ext e h2⟩
end
theorem KeyR.ext {C : Cx} {h h' : Heap} {ρ ρ' : List Addr} (e : ExtV C h ρ h' ρ') : ∀ {es : List (V × V)} {xs : List DictEntry}, KeyR C h ρ es xs → KeyR C h' ρ' es xs
  | [], _, r => r
  | _ :: _, _, ⟨x, xs, q, h1, h2, h3⟩ => ⟨x, xs, q, h1.ext e, h2.ext e, KeyR.ext e h3⟩
theorem NsR.ext {C : Cx} {h h' : Heap} {ρ ρ' : List Addr} (e : ExtV C h ρ h' ρ') : ∀ {es : List (Str × V)} {xs : List DictEntry}, NsR C h ρ es xs → NsR C h' ρ' es xs
  | [], _, r => r
  | _ :: _, _, ⟨x, xs, t, q, h1, h2, h3⟩ => ⟨x, xs, t, q, h1, h2.ext e, NsR.ext e h3⟩
theorem OR.ext {C : Cx} {h h' : Heap} {ρ ρ' : List Addr} (e : ExtV C h ρ h' ρ') {o : Ob} {a : Addr} (r : OR C h ρ o a) (ha : h'.get? a = h.get? a) : OR C h' ρ' o a := by
  cases o with
  | list xs => obtain ⟨items, n, h1, h2⟩ := r; exact ⟨items, n, ha.trans h1, h2.ext e⟩
  | dict es => obtain ⟨items, n, h1, h2⟩ := r; exact ⟨items, n, ha.trans h1, h2.ext e⟩
  | inst c d => obtain ⟨da, k, h1, h2, h3⟩ := r; exact ⟨da, k, e.at h1, h2, ha.trans h3⟩
  | ns fs => obtain ⟨items, n, h1, h2⟩ := r; exact ⟨items, n, ha.trans h1, h2.ext e⟩
theorem OR.there {C : Cx} {h : Heap} {ρ : List Addr} {o : Ob} {a : Addr} (r : OR C h ρ o a) : ∃ ob, h.get? a = some ob ∧ (isVal ob = false) := by
  cases o with
  | list xs => obtain ⟨items, n, h1, _⟩ := r; exact ⟨_, h1, rfl⟩
  | dict es => obtain ⟨items, n, h1, _⟩ := r; exact ⟨_, h1, rfl⟩
  | inst c d => obtain ⟨da, k, _, _, h3⟩ := r; exact ⟨_, h3, rfl⟩
  | ns fs => obtain ⟨items, n, h1, _⟩ := r; exact ⟨_, h1, rfl⟩
theorem Inv.mem {C : Cx} {h : Heap} {ρ : List Addr} {obs : List Ob} (I : Inv C h ρ obs) {a : Addr} (ha : a ∈ ρ) : ∃ o, h.get? a = some o := by
  obtain ⟨i, hi, rfl⟩ := List.getElem_of_mem ha
  have hl : i < obs.length := I.len ▸ hi
  obtain ⟨b, hb, r⟩ := I.ob i obs[i] (List.getElem?_eq_getElem hl)
  rw [List.getElem?_eq_getElem hi] at hb
  cases hb
  exact let ⟨o, h1, _⟩ := r.there; ⟨o, h1⟩
theorem Inv.ext {C : Cx} {h h' : Heap} {ρ : List Addr} {obs : List Ob} (I : Inv C h ρ obs) (hb : C.base.StaysIn h') (e : ExtV C h ρ h' ρ) (ha : ∀ a : Addr, a ∈ ρ → h'.get? a = h.get? a) : Inv C h' ρ obs :=
  ⟨hb, I.len, I.nodup, I.new, fun i o ho => let ⟨a, h1, h2⟩ := I.ob i o ho; ⟨a, h1, h2.ext e (ha a (List.mem_of_getElem? h1))⟩⟩

/- growth -/
noncomputable def Grows (h h' : Heap) : Prop := ∀ (b : Addr) (o : Obj), h.get? b = some o → h'.get? b = some o
theorem Grows.refl (h : Heap) : Grows h h := fun _ _ e => e
theorem Grows.trans {a b c : Heap} (x : Grows a b) (y : Grows b c) : Grows a c := fun i o e => y i o (x i o e)
theorem Grows.push (h : Heap) (o : Obj) : Grows h (h.push o) := fun _ _ e => Heap.get?_push_of_some _ e
theorem Grows.extBut {h h' : Heap} (x : Heap.ExtBut h.objs.size h h') : Grows h h' := fun b o e => x b o (Nat.ne_of_lt (Heap.lt_size e)) e
theorem Grows.extV {C : Cx} {h h' : Heap} (g : Grows h h') (ρ : List Addr) : ExtV C h ρ h' ρ := ⟨⟨[], by simp⟩, fun b o e hn _ => ⟨g b o e, hn⟩⟩
theorem Inv.grows {C : Cx} {h h' : Heap} {ρ : List Addr} {obs : List Ob} (I : Inv C h ρ obs) (g : Grows h h') : Inv C h' ρ obs :=
  I.ext (fun b o e => g b o (I.base b o e)) (g.extV ρ) fun a ha => by obtain ⟨o, ho⟩ := I.mem ha; rw [ho, g a o ho]
/- a thing that stands already is taken in -/
theorem ExtV.take {C : Cx} {h : Heap} {ρ : List Addr} {a : Addr} {ob : Obj} (ha : h.get? a = some ob) (hv : isVal ob = false) : ExtV C h ρ h (ρ ++ [a]) :=
  ⟨⟨[a], rfl⟩, fun b o hb hn hv' => ⟨hb, fun hm => by
    rcases List.mem_append.mp hm with q | q
    · exact hn q
    · cases List.mem_singleton.mp q
      rw [ha] at hb; cases hb; rw [hv] at hv'; cases hv'⟩⟩
theorem Inv.take {C : Cx} {h : Heap} {ρ : List Addr} {obs : List Ob} {a : Addr} {o : Ob} (I : Inv C h ρ obs) (hn : a ∉ ρ) (hb : C.base.get? a = none) (r : OR C h (ρ ++ [a]) o a) : Inv C h (ρ ++ [a]) (obs ++ [o]) := by
  obtain ⟨ob, h1, h2⟩ := r.there
  have e : ExtV C h ρ h (ρ ++ [a]) := .take h1 h2
  refine ⟨I.base, by simp [I.len], List.nodup_append.mpr ⟨I.nodup, by simp, fun x hx y hy => ?_⟩, fun b hb' => ?_, fun i o' ho => ?_⟩
  · cases List.mem_singleton.mp hy
    exact fun q => hn (q ▸ hx)
  · rcases List.mem_append.mp hb' with q | q
    · exact I.new b q
    · cases List.mem_singleton.mp q; exact hb
  · by_cases hi : i < obs.length
    · rw [List.getElem?_append_left hi] at ho
      obtain ⟨b, q1, q2⟩ := I.ob i o' ho
      exact ⟨b, e.at q1, q2.ext e rfl⟩
    · rw [List.getElem?_append_right (Nat.le_of_not_lt hi)] at ho
      have : i - obs.length = 0 := by
        cases hq : i - obs.length with
        | zero => rfl
        | succ k => rw [hq] at ho; simp at ho
      rw [this] at ho
      simp at ho
      subst ho
      have hi' : i = ρ.length := by rw [I.len]; omega
      exact ⟨a, by rw [hi']; simp, r⟩
/- a thing of the ledger is changed -/
theorem ExtV.put {C : Cx} {h h' : Heap} {ρ : List Addr} {a : Addr} (ha : a ∈ ρ) (hs : ∀ b o, b ≠ a → h.get? b = some o → h'.get? b = some o) : ExtV C h ρ h' ρ :=
  ⟨⟨[], by simp⟩, fun b o hb hn _ => ⟨hs b o (fun q => hn (q ▸ ha)) hb, hn⟩⟩
theorem Inv.put {C : Cx} {h h' : Heap} {ρ : List Addr} {obs : List Ob} {i : Nat} {a : Addr} {o : Ob} (I : Inv C h ρ obs) (hi : ρ[i]? = some a) (hs : ∀ b o, b ≠ a → h.get? b = some o → h'.get? b = some o) (r : OR C h' ρ o a) : Inv C h' ρ (obs.set i o) := by
  have ha : a ∈ ρ := List.mem_of_getElem? hi
  refine ⟨fun b o' hb => hs b o' (fun q => ?_) (I.base b o' hb), by simp [I.len], I.nodup, I.new, fun j o' ho => ?_⟩
  · have := I.new a ha; rw [← q, hb] at this; cases this
  · rw [List.getElem?_set] at ho
    split at ho
    · rename_i e
      split at ho
      · cases ho; subst e; exact ⟨a, hi, r⟩
      · cases ho
    · rename_i e
      obtain ⟨b, q1, q2⟩ := I.ob j o' ho
      have hne : b ≠ a := fun q => e ((List.getElem?_inj (List.getElem?_eq_some_iff.mp hi).1 I.nodup).mp (by rw [hi, q1, q]))
      obtain ⟨ob, q3, _⟩ := q2.there
      exact ⟨b, q1, q2.ext (.put ha hs) (by rw [q3]; exact hs b ob hne q3)⟩
end Mine
set_option autoImplicit false
set_option linter.unusedVariables false
namespace Mine
open PySem PyProof.Rows

/- frames -/
noncomputable def KeepO (o : Obj) (h' : Heap) (b : Addr) : Prop := h'.get? b = some o ∨ (o.cls = .type "frame" ∧ ∃ sl, h'.get? b = some { o with slots := sl })
theorem KeepO.data {o : Obj} {h' : Heap} {b : Addr} (k : KeepO o h' b) : ∃ o', h'.get? b = some o' ∧ o'.cls = o.cls ∧ o'.data = o.data ∧ o'.dict = o.dict := by
  rcases k with k | ⟨_, sl, k⟩
  · exact ⟨o, k, rfl, rfl, rfl⟩
  · exact ⟨_, k, rfl, rfl, rfl⟩
theorem KeepO.trans {o : Obj} {h h' : Heap} {b : Addr} (k : KeepO o h b) (k' : ∀ o', h.get? b = some o' → KeepO o' h' b) : KeepO o h' b := by
  rcases k with k | ⟨hc, sl, k⟩
  · exact k' o k
  · rcases k' _ k with q | ⟨_, sl', q⟩
    · exact .inr ⟨hc, sl, q⟩
    · exact .inr ⟨hc, sl', q⟩
theorem KeepO.val {o : Obj} {h' : Heap} {b : Addr} (k : KeepO o h' b) (hv : o.cls ≠ .type "frame") : h'.get? b = some o := by
  rcases k with k | ⟨hc, _⟩
  · exact k
  · exact absurd hc hv
theorem isVal_cls {o : Obj} (h : isVal o = true) : o.cls ≠ .type "frame" := by
  unfold isVal at h
  split at h
  · intro q; rw [q] at h; revert h; decide
  · intro q; rw [q] at h; revert h; decide
  · cases h
theorem isVal_dict {o : Obj} {es : Array DictEntry} {n : Nat} (h : o.data = .dict es n) : isVal o = false := by unfold isVal; rw [h]
theorem isVal_cell {o : Obj} {v : Option Value} (h : o.data = .cell v) : isVal o = false := by unfold isVal; rw [h]

structure Ext (S : Addr → Prop) (s : Shared) (ρ : List Addr) (s' : Shared) (ρ' : List Addr) : Prop where
  pre : ∃ t, ρ' = ρ ++ t
  fresh : ∀ a : Addr, a ∈ ρ' → a ∈ ρ ∨ s.heap.get? a = none
  keep : ∀ (b : Addr) (o : Obj), s.heap.get? b = some o → b ∉ ρ → ¬ S b → KeepO o s'.heap b
  alive : ∀ (b : Addr) (o : Obj), s.heap.get? b = some o → ∃ o', s'.heap.get? b = some o'
  gens : s'.gens = s.gens
  drawn : s'.drawn = s.drawn
  os : s'.os = s.os
noncomputable def Nil (_ : Addr) : Prop := False
noncomputable def Own (env : Env) (b : Addr) : Prop := b = env.locals ∨ ∃ x, env.kindOf x = some .cell ∧ env.cells.lookup x = some b

theorem Ext.refl (S : Addr → Prop) (s : Shared) (ρ : List Addr) : Ext S s ρ s ρ :=
  ⟨⟨[], by simp⟩, fun _ h => .inl h, fun _ _ h _ _ => .inl h, fun _ o h => ⟨o, h⟩, rfl, rfl, rfl⟩
theorem Ext.apart {S : Addr → Prop} {s s' : Shared} {ρ ρ' : List Addr} (x : Ext S s ρ s' ρ') {b : Addr} {o : Obj} (hb : s.heap.get? b = some o) (hn : b ∉ ρ) : b ∉ ρ' := fun hm => by
  rcases x.fresh b hm with q | q
  · exact hn q
  · rw [hb] at q; cases q
theorem Ext.was {S : Addr → Prop} {s s' : Shared} {ρ ρ' : List Addr} (x : Ext S s ρ s' ρ') {a : Addr} (h : s'.heap.get? a = none) : s.heap.get? a = none := by
  cases q : s.heap.get? a with
  | none => rfl
  | some o => obtain ⟨o', h'⟩ := x.alive a o q; rw [h] at h'; cases h'
theorem Ext.trans {S : Addr → Prop} {s s' s'' : Shared} {ρ ρ' ρ'' : List Addr} (x : Ext S s ρ s' ρ') (y : Ext S s' ρ' s'' ρ'') : Ext S s ρ s'' ρ'' :=
  ⟨by obtain ⟨t, rfl⟩ := x.pre; obtain ⟨u, rfl⟩ := y.pre; exact ⟨t ++ u, by rw [List.append_assoc]⟩,
   fun a ha => by
     rcases y.fresh a ha with q | q
     · exact x.fresh a q
     · exact .inr (x.was q),
   fun b o hb hn hS => (x.keep b o hb hn hS).trans fun o' ho' => y.keep b o' ho' (x.apart hb hn) hS,
   fun b o hb => let ⟨o', h'⟩ := x.alive b o hb; y.alive b o' h', y.gens.trans x.gens, y.drawn.trans x.drawn, y.os.trans x.os⟩
theorem Ext.mono {S T : Addr → Prop} {s s' : Shared} {ρ ρ' : List Addr} (x : Ext S s ρ s' ρ') (h : ∀ b, S b → T b) : Ext T s ρ s' ρ' :=
  ⟨x.pre, x.fresh, fun b o hb hn hT => x.keep b o hb hn fun q => hT (h b q), x.alive, x.gens, x.drawn, x.os⟩
theorem Ext.nil {T : Addr → Prop} {s s' : Shared} {ρ ρ' : List Addr} (x : Ext Nil s ρ s' ρ') : Ext T s ρ s' ρ' := x.mono fun _ q => q.elim
theorem Ext.extV {C : Cx} {S : Addr → Prop} {s s' : Shared} {ρ ρ' : List Addr} (x : Ext S s ρ s' ρ') (hS : ∀ b o, S b → s.heap.get? b = some o → isVal o = false) : ExtV C s.heap ρ s'.heap ρ' :=
  ⟨x.pre, fun b o hb hn hv => ⟨(x.keep b o hb hn fun q => by rw [hS b o q hb] at hv; cases hv).val (isVal_cls hv), x.apart hb hn⟩⟩
theorem Ext.extN {C : Cx} {s s' : Shared} {ρ ρ' : List Addr} (x : Ext Nil s ρ s' ρ') : ExtV C s.heap ρ s'.heap ρ' := x.extV fun _ _ q => q.elim
/- steps -/
theorem Ext.toks {S : Addr → Prop} {s : Shared} {ρ : List Addr} (t : Nat) : Ext S s ρ { s with toks := t } ρ := ⟨⟨[], by simp⟩, fun _ h => .inl h, fun _ _ h _ _ => .inl h, fun _ o h => ⟨o, h⟩, rfl, rfl, rfl⟩
theorem Ext.grows {S : Addr → Prop} {s : Shared} {ρ : List Addr} {h' : Heap} {t : Nat} (g : Grows s.heap h') : Ext S s ρ { s with heap := h', toks := t } ρ :=
  ⟨⟨[], by simp⟩, fun _ h => .inl h, fun b o h _ _ => .inl (g b o h), fun b o h => ⟨o, g b o h⟩, rfl, rfl, rfl⟩
theorem Ext.take {S : Addr → Prop} {s : Shared} {ρ : List Addr} {h' : Heap} {t : Nat} {a : Addr} (g : Grows s.heap h') (ha : s.heap.get? a = none) : Ext S s ρ { s with heap := h', toks := t } (ρ ++ [a]) :=
  ⟨⟨[a], rfl⟩, fun b hb => by
    rcases List.mem_append.mp hb with q | q
    · exact .inl q
    · cases List.mem_singleton.mp q; exact .inr ha, fun b o h _ _ => .inl (g b o h), fun b o h => ⟨o, g b o h⟩, rfl, rfl, rfl⟩
theorem Ext.put {S : Addr → Prop} {s : Shared} {ρ : List Addr} {h' : Heap} {t : Nat} {a : Addr} {o' : Obj} (ha : a ∈ ρ) (hs : ∀ b o, b ≠ a → s.heap.get? b = some o → h'.get? b = some o) (ho : h'.get? a = some o') : Ext S s ρ { s with heap := h', toks := t } ρ :=
  ⟨⟨[], by simp⟩, fun _ h => .inl h, fun b o h hn _ => .inl (hs b o (fun q => hn (q ▸ ha)) h), fun b o h => by
    by_cases q : b = a
    · subst q; exact ⟨o', ho⟩
    · exact ⟨o, hs b o q h⟩, rfl, rfl, rfl⟩

/- the frame at hand -/
noncomputable def Loads (h : Heap) (env : Env) (x : Str) (val : Value) : Prop :=
  (env.kindOf x = some .local ∧ ∃ m, h.Ns env.locals m ∧ m x = some val) ∨ (env.kindOf x = some .cell ∧ ∃ c, env.cells.lookup x = some c ∧ h.IsCell c (some val))
structure Frm (C : Cx) (h : Heap) (ρ : List Addr) (env : Env) (sc : Scope) (ns : List Str) (vars : List (Option V)) : Prop where
  len : vars.length = ns.length
  loc : ∃ m, h.Ns env.locals m
  locN : env.locals ∉ ρ
  locB : C.base.get? env.locals = none
  cell : ∀ x : Str, env.kindOf x = some .cell → ∃ c v₀, env.cells.lookup x = some c ∧ h.IsCell c v₀ ∧ c ∉ ρ ∧ C.base.get? c = none
  inj : ∀ (x y : Str) (c : Addr), env.kindOf x = some .cell → env.kindOf y = some .cell → env.cells.lookup x = some c → env.cells.lookup y = some c → x = y
  vals : ∀ (x : Str) (i : Nat) (v : V), isVar sc x = true → idxLast ns x = some i → vars[i]? = some (some v) → ∃ val, Loads h env x val ∧ VR C h ρ v val
structure EnvOk (env : Env) (sc : Scope) : Prop where
  kind : env.scope.kind = .function
  glob : env.globals = mainGlobals
  blt : env.builtins = builtinsNs
  gl : ∀ x : Str, isGlob sc x = true → env.kindOf x = some .globalImplicit
  lo : ∀ x : Str, sc.names.lookup x = some .local → env.kindOf x = some .local
  ce : ∀ x : Str, sc.names.lookup x = some .cell ∨ sc.names.lookup x = some .free → env.kindOf x = some .cell
  dbg : ∀ x : Str, isGlob sc x = true ∨ isVar sc x = true → (x == ("__debug__" : Str)) = false
theorem EnvOk.vr {env : Env} {sc : Scope} (h : EnvOk env sc) (x : Str) (hx : isVar sc x = true) : env.kindOf x = some .local ∨ env.kindOf x = some .cell := by
  unfold isVar at hx
  split at hx
  · rename_i e; exact .inl (h.lo x e)
  · rename_i e; exact .inr (h.ce x (.inl e))
  · rename_i e; exact .inr (h.ce x (.inr e))
  · cases hx
structure State (C : Cx) (env : Env) (sc : Scope) (ns : List Str) (s : Shared) (ρ : List Addr) (st : St) : Prop where
  inv : Inv C s.heap ρ st.obs
  frm : Frm C s.heap ρ env sc ns st.vars

theorem Frm.ext {C : Cx} {s s' : Shared} {ρ ρ' : List Addr} {env : Env} {sc : Scope} {ns : List Str} {vars : List (Option V)} (F : Frm C s.heap ρ env sc ns vars) (x : Ext Nil s ρ s' ρ') : Frm C s'.heap ρ' env sc ns vars := by
  obtain ⟨m, o, es, ep, ho, hd, hk⟩ := F.loc
  obtain ⟨o', ho', _, hd', _⟩ := (x.keep _ o ho F.locN id).data
  have cells : ∀ (c : Addr) (v : Option Value), s.heap.IsCell c v → c ∉ ρ → s'.heap.IsCell c v ∧ c ∉ ρ' := fun c v ⟨oc, hc, hcd⟩ hn =>
    let ⟨o₁, h1, _, h2, _⟩ := (x.keep c oc hc hn id).data; ⟨⟨o₁, h1, h2.trans hcd⟩, x.apart hc hn⟩
  refine ⟨F.len, ⟨m, o', es, ep, ho', hd'.trans hd, hk⟩, x.apart ho F.locN, F.locB, fun y hy => ?_, F.inj, fun y i v h1 h2 h3 => ?_⟩
  · obtain ⟨c, v₀, q1, q2, q3, q4⟩ := F.cell y hy
    exact ⟨c, v₀, q1, (cells c v₀ q2 q3).1, (cells c v₀ q2 q3).2, q4⟩
  · obtain ⟨val, hl, hv⟩ := F.vals y i v h1 h2 h3
    refine ⟨val, ?_, hv.ext x.extN⟩
    rcases hl with ⟨k, m₁, ⟨o₁, es₁, ep₁, ho₁, hd₁, hk₁⟩, hm⟩ | ⟨k, c, q1, q2⟩
    · rw [ho] at ho₁; cases ho₁
      exact .inl ⟨k, m₁, ⟨o', es₁, ep₁, ho', hd'.trans hd₁, hk₁⟩, hm⟩
    · obtain ⟨c', v₀, r1, _, r3, _⟩ := F.cell y k
      rw [q1] at r1; cases r1
      exact .inr ⟨k, c, q1, (cells c _ q2 r3).1⟩
theorem State.toks {C : Cx} {env : Env} {sc : Scope} {ns : List Str} {s : Shared} {ρ : List Addr} {st : St} (S : State C env sc ns s ρ st) (t : Nat) : State C env sc ns { s with toks := t } ρ st := ⟨S.inv, S.frm⟩
theorem State.grows {C : Cx} {env : Env} {sc : Scope} {ns : List Str} {s : Shared} {ρ : List Addr} {st : St} (S : State C env sc ns s ρ st) {h' : Heap} (g : Grows s.heap h') (t : Nat) : State C env sc ns { s with heap := h', toks := t } ρ st :=
  ⟨S.inv.grows g, S.frm.ext (Ext.grows (t := t) g)⟩
theorem Frm.vars {C : Cx} {h : Heap} {ρ : List Addr} {env : Env} {sc : Scope} {ns : List Str} {vars : List (Option V)} (F : Frm C h ρ env sc ns vars) : Frm C h ρ env sc ns vars := F

/- what is raised: none so far -/
noncomputable def Raised (_C : Cx) (_env : Env) (_s : Shared) (_ρ : List Addr) (_c : Str) (_st : St) (_x : Value) (_s' : Shared) (_ρ' : List Addr) : Prop := False
theorem Raised.trans {C : Cx} {S : Addr → Prop} {env : Env} {s s₁ s' : Shared} {ρ ρ₁ ρ' : List Addr} {c : Str} {st : St} {x : Value} (_e : Ext S s ρ s₁ ρ₁) (r : Raised C env s₁ ρ₁ c st x s' ρ') : Raised C env s ρ c st x s' ρ' := r

structure AOk (d : Nat) (A : Around) : Prop where
  depth : A.depth + 3 * d + 3 ≤ 990
  units : A.units + 100 * d + 200 ≤ 9900
  handled : A.handled = none
  guards : A.guards = some []

/- a term of the model does what m does, handing on what R says of the value -/
noncomputable def Snd {α β : Type} (C : Cx) (d : Nat) (env : Env) (sc : Scope) (ns : List Str) (R : Heap → List Addr → α → β → Prop) (S : Addr → Prop) (t : Sem β) (m : M α) : Prop :=
  ∀ (A : Around) (s : Shared) (ρ : List Addr) (st : St) (Q : β → Shared → Prop) (E : Value → Shared → Prop) (X : Str → St → Prop),
    AOk d A → State C env sc ns s ρ st →
    wpM m st (fun v st' => ∀ val s' ρ', R s'.heap ρ' v val → State C env sc ns s' ρ' st' → Ext S s ρ s' ρ' → Q val s') X →
    (∀ c st' x s' ρ', X c st' → Raised C env s ρ c st' x s' ρ' → E x s') →
    wpAny (model C.prog C.w) A t Q E s
noncomputable def Bl (_ : Heap) (_ : List Addr) (b b' : Bool) : Prop := b = b'
noncomputable def Un {α : Type} (_ : Heap) (_ : List Addr) (_ : α) (_ : Unit) : Prop := True
abbrev SndE (C : Cx) (d : Nat) (env : Env) (sc : Scope) (ns : List Str) (e : Expr) (m : M V) : Prop := Snd C d env sc ns (VR C) Nil (eval e env) m
abbrev SndB (C : Cx) (d : Nat) (env : Env) (sc : Scope) (ns : List Str) (e : Expr) (m : M Bool) : Prop := Snd C d env sc ns Bl Nil (isTrue e env (eval e env)) m

section
variable {C : Cx} {d : Nat} {env : Env} {sc : Scope} {ns : List Str}

theorem snd_const {c : Const} {k : Nat} {pos : Pos} {v : V} (h : dConst c = some v) : SndE C d env sc ns (.Constant c k pos) (constM v) := by
  intro A s ρ st Q E X hA hS hw _
  cases c with
  | none => cases h; exact wpAny_pure (hw _ _ _ rfl hS (.refl ..))
  | bool b => cases h; exact wpAny_pure (hw _ _ _ rfl hS (.refl ..))
  | int i => cases h; exact wpAny_Constant_int (hw _ _ _ ⟨_, rfl⟩ (hS.toks _) (.toks _))
  | str x => cases h; exact wpAny_Constant_str (hw _ _ _ ⟨_, rfl⟩ (hS.toks _) (.toks _))
  | _ => cases h

theorem snd_var {x : Str} {pos : Pos} {i : Nat} (hE : EnvOk env sc) (hx : isVar sc x = true) (hi : idxLast ns x = some i) : SndE C d env sc ns (.Name x pos) (varM i) := by
  intro A s ρ st Q E X hA hS hw _
  obtain ⟨v, hv, hw⟩ := wpM_getVar.mp hw
  obtain ⟨val, hl, hr⟩ := hS.frm.vals x i v hx hi hv
  refine wpAny_Name ?_ (hE.dbg x (.inr hx))
  rcases hl with ⟨k, m, hm, hmx⟩ | ⟨k, c, q1, q2⟩
  · exact wpAny_loadName_local hE.kind k hm hmx (hw _ _ _ hr hS (.refl ..))
  · exact wpAny_loadName_cell hE.kind k q1 q2 (hw _ _ _ hr hS (.refl ..))

/- an operation on values, at a state -/
noncomputable def At {α β : Type} (C : Cx) (d : Nat) (env : Env) (sc : Scope) (ns : List Str) (R : Heap → List Addr → α → β → Prop) (S : Addr → Prop) (t : Sem β) (m : M α) (s : Shared) (ρ : List Addr) (st : St) : Prop :=
  ∀ (A : Around) (Q : β → Shared → Prop) (E : Value → Shared → Prop) (X : Str → St → Prop), AOk d A → State C env sc ns s ρ st →
    wpM m st (fun v st' => ∀ val s' ρ', R s'.heap ρ' v val → State C env sc ns s' ρ' st' → Ext S s ρ s' ρ' → Q val s') X →
    (∀ c st' x s' ρ', X c st' → Raised C env s ρ c st' x s' ρ' → E x s') → wpAny (model C.prog C.w) A t Q E s

/- what is still to be shown of the rest -/
noncomputable def Rest {α β : Type} (C : Cx) (env : Env) (sc : Scope) (ns : List Str) (R : Heap → List Addr → α → β → Prop) (S : Addr → Prop) (Q : β → Shared → Prop) (E : Value → Shared → Prop) (X : Str → St → Prop) (m : M α) (s : Shared) (ρ : List Addr) (st : St) : Prop :=
  wpM m st (fun v st' => ∀ val s' ρ', R s'.heap ρ' v val → State C env sc ns s' ρ' st' → Ext S s ρ s' ρ' → Q val s') X ∧
  ∀ c st' x s' ρ', X c st' → Raised C env s ρ c st' x s' ρ' → E x s'
theorem At.of {α β : Type} {R : Heap → List Addr → α → β → Prop} {S : Addr → Prop} {t : Sem β} {m : M α} {s : Shared} {ρ : List Addr} {st : St}
    (h : ∀ (A : Around) (Q : β → Shared → Prop) (E : Value → Shared → Prop) (X : Str → St → Prop), AOk d A → State C env sc ns s ρ st → Rest C env sc ns R S Q E X m s ρ st → wpAny (model C.prog C.w) A t Q E s) :
    At C d env sc ns R S t m s ρ st := fun A Q E X hA hS hw hX => h A Q E X hA hS ⟨hw, hX⟩
theorem Snd.of {α β : Type} {R : Heap → List Addr → α → β → Prop} {S : Addr → Prop} {t : Sem β} {m : M α}
    (h : ∀ (A : Around) (s : Shared) (ρ : List Addr) (st : St) (Q : β → Shared → Prop) (E : Value → Shared → Prop) (X : Str → St → Prop), AOk d A → State C env sc ns s ρ st → Rest C env sc ns R S Q E X m s ρ st → wpAny (model C.prog C.w) A t Q E s) :
    Snd C d env sc ns R S t m := fun A s ρ st Q E X hA hS hw hX => h A s ρ st Q E X hA hS ⟨hw, hX⟩
theorem At.go {α β : Type} {R : Heap → List Addr → α → β → Prop} {S : Addr → Prop} {t : Sem β} {m : M α} {s : Shared} {ρ : List Addr} {st : St} {A : Around} {Q : β → Shared → Prop} {E : Value → Shared → Prop} {X : Str → St → Prop}
    (h : At C d env sc ns R S t m s ρ st) (hA : AOk d A) (hS : State C env sc ns s ρ st) (hr : Rest C env sc ns R S Q E X m s ρ st) : wpAny (model C.prog C.w) A t Q E s := h A Q E X hA hS hr.1 hr.2
theorem Snd.go {α β : Type} {R : Heap → List Addr → α → β → Prop} {S : Addr → Prop} {t : Sem β} {m : M α} {s : Shared} {ρ : List Addr} {st : St} {A : Around} {Q : β → Shared → Prop} {E : Value → Shared → Prop} {X : Str → St → Prop}
    (h : Snd C d env sc ns R S t m) (hA : AOk d A) (hS : State C env sc ns s ρ st) (hr : Rest C env sc ns R S Q E X m s ρ st) : wpAny (model C.prog C.w) A t Q E s := h A s ρ st Q E X hA hS hr.1 hr.2
/- the rest, seen from a later state -/
theorem Rest.mono {α β : Type} {R : Heap → List Addr → α → β → Prop} {S : Addr → Prop} {Q : β → Shared → Prop} {E : Value → Shared → Prop} {X : Str → St → Prop} {m : M α} {s s₁ : Shared} {ρ ρ₁ : List Addr} {st : St}
    (e : Ext S s ρ s₁ ρ₁) (h : wpM m st (fun v st' => ∀ val s' ρ', R s'.heap ρ' v val → State C env sc ns s' ρ' st' → Ext S s ρ s' ρ' → Q val s') X) (hX : ∀ c st' x s' ρ', X c st' → Raised C env s ρ c st' x s' ρ' → E x s') : Rest C env sc ns R S Q E X m s₁ ρ₁ st :=
  ⟨wpM_mono h (fun _ _ h val' s' ρ' r' S' e' => h val' s' ρ' r' S' (e.trans e')) fun _ _ h => h, fun c st' x s' ρ' hx r => hX c st' x s' ρ' hx (r.trans e)⟩
/- first m, then what is done with its value -/
theorem Snd.then {α β α' β' : Type} {R : Heap → List Addr → α → β → Prop} {R' : Heap → List Addr → α' → β' → Prop} {S : Addr → Prop} {t : Sem β} {m : M α} {g : α → M α'} {P : β → Shared → Prop}
    {A : Around} {s : Shared} {ρ : List Addr} {st : St} {Q : β' → Shared → Prop} {E : Value → Shared → Prop} {X : Str → St → Prop}
    (h1 : Snd C d env sc ns R Nil t m) (hA : AOk d A) (hS : State C env sc ns s ρ st) (hr : Rest C env sc ns R' S Q E X (m.bind g) s ρ st)
    (h2 : ∀ v val s₁ ρ₁ st₁, R s₁.heap ρ₁ v val → State C env sc ns s₁ ρ₁ st₁ → Ext Nil s ρ s₁ ρ₁ → Rest C env sc ns R' S Q E X (g v) s₁ ρ₁ st₁ → P val s₁) :
    wpAny (model C.prog C.w) A t P E s :=
  h1 A s ρ st _ E X hA hS (wpM_mono (wpM_bind.mp hr.1) (fun v st₁ hw₁ val s₁ ρ₁ r S₁ e₁ => h2 v val s₁ ρ₁ st₁ r S₁ e₁ (.mono e₁.nil hw₁ hr.2)) fun _ _ h => h) hr.2
theorem At.then {α β α' β' : Type} {R : Heap → List Addr → α → β → Prop} {R' : Heap → List Addr → α' → β' → Prop} {S : Addr → Prop} {t : Sem β} {m : M α} {g : α → M α'} {P : β → Shared → Prop}
    {A : Around} {s : Shared} {ρ : List Addr} {st : St} {Q : β' → Shared → Prop} {E : Value → Shared → Prop} {X : Str → St → Prop}
    (h1 : At C d env sc ns R Nil t m s ρ st) (hA : AOk d A) (hS : State C env sc ns s ρ st) (hr : Rest C env sc ns R' S Q E X (m.bind g) s ρ st)
    (h2 : ∀ v val s₁ ρ₁ st₁, R s₁.heap ρ₁ v val → State C env sc ns s₁ ρ₁ st₁ → Ext Nil s ρ s₁ ρ₁ → Rest C env sc ns R' S Q E X (g v) s₁ ρ₁ st₁ → P val s₁) :
    wpAny (model C.prog C.w) A t P E s :=
  h1 A _ E X hA hS (wpM_mono (wpM_bind.mp hr.1) (fun v st₁ hw₁ val s₁ ρ₁ r S₁ e₁ => h2 v val s₁ ρ₁ st₁ r S₁ e₁ (.mono e₁.nil hw₁ hr.2)) fun _ _ h => h) hr.2

theorem snd_bin {l r : Expr} {op : Operator} {pos : Pos} {a b : M V} (hl : SndE C d env sc ns l a) (hr : SndE C d env sc ns r b)
    (hop : ∀ x y vx vy s ρ st, VR C s.heap ρ x vx → VR C s.heap ρ y vy → At C d env sc ns (VR C) Nil (binaryOp op vx vy) (binV op x y) s ρ st) :
    SndE C d env sc ns (.BinOp l op r pos) (binM op a b) := .of fun A s ρ st Q E X hA hS hw => by
  refine wpAny_BinOp (hl.then hA hS hw fun x vx s₁ ρ₁ st₁ r₁ S₁ e₁ hw₁ => ?_)
  exact hr.then hA S₁ hw₁ fun y vy s₂ ρ₂ st₂ r₂ S₂ e₂ hw₂ => (hop x y vx vy s₂ ρ₂ st₂ (r₁.ext e₂.extN) r₂).go hA S₂ hw₂
theorem snd_ife {t x y : Expr} {pos : Pos} {mt : M Bool} {a b : M V} (ht : SndB C d env sc ns t mt) (hl : SndE C d env sc ns x a) (hr : SndE C d env sc ns y b) :
    SndE C d env sc ns (.IfExp t x y pos) (iteM mt a b) := .of fun A s ρ st Q E X hA hS hw => by
  refine wpAny_IfExp (ht.then hA hS hw fun v val s₁ ρ₁ st₁ r₁ S₁ e₁ hw₁ => ?_)
  cases r₁
  cases v
  · exact hr.go hA S₁ hw₁
  · exact hl.go hA S₁ hw₁
theorem sndB_not {x : Expr} {pos : Pos} {m : M Bool} (h : SndB C d env sc ns x m) : SndB C d env sc ns (.UnaryOp .Not x pos) (notM m) := .of fun A s ρ st Q E X hA hS hw =>
  wpAny_isTrue_Not (h.then hA hS hw fun v val s₁ ρ₁ st₁ r₁ S₁ e₁ hw₁ => by
    cases r₁; exact (wpM_pure.mp hw₁.1) _ _ _ rfl S₁ (.refl ..))
theorem sndB_value {e : Expr} {m : M V} (h : SndE C d env sc ns e m) (he : isTrue e env (eval e env) = (do let v ← eval e env; standAt e.pos; holding [v] (truthy v))) : SndB C d env sc ns e (evB m) := .of fun A s ρ st Q E X hA hS hw =>
  wpAny_isTrue_value (h.then hA hS hw fun v val s₁ ρ₁ st₁ r₁ S₁ e₁ hw₁ => by
    obtain ⟨b, rfl, hb⟩ := wpM_asBool.mp hw₁.1
    cases r₁
    exact wpAny_truthy_bool (hb _ _ _ rfl S₁ (.refl ..))) he
end
noncomputable def All2 {α β : Type} (P : α → β → Prop) : List α → List β → Prop
  | [], [] => True
  | a :: l, b :: r => P a b ∧ All2 P l r
  | _, _ => False
theorem All2.len {α β : Type} {P : α → β → Prop} : ∀ {l : List α} {r : List β}, All2 P l r → l.length = r.length
  | [], [], _ => rfl
  | _ :: _, _ :: _, h => congrArg (· + 1) (All2.len h.2)
  | [], _ :: _, h => h.elim
  | _ :: _, [], h => h.elim
section
variable {C : Cx} {d : Nat} {env : Env} {sc : Scope} {ns : List Str}
theorem snd_andB : ∀ {es : List Expr} {ms : List (M Bool)}, All2 (SndB C d env sc ns) es ms → Snd C d env sc ns Bl Nil (allTrue .And es env) (andM ms)
  | [], [], _ => .of fun A s ρ st Q E X hA hS hw => wpAny_allTrue_And_nil (hw.1 _ _ _ rfl hS (.refl ..))
  | e :: es, m :: ms, h => .of fun A s ρ st Q E X hA hS hw => by
    refine wpAny_allTrue_And_cons (h.1.then hA hS hw fun v val s₁ ρ₁ st₁ r₁ S₁ e₁ hw₁ => ?_)
    cases r₁
    cases v
    · exact hw₁.1 _ _ _ rfl S₁ (.refl ..)
    · exact (snd_andB h.2).go hA S₁ hw₁
  | [], _ :: _, h => h.elim
  | _ :: _, [], h => h.elim
theorem snd_orB : ∀ {es : List Expr} {ms : List (M Bool)}, All2 (SndB C d env sc ns) es ms → Snd C d env sc ns Bl Nil (allTrue .Or es env) (orM ms)
  | [], [], _ => .of fun A s ρ st Q E X hA hS hw => wpAny_allTrue_Or_nil (hw.1 _ _ _ rfl hS (.refl ..))
  | e :: es, m :: ms, h => .of fun A s ρ st Q E X hA hS hw => by
    refine wpAny_allTrue_Or_cons (h.1.then hA hS hw fun v val s₁ ρ₁ st₁ r₁ S₁ e₁ hw₁ => ?_)
    cases r₁
    cases v
    · exact (snd_orB h.2).go hA S₁ hw₁
    · exact hw₁.1 _ _ _ rfl S₁ (.refl ..)
  | [], _ :: _, h => h.elim
  | _ :: _, [], h => h.elim
theorem sndB_and {es : List Expr} {pos : Pos} {ms : List (M Bool)} (h : All2 (SndB C d env sc ns) es ms) : SndB C d env sc ns (.BoolOp .And es pos) (andM ms) := .of fun A s ρ st Q E X hA hS hw =>
  wpAny_isTrue_BoolOp ((snd_andB h).go hA hS hw)
theorem sndB_or {es : List Expr} {pos : Pos} {ms : List (M Bool)} (h : All2 (SndB C d env sc ns) es ms) : SndB C d env sc ns (.BoolOp .Or es pos) (orM ms) := .of fun A s ρ st Q E X hA hS hw =>
  wpAny_isTrue_BoolOp ((snd_orB h).go hA hS hw)

/- the value of an and, an or: bools -/
theorem snd_and : ∀ {es : List Expr} {pos : Pos} {ms : List (M V)}, es ≠ [] → All2 (SndE C d env sc ns) es ms → SndE C d env sc ns (.BoolOp .And es pos) (boolV (andM (ms.map evB)))
  | [], _, _, h, _ => absurd rfl h
  | [e], pos, [m], _, h => .of fun A s ρ st Q E X hA hS hw => by
    refine BoolOp_one (h.1.go hA hS ⟨?_, hw.2⟩)
    have h1 := hw.1
    simp only [boolV, andM, evB, List.map, wpM_bind] at h1
    refine wpM_mono h1 (fun v st₁ h2 val s' ρ' r S' e' => ?_) fun _ _ h => h
    obtain ⟨b, rfl, h3⟩ := wpM_asBool.mp h2
    cases b <;> simp only [Bool.false_eq_true, if_false, if_true, wpM_pure] at h3 <;> exact h3 val s' ρ' r S' e'
  | e :: e' :: es, pos, m :: m' :: ms, _, h => .of fun A s ρ st Q E X hA hS hw => by
    have hw' : Rest C env sc ns (VR C) Nil Q E X (m.bind fun v => (asBool v).bind fun b => (if b then andM ((m' :: ms).map evB) else M.pure false).bind fun b => M.pure (.bool b)) s ρ st := by
      refine ⟨?_, hw.2⟩
      have h1 := hw.1
      simp only [boolV, andM, evB, List.map_cons, wpM_bind] at h1 ⊢
      exact h1
    refine BoolOp_and (h.1.then hA hS hw' fun v val s₁ ρ₁ st₁ r₁ S₁ e₁ hw₁ => ?_)
    obtain ⟨b, rfl, h3⟩ := wpM_asBool.mp (wpM_bind.mp hw₁.1)
    cases r₁
    refine wpAny_truthy_bool ?_
    cases b
    · exact h3 _ _ _ rfl S₁ (.refl ..)
    · exact (snd_and (List.cons_ne_nil _ _) h.2).go hA S₁ ⟨h3, hw₁.2⟩
  | [_], _, [], _, h => h.elim
  | [_], _, _ :: _ :: _, _, h => h.2.elim
  | _ :: _ :: _, _, [], _, h => h.elim
  | _ :: _ :: _, _, [_], _, h => h.2.elim
theorem snd_or : ∀ {es : List Expr} {pos : Pos} {ms : List (M V)}, es ≠ [] → All2 (SndE C d env sc ns) es ms → SndE C d env sc ns (.BoolOp .Or es pos) (boolV (orM (ms.map evB)))
  | [], _, _, h, _ => absurd rfl h
  | [e], pos, [m], _, h => .of fun A s ρ st Q E X hA hS hw => by
    refine BoolOp_one (h.1.go hA hS ⟨?_, hw.2⟩)
    have h1 := hw.1
    simp only [boolV, orM, evB, List.map, wpM_bind] at h1
    refine wpM_mono h1 (fun v st₁ h2 val s' ρ' r S' e' => ?_) fun _ _ h => h
    obtain ⟨b, rfl, h3⟩ := wpM_asBool.mp h2
    cases b <;> simp only [Bool.false_eq_true, if_false, if_true, wpM_pure] at h3 <;> exact h3 val s' ρ' r S' e'
  | e :: e' :: es, pos, m :: m' :: ms, _, h => .of fun A s ρ st Q E X hA hS hw => by
    have hw' : Rest C env sc ns (VR C) Nil Q E X (m.bind fun v => (asBool v).bind fun b => (if b then M.pure true else orM ((m' :: ms).map evB)).bind fun b => M.pure (.bool b)) s ρ st := by
      refine ⟨?_, hw.2⟩
      have h1 := hw.1
      simp only [boolV, orM, evB, List.map_cons, wpM_bind] at h1 ⊢
      exact h1
    refine BoolOp_or (h.1.then hA hS hw' fun v val s₁ ρ₁ st₁ r₁ S₁ e₁ hw₁ => ?_)
    obtain ⟨b, rfl, h3⟩ := wpM_asBool.mp (wpM_bind.mp hw₁.1)
    cases r₁
    refine wpAny_truthy_bool ?_
    cases b
    · exact (snd_or (List.cons_ne_nil _ _) h.2).go hA S₁ ⟨h3, hw₁.2⟩
    · exact h3 _ _ _ rfl S₁ (.refl ..)
  | [_], _, [], _, h => h.elim
  | [_], _, _ :: _ :: _, _, h => h.2.elim
  | _ :: _ :: _, _, [], _, h => h.elim
  | _ :: _ :: _, _, [_], _, h => h.2.elim
theorem snd_not {x : Expr} {pos : Pos} {m : M V} (h : SndE C d env sc ns x m) : SndE C d env sc ns (.UnaryOp .Not x pos) (boolV (notM (evB m))) := .of fun A s ρ st Q E X hA hS hw => by
  have hw' : Rest C env sc ns (VR C) Nil Q E X (m.bind fun v => (asBool v).bind fun b => M.pure (.bool (!b))) s ρ st := by
    refine ⟨?_, hw.2⟩
    have h1 := hw.1
    simp only [boolV, notM, evB, wpM_bind] at h1 ⊢
    exact h1
  refine wpAny_UnaryOp (h.then hA hS hw' fun v val s₁ ρ₁ st₁ r₁ S₁ e₁ hw₁ => ?_)
  obtain ⟨b, rfl, h3⟩ := wpM_asBool.mp (wpM_bind.mp hw₁.1)
  cases r₁
  exact not_of (wpAny_truthy_bool (h3 _ _ _ rfl S₁ (.refl ..)))
theorem snd_neg {x : Expr} {pos : Pos} {m : M V} (h : SndE C d env sc ns x m) : SndE C d env sc ns (.UnaryOp .USub x pos) (negM m) := .of fun A s ρ st Q E X hA hS hw => by
  refine wpAny_UnaryOp (h.then hA hS hw fun v val s₁ ρ₁ st₁ r₁ S₁ e₁ hw₁ => ?_)
  obtain ⟨b, rfl, h3⟩ := wpM_asInt.mp (wpM_bind.mp hw₁.1)
  obtain ⟨t, rfl⟩ := r₁
  exact P.neg_int (h3 _ _ _ ⟨_, rfl⟩ (S₁.toks _) (.toks _))

/- comparisons -/
noncomputable def RB (_ : Heap) (_ : List Addr) (b : Bool) (val : Value) : Prop := val = .bool b
noncomputable def CmpSnd (C : Cx) (d : Nat) (env : Env) (sc : Scope) (ns : List Str) : Prop :=
  ∀ op x y vx vy s ρ st, VR C s.heap ρ x vx → VR C s.heap ρ y vy → At C d env sc ns RB Nil (compareOp op vx vy) (cmpV op x y) s ρ st
noncomputable def ChainR (C : Cx) (d : Nat) (env : Env) (sc : Scope) (ns : List Str) : List CmpOp → List Expr → List (CmpOp × M V) → Prop
  | [], [], [] => True
  | o :: os, e :: es, p :: r => o = p.1 ∧ SndE C d env sc ns e p.2 ∧ ChainR C d env sc ns os es r
  | _, _, _ => False
theorem snd_test (hc : CmpSnd C d env sc ns) {pos : Pos} : ∀ {ops : List CmpOp} {es : List Expr} {r : List (CmpOp × M V)} {x : V} {vx : Value} {s : Shared} {ρ : List Addr} {st : St}, r ≠ [] → ChainR C d env sc ns ops es r → VR C s.heap ρ x vx →
    At C d env sc ns Bl Nil (testChain pos vx ops (evalEach es env)) (chainM x r) s ρ st
  | _, _, [], _, _, _, _, _, h, _, _ => absurd rfl h
  | [o], [e], [(o', m)], x, vx, s, ρ, st, _, h, hr => .of fun A Q E X hA hS hw => by
    obtain ⟨rfl, h1, _⟩ := h
    refine test_last (h1.then hA hS hw fun y vy s₁ ρ₁ st₁ r₁ S₁ e₁ hw₁ => ?_)
    refine (hc o x y vx vy s₁ ρ₁ st₁ (hr.ext e₁.extN) r₁) A _ E X hA S₁ (wpM_mono hw₁.1 (fun b st' h val s' ρ' r' S' e' => ?_) fun _ _ h => h) hw₁.2
    cases r'
    exact wpAny_truthy_bool (h _ _ _ rfl S' e')
  | o :: o₂ :: os, e :: e₂ :: es, (o', m) :: p :: r, x, vx, s, ρ, st, _, h, hr => .of fun A Q E X hA hS hw => by
    obtain ⟨rfl, h1, h2⟩ := h
    refine test_link (h1.then hA hS hw fun y vy s₁ ρ₁ st₁ r₁ S₁ e₁ hw₁ => ?_)
    refine (hc o x y vx vy s₁ ρ₁ st₁ (hr.ext e₁.extN) r₁).then hA S₁ hw₁ fun b val s₂ ρ₂ st₂ r₂ S₂ e₂ hw₂ => ?_
    cases r₂
    refine wpAny_truthy_bool ?_
    cases b
    · exact hw₂.1 _ _ _ rfl S₂ (.refl ..)
    · exact (snd_test hc (List.cons_ne_nil _ _) h2 (r₁.ext e₂.extN)).go hA S₂ hw₂
  | [], [], _ :: _, _, _, _, _, _, _, h, _ => h.elim
  | [], _ :: _, _ :: _, _, _, _, _, _, _, h, _ => h.elim
  | _ :: _, [], _ :: _, _, _, _, _, _, _, h, _ => h.elim
  | [_], [_], _ :: _ :: _, _, _, _, _, _, _, h, _ => h.2.2.elim
  | [_], _ :: _ :: _, [_], _, _, _, _, _, _, h, _ => h.2.2.elim
  | [_], _ :: _ :: _, _ :: _ :: _, _, _, _, _, _, _, h, _ => h.2.2.elim
  | _ :: _ :: _, [_], [_], _, _, _, _, _, _, h, _ => h.2.2.elim
  | _ :: _ :: _, [_], _ :: _ :: _, _, _, _, _, _, _, h, _ => h.2.2.elim
  | _ :: _ :: _, _ :: _ :: _, [_], _, _, _, _, _, _, h, _ => h.2.2.elim
theorem snd_chain (hc : CmpSnd C d env sc ns) {pos : Pos} : ∀ {ops : List CmpOp} {es : List Expr} {r : List (CmpOp × M V)} {x : V} {vx : Value} {s : Shared} {ρ : List Addr} {st : St}, r ≠ [] → ChainR C d env sc ns ops es r → VR C s.heap ρ x vx →
    At C d env sc ns RB Nil (compareChain pos vx ops (evalEach es env)) (chainM x r) s ρ st
  | _, _, [], _, _, _, _, _, h, _, _ => absurd rfl h
  | [o], [e], [(o', m)], x, vx, s, ρ, st, _, h, hr => .of fun A Q E X hA hS hw => by
    obtain ⟨rfl, h1, _⟩ := h
    refine chain_last (h1.then hA hS hw fun y vy s₁ ρ₁ st₁ r₁ S₁ e₁ hw₁ => ?_)
    exact (hc o x y vx vy s₁ ρ₁ st₁ (hr.ext e₁.extN) r₁).go hA S₁ hw₁
  | o :: o₂ :: os, e :: e₂ :: es, (o', m) :: p :: r, x, vx, s, ρ, st, _, h, hr => .of fun A Q E X hA hS hw => by
    obtain ⟨rfl, h1, h2⟩ := h
    refine chain_link (h1.then hA hS hw fun y vy s₁ ρ₁ st₁ r₁ S₁ e₁ hw₁ => ?_)
    refine (hc o x y vx vy s₁ ρ₁ st₁ (hr.ext e₁.extN) r₁).then hA S₁ hw₁ fun b val s₂ ρ₂ st₂ r₂ S₂ e₂ hw₂ => ?_
    cases r₂
    refine wpAny_truthy_bool ?_
    cases b
    · exact hw₂.1 _ _ _ rfl S₂ (.refl ..)
    · exact (snd_chain hc (List.cons_ne_nil _ _) h2 (r₁.ext e₂.extN)).go hA S₂ hw₂
  | [], [], _ :: _, _, _, _, _, _, _, h, _ => h.elim
  | [], _ :: _, _ :: _, _, _, _, _, _, _, h, _ => h.elim
  | _ :: _, [], _ :: _, _, _, _, _, _, _, h, _ => h.elim
  | [_], [_], _ :: _ :: _, _, _, _, _, _, _, h, _ => h.2.2.elim
  | [_], _ :: _ :: _, [_], _, _, _, _, _, _, h, _ => h.2.2.elim
  | [_], _ :: _ :: _, _ :: _ :: _, _, _, _, _, _, _, h, _ => h.2.2.elim
  | _ :: _ :: _, [_], [_], _, _, _, _, _, _, h, _ => h.2.2.elim
  | _ :: _ :: _, [_], _ :: _ :: _, _, _, _, _, _, _, h, _ => h.2.2.elim
  | _ :: _ :: _, _ :: _ :: _, [_], _, _, _, _, _, _, h, _ => h.2.2.elim
theorem sndB_cmp (hc : CmpSnd C d env sc ns) {l : Expr} {ops : List CmpOp} {cs : List Expr} {pos : Pos} {a : M V} {r : List (CmpOp × M V)} (hl : SndE C d env sc ns l a) (hr : ChainR C d env sc ns ops cs r) (hn : r ≠ []) (hm : lastMarks ops cs = false) :
    SndB C d env sc ns (.Compare l ops cs pos) (cmpM a r) := .of fun A s ρ st Q E X hA hS hw => by
  rw [arm_isTrue_Compare, markedEach_of_false _ _ _ hm]
  exact wpAny_bind (hl.then hA hS hw fun x vx s₁ ρ₁ st₁ r₁ S₁ e₁ hw₁ => (snd_test hc hn hr r₁).go hA S₁ hw₁)
theorem snd_cmp (hc : CmpSnd C d env sc ns) {l : Expr} {ops : List CmpOp} {cs : List Expr} {pos : Pos} {a : M V} {r : List (CmpOp × M V)} (hl : SndE C d env sc ns l a) (hr : ChainR C d env sc ns ops cs r) (hn : r ≠ []) (hm : lastMarks ops cs = false) :
    SndE C d env sc ns (.Compare l ops cs pos) (boolV (cmpM a r)) := .of fun A s ρ st Q E X hA hS hw => by
  have hw' : Rest C env sc ns (VR C) Nil Q E X (a.bind fun x => (chainM x r).bind fun b => M.pure (.bool b)) s ρ st := by
    refine ⟨?_, hw.2⟩
    have h1 := hw.1
    simp only [boolV, cmpM, wpM_bind] at h1 ⊢
    exact h1
  show wpAny _ _ (do compareChain pos (← eval l env) ops (markedEach ops cs (evalEach cs env))) Q E s
  rw [markedEach_of_false _ _ _ hm]
  refine wpAny_bind (hl.then hA hS hw' fun x vx s₁ ρ₁ st₁ r₁ S₁ e₁ hw₁ => ?_)
  refine (snd_chain hc hn hr r₁).then hA S₁ hw₁ fun b val s₂ ρ₂ st₂ r₂ S₂ e₂ hw₂ => ?_
  cases r₂
  exact hw₂.1 _ _ _ rfl S₂ (.refl ..)
end
end Mine
set_option autoImplicit false
set_option linter.unusedVariables false
namespace Mine
open PySem PyProof.Rows

theorem idxLast_get : ∀ {ns : List Str} {x : Str} {i : Nat}, idxLast ns x = some i → ns[i]? = some x
  | [], _, _, h => by cases h
  | y :: r, x, i, h => by
    unfold idxLast at h
    cases q : idxLast r x with
    | some k => rw [q] at h; cases h; simpa using idxLast_get q
    | none =>
      rw [q] at h
      dsimp only at h
      split at h
      · rename_i e; cases h; simp [eq_of_beq e]
      · cases h

section
variable {C : Cx} {d : Nat} {env : Env} {sc : Scope} {ns : List Str}
theorem own_notVal {h : Heap} {ρ : List Addr} {vars : List (Option V)} (F : Frm C h ρ env sc ns vars) : ∀ b o, Own env b → h.get? b = some o → isVal o = false := by
  intro b o ho hb
  rcases ho with rfl | ⟨x, hk, hc⟩
  · obtain ⟨m, o', es, ep, ho', hd, _⟩ := F.loc
    rw [hb] at ho'; cases ho'; exact isVal_dict hd
  · obtain ⟨c, v₀, q1, ⟨o', q2, q3⟩, _⟩ := F.cell x hk
    rw [hc] at q1; cases q1; rw [hb] at q2; cases q2; exact isVal_cell q3

/- one thing that the frame owns is changed -/
/- what a name's store changes -/
noncomputable def OwnV (env : Env) (x : Str) (b : Addr) : Prop := (env.kindOf x = some .local ∧ b = env.locals) ∨ (env.kindOf x = some .cell ∧ env.cells.lookup x = some b)
theorem OwnV.own {env : Env} {x : Str} {b : Addr} (h : OwnV env x b) : Own env b := h.elim (fun q => .inl q.2) fun q => .inr ⟨x, q⟩
theorem State.own {S : Addr → Prop} {s : Shared} {ρ : List Addr} {st : St} (hS : State C env sc ns s ρ st) {a : Addr} {h' : Heap} {t : Nat} {o' : Obj} {vars' : List (Option V)} (hown : Own env a) (hSa : S a) (hs : Heap.SameBut a s.heap h') (ho : h'.get? a = some o')
    (hb : C.base.get? a = none) (hn : a ∉ ρ) (hlen : vars'.length = ns.length) (hloc : ∃ m, h'.Ns env.locals m)
    (hcell : ∀ x : Str, env.kindOf x = some .cell → ∃ c v₀, env.cells.lookup x = some c ∧ h'.IsCell c v₀)
    (hvals : ∀ (x : Str) (i : Nat) (v : V), isVar sc x = true → idxLast ns x = some i → vars'[i]? = some (some v) → ∃ val, Loads h' env x val ∧ VR C s.heap ρ v val) :
    State C env sc ns { s with heap := h', toks := t } ρ { st with vars := vars' } ∧ Ext S s ρ { s with heap := h', toks := t } ρ := by
  have keep : ∀ b o, b ≠ a → s.heap.get? b = some o → h'.get? b = some o := fun b o hne e => (hs.2 b hne).trans e
  have eV : ExtV C s.heap ρ h' ρ := ⟨⟨[], by simp⟩, fun b o hb' hn' hv => ⟨keep b o (fun q => by subst q; rw [own_notVal hS.frm _ _ hown hb'] at hv; cases hv) hb', hn'⟩⟩
  refine ⟨⟨hS.inv.ext (fun b o hbo => keep b o (fun q => by rw [q, hb] at hbo; cases hbo) (hS.inv.base b o hbo)) eV fun b hb' => hs.2 b fun q => hn (q ▸ hb'), ⟨hlen, hloc, hS.frm.locN, hS.frm.locB, fun x hx => ?_, hS.frm.inj, fun x i v h1 h2 h3 => ?_⟩⟩,
    ⟨⟨[], by simp⟩, fun _ h => .inl h, fun b o hb' hn' hS' => .inl (keep b o (fun q => hS' (q ▸ hSa)) hb'), fun b o hb' => ?_, rfl, rfl, rfl⟩⟩
  · obtain ⟨c, v₀, q1, q2⟩ := hcell x hx
    obtain ⟨c', _, r1, _, r3, r4⟩ := hS.frm.cell x hx
    rw [q1] at r1; cases r1
    exact ⟨c, v₀, q1, q2, r3, r4⟩
  · obtain ⟨val, q1, q2⟩ := hvals x i v h1 h2 h3
    exact ⟨val, q1, q2.ext eV⟩
  · by_cases q : b = a
    · subst q; exact ⟨o', ho⟩
    · exact ⟨o, keep b o q hb'⟩

theorem at_store {S : Addr → Prop} (hE : EnvOk env sc) {x : Str} {i : Nat} {v : V} {val : Value} {s : Shared} {ρ : List Addr} {st : St} (hx : isVar sc x = true) (hi : idxLast ns x = some i) (hr : VR C s.heap ρ v val) (hSx : ∀ b, OwnV env x b → S b) :
    At C d env sc ns Un S (storeName env x val) (setVar i v) s ρ st := .of fun A Q E X hA hS hw => by
  obtain ⟨hlt, hw1⟩ := wpM_setVar.mp hw.1
  have hne : ∀ {y : Str} {j : Nat}, idxLast ns y = some j → y ≠ x → j ≠ i := fun {y j} hj hy q => by
    subst q
    have h1 := idxLast_get hj
    rw [idxLast_get hi] at h1; cases h1; exact hy rfl
  have same : ∀ {y : Str} {j : Nat}, idxLast ns y = some j → y = x → j = i := fun {y j} hj hy => by subst hy; rw [hi] at hj; cases hj; rfl
  have hset : (st.vars.set i (some v))[i]? = some (some v) := by rw [List.getElem?_set]; simp [hlt]
  rcases hE.vr x hx with k | k
  · obtain ⟨m, hm⟩ := hS.frm.loc
    refine wpAny_storeName_local k hm (fun h' hn' hs => ?_) (by rw [hE.kind]; rfl)
    obtain ⟨o', _, _, ho', _⟩ := id hn'
    have h5 : ∀ y : Str, env.kindOf y = some .cell → ∃ c v₀, env.cells.lookup y = some c ∧ h'.IsCell c v₀ := fun y hy => by
      obtain ⟨c, v₀, q1, ⟨oc, q2, q3⟩, _⟩ := hS.frm.cell y hy
      have hcl : c ≠ env.locals := fun q => by
        subst q
        obtain ⟨ol, _, _, hol, hld, _⟩ := hm
        rw [q2] at hol; cases hol; rw [q3] at hld; cases hld
      exact ⟨c, v₀, q1, oc, (hs.2 c hcl).trans q2, q3⟩
    have h6 : ∀ (y : Str) (j : Nat) (w : V), isVar sc y = true → idxLast ns y = some j → (st.vars.set i (some v))[j]? = some (some w) → ∃ val, Loads h' env y val ∧ VR C s.heap ρ w val := fun y j w h1 h2 h3 => by
      by_cases hy : y = x
      · have := same h2 hy; subst this; subst hy
        rw [hset] at h3; cases h3
        exact ⟨val, .inl ⟨k, _, hn', by simp⟩, hr⟩
      · rw [List.getElem?_set_ne (Ne.symm (hne h2 hy))] at h3
        obtain ⟨val', hl, hv⟩ := hS.frm.vals y j w h1 h2 h3
        refine ⟨val', ?_, hv⟩
        rcases hl with ⟨k', m', hm', hmy⟩ | ⟨k', c, q1, oc, q2, q3⟩
        · have hmm : m y = m' y := by
            obtain ⟨o1, e1, _, ho1, hd1, _, hf1⟩ := hm
            obtain ⟨o2, e2, _, ho2, hd2, _, hf2⟩ := hm'
            rw [ho1] at ho2; cases ho2
            rw [hd1] at hd2; cases hd2
            rw [← hf1, ← hf2]
          exact .inl ⟨k', _, hn', by simp [hy, hmm, hmy]⟩
        · have hcl : c ≠ env.locals := fun q => by
            subst q
            obtain ⟨ol, _, _, hol, hld, _⟩ := hm
            rw [q2] at hol; cases hol; rw [q3] at hld; cases hld
          exact .inr ⟨k', c, q1, oc, (hs.2 c hcl).trans q2, q3⟩
    obtain ⟨S', e'⟩ := hS.own (t := s.toks + 1) (vars' := st.vars.set i (some v)) (.inl rfl) (hSx _ (.inl ⟨k, rfl⟩)) hs ho' hS.frm.locB hS.frm.locN (by simp [hS.frm.len]) ⟨_, hn'⟩ h5 h6
    exact hw1 _ _ _ trivial S' e'
  · obtain ⟨c, v₀, q1, hc, q3, q4⟩ := hS.frm.cell x k
    refine wpAny_storeName_cell hE.kind k q1 hc fun h' hc' hs => ?_
    obtain ⟨oc', hoc', hcd'⟩ := id hc'
    have hcl : env.locals ≠ c := fun q => by
      obtain ⟨m, ol, _, _, hol, hld, _⟩ := hS.frm.loc
      obtain ⟨oc, hoc, hcd⟩ := hc
      rw [q, hoc] at hol; cases hol; rw [hcd] at hld; cases hld
    have nsKeep : ∀ {m}, s.heap.Ns env.locals m → h'.Ns env.locals m := fun ⟨ol, es, ep, hol, r⟩ => ⟨ol, es, ep, (hs.2 _ hcl).trans hol, r⟩
    have h5 : ∀ y : Str, env.kindOf y = some .cell → ∃ c v₀, env.cells.lookup y = some c ∧ h'.IsCell c v₀ := fun y hy => by
      by_cases hy' : y = x
      · subst hy'; exact ⟨c, _, q1, hc'⟩
      · obtain ⟨c', v', r1, ⟨o1, r2, r3⟩, _⟩ := hS.frm.cell y hy
        exact ⟨c', v', r1, o1, (hs.2 c' fun q => hy' (hS.frm.inj y x c hy k (q ▸ r1) q1)).trans r2, r3⟩
    have h6 : ∀ (y : Str) (j : Nat) (w : V), isVar sc y = true → idxLast ns y = some j → (st.vars.set i (some v))[j]? = some (some w) → ∃ val, Loads h' env y val ∧ VR C s.heap ρ w val := fun y j w h1 h2 h3 => by
      by_cases hy : y = x
      · have := same h2 hy; subst this; subst hy
        rw [hset] at h3; cases h3
        exact ⟨val, .inr ⟨k, c, q1, hc'⟩, hr⟩
      · rw [List.getElem?_set_ne (Ne.symm (hne h2 hy))] at h3
        obtain ⟨val', hl, hv⟩ := hS.frm.vals y j w h1 h2 h3
        refine ⟨val', ?_, hv⟩
        rcases hl with ⟨k', m', hm', hmy⟩ | ⟨k', c', r1, o1, r2, r3⟩
        · exact .inl ⟨k', m', nsKeep hm', hmy⟩
        · exact .inr ⟨k', c', r1, o1, (hs.2 c' fun q => hy (hS.frm.inj y x c k' k (q ▸ r1) q1)).trans r2, r3⟩
    obtain ⟨S', e'⟩ := hS.own (t := s.toks) (vars' := st.vars.set i (some v)) (.inr ⟨x, k, q1⟩) (hSx _ (.inr ⟨k, q1⟩)) hs hoc' q4 q3 (by simp [hS.frm.len]) (hS.frm.loc.imp fun m hm => nsKeep hm) h5 h6
    exact hw1 _ _ _ trivial S' e'
end
noncomputable def FlR (C : Cx) (h : Heap) (ρ : List Addr) : Flow → PySem.Flow → Prop
  | .next, f => f = .next
  | .ret v, f => ∃ val, f = .ret val ∧ VR C h ρ v val
abbrev SndX (C : Cx) (d : Nat) (env : Env) (sc : Scope) (ns : List Str) (x : Stmt) (m : M Flow) : Prop := Snd C d env sc ns (FlR C) (Own env) (exec x env) m
abbrev SndXs (C : Cx) (d : Nat) (env : Env) (sc : Scope) (ns : List Str) (xs : List Stmt) (m : M Flow) : Prop := Snd C d env sc ns (FlR C) (Own env) (execs xs env) m

section
variable {C : Cx} {d : Nat} {env : Env} {sc : Scope} {ns : List Str}
/- one that may change the frame, then another -/
theorem Snd.thenS {α β α' β' : Type} {R : Heap → List Addr → α → β → Prop} {R' : Heap → List Addr → α' → β' → Prop} {S : Addr → Prop} {t : Sem β} {m : M α} {g : α → M α'} {P : β → Shared → Prop}
    {A : Around} {s : Shared} {ρ : List Addr} {st : St} {Q : β' → Shared → Prop} {E : Value → Shared → Prop} {X : Str → St → Prop}
    (h1 : Snd C d env sc ns R S t m) (hA : AOk d A) (hS : State C env sc ns s ρ st) (hr : Rest C env sc ns R' S Q E X (m.bind g) s ρ st)
    (h2 : ∀ v val s₁ ρ₁ st₁, R s₁.heap ρ₁ v val → State C env sc ns s₁ ρ₁ st₁ → Ext S s ρ s₁ ρ₁ → Rest C env sc ns R' S Q E X (g v) s₁ ρ₁ st₁ → P val s₁) :
    wpAny (model C.prog C.w) A t P E s :=
  h1 A s ρ st _ E X hA hS (wpM_mono (wpM_bind.mp hr.1) (fun v st₁ hw₁ val s₁ ρ₁ r S₁ e₁ => h2 v val s₁ ρ₁ st₁ r S₁ e₁ (.mono e₁ hw₁ hr.2)) fun _ _ h => h) hr.2
theorem At.thenS {α β α' β' : Type} {R : Heap → List Addr → α → β → Prop} {R' : Heap → List Addr → α' → β' → Prop} {S : Addr → Prop} {t : Sem β} {m : M α} {g : α → M α'} {P : β → Shared → Prop}
    {A : Around} {s : Shared} {ρ : List Addr} {st : St} {Q : β' → Shared → Prop} {E : Value → Shared → Prop} {X : Str → St → Prop}
    (h1 : At C d env sc ns R S t m s ρ st) (hA : AOk d A) (hS : State C env sc ns s ρ st) (hr : Rest C env sc ns R' S Q E X (m.bind g) s ρ st)
    (h2 : ∀ v val s₁ ρ₁ st₁, R s₁.heap ρ₁ v val → State C env sc ns s₁ ρ₁ st₁ → Ext S s ρ s₁ ρ₁ → Rest C env sc ns R' S Q E X (g v) s₁ ρ₁ st₁ → P val s₁) :
    wpAny (model C.prog C.w) A t P E s :=
  h1 A _ E X hA hS (wpM_mono (wpM_bind.mp hr.1) (fun v st₁ hw₁ val s₁ ρ₁ r S₁ e₁ => h2 v val s₁ ρ₁ st₁ r S₁ e₁ (.mono e₁ hw₁ hr.2)) fun _ _ h => h) hr.2

theorem snd_seq : ∀ {xs : List Stmt} {ms : List (M Flow)}, All2 (SndX C d env sc ns) xs ms → SndXs C d env sc ns xs (seqS ms)
  | [], [], _ => .of fun A s ρ st Q E X hA hS hw => wpAny_execs_nil (hw.1 _ _ _ rfl hS (.refl ..))
  | x :: xs, m :: ms, h => .of fun A s ρ st Q E X hA hS hw => by
    refine wpAny_execs_cons (h.1.thenS hA hS hw fun f fl s₁ ρ₁ st₁ r₁ S₁ e₁ hw₁ => ?_)
    cases f with
    | next => cases r₁; exact (snd_seq h.2).go hA S₁ hw₁
    | ret v => obtain ⟨val, rfl, hv⟩ := r₁; exact hw₁.1 _ _ _ ⟨val, rfl, hv⟩ S₁ (.refl ..)
  | [], _ :: _, h => h.elim
  | _ :: _, [], h => h.elim
theorem snd_if {t : Expr} {b o : List Stmt} {pos : Pos} {mt : M Bool} {mb mo : M Flow} (ht : SndB C d env sc ns t mt) (hb : SndXs C d env sc ns b mb) (ho : SndXs C d env sc ns o mo) :
    SndX C d env sc ns (.If t b o pos) (iteM mt mb mo) := .of fun A s ρ st Q E X hA hS hw => by
  refine wpAny_If (ht.then hA hS hw fun v val s₁ ρ₁ st₁ r₁ S₁ e₁ hw₁ => ?_)
  cases r₁
  cases v
  · exact ho.go hA S₁ hw₁
  · exact hb.go hA S₁ hw₁
theorem snd_return {e : Expr} {pos : Pos} {m : M V} (h : SndE C d env sc ns e m) : SndX C d env sc ns (.Return (some e) pos) (retM m) := .of fun A s ρ st Q E X hA hS hw =>
  wpAny_Return_some (h.then hA hS hw fun v val s₁ ρ₁ st₁ r₁ S₁ e₁ hw₁ => hw₁.1 _ _ _ ⟨val, rfl, r₁⟩ S₁ (.refl ..))
theorem snd_pass {pos : Pos} : SndX C d env sc ns (.Pass pos) (M.pure .next) := .of fun A s ρ st Q E X hA hS hw => wpAny_Pass (hw.1 _ _ _ rfl hS (.refl ..))
theorem snd_expr (hE : EnvOk env sc) {e : Expr} {pos : Pos} {m : M V} (h : SndE C d env sc ns e m) (hs : swapsWith e none pos.line env = pure false) : SndX C d env sc ns (.Expr e pos) (exprM m) := .of fun A s ρ st Q E X hA hS hw =>
  wpAny_Expr_any (h.then hA hS hw fun v val s₁ ρ₁ st₁ r₁ S₁ e₁ hw₁ => hw₁.1 _ _ _ rfl S₁ (.refl ..)) (by unfold interactive; rw [hE.kind]; rfl) hs
theorem snd_raise {e : Option Expr} {pos : Pos} {c : Str} : SndX C d env sc ns (.Raise e none pos) (raiseM c) := .of fun A s ρ st Q E X hA hS hw => hw.1.elim
theorem snd_assignName (hE : EnvOk env sc) {x : Str} {p pos : Pos} {e : Expr} {m : M V} {i : Nat} (h : SndE C d env sc ns e m) (hx : isVar sc x = true) (hi : idxLast ns x = some i)
    (hs : swapsWith e (some (.Name x p)) pos.line env = pure false) : SndX C d env sc ns (.Assign [.Name x p] e pos) (assignM (.var i) m) := .of fun A s ρ st Q E X hA hS hw =>
  wpAny_Assign_Name (h.then hA hS hw fun v val s₁ ρ₁ st₁ r₁ S₁ e₁ hw₁ =>
    (at_store hE hx hi r₁ fun _ q => q.own).thenS hA S₁ hw₁ fun _ _ s₂ ρ₂ st₂ _ S₂ e₂ hw₂ => hw₂.1 _ _ _ rfl S₂ (.refl ..)) hs

/- several names -/
noncomputable def TgR (sc : Scope) (ns : List Str) : List Expr → List Nat → Prop
  | [], [] => True
  | .Name x _ :: r, i :: is => isVar sc x = true ∧ idxLast ns x = some i ∧ TgR sc ns r is
  | _, _ => False
noncomputable def tnames : List Expr → List Str
  | [] => []
  | .Name x _ :: r => x :: tnames r
  | _ :: r => tnames r
theorem at_stores {S : Addr → Prop} (hE : EnvOk env sc) (hSO : ∀ b, S b → Own env b) {is : List Nat} : ∀ {es : List Expr} {vs : List V} {vals : List Value} {s : Shared} {ρ : List Addr} {st : St}, TgR sc ns es is → VRs C s.heap ρ vs vals → (∀ x b, isVar sc x = true → x ∈ tnames es → OwnV env x b → S b) →
    At C d env sc ns Un S (assignInOrder ((assignEach es env).map (·.2)) vals) (setVars is vs) s ρ st := by
  induction is with
  | nil =>
    intro es vs vals s ρ st ht hv hSx
    cases es with
    | cons e es => cases e <;> exact ht.elim
    | nil =>
      refine .of fun A Q E X hA hS hw => ?_
      cases vs with
      | cons _ _ => exact hw.1.elim
      | nil =>
        simp only [VRs] at hv; subst hv
        exact wpAny_assignInOrder_none (hw.1 _ _ _ trivial hS (.refl ..))
  | cons i is ih =>
    intro es vs vals s ρ st ht hv hSx
    cases es with
    | nil => exact ht.elim
    | cons e es =>
      refine .of fun A Q E X hA hS hw => ?_
      cases vs with
      | nil => exact hw.1.elim
      | cons v vs =>
        cases e <;> first | exact ht.elim | skip
        rename_i x p
        simp only [VRs] at hv
        obtain ⟨val, vals, rfl, hv1, hv2⟩ := hv
        obtain ⟨hx, hi, ht'⟩ := ht
        refine wpAny_assignInOrder_more ?_
        show wpAny _ _ (do standAt p; bindName env x val) _ _ _
        refine wpAny_bind (wpAny_standAt (wpAny_bindName ?_))
        refine (at_store hE hx hi hv1 fun b q => hSx x b hx (.head _) q).thenS hA hS hw fun _ _ s₁ ρ₁ st₁ _ S₁ e₁ hw₁ => ?_
        exact (ih ht' (hv2.ext (e₁.extV fun b o q => own_notVal hS.frm b o (hSO b q))) fun y b h1 h2 h3 => hSx y b h1 (.tail _ h2) h3).go hA S₁ hw₁
theorem TgR.len {es : List Expr} {is : List Nat} (h : TgR sc ns es is) : (assignEach es env).length = is.length ∧ (assignEach es env).findIdx? (·.1) = none := by
  induction es generalizing is with
  | nil => cases is with
    | nil => exact ⟨rfl, rfl⟩
    | cons _ _ => exact h.elim
  | cons e es ih =>
    cases e <;> cases is <;> first | exact h.elim | skip
    rename_i x p i is
    obtain ⟨_, _, h'⟩ := h
    obtain ⟨h1, h2⟩ := ih h'
    show ((false, assign (.Name x p) env) :: assignEach es env).length = _ ∧ ((false, assign (.Name x p) env) :: assignEach es env).findIdx? (·.1) = none
    refine ⟨by simp [h1], ?_⟩
    rw [List.findIdx?_cons, h2]; rfl
theorem VRs.len {h : Heap} {ρ : List Addr} : ∀ {vs : List V} {xs : List Value}, VRs C h ρ vs xs → vs.length = xs.length
  | [], _, r => by simp only [VRs] at r; subst r; rfl
  | _ :: _, _, r => by
    simp only [VRs] at r
    obtain ⟨x, xs, rfl, _, h2⟩ := r
    simp [VRs.len h2]
theorem wpM_setVars_len {is : List Nat} {vs : List V} {st : St} {Q : Unit → St → Prop} {X : Str → St → Prop} (h : wpM (setVars is vs) st Q X) : is.length = vs.length := by
  induction is generalizing vs st with
  | nil => cases vs with
    | nil => rfl
    | cons _ _ => exact h.elim
  | cons i is ih => cases vs with
    | nil => exact h.elim
    | cons v vs =>
      obtain ⟨_, h2⟩ := wpM_setVar.mp (wpM_bind.mp h)
      simp [ih h2]
/- a target takes a value -/
noncomputable def TgtR (sc : Scope) (ns : List Str) : Expr → Tg → Prop
  | .Name x _, .var i => isVar sc x = true ∧ idxLast ns x = some i
  | .Tuple es _ _, .tup is => TgR sc ns es is
  | _, _ => False
noncomputable def tname : Expr → List Str
  | .Name x _ => [x]
  | .Tuple es _ _ => tnames es
  | _ => []
theorem at_asg {S : Addr → Prop} (hE : EnvOk env sc) (hSO : ∀ b, S b → Own env b) {t : Expr} {tg : Tg} {v : V} {val : Value} {s : Shared} {ρ : List Addr} {st : St} (ht : TgtR sc ns t tg) (hv : VR C s.heap ρ v val) (hSx : ∀ x b, isVar sc x = true → x ∈ tname t → OwnV env x b → S b) :
    At C d env sc ns Un S (assign t env val) (asg tg v) s ρ st := .of fun A Q E X hA hS hw => by
  cases t <;> cases tg <;> first | exact ht.elim | skip
  · rename_i x p i
    show wpAny _ _ (do standAt p; bindName env x val) _ _ _
    exact wpAny_bind (wpAny_standAt (wpAny_bindName ((at_store hE ht.1 ht.2 hv fun b q => hSx x b ht.1 (.head _) q).go hA hS hw)))
  · rename_i es k p is
    cases v <;> first | exact hw.1.elim | skip
    rename_i vs
    simp only [VR] at hv
    obtain ⟨a, items, rfl, ht', hn, hr⟩ := hv
    have hlen := wpM_setVars_len (show wpM (setVars is vs) st _ _ from hw.1)
    refine wpAny_assign_Tuple hA.handled ht' ?_ ht.len.2 fun h' hx => ?_
    · rw [ht.len.1, hlen, hr.len]; simp
    · have g := Grows.extBut hx
      exact (at_stores hE hSO ht (hr.ext (g.extV ρ)) fun y b h1 h2 h3 => hSx y b h1 h2 h3).go hA (hS.grows g s.toks) (.mono (Ext.grows g) hw.1 hw.2)
end
end Mine
set_option autoImplicit false
set_option linter.unusedVariables false
namespace Mine
open PySem PyProof.Rows

theorem lookup_zip_some : ∀ {ns : List Str} {vs : List Value} {i : Nat} {x : Str} {v : Value}, ns.Nodup → ns[i]? = some x → vs[i]? = some v → (ns.zip vs).lookup x = some v
  | [], _, _, _, _, _, h, _ => by simp at h
  | _ :: _, [], _, _, _, _, _, h => by simp at h
  | n :: ns, w :: vs, 0, x, v, hn, h1, h2 => by
    simp at h1 h2; subst h1; subst h2
    simp
  | n :: ns, w :: vs, i + 1, x, v, hn, h1, h2 => by
    have hn' := List.nodup_cons.mp hn
    simp at h1 h2
    have hne : (x == n) = false := by
      cases q : x == n with
      | false => rfl
      | true => exact absurd (List.mem_of_getElem? h1) (by rw [eq_of_beq q]; exact hn'.1)
    rw [List.zip_cons_cons, List.lookup_cons, hne]
    exact lookup_zip_some hn'.2 h1 h2
theorem filterMap_zip {ns : List Str} {vs : List Value} (hn : ns.Nodup) (hl : vs.length = ns.length) : (ns.filterMap fun n => ((ns.zip vs).lookup n).map (n, ·)) = ns.zip vs := by
  have key : ∀ (k : Nat) (l : List Str), l = ns.drop k → (l.filterMap fun n => ((ns.zip vs).lookup n).map (n, ·)) = (ns.zip vs).drop k := by
    intro k l
    induction l generalizing k with
    | nil =>
      intro h
      have : ns.length ≤ k := by
        have := congrArg List.length h
        simp at this; omega
      rw [List.filterMap_nil, List.drop_eq_nil_of_le (by simp; omega)]
    | cons x l ih =>
      intro h
      have hk : k < ns.length := by
        have := congrArg List.length h
        simp at this; omega
      have hd := List.drop_eq_getElem_cons hk
      rw [hd] at h
      injection h with h1 h2
      have hv : k < vs.length := by omega
      have := lookup_zip_some hn (i := k) (x := x) (v := vs[k]) (by rw [List.getElem?_eq_getElem hk, h1]) (List.getElem?_eq_getElem hv)
      rw [List.filterMap_cons, this]
      rw [List.drop_eq_getElem_cons (l := ns.zip vs) (by simp; omega)]
      simp only [Option.map_some, List.getElem_zip, h1]
      rw [ih (k + 1) h2]
  simpa using key 0 ns rfl
theorem sem_pb {α β : Type} {a : α} {f : α → Sem β} : ((pure a : Sem α) >>= f) = f a := rfl
theorem seqItems_none : seqItems? Value.none = pure none := rfl
theorem bindArgs_plain {fd : FuncData} {ps : List Arg} {vals : List Value} (hp : fd.params = ⟨[], ps, none, [], [], none, []⟩) (hd : fd.defaults = .none) (hn : (ps.map (·.arg)).Nodup) (hl : vals.length = ps.length) :
    bindArgs fd ⟨vals, []⟩ = pure ((ps.map (·.arg)).zip vals) := by
  have hl' : vals.length = (ps.map (·.arg)).length := by simp [hl]
  have hmiss : ((ps.map (·.arg)).take (ps.map (·.arg)).length).filter (fun n => (((ps.map (·.arg)).zip vals).lookup n).isNone) = [] := by
    rw [List.take_length, List.filter_eq_nil_iff]
    intro x hx
    obtain ⟨i, hi, rfl⟩ := List.getElem_of_mem hx
    rw [lookup_zip_some hn (i := i) (v := vals[i]'(by omega)) (List.getElem?_eq_getElem hi) (List.getElem?_eq_getElem (by omega))]
    simp
  have hgt : (decide (vals.length > (ps.map (·.arg)).length)) = false := decide_eq_false (by omega)
  unfold bindArgs
  simp only [hp, hd]
  simp only [List.map_nil, List.nil_append, List.append_nil, List.forIn_nil, sem_pb, seqItems_none, Option.getD_none, List.length_nil, Nat.sub_zero, Nat.zero_sub, List.drop_nil, hgt, Bool.false_and, Bool.false_eq_true, if_false, hmiss,
    List.isEmpty_nil, Bool.not_true, List.zip_nil_right, filterMap_zip hn hl']

theorem wpM_runFn {np n : Nat} {body : M Flow} {args : List V} {st : St} {Q : V → St → Prop} {X : Str → St → Prop} : wpM (runFn np n body args) st Q X ↔
    args.length = np ∧ wpM body ⟨args.map some ++ List.replicate (n - np) none, st.obs⟩ (fun fl st' => Q (match fl with | .ret v => v | .next => .none) { st with obs := st'.obs }) (fun c st' => X c { st with obs := st'.obs }) := by
  unfold wpM runFn
  by_cases h : args.length = np
  · simp only [h, if_true, true_and]
    cases body ⟨args.map some ++ List.replicate (n - np) none, st.obs⟩ with
    | ok fl st' => cases fl <;> rfl
    | exc c st' => rfl
    | stuck => rfl
  · simp [h]

structure FnGood (f : FnD) : Prop where
  kind : f.scope.kind = .function
  gen : f.scope.isGenerator = false
  co : f.scope.isCoroutine = false
  nodup : (f.scope.names.map (·.1)).Nodup
  nofree : ∀ p ∈ f.scope.names, p.2 ≠ .free
  pre : f.params <+: slotsOf f.scope
  dbg : ∀ p ∈ f.scope.names, (p.1 == ("__debug__" : Str)) = false
noncomputable def FnD.ok (f : FnD) : Bool := f.scope.kind == .function && !f.scope.isGenerator && !f.scope.isCoroutine && decide (f.scope.names.map (·.1)).Nodup && f.scope.names.all (fun p => p.2 != .free && !(p.1 == ("__debug__" : Str))) && f.params.isPrefixOf (slotsOf f.scope)
theorem FnD.good {f : FnD} (h : f.ok = true) : FnGood f := by
  simp only [FnD.ok, Bool.and_eq_true, beq_iff_eq, Bool.not_eq_true', decide_eq_true_eq, List.all_eq_true, bne_iff_ne, ne_eq] at h
  obtain ⟨⟨⟨⟨⟨h1, h2⟩, h3⟩, h4⟩, h5⟩, h6⟩ := h
  exact ⟨h1, h2, h3, h4, fun p hp => (h5 p hp).1, List.isPrefixOf_iff_prefix.mp h6, fun p hp => (h5 p hp).2⟩
structure FnOk (C : Cx) (f : FnD) (a : Addr) : Prop where
  fn : ∃ o fd ps, C.base.get? a = some o ∧ o.data = .func fd ∧ fd.scope = f.scope ∧ fd.body = .stmts f.body ∧ fd.globals = mainGlobals ∧ fd.closure = [] ∧ fd.builtins = builtinsNs ∧ C.base.CodeRec fd.code fd.qualname ∧
    fd.params = ⟨[], ps, none, [], [], none, []⟩ ∧ ps.map (·.arg) = f.params ∧ fd.defaults = .none

theorem lookup_mem {α β : Type} [BEq α] [LawfulBEq α] : ∀ {l : List (α × β)} {x : α} {v : β}, l.lookup x = some v → (x, v) ∈ l
  | [], _, _, h => by cases h
  | (y, w) :: r, x, v, h => by
    rw [List.lookup_cons] at h
    split at h
    · rename_i e; cases h; rw [eq_of_beq e]; exact .head _
    · exact .tail _ (lookup_mem h)
theorem lookup_of_nodup {α β : Type} [BEq α] [LawfulBEq α] : ∀ {l : List (α × β)} {x : α} {v : β}, (l.map (·.1)).Nodup → (x, v) ∈ l → l.lookup x = some v
  | (y, w) :: r, x, v, hn, h => by
    have hn' := List.nodup_cons.mp hn
    rw [List.lookup_cons]
    cases h with
    | head => simp
    | tail _ h =>
      have : (x == y) = false := by
        cases q : x == y with
        | false => rfl
        | true => exact absurd (List.mem_map_of_mem (f := (·.1)) h) (by show ¬ x ∈ _; rw [eq_of_beq q]; exact hn'.1)
      rw [this]; exact lookup_of_nodup hn'.2 h

/- parameters as the frame holds them -/
theorem bindL_get (k : Str → Option NameKind) : ∀ {b : List (Str × Value)} {m : Str → Option Value} {x : Str} {v : Value}, (b.map (·.1)).Nodup → (x, v) ∈ b → k x = some .local → bindL k b m x = some v
  | (y, w) :: r, m, x, v, hn, h, hk => by
    have hn' := List.nodup_cons.mp hn
    unfold bindL
    cases h with
    | head =>
      rw [if_pos hk]
      exact bindL_skip k hn'.1 (by simp)
    | tail _ h => exact bindL_get k hn'.2 h hk
where bindL_skip (k : Str → Option NameKind) : ∀ {b : List (Str × Value)} {m : Str → Option Value} {x : Str} {v : Value}, x ∉ b.map (·.1) → m x = some v → bindL k b m x = some v
  | [], _, _, _, _, h => h
  | (y, w) :: r, m, x, v, hn, h => by
    unfold bindL
    refine bindL_skip k (fun q => hn (.tail _ q)) ?_
    have hne : x ≠ y := fun q => hn (by rw [q]; exact .head _)
    split
    · simp [hne, h]
    · exact h
theorem bindC_get (k : Str → Option NameKind) : ∀ {b : List (Str × Value)} {m : Str → Option Value} {x : Str} {v : Value}, (b.map (·.1)).Nodup → (x, v) ∈ b → k x = some .cell → bindC k b m x = some v
  | (y, w) :: r, m, x, v, hn, h, hk => by
    have hn' := List.nodup_cons.mp hn
    unfold bindC
    cases h with
    | head =>
      rw [if_neg (by rw [hk]; decide)]
      exact bindC_skip k hn'.1 (by simp)
    | tail _ h => exact bindC_get k hn'.2 h hk
where bindC_skip (k : Str → Option NameKind) : ∀ {b : List (Str × Value)} {m : Str → Option Value} {x : Str} {v : Value}, x ∉ b.map (·.1) → m x = some v → bindC k b m x = some v
  | [], _, _, _, _, h => h
  | (y, w) :: r, m, x, v, hn, h => by
    unfold bindC
    refine bindC_skip k (fun q => hn (.tail _ q)) ?_
    have hne : x ≠ y := fun q => hn (by rw [q]; exact .head _)
    split
    · exact h
    · simp [hne, h]
theorem cells_lookup {x : Str} : ∀ {names : List (Str × NameKind)} {n : Nat} {acc : List (Str × Addr)}, (x, NameKind.cell) ∈ names ∨ (acc.lookup x).isSome = true → ((cellsFrom n names acc).lookup x).isSome = true
  | [], _, _, h => by
    rcases h with h | h
    · cases h
    · exact h
  | (y, k) :: r, n, acc, h => by
    unfold cellsFrom
    by_cases hk : (k == NameKind.cell) = true
    · rw [if_pos hk]
      refine cells_lookup ?_
      by_cases hy : (x == y) = true
      · right; rw [List.lookup_cons, hy]; rfl
      · rcases h with h | h
        · cases h with
          | head => exact absurd (by simp) hy
          | tail _ h => exact .inl h
        · right; rw [List.lookup_cons]; simp only [hy]; exact h
    · rw [if_neg hk]
      refine cells_lookup ?_
      rcases h with h | h
      · cases h with
        | head => exact absurd rfl hk
        | tail _ h => exact .inl h
      · exact .inr h
theorem cells_inj {l : List (Str × Addr)} (h : l.Pairwise fun x y => x.2 ≠ y.2) {x y : Str} {c : Addr} (hx : (x, c) ∈ l) (hy : (y, c) ∈ l) : x = y := by
  induction l with
  | nil => cases hx
  | cons p l ih =>
    obtain ⟨h1, h2⟩ := List.pairwise_cons.mp h
    cases hx with
    | head => cases hy with
      | head => rfl
      | tail _ hy => exact absurd rfl (h1 (y, c) hy)
    | tail _ hx => cases hy with
      | head => exact absurd rfl (h1 (x, c) hx)
      | tail _ hy => exact ih h2 hx hy

/- a call of a def -/
structure AOk2 (d : Nat) (A : Around) : Prop where
  depth : A.depth + 3 * d + 4 ≤ 990
  units : A.units + 100 * d + 250 ≤ 9900
  handled : A.handled = none
  guards : A.guards = some []
noncomputable def Back (Q : Value → Shared → Prop) (E : Value → Shared → Prop) (r : Result) (s : Shared) : Prop := match r with
  | .ok (.ret v) => Q v s
  | .ok _ => False
  | .error e => E e s
noncomputable def FSnd (C : Cx) (d : Nat) (a : Addr) (g : List V → M V) : Prop :=
  ∀ (env : Env) (sc : Scope) (ns : List Str) (vs : List V) (vals : List Value) (s : Shared) (ρ : List Addr) (st : St), VRs C s.heap ρ vs vals →
    ∀ (A : Around) (Q : Value → Shared → Prop) (E : Value → Shared → Prop) (X : Str → St → Prop), AOk2 d A → State C env sc ns s ρ st → Rest C env sc ns (VR C) Nil Q E X (g vs) s ρ st → codeAny (model C.prog C.w) A (.call (.ref a) ⟨vals, []⟩) (Back Q E) s
theorem AOk.two {d : Nat} {A : Around} (h : AOk (d + 1) A) : AOk2 d A := ⟨by have := h.depth; omega, by have := h.units; omega, h.handled, h.guards⟩
theorem FSnd.at {C : Cx} {d : Nat} {a : Addr} {g : List V → M V} (h : FSnd C d a g) {env : Env} {sc : Scope} {ns : List Str} {vs : List V} {vals : List Value} {s : Shared} {ρ : List Addr} {st : St} (hv : VRs C s.heap ρ vs vals) : At C (d + 1) env sc ns (VR C) Nil (call (.ref a) vals) (g vs) s ρ st :=
  .of fun A Q E X hA hS hw => wpAny_call (h env sc ns vs vals s ρ st hv A Q E X hA.two hS hw)
theorem AOk2.deeper {d : Nat} {A : Around} (h : AOk2 d A) (env : Env) : AOk d (A.deeper env) :=
  ⟨by show A.depth + 1 + 3 * d + 3 ≤ 990; have := h.depth; omega, by show A.units + 3 + 100 * d + 200 ≤ 9900; have := h.units; omega, h.handled, h.guards⟩
theorem slots_nodup {f : FnD} (hg : FnGood f) : (slotsOf f.scope).Nodup := by
  unfold slotsOf
  exact List.Nodup.sublist (List.Sublist.map _ List.filter_sublist) hg.nodup
theorem envOk_call {f : FnD} (hg : FnGood f) {env : Env} (hs : env.scope = f.scope) (h1 : env.globals = mainGlobals) (h2 : env.builtins = builtinsNs) : EnvOk env f.scope where
  kind := by rw [hs]; exact hg.kind
  glob := h1
  blt := h2
  gl := fun x hx => by unfold isGlob at hx; show env.scope.names.lookup x = _; rw [hs]; exact eq_of_beq hx
  lo := fun x hx => by show env.scope.names.lookup x = _; rw [hs]; exact hx
  ce := fun x hx => by
    show env.scope.names.lookup x = _
    rw [hs]
    rcases hx with hx | hx
    · exact hx
    · exact absurd rfl (hg.nofree _ (lookup_mem hx))
  dbg := fun x hx => by
    have : ∃ k, f.scope.names.lookup x = some k := by
      rcases hx with hx | hx
      · exact ⟨_, eq_of_beq hx⟩
      · unfold isVar at hx
        split at hx <;> first | exact ⟨_, by assumption⟩ | cases hx
    obtain ⟨k, hk⟩ := this
    exact hg.dbg _ (lookup_mem hk)

theorem VRs.get {C : Cx} {h : Heap} {ρ : List Addr} : ∀ {vs : List V} {xs : List Value} {i : Nat} {v : V}, VRs C h ρ vs xs → vs[i]? = some v → ∃ x, xs[i]? = some x ∧ VR C h ρ v x
  | [], _, _, _, _, h => by simp at h
  | v :: vs, _, 0, w, r, h => by
    simp only [VRs] at r
    obtain ⟨x, xs, rfl, h1, _⟩ := r
    simp at h; subst h
    exact ⟨x, rfl, h1⟩
  | v :: vs, _, i + 1, w, r, h => by
    simp only [VRs] at r
    obtain ⟨x, xs, rfl, _, h2⟩ := r
    simp at h
    simpa using VRs.get h2 h

theorem call_gen {C : Cx} {Φ : Shared → List Addr → St → Prop} (hΦ : ∀ s ρ st, Φ s ρ st → Inv C s.heap ρ st.obs) (hΦ2 : ∀ s ρ st s' ρ' obs', Φ s ρ st → Ext Nil s ρ s' ρ' → Inv C s'.heap ρ' obs' → Φ s' ρ' { st with obs := obs' })
    {d : Nat} {f : FnD} {a : Addr} {mb : M Flow} (hlim : C.base.NoLimit) (hf : FnOk C f a) (hg : FnGood f)
    (hbody : ∀ env, EnvOk env f.scope → SndXs C d env f.scope (slotsOf f.scope) f.body mb)
    (env : Env) (vs : List V) (vals : List Value) (s : Shared) (ρ : List Addr) (st : St) (hv : VRs C s.heap ρ vs vals) (A : Around) (Q : Value → Shared → Prop) (E : Value → Shared → Prop) (X : Str → St → Prop) (hA : AOk2 d A) (hS : Φ s ρ st)
    (hw : wpM (runFn f.params.length (slotsOf f.scope).length mb vs) st (fun v st' => ∀ val s' ρ', VR C s'.heap ρ' v val → Φ s' ρ' st' → Ext Nil s ρ s' ρ' → Q val s') X)
    (hX : ∀ c st' x s' ρ', X c st' → Raised C env s ρ c st' x s' ρ' → E x s') : codeAny (model C.prog C.w) A (.call (.ref a) ⟨vals, []⟩) (Back Q E) s := by
  have hI := hΦ s ρ st hS
  obtain ⟨hlen, hw1⟩ := wpM_runFn.mp hw
  obtain ⟨o, fd, ps, ho, hdat, hsc, hbd, hgl, hcl, hbl, hcd, hps, hpn, hdf⟩ := hf.fn
  have hkeep := hI.base
  have hvl : vals.length = ps.length := by rw [← hv.len, hlen, ← hpn]; simp
  have hpd : (ps.map (·.arg)).Nodup := by
    rw [hpn]; exact List.Nodup.sublist hg.pre.sublist (slots_nodup hg)
  have hslot : ∀ x, x ∈ slotsOf f.scope → (x, NameKind.local) ∈ f.scope.names ∨ (x, NameKind.cell) ∈ f.scope.names := fun x hx => by
    unfold slotsOf at hx
    obtain ⟨⟨y, k⟩, hp, rfl⟩ := List.mem_map.mp hx
    obtain ⟨hp1, hp2⟩ := List.mem_filter.mp hp
    cases k <;> simp at hp2
    · exact .inl hp1
    · exact .inr hp1
  have hzip : ∀ x ∈ (ps.map (·.arg)).zip vals, x.1 ∈ slotsOf f.scope := fun x hx => by
    obtain ⟨n, v⟩ := x
    exact hg.pre.subset (hpn ▸ (List.of_mem_zip hx).1)
  refine (codeAny_call_cells (by have := hA.depth; show A.depth < 1000; omega) (hkeep _ _ ho) hdat (hlim.keeps hkeep) (hcd.keeps hkeep) hbd (bindArgs_plain hps hdf hpd hvl) hcl (fun x hx => ?_) (fun s₁ hc => ?_)
    (by rw [hsc]; exact hg.co) (by rw [hsc]; exact hg.gen) (by rw [hsc]; exact hg.kind))
  · rw [hsc]
    rcases hslot _ (hzip x hx) with q | q
    · exact .inl (lookup_of_nodup hg.nodup q)
    · exact .inr ⟨lookup_of_nodup hg.nodup q, cells_lookup (.inl q)⟩
  · generalize he : callEnvC fd s.heap.objs.size a = env' at hc ⊢
    have e1 : env'.scope = f.scope := by rw [← he]; exact hsc
    have e2 : env'.locals = s.heap.objs.size := by rw [← he]; rfl
    have e3 : env'.globals = mainGlobals := by rw [← he]; exact hgl
    have e4 : env'.builtins = builtinsNs := by rw [← he]; exact hbl
    have e5 : env'.cells = cellsFrom (s.heap.objs.size + 1) f.scope.names [] := by rw [← he, ← hsc]; rfl
    have hk' : ∀ x, env'.kindOf x = f.scope.names.lookup x := fun x => by show env'.scope.names.lookup x = _; rw [e1]
    obtain ⟨h₁, tk, rfl, hkeep₁⟩ := hc.done
    have hnone : ∀ {b : Addr}, s.heap.objs.size ≤ b → s.heap.get? b = none := fun hb => Heap.get?_none_of_le hb
    have notIn : ∀ {b : Addr}, s.heap.objs.size ≤ b → b ∉ ρ := fun hb hm => by
      obtain ⟨o', ho'⟩ := hI.mem hm
      rw [hnone hb] at ho'; cases ho'
    have notB : ∀ {b : Addr}, s.heap.objs.size ≤ b → C.base.get? b = none := fun {b} hb => by
      cases q : C.base.get? b with
      | none => rfl
      | some o' => have := hkeep b o' q; rw [hnone hb] at this; cases this
    have g : Grows s.heap h₁ := hkeep₁
    have hex : Ext Nil s ρ { s with heap := h₁, toks := tk } ρ := Ext.grows g
    have above : ∀ {x : Str} {c : Addr}, env'.cells.lookup x = some c → s.heap.objs.size ≤ c := fun {x c} hl => by
      have := hc.above x c (lookup_mem hl)
      rw [e2] at this; exact Nat.le_of_lt this
    have hown : ∀ b, Own env' b → s.heap.objs.size ≤ b := fun b hb => by
      rcases hb with rfl | ⟨x, _, hl⟩
      · rw [e2]; exact Nat.le_refl _
      · exact above hl
    have S₁ : State C env' f.scope (slotsOf f.scope) { s with heap := h₁, toks := tk } ρ ⟨vs.map some ++ List.replicate ((slotsOf f.scope).length - f.params.length) none, st.obs⟩ := by
      refine ⟨hI.grows g, ⟨?_, ⟨_, hc.toInCall.ns⟩, notIn (hown _ (.inl rfl)), notB (hown _ (.inl rfl)), fun x hx => ?_, fun x y c h1 h2 h3 h4 => cells_inj hc.apart (lookup_mem h3) (lookup_mem h4), fun x i v h1 h2 h3 => ?_⟩⟩
      · have := hg.pre.length_le
        simp [hlen]; omega
      · have hm : (x, NameKind.cell) ∈ f.scope.names := lookup_mem ((hk' x) ▸ hx)
        have hsome : (env'.cells.lookup x).isSome = true := by rw [e5]; exact cells_lookup (.inl hm)
        obtain ⟨c, hcx⟩ := Option.isSome_iff_exists.mp hsome
        exact ⟨c, _, hcx, hc.cell x c hcx, notIn (above hcx), notB (above hcx)⟩
      · have hi : i < vs.length := by
          refine Nat.lt_of_not_le fun hle => ?_
          rw [List.getElem?_append_right (by simpa using hle), List.getElem?_replicate] at h3
          split at h3 <;> cases h3
        rw [List.getElem?_append_left (by simpa using hi), List.getElem?_map] at h3
        have hvi : vs[i]? = some v := by
          cases q : vs[i]? with
          | none => rw [q] at h3; cases h3
          | some w => rw [q] at h3; cases h3; rfl
        obtain ⟨val, hval, hr⟩ := hv.get hvi
        have hxi : (ps.map (·.arg))[i]? = some x := by
          have := idxLast_get h2
          obtain ⟨t, ht⟩ := hg.pre
          rw [← ht, List.getElem?_append_left (by rw [← hlen]; exact hi)] at this
          rw [hpn]; exact this
        have hmem : (x, val) ∈ (ps.map (·.arg)).zip vals := lookup_mem (lookup_zip_some hpd hxi hval)
        have hnd : (((ps.map (·.arg)).zip vals).map (·.1)).Nodup := by
          rw [List.map_fst_zip (by simp [hvl])]; exact hpd
        refine ⟨val, ?_, hr.ext hex.extN⟩
        rcases hslot x (List.mem_of_getElem? (idxLast_get h2)) with q | q
        · have k : env'.kindOf x = some .local := (hk' x).trans (lookup_of_nodup hg.nodup q)
          exact .inl ⟨k, _, hc.toInCall.ns, bindL_get _ hnd hmem k⟩
        · have k : env'.kindOf x = some .cell := (hk' x).trans (lookup_of_nodup hg.nodup q)
          have hsome : (env'.cells.lookup x).isSome = true := by rw [e5]; exact cells_lookup (.inl q)
          obtain ⟨c, hcx⟩ := Option.isSome_iff_exists.mp hsome
          exact .inr ⟨k, c, hcx, by have := hc.cell x c hcx; rw [bindC_get _ hnd hmem k] at this; exact this⟩
    refine (hbody env' (envOk_call hg e1 e3 e4)) (A.deeper env') _ ρ _ _ _ (fun c st' => X c { st with obs := st'.obs }) (hA.deeper env') S₁ (wpM_mono hw1 (fun fl st₂ hq flow s₂ ρ₂ hfl S₂ e₂ => ?_) fun _ _ h => h) (fun _ _ _ _ _ _ r => r.elim)
    have hkeep2 : Ext Nil s ρ s₂ ρ₂ := by
      refine ⟨e₂.pre, fun b hb => ?_, fun b o' hb hn _ => ?_, fun b o' hb => e₂.alive b o' (g b o' hb), e₂.gens, e₂.drawn, e₂.os⟩
      · rcases e₂.fresh b hb with q | q
        · exact .inl q
        · exact .inr (hex.was q)
      · exact e₂.keep b o' (g b o' hb) hn fun q => by rw [hnone (hown b q)] at hb; cases hb
    have S₃ : Φ s₂ ρ₂ { st with obs := st₂.obs } := hΦ2 _ _ _ _ _ _ hS hkeep2 S₂.inv
    cases fl with
    | next => cases hfl; exact hq _ _ _ rfl S₃ hkeep2
    | ret v => obtain ⟨val, rfl, hr⟩ := hfl; exact hq _ _ _ hr S₃ hkeep2
theorem call_snd {C : Cx} {d : Nat} {f : FnD} {a : Addr} {mb : M Flow} (hlim : C.base.NoLimit) (hf : FnOk C f a) (hg : FnGood f)
    (hbody : ∀ env, EnvOk env f.scope → SndXs C d env f.scope (slotsOf f.scope) f.body mb) : FSnd C d a (runFn f.params.length (slotsOf f.scope).length mb) := by
  intro env sc ns vs vals s ρ st hv A Q E X hA hS hw
  exact call_gen (Φ := fun s ρ st => State C env sc ns s ρ st) (fun _ _ _ h => h.inv) (fun s ρ st s' ρ' obs' h e I => ⟨I, h.frm.ext e⟩) hlim hf hg hbody env vs vals s ρ st hv A Q E X hA hS hw.1 hw.2
end Mine
set_option autoImplicit false
set_option linter.unusedVariables false
namespace Mine
open PySem PyProof.Rows

theorem wpM_chkObs {c : List (Nat × Ob)} {st : St} {Q : Unit → St → Prop} {X : Str → St → Prop} (h : wpM (chkObs c) st Q X) : chkOk c st.obs ∧ Q () st := by
  unfold wpM chkObs at h
  by_cases hc : chkOk c st.obs
  · simp only [if_pos hc] at h
    exact ⟨hc, h⟩
  · simp only [if_neg hc] at h

/- iterators -/
structure IterOk (C : Cx) (d : Nat) (target : Expr) (items : List V) (chk : List (Nat × Ob)) (it : Value) (fp : List Addr) (P : Nat → Heap → Prop) (ρ₀ : List Addr) : Prop where
  frame : ∀ (i : Nat) (h h' : Heap), P i h → (∀ b : Addr, b ∈ fp → ∀ o, h.get? b = some o → h'.get? b = some o) → P i h'
  there : ∀ (i : Nat) (h : Heap), P i h → ∀ b : Addr, b ∈ fp → ∃ o vs, h.get? b = some o ∧ o.data = .fields vs ∧ o.cls ≠ .type "frame" ∧ isVal o = false
  next : ∀ (i : Nat) (A : Around) (s : Shared) (ρ : List Addr) (obs : List Ob) (Q : Value → Shared → Prop) (R : Option Value → Shared → Prop) (E : Value → Shared → Prop) (v : V), AOk d A → Inv C s.heap ρ obs → (∃ t, ρ = ρ₀ ++ t) → chkOk chk obs → P i s.heap → (∀ b : Addr, b ∈ fp → b ∉ ρ) → items[i]? = some v →
    (∀ val s₁, wpAny (model C.prog C.w) A (letOwnedTupleGo target it val) (fun _ s₂ => Q val s₂) E s₁ → R (some val) s₁) →
    (∀ val h' tk, VR C h' ρ v val → P (i + 1) h' → (∀ b o, b ∉ fp → s.heap.get? b = some o → h'.get? b = some o) → Q val { s with heap := h', toks := tk }) →
    wpAny (model C.prog C.w) A (pyNext it) R E s
  done : ∀ (i : Nat) (A : Around) (s : Shared) (ρ : List Addr) (obs : List Ob) (Q : Option Value → Shared → Prop) (E : Value → Shared → Prop), AOk d A → Inv C s.heap ρ obs → (∃ t, ρ = ρ₀ ++ t) → chkOk chk obs → P i s.heap → (∀ b : Addr, b ∈ fp → b ∉ ρ) → items[i]? = none →
    (∀ h' tk, (∀ b o, b ∉ fp → s.heap.get? b = some o → h'.get? b = some o) → Q none { s with heap := h', toks := tk }) → wpAny (model C.prog C.w) A (pyNext it) Q E s
  self : ∀ (i : Nat) (A : Around) (s : Shared) (Q : Value → Shared → Prop) (E : Value → Shared → Prop), P i s.heap → Q it s → wpAny (model C.prog C.w) A (pyIter it) Q E s

noncomputable def SrcSnd (C : Cx) (d : Nat) (env : Env) (sc : Scope) (ns : List Str) (target : Expr) (e : Expr) (m : M Src) : Prop :=
  ∀ (A : Around) (s : Shared) (ρ : List Addr) (st : St) (Q : Value → Shared → Prop) (E : Value → Shared → Prop) (X : Str → St → Prop), AOk d A → State C env sc ns s ρ st →
    wpM m st (fun src st' => ∀ it s' ρ' fp P, IterOk C d target src.items src.chk it fp P ρ' → P 0 s'.heap → (∀ b : Addr, b ∈ fp → b ∉ ρ' ∧ s.heap.get? b = none ∧ C.base.get? b = none) → State C env sc ns s' ρ' st' → Ext Nil s ρ s' ρ' → Q it s') X →
    (∀ c st' x s' ρ', X c st' → Raised C env s ρ c st' x s' ρ' → E x s') → wpAny (model C.prog C.w) A (eval e env) (fun x s₁ => wpAny (model C.prog C.w) A (pyIter x) Q E s₁) E s

section
variable {C : Cx} {d : Nat} {env : Env} {sc : Scope} {ns : List Str}
theorem Own.notFields {h : Heap} {ρ : List Addr} {vars : List (Option V)} (F : Frm C h ρ env sc ns vars) {b : Addr} {o : Obj} {vs : Array Value} (hb : h.get? b = some o) (hd : o.data = .fields vs) : ¬ Own env b := by
  intro ho
  rcases ho with rfl | ⟨x, hk, hc⟩
  · obtain ⟨m, o', es, ep, ho', hd', _⟩ := F.loc
    rw [hb] at ho'; cases ho'; rw [hd] at hd'; cases hd'
  · obtain ⟨c, v₀, q1, ⟨o', q2, q3⟩, _⟩ := F.cell x hk
    rw [hc] at q1; cases q1; rw [hb] at q2; cases q2; rw [hd] at q3; cases q3
/- only things that are neither the ledger's nor the frame's have changed -/
theorem State.off {s : Shared} {ρ : List Addr} {st : St} (hS : State C env sc ns s ρ st) {F : Addr → Prop} {h' : Heap} {tk : Nat} (hk : ∀ b o, ¬ F b → s.heap.get? b = some o → h'.get? b = some o)
    (hfp : ∀ b : Addr, F b → b ∉ ρ ∧ C.base.get? b = none ∧ ¬ Own env b ∧ ∀ o, s.heap.get? b = some o → isVal o = false) : State C env sc ns { s with heap := h', toks := tk } ρ st := by
  have eV : ExtV C s.heap ρ h' ρ := ⟨⟨[], by simp⟩, fun b o hb hn hv => ⟨hk b o (fun q => by
    rw [(hfp b q).2.2.2 o hb] at hv; cases hv) hb, hn⟩⟩
  have loc : ∀ b, Own env b → ¬ F b := fun b ho q => (hfp b q).2.2.1 ho
  have cells : ∀ (x : Str) (c : Addr) (v : Option Value), env.kindOf x = some .cell → env.cells.lookup x = some c → s.heap.IsCell c v → h'.IsCell c v := fun x c v hkx hc ⟨oc, h1, h2⟩ => ⟨oc, hk c oc (loc c (.inr ⟨x, hkx, hc⟩)) h1, h2⟩
  have nsK : ∀ {m}, s.heap.Ns env.locals m → h'.Ns env.locals m := fun ⟨o, es, ep, h1, h2⟩ => ⟨o, es, ep, hk _ o (loc _ (.inl rfl)) h1, h2⟩
  refine ⟨hS.inv.ext (fun b o hb => hk b o (fun q => by rw [(hfp b q).2.1] at hb; cases hb) (hS.inv.base b o hb)) eV fun a ha => ?_, hS.frm.len, hS.frm.loc.imp fun m hm => nsK hm, hS.frm.locN, hS.frm.locB, fun x hx => ?_, hS.frm.inj, fun x i v h1 h2 h3 => ?_⟩
  · obtain ⟨o, ho⟩ := hS.inv.mem ha
    rw [ho]; exact hk a o (fun q => (hfp a q).1 ha) ho
  · obtain ⟨c, v₀, q1, q2, q3⟩ := hS.frm.cell x hx
    exact ⟨c, v₀, q1, cells x c v₀ hx q1 q2, q3⟩
  · obtain ⟨val, hl, hv⟩ := hS.frm.vals x i v h1 h2 h3
    refine ⟨val, ?_, hv.ext eV⟩
    rcases hl with ⟨k, m, hm, hx⟩ | ⟨k, c, q1, q2⟩
    · exact .inl ⟨k, m, nsK hm, hx⟩
    · exact .inr ⟨k, c, q1, cells x c _ k q1 q2⟩
theorem State.fp {s : Shared} {ρ : List Addr} {st : St} (hS : State C env sc ns s ρ st) {fp : List Addr} {h' : Heap} {tk : Nat} (hk : ∀ b o, b ∉ fp → s.heap.get? b = some o → h'.get? b = some o)
    (hfp : ∀ b : Addr, b ∈ fp → b ∉ ρ ∧ C.base.get? b = none ∧ ∃ o vs, s.heap.get? b = some o ∧ o.data = .fields vs ∧ o.cls ≠ .type "frame" ∧ isVal o = false) : State C env sc ns { s with heap := h', toks := tk } ρ st :=
  hS.off (F := fun b => b ∈ fp) hk fun b hb => by
    obtain ⟨h1, h2, o, vs, h3, h4, _, h5⟩ := hfp b hb
    exact ⟨h1, h2, Own.notFields hS.frm h3 h4, fun o' ho' => by rw [h3] at ho'; cases ho'; exact h5⟩
/- the second step touches only what is new since the first -/
theorem Ext.over {S T : Addr → Prop} {s s' s'' : Shared} {ρ ρ' ρ'' : List Addr} (x : Ext S s ρ s' ρ') (y : Ext T s' ρ' s'' ρ'') (hT : ∀ b, T b → s.heap.get? b = none) : Ext S s ρ s'' ρ'' :=
  ⟨by obtain ⟨t, rfl⟩ := x.pre; obtain ⟨u, rfl⟩ := y.pre; exact ⟨t ++ u, by rw [List.append_assoc]⟩,
   fun a ha => by
     rcases y.fresh a ha with q | q
     · exact x.fresh a q
     · exact .inr (x.was q),
   fun b o hb hn hS => (x.keep b o hb hn hS).trans fun o' ho' => y.keep b o' ho' (x.apart hb hn) fun q => (by rw [hT b q] at hb; cases hb),
   fun b o hb => let ⟨o', h'⟩ := x.alive b o hb; y.alive b o' h', y.gens.trans x.gens, y.drawn.trans x.drawn, y.os.trans x.os⟩
theorem Ext.one {s : Shared} {ρ : List Addr} {a : Addr} {h' : Heap} {tk : Nat} {o' : Obj} (hs : ∀ b o, b ≠ a → s.heap.get? b = some o → h'.get? b = some o) (ho : h'.get? a = some o') : Ext (fun b => b = a) s ρ { s with heap := h', toks := tk } ρ :=
  ⟨⟨[], by simp⟩, fun _ h => .inl h, fun b o hb _ hn => .inl (hs b o hn hb), fun b o hb => by
    by_cases q : b = a
    · subst q; exact ⟨o', ho⟩
    · exact ⟨o, hs b o q hb⟩, rfl, rfl, rfl⟩
theorem Ext.fp' {s : Shared} {ρ : List Addr} {fp : List Addr} {h' : Heap} {tk : Nat} (hs : ∀ b o, b ∉ fp → s.heap.get? b = some o → h'.get? b = some o) (ha : ∀ b : Addr, b ∈ fp → ∃ o', h'.get? b = some o') : Ext (fun b => b ∈ fp) s ρ { s with heap := h', toks := tk } ρ :=
  ⟨⟨[], by simp⟩, fun _ h => .inl h, fun b o hb _ hn => .inl (hs b o hn hb), fun b o hb => by
    by_cases q : b ∈ fp
    · exact ha b q
    · exact ⟨o, hs b o q hb⟩, rfl, rfl, rfl⟩
/- a frame that the steps leave alone -/
theorem Frm.extS {S : Addr → Prop} {s s' : Shared} {ρ ρ' : List Addr} {vars : List (Option V)} (F : Frm C s.heap ρ env sc ns vars) (x : Ext S s ρ s' ρ') (hO : ∀ b, S b → ¬ Own env b) (hv : ∀ b o, S b → s.heap.get? b = some o → isVal o = false) : Frm C s'.heap ρ' env sc ns vars := by
  obtain ⟨m, o, es, ep, ho, hd, hk⟩ := F.loc
  obtain ⟨o', ho', _, hd', _⟩ := (x.keep _ o ho F.locN fun q => hO _ q (.inl rfl)).data
  have cells : ∀ (y : Str) (c : Addr) (v : Option Value), env.kindOf y = some .cell → env.cells.lookup y = some c → s.heap.IsCell c v → c ∉ ρ → s'.heap.IsCell c v ∧ c ∉ ρ' := fun y c v hy hc' ⟨oc, hc, hcd⟩ hn =>
    let ⟨o₁, h1, _, h2, _⟩ := (x.keep c oc hc hn fun q => hO _ q (.inr ⟨y, hy, hc'⟩)).data; ⟨⟨o₁, h1, h2.trans hcd⟩, x.apart hc hn⟩
  refine ⟨F.len, ⟨m, o', es, ep, ho', hd'.trans hd, hk⟩, x.apart ho F.locN, F.locB, fun y hy => ?_, F.inj, fun y i v h1 h2 h3 => ?_⟩
  · obtain ⟨c, v₀, q1, q2, q3, q4⟩ := F.cell y hy
    exact ⟨c, v₀, q1, (cells y c v₀ hy q1 q2 q3).1, (cells y c v₀ hy q1 q2 q3).2, q4⟩
  · obtain ⟨val, hl, hvv⟩ := F.vals y i v h1 h2 h3
    refine ⟨val, ?_, hvv.ext (x.extV hv)⟩
    rcases hl with ⟨k, m₁, ⟨o₁, es₁, ep₁, ho₁, hd₁, hk₁⟩, hm⟩ | ⟨k, c, q1, q2⟩
    · rw [ho] at ho₁; cases ho₁
      exact .inl ⟨k, m₁, ⟨o', es₁, ep₁, ho', hd'.trans hd₁, hk₁⟩, hm⟩
    · obtain ⟨c', v₀, r1, _, r3, _⟩ := F.cell y k
      rw [q1] at r1; cases r1
      exact .inr ⟨k, c, q1, (cells y c _ k q1 q2 r3).1⟩
theorem Ext.fp {S : Addr → Prop} {s₀ s : Shared} {ρ₀ ρ : List Addr} (x : Ext S s₀ ρ₀ s ρ) {fp : List Addr} {h' : Heap} {tk : Nat} (hk : ∀ b o, b ∉ fp → s.heap.get? b = some o → h'.get? b = some o) (hfp : ∀ b : Addr, b ∈ fp → s₀.heap.get? b = none) :
    Ext S s₀ ρ₀ { s with heap := h', toks := tk } ρ := by
  have nf : ∀ b o, s₀.heap.get? b = some o → b ∉ fp := fun b o hb q => by rw [hfp b q] at hb; cases hb
  refine ⟨x.pre, x.fresh, fun b o hb hn hS => ?_, fun b o hb => ?_, x.gens, x.drawn, x.os⟩
  · rcases x.keep b o hb hn hS with q | ⟨hc, sl, q⟩
    · exact .inl (hk b o (nf b o hb) q)
    · exact .inr ⟨hc, sl, hk b _ (nf b o hb) q⟩
  · obtain ⟨o', ho'⟩ := x.alive b o hb
    exact ⟨o', hk b o' (nf b o hb) ho'⟩
theorem Ext.pre_trans {T : Addr → Prop} {s' s'' : Shared} {ρ ρ' ρ'' : List Addr} (h : ∃ t, ρ' = ρ ++ t) (y : Ext T s' ρ' s'' ρ'') : ∃ t, ρ'' = ρ ++ t := by
  obtain ⟨t, rfl⟩ := h
  obtain ⟨u, rfl⟩ := y.pre
  exact ⟨t ++ u, by rw [List.append_assoc]⟩

/- a for loop -/
noncomputable def ForI (C : Cx) (env : Env) (sc : Scope) (ns : List Str) (items : List V) (fp : List Addr) (P : Nat → Heap → Prop) (s₀ : Shared) (ρ₀ ρ₁ : List Addr) (W : List V → St → Prop) (n : Nat) (s : Shared) : Prop :=
  ∃ i ρ st, n = items.length - i ∧ State C env sc ns s ρ st ∧ P i s.heap ∧ (∀ b : Addr, b ∈ fp → b ∉ ρ) ∧ Ext (Own env) s₀ ρ₀ s ρ ∧ (∃ t, ρ = ρ₁ ++ t) ∧ W (items.drop i) st
theorem drop_of_none {α : Type} {l : List α} {i : Nat} (h : l[i]? = none) : l.drop i = [] := List.drop_eq_nil_of_le (by simpa using h)
theorem drop_of_some {α : Type} {l : List α} {i : Nat} {v : α} (h : l[i]? = some v) : l.drop i = v :: l.drop (i + 1) := by
  have hlt : i < l.length := (List.getElem?_eq_some_iff.mp h).1
  rw [List.drop_eq_getElem_cons hlt]
  congr 1
  rw [List.getElem?_eq_getElem hlt] at h; exact Option.some.inj h
theorem IterOk.keep {target : Expr} {items : List V} {chk : List (Nat × Ob)} {it : Value} {fp : List Addr} {P : Nat → Heap → Prop} {ρ₀ : List Addr} (hI : IterOk C d target items chk it fp P ρ₀) {i : Nat} {s s' : Shared} {ρ ρ' : List Addr} {st : St} (hS : State C env sc ns s ρ st) (hP : P i s.heap)
    (hn : ∀ b : Addr, b ∈ fp → b ∉ ρ) (e : Ext (Own env) s ρ s' ρ') : P i s'.heap ∧ ∀ b : Addr, b ∈ fp → b ∉ ρ' := by
  refine ⟨hI.frame i _ _ hP fun b hb o ho => ?_, fun b hb => ?_⟩
  · obtain ⟨o', vs, h1, h2, h3, h4⟩ := hI.there i _ hP b hb
    rw [ho] at h1; cases h1
    exact (e.keep b o ho (hn b hb) (Own.notFields hS.frm ho h2)).val h3
  · obtain ⟨o', vs, h1, _⟩ := hI.there i _ hP b hb
    exact e.apart h1 (hn b hb)
theorem snd_for (hE : EnvOk env sc) {t it : Expr} {b : List Stmt} {pos : Pos} {tg : Tg} {src : M Src} {mb : M Flow} (ht : TgtR sc ns t tg) (hs : SrcSnd C d env sc ns t it src) (hb : SndXs C d env sc ns b mb) (hset : ∀ x, foldedSetIterable it env x = pure x) :
    SndX C d env sc ns (.For t it b [] pos) (forM tg src mb) := .of fun A s₀ ρ₀ st₀ Q E X hA hS₀ hw => by
  refine wpAny_For (hs A s₀ ρ₀ st₀ _ E X hA hS₀ (wpM_mono (wpM_bind.mp hw.1) (fun sr st₁ hw₁ itv s₁ ρ₁ fp P hI hP hfp S₁ e₁ => ?_) fun _ _ h => h) hw.2) hset
  refine codeAny_forLoop_any (ForI C env sc ns sr.items fp P s₀ ρ₀ ρ₁ fun l st => wpM (forItems tg mb sr.chk l) st (fun v st' => ∀ val s' ρ', FlR C s'.heap ρ' v val → State C env sc ns s' ρ' st' → Ext (Own env) s₀ ρ₀ s' ρ' → Q val s') X) ?_ _
    ⟨0, ρ₁, st₁, rfl, S₁, hP, fun b hb' => (hfp b hb').1, e₁.nil, ⟨[], by simp⟩, by simpa using hw₁⟩
  rintro n s ⟨i, ρ, st, hn, hS, hPi, hfpρ, e, hpre, hwi⟩
  have fpOk : ∀ b : Addr, b ∈ fp → b ∉ ρ ∧ C.base.get? b = none ∧ ∃ o vs, s.heap.get? b = some o ∧ o.data = .fields vs ∧ o.cls ≠ .type "frame" ∧ isVal o = false :=
    fun b hb' => ⟨hfpρ b hb', (hfp b hb').2.2, hI.there i _ hPi b hb'⟩
  have fresh₀ : ∀ b : Addr, b ∈ fp → s₀.heap.get? b = none := fun b hb' => (hfp b hb').2.1
  cases hit : sr.items[i]? with
  | none =>
    rw [drop_of_none hit] at hwi
    obtain ⟨hchk, hq⟩ := wpM_chkObs (wpM_bind.mp hwi)
    refine hI.done i A s ρ st.obs _ _ hA hS.inv hpre hchk hPi hfpρ hit fun h' tk hk => wpAny_execs_nil ?_
    exact hq _ _ _ rfl (hS.fp hk fpOk) (e.fp hk fresh₀)
  | some v =>
    have hlt : i < sr.items.length := (List.getElem?_eq_some_iff.mp hit).1
    rw [drop_of_some hit] at hwi
    obtain ⟨hchk, hq⟩ := wpM_chkObs (wpM_bind.mp hwi)
    refine hI.next i A s ρ st.obs _ _ _ v hA hS.inv hpre hchk hPi hfpρ hit (fun val s₁ h => h) fun val h' tk hv hP' hk => ?_
    · have S₂ := hS.fp (tk := tk) hk fpOk
      have e₂ : Ext (Own env) s₀ ρ₀ { s with heap := h', toks := tk } ρ := e.fp hk fresh₀
      refine at_asg (S := Own env) hE (fun _ q => q) ht hv (fun _ _ _ _ q => q.own) A _ _ X hA S₂ (wpM_mono (wpM_bind.mp hq) (fun _ st₃ h₃ _ s₃ ρ₃ _ S₃ e₃ => ?_) fun _ _ h => h) (fun _ _ _ _ _ _ r => r.elim)
      refine hb A s₃ ρ₃ st₃ _ _ X hA S₃ (wpM_mono (wpM_bind.mp h₃) (fun f st₄ h₄ fl s₄ ρ₄ hfl S₄ e₄ => ?_) fun _ _ h => h) (fun _ _ _ _ _ _ r => r.elim)
      cases f with
      | ret v => obtain ⟨val, rfl, hr⟩ := hfl; exact h₄ _ _ _ ⟨val, rfl, hr⟩ S₄ (e₂.trans (e₃.trans e₄))
      | next =>
        cases hfl
        obtain ⟨p1, p2⟩ := hI.keep S₂ hP' hfpρ (e₃.trans e₄)
        exact ⟨sr.items.length - (i + 1), by omega, i + 1, ρ₄, st₄, rfl, S₄, p1, p2, e₂.trans (e₃.trans e₄), Ext.pre_trans hpre (e₃.trans e₄), h₄⟩
/- a while loop -/
end
end Mine
set_option autoImplicit false
set_option linter.unusedVariables false
namespace Mine
open PySem PyProof.Rows

noncomputable def tupleOwners : List String := ["enumerate", "zip", "dict_itemiterator", "dict_reverseitemiterator", "odict_iterator", "itertools.zip_longest", "itertools.pairwise"]
theorem owned_skip {M : Model} {A : Around} {E : Value → Shared → Prop} {s : Shared} {target : Expr} {I : Addr} {val : Value} {Q : Unit → Shared → Prop} {o : Obj} {n : String} (ho : s.heap.get? I = some o) (hc : o.cls = .type n) (hn : tupleOwners.contains n = false) (hQ : Q () s) :
    wpAny M A (letOwnedTupleGo target (.ref I) val) Q E s := by
  have key : wpAny M A (do
    let (.ref r, .ref a) := ((Value.ref I), val) | return
    let o ← load r
    match o.cls, o.data with
    | .type n, .fields vs =>
      if ["enumerate", "zip", "dict_itemiterator", "dict_reverseitemiterator", "odict_iterator", "itertools.zip_longest", "itertools.pairwise"].contains n && vs[0]? == some (rawInt a) then
        rule "for.unpacks-the-owned-tuple"
        updateField r 0 .none
    | _, _ => pure ()) Q E s := by
    cases val <;> first | exact wpAny_pure hQ | skip
    refine wpAny_bind (wpAny_load ho ?_)
    rw [hc]
    cases o.data <;> first | exact wpAny_pure hQ | skip
    have hn' : (["enumerate", "zip", "dict_itemiterator", "dict_reverseitemiterator", "odict_iterator", "itertools.zip_longest", "itertools.pairwise"] : List String).contains n = false := hn
    dsimp only
    rw [hn', Bool.false_and]
    exact wpAny_pure hQ
  cases target <;> first | exact key | exact wpAny_pure hQ

theorem iterObj {o : Obj} {vs : Array Value} {n : String} (hd : o.data = .fields vs) (hc : o.cls = .type n) (h1 : n ≠ "frame") (h2 : n ≠ "range") : o.cls ≠ .type "frame" ∧ isVal o = false := by
  refine ⟨fun q => h1 (by rw [hc] at q; injection q), ?_⟩
  unfold isVal
  rw [hd, hc]
  dsimp only
  cases q : (Value.type n == Value.type "range") with
  | false => rfl
  | true => exact absurd (by have := eq_of_beq q; injection this) h2
theorem strIter_ne (x : Str) : strIterType x ≠ "frame" ∧ strIterType x ≠ "range" ∧ tupleOwners.contains (strIterType x) = false := by
  unfold strIterType
  split <;> exact ⟨by decide, by decide, by decide⟩
section
variable {C : Cx} {d : Nat}
theorem ExtV.one {h h' : Heap} {ρ : List Addr} {I : Addr} {o : Obj} (hI : h.get? I = some o) (hv : isVal o = false) (hs : ∀ b o, b ≠ I → h.get? b = some o → h'.get? b = some o) : ExtV C h ρ h' ρ :=
  ⟨⟨[], by simp⟩, fun b o' hb hn hv' => ⟨hs b o' (fun q => by subst q; rw [hI] at hb; cases hb; rw [hv] at hv'; cases hv') hb, hn⟩⟩

/- the list at a place of the ledger -/
theorem Inv.list {h : Heap} {ρ : List Addr} {obs : List Ob} (I : Inv C h ρ obs) {r : Nat} {xs : List V} {a : Addr} (ho : obs[r]? = some (.list xs)) (ha : ρ[r]? = some a) : ∃ items n, h.get? a = some { cls := .type "list", data := .seq items n } ∧ VRs C h ρ xs items.toList := by
  obtain ⟨a', h1, h2⟩ := I.ob r _ ho
  rw [ha] at h1; cases h1
  exact h2
theorem toList_get {α : Type} {a : Array α} {i : Nat} : a.toList[i]? = a[i]? := by simp
theorem VRs.getA {h : Heap} {ρ : List Addr} {vs : List V} {items : Array Value} {i : Nat} {v : V} (r : VRs C h ρ vs items.toList) (hv : vs[i]? = some v) : ∃ x, items[i]? = some x ∧ VR C h ρ v x := by
  obtain ⟨x, h1, h2⟩ := r.get hv
  exact ⟨x, by rw [← toList_get]; exact h1, h2⟩
theorem VRs.noneA {h : Heap} {ρ : List Addr} {vs : List V} {items : Array Value} {i : Nat} (r : VRs C h ρ vs items.toList) (hv : vs[i]? = none) : items[i]? = none := by
  have := r.len
  rw [← toList_get]
  simp at hv ⊢
  simp at this
  omega

/- iterators of one thing -/
theorem mem_one {a b : Addr} (h : a ∈ [b]) : a = b := List.mem_singleton.mp h
theorem iter_list {target : Expr} {ρ₀ : List Addr} {I ax : Addr} {r : Nat} {xs : List V} (hr : ρ₀[r]? = some ax) : IterOk C d target xs [(r, .list xs)] (.ref I) [I] (fun i h => h.IsListIter I ax i) ρ₀ where
  frame := fun i h h' hp hk => hp.at fun o e => hk I (by simp) o e
  there := fun i h hp b hb => by
    cases mem_one hb
    obtain ⟨o, ho, hc, hd⟩ := hp
    exact ⟨o, _, ho, hd, by rw [hc]; decide, by unfold isVal; rw [hd, hc]; rfl⟩
  next := fun i A s ρ obs Q R E v hA hInv hpre hchk hp hn hv hR hQ => by
    obtain ⟨t, rfl⟩ := hpre
    have hax : (ρ₀ ++ t)[r]? = some ax := by rw [List.getElem?_append_left (List.getElem?_eq_some_iff.mp hr).1]; exact hr
    obtain ⟨items, n, hl, hvs⟩ := hInv.list (hchk (r, .list xs) (by simp)) hax
    obtain ⟨x, hx, hxv⟩ := hvs.getA hv
    obtain ⟨oI, hoI, hcI, hdI⟩ := id hp
    refine wpAny_pyNext_list_item hp ⟨_, hl, rfl, n, rfl⟩ hx fun h' hp' hs => hR _ _ ?_
    obtain ⟨o', ho', hc', hd'⟩ := id hp'
    refine owned_skip ho' hc' (by decide) (hQ x h' s.toks (hxv.ext (.one hoI (by unfold isVal; rw [hdI, hcI]; rfl) fun b o hb e => (hs.2 b hb).trans e)) hp' fun b o hb e => (hs.2 b (fun q => hb (by simp [q]))).trans e)
  done := fun i A s ρ obs Q E hA hInv hpre hchk hp hn hv hQ => by
    obtain ⟨t, rfl⟩ := hpre
    have hax : (ρ₀ ++ t)[r]? = some ax := by rw [List.getElem?_append_left (List.getElem?_eq_some_iff.mp hr).1]; exact hr
    obtain ⟨items, n, hl, hvs⟩ := hInv.list (hchk (r, .list xs) (by simp)) hax
    exact wpAny_pyNext_list_end hA.handled hp ⟨_, hl, rfl, n, rfl⟩ (hvs.noneA hv) fun h' hx => hQ h' s.toks fun b o hb e => hx b o (fun q => hb (by simp [q])) e
  self := fun i A s Q E hp hQ => wpAny_pyIter_listiter hp hQ
theorem iter_flist {target : Expr} {ρ₀ : List Addr} {I ax : Addr} {xs : List V} {items : Array Value} (hl : C.base.IsList ax items) (hvs : ∀ h ρ, VRs C h ρ xs items.toList) : IterOk C d target xs [] (.ref I) [I] (fun i h => h.IsListIter I ax i) ρ₀ where
  frame := fun i h h' hp hk => hp.at fun o e => hk I (by simp) o e
  there := fun i h hp b hb => by
    cases mem_one hb
    obtain ⟨o, ho, hc, hd⟩ := hp
    exact ⟨o, _, ho, hd, by rw [hc]; decide, by unfold isVal; rw [hd, hc]; rfl⟩
  next := fun i A s ρ obs Q R E v hA hInv hpre hchk hp hn hv hR hQ => by
    obtain ⟨x, hx, _⟩ := (hvs s.heap ρ).getA hv
    refine wpAny_pyNext_list_item hp (hl.at fun o e => hInv.base _ _ e) hx fun h' hp' hs => hR _ _ ?_
    obtain ⟨o', ho', hc', hd'⟩ := id hp'
    obtain ⟨x', hx', hxv⟩ := (hvs h' ρ).getA hv
    rw [hx] at hx'; cases hx'
    exact owned_skip ho' hc' (by decide) (hQ x h' s.toks hxv hp' fun b o hb e => (hs.2 b (fun q => hb (by simp [q]))).trans e)
  done := fun i A s ρ obs Q E hA hInv hpre hchk hp hn hv hQ =>
    wpAny_pyNext_list_end hA.handled hp (hl.at fun o e => hInv.base _ _ e) ((hvs s.heap ρ).noneA hv) fun h' hx => hQ h' s.toks fun b o hb e => hx b o (fun q => hb (by simp [q])) e
  self := fun i A s Q E hp hQ => wpAny_pyIter_listiter hp hQ
theorem rangeL_get {lo hi : Int} {i : Nat} {v : V} (h : ((rangeL lo hi).map V.int)[i]? = some v) : v = .int (lo + i) ∧ (i : Int) < hi - lo := by
  unfold rangeL at h
  rw [List.getElem?_map, List.getElem?_map] at h
  cases q : (List.range (hi - lo).toNat)[i]? with
  | none => rw [q] at h; cases h
  | some k =>
    rw [q] at h
    obtain ⟨h1, h2⟩ := List.getElem?_eq_some_iff.mp q
    simp at h1 h2
    subst h2
    simp at h
    exact ⟨h.symm, by omega⟩
theorem rangeL_none {lo hi : Int} {i : Nat} (h : ((rangeL lo hi).map V.int)[i]? = none) : hi - lo ≤ i := by
  unfold rangeL at h
  simp at h
  omega
theorem iter_range {target : Expr} {ρ₀ : List Addr} {I : Addr} {lo hi : Int} : IterOk C d target ((rangeL lo hi).map .int) [] (.ref I) [I] (fun i h => ∃ left, left = max (hi - lo) 0 - i ∧ IsRangeIter h I (lo + i) left 1) ρ₀ where
  frame := fun i h h' hp hk => let ⟨l, h1, h2⟩ := hp; ⟨l, h1, hk I (by simp) _ h2⟩
  there := fun i h hp b hb => by
    cases mem_one hb
    obtain ⟨l, h1, h2⟩ := hp
    exact ⟨_, _, h2, rfl, iterObj (n := "range_iterator") rfl rfl (by decide) (by decide)⟩
  next := fun i A s ρ obs Q R E v hA hInv hpre hchk hp hn hv hR hQ => by
    obtain ⟨rfl, hlt⟩ := rangeL_get hv
    obtain ⟨l, h1, h2⟩ := hp
    refine wpAny_pyNext_range_item h2 (by omega) fun h' hp' hs => hR _ _ ?_
    refine owned_skip hp' rfl (by decide) (hQ _ h' (s.toks + 1) (by simp only [VR]; exact ⟨_, rfl⟩) ⟨l - 1, by omega, ?_⟩ fun b o hb e => (hs.2 b (fun q => hb (by simp [q]))).trans e)
    have : lo + ((i + 1 : Nat) : Int) = lo + i + 1 := by omega
    rw [this]; exact hp'
  done := fun i A s ρ obs Q E hA hInv hpre hchk hp hn hv hQ => by
    have := rangeL_none hv
    obtain ⟨l, h1, h2⟩ := hp
    exact wpAny_pyNext_range_end hA.handled h2 (by omega) fun h' hx => hQ h' s.toks fun b o hb e => hx b o (fun q => hb (by simp [q])) e
  self := fun i A s Q E hp hQ => let ⟨l, h1, h2⟩ := hp; wpAny_pyIter_rangeiter h2 hQ
theorem chars_get {s : List Nat} {i : Nat} {v : V} (h : (charsOf s)[i]? = some v) : ∃ c, s[i]? = some c ∧ v = .str [c] := by
  unfold charsOf at h
  rw [List.getElem?_map] at h
  cases q : s[i]? with
  | none => rw [q] at h; cases h
  | some c => rw [q] at h; cases h; exact ⟨c, rfl, rfl⟩
theorem chars_none {s : List Nat} {i : Nat} (h : (charsOf s)[i]? = none) : s[i]? = none := by
  unfold charsOf at h
  simpa using h
theorem iter_str {target : Expr} {ρ₀ : List Addr} {I : Addr} {x : List Nat} {t : Tok} : IterOk C d target (charsOf x) [] (.ref I) [I] (fun i h => h.IsStrIter I (strIterType ⟨x.toArray⟩) ⟨x.toArray⟩ t i) ρ₀ where
  frame := fun i h h' hp hk => let ⟨o, h1, h2⟩ := hp; ⟨o, hk I (by simp) _ h1, h2⟩
  there := fun i h hp b hb => by
    cases mem_one hb
    obtain ⟨o, ho, hc, hd⟩ := hp
    exact ⟨o, _, ho, hd, iterObj hd hc (strIter_ne _).1 (strIter_ne _).2.1⟩
  next := fun i A s ρ obs Q R E v hA hInv hpre hchk hp hn hv hR hQ => by
    obtain ⟨c, hc, rfl⟩ := chars_get hv
    have hc' : (⟨x.toArray⟩ : Str).cps[i]? = some c := by simpa using hc
    have fin : ∀ h', h'.IsStrIter I (strIterType ⟨x.toArray⟩) ⟨x.toArray⟩ t (i + 1) → Heap.SameBut I s.heap h' → R (some (.str ⟨#[c]⟩ s.toks)) { s with heap := h', toks := s.toks + 1 } := fun h' hp' hs => hR _ _ (by
      obtain ⟨o', ho', hc', hd'⟩ := id hp'
      refine owned_skip ho' hc' (strIter_ne _).2.2 (hQ _ h' (s.toks + 1) (by simp only [VR]; exact ⟨_, rfl⟩) hp' fun b o hb e => (hs.2 b (fun q => hb (by simp [q]))).trans e))
    unfold strIterType at hp fin
    split at hp
    · rename_i ha; rw [if_pos ha] at fin; exact wpAny_pyNext_ascii_item hp hc' fin
    · rename_i ha; rw [if_neg ha] at fin; exact wpAny_pyNext_wide_item hp hc' fin
  done := fun i A s ρ obs Q E hA hInv hpre hchk hp hn hv hQ => by
    have hc' : (⟨x.toArray⟩ : Str).cps[i]? = none := by simpa using chars_none hv
    unfold strIterType at hp
    split at hp
    · exact wpAny_pyNext_ascii_end hA.handled hp hc' fun h' hx => hQ h' s.toks fun b o hb e => hx b o (fun q => hb (by simp [q])) e
    · exact wpAny_pyNext_wide_end hA.handled hp hc' fun h' hx => hQ h' s.toks fun b o hb e => hx b o (fun q => hb (by simp [q])) e
  self := fun i A s Q E hp hQ => by
    unfold strIterType at hp
    split at hp
    · exact wpAny_pyIter_striter_ascii hp hQ
    · exact wpAny_pyIter_striter_wide hp hQ
end
end Mine
set_option autoImplicit false
set_option linter.unusedVariables false
namespace Mine
open PySem PyProof.Rows

theorem compLoop_any {prog : Program} {w : World} {A : Around} {R : Result → Shared → Prop} {s : Shared} {elt target iter : Expr} {ifs : List Expr} {scope : Scope} {pos : Pos} {it acc : Value} {env : Env} (I : Nat → Shared → Prop)
    (turn : ∀ n s, I n s → wpAny (model prog w) A (pyNext it) (fun r s₁ => match r with
      | none => R (.ok .next) s₁
      | some v => wpAny (model prog w) A (letOwnedTupleGo target it v) (fun _ s₁' => wpAny (model prog w) A (assign target env v) (fun _ s₂ =>
          wpAny (model prog w) A (forIn ifs true fun c r => if r = true then do let ok ← isTrue c env (eval c env); pure (ForInStep.yield ok) else pure (ForInStep.yield r)) (fun ok s₃ =>
            if ok = true then wpAny (model prog w) A (eval elt env) (fun x s₄ =>
              wpAny (model prog w) A (call (.builtin "list.append") [acc, x]) (fun _ s₅ => ∃ m, m < n ∧ I m s₅) (notedBy (model prog w) A env fun e s' => R (.error e) s') s₄) (notedBy (model prog w) A env fun e s' => R (.error e) s') s₃
            else ∃ m, m < n ∧ I m s₃) (notedBy (model prog w) A env fun e s' => R (.error e) s') s₂) (notedBy (model prog w) A env fun e s' => R (.error e) s') s₁') (notedBy (model prog w) A env fun e s' => R (.error e) s') s₁) (notedBy (model prog w) A env fun e s' => R (.error e) s') s)
    (n : Nat) (h : I n s) :
    codeAny (model prog w) A (.compLoop (.ListComp elt [⟨target, iter, ifs, 0⟩] scope pos) 0 it acc env) R s := by
  refine codeAny_loop rfl I (fun n s hI => ?_) n h
  show wpAny _ A ((compTurn (.ListComp elt [⟨target, iter, ifs, 0⟩] scope pos) 0 it acc env).onRaise (fun x => do noteFrame x env; theTreesLotGoes x)) _ _ s
  refine wpAny_noted ?_
  rw [compTurn_list]
  refine wpAny_bind (wpAny_standAt (wpAny_bind (wpAny_mono (turn n s hI) (fun r s₁ h₁ => ?_) fun _ _ h' => h')))
  cases r with
  | none => exact wpAny_pure h₁
  | some v =>
    refine wpAny_bind (wpAny_mono h₁ (fun _ s₁' h₁' => ?_) fun _ _ h' => h')
    refine wpAny_bind (wpAny_mono h₁' (fun _ s₂ h₂ => wpAny_bind (wpAny_mono h₂ (fun ok s₃ h₃ => ?_) fun _ _ h' => h')) fun _ _ h' => h')
    cases ok with
    | false => exact wpAny_pure ⟨rfl, h₃⟩
    | true =>
      exact wpAny_bind (wpAny_bind (wpAny_mono h₃ (fun x s₄ h₄ => wpAny_bind (wpAny_mono h₄ (fun _ s₅ h₅ => wpAny_pure (wpAny_pure ⟨rfl, h₅⟩)) fun _ _ h' => h')) fun _ _ h' => h'))
/- the tests of a comprehension: none or one -/
theorem snd_tests {C : Cx} {d : Nat} {env : Env} {sc : Scope} {ns : List Str} : ∀ {ifs : List Expr} {ms : List (M Bool)}, ifs.length ≤ 1 → All2 (SndB C d env sc ns) ifs ms →
    Snd C d env sc ns Bl Nil (forIn ifs true fun c r => if r = true then do let ok ← isTrue c env (eval c env); pure (ForInStep.yield ok) else pure (ForInStep.yield r)) (andM ms)
  | [], [], _, _ => .of fun A s ρ st Q E X hA hS hw => wpAny_pure (hw.1 _ _ _ rfl hS (.refl ..))
  | [e], [m], _, h => .of fun A s ρ st Q E X hA hS hw => wpAny_tests_one (h.1.then hA hS hw fun b b' s₁ ρ₁ st₁ r₁ S₁ e₁ hw₁ => by
      cases r₁
      cases b
      · exact hw₁.1 _ _ _ rfl S₁ (.refl ..)
      · exact hw₁.1 _ _ _ rfl S₁ (.refl ..))
  | _ :: _ :: _, _, h, _ => by simp at h
  | [], _ :: _, _, h => h.elim
  | [_], [], _, h => h.elim
  | [_], _ :: _ :: _, _, h => h.2.elim

/- the cells that a block takes over -/
noncomputable def freeCells (env : Env) : List (Str × NameKind) → List (Str × Addr) → List (Str × Addr)
  | [], acc => acc
  | (n, k) :: r, acc => freeCells env r (if k == .free then (n, (env.cells.lookup n).getD 0) :: acc else acc)
theorem closure_go {env : Env} (f : Str × NameKind → List (Str × Addr) → Sem (ForInStep (List (Str × Addr))))
    (hf : ∀ n k acc, f (n, k) acc = if k == .free then (do let c ← cellOf env n; pure (.yield ((n, c) :: acc))) else pure (.yield acc)) :
    ∀ (l : List (Str × NameKind)) (acc : List (Str × Addr)), (∀ p ∈ l, p.2 = .free → (env.cells.lookup p.1).isSome = true) → forIn l acc f = (pure (freeCells env l acc) : Sem _)
  | [], acc, _ => rfl
  | (n, k) :: r, acc, h => by
    rw [List.forIn_cons, hf]
    have ih := closure_go f hf r
    by_cases hk : (k == NameKind.free) = true
    · rw [if_pos hk]
      obtain ⟨c, hc⟩ := Option.isSome_iff_exists.mp (h (n, k) (.head _) (eq_of_beq hk))
      have hc' : cellOf env n = pure c := by unfold cellOf; rw [hc]
      rw [hc']
      show forIn r ((n, c) :: acc) f = _
      rw [ih _ fun p hp => h p (.tail _ hp)]
      have e : freeCells env ((n, k) :: r) acc = freeCells env r ((n, c) :: acc) := by
        show freeCells env r (if (k == NameKind.free) = true then (n, (env.cells.lookup n).getD 0) :: acc else acc) = _
        rw [if_pos hk, show env.cells.lookup n = some c from hc]; rfl
      rw [e]
    · rw [if_neg hk]
      show forIn r acc f = _
      rw [ih _ fun p hp => h p (.tail _ hp)]
      have e : freeCells env ((n, k) :: r) acc = freeCells env r acc := by
        show freeCells env r (if (k == NameKind.free) = true then (n, (env.cells.lookup n).getD 0) :: acc else acc) = _
        rw [if_neg hk]
      rw [e]
theorem closure_eq {env : Env} {scope : Scope} (h : ∀ p ∈ scope.names, p.2 = .free → (env.cells.lookup p.1).isSome = true) : closureFor scope env = pure (freeCells env scope.names []) := by
  unfold closureFor
  dsimp only
  rw [closure_go (env := env) _ (fun n k acc => ?_) scope.names [] h]
  · rfl
  · cases hk : k == NameKind.free <;> simp
theorem freeCells_lookup {env : Env} {x : Str} : ∀ {l : List (Str × NameKind)} {acc : List (Str × Addr)}, (l.map (·.1)).Nodup → (∀ p ∈ l, p.2 = .free → (env.cells.lookup p.1).isSome = true) →
    ((x, NameKind.free) ∈ l → (freeCells env l acc).lookup x = env.cells.lookup x) ∧ (x ∉ l.map (·.1) → (freeCells env l acc).lookup x = acc.lookup x)
  | [], acc, _, _ => ⟨fun h => (nomatch h), fun _ => rfl⟩
  | (n, k) :: r, acc, hn, h => by
    have hn' := List.nodup_cons.mp hn
    have ih := @freeCells_lookup env x r (if k == .free then (n, (env.cells.lookup n).getD 0) :: acc else acc) hn'.2 (fun p hp => h p (.tail _ hp))
    refine ⟨fun hm => ?_, fun hx => ?_⟩
    · show (freeCells env r (if k == .free then (n, (env.cells.lookup n).getD 0) :: acc else acc)).lookup x = _
      cases hm with
      | head =>
        rw [ih.2 hn'.1]
        obtain ⟨c, hc⟩ := Option.isSome_iff_exists.mp (h (x, NameKind.free) (.head _) rfl)
        have hc' : env.cells.lookup x = some c := hc
        rw [if_pos (by rfl), List.lookup_cons, hc']; simp
      | tail _ hm => exact ih.1 hm
    · show (freeCells env r (if k == .free then (n, (env.cells.lookup n).getD 0) :: acc else acc)).lookup x = _
      have hx1 : x ≠ n := fun q => hx (by rw [q]; exact .head _)
      rw [ih.2 fun q => hx (.tail _ q)]
      by_cases hk : (k == NameKind.free) = true
      · rw [if_pos hk, List.lookup_cons]
        have : (x == n) = false := by simpa using hx1
        rw [this]
      · rw [if_neg hk]

/- a comprehension's block, as seen from the frame -/
structure CompGood (sc : Scope) (ns : List Str) (cs : Scope) (xs : List Str) : Prop where
  kind : cs.kind = .function
  nodup : (cs.names.map (·.1)).Nodup
  cellx : ∀ p ∈ cs.names, p.2 = .cell → p.1 ∈ xs
  dbg : ∀ p ∈ cs.names, (p.1 == ("__debug__" : Str)) = false
  loc : ∀ p ∈ cs.names, p.2 = .local → p.1 ∈ xs ∨ p.1 ∉ ns
  free : ∀ p ∈ cs.names, p.2 = .free → sc.names.lookup p.1 = some .cell ∨ sc.names.lookup p.1 = some .free
  own : ∀ x ∈ xs, cs.names.lookup x = some .local ∨ cs.names.lookup x = some .cell
theorem comp_good {sc : Scope} {ns : List Str} {cs : Scope} {xs : List Str} (h : compOk sc ns cs xs = true) : CompGood sc ns cs xs := by
  simp only [compOk, Bool.and_eq_true, beq_iff_eq, decide_eq_true_eq, List.all_eq_true, bne_iff_ne, ne_eq, Bool.not_eq_true', Bool.or_eq_true, List.contains_iff_mem] at h
  obtain ⟨⟨⟨h1, h2⟩, h3⟩, h4⟩ := h
  refine ⟨h1, h2, fun p hp hc => (h3 p hp).1.1.1.resolve_left fun q => q hc, fun p hp => (h3 p hp).1.1.2, fun p hp hl => ?_, fun p hp hf => ?_, h4⟩
  · rcases (h3 p hp).1.2 with (q | q) | q
    · exact absurd hl q
    · exact .inl q
    · exact .inr (by simpa using q)
  · rcases (h3 p hp).2 with q | q
    · exact absurd hf q
    · exact q
theorem lookup_map_snd {α β γ : Type} [BEq α] [LawfulBEq α] {g : α → β → γ} {x : α} : ∀ {l : List (α × β)}, (l.map fun p => (p.1, g p.1 p.2)).lookup x = (l.lookup x).map (g x)
  | [] => rfl
  | (y, b) :: r => by
    rw [List.map_cons, List.lookup_cons, List.lookup_cons]
    cases q : x == y with
    | true => have := eq_of_beq q; subst this; rfl
    | false => exact lookup_map_snd
theorem relabel_lookup {scope : Scope} {env : Env} (x : Str) : (relabel scope env).names.lookup x = (scope.names.lookup x).map fun k => if (k == .free && env.scope.kind == .function && env.kindOf x == some .cell) = true then .cell else k := by
  have e : (relabel scope env).names = scope.names.map fun p => (p.1, if (p.2 == .free && env.scope.kind == .function && env.kindOf p.1 == some .cell) = true then NameKind.cell else p.2) := by
    unfold relabel
    dsimp only
    refine List.map_congr_left fun p _ => ?_
    obtain ⟨n, k⟩ := p
    dsimp only
    split <;> rfl
  rw [e, lookup_map_snd (g := fun n k => if (k == .free && env.scope.kind == .function && env.kindOf n == some .cell) = true then NameKind.cell else k)]
section
variable {env : Env} {sc cs : Scope} {ns xs : List Str}
theorem compEnv_ok (hE : EnvOk env sc) (hg : CompGood sc ns cs xs) {cl : List (Str × Addr)} {L : Addr} : EnvOk (compEnvC cs cl L env) cs where
  kind := hg.kind
  glob := hE.glob
  blt := hE.blt
  gl := fun x hx => by
    show (relabel cs env).names.lookup x = _
    rw [relabel_lookup, eq_of_beq hx]; rfl
  lo := fun x hx => by
    show (relabel cs env).names.lookup x = _
    rw [relabel_lookup, hx]; rfl
  ce := fun x hx => by
    show (relabel cs env).names.lookup x = _
    rw [relabel_lookup]
    rcases hx with hx | hx
    · rw [hx]; rfl
    · rw [hx]
      have := hE.ce x (hg.free _ (lookup_mem hx) rfl)
      simp [hE.kind, this]
  dbg := fun x hx => by
    have : ∃ k, cs.names.lookup x = some k := by
      rcases hx with hx | hx
      · exact ⟨_, eq_of_beq hx⟩
      · unfold isVar at hx
        split at hx <;> first | exact ⟨_, by assumption⟩ | cases hx
    obtain ⟨k, hk⟩ := this
    exact hg.dbg _ (lookup_mem hk)
theorem compEnv_cell (hE : EnvOk env sc) (hg : CompGood sc ns cs xs) {cl : List (Str × Addr)} {L : Addr} {x : Str} (h : (compEnvC cs cl L env).kindOf x = some .cell) : ((x, NameKind.free) ∈ cs.names ∧ env.kindOf x = some .cell) ∨ (x, NameKind.cell) ∈ cs.names := by
  have h' : (relabel cs env).names.lookup x = some .cell := h
  rw [relabel_lookup] at h'
  cases q : cs.names.lookup x with
  | none => rw [q] at h'; cases h'
  | some k =>
    rw [q] at h'
    have hm := lookup_mem q
    cases k with
    | free => exact .inl ⟨hm, hE.ce x (hg.free _ hm rfl)⟩
    | cell => exact .inr hm
    | «local» => simp at h'
    | globalExplicit => simp at h'
    | globalImplicit => simp at h'
end
theorem idxLast_append_not : ∀ {ns xs : List Str} {x : Str}, x ∉ xs → idxLast (ns ++ xs) x = idxLast ns x
  | [], xs, x, h => by
    show idxLast xs x = none
    induction xs with
    | nil => rfl
    | cons y r ih =>
      unfold idxLast
      rw [ih fun q => h (.tail _ q)]
      dsimp only
      rw [if_neg (by intro q; exact h (by rw [eq_of_beq q]; exact .head _))]
  | y :: r, xs, x, h => by
    rw [List.cons_append]
    unfold idxLast
    rw [idxLast_append_not h]
theorem idxLast_append_mem : ∀ {ns xs : List Str} {x : Str} {i : Nat}, x ∈ xs → idxLast (ns ++ xs) x = some i → ns.length ≤ i
  | [], _, _, _, _, _ => Nat.zero_le _
  | y :: r, xs, x, i, h, hi => by
    rw [List.cons_append] at hi
    unfold idxLast at hi
    cases q : idxLast (r ++ xs) x with
    | some k => rw [q] at hi; cases hi; have := idxLast_append_mem h q; simp; omega
    | none =>
      exfalso
      have : ∀ {l : List Str}, x ∈ l → idxLast l x ≠ none := by
        intro l hl
        induction l with
        | nil => cases hl
        | cons z l ih =>
          unfold idxLast
          cases q : idxLast l x with
          | some k => simp
          | none =>
            cases hl with
            | head => simp
            | tail _ hl => exact absurd q (ih hl)
      exact this (List.mem_append_right r h) q
end Mine
set_option autoImplicit false
set_option linter.unusedVariables false
namespace Mine
open PySem PyProof.Rows

/- what holds between the turns of a comprehension -/
structure CK (C : Cx) (fp : List Addr) (P : Nat → Heap → Prop) (s₁ : Shared) (ρ₁ : List Addr) (D : Addr) (j : Nat) (done : List V) (s : Shared) (ρ : List Addr) : Prop where
  p : P j s.heap
  fpn : ∀ b : Addr, b ∈ fp → b ∉ ρ
  ext : Ext (fun b => b ∈ fp) s₁ ρ₁ s ρ
  dobj : ∃ ys n, s.heap.get? D = some { cls := .type "list", data := .seq ys n } ∧ VRs C s.heap ρ done ys.toList
  dn : D ∉ ρ
section
variable {C : Cx} {d : Nat} {env cenv : Env} {sc cs : Scope} {ns xs ns' : List Str}
theorem CK.step {target : Expr} {items : List V} {chk : List (Nat × Ob)} {itv : Value} {fp : List Addr} {P : Nat → Heap → Prop} {s₁ : Shared} {ρ₁ : List Addr} {D : Addr} {j : Nat} {done : List V} {s s' : Shared} {ρ ρ' : List Addr} {st : St} {T : Addr → Prop}
    (hI : IterOk C d target items chk itv fp P ρ₁) (K : CK C fp P s₁ ρ₁ D j done s ρ) (hS : State C cenv cs ns' s ρ st) (y : Ext T s ρ s' ρ') (hT : ∀ b, T b → Own cenv b ∧ s₁.heap.get? b = none ∧ b ≠ D) :
    CK C fp P s₁ ρ₁ D j done s' ρ' := by
  have eV : ExtV C s.heap ρ s'.heap ρ' := y.extV fun b o q hb => own_notVal hS.frm b o (hT b q).1 hb
  refine ⟨hI.frame j _ _ K.p fun b hb o ho => ?_, fun b hb => ?_, K.ext.over y fun b q => (hT b q).2.1, ?_, ?_⟩
  · obtain ⟨o', vs, h1, h2, h3, _⟩ := hI.there j _ K.p b hb
    rw [ho] at h1; cases h1
    exact (y.keep b o ho (K.fpn b hb) fun q => Own.notFields hS.frm ho h2 (hT b q).1).val h3
  · obtain ⟨o', vs, h1, _⟩ := hI.there j _ K.p b hb
    exact y.apart h1 (K.fpn b hb)
  · obtain ⟨ys, n, h1, h2⟩ := K.dobj
    exact ⟨ys, n, (y.keep D _ h1 K.dn fun q => (hT D q).2.2 rfl).val (show Value.type "list" ≠ Value.type "frame" by decide), h2.ext eV⟩
  · obtain ⟨ys, n, h1, _⟩ := K.dobj
    exact y.apart h1 K.dn
theorem VRs.append {h : Heap} {ρ : List Addr} : ∀ {vs ws : List V} {xs ys : List Value}, VRs C h ρ vs xs → VRs C h ρ ws ys → VRs C h ρ (vs ++ ws) (xs ++ ys)
  | [], _, _, _, h1, h2 => by simp only [VRs] at h1; subst h1; exact h2
  | v :: vs, ws, _, ys, h1, h2 => by
    simp only [VRs] at h1
    obtain ⟨x, xs, rfl, q1, q2⟩ := h1
    show VRs C h ρ (v :: (vs ++ ws)) (x :: (xs ++ ys))
    simp only [VRs]
    exact ⟨x, xs ++ ys, rfl, q1, VRs.append q2 h2⟩
theorem VRs.one {h : Heap} {ρ : List Addr} {v : V} {x : Value} (r : VR C h ρ v x) : VRs C h ρ [v] [x] := by
  simp only [VRs]
  exact ⟨x, [], rfl, r, rfl⟩

/- a thing that stands is taken into the ledger -/
theorem State.take {s : Shared} {ρ : List Addr} {st : St} {D : Addr} {o : Ob} (hS : State C env sc ns s ρ st) (hn : D ∉ ρ) (hb : C.base.get? D = none) (hO : ¬ Own env D) (r : OR C s.heap (ρ ++ [D]) o D) : State C env sc ns s (ρ ++ [D]) { st with obs := st.obs ++ [o] } := by
  obtain ⟨ob, h1, h2⟩ := r.there
  have e : ExtV C s.heap ρ s.heap (ρ ++ [D]) := .take h1 h2
  have nin : ∀ {b : Addr}, b ∉ ρ → b ≠ D → b ∉ ρ ++ [D] := fun h1 h2 q => by
    rcases List.mem_append.mp q with q | q
    · exact h1 q
    · exact h2 (List.mem_singleton.mp q)
  refine ⟨hS.inv.take hn hb r, hS.frm.len, hS.frm.loc, nin hS.frm.locN fun q => hO (.inl q.symm), hS.frm.locB, fun x hx => ?_, hS.frm.inj, fun x i v q1 q2 q3 => ?_⟩
  · obtain ⟨c, v₀, q1, q2, q3, q4⟩ := hS.frm.cell x hx
    exact ⟨c, v₀, q1, q2, nin q3 fun q => hO (.inr ⟨x, hx, q ▸ q1⟩), q4⟩
  · obtain ⟨val, hl, hv⟩ := hS.frm.vals x i v q1 q2 q3
    exact ⟨val, hl, hv.ext e⟩
theorem Ext.taken {S : Addr → Prop} {s₀ s : Shared} {ρ₀ ρ : List Addr} {D : Addr} (x : Ext S s₀ ρ₀ s ρ) (h : s₀.heap.get? D = none) : Ext S s₀ ρ₀ s (ρ ++ [D]) :=
  ⟨by obtain ⟨t, rfl⟩ := x.pre; exact ⟨t ++ [D], by rw [List.append_assoc]⟩, fun a ha => by
    rcases List.mem_append.mp ha with q | q
    · exact x.fresh a q
    · cases List.mem_singleton.mp q; exact .inr h, x.keep, x.alive, x.gens, x.drawn, x.os⟩

/- the block's own cells -/
theorem cellsFrom_app : ∀ (names : List (Str × NameKind)) (n : Nat) (acc : List (Str × Addr)), cellsFrom n names acc = cellsFrom n names [] ++ acc
  | [], _, _ => rfl
  | (x, k) :: r, n, acc => by
    unfold cellsFrom
    split
    · rw [cellsFrom_app r (n + 1) ((x, n) :: acc), cellsFrom_app r (n + 1) [(x, n)], List.append_assoc]; rfl
    · exact cellsFrom_app r n acc
theorem cellsFrom_mem : ∀ {names : List (Str × NameKind)} {n : Nat} {acc : List (Str × Addr)} {x : Str} {c : Addr}, (x, c) ∈ cellsFrom n names acc → (x, NameKind.cell) ∈ names ∨ (x, c) ∈ acc
  | [], _, _, _, _, h => .inr h
  | (y, k) :: r, n, acc, x, c, h => by
    unfold cellsFrom at h
    split at h
    · rename_i hk
      rcases cellsFrom_mem h with q | q
      · exact .inl (.tail _ q)
      · cases q with
        | head => rw [eq_of_beq hk]; exact .inl (.head _)
        | tail _ q => exact .inr q
    · rcases cellsFrom_mem h with q | q
      · exact .inl (.tail _ q)
      · exact .inr q
theorem lookup_app {x : Str} : ∀ {l r : List (Str × Addr)}, (l ++ r).lookup x = (l.lookup x).or (r.lookup x)
  | [], r => by simp
  | (y, c) :: l, r => by
    rw [List.cons_append, List.lookup_cons, List.lookup_cons]
    cases x == y with
    | true => rfl
    | false => exact lookup_app
theorem newEnv_own {M : Model} {A : Around} {E : Value → Shared → Prop} {s : Shared} {scope : Scope} {g : Addr} {cl : List (Str × Addr)} {q : Str} {env : Env} {Q : Env → Shared → Prop}
    (h : Q { scope := scope, locals := s.heap.objs.size, globals := g, cells := cellsFrom (s.heap.objs.size + 1) scope.names cl, qual := q, func := none, code := env.code, frame := env.frame, builtins := env.builtins } { s with heap := pushCells (s.heap.push { cls := .type "dict", data := .dict #[] }) scope.names }) :
    wpAny M A (newFunctionEnv scope g cl [] q none .none (some env)) Q E s := by
  simp only [newFunctionEnv, Option.isSome_some, if_true]
  refine wpAny_bind (wpAny_alloc ?_)
  refine wpAny_bind (wpAny_layCells _ (fun name kind cells => by cases hkc : kind == NameKind.cell <;> simp [hkc]) _ _ _ _ ?_)
  rw [show ({ s with heap := s.heap.push { cls := .type "dict", data := .dict #[] } } : Shared).heap.objs.size = s.heap.objs.size + 1 from Heap.size_push ..]
  rw [List.forIn_nil]
  exact wpAny_bind (wpAny_pure (wpAny_pure h))
noncomputable def CompI (C : Cx) (cenv : Env) (cs : Scope) (ns' : List Str) (items : List V) (fp : List Addr) (P : Nat → Heap → Prop) (s₁ : Shared) (ρ₁ : List Addr) (D : Addr) (W : List V → List V → St → Prop) (n : Nat) (s : Shared) : Prop :=
  ∃ i ρ st done, n = items.length - i ∧ done.length ≤ i ∧ State C cenv cs ns' s ρ st ∧ CK C fp P s₁ ρ₁ D i done s ρ ∧ W done (items.drop i) st

theorem comp_core (hE : EnvOk env sc) (hg : CompGood sc ns cs xs) {t it elt : Expr} {ifs : List Expr} {pos pos' : Pos} {tg : Tg} {src : M Src} {mc : List (M Bool)} {me : M V}
    (ht : TgtR cs (ns ++ xs) t tg) (htn : ∀ x ∈ tname t, x ∈ xs) (hs : SrcSnd C d env sc ns t it src) (hset : ∀ x, foldedSetIterable it env x = pure x) (hifs : ifs.length ≤ 1)
    (hc : ∀ cenv, EnvOk cenv cs → All2 (SndB C d cenv cs (ns ++ xs)) ifs mc) (he : ∀ cenv, EnvOk cenv cs → SndE C d cenv cs (ns ++ xs) elt me)
    {use : Option (Value → Sem Unit)} {A : Around} {s₀ : Shared} {ρ₀ : List Addr} {st₀ : St} {Q : Value → Shared → Prop} {E : Value → Shared → Prop} {X : Str → St → Prop} {FIN : V → St → Prop}
    (hA : AOk d A) (hS₀ : State C env sc ns s₀ ρ₀ st₀) (hw : wpM (compM ns.length xs.length src tg (andM mc) me) st₀ FIN X) (hX : ∀ c st' x s' ρ', X c st' → Raised C env s₀ ρ₀ c st' x s' ρ' → E x s')
    (hfin : ∀ v st' val s' ρ' L, FIN v st' → VR C s'.heap ρ' v val → State C env sc ns s' ρ' st' → Ext Nil s₀ ρ₀ s' ρ' → (∃ m, s'.heap.Ns L m) → L ∉ ρ' → ¬ Own env L → C.base.get? L = none → s₀.heap.get? L = none →
      compPost (model C.prog C.w) A E use Q val L (.ok .next) s') :
    wpAny (model C.prog C.w) A (comprehension (.ListComp elt [⟨t, it, ifs, 0⟩] cs pos) cs env pos' (newList []) false (eval it env) use) Q E s₀ := by
  have hfree : ∀ p ∈ cs.names, p.2 = .free → (env.cells.lookup p.1).isSome = true := fun p hp hk => by
    obtain ⟨c, v₀, h1, _⟩ := hS₀.frm.cell p.1 (hE.ce p.1 (hg.free p hp hk))
    rw [h1]; rfl
  refine wpAny_comprehension_free (g := ⟨t, it, ifs, 0⟩) (gs := []) rfl hset (closure_eq hfree) hg.kind (fun p hp hl => lookup_of_nodup hg.nodup (by rw [← hl]; exact hp)) ?_
  generalize hcl : freeCells env cs.names [] = cl
  refine hs A s₀ ρ₀ st₀ _ E X hA hS₀ (wpM_mono (wpM_bind.mp hw) (fun sr st₁ hw₁ itv s₁ ρ₁ fp P hI hP hfp S₁ e₁ => ?_) fun _ _ h => h) hX
  by_cases hlen : sr.items.length ≤ lim
  case neg => rw [if_neg hlen] at hw₁; exact hw₁.elim
  rw [if_pos hlen] at hw₁
  have hw₂ := wpM_innerM.mp (wpM_bind.mp hw₁)
  refine wpAny_newList ?_ (by decide)
  refine newEnv_own ?_
  obtain ⟨D, hD⟩ : ∃ D : Nat, D = s₁.heap.objs.size := ⟨_, rfl⟩
  have sD : s₁.heap.objs.size ≤ D := Nat.le_of_eq hD.symm
  have sL : s₁.heap.objs.size ≤ D + 1 := Nat.le_succ_of_le sD
  have hDL : D ≠ D + 1 := Nat.ne_of_lt (Nat.lt_succ_self D)
  generalize hH : s₁.heap.push { cls := .type "list", data := .seq ([] : List Value).toArray } = H
  have hL : H.objs.size = D + 1 := by rw [← hH, Heap.size_push, hD]
  dsimp only
  rw [hL]
  generalize hh' : pushCells (H.push { cls := .type "dict", data := .dict #[] }) cs.names = h'
  have kH : ∀ b o, H.get? b = some o → h'.get? b = some o := fun b o e => by rw [← hh']; exact pushCells_keeps _ _ b o (Heap.get?_push_of_some _ e)
  have hns' : h'.Ns (D + 1) (fun _ => none) := by
    have := (Heap.Ns.new H (.type "dict")).keeps (pushCells_keeps cs.names _)
    rw [hh', hL] at this
    exact this
  have g : Grows s₁.heap h' := fun b o hb => kH b o (by rw [← hH]; exact Heap.get?_push_of_some _ hb)
  have hDobj : h'.get? D = some { cls := .type "list", data := .seq ([] : List Value).toArray 0 } := kH D _ (by rw [← hH, hD]; exact Heap.get?_push_size _ rfl)
  have hO : CellsOk h' (D + 1 + 1) (cellsFrom (D + 1 + 1) cs.names []) := by
    have ok := cellsFrom_ok cs.names (H.push { cls := .type "dict", data := .dict #[] }) (D + 1 + 1) [] ⟨fun _ _ hm => (nomatch hm), List.Pairwise.nil⟩ (by rw [Heap.size_push, hL]; exact Nat.le_refl _)
    rw [Heap.size_push, hL, hh'] at ok
    exact ok
  generalize hO' : cellsFrom (D + 1 + 1) cs.names [] = O at hO
  have hcells : cellsFrom (D + 1 + 1) cs.names cl = O ++ cl := by rw [cellsFrom_app, hO']
  rw [hcells]
  have oLook : ∀ {x : Str}, (x, NameKind.cell) ∈ cs.names → ∃ c, (O ++ cl).lookup x = some c ∧ (x, c) ∈ O := fun {x} hx => by
    have : (O.lookup x).isSome = true := by rw [← hO']; exact cells_lookup (.inl hx)
    obtain ⟨c, hc⟩ := Option.isSome_iff_exists.mp this
    exact ⟨c, by rw [lookup_app, hc]; rfl, lookup_mem hc⟩
  have oNone : ∀ {x : Str}, (x, NameKind.free) ∈ cs.names → (O ++ cl).lookup x = cl.lookup x := fun {x} hx => by
    rw [lookup_app]
    cases q : O.lookup x with
    | none => rfl
    | some c =>
      have hm := lookup_mem q
      rw [← hO'] at hm
      rcases cellsFrom_mem hm with hc | hc
      · have h1 := lookup_of_nodup hg.nodup hx
        rw [lookup_of_nodup hg.nodup hc] at h1
        cases h1
      · cases hc
  show codeAny _ _ (.compStart _ 0 itv (.ref s₁.heap.objs.size) (compEnvC cs (O ++ cl) (D + 1) env)) (compPost _ _ E use Q (.ref s₁.heap.objs.size) (D + 1)) { s₁ with heap := h' }
  have n₁ : ∀ {b : Addr}, s₁.heap.objs.size ≤ b → s₁.heap.get? b = none := fun hb => Heap.get?_none_of_le hb
  have notIn : ∀ {b : Addr}, s₁.heap.objs.size ≤ b → b ∉ ρ₁ := fun hb hm => by
    obtain ⟨o', ho'⟩ := S₁.inv.mem hm
    rw [n₁ hb] at ho'; cases ho'
  have notB : ∀ {b : Addr}, s₁.heap.objs.size ≤ b → C.base.get? b = none := fun {b} hb => by
    cases q : C.base.get? b with
    | none => rfl
    | some o' => have := S₁.inv.base b o' q; rw [n₁ hb] at this; cases this
  have notOwn : ∀ {b : Addr}, s₁.heap.objs.size ≤ b → ¬ Own env b := fun {b} hb ho => by
    rcases ho with rfl | ⟨x, hk, hc'⟩
    · obtain ⟨m, o', _, _, ho', _⟩ := S₁.frm.loc; rw [n₁ hb] at ho'; cases ho'
    · obtain ⟨c, v₀, q1, ⟨o', q2, _⟩, _⟩ := S₁.frm.cell x hk
      rw [hc'] at q1; cases q1; rw [n₁ hb] at q2; cases q2
  have fpNot : ∀ {b : Addr}, b ∈ fp → b < s₁.heap.objs.size := fun {b} hb => by
    obtain ⟨o, vs, h1, _⟩ := hI.there 0 _ hP b hb
    exact Heap.lt_size h1
  have hcE : EnvOk (compEnvC cs (O ++ cl) (D + 1) env) cs := compEnv_ok hE hg
  have hlk : ∀ {x : Str}, (x, NameKind.free) ∈ cs.names → (O ++ cl).lookup x = env.cells.lookup x := fun {x} hx => by rw [oNone hx, ← hcl]; exact (freeCells_lookup hg.nodup hfree).1 hx
  rw [← hD]
  have S₃ : State C (compEnvC cs (O ++ cl) (D + 1) env) cs (ns ++ xs) { s₁ with heap := h' } ρ₁ { st₁ with vars := st₁.vars.take ns.length ++ List.replicate xs.length none } := by
    have hx : Ext Nil s₁ ρ₁ { s₁ with heap := h' } ρ₁ := Ext.grows (t := s₁.toks) g
    have F := S₁.frm.ext hx
    have hv : st₁.vars.take ns.length = st₁.vars := List.take_of_length_le (by rw [S₁.frm.len]; exact Nat.le_refl _)
    refine ⟨S₁.inv.grows g, ?_, ⟨_, hns'⟩, notIn sL, notB sL, fun x hx => ?_, fun x y c h1 h2 h3 h4 => ?_, fun x i v h1 h2 h3 => ?_⟩
    · simp [hv, S₁.frm.len]
    · rcases compEnv_cell hE hg hx with ⟨h1, h2⟩ | h1
      · obtain ⟨c, v₀, q1, q2, q3, q4⟩ := F.cell x h2
        exact ⟨c, v₀, (hlk h1).trans q1, q2, q3, q4⟩
      · obtain ⟨c, q1, q2⟩ := oLook h1
        obtain ⟨q3, q4⟩ := hO.empty x c q2
        have hc' : s₁.heap.objs.size ≤ c := Nat.le_trans sL (Nat.le_trans (Nat.le_succ _) q4)
        exact ⟨c, none, q1, q3, notIn hc', notB hc'⟩
    · have old : ∀ {z : Str}, (z, NameKind.free) ∈ cs.names → env.kindOf z = some .cell → (O ++ cl).lookup z = some c → c < s₁.heap.objs.size := fun {z} z1 z2 z3 => by
        obtain ⟨c', v₀, p1, ⟨o, p2, _⟩, _⟩ := S₁.frm.cell z z2
        rw [hlk z1, p1] at z3
        cases z3
        exact Heap.lt_size p2
      have new : ∀ {z : Str}, (z, NameKind.cell) ∈ cs.names → (O ++ cl).lookup z = some c → (z, c) ∈ O ∧ s₁.heap.objs.size ≤ c := fun {z} z1 z2 => by
        obtain ⟨c', p1, p2⟩ := oLook z1
        rw [z2] at p1
        cases p1
        exact ⟨p2, Nat.le_trans sL (Nat.le_trans (Nat.le_succ _) (hO.empty z c p2).2)⟩
      rcases compEnv_cell hE hg h1 with ⟨a1, a2⟩ | a1
      · rcases compEnv_cell hE hg h2 with ⟨b1, b2⟩ | b1
        · exact F.inj x y c a2 b2 ((hlk a1).symm.trans h3) ((hlk b1).symm.trans h4)
        · exact absurd (old a1 a2 h3) (Nat.not_lt.mpr (new b1 h4).2)
      · rcases compEnv_cell hE hg h2 with ⟨b1, b2⟩ | b1
        · exact absurd (old b1 b2 h4) (Nat.not_lt.mpr (new a1 h3).2)
        · exact cells_inj hO.apart (new a1 h3).1 (new b1 h4).1
    · dsimp only at h3
      rw [hv] at h3
      have hi : i < st₁.vars.length := by
        refine Nat.lt_of_not_le fun hle => ?_
        rw [List.getElem?_append_right hle, List.getElem?_replicate] at h3
        split at h3 <;> cases h3
      rw [List.getElem?_append_left hi] at h3
      have hxx : x ∉ xs := fun q => by have := idxLast_append_mem q h2; have := S₁.frm.len; omega
      rw [idxLast_append_not hxx] at h2
      have hmem : x ∈ ns := List.mem_of_getElem? (idxLast_get h2)
      have hfr : (x, NameKind.free) ∈ cs.names := by
        unfold isVar at h1
        split at h1
        · rename_i e; rcases hg.loc _ (lookup_mem e) rfl with q | q
          · exact absurd q hxx
          · exact absurd hmem q
        · rename_i e; exact absurd (hg.cellx _ (lookup_mem e) rfl) hxx
        · rename_i e; exact lookup_mem e
        · cases h1
      have hsc := hg.free _ hfr rfl
      have hk := hE.ce x hsc
      have hvar : isVar sc x = true := by unfold isVar; rcases hsc with q | q <;> (dsimp only at q; rw [q])
      obtain ⟨val, hl, hr⟩ := F.vals x i v hvar h2 h3
      refine ⟨val, ?_, hr⟩
      rcases hl with ⟨k, _⟩ | ⟨k, c, q1, q2⟩
      · rw [hk] at k; cases k
      · exact .inr ⟨hcE.ce x (.inr (lookup_of_nodup hg.nodup hfr)), c, (hlk hfr).trans q1, q2⟩
  have K₃ : CK C fp P s₁ ρ₁ D 0 [] { s₁ with heap := h' } ρ₁ := by
    refine ⟨hI.frame 0 _ _ hP fun b hb o ho => g b o ho, fun b hb => (hfp b hb).1, Ext.grows g, ⟨_, 0, hDobj, ?_⟩, notIn sD⟩
    simp [VRs]
  have loop : codeAny (model C.prog C.w) A (.compLoop (.ListComp elt [⟨t, it, ifs, 0⟩] cs pos) 0 itv (.ref D) (compEnvC cs (O ++ cl) (D + 1) env)) (compPost (model C.prog C.w) A E use Q (.ref D) (D + 1)) { s₁ with heap := h' } := by
    refine compLoop_any (CompI C (compEnvC cs (O ++ cl) (D + 1) env) cs (ns ++ xs) sr.items fp P s₁ ρ₁ D fun done rest st => wpM (compItems tg (andM mc) me sr.chk rest) st (fun vs st' => wpM (alloc (.list (done ++ vs))) { st₁ with obs := st'.obs } FIN X) (fun c st' => X c { st₁ with obs := st'.obs })) ?_ _
      ⟨0, ρ₁, _, [], rfl, Nat.le_refl _, S₃, K₃, by simpa using hw₂⟩
    rintro n s ⟨i, ρ, st, done, hn, hdl, hS, K, hwi⟩
    have fpOk : ∀ b : Addr, b ∈ fp → b ∉ ρ ∧ C.base.get? b = none ∧ ∃ o vs, s.heap.get? b = some o ∧ o.data = .fields vs ∧ o.cls ≠ .type "frame" ∧ isVal o = false :=
      fun b hb' => ⟨K.fpn b hb', (hfp b hb').2.2, hI.there i _ K.p b hb'⟩
    have ownT : ∀ b, (D + 1 ≤ b ∧ Own (compEnvC cs (O ++ cl) (D + 1) env) b) → Own (compEnvC cs (O ++ cl) (D + 1) env) b ∧ s₁.heap.get? b = none ∧ b ≠ D := fun b hb => ⟨hb.2, n₁ (Nat.le_trans sL hb.1), fun q => Nat.not_succ_le_self D (q ▸ hb.1)⟩
    /- only the iterator moves -/
    have iter : ∀ {h₂ : Heap} {tk₂ : Nat} {j : Nat}, (∀ b o, b ∉ fp → s.heap.get? b = some o → h₂.get? b = some o) → (∀ b : Addr, b ∈ fp → ∃ o', h₂.get? b = some o') → P j h₂ → CK C fp P s₁ ρ₁ D j done { s with heap := h₂, toks := tk₂ } ρ := fun {h₂ tk₂ j} hk hal hp => by
      have eV : ExtV C s.heap ρ h₂ ρ := ⟨⟨[], by simp⟩, fun b o hb hn' hv => ⟨hk b o (fun q => by
        obtain ⟨_, _, o', vs, h1, _, _, h4⟩ := fpOk b q
        rw [hb] at h1; cases h1; rw [h4] at hv; cases hv) hb, hn'⟩⟩
      refine ⟨hp, K.fpn, K.ext.trans (Ext.fp' hk hal), ?_, K.dn⟩
      obtain ⟨ys, n', h1, h2⟩ := K.dobj
      exact ⟨ys, n', hk D _ (fun q => absurd (fpNot q) (Nat.not_lt.mpr sD)) h1, h2.ext eV⟩
    cases hit : sr.items[i]? with
    | none =>
      rw [drop_of_none hit] at hwi
      obtain ⟨hchk, hq⟩ := wpM_chkObs (wpM_bind.mp hwi)
      refine hI.done i A s ρ st.obs _ _ hA hS.inv K.ext.pre hchk K.p K.fpn hit fun h₂ tk₂ hk => ?_
      have E₀ : Ext Nil s₀ ρ₀ { s with heap := h₂, toks := tk₂ } ρ := (e₁.over K.ext fun b hb => (hfp b hb).2.1).fp hk fun b hb => (hfp b hb).2.1
      have F₁ : Frm C s.heap ρ env sc ns st₁.vars := S₁.frm.extS K.ext (fun b hb => by obtain ⟨o, vs, h1, h2, _⟩ := hI.there 0 _ hP b hb; exact Own.notFields S₁.frm h1 h2)
        (fun b o hb ho => by obtain ⟨o', vs, h1, _, _, h4⟩ := hI.there 0 _ hP b hb; rw [ho] at h1; cases h1; exact h4)
      have SA : State C env sc ns s ρ { st₁ with obs := st.obs } := ⟨hS.inv, F₁⟩
      have SB := SA.fp (tk := tk₂) hk fpOk
      obtain ⟨ys, n', hDo, hvs⟩ := K.dobj
      have hDo₂ : h₂.get? D = some { cls := .type "list", data := .seq ys n' } := hk D _ (fun q => absurd (fpNot q) (Nat.not_lt.mpr sD)) hDo
      have eV : ExtV C s.heap ρ h₂ ρ := ⟨⟨[], by simp⟩, fun b o hb hn' hv => ⟨hk b o (fun q => by
        obtain ⟨_, _, o', vs, h1, _, _, h4⟩ := fpOk b q
        rw [hb] at h1; cases h1; rw [h4] at hv; cases hv) hb, hn'⟩⟩
      have r : OR C h₂ (ρ ++ [D]) (.list done) D := ⟨ys, n', hDo₂, (hvs.ext eV).ext (.take hDo₂ rfl)⟩
      have SC := SB.take K.dn (notB sD) (notOwn sD) r
      have hq' : FIN (.ref st.obs.length) { st₁ with obs := st.obs ++ [.list done] } := by simpa [wpM_alloc, wpM_pure] using hq
      have d0 : s₀.heap.get? D = none := e₁.was (n₁ sD)
      refine hfin _ _ (.ref D) _ (ρ ++ [D]) (D + 1) hq' ?_ SC (E₀.taken d0) ?_ ?_ (notOwn sL) (notB sL) (e₁.was (n₁ sL))
      · simp only [VR]
        exact ⟨D, rfl, by rw [← hS.inv.len]; simp⟩
      · obtain ⟨m, o, es, ep, ho, hd⟩ := hS.frm.loc
        exact ⟨m, o, es, ep, hk _ o (fun q => absurd (fpNot q) (Nat.not_lt.mpr sL)) ho, hd⟩
      · intro q
        rcases List.mem_append.mp q with q | q
        · exact hS.frm.locN q
        · exact hDL (List.mem_singleton.mp q).symm
    | some v =>
      have hlt : i < sr.items.length := (List.getElem?_eq_some_iff.mp hit).1
      rw [drop_of_some hit] at hwi
      obtain ⟨hchk, hq⟩ := wpM_chkObs (wpM_bind.mp hwi)
      refine hI.next i A s ρ st.obs _ _ _ v hA hS.inv K.ext.pre hchk K.p K.fpn hit (fun val s₁ h => h) fun val h₂ tk₂ hv hP' hk => ?_
      have S₂ := hS.fp (tk := tk₂) hk fpOk
      have K₂ := iter (tk₂ := tk₂) hk (fun b hb => let ⟨o, _, h1, _⟩ := hI.there _ _ hP' b hb; ⟨o, h1⟩) hP'
      refine at_asg (S := fun b => D + 1 ≤ b ∧ Own (compEnvC cs (O ++ cl) (D + 1) env) b) hcE (fun b q => q.2) ht hv (fun x b _ h2 h3 => ?_) A _ _ (fun c st' => X c { st₁ with obs := st'.obs }) hA S₂ (wpM_mono (wpM_bind.mp hq) (fun _ st₃ h₃ _ s₃ ρ₃ _ S₃ e₃ => ?_) fun _ _ h => h) (fun _ _ _ _ _ _ r => r.elim)
      · refine ⟨?_, h3.own⟩
        rcases h3 with ⟨_, q⟩ | ⟨q, q'⟩
        · exact Nat.le_of_eq (show D + 1 = b from q.symm)
        · rcases hg.own x (htn x h2) with hl | hl
          · have hk' := hcE.lo x hl
            rw [hk'] at q; cases q
          · obtain ⟨c, p1, p2⟩ := oLook (lookup_mem hl)
            have q'' : (O ++ cl).lookup x = some b := q'
            rw [p1] at q''
            cases q''
            exact Nat.le_trans (Nat.le_succ _) (hO.empty x _ p2).2
      have K₃ := K₂.step hI S₂ e₃ ownT
      refine (snd_tests hifs (hc _ hcE)) A s₃ ρ₃ st₃ _ _ (fun c st' => X c { st₁ with obs := st'.obs }) hA S₃ (wpM_mono (wpM_bind.mp h₃) (fun b st₄ h₄ b' s₄ ρ₄ r₄ S₄ e₄ => ?_) fun _ _ h => h) (fun _ _ _ _ _ _ r => r.elim)
      cases r₄
      have K₄ := K₃.step hI S₃ e₄ (fun b q => q.elim)
      cases b with
      | false => exact ⟨sr.items.length - (i + 1), by omega, i + 1, ρ₄, st₄, done, rfl, by omega, S₄, K₄, h₄⟩
      | true =>
        refine (he _ hcE) A s₄ ρ₄ st₄ _ _ (fun c st' => X c { st₁ with obs := st'.obs }) hA S₄ (wpM_mono (wpM_bind.mp h₄) (fun w st₅ h₅ val₅ s₅ ρ₅ r₅ S₅ e₅ => ?_) fun _ _ h => h) (fun _ _ _ _ _ _ r => r.elim)
        have K₅ := K₄.step hI S₄ e₅ (fun b q => q.elim)
        obtain ⟨ys, n', hDo, hvs⟩ := K₅.dobj
        have hys : ys.size = done.length := by have := hvs.len; simp at this; exact this.symm
        refine wpAny_list_append_plain ⟨n', hDo⟩ (fun h₆ hpl hs₆ => ?_) (by rw [hys]; exact Nat.le_trans hdl (Nat.le_trans (Nat.le_of_lt hlt) hlen))
        obtain ⟨n₆, hD₆⟩ := hpl
        have keep₆ : ∀ b o, ¬ b = D → s₅.heap.get? b = some o → h₆.get? b = some o := fun b o hb e => (hs₆.2 b hb).trans e
        have nOwn : ¬ Own (compEnvC cs (O ++ cl) (D + 1) env) D := fun q => by
          rcases q with q | ⟨x, q1, q2⟩
          · exact hDL q
          · obtain ⟨c, v₀, p1, ⟨o, p2, p3⟩, _⟩ := S₅.frm.cell x q1
            rw [q2] at p1; cases p1; rw [hDo] at p2; cases p2; cases p3
        have S₆ := S₅.off (F := fun b => b = D) (tk := s₅.toks) keep₆ fun b hb => by subst hb; exact ⟨K₅.dn, notB sD, nOwn, fun o ho => by rw [hDo] at ho; cases ho; rfl⟩
        have eV : ExtV C s₅.heap ρ₅ h₆ ρ₅ := .one hDo rfl keep₆
        have K₆ : CK C fp P s₁ ρ₁ D (i + 1) (done ++ [w]) { s₅ with heap := h₆, toks := s₅.toks } ρ₅ := by
          refine ⟨hI.frame _ _ _ K₅.p fun b hb o ho => keep₆ b o (fun q => absurd (fpNot hb) (by rw [q]; exact Nat.not_lt.mpr sD)) ho, K₅.fpn, K₅.ext.over (Ext.one keep₆ hD₆) fun b q => q ▸ n₁ sD, ⟨_, n₆, hD₆, ?_⟩, K₅.dn⟩
          rw [Array.toList_push]
          exact (hvs.ext eV).append (.one (r₅.ext eV))
        refine ⟨sr.items.length - (i + 1), by omega, i + 1, ρ₅, st₅, done ++ [w], rfl, by simp; omega, S₆, K₆, ?_⟩
        refine wpM_mono (wpM_bind.mp h₅) (fun vs st' hv' => ?_) fun _ _ h => h
        have hv'' := wpM_pure.mp hv'
        rw [List.append_assoc]; exact hv''
  exact codeAny_compStart_list loop (hI.self 0 A _ _ _ K₃.p loop)
end
end Mine
set_option autoImplicit false
set_option linter.unusedVariables false
namespace Mine
open PySem PyProof.Rows
section
variable {C : Cx} {d : Nat} {env : Env} {sc cs : Scope} {ns xs : List Str}
/- the block's own names go -/
theorem State.letGo {s : Shared} {ρ : List Addr} {st : St} {L : Addr} {h' : Heap} (hS : State C env sc ns s ρ st) (hns : ∃ m, s.heap.Ns L m) (hn : L ∉ ρ) (hO : ¬ Own env L) (hb : C.base.get? L = none) (hs : Heap.SameBut L s.heap h') :
    State C env sc ns { s with heap := h' } ρ st ∧ ∀ {v : V} {val : Value}, VR C s.heap ρ v val → VR C h' ρ v val := by
  obtain ⟨m, o, es, ep, ho, hd, _⟩ := hns
  have k : ∀ b o, ¬ b = L → s.heap.get? b = some o → h'.get? b = some o := fun b o hb e => (hs.2 b hb).trans e
  have S' := hS.off (F := fun b => b = L) (tk := s.toks) k fun b hb' => by subst hb'; exact ⟨hn, hb, hO, fun o' ho' => by rw [ho] at ho'; cases ho'; exact isVal_dict hd⟩
  exact ⟨S', fun r => r.ext (.one ho (isVal_dict hd) k)⟩
theorem Ext.letGo {S : Addr → Prop} {s₀ s : Shared} {ρ₀ ρ : List Addr} (x : Ext S s₀ ρ₀ s ρ) {L : Addr} {h' : Heap} (hs : Heap.SameBut L s.heap h') (h0 : s₀.heap.get? L = none) : Ext S s₀ ρ₀ { s with heap := h' } ρ := by
  have nl : ∀ b o, s₀.heap.get? b = some o → b ≠ L := fun b o hb q => by rw [q, h0] at hb; cases hb
  refine ⟨x.pre, x.fresh, fun b o hb hn hS => ?_, fun b o hb => ?_, x.gens, x.drawn, x.os⟩
  · rcases x.keep b o hb hn hS with q | ⟨hc, sl, q⟩
    · exact .inl ((hs.2 b (nl b o hb)).trans q)
    · exact .inr ⟨hc, sl, (hs.2 b (nl b o hb)).trans q⟩
  · obtain ⟨o', ho'⟩ := x.alive b o hb
    exact ⟨o', (hs.2 b (nl b o hb)).trans ho'⟩
theorem snd_comp (hE : EnvOk env sc) (hg : CompGood sc ns cs xs) {t it elt : Expr} {ifs : List Expr} {pos : Pos} {tg : Tg} {src : M Src} {mc : List (M Bool)} {me : M V}
    (ht : TgtR cs (ns ++ xs) t tg) (htn : ∀ x ∈ tname t, x ∈ xs) (hs : SrcSnd C d env sc ns t it src) (hset : ∀ x, foldedSetIterable it env x = pure x) (hifs : ifs.length ≤ 1)
    (hc : ∀ cenv, EnvOk cenv cs → All2 (SndB C d cenv cs (ns ++ xs)) ifs mc) (he : ∀ cenv, EnvOk cenv cs → SndE C d cenv cs (ns ++ xs) elt me) :
    SndE C d env sc ns (.ListComp elt [⟨t, it, ifs, 0⟩] cs pos) (compM ns.length xs.length src tg (andM mc) me) := .of fun A s ρ st Q E X hA hS hw => by
  rw [eval_ListComp]
  refine comp_core (use := none) hE hg ht htn hs hset hifs hc he hA hS hw.1 hw.2 fun v st' val s' ρ' L hf hr hS' e' hns hn hO hb h0 => ?_
  obtain ⟨m, hm⟩ := id hns
  refine ⟨m, hm, fun h' hsb => ?_⟩
  obtain ⟨S₂, r₂⟩ := hS'.letGo hns hn hO hb hsb
  exact hf val _ ρ' (r₂ hr) S₂ (e'.letGo hsb h0)
theorem snd_assignComp (hE : EnvOk env sc) (hg : CompGood sc ns cs xs) {x : Str} {p pos pos' : Pos} {i : Nat} {t it elt : Expr} {ifs : List Expr} {tg : Tg} {src : M Src} {mc : List (M Bool)} {me : M V}
    (hx : isVar sc x = true) (hi : idxLast ns x = some i)
    (ht : TgtR cs (ns ++ xs) t tg) (htn : ∀ x ∈ tname t, x ∈ xs) (hs : SrcSnd C d env sc ns t it src) (hset : ∀ x, foldedSetIterable it env x = pure x) (hifs : ifs.length ≤ 1)
    (hc : ∀ cenv, EnvOk cenv cs → All2 (SndB C d cenv cs (ns ++ xs)) ifs mc) (he : ∀ cenv, EnvOk cenv cs → SndE C d cenv cs (ns ++ xs) elt me) :
    SndX C d env sc ns (.Assign [.Name x p] (.ListComp elt [⟨t, it, ifs, 0⟩] cs pos) pos') (assignM (.var i) (compM ns.length xs.length src tg (andM mc) me)) := by
  obtain ⟨b, hb⟩ : ∃ b, swapsWith (.ListComp elt [⟨t, it, ifs, 0⟩] cs pos) (some (.Name x p)) pos'.line env = pure b := ⟨_, rfl⟩
  cases b with
  | false => exact snd_assignName hE (snd_comp hE hg ht htn hs hset hifs hc he) hx hi hb
  | true =>
    refine .of fun A s ρ st Q E X hA hS hw => ?_
    rw [exec_Assign_arm]
    refine wpAny_bind (wpAny_standAt ?_)
    have hb2 : swapsWithSole [.Name x p] (.ListComp elt [⟨t, it, ifs, 0⟩] cs pos) pos'.line env = pure true := hb
    rw [hb2]
    refine wpAny_bind (wpAny_pure ?_)
    rw [if_pos rfl]
    refine wpAny_bind ?_
    rw [arm_evalThenUse_ListComp]
    refine wpAny_bind ?_
    have hw1 := wpM_bind.mp hw.1
    refine comp_core (Q := fun _ s' => wpAny _ A (pure ()) (fun _ s'' => wpAny _ A (pure PySem.Flow.next) Q E s'') E s') hE hg ht htn hs hset hifs hc he hA hS hw1 hw.2 fun v st' val s' ρ' L hf hr hS' e' hns hn hO hb' h0 => ?_
    show wpAny _ A (assign (.Name x p) env val) _ E s'
    show wpAny _ A (do standAt p; bindName env x val) _ E s'
    refine wpAny_bind (wpAny_standAt (wpAny_bindName ?_))
    refine at_store (S := Own env) hE hx hi hr (fun _ q => q.own) A _ E X hA hS' (wpM_mono (wpM_bind.mp hf) (fun _ st₂ h₂ _ s₂ ρ₂ _ S₂ e₂ => ?_) fun _ _ h => h) (fun _ _ _ _ _ _ r => r.elim)
    obtain ⟨m, o, es, ep, ho, hd⟩ := id hns
    have hL₂ : ∃ m, s₂.heap.Ns L m := by
      obtain ⟨o', h1, _, h2, _⟩ := (e₂.keep L o ho hn hO).data
      exact ⟨m, o', es, ep, h1, h2.trans hd.1, hd.2⟩
    obtain ⟨m₂, hm₂⟩ := id hL₂
    refine ⟨m₂, hm₂, fun h' hsb => ?_⟩
    obtain ⟨S₃, _⟩ := S₂.letGo hL₂ (e₂.apart ho hn) hO hb' hsb
    exact wpAny_pure (wpAny_pure (h₂ _ _ _ rfl S₃ ((e'.nil.trans e₂).letGo hsb h0)))
end
end Mine
set_option autoImplicit false
set_option linter.unusedVariables false
namespace Mine
open PySem PyProof.Rows
/- the numbers of ranges that the laws use fit -/
theorem small_range {lo hi : Int} (h : smallR lo hi = true) : Builtin.Range.small lo hi 1 = true ∧ Builtin.Range.rangeSize lo hi 1 = max (hi - lo) 0 := by
  simp only [smallR, Bool.and_eq_true, decide_eq_true_eq] at h
  obtain ⟨⟨⟨h1, h2⟩, h3⟩, h4⟩ := h
  have hs : Builtin.Range.rangeSize lo hi 1 = max (hi - lo) 0 := by
    unfold Builtin.Range.rangeSize
    simp only [show (1 : Int) > 0 from by decide, if_true]
    split
    · rw [Int.ediv_one]; omega
    · omega
  refine ⟨?_, hs⟩
  unfold Builtin.Range.small
  rw [hs]
  unfold Builtin.Range.rangeFitsLong
  simp only [show (1 : Int) > 0 from by decide, if_true, Bool.and_eq_true, Bool.or_eq_true, decide_eq_true_eq]
  refine ⟨⟨⟨⟨⟨?_, ?_⟩, ?_, ?_⟩, ?_, ?_⟩, ?_, ?_⟩, .inr ⟨?_, ?_⟩⟩ <;> omega
section
variable {C : Cx} {d : Nat} {env : Env} {sc : Scope} {ns : List Str}
theorem src_value {target e : Expr} {m : M V} (h : SndE C d env sc ns e m) : SrcSnd C d env sc ns target e (m.bind toSrc) := by
  intro A s₀ ρ₀ st₀ Q E X hA hS₀ hw hX
  refine h A s₀ ρ₀ st₀ _ E X hA hS₀ (wpM_mono (wpM_bind.mp hw) (fun v st₁ hw₁ val s₁ ρ₁ r₁ S₁ e₁ => ?_) fun _ _ h => h) hX
  obtain ⟨src, hsrc, hq⟩ := wpM_withObs.mp hw₁
  /- a new iterator I on top of the heap -/
  have new : ∀ (o : Obj) (P : Nat → Heap → Prop), IterOk C d target src.items src.chk (.ref s₁.heap.objs.size) [s₁.heap.objs.size] P ρ₁ → P 0 (s₁.heap.push o) → Q (.ref s₁.heap.objs.size) { s₁ with heap := s₁.heap.push o } := fun o P hI hP => by
    have g := Grows.push s₁.heap o
    refine hq _ _ ρ₁ [s₁.heap.objs.size] P hI hP (fun b hb => ?_) (S₁.grows g s₁.toks) (e₁.trans (Ext.grows (t := s₁.toks) g))
    cases mem_one hb
    have hn : s₁.heap.get? s₁.heap.objs.size = none := Heap.get?_none_of_le (Nat.le_refl _)
    refine ⟨fun hm => ?_, e₁.was hn, ?_⟩
    · obtain ⟨o', ho'⟩ := S₁.inv.mem hm; rw [hn] at ho'; cases ho'
    · cases q : C.base.get? s₁.heap.objs.size with
      | none => rfl
      | some o' => have := S₁.inv.base _ o' q; rw [hn] at this; cases this
  cases v <;> first | cases hsrc | skip
  · /- str -/
    rename_i x
    obtain ⟨t, rfl⟩ := r₁
    exact wpAny_pyIter_strU (new _ _ (iter_str (t := t)) ⟨_, Heap.get?_push_size _ rfl, rfl, rfl⟩)
  · /- range -/
    rename_i lo hi
    dsimp only at hsrc
    split at hsrc
    case isFalse => cases hsrc
    case isTrue hsm =>
      cases hsrc
      simp only [VR] at r₁
      obtain ⟨a, t, u, k, rfl, hn, hr⟩ := r₁
      obtain ⟨h1, h2⟩ := small_range hsm
      refine wpAny_pyIter_range hr h1 (new _ _ iter_range ⟨max (hi - lo) 0, by omega, ?_⟩)
      have e0 : lo + ((0 : Nat) : Int) = lo := by simp
      rw [e0, ← h2]
      exact Heap.get?_push_size _ rfl
  · /- a list of the ledger -/
    rename_i r
    simp only [VR] at r₁
    obtain ⟨a, rfl, ha⟩ := r₁
    dsimp only at hsrc
    split at hsrc
    case h_2 => cases hsrc
    rename_i xs hxs
    cases hsrc
    obtain ⟨items, n, hl, hvs⟩ := S₁.inv.list hxs ha
    exact wpAny_pyIter_list ⟨_, hl, rfl, n, rfl⟩ (new _ _ (iter_list ha) ⟨_, Heap.get?_push_size _ rfl, rfl, rfl⟩)
end
end Mine
set_option autoImplicit false
set_option linter.unusedVariables false
namespace Mine
open PySem PyProof.Rows

/- names of the built-ins that the laws call -/
noncomputable def bltTab : List (Str × Value) := [(nm "len", .builtin "len"), (nm "isinstance", .builtin "isinstance"), (nm "sorted", .builtin "sorted"), (nm "max", .builtin "max"), (nm "list", .type "list"), (nm "tuple", .type "tuple"), (nm "int", .type "int"), (nm "str", .type "str"),
  (nm "set", .type "set"), (nm "dict", .type "dict"), (nm "range", .type "range"), (nm "enumerate", .type "enumerate"), (nm "zip", .type "zip"), (nm "bool", .type "bool"), (nm "ValueError", .type "ValueError")]
structure CxOk (C : Cx) (G : GI) : Prop where
  g : C.base.Ns mainGlobals C.mg
  b : C.base.Ns builtinsNs C.mb
  lim : C.base.NoLimit
  blt : ∀ x v, bltTab.lookup x = some v → G.fns.contains x = false → G.clss.contains x = false → (G.consts.lookup x).isNone = true → C.mg x = none ∧ C.mb x = some v
  const : ∀ x v, G.consts.lookup x = some v → ∃ val, C.mg x = some val ∧ ∀ h ρ, VR C h ρ v val
  cls : ∀ x, G.clss.contains x = true → ∃ a, C.mg x = some (.ref a)
section
variable {C : Cx} {d : Nat} {env : Env} {sc : Scope} {ns : List Str} {G : GI}
theorem Heap.Ns.grow {h h' : Heap} {a : Addr} {m : Str → Option Value} (x : h.Ns a m) (k : h.StaysIn h') : h'.Ns a m := let ⟨o, es, ep, h1, h2⟩ := x; ⟨o, es, ep, k _ _ h1, h2⟩
/- a global name of the text -/
theorem load_own (hC : CxOk C G) (hE : EnvOk env sc) {A : Around} {x : Str} {pos : Pos} {v : Value} {s : Shared} {ρ : List Addr} {st : St} {Q : Value → Shared → Prop} {E : Value → Shared → Prop} (hS : State C env sc ns s ρ st) (hx : isGlob sc x = true) (hv : C.mg x = some v) (h : Q v s) :
    wpAny (model C.prog C.w) A (eval (.Name x pos) env) Q E s :=
  Calls.Name_function_global hE.kind (hE.gl x hx) (Calls.loadGlobal_global (by rw [hE.glob]; exact Heap.Ns.grow hC.g hS.inv.base) hv h) (hE.dbg x (.inl hx))
theorem load_blt (hC : CxOk C G) (hE : EnvOk env sc) {A : Around} {x : Str} {pos : Pos} {v : Value} {s : Shared} {ρ : List Addr} {st : St} {Q : Value → Shared → Prop} {E : Value → Shared → Prop} (hS : State C env sc ns s ρ st) (hx : isGlob sc x = true) (h1 : C.mg x = none) (h2 : C.mb x = some v) (h : Q v s) :
    wpAny (model C.prog C.w) A (eval (.Name x pos) env) Q E s :=
  Calls.Name_function_global hE.kind (hE.gl x hx) (Calls.loadGlobal_builtin (by rw [hE.glob]; exact Heap.Ns.grow hC.g hS.inv.base) h1 (by rw [hE.blt]; exact Heap.Ns.grow hC.b hS.inv.base) h2 h) (hE.dbg x (.inl hx))

/- arguments -/
noncomputable def starE : Expr → Bool
  | .Starred .. => true
  | _ => false
noncomputable def ArgR (C : Cx) (d : Nat) (env : Env) (sc : Scope) (ns : List Str) (e : Expr) (m : M V) : Prop := starE e = false ∧ SndE C d env sc ns e m
theorem star_cons {e : Expr} {r : List Expr} (h : starE e = false) : starEach (e :: r) env = (false, eval e env) :: starEach r env := by
  cases e <;> first | rfl | cases h
theorem snd_args {pos : Pos} : ∀ {es : List Expr} {ms : List (M V)}, All2 (ArgR C d env sc ns) es ms → Snd C d env sc ns (VRs C) Nil (spliced (backTo pos (starEach es env))) (seqM ms)
  | [], [], _ => .of fun A s ρ st Q E X hA hS hw => wpAny_items_nil (hw.1 _ _ _ (by simp only [VRs]) hS (.refl ..))
  | e :: es, m :: ms, h => .of fun A s ρ st Q E X hA hS hw => by
    refine wpAny_items_cons ?_ (star_cons h.1.1)
    refine h.1.2.then hA hS hw fun v val s₁ ρ₁ st₁ r₁ S₁ e₁ hw₁ => ?_
    refine (snd_args h.2).then hA S₁ hw₁ fun vs vals s₂ ρ₂ st₂ r₂ S₂ e₂ hw₂ => ?_
    exact hw₂.1 _ _ _ (by simp only [VRs]; exact ⟨val, vals, rfl, r₁.ext e₂.extN, r₂⟩) S₂ (.refl ..)
  | [], _ :: _, h => h.elim
  | _ :: _, [], h => h.elim
theorem args_plain {pos : Pos} : ∀ {es : List Expr} {ms : List (M V)}, All2 (ArgR C d env sc ns) es ms → (backTo pos (starEach es env)).any (·.1) = false
  | [], [], _ => rfl
  | e :: es, m :: ms, h => by rw [star_cons h.1.1]; exact args_plain h.2
  | [], _ :: _, h => h.elim
  | _ :: _, [], h => h.elim
theorem evalArgs_any {M : Model} {A : Around} {E : Value → Shared → Prop} {s : Shared} {pos : Pos} {f : Value} {es : List Expr} {ms : List (Mine.M V)} {Q : Args → Shared → Prop} (ha : All2 (ArgR C d env sc ns) es ms)
    (h : wpAny M A (spliced (backTo pos (starEach es env))) (fun vs s' => Q ⟨vs, []⟩ s') E s) : wpAny M A (evalArgs f true (backTo pos (starEach es env)) []) Q E s := by
  cases es with
  | nil =>
    unfold evalArgs
    show wpAny M A (spliced [] >>= _) Q E s
    refine wpAny_bind (wpAny_mono h (fun vs s' h' => ?_) fun _ _ x => x)
    refine wpAny_holding ?_
    exact wpAny_bind (wpAny_pure (wpAny_bind (wpAny_pure (wpAny_pure h'))))
  | cons e es =>
    cases ms with
    | nil => exact ha.elim
    | cons m ms =>
      rw [star_cons ha.1.1] at h ⊢
      exact Calls.evalArgs_plain h

/- a call of a built-in function, of a type, of a def: the arguments, then the call -/
theorem snd_callB {pos : Pos} {es : List Expr} {ms : List (M V)} {id : String} {g : List V → M V} (ha : All2 (ArgR C d env sc ns) es ms)
    (h : ∀ vs vals s ρ st, VRs C s.heap ρ vs vals → At C d env sc ns (VR C) Nil (call (.builtin id) vals) (g vs) s ρ st) :
    Snd C d env sc ns (VR C) Nil (callWith pos (.builtin id) [] (backTo pos (starEach es env)) []) (appM g ms) := .of fun A s ρ st Q E X hA hS hw =>
  Calls.callWith_builtin (args_plain ha) (evalArgs_any ha ((snd_args ha).then hA hS hw fun vs vals s₁ ρ₁ st₁ r₁ S₁ e₁ hw₁ => by
    rw [List.nil_append]; exact (h vs vals s₁ ρ₁ st₁ r₁).go hA S₁ hw₁))
theorem snd_callT {pos : Pos} {es : List Expr} {ms : List (M V)} {T : String} {g : List V → M V} (ha : All2 (ArgR C d env sc ns) es ms)
    (h : ∀ vs vals s ρ st, VRs C s.heap ρ vs vals → At C d env sc ns (VR C) Nil (call (.type T) vals) (g vs) s ρ st) :
    Snd C d env sc ns (VR C) Nil (callWith pos (.type T) [] (backTo pos (starEach es env)) []) (appM g ms) := .of fun A s ρ st Q E X hA hS hw =>
  PyProof.Rows.callWith_type (args_plain ha) (evalArgs_any ha ((snd_args ha).then hA hS hw fun vs vals s₁ ρ₁ st₁ r₁ S₁ e₁ hw₁ => by
    rw [List.nil_append]; exact (h vs vals s₁ ρ₁ st₁ r₁).go hA S₁ hw₁))
theorem snd_callF {pos : Pos} {es : List Expr} {ms : List (M V)} {a : Addr} {o : Obj} {fd : FuncData} {g : List V → M V} (ha : All2 (ArgR C d env sc ns) es ms) (ho : C.base.get? a = some o) (hd : o.data = .func fd)
    (h : ∀ vs vals s ρ st, VRs C s.heap ρ vs vals → At C d env sc ns (VR C) Nil (call (.ref a) vals) (g vs) s ρ st) :
    Snd C d env sc ns (VR C) Nil (callWith pos (.ref a) [] (backTo pos (starEach es env)) []) (appM g ms) := .of fun A s ρ st Q E X hA hS hw =>
  Calls.callWith_function (o := o) (fd := fd) (evalArgs_any ha ((snd_args ha).then hA hS hw fun vs vals s₁ ρ₁ st₁ r₁ S₁ e₁ hw₁ => by
    rw [List.nil_append]; exact ⟨⟨S₁.inv.base _ _ ho, hd⟩, (h vs vals s₁ ρ₁ st₁ r₁).go hA S₁ hw₁⟩))
/- enumerate -/
theorem enum_get {xs : List V} {k i : Nat} {v : V} (h : (enumFrom k xs)[i]? = some v) : ∃ x, xs[i]? = some x ∧ v = .tuple [.int ((k + i : Nat) : Int), x] := by
  induction xs generalizing k i with
  | nil => simp [enumFrom] at h
  | cons x xs ih =>
    cases i with
    | zero => simp [enumFrom] at h; exact ⟨x, rfl, by rw [← h]; simp⟩
    | succ i =>
      simp [enumFrom] at h
      obtain ⟨y, h1, h2⟩ := ih h
      exact ⟨y, by simpa using h1, by rw [h2]; congr 3; omega⟩
theorem enum_none {xs : List V} {k i : Nat} (h : (enumFrom k xs)[i]? = none) : xs[i]? = none := by
  induction xs generalizing k i with
  | nil => simp
  | cons x xs ih =>
    cases i with
    | zero => simp [enumFrom] at h
    | succ i => simp [enumFrom] at h; simpa using ih (k := k + 1) (by simpa using h)
theorem iter_enum_list {elts : List Expr} {k0 : Nat} {tp : Pos} {ρ₀ : List Addr} {e I ax : Addr} {r : Nat} {xs : List V} (hr : ρ₀[r]? = some ax) (heI : e ≠ I) (hax : ax ≠ I) (hae : ax ≠ e) :
    IterOk C d (.Tuple elts k0 tp) (enumFrom 0 xs) [(r, .list xs)] (.ref e) [e, I] (fun i h => (∃ old, IsEnum h e I i old) ∧ h.IsListIter I ax i) ρ₀ where
  frame := fun i h h' hp hk => ⟨let ⟨o, q⟩ := hp.1; ⟨o, hk e (by simp) _ q⟩, hp.2.at fun o q => hk I (by simp) o q⟩
  there := fun i h hp b hb => by
    rcases List.mem_cons.mp hb with rfl | hb
    · obtain ⟨old, q⟩ := hp.1
      exact ⟨_, _, q, rfl, iterObj (n := "enumerate") rfl rfl (by decide) (by decide)⟩
    · cases mem_one hb
      obtain ⟨o, ho, hc, hd⟩ := hp.2
      exact ⟨o, _, ho, hd, iterObj hd hc (by decide) (by decide)⟩
  next := fun i A s ρ obs Q R E v hA hInv hpre hchk hp hn hv hR hQ => by
    obtain ⟨x, hx, rfl⟩ := enum_get hv
    obtain ⟨t, rfl⟩ := hpre
    have hax' : (ρ₀ ++ t)[r]? = some ax := by rw [List.getElem?_append_left (List.getElem?_eq_some_iff.mp hr).1]; exact hr
    obtain ⟨items, n, hl, hvs⟩ := hInv.list (hchk (r, .list xs) (by simp)) hax'
    obtain ⟨y, hy, hyv⟩ := hvs.getA hx
    obtain ⟨⟨old, he⟩, hit⟩ := hp
    obtain ⟨oI, hoI, hcI, hdI⟩ := id hit
    have hi : i < items.size := (Array.getElem?_eq_some_iff.mp hy).1
    refine wpAny_pyNext_enum_itemD (Draws.list (show A.in1.handled = none from hA.handled) I ax hax items) he ⟨hit, _, hl, rfl, n, rfl⟩ hi heI (by simp [heI, Ne.symm hae]) fun z h' tk hz hout hst htup hsz hk => hR _ _ ?_
    have hzy : z = y := by have : items[i]? = some z := hz; rw [hy] at this; exact (Option.some.inj this).symm
    subst hzy
    refine wpAny_letOwnedTupleGo_enum hout fun h'' he'' hs'' => ?_
    have hane : s.heap.objs.size ≠ e := Nat.ne_of_gt (Heap.lt_size he)
    have keep : ∀ b o, b ∉ [e, I] → s.heap.get? b = some o → h''.get? b = some o := fun b o hb q => (hs''.2 b fun z => hb (by simp [z])).trans (hk b o (fun z => hb (by simp [z])) (fun z => hb (by simp [z])) q)
    have eV : ExtV C s.heap (ρ₀ ++ t) h'' (ρ₀ ++ t) := ⟨⟨[], by simp⟩, fun b o hb hn' hv' => ⟨keep b o (fun q => by
      rcases List.mem_cons.mp q with rfl | q
      · have hb' := he.symm.trans hb; cases hb'; cases hv'
      · cases mem_one q; rw [hoI] at hb; cases hb; rw [(iterObj hdI hcI (by decide) (by decide)).2] at hv'; cases hv') hb, hn'⟩⟩
    have hnew : s.heap.get? s.heap.objs.size = none := Heap.get?_none_of_le (Nat.le_refl _)
    refine hQ _ h'' _ ?_ ⟨⟨_, by have := he''; rw [show ((i : Int) + 1) = ((i + 1 : Nat) : Int) from by omega] at this; exact this⟩, ?_⟩ keep
    · simp only [VR, VRs]
      refine ⟨_, #[.int i tk, z], rfl, ⟨_, (hs''.2 _ hane).trans htup, rfl, 0, rfl⟩, fun hm => ?_, _, _, rfl, ⟨tk, by simp⟩, _, _, rfl, hyv.ext eV, rfl⟩
      obtain ⟨o', ho'⟩ := hInv.mem hm
      rw [hnew] at ho'; cases ho'
    · obtain ⟨o', q1, q2⟩ := hst.1
      exact ⟨o', (hs''.2 I (Ne.symm heI)).trans q1, q2⟩
  done := fun i A s ρ obs Q E hA hInv hpre hchk hp hn hv hQ => by
    obtain ⟨t, rfl⟩ := hpre
    have hax' : (ρ₀ ++ t)[r]? = some ax := by rw [List.getElem?_append_left (List.getElem?_eq_some_iff.mp hr).1]; exact hr
    obtain ⟨items, n, hl, hvs⟩ := hInv.list (hchk (r, .list xs) (by simp)) hax'
    obtain ⟨⟨old, he⟩, hit⟩ := hp
    have hx := hvs.noneA (enum_none hv)
    exact wpAny_pyNext_enum_end hA.handled he hit ⟨_, hl, rfl, n, rfl⟩ hx fun h' hx => hQ h' s.toks fun b o hb q => hx b o (fun z => hb (by simp [z])) q
  self := fun i A s Q E hp hQ => let ⟨⟨old, he⟩, _⟩ := hp; wpAny_pyIter_enum he hQ
end
end Mine
set_option autoImplicit false
set_option linter.unusedVariables false
namespace Mine
open PySem PyProof.Rows
section
variable {C : Cx} {d : Nat} {env : Env} {sc : Scope} {ns : List Str}
theorem fresh_none {s : Shared} : s.heap.get? s.heap.objs.size = none := Heap.get?_none_of_le (Nat.le_refl _)
theorem State.notIn {s : Shared} {ρ : List Addr} {st : St} (hS : State C env sc ns s ρ st) {a : Addr} (h : s.heap.get? a = none) : a ∉ ρ := fun hm => by
  obtain ⟨o, ho⟩ := hS.inv.mem hm; rw [h] at ho; cases ho
theorem State.notB {s : Shared} {ρ : List Addr} {st : St} (hS : State C env sc ns s ρ st) {a : Addr} (h : s.heap.get? a = none) : C.base.get? a = none := by
  cases q : C.base.get? a with
  | none => rfl
  | some o => have := hS.inv.base _ o q; rw [h] at this; cases this
theorem State.notOwn {s : Shared} {ρ : List Addr} {st : St} (hS : State C env sc ns s ρ st) {a : Addr} (h : s.heap.get? a = none) : ¬ Own env a := by
  rintro (rfl | ⟨x, hk, hc⟩)
  · obtain ⟨m, o, es, ep, ho, _⟩ := hS.frm.loc; rw [h] at ho; cases ho
  · obtain ⟨c, v₀, q1, ⟨o, q2, _⟩, _⟩ := hS.frm.cell x hk
    rw [hc] at q1; cases q1; rw [h] at q2; cases q2
/- a new thing of the ledger -/
theorem State.made {s : Shared} {ρ : List Addr} {st : St} (hS : State C env sc ns s ρ st) {h' : Heap} {tk : Nat} {D : Addr} {o : Ob} (g : Grows s.heap h') (hD : s.heap.get? D = none) (r : OR C h' (ρ ++ [D]) o D) :
    State C env sc ns { s with heap := h', toks := tk } (ρ ++ [D]) { st with obs := st.obs ++ [o] } ∧ Ext Nil s ρ { s with heap := h', toks := tk } (ρ ++ [D]) ∧ VR C h' (ρ ++ [D]) (.ref st.obs.length) (.ref D) := by
  refine ⟨(hS.grows g tk).take (hS.notIn hD) (hS.notB hD) (hS.notOwn hD) r, Ext.take g hD, ?_⟩
  simp only [VR]
  exact ⟨D, rfl, by rw [← hS.inv.len]; simp⟩
/- a new list -/
theorem Rest.list {S : Addr → Prop} {s : Shared} {ρ : List Addr} {st : St} {Q : Value → Shared → Prop} {E : Value → Shared → Prop} {X : Str → St → Prop} {xs : List V} {items : Array Value} {n : Nat} {h' : Heap} {tk : Nat} {D : Addr} (hS : State C env sc ns s ρ st) (hr : Rest C env sc ns (VR C) S Q E X (alloc (.list xs)) s ρ st)
    (g : Grows s.heap h') (hD : s.heap.get? D = none) (ho : h'.get? D = some { cls := .type "list", data := .seq items n }) (hv : VRs C s.heap ρ xs items.toList) : Q (.ref D) { s with heap := h', toks := tk } := by
  have eV : ExtV C s.heap ρ h' (ρ ++ [D]) := (g.extV ρ).trans (.take ho rfl)
  obtain ⟨h1, h2, h3⟩ := hS.made (tk := tk) (o := .list xs) g hD ⟨items, n, ho, hv.ext eV⟩
  exact hr.1 _ _ _ h3 h1 h2.nil
theorem str_app (a b : List Nat) : (⟨a.toArray⟩ : Str) ++ (⟨b.toArray⟩ : Str) = ⟨(a ++ b).toArray⟩ := by
  show (⟨a.toArray ++ b.toArray⟩ : Str) = _
  simp
theorem str_len (a : List Nat) : (⟨a.toArray⟩ : Str).length = a.length := by show a.toArray.size = _; simp
theorem lim_line : lim = sizeLine := rfl

theorem mulOk {a b : Int} (h : a.natAbs.log2 + b.natAbs.log2 < 67108864) : IntMulOk a b := by
  unfold IntMulOk Builtin.Int.intTooBig
  have h1 : Builtin.Int.intBits a ≤ a.natAbs.log2 + 1 := by unfold Builtin.Int.intBits; split <;> omega
  have h2 : Builtin.Int.intBits b ≤ b.natAbs.log2 + 1 := by unfold Builtin.Int.intBits; split <;> omega
  simp only [Bool.and_eq_true, decide_eq_true_eq, not_and]
  intro _ q
  have : bitsLine ≥ 67108866 := by decide
  omega

theorem Rest.ite' {α : Type} {c : Prop} [Decidable c] {m : M α} {st : St} {Q : α → St → Prop} {X : Str → St → Prop} (h : wpM (if c then m else stuck) st Q X) : c ∧ wpM m st Q X := by
  by_cases hc : c
  · rw [if_pos hc] at h; exact ⟨hc, h⟩
  · rw [if_neg hc] at h; exact h.elim
theorem Rest.ite2 {α : Type} {c : Prop} [Decidable c] {m : M α} {st : St} {Q : α → St → Prop} {X : Str → St → Prop} (h : wpM (if c then stuck else m) st Q X) : ¬ c ∧ wpM m st Q X := by
  by_cases hc : c
  · rw [if_pos hc] at h; exact h.elim
  · rw [if_neg hc] at h; exact ⟨hc, h⟩
theorem Inv.isList {h : Heap} {ρ : List Addr} {obs : List Ob} (I : Inv C h ρ obs) {r : Nat} {xs : List V} {a : Addr} (ho : obs[r]? = some (.list xs)) (ha : ρ[r]? = some a) : ∃ items, h.IsList a items ∧ VRs C h ρ xs items.toList := by
  obtain ⟨items, n, h1, h2⟩ := I.list ho ha
  exact ⟨items, ⟨_, h1, rfl, n, rfl⟩, h2⟩

theorem at_add {x y : V} {vx vy : Value} {s : Shared} {ρ : List Addr} {st : St} (hx : VR C s.heap ρ x vx) (hy : VR C s.heap ρ y vy) : At C d env sc ns (VR C) Nil (binaryOp .Add vx vy) (addV x y) s ρ st := .of fun A Q E X hA hS hw => by
  cases x <;> first | exact hw.1.elim | skip
  · obtain ⟨j, rfl, h1⟩ := wpM_asInt.mp (wpM_bind.mp hw.1)
    obtain ⟨t, rfl⟩ := hx; obtain ⟨u, rfl⟩ := hy
    exact P.add_int (h1 _ _ _ ⟨_, rfl⟩ (hS.toks _) (.toks _))
  · obtain ⟨b, rfl, h1⟩ := wpM_asStr.mp (wpM_bind.mp hw.1)
    obtain ⟨t, rfl⟩ := hx; obtain ⟨u, rfl⟩ := hy
    obtain ⟨hl, h2⟩ := Rest.ite' h1
    refine add_str (fun t' tk => ?_) (by rw [str_len, str_len]; simpa [lim_line] using hl)
    rw [str_app]
    exact h2 _ _ _ ⟨_, rfl⟩ (hS.toks _) (.toks _)
  · obtain ⟨b, rfl, h1⟩ := wpM_asRef.mp (wpM_bind.mp hw.1)
    simp only [VR] at hx hy
    obtain ⟨la, rfl, ha⟩ := hx; obtain ⟨lb, rfl, hb⟩ := hy
    obtain ⟨xs, q1, h1⟩ := wpM_getList.mp (wpM_bind.mp h1)
    obtain ⟨ys, q2, h2⟩ := wpM_getList.mp (wpM_bind.mp h1)
    obtain ⟨i1, n1, o1, v1⟩ := hS.inv.list q1 ha
    obtain ⟨i2, n2, o2, v2⟩ := hS.inv.list q2 hb
    obtain ⟨hl, h2⟩ := Rest.ite' h2
    have e1 := v1.len
    have e2 := v2.len
    simp at e1 e2
    refine concat_meets ⟨_, o1, rfl⟩ ⟨_, o2, rfl⟩ noFill_list_add seq_list_add PySem.F.slot_list_add PySem.F.entry_list_add (PySem.F.args_list_add_2 _ _) (list_addW la lb i1 i2 n1 n2 none none #[] #[] (by rw [← e1, ← e2, ← lim_line]; simpa using hl)) ⟨o1, o2, ?_⟩
    exact Rest.list (tk := s.toks) hS ⟨h2, hw.2⟩ (Grows.push s.heap _) fresh_none (Heap.get?_push_size _ rfl) (by simpa using v1.append v2)
theorem at_bin {op : Operator} {x y : V} {vx vy : Value} {s : Shared} {ρ : List Addr} {st : St} (hx : VR C s.heap ρ x vx) (hy : VR C s.heap ρ y vy) : At C d env sc ns (VR C) Nil (binaryOp op vx vy) (binV op x y) s ρ st := by
  cases op
  case Add => exact at_add hx hy
  case Mult =>
    refine .of fun A Q E X hA hS hw => ?_
    obtain ⟨i, j, rfl, rfl, h⟩ := wpM_int2 hw.1
    obtain ⟨t, rfl⟩ := hx; obtain ⟨u, rfl⟩ := hy
    obtain ⟨hl, h1⟩ := Rest.ite' h
    exact P.mul_int (h1 _ _ _ ⟨_, rfl⟩ (hS.toks _) (.toks _)) (mulOk hl)
  case Sub =>
    refine .of fun A Q E X hA hS hw => ?_
    obtain ⟨i, j, rfl, rfl, h⟩ := wpM_int2 hw.1
    obtain ⟨t, rfl⟩ := hx; obtain ⟨u, rfl⟩ := hy
    exact P.sub_int (h _ _ _ ⟨_, rfl⟩ (hS.toks _) (.toks _))
  case Mod =>
    refine .of fun A Q E X hA hS hw => ?_
    obtain ⟨i, j, rfl, rfl, h⟩ := wpM_int2 hw.1
    obtain ⟨t, rfl⟩ := hx; obtain ⟨u, rfl⟩ := hy
    obtain ⟨hb, h1⟩ := Rest.ite2 h
    exact mod_int' hb (h1 _ _ _ ⟨_, rfl⟩ (hS.toks _) (.toks _))
  case FloorDiv =>
    refine .of fun A Q E X hA hS hw => ?_
    obtain ⟨i, j, rfl, rfl, h⟩ := wpM_int2 hw.1
    obtain ⟨t, rfl⟩ := hx; obtain ⟨u, rfl⟩ := hy
    obtain ⟨hb, h1⟩ := Rest.ite2 h
    rw [not_or] at hb
    exact floordiv_int hb.1 (h1 _ _ _ ⟨_, rfl⟩ (hS.toks _) (.toks _)) (.inl (PyProof.noPylong_small (by omega)))
  all_goals exact .of fun A Q E X hA hS hw => hw.1.elim

/- plain data -/
mutual
theorem datV_reads {h : Heap} {ρ : List Addr} {obs : List Ob} {f : V → Option PyData} (hf : ∀ a x dd, f (.ref a) = some dd → VR C h ρ (.ref a) x → ∃ as, Reads h x dd as) : ∀ {v : V} {x : Value} {dd : PyData}, datV obs f v = some dd → VR C h ρ v x → ∃ as, Reads h x dd as
  | .none, x, dd, e, r => by simp only [datV] at e; cases e; simp only [VR] at r; subst r; exact ⟨_, .none⟩
  | .bool b, x, dd, e, r => by simp only [datV] at e; cases e; simp only [VR] at r; subst r; exact ⟨_, .bool _⟩
  | .int i, x, dd, e, r => by simp only [datV] at e; cases e; simp only [VR] at r; obtain ⟨t, rfl⟩ := r; exact ⟨_, .int _ _⟩
  | .str s, x, dd, e, r => by simp only [datV] at e; cases e; simp only [VR] at r; obtain ⟨t, rfl⟩ := r; exact ⟨_, .str _ _⟩
  | .tuple vs, x, dd, e, r => by
    simp only [datV, Option.map_eq_some_iff] at e
    obtain ⟨l, e1, rfl⟩ := e
    simp only [VR] at r
    obtain ⟨a, items, rfl, ⟨o, ho, hc, n, hd⟩, _, hr⟩ := r
    obtain ⟨as, hq⟩ := datVs_reads hf e1 hr
    exact ⟨_, .tuple ho hc hd hq⟩
  | .ref a, x, dd, e, r => by simp only [datV] at e; exact hf a x dd e r
  | .flist _, _, _, e, _ => by simp [datV] at e
  | .range _ _, _, _, e, _ => by simp [datV] at e
  | .set _, _, _, e, _ => by simp [datV] at e
  | .exc _, _, _, e, _ => by simp [datV] at e
  | .own _, _, _, e, _ => by simp [datV] at e
  | .type _, _, _, e, _ => by simp [datV] at e
theorem datVs_reads {h : Heap} {ρ : List Addr} {obs : List Ob} {f : V → Option PyData} (hf : ∀ a x dd, f (.ref a) = some dd → VR C h ρ (.ref a) x → ∃ as, Reads h x dd as) : ∀ {vs : List V} {xs : List Value} {ds : List PyData}, datVs obs f vs = some ds → VRs C h ρ vs xs → ∃ as, ReadsAll h xs ds as
  | [], xs, ds, e, r => by simp only [datVs] at e; cases e; simp only [VRs] at r; subst r; exact ⟨_, .nil⟩
  | v :: vs, l, ds, e, r => by
    simp only [VRs] at r
    obtain ⟨x, xs, rfl, r1, r2⟩ := r
    simp only [datVs] at e
    split at e
    · rename_i dd l' e1 e2
      cases e
      obtain ⟨as, q1⟩ := datV_reads hf e1 r1
      obtain ⟨bs, q2⟩ := datVs_reads hf e2 r2
      exact ⟨_, .cons q1 q2⟩
    · cases e
end
theorem datR_reads {h : Heap} {ρ : List Addr} {obs : List Ob} (I : Inv C h ρ obs) : ∀ (n : Nat) (a : Nat) (x : Value) (dd : PyData), datR obs n (.ref a) = some dd → VR C h ρ (.ref a) x → ∃ as, Reads h x dd as
  | 0, _, _, _, e, _ => by simp [datR] at e
  | n + 1, a, x, dd, e, r => by
    simp only [datR] at e
    split at e
    · rename_i xs hxs
      simp only [Option.map_eq_some_iff] at e
      obtain ⟨l, e1, rfl⟩ := e
      simp only [VR] at r
      obtain ⟨ad, rfl, ha⟩ := r
      obtain ⟨items, k, ho, hv⟩ := I.list hxs ha
      obtain ⟨as, q⟩ := datVs_reads (fun a x dd => datR_reads I n a x dd) e1 hv
      exact ⟨_, .list ho rfl rfl q⟩
    · cases e
theorem dat_reads {h : Heap} {ρ : List Addr} {obs : List Ob} (I : Inv C h ρ obs) {v : V} {x : Value} {dd : PyData} (e : dat obs v = some dd) (r : VR C h ρ v x) : ∃ as, Reads h x dd as :=
  datV_reads (fun a x dd => datR_reads I 8 a x dd) e r
theorem eqO_some {obs : List Ob} {a b : V} {r : Bool} (h : eqO obs a b = some r) : ∃ x y, dat obs a = some x ∧ dat obs b = some y ∧ SeqAt.shaped x = true ∧ SeqAt.shaped y = true ∧ r = PyData.eqv x y := by
  unfold eqO at h
  split at h
  · rename_i x y h1 h2
    split at h
    · rename_i h3
      rw [Bool.and_eq_true] at h3
      cases h
      exact ⟨x, y, h1, h2, h3.1, h3.2, rfl⟩
    · cases h
  · cases h
theorem AOk.room {A : Around} (hA : AOk d A) : A.units + 64 < cLine := by have := hA.units; show A.units + 64 < 9900; omega
theorem at_eq {x y : V} {vx vy : Value} {s : Shared} {ρ : List Addr} {st : St} (hx : VR C s.heap ρ x vx) (hy : VR C s.heap ρ y vy) : At C d env sc ns RB Nil (compareOp .Eq vx vy) (pyEq x y) s ρ st := .of fun A Q E X hA hS hw => by
  obtain ⟨r, h1, h2⟩ := wpM_withObs.mp hw.1
  obtain ⟨a, b, q1, q2, q3, q4, rfl⟩ := eqO_some h1
  obtain ⟨as, r1⟩ := dat_reads hS.inv q1 hx
  obtain ⟨bs, r2⟩ := dat_reads hS.inv q2 hy
  exact eq_dataH r1 r2 q3 q4 hA.room (h2 _ _ _ rfl hS (.refl ..))
theorem at_ne {x y : V} {vx vy : Value} {s : Shared} {ρ : List Addr} {st : St} (hx : VR C s.heap ρ x vx) (hy : VR C s.heap ρ y vy) : At C d env sc ns RB Nil (compareOp .NotEq vx vy) ((pyEq x y).bind fun r => M.pure !r) s ρ st := .of fun A Q E X hA hS hw => by
  obtain ⟨r, h1, h2⟩ := wpM_withObs.mp (wpM_bind.mp hw.1)
  obtain ⟨a, b, q1, q2, q3, q4, rfl⟩ := eqO_some h1
  obtain ⟨as, r1⟩ := dat_reads hS.inv q1 hx
  obtain ⟨bs, r2⟩ := dat_reads hS.inv q2 hy
  exact ne_dataH r1 r2 q3 q4 hA.room (h2 _ _ _ rfl hS (.refl ..))
theorem VR.notNone {h : Heap} {ρ : List Addr} {v : V} {x : Value} (r : VR C h ρ v x) (hv : v ≠ .none) : x ≠ .none := by
  cases v <;> simp only [VR] at r
  · exact absurd rfl hv
  · subst r; simp
  · obtain ⟨t, rfl⟩ := r; simp
  · obtain ⟨t, rfl⟩ := r; simp
  · obtain ⟨a, i, rfl, _⟩ := r; simp
  · obtain ⟨a, t, u, k, rfl, _⟩ := r; simp
  · obtain ⟨a, i, rfl, _⟩ := r; simp
  · obtain ⟨a, rfl, _⟩ := r; simp
  · obtain ⟨a, rfl, _⟩ := r; simp
  · subst r; simp
theorem isNone_inv {v : V} {st : St} {Q : Bool → St → Prop} {X : Str → St → Prop} (h : wpM (isNoneM v) st Q X) : (v = .none ∧ Q true st) ∨ (v ≠ .none ∧ Q false st) := by
  cases v <;> first | exact h.elim | exact .inl ⟨rfl, h⟩ | exact .inr ⟨by simp, h⟩
theorem at_is {x y : V} {vx vy : Value} {s : Shared} {ρ : List Addr} {st : St} (hx : VR C s.heap ρ x vx) (hy : VR C s.heap ρ y vy) : At C d env sc ns RB Nil (compareOp .Is vx vy) (isV x y) s ρ st := .of fun A Q E X hA hS hw => by
  cases y <;> first | exact hw.1.elim | skip
  · cases hy
    rcases isNone_inv (show wpM (isNoneM x) st _ X from hw.1) with ⟨rfl, h⟩ | ⟨hn, h⟩
    · cases hx
      exact wpAny_is_self rfl (h _ _ _ rfl hS (.refl ..))
    · exact is_none_ne (hx.notNone hn) (h _ _ _ rfl hS (.refl ..))
  · obtain ⟨b, rfl, h⟩ := wpM_asBool.mp (wpM_bind.mp hw.1)
    cases hx; cases hy
    exact wpAny_is_plain rfl (h _ _ _ (by simp [RB, BEq.beq]) hS (.refl ..))
theorem at_isnot {x y : V} {vx vy : Value} {s : Shared} {ρ : List Addr} {st : St} (hx : VR C s.heap ρ x vx) (hy : VR C s.heap ρ y vy) : At C d env sc ns RB Nil (compareOp .IsNot vx vy) ((isV x y).bind fun r => M.pure !r) s ρ st := .of fun A Q E X hA hS hw => by
  have h0 := wpM_bind.mp hw.1
  cases y <;> first | exact h0.elim | skip
  · cases hy
    rcases isNone_inv (show wpM (isNoneM x) st _ X from h0) with ⟨rfl, h⟩ | ⟨hn, h⟩
    · cases hx
      exact wpAny_isNot_self rfl (h _ _ _ rfl hS (.refl ..))
    · exact isnot_none_ne (hx.notNone hn) (h _ _ _ rfl hS (.refl ..))
  · obtain ⟨b, rfl, h⟩ := wpM_asBool.mp (wpM_bind.mp h0)
    cases hx; cases hy
    exact wpAny_isNot_plain rfl (h _ _ _ (by simp [RB, BEq.beq]) hS (.refl ..))
theorem cmp_snd : CmpSnd C d env sc ns := by
  intro op x y vx vy s ρ st hx hy
  cases op
  case Eq => exact at_eq hx hy
  case NotEq => exact at_ne hx hy
  case Is => exact at_is hx hy
  case IsNot => exact at_isnot hx hy
  case In =>
    refine .of fun A Q E X hA hS hw => ?_
    obtain ⟨a, rfl, h1⟩ := wpM_asStr.mp (wpM_bind.mp hw.1)
    obtain ⟨b, rfl, h2⟩ := wpM_asStr.mp (wpM_bind.mp h1)
    obtain ⟨t, rfl⟩ := hx; obtain ⟨u, rfl⟩ := hy
    refine P.in_str (h2 _ _ _ ?_ hS (.refl ..))
    simp only [RB, occ, str_len]
  case NotIn =>
    refine .of fun A Q E X hA hS hw => ?_
    obtain ⟨a, rfl, h1⟩ := wpM_asStr.mp (wpM_bind.mp (wpM_bind.mp hw.1))
    obtain ⟨b, rfl, h2⟩ := wpM_asStr.mp (wpM_bind.mp h1)
    obtain ⟨t, rfl⟩ := hx; obtain ⟨u, rfl⟩ := hy
    refine P.notIn_str (h2 _ _ _ ?_ hS (.refl ..))
    simp only [RB, occ, str_len]
  case Lt =>
    refine .of fun A Q E X hA hS hw => ?_
    obtain ⟨i, j, rfl, rfl, h⟩ := wpM_int2 (f := fun a b => M.pure (decide (a < b))) hw.1
    obtain ⟨t, rfl⟩ := hx; obtain ⟨u, rfl⟩ := hy
    exact P.lt_int (h _ _ _ rfl hS (.refl ..))
  case LtE =>
    refine .of fun A Q E X hA hS hw => ?_
    obtain ⟨i, j, rfl, rfl, h⟩ := wpM_int2 (f := fun a b => M.pure (decide (a ≤ b))) hw.1
    obtain ⟨t, rfl⟩ := hx; obtain ⟨u, rfl⟩ := hy
    exact P.le_int (h _ _ _ rfl hS (.refl ..))
  case Gt =>
    refine .of fun A Q E X hA hS hw => ?_
    obtain ⟨i, j, rfl, rfl, h⟩ := wpM_int2 (f := fun a b => M.pure (decide (a > b))) hw.1
    obtain ⟨t, rfl⟩ := hx; obtain ⟨u, rfl⟩ := hy
    exact P.gt_int (h _ _ _ rfl hS (.refl ..))
  case GtE =>
    refine .of fun A Q E X hA hS hw => ?_
    obtain ⟨i, j, rfl, rfl, h⟩ := wpM_int2 (f := fun a b => M.pure (decide (a ≥ b))) hw.1
    obtain ⟨t, rfl⟩ := hx; obtain ⟨u, rfl⟩ := hy
    exact P.ge_int (h _ _ _ rfl hS (.refl ..))
end
end Mine
set_option autoImplicit false
set_option linter.unusedVariables false
namespace Mine
open PySem PyProof.Rows
section
variable {C : Cx} {d : Nat} {env : Env} {sc : Scope} {ns : List Str}
theorem Rest.ite {α β : Type} {R : Heap → List Addr → α → β → Prop} {S : Addr → Prop} {Q : β → Shared → Prop} {E : Value → Shared → Prop} {X : Str → St → Prop} {c : Prop} [Decidable c] {m : M α} {s : Shared} {ρ : List Addr} {st : St} (h : Rest C env sc ns R S Q E X (if c then m else stuck) s ρ st) : c ∧ Rest C env sc ns R S Q E X m s ρ st := by
  by_cases hc : c
  · rw [if_pos hc] at h; exact ⟨hc, h⟩
  · rw [if_neg hc] at h; exact h.1.elim
/- a new tuple -/
theorem Rest.tuple {S : Addr → Prop} {s : Shared} {ρ : List Addr} {st : St} {Q : Value → Shared → Prop} {E : Value → Shared → Prop} {X : Str → St → Prop} {xs : List V} {items : Array Value} {n : Nat} {h' : Heap} {tk : Nat} {D : Addr} (hS : State C env sc ns s ρ st) (hr : Rest C env sc ns (VR C) S Q E X (M.pure (.tuple xs)) s ρ st)
    (g : Grows s.heap h') (hD : s.heap.get? D = none) (ho : h'.get? D = some { cls := .type "tuple", data := .seq items n }) (hv : VRs C s.heap ρ xs items.toList) : Q (.ref D) { s with heap := h', toks := tk } := by
  refine hr.1 _ _ ρ ?_ (hS.grows g tk) (Ext.grows g)
  simp only [VR]
  exact ⟨D, items, rfl, ⟨_, ho, rfl, n, rfl⟩, hS.notIn hD, hv.ext (g.extV ρ)⟩
/- displays -/
theorem snd_list {es : List Expr} {pos : Pos} {ms : List (M V)} (ha : All2 (ArgR C d env sc ns) es ms) : SndE C d env sc ns (.List es pos) (listM ms) := .of fun A s ρ st Q E X hA hS hw => by
  refine wpAny_List ((snd_args ha).then hA hS hw fun vs vals s₁ ρ₁ st₁ r₁ S₁ e₁ hw₁ => ?_)
  obtain ⟨hl, hw₂⟩ := Rest.ite hw₁
  exact ⟨by rw [← r₁.len]; exact hl, Rest.list (tk := s₁.toks) S₁ hw₂ (Grows.push s₁.heap _) fresh_none (Heap.get?_push_size _ rfl) (by simpa using r₁)⟩
theorem snd_tuple {es : List Expr} {k : Nat} {pos : Pos} {ms : List (M V)} (ha : All2 (ArgR C d env sc ns) es ms) : SndE C d env sc ns (.Tuple es k pos) (tupM ms) := .of fun A s ρ st Q E X hA hS hw => by
  refine wpAny_Tuple ((snd_args ha).then hA hS hw fun vs vals s₁ ρ₁ st₁ r₁ S₁ e₁ hw₁ => ?_)
  obtain ⟨hl, hw₂⟩ := Rest.ite hw₁
  exact ⟨by rw [← r₁.len]; exact hl, Rest.tuple (tk := s₁.toks) S₁ hw₂ (Grows.push s₁.heap _) fresh_none (Heap.get?_push_size _ rfl) (by simpa using r₁)⟩

/- the list behind a value -/
theorem flist_isList {h : Heap} {ρ : List Addr} {obs : List Ob} (I : Inv C h ρ obs) {xs : List V} {v : Value} (r : VR C h ρ (.flist xs) v) : ∃ a items, v = .ref a ∧ h.IsList a items ∧ VRs C h ρ xs items.toList := by
  simp only [VR] at r
  obtain ⟨a, items, rfl, ⟨o, ho, r1⟩, hv⟩ := r
  exact ⟨a, items, rfl, ⟨o, I.base _ _ ho, r1⟩, hv⟩
/- built-in functions -/
theorem len_ok {n : Nat} (h : n ≤ lim) : (n : Int) < 2 ^ 63 := by
  have : lim = 16777216 := rfl
  omega
theorem at_len {vs : List V} {vals : List Value} {s : Shared} {ρ : List Addr} {st : St} (hv : VRs C s.heap ρ vs vals) : At C d env sc ns (VR C) Nil (call (.builtin "len") vals) (fLen vs) s ρ st := .of fun A Q E X hA hS hw => by
  have two : ∀ {n : Nat}, Rest C env sc ns (VR C) Nil Q E X (M.pure (V.int n)) s ρ st → Q (.int n (s.toks + 1)) { s with toks := s.toks + 1 + 1 } := fun h => h.1 _ _ _ ⟨_, rfl⟩ (hS.toks _) (.toks _)
  obtain ⟨hw1, hX⟩ := hw
  unfold fLen at hw1
  split at hw1
  · rename_i x
    have hw := (⟨hw1, hX⟩ : Rest C env sc ns (VR C) Nil Q E X _ s ρ st)
    simp only [VRs] at hv
    obtain ⟨_, _, rfl, ⟨t, rfl⟩, rfl⟩ := hv
    obtain ⟨hl, hw⟩ := Rest.ite hw
    exact P.len_str (by have := len_ok hl; rw [str_len]; omega) (by rw [str_len]; exact two hw)
  · rename_i x
    have hw := (⟨hw1, hX⟩ : Rest C env sc ns (VR C) Nil Q E X _ s ρ st)
    simp only [VRs, VR] at hv
    obtain ⟨_, _, rfl, ⟨a, items, rfl, ht, _, hx⟩, rfl⟩ := hv
    obtain ⟨hl, hw⟩ := Rest.ite hw
    have e := hx.len
    simp at e
    exact len_tuple ht (by rw [← e]; exact len_ok hl) (by rw [← e]; exact two hw)
  · rename_i x
    have hw := (⟨hw1, hX⟩ : Rest C env sc ns (VR C) Nil Q E X _ s ρ st)
    simp only [VRs] at hv
    obtain ⟨_, _, rfl, hx, rfl⟩ := hv
    obtain ⟨a, items, rfl, hl', hx⟩ := flist_isList hS.inv hx
    obtain ⟨hl, hw⟩ := Rest.ite hw
    have e := hx.len
    simp at e
    exact Calls.call_len_list hl' (by rw [← e]; exact len_ok hl) (by rw [← e]; exact two hw)
  · rename_i r
    have hw := (⟨hw1, hX⟩ : Rest C env sc ns (VR C) Nil Q E X _ s ρ st)
    simp only [VRs, VR] at hv
    obtain ⟨_, _, rfl, ⟨a, rfl, ha⟩, rfl⟩ := hv
    obtain ⟨xs, q1, h1⟩ := wpM_getList.mp (wpM_bind.mp hw.1)
    obtain ⟨items, hl', hx⟩ := hS.inv.isList q1 ha
    obtain ⟨hl, hw⟩ := Rest.ite (⟨h1, hw.2⟩ : Rest C env sc ns (VR C) Nil Q E X (lenM xs.length) s ρ st)
    have e := hx.len
    simp at e
    exact Calls.call_len_list hl' (by rw [← e]; exact len_ok hl) (by rw [← e]; exact two hw)
  · exact hw1.elim
theorem isi_mem {t : String} (h : isiTypes.contains t = true) : t = "int" ∨ t = "str" ∨ t = "bool" ∨ t = "list" := by
  simpa [isiTypes] using h
theorem at_isinstance {vs : List V} {vals : List Value} {s : Shared} {ρ : List Addr} {st : St} (hv : VRs C s.heap ρ vs vals) : At C d env sc ns (VR C) Nil (call (.builtin "isinstance") vals) (fIsinstance vs) s ρ st := .of fun A Q E X hA hS hw => by
  obtain ⟨hw1, hX⟩ := hw
  unfold fIsinstance at hw1
  split at hw1
  · rename_i v t
    have hw := (⟨hw1, hX⟩ : Rest C env sc ns (VR C) Nil Q E X _ s ρ st)
    simp only [VRs] at hv
    obtain ⟨x, _, rfl, hx, _, _, rfl, ht, rfl⟩ := hv
    simp only [VR] at ht
    subst ht
    obtain ⟨bv, h1, h2⟩ := wpM_withObs.mp hw.1
    obtain ⟨k, hk, h3⟩ := Option.bind_eq_some_iff.mp h1
    obtain ⟨b, h4, rfl⟩ := Option.map_eq_some_iff.mp h3
    unfold isiK at h4
    split at h4
    case isFalse => cases h4
    case isTrue hc =>
    have here : Q (.bool b) s := h2 _ _ _ rfl hS (.refl ..)
    have next : Q (.bool b) { s with toks := s.toks + 1 } := h2 _ _ _ rfl (hS.toks _) (.toks _)
    cases v with
    | bool _ =>
      cases hx; cases hk
      rcases isi_mem hc with rfl | rfl | rfl | rfl <;> cases h4
      · exact IsiPair.bool_int here
      · exact IsiPair.bool_str next
      · exact IsiPair.bool_bool here
      · exact IsiPair.bool_list next
    | int _ =>
      obtain ⟨t, rfl⟩ := hx; cases hk
      rcases isi_mem hc with rfl | rfl | rfl | rfl <;> cases h4
      · exact IsiPair.int_int here
      · exact IsiPair.int_str next
      · exact IsiPair.int_bool next
      · exact IsiPair.int_list next
    | str _ =>
      obtain ⟨t, rfl⟩ := hx; cases hk
      rcases isi_mem hc with rfl | rfl | rfl | rfl <;> cases h4
      · exact IsiPair.str_int next
      · exact IsiPair.str_str here
      · exact IsiPair.str_bool next
      · exact IsiPair.str_list next
    | ref r =>
      simp only [VR] at hx
      obtain ⟨a, rfl, ha⟩ := hx
      simp only [kindV] at hk
      split at hk
      · rename_i xs hxs
        cases hk
        obtain ⟨items, n, ho, _⟩ := hS.inv.list hxs ha
        rcases isi_mem hc with rfl | rfl | rfl | rfl <;> cases h4
        · exact IsiPair.list_int ho rfl next
        · exact IsiPair.list_str ho rfl next
        · exact IsiPair.list_bool ho rfl next
        · exact IsiPair.list_list ho rfl here
      · cases hk
    | _ => cases hk
  · exact hw1.elim
theorem at_list {vs : List V} {vals : List Value} {s : Shared} {ρ : List Addr} {st : St} (hv : VRs C s.heap ρ vs vals) : At C d env sc ns (VR C) Nil (call (.type "list") vals) (fList vs) s ρ st := .of fun A Q E X hA hS hw => by
  have key : ∀ {a : Addr} {T : String} {o : Obj} {items : Array Value} {n : Nat} {xs : List V}, (T = "list" ∨ T = "tuple") → s.heap.get? a = some o → o.cls = .type T → o.data = .seq items n → VRs C s.heap ρ xs items.toList → Rest C env sc ns (VR C) Nil Q E X (allocL xs) s ρ st → wpAny (model C.prog C.w) A (call (.type "list") [.ref a]) Q E s := fun hT ho hc hd hx hw => by
    obtain ⟨hl, hw⟩ := Rest.ite hw
    refine call_list_seq _ hT ho hc hd (fun h' c' g ho' => Rest.list (tk := s.toks) hS hw g fresh_none ho' hx) ?_
    have e := hx.len
    simp at e
    rw [← e]; exact hl
  obtain ⟨hw1, hX⟩ := hw
  unfold fList at hw1
  split at hw1
  · rename_i r
    have hw := (⟨hw1, hX⟩ : Rest C env sc ns (VR C) Nil Q E X _ s ρ st)
    simp only [VRs, VR] at hv
    obtain ⟨_, _, rfl, ⟨a, rfl, ha⟩, rfl⟩ := hv
    obtain ⟨xs, q1, h1⟩ := wpM_getList.mp (wpM_bind.mp hw.1)
    obtain ⟨items, n, ho, hx⟩ := hS.inv.list q1 ha
    exact key (.inl rfl) ho rfl rfl hx ⟨h1, hw.2⟩
  · rename_i x
    have hw := (⟨hw1, hX⟩ : Rest C env sc ns (VR C) Nil Q E X _ s ρ st)
    simp only [VRs, VR] at hv
    obtain ⟨_, _, rfl, ⟨a, items, rfl, ⟨o, ho, hc, n, hd⟩, _, hx⟩, rfl⟩ := hv
    exact key (.inr rfl) ho hc hd hx hw
  · rename_i x
    have hw := (⟨hw1, hX⟩ : Rest C env sc ns (VR C) Nil Q E X _ s ρ st)
    simp only [VRs] at hv
    obtain ⟨_, _, rfl, hx, rfl⟩ := hv
    obtain ⟨a, items, rfl, ⟨o, ho, hc, n, hd⟩, hx⟩ := flist_isList hS.inv hx
    exact key (.inl rfl) ho hc hd hx hw
  · exact hw1.elim
theorem at_range {vs : List V} {vals : List Value} {s : Shared} {ρ : List Addr} {st : St} (hv : VRs C s.heap ρ vs vals) : At C d env sc ns (VR C) Nil (call (.type "range") vals) (fRange vs) s ρ st := .of fun A Q E X hA hS hw => by
  obtain ⟨hw1, hX⟩ := hw
  unfold fRange at hw1
  split at hw1
  · rename_i n
    have hw := (⟨hw1, hX⟩ : Rest C env sc ns (VR C) Nil Q E X _ s ρ st)
    simp only [VRs, VR] at hv
    obtain ⟨_, _, rfl, ⟨t, rfl⟩, rfl⟩ := hv
    obtain ⟨hl, hw⟩ := Rest.ite hw
    refine call_range_1 (hw.1 _ _ ρ ?_ (hS.grows (Grows.push _ _) _) (Ext.grows (Grows.push _ _)))
    simp only [VR]
    exact ⟨_, _, _, _, rfl, hS.notIn fresh_none, IsRange.new ..⟩
  · rename_i a b
    have hw := (⟨hw1, hX⟩ : Rest C env sc ns (VR C) Nil Q E X _ s ρ st)
    simp only [VRs, VR] at hv
    obtain ⟨_, _, rfl, ⟨t, rfl⟩, _, _, rfl, ⟨u, rfl⟩, rfl⟩ := hv
    obtain ⟨hl, hw⟩ := Rest.ite hw
    refine call_range_2 (hw.1 _ _ ρ ?_ (hS.grows (Grows.push _ _) _) (Ext.grows (Grows.push _ _)))
    simp only [VR]
    exact ⟨_, _, _, _, rfl, hS.notIn fresh_none, IsRange.new ..⟩
  · exact hw1.elim
end
end Mine
set_option autoImplicit false
set_option linter.unusedVariables false
namespace Mine
open PySem PyProof.Rows
section
variable {C : Cx} {d : Nat} {env : Env} {sc : Scope} {ns : List Str}
theorem idxL_some {α : Type} {xs : List α} {i : Int} {v : α} (h : idxL xs i = some v) : (-(2 ^ 63) ≤ i ∧ i < 2 ^ 63) ∧ ((0 ≤ i ∧ xs[i.toNat]? = some v) ∨ (i < 0 ∧ -(xs.length : Int) ≤ i ∧ xs[(i + (xs.length : Int)).toNat]? = some v)) ∧ ∃ j, seqIndex? i xs.length = some j ∧ xs[j]? = some v := by
  have hb : big = 2 ^ 63 := by decide
  unfold idxL at h
  rw [hb] at h
  split at h
  · rename_i h0
    split at h
    · rename_i h1
      have hlt : i.toNat < xs.length := (List.getElem?_eq_some_iff.mp h).1
      refine ⟨⟨by omega, h1⟩, .inl ⟨h0, h⟩, i.toNat, ?_, h⟩
      unfold seqIndex?
      simp only [show ¬ i < 0 by omega, if_false]
      rw [if_pos (by simp; omega)]
    · cases h
  · rename_i h0
    split at h
    · rename_i h1
      have hlt : (i + (xs.length : Int)).toNat < xs.length := (List.getElem?_eq_some_iff.mp h).1
      refine ⟨⟨by omega, by omega⟩, .inr ⟨by omega, h1.1, h⟩, (i + (xs.length : Int)).toNat, ?_, h⟩
      unfold seqIndex?
      simp only [show i < 0 by omega, if_true]
      rw [if_pos (by simp; omega)]
    · cases h
theorem at_item_list {a : Addr} {items : Array Value} {xs : List V} {k : Int} {t : Tok} {v : V} {s : Shared} {ρ : List Addr} {A : Around} {Q : Value → Shared → Prop} {E : Value → Shared → Prop} (hl : s.heap.IsList a items) (hx : VRs C s.heap ρ xs items.toList) (hi : idxL xs k = some v) (h : ∀ x, VR C s.heap ρ v x → Q x s) :
    wpAny (model C.prog C.w) A (getItem (.ref a) (.int k t)) Q E s := by
  obtain ⟨⟨h1, h2⟩, h3, _⟩ := idxL_some hi
  have e := hx.len
  simp at e
  rcases h3 with ⟨h0, hg⟩ | ⟨h0, h4, hg⟩
  · obtain ⟨x, hx1, hx2⟩ := hx.getA hg
    exact wpAny_getItem_list hl h0 h2 hx1 (h x hx2)
  · obtain ⟨x, hx1, hx2⟩ := hx.getA hg
    exact wpAny_getItem_list_neg hl h0 (by rw [← e]; exact h4) h1 (by rw [← e]; exact hx1) (h x hx2)
noncomputable def sliceE : Expr → Bool
  | .Slice .. => true
  | _ => false
theorem subscripted_plain {slice : Expr} (h : sliceE slice = false) (o i : Value) : subscripted slice false o i = operate [o, i] (getItem o i) := by
  cases slice <;> first | rfl | cases h
theorem at_sub {value slice : Expr} (hs : sliceE slice = false) {x y : V} {vx vy : Value} {s : Shared} {ρ : List Addr} {st : St} (hx : VR C s.heap ρ x vx) (hy : VR C s.heap ρ y vy) : At C d env sc ns (VR C) Nil (subscriptTail value slice vx vy) (subV x y) s ρ st := .of fun A Q E X hA hS hw => by
  obtain ⟨hw1, hX⟩ := hw
  unfold subV at hw1
  split at hw1
  · rename_i x i
    obtain ⟨t, rfl⟩ := hx; obtain ⟨u, rfl⟩ := hy
    obtain ⟨r, h1, h2⟩ := wpM_ofOpt.mp hw1
    obtain ⟨c, h3, rfl⟩ := Option.map_eq_some_iff.mp h1
    obtain ⟨⟨b1, b2⟩, _, j, h4, h5⟩ := idxL_some h3
    refine tail_any (typeIs_str _ _ _) PySem.F.slot_str_getitem.lookup (PySem.P.getItem_str (c := c) (by simp; omega) ?_ (h2 _ _ _ ⟨_, rfl⟩ (hS.toks _) (.toks _))) (subscripted_plain hs _ _)
    rw [str_len, h4]
    show x.toArray[j]? = some c
    simpa using h5
  · rename_i x i
    simp only [VR] at hx
    obtain ⟨a, items, rfl, ht, _, hx⟩ := hx; obtain ⟨u, rfl⟩ := hy
    obtain ⟨r, h1, h2⟩ := wpM_ofOpt.mp hw1
    obtain ⟨⟨b1, b2⟩, _, j, h4, h5⟩ := idxL_some h1
    obtain ⟨z, h6, h7⟩ := hx.getA h5
    have e := hx.len
    simp at e
    exact tail_any ht.typeIs slot_tuple_getitem.lookup (getItem_tuple ht b1 b2 (by rw [← e]; exact h4) h6 (h2 _ _ _ h7 hS (.refl ..))) (subscripted_plain hs _ _)
  · rename_i x i
    obtain ⟨a, items, rfl, hl, hx⟩ := flist_isList hS.inv hx
    obtain ⟨u, rfl⟩ := hy
    obtain ⟨r, h1, h2⟩ := wpM_ofOpt.mp hw1
    exact tail_any hl.typeIs slot_list_getitem.lookup (at_item_list hl hx h1 fun z hz => h2 _ _ _ hz hS (.refl ..)) (subscripted_plain hs _ _)
  · rename_i a
    simp only [VR] at hx
    obtain ⟨ad, rfl, ha⟩ := hx
    obtain ⟨o, ho, h1⟩ := wpM_getOb.mp (wpM_bind.mp hw1)
    cases o <;> first | exact h1.elim | skip
    rename_i xs
    obtain ⟨i, rfl, h2⟩ := wpM_asInt.mp (wpM_bind.mp h1)
    obtain ⟨u, rfl⟩ := hy
    obtain ⟨r, h3, h4⟩ := wpM_ofOpt.mp h2
    obtain ⟨items, hl, hx⟩ := hS.inv.isList ho ha
    exact tail_any hl.typeIs slot_list_getitem.lookup (at_item_list hl hx h3 fun z hz => h4 _ _ _ hz hS (.refl ..)) (subscripted_plain hs _ _)
  · exact hw1.elim
theorem snd_sub {o i : Expr} {pos : Pos} {m k : M V} (hs : sliceE i = false) (ho : SndE C d env sc ns o m) (hi : SndE C d env sc ns i k) : SndE C d env sc ns (.Subscript o i pos) (subM m k) := .of fun A s ρ st Q E X hA hS hw =>
  Subscript_ (ho.then hA hS hw fun x vx s₁ ρ₁ st₁ r₁ S₁ e₁ hw₁ => hi.then hA S₁ hw₁ fun y vy s₂ ρ₂ st₂ r₂ S₂ e₂ hw₂ => (at_sub hs (r₁.ext e₂.extN) r₂).go hA S₂ hw₂)

/- slices -/
noncomputable def PartR (_ : Heap) (_ : List Addr) (i : Option Int) (v : Value) : Prop := IsPart v i
noncomputable def OptR (C : Cx) (d : Nat) (env : Env) (sc : Scope) (ns : List Str) : Option Expr → Option (M V) → Prop
  | none, none => True
  | some e, some m => SndE C d env sc ns e m
  | _, _ => False
theorem snd_part {e : Option Expr} {m : Option (M V)} (h : OptR C d env sc ns e m) : Snd C d env sc ns PartR Nil (evalPart e env) (optI m) := .of fun A s ρ st Q E X hA hS hw => by
  match e, m, h with
  | none, none, _ => rw [evalPart_none]; exact wpAny_pure (hw.1 _ _ _ .none hS (.refl ..))
  | some e, some m, h =>
    rw [evalPart_some]
    refine Snd.then h hA hS hw fun v val s₁ ρ₁ st₁ r₁ S₁ e₁ hw₁ => ?_
    obtain ⟨i, rfl, h2⟩ := wpM_asInt.mp (wpM_bind.mp hw₁.1)
    obtain ⟨t, rfl⟩ := r₁
    exact h2 _ _ _ (.int i t) S₁ (.refl ..)
theorem VRs.drop {h : Heap} {ρ : List Addr} : ∀ {vs : List V} {xs : List Value} (k : Nat), VRs C h ρ vs xs → VRs C h ρ (vs.drop k) (xs.drop k)
  | _, _, 0, r => r
  | [], _, k + 1, r => by simp only [VRs] at r; subst r; simp only [List.drop_nil, VRs]
  | v :: vs, _, k + 1, r => by
    simp only [VRs] at r
    obtain ⟨x, xs, rfl, _, h2⟩ := r
    exact VRs.drop k h2
theorem VRs.take {h : Heap} {ρ : List Addr} : ∀ {vs : List V} {xs : List Value} (k : Nat), VRs C h ρ vs xs → VRs C h ρ (vs.take k) (xs.take k)
  | _, _, 0, r => by simp only [List.take_zero, VRs]
  | [], _, k + 1, r => by simp only [VRs] at r; subst r; simp only [List.take_nil, VRs]
  | v :: vs, _, k + 1, r => by
    simp only [VRs] at r
    obtain ⟨x, xs, rfl, h1, h2⟩ := r
    simp only [List.take_succ_cons, VRs]
    exact ⟨x, _, rfl, h1, VRs.take k h2⟩
theorem VRs.slice {h : Heap} {ρ : List Addr} {vs : List V} {items : Array Value} (r : VRs C h ρ vs items.toList) (lo hi : Option Int) : VRs C h ρ (sliceL vs lo hi) (slicePick items lo hi none).toList := by
  have e := r.len
  simp at e
  rw [slicePick_plain]
  unfold sliceL
  rw [e]
  simpa using (r.drop _).take _
theorem snd_slice {o : Expr} {lo hi : Option Expr} {p pos : Pos} {m : M V} {ml mh : Option (M V)} (ho : SndE C d env sc ns o m) (hl : OptR C d env sc ns lo ml) (hh : OptR C d env sc ns hi mh) :
    SndE C d env sc ns (.Subscript o (.Slice lo hi none p) pos) (sliceM m ml mh) := .of fun A s ρ st Q E X hA hS hw => by
  refine Subscript_ (ho.then hA hS hw fun x vx s₁ ρ₁ st₁ r₁ S₁ e₁ hw₁ => ?_)
  refine wpAny_Slice ((snd_part hl).then hA S₁ hw₁ fun l vl s₂ ρ₂ st₂ r₂ S₂ e₂ hw₂ => (snd_part hh).then hA S₂ hw₂ fun u vu s₃ ρ₃ st₃ r₃ S₃ e₃ hw₃ => ?_)
  rw [evalPart_none]
  refine wpAny_pure ?_
  have hx := (r₁.ext e₂.extN).ext e₃.extN
  have g := Grows.push s₃.heap { cls := .type "slice", data := .fields #[vl, vu, .none] }
  have key : ∀ {a : Addr} {items : Array Value} {xs : List V}, s₃.heap.IsList a items → VRs C s₃.heap ρ₃ xs items.toList → Rest C env sc ns (VR C) Nil Q E X (if xs.length ≤ lim then alloc (.list (sliceL xs l u)) else stuck) s₃ ρ₃ st₃ → wpAny (model C.prog C.w) A (subscriptTail o (.Slice lo hi none p) (.ref a) (.ref s₃.heap.objs.size)) Q E { s₃ with heap := s₃.heap.push { cls := .type "slice", data := .fields #[vl, vu, .none] } } := fun {a items xs} hl hx hw => by
    obtain ⟨hle, hw⟩ := Rest.ite hw
    have hl' := Heap.IsList.push hl { cls := .type "slice", data := .fields #[vl, vu, .none] }
    refine tail_any hl'.typeIs slot_list_getitem.lookup ?_ rfl
    have e := hx.len
    simp at e
    refine wpAny_getItem_list_slice hl' (Heap.IsSliceOf.new ..) r₂ r₃ .none (by simp) ?_ (by rw [← e]; exact hle)
    have hw' : Rest C env sc ns (VR C) Nil Q E X (alloc (.list (sliceL xs l u))) { s₃ with heap := s₃.heap.push { cls := .type "slice", data := .fields #[vl, vu, .none] } } ρ₃ st₃ := Rest.mono (Ext.grows (t := s₃.toks) g) hw.1 hw.2
    exact Rest.list (tk := s₃.toks) (S₃.grows g s₃.toks) hw' (Grows.push _ _) fresh_none (Heap.get?_push_size _ rfl) ((hx.slice l u).ext (g.extV ρ₃))
  obtain ⟨hw1, hX⟩ := hw₃
  unfold sliceV at hw1
  split at hw1
  · rename_i x
    obtain ⟨hle, h1⟩ := Rest.ite' hw1
    obtain ⟨t, rfl⟩ := hx
    refine tail_any (typeIs_str _ _ _) PySem.F.slot_str_getitem.lookup ?_ rfl
    have hl : ∃ p : Option (Int × Tok), partValue p = vl ∧ p.map (·.1) = l := by cases r₂ with | none => exact ⟨none, rfl, rfl⟩ | int i t => exact ⟨some (i, t), rfl, rfl⟩
    have hu : ∃ p : Option (Int × Tok), partValue p = vu ∧ p.map (·.1) = u := by cases r₃ with | none => exact ⟨none, rfl, rfl⟩ | int i t => exact ⟨some (i, t), rfl, rfl⟩
    obtain ⟨pl, rfl, el⟩ := hl
    obtain ⟨pu, rfl, eu⟩ := hu
    subst el
    subst eu
    refine wpAny_getItem_str_slice (l := pl) (u := pu) (st := none) ⟨_, Heap.get?_push_size _ rfl, rfl, rfl⟩ rfl ?_
    refine post_val_or_str ⟨Nat.le_trans (Txt.slice_le _ _ _) (by rw [str_len]; exact hle), fun t' k => ?_⟩
    refine h1 _ _ ρ₃ ?_ (S₃.grows g k) (Ext.grows g)
    simp only [VR]
    exact ⟨t', rfl⟩
  · obtain ⟨a, items, rfl, hl, hx⟩ := flist_isList S₃.inv hx
    exact key hl hx ⟨hw1, hX⟩
  · simp only [VR] at hx
    obtain ⟨ad, rfl, ha⟩ := hx
    obtain ⟨xs, q1, h1⟩ := wpM_getList.mp (wpM_bind.mp hw1)
    obtain ⟨items, hl, hx⟩ := S₃.inv.isList q1 ha
    exact key hl hx ⟨h1, hX⟩
  · exact hw1.elim
end
end Mine
set_option autoImplicit false
set_option linter.unusedVariables false
namespace Mine
open PySem PyProof.Rows PySem.W
/- what is known of the heap that the run starts in: calls of level d are sound -/
structure Ok (C : Cx) (K : Frag) (G : GI) (W : Wd) (d : Nat) : Prop where
  cx : CxOk C G
  inK : K.In C.base
  fn : ∀ x, G.fns.contains x = true → ∃ a, C.mg x = some (.ref a) ∧ keepIn K (.ref a) = true ∧ FSnd C d a (W.cf (.fn x))
  meth : ∀ c k x, C.mg c = some (.ref k) → W.has c x = true → plainGet K k x = true ∧ ∃ f, findIn K (.ref k) x = some (some (.ref f)) ∧ isFn K (.ref f) = true ∧ keepIn K (.ref f) = true ∧ FSnd C d f (W.cf (.meth c x))
  fld : ∀ c k x, C.mg c = some (.ref k) → W.fld c x = true → plainGet K k x = true ∧ hasDictIn K k = true ∧ (∃ attr, findIn K (.ref k) x = some attr ∧ noGet K attr = true) ∧
    findIn K (.ref k) "__setattr__" = some (some (.builtin "object.__setattr__")) ∧ plainOver K k = true ∧ takerIn K k x = some none
  new : ∀ c k, C.mg c = some (.ref k) → W.has c (nm "__init__") = true → keepIn K (.ref k) = true ∧ makesIn K k = true ∧ ∃ f, findIn K (.ref k) "__init__" = some (some (.ref f)) ∧ isFn K (.ref f) = true ∧ FSnd C d f (W.cf (.meth c (nm "__init__")))
section
variable {C : Cx} {d : Nat} {env : Env} {sc : Scope} {ns : List Str} {K : Frag} {G : GI} {W : Wd}
theorem base_pure {o : Expr} {x : Str} (h : supE o = false) : attributeBase o x env (eval o env) = eval o env := by
  cases o with
  | Call f as ks p =>
    cases f with
    | Name i q =>
      cases as with
      | nil =>
        cases ks with
        | nil => cases h
        | cons _ _ => rfl
      | cons _ _ => rfl
    | _ => rfl
  | _ => rfl
/- a method call: the thing, the method, the arguments, the call -/
theorem Call_meth {prog : Program} {w : World} {A : Around} {E : Value → Shared → Prop} {s : Shared} {o : Expr} {name : Str} {apos pos : Pos} {args : List Expr} {Q : Value → Shared → Prop} (hs : supE o = false) (hplain : (backTo pos (starEach args env)).all (fun x => !x.1) = true) (hlen : args.length < 29) (hline : (apos.endLine == pos.line) = true)
    (h : wpAny (model prog w) A (eval o env) (fun ov s₁ => ∀ pl, wpAny (model prog w) A (getMethod ov name pl) (fun f s₂ => wpAny (model prog w) A (callWith pos f.1 f.2 (backTo pos (starEach args env)) []) Q E s₂) E s₁) E s) :
    wpAny (model prog w) A (eval (.Call (.Attribute o name apos) args [] pos) env) Q E s := by
  rw [arm_eval_Call, base_pure hs]
  refine wpAny_bind (wpAny_mono h (fun ov s₁ h₁ => wpAny_bind (wpAny_standAt ?_)) fun _ _ x => x)
  have hform : methodCallForm (args.length + ([] : List Keyword).length) (backTo pos (starEach args env)) (backToKw pos (keywordEach [] env)) = true := by
    unfold methodCallForm
    rw [hplain]
    show (true && true && decide (args.length + 0 + (if _ then 0 else 1) < 30)) = true
    rw [Bool.true_and, Bool.true_and, decide_eq_true_eq]
    split <;> omega
  have hpos : methodCallPos true o env apos pos = pure pos := by unfold methodCallPos; simp [hline]
  unfold methodCall
  rw [hform]
  unfold calleeOf
  rw [if_pos rfl]
  refine wpAny_bind (wpAny_holding (wpAny_mono (h₁ _) (fun f s₂ h₂ => ?_) fun _ _ x => x))
  obtain ⟨f, first⟩ := f
  exact wpAny_bind (wpAny_of_eq hpos h₂)
theorem args_all {pos : Pos} : ∀ {es : List Expr} {ms : List (M V)}, All2 (ArgR C d env sc ns) es ms → (backTo pos (starEach es env)).all (fun x => !x.1) = true
  | [], [], _ => rfl
  | e :: es, m :: ms, h => by rw [star_cons h.1.1]; exact args_all h.2
  | [], _ :: _, h => h.elim
  | _ :: _, [], h => h.elim
theorem Rest.assoc {α β : Type} {R : Heap → List Addr → α → β → Prop} {S : Addr → Prop} {Q : β → Shared → Prop} {E : Value → Shared → Prop} {X : Str → St → Prop} {m n : M α} {s : Shared} {ρ : List Addr} {st : St} (h : Rest C env sc ns R S Q E X m s ρ st) (e : ∀ Q', wpM m st Q' X → wpM n st Q' X) : Rest C env sc ns R S Q E X n s ρ st := ⟨e _ h.1, h.2⟩

/- a split, whatever the frame -/
theorem SplitAny {prog : Program} {w : World} {A : Around} {E : Value → Shared → Prop} {s : Shared} {x y : Str} {t u : Tok} {Q : Value → Shared → Prop} (hsz : x.length + 2 ≤ sizeLine) (hy : (y.length == 0) = false)
    (hq : ∀ l k, l.map (·.1) = Txt.split x y → Q (.ref s.heap.objs.size) { s with heap := s.heap.push { cls := .type "list", data := .seq (strValues l).toArray }, toks := k }) :
    wpAny (model prog w) A (call (.builtin "str.split") [.str x t, .str y u]) Q E s := by
  have hn : (Builtin.Str.partsBetween x (Builtin.Str.occurrences x y 0 x.length (x.length + 1)) y.length).length ≤ sizeLine := by
    have := StrLaws.occ_length_le_len x y 0 x.length (x.length + 1)
    unfold Builtin.Str.partsBetween
    simp only [List.length_map, List.length_zip, List.length_cons, List.length_append, List.length_nil]
    omega
  cases h1 : (decide (x.length < y.length) || decide (Builtin.Str.strKind x < Builtin.Str.strKind y))
  · cases hf : (Builtin.Str.occurrences x y 0 x.length (x.length + 1)).isEmpty
    · refine call_meets PySem.F.slot_str_split (typeIs_str _ _ _) PySem.F.entry_str_split (PySem.F.args_str_split_2 _ _) (meets_str_split_sep x y t u h1 hy hf (by omega) hn) ?_
      show wants Q E _ { s with toks := _, heap := s.heap.push { cls := .type "list", data := .seq (strsFrom s.toks (Builtin.Str.partsBetween x (Builtin.Str.occurrences x y 0 x.length (x.length + 1)) y.length)).toArray } }
      rw [strsFrom_eq]
      exact hq (numbered s.toks _) _ ((numbered_texts _ _).trans ((if_neg (ne_true_of_eq_false h1)).trans (if_neg (ne_true_of_eq_false hf))).symm)
    · refine call_meets PySem.F.slot_str_split (typeIs_str _ _ _) PySem.F.entry_str_split (PySem.F.args_str_split_2 _ _) (meets_str_split_not_found x y t u h1 hy hf) ?_
      exact hq [(x, t)] s.toks ((if_neg (ne_true_of_eq_false h1)).trans (if_pos hf)).symm
  · refine call_meets PySem.F.slot_str_split (typeIs_str _ _ _) PySem.F.entry_str_split (PySem.F.args_str_split_2 _ _) (meets_str_split_cannot_occur x y t u h1) ?_
    exact hq [(x, t)] s.toks (if_pos h1).symm
/- methods of built-in types -/
theorem strs_of {h : Heap} {ρ : List Addr} : ∀ {xs : List V} {vals : List Value} {ws : List (List Nat)}, strsOf xs = some ws → VRs C h ρ xs vals → ∃ l, vals = strValues l ∧ l.map (·.1) = ws.map mkS
  | [], vals, ws, e, r => by simp only [strsOf] at e; cases e; simp only [VRs] at r; subst r; exact ⟨[], rfl, rfl⟩
  | v :: xs, vals, ws, e, r => by
    simp only [VRs] at r
    obtain ⟨x, vals, rfl, r1, r2⟩ := r
    cases v <;> first | (simp [strsOf] at e; done) | skip
    rename_i s
    simp only [strsOf, Option.map_eq_some_iff] at e
    obtain ⟨ws, e1, rfl⟩ := e
    obtain ⟨t, rfl⟩ := r1
    obtain ⟨l, rfl, q⟩ := strs_of e1 r2
    exact ⟨(⟨s.toArray⟩, t) :: l, rfl, by simp [q, mkS]⟩
theorem at_join {vs : List V} {vals : List Value} {s : Shared} {ρ : List Addr} {st : St} (hv : VRs C s.heap ρ vs vals) : At C d env sc ns (VR C) Nil (call (.builtin "str.join") vals) (mJoin vs) s ρ st := .of fun A Q E X hA hS hw => by
  obtain ⟨hw1, hX⟩ := hw
  unfold mJoin at hw1
  split at hw1
  · rename_i sep a
    simp only [VRs, VR] at hv
    obtain ⟨_, _, rfl, ⟨t, rfl⟩, _, _, rfl, ⟨D, rfl, hD⟩, rfl⟩ := hv
    obtain ⟨xs, q1, h1⟩ := wpM_getList.mp (wpM_bind.mp hw1)
    obtain ⟨ws, q2, h2⟩ := wpM_ofOpt.mp (wpM_bind.mp h1)
    obtain ⟨hok, hw⟩ := Rest.ite (⟨h2, hX⟩ : Rest C env sc ns (VR C) Nil Q E X _ s ρ st)
    obtain ⟨items, hl, hx⟩ := hS.inv.isList q1 hD
    obtain ⟨l, q3, q4⟩ := strs_of q2 hx
    refine SC.join (l := l) (by rw [← q3]; simpa using hl) q4 hok fun t' k => hw.1 _ _ _ ?_ (hS.toks _) (.toks _)
    simp only [VR]
    exact ⟨t', by simp [mkS]⟩
  · exact hw1.elim
theorem at_count {vs : List V} {vals : List Value} {s : Shared} {ρ : List Addr} {st : St} (hv : VRs C s.heap ρ vs vals) : At C d env sc ns (VR C) Nil (call (.builtin "str.count") vals) (mCount vs) s ρ st := .of fun A Q E X hA hS hw => by
  obtain ⟨hw1, hX⟩ := hw
  unfold mCount at hw1
  split at hw1
  · rename_i x y
    simp only [VRs, VR] at hv
    obtain ⟨_, _, rfl, ⟨t, rfl⟩, _, _, rfl, ⟨u, rfl⟩, rfl⟩ := hv
    refine SC.count (hw1 _ _ _ ⟨s.toks, ?_⟩ (hS.toks _) (.toks _))
    unfold Txt.count occ
    rw [str_len]
  · exact hw1.elim
theorem at_append {vs : List V} {vals : List Value} {s : Shared} {ρ : List Addr} {st : St} (hv : VRs C s.heap ρ vs vals) : At C d env sc ns (VR C) Nil (call (.builtin "list.append") vals) (mAppend vs) s ρ st := .of fun A Q E X hA hS hw => by
  obtain ⟨hw1, hX⟩ := hw
  unfold mAppend at hw1
  split at hw1
  · rename_i a v
    simp only [VRs] at hv
    obtain ⟨_, _, rfl, hD, x, _, rfl, hx, rfl⟩ := hv
    simp only [VR] at hD
    obtain ⟨D, rfl, hD⟩ := hD
    obtain ⟨xs, q1, h1⟩ := wpM_getList.mp (wpM_bind.mp hw1)
    obtain ⟨hle, hw⟩ := Rest.ite (⟨h1, hX⟩ : Rest C env sc ns (VR C) Nil Q E X _ s ρ st)
    obtain ⟨hlt, h2⟩ := wpM_setOb.mp (wpM_bind.mp hw.1)
    obtain ⟨items, n, ho, hxs⟩ := hS.inv.list q1 hD
    have e := hxs.len
    simp at e
    refine wpAny_list_append_plain ⟨n, ho⟩ (fun h' hp hs => ?_) (by rw [← e]; exact hle)
    obtain ⟨n', ho'⟩ := hp
    have k : ∀ b o, b ≠ D → s.heap.get? b = some o → h'.get? b = some o := fun b o hb q => (hs.2 b hb).trans q
    have hm : D ∈ ρ := List.mem_of_getElem? hD
    have eV : ExtV C s.heap ρ h' ρ := .put hm k
    have ex : Ext Nil s ρ { s with heap := h', toks := s.toks } ρ := Ext.put hm k ho'
    refine h2 _ _ ρ rfl ⟨hS.inv.put hD k ⟨_, n', ho', ?_⟩, hS.frm.ext ex⟩ ex
    simpa using (hxs.append (.one hx)).ext eV
  · exact hw1.elim
theorem at_starts {vs : List V} {vals : List Value} {s : Shared} {ρ : List Addr} {st : St} (hv : VRs C s.heap ρ vs vals) : At C d env sc ns (VR C) Nil (call (.builtin "str.startswith") vals) (mStarts vs) s ρ st := .of fun A Q E X hA hS hw => by
  obtain ⟨hw1, hX⟩ := hw
  unfold mStarts at hw1
  split at hw1
  · obtain ⟨x, rfl, h1⟩ := wpM_asStr.mp (wpM_bind.mp hw1)
    obtain ⟨y, rfl, h2⟩ := wpM_asStr.mp (wpM_bind.mp h1)
    simp only [VRs, VR] at hv
    obtain ⟨_, _, rfl, ⟨t, rfl⟩, _, _, rfl, ⟨u, rfl⟩, rfl⟩ := hv
    exact SC.startswith (h2 _ _ _ rfl hS (.refl ..))
  · exact hw1.elim
theorem vr_strs {h : Heap} {ρ : List Addr} : ∀ (l : List (Str × Tok)), VRs C h ρ ((l.map (·.1)).map strO) (strValues l)
  | [] => by simp only [List.map, VRs]; rfl
  | (x, t) :: l => by
    simp only [List.map, VRs]
    refine ⟨.str x t, strValues l, rfl, ?_, vr_strs l⟩
    simp only [strO, VR]
    exact ⟨t, rfl⟩
theorem at_split {vs : List V} {vals : List Value} {s : Shared} {ρ : List Addr} {st : St} (hv : VRs C s.heap ρ vs vals) : At C d env sc ns (VR C) Nil (call (.builtin "str.split") vals) (mSplit vs) s ρ st := .of fun A Q E X hA hS hw => by
  obtain ⟨hw1, hX⟩ := hw
  unfold mSplit at hw1
  split at hw1
  · obtain ⟨x, rfl, h1⟩ := wpM_asStr.mp (wpM_bind.mp hw1)
    obtain ⟨y, rfl, h2⟩ := wpM_asStr.mp (wpM_bind.mp h1)
    simp only [VRs, VR] at hv
    obtain ⟨_, _, rfl, ⟨t, rfl⟩, _, _, rfl, ⟨u, rfl⟩, rfl⟩ := hv
    obtain ⟨⟨hy, hl⟩, h3⟩ := Rest.ite' h2
    refine SplitAny (by rw [str_len]; exact hl) (by rw [str_len]; exact decide_eq_false (by omega)) fun l k e => ?_
    refine Rest.list (tk := k) hS ⟨h3, hX⟩ (Grows.push s.heap _) fresh_none (Heap.get?_push_size _ rfl) ?_
    have := vr_strs (C := C) (h := s.heap) (ρ := ρ) l
    rw [e] at this
    simpa [mkS] using this
  · exact hw1.elim
end
end Mine
set_option autoImplicit false
set_option linter.unusedVariables false
namespace Mine
open PySem PyProof.Rows PySem.W
section
variable {C : Cx} {d : Nat} {env : Env} {sc : Scope} {ns : List Str} {K : Frag} {G : GI} {W : Wd}
noncomputable def Callable (K : Frag) (f : Value) : Prop := (∃ id, f = .builtin id) ∨ (∃ T, f = .type T) ∨ keepIn K f = true
theorem callWith_any {M : Model} {A : Around} {E : Value → Shared → Prop} {s : Shared} {pos : Pos} {f : Value} {first : List Value} {args : List (Bool × Sem Value)} {Q : Value → Shared → Prop} (hf : Callable K f) (hplain : args.any (·.1) = false)
    (h : wpAny M A (evalArgs f true args []) (fun a s₁ => K.In s₁.heap ∧ wpAny M A (call f (first ++ a.pos) a.kw) Q E s₁) E s) : wpAny M A (callWith pos f first args []) Q E s := by
  rcases hf with ⟨id, rfl⟩ | ⟨T, rfl⟩ | hk
  · exact Calls.callWith_builtin hplain (wpAny_mono h (fun _ _ q => q.2) fun _ _ q => q)
  · exact PyProof.Rows.callWith_type hplain (wpAny_mono h (fun _ _ q => q.2) fun _ _ q => q)
  · exact callWith_of (by rw [hplain]; rfl) (keeps_K hk) h
theorem Ok.inH (hO : Ok C K G W d) {s : Shared} {ρ : List Addr} {st : St} (hS : State C env sc ns s ρ st) : K.In s.heap := hO.inK.keeps hS.inv.base
/- a call: arguments, then what the thing called does -/
theorem snd_callAny (hK : K.In C.base) {pos : Pos} {es : List Expr} {ms : List (M V)} {fv : Value} {first : List Value} {fs : List V} {g : List V → M V} (hf : Callable K fv) (ha : All2 (ArgR C d env sc ns) es ms) {s : Shared} {ρ : List Addr} {st : St} (hfirst : VRs C s.heap ρ fs first)
    (h : ∀ vs vals s ρ st, VRs C s.heap ρ vs vals → At C d env sc ns (VR C) Nil (call fv vals) (g vs) s ρ st) :
    At C d env sc ns (VR C) Nil (callWith pos fv first (backTo pos (starEach es env)) []) ((seqM ms).bind fun vs => g (fs ++ vs)) s ρ st := .of fun A Q E X hA hS hw =>
  callWith_any hf (args_plain ha) (evalArgs_any ha ((snd_args ha).then hA hS hw fun vs vals s₁ ρ₁ st₁ r₁ S₁ e₁ hw₁ =>
    ⟨hK.keeps S₁.inv.base, (h (fs ++ vs) (first ++ vals) s₁ ρ₁ st₁ ((hfirst.ext e₁.extN).append r₁)).go hA S₁ hw₁⟩))

/- the method that is meant -/
noncomputable def PickOk (C : Cx) (K : Frag) (d : Nat) (env : Env) (sc : Scope) (ns : List Str) (x : Str) (pick : V → M (List V → M V)) : Prop :=
  ∀ v ov s ρ st (Q' : (List V → M V) → St → Prop) (X : Str → St → Prop), VR C s.heap ρ v ov → State C env sc ns s ρ st → wpM (pick v) st Q' X →
    ∃ f fv, Q' f st ∧ Callable K fv ∧ (∀ (A : Around) (Q : Value × List Value → Shared → Prop) (E : Value → Shared → Prop) (pl : Sem Bool), Q (fv, [ov]) s → wpAny (model C.prog C.w) A (getMethod ov x pl) Q E s) ∧
      ∀ vs vals s ρ st, VRs C s.heap ρ vs vals → At C d env sc ns (VR C) Nil (call fv vals) (f vs) s ρ st
theorem snd_methodCall (hK : K.In C.base) {o : Expr} {x : Str} {ap pos : Pos} {es : List Expr} {m : M V} {ms : List (M V)} {pick : V → M (List V → M V)} (hs : supE o = false) (hlen : es.length < 29) (hline : (ap.endLine == pos.line) = true) (ho : SndE C d env sc ns o m) (ha : All2 (ArgR C d env sc ns) es ms)
    (h : PickOk C K d env sc ns x pick) : SndE C d env sc ns (.Call (.Attribute o x ap) es [] pos) (methM pick m ms) := .of fun A s ρ st Q E X hA hS hw =>
  Call_meth hs (args_all ha) hlen hline (ho.then hA hS hw fun v ov s₁ ρ₁ st₁ r₁ S₁ e₁ hw₁ pl => by
    obtain ⟨f, fv, hq, hc, hg, hf⟩ := h v ov s₁ ρ₁ st₁ _ X r₁ S₁ (wpM_bind.mp hw₁.1)
    refine hg A _ E pl ?_
    exact (snd_callAny hK hc ha (VRs.one r₁) hf).go hA S₁ ⟨hq, hw₁.2⟩)
set_option maxRecDepth 100000 in
theorem pick_str {x : Str} {id : String} {f : List V → M V} (slot : Slot "str" x id) (hty : typeOf (.builtin id) = pure (.type "method_descriptor"))
    (hf : ∀ vs vals s ρ st, VRs C s.heap ρ vs vals → At C d env sc ns (VR C) Nil (call (.builtin id) vals) (f vs) s ρ st) : PickOk C K d env sc ns x (pickS f) := by
  intro v ov s ρ st Q' X hv hS hw
  cases v <;> first | exact hw.elim | skip
  obtain ⟨t, rfl⟩ := hv
  refine ⟨f, .builtin id, hw, .inl ⟨id, rfl⟩, fun A Q E pl hq => ?_, hf⟩
  have hT := typeIs_str s ⟨List.toArray ‹List Nat›⟩ t
  refine getMethod_builtin (id := id) hT PySem.F.plainAttrs_str slot hty (fun a q => ?_) hq
  cases q
theorem pick_list {x : Str} {id : String} {f : List V → M V} (slot : Slot "list" x id) (hty : typeOf (.builtin id) = pure (.type "method_descriptor"))
    (hf : ∀ vs vals s ρ st, VRs C s.heap ρ vs vals → At C d env sc ns (VR C) Nil (call (.builtin id) vals) (f vs) s ρ st) : PickOk C K d env sc ns x (pickL f) := by
  intro v ov s ρ st Q' X hv hS hw
  cases v <;> first | exact hw.elim | skip
  simp only [VR] at hv
  obtain ⟨a, rfl, ha⟩ := hv
  obtain ⟨xs, q1, h1⟩ := wpM_getList.mp (wpM_bind.mp hw)
  obtain ⟨items, n, ho, _⟩ := hS.inv.list q1 ha
  exact ⟨f, _, h1, .inl ⟨id, rfl⟩, fun A Q E pl hq => getMethod_builtin ⟨_, ho, rfl⟩ PySem.F.plainAttrs_list slot hty (fun a' q => by cases q; exact ⟨_, ho, rfl⟩) hq, hf⟩

/- the names that an instance bears -/
theorem ns_look {h : Heap} {ρ : List Addr} {x : Str} : ∀ {fs : List (Str × V)} {es : List DictEntry}, NsR C h ρ fs es → match fs.lookup x with
    | some v => ∃ val, getL x es = some (some val) ∧ VR C h ρ v val
    | none => getL x es = some none
  | [], es, r => by cases r; rfl
  | (y, v) :: fs, es, r => by
    obtain ⟨e, es, t, rfl, hk, hv, hr⟩ := r
    have ih := ns_look (x := x) hr
    have hs : e.key.isStr x = (y == x) := by rw [hk]; rfl
    have hrk : e.refKey = false := by unfold DictEntry.refKey; rw [hk]
    rw [List.lookup_cons]
    cases q : y == x with
    | true =>
      have : (x == y) = true := by rw [eq_of_beq q]; exact beq_self_eq_true _
      rw [this]
      refine ⟨e.val, ?_, hv⟩
      unfold getL
      rw [List.find?_cons, hs, q]
    | false =>
      have : (x == y) = false := by
        cases z : x == y with
        | false => rfl
        | true => rw [eq_of_beq z] at q; rw [beq_self_eq_true] at q; cases q
      rw [this]
      have e1 : getL x (e :: es) = getL x es := by
        unfold getL
        rw [List.find?_cons, hs, q, List.any_cons, hrk, Bool.false_or]
      dsimp only
      rw [e1]
      exact ih
/- an instance of the ledger -/
theorem Inv.inst {h : Heap} {ρ : List Addr} {obs : List Ob} (I : Inv C h ρ obs) {r dn : Nat} {c : Str} {fs : List (Str × V)} {a : Addr} (ho : obs[r]? = some (.inst c dn)) (hd : obs[dn]? = some (.ns fs)) (ha : ρ[r]? = some a) :
    ∃ k dx es n, C.mg c = some (.ref k) ∧ ρ[dn]? = some dx ∧ InstAt h a { cls := .ref k, dict := some dx } k (some (dictOf es n)) ∧ h.get? dx = some (dictOf es n) ∧ NsR C h ρ fs es := by
  obtain ⟨a', q1, da, k, q2, q3, q4⟩ := I.ob r _ ho
  rw [ha] at q1; cases q1
  obtain ⟨dx, q5, ents, n, q6, q7⟩ := I.ob dn _ hd
  rw [q2] at q5; cases q5
  exact ⟨k, da, ents.toList, n, q3, q2, ⟨q4, rfl, rfl, by simpa using q6⟩, by simpa using q6, q7⟩
theorem pick_own (hO : Ok C K G W d) {x : Str} : PickOk C K (d + 1) env sc ns x (pickO W x) := by
  intro v ov s ρ st Q' X hv hS hw
  cases v <;> first | exact hw.elim | skip
  simp only [VR] at hv
  obtain ⟨a, rfl, ha⟩ := hv
  obtain ⟨o, ho, h1⟩ := wpM_getOb.mp (wpM_bind.mp hw)
  cases o <;> first | exact h1.elim | skip
  rename_i c dn
  obtain ⟨o2, ho2, h2⟩ := wpM_getOb.mp (wpM_bind.mp h1)
  cases o2 <;> first | exact h2.elim | skip
  rename_i fs
  dsimp only at h2
  split at h2
  case isFalse => exact h2.elim
  rename_i hl
  obtain ⟨k, dx, es, n, hk, hdx, hI, _, hn⟩ := hS.inv.inst ho ho2 ha
  rw [Bool.and_eq_true] at hl
  obtain ⟨hg, f, hf, hfn, hkp, hs⟩ := hO.meth c k x hk hl.2
  refine ⟨_, .ref f, h2, .inr (.inr hkp), fun A Q E pl hq => ?_, fun vs vals s ρ st hv => hs.at hv⟩
  have hnl := ns_look (x := x) hn
  rw [Option.isNone_iff_eq_none.mp hl.1] at hnl
  refine method_fn (hO.inH hS) hI (plainGet_of hg).1 (plainGet_of hg).2 hf (beq_iff_eq.mp hfn) ?_ hq
  show (lookIn x (dictOf es n)).map _ = _
  rw [lookIn_dict, hnl]; rfl
end
end Mine
set_option autoImplicit false
set_option linter.unusedVariables false
namespace Mine
open PySem PyProof.Rows PySem.W
section
variable {C : Cx} {d : Nat} {env : Env} {sc : Scope} {ns : List Str} {K : Frag} {G : GI} {W : Wd}
theorem VR.handed {h : Heap} {ρ : List Addr} {v : V} {x : Value} (r : VR C h ρ v x) : handedIn x = true := by
  cases v <;> simp only [VR] at r
  · subst r; rfl
  · subst r; rfl
  · obtain ⟨t, rfl⟩ := r; rfl
  · obtain ⟨t, rfl⟩ := r; rfl
  · obtain ⟨a, i, rfl, _⟩ := r; rfl
  · obtain ⟨a, t, u, k, rfl, _⟩ := r; rfl
  · obtain ⟨a, i, rfl, _⟩ := r; rfl
  · obtain ⟨a, rfl, _⟩ := r; rfl
  · obtain ⟨a, rfl, _⟩ := r; rfl
  · subst r; rfl
theorem at_attr (hO : Ok C K G W d) {e : Nat} {x : Str} {v : V} {ov : Value} {s : Shared} {ρ : List Addr} {st : St} (hv : VR C s.heap ρ v ov) : At C e env sc ns (VR C) Nil (getAttr ov x true) (attrV W x v) s ρ st := .of fun A Q E X hA hS hw => by
  cases v <;> first | exact hw.1.elim | skip
  simp only [VR] at hv
  obtain ⟨a, rfl, ha⟩ := hv
  obtain ⟨o, ho, h1⟩ := wpM_getOb.mp (wpM_bind.mp hw.1)
  cases o <;> first | exact h1.elim | skip
  rename_i c dn
  obtain ⟨hfl, hw2⟩ := Rest.ite (⟨h1, hw.2⟩ : Rest C env sc ns (VR C) Nil Q E X _ s ρ st)
  obtain ⟨o2, ho2, h2⟩ := wpM_getOb.mp (wpM_bind.mp hw2.1)
  cases o2 <;> first | exact h2.elim | skip
  rename_i fs
  obtain ⟨v, hl, h3⟩ := wpM_ofOpt.mp h2
  obtain ⟨k, dx, es, n, hk, hdx, hI, _, hn⟩ := hS.inv.inst ho ho2 ha
  obtain ⟨hg, hh, ⟨attr, hat, hng⟩, _⟩ := hO.fld c k x hk hfl
  have hnl := ns_look (x := x) hn
  rw [hl] at hnl
  obtain ⟨val, q1, q2⟩ := hnl
  exact get_value (hO.inH hS) hI (plainGet_of hg).1 (findObj_own hh hat hng (by rw [lookIn_dict]; exact q1)) q2.handed (h3 _ _ _ q2 (hS.toks _) (.toks _))
theorem snd_attr (hO : Ok C K G W d) {e : Nat} {o : Expr} {x : Str} {pos : Pos} {m : M V} (hs : supE o = false) (ho : SndE C e env sc ns o m) : SndE C e env sc ns (.Attribute o x pos) (attrM W m x) := .of fun A s ρ st Q E X hA hS hw => by
  rw [arm_eval_Attribute, base_pure hs]
  refine wpAny_bind (ho.then hA hS hw fun v ov s₁ ρ₁ st₁ r₁ S₁ e₁ hw₁ => wpAny_bind (wpAny_standAt (wpAny_bind (wpAny_holding ?_))))
  refine (at_attr hO r₁) A _ E X hA S₁ (wpM_mono hw₁.1 (fun v' st' h val s' ρ' r' S' e' => ?_) fun _ _ h => h) hw₁.2
  exact wpAny_bind (wpAny_letTemporaryGo (wpAny_pure (h val s' ρ' r' S' e')))

/- a field is set -/
theorem ns_put {h : Heap} {ρ : List Addr} {x : Str} {v : V} {val key : Value} {t : Tok} {hsh : Int} (hkey : key = .str x t) (hv : VR C h ρ v val) : ∀ {fs : List (Str × V)} {es : List DictEntry}, NsR C h ρ fs es → NsR C h ρ (setField x v fs) (PySem.W.putL x hsh key val es)
  | [], es, r => by cases r; exact ⟨_, _, t, rfl, hkey, hv, rfl⟩
  | (y, w) :: fs, es, r => by
    obtain ⟨e, es, u, rfl, hk, hw, hr⟩ := r
    have hs : e.key.isStr x = (y == x) := by rw [hk]; rfl
    unfold setField PySem.W.putL
    rw [hs]
    cases q : y == x with
    | true => exact ⟨_, _, u, rfl, by rw [← eq_of_beq q]; exact hk, hv, hr⟩
    | false => exact ⟨_, _, u, rfl, hk, hw, ns_put hkey hv hr⟩
theorem ns_len {h : Heap} {ρ : List Addr} : ∀ {fs : List (Str × V)} {es : List DictEntry}, NsR C h ρ fs es → es.length = fs.length
  | [], es, r => by cases r; rfl
  | _ :: fs, es, r => by obtain ⟨e, es, u, rfl, _, _, hr⟩ := r; simp [ns_len hr]
theorem setField_len (x : Str) (v : V) : ∀ fs : List (Str × V), (setField x v fs).length ≤ fs.length + 1
  | [] => by simp [setField]
  | e :: r => by
    unfold setField
    split
    · simp
    · have := setField_len x v r; simp; omega
noncomputable def others (h : Heap) (L dx : Addr) : List (Addr × Obj) := (List.range h.objs.size).filterMap fun b => if b = L ∨ b = dx then none else (h.get? b).map (b, ·)
theorem others_mem {h : Heap} {L dx b : Addr} {o : Obj} : (b, o) ∈ others h L dx ↔ b ≠ L ∧ b ≠ dx ∧ h.get? b = some o := by
  unfold others
  rw [List.mem_filterMap]
  constructor
  · rintro ⟨c, _, hc⟩
    split at hc
    · cases hc
    · rename_i hn
      rw [not_or] at hn
      obtain ⟨o', h1, h2⟩ := Option.map_eq_some_iff.mp hc
      cases h2
      exact ⟨hn.1, hn.2, h1⟩
  · rintro ⟨h1, h2, h3⟩
    refine ⟨b, List.mem_range.mpr (Heap.lt_size h3), ?_⟩
    rw [if_neg (by rw [not_or]; exact ⟨h1, h2⟩), h3]; rfl
noncomputable def noHeap (h : Heap) : Heap := { h with objs := #[] }
theorem noHeap_get {h : Heap} {b : Addr} : (noHeap h).get? b = none := Heap.get?_none_of_le (Nat.zero_le _)
theorem ExtV.put2 {h h' : Heap} {ρ : List Addr} {a L : Addr} (ha : a ∈ ρ) (hL : ∀ o, h.get? L = some o → isVal o = false) (hs : ∀ b o, b ≠ L → b ≠ a → h.get? b = some o → h'.get? b = some o) : ExtV C h ρ h' ρ :=
  ⟨⟨[], by simp⟩, fun b o hb hn hv => ⟨hs b o (fun q => by subst q; rw [hL o hb] at hv; cases hv) (fun q => hn (q ▸ ha)) hb, hn⟩⟩
theorem Inv.put2 {h h' : Heap} {ρ : List Addr} {obs : List Ob} {i : Nat} {a L : Addr} {o : Ob} (I : Inv C h ρ obs) (hi : ρ[i]? = some a) (hLn : L ∉ ρ) (hLb : C.base.get? L = none) (hL : ∀ o, h.get? L = some o → isVal o = false) (hs : ∀ b o, b ≠ L → b ≠ a → h.get? b = some o → h'.get? b = some o) (r : OR C h' ρ o a) : Inv C h' ρ (obs.set i o) := by
  have ha : a ∈ ρ := List.mem_of_getElem? hi
  refine ⟨fun b o' hb => hs b o' (fun q => by rw [q, hLb] at hb; cases hb) (fun q => ?_) (I.base b o' hb), by simp [I.len], I.nodup, I.new, fun j o' ho => ?_⟩
  · have := I.new a ha; rw [← q, hb] at this; cases this
  · rw [List.getElem?_set] at ho
    split at ho
    · rename_i e
      split at ho
      · cases ho; subst e; exact ⟨a, hi, r⟩
      · cases ho
    · rename_i e
      obtain ⟨b, q1, q2⟩ := I.ob j o' ho
      have hne : b ≠ a := fun q => e ((List.getElem?_inj (List.getElem?_eq_some_iff.mp hi).1 I.nodup).mp (by rw [hi, q1, q]))
      obtain ⟨ob, q3, _⟩ := q2.there
      exact ⟨b, q1, q2.ext (.put2 ha hL hs) (by rw [q3]; exact hs b ob (fun q => hLn (q ▸ List.mem_of_getElem? q1)) hne q3)⟩
theorem at_setattr (hO : Ok C K G W d) {e : Nat} {x : Str} {o v : V} {ov val : Value} {s : Shared} {ρ : List Addr} {st : St} (ho : VR C s.heap ρ o ov) (hv : VR C s.heap ρ v val) : At C e env sc ns Un (Own env) (setAttr ov x val) (setAttrV W o x v) s ρ st := .of fun A Q E X hA hS hw => by
  cases o <;> first | exact hw.1.elim | skip
  simp only [VR] at ho
  obtain ⟨a, rfl, ha⟩ := ho
  obtain ⟨o, ho, h1⟩ := wpM_getOb.mp (wpM_bind.mp hw.1)
  cases o <;> first | exact h1.elim | skip
  rename_i c dn
  obtain ⟨hfl, hw2⟩ := Rest.ite (⟨h1, hw.2⟩ : Rest C env sc ns Un (Own env) Q E X _ s ρ st)
  obtain ⟨o2, ho2, h2⟩ := wpM_getOb.mp (wpM_bind.mp hw2.1)
  cases o2 <;> first | exact h2.elim | skip
  rename_i fs
  obtain ⟨hlen, hw3⟩ := Rest.ite (⟨h2, hw.2⟩ : Rest C env sc ns Un (Own env) Q E X _ s ρ st)
  obtain ⟨hlt, hq⟩ := wpM_setOb.mp hw3.1
  obtain ⟨k, dx, es, n, hk, hdx, hI, hod, hn⟩ := hS.inv.inst ho ho2 ha
  obtain ⟨hg, hh, _, hsa, hpo, htk⟩ := hO.fld c k x hk hfl
  obtain ⟨m, hm⟩ := hS.frm.loc
  have hdm : dx ∈ ρ := List.mem_of_getElem? hdx
  have hne : dx ≠ env.locals := fun q => hS.frm.locN (q ▸ hdm)
  have F : Fr (noHeap s.heap) env.locals s.heap m := ⟨hm, fun b o q => (by rw [noHeap_get] at q; cases q), Nat.zero_le _⟩
  have N : News (noHeap s.heap) env.locals s.heap ([] ++ (dx, dictOf es n) :: others s.heap env.locals dx) := fun p hp => by
    rcases List.mem_cons.mp hp with rfl | hp
    · exact ⟨hod, hne, noHeap_get⟩
    · obtain ⟨q1, q2, q3⟩ := others_mem.mp hp
      exact ⟨q3, q1, noHeap_get⟩
  have hnl := ns_look (x := x) hn
  have hsome : (lookIn x (dictOf es n)).isSome = true := by
    rw [lookIn_dict]
    cases q : fs.lookup x with
    | none => rw [q] at hnl; rw [hnl]; rfl
    | some v' => rw [q] at hnl; obtain ⟨val', q1, _⟩ := hnl; rw [q1]; rfl
  have hput := ns_put (hsh := PyData.keyHash C.w.params x) (key := .str x (s.toks + 1)) rfl hv hn
  have hsz : (PySem.W.putL x (PyData.keyHash C.w.params x) (.str x (s.toks + 1)) val es).length ≤ 1000 := by
    rw [ns_len hput]
    have := setField_len x v fs
    omega
  refine set_plain (hO.inH hS) hI hsa (osa_dict (s := { s with toks := s.toks + 1 }) F N (hO.inH (hS.toks _)) hI rfl hpo htk hh hsome (by simp) (fun p hp => (others_mem.mp hp).2.1) (by rw [putName_dict]) rfl hsz fun h' F' N' => ?_)
  show Q () { s with heap := h', toks := s.toks + 1 + 1 }
  have keep : ∀ b o, b ≠ env.locals → b ≠ dx → s.heap.get? b = some o → h'.get? b = some o := fun b o q1 q2 q3 => (N' (b, o) (by simp [others_mem, q1, q2, q3])).1
  have hod' := (N' (dx, _) (List.mem_append.mpr (.inr (.head _)))).1
  obtain ⟨oL, esL, epL, hoL, hdL, hkL⟩ := id hm
  have hL : ∀ o, s.heap.get? env.locals = some o → isVal o = false := fun o q => by rw [hoL] at q; cases q; exact isVal_dict hdL
  have eV : ExtV C s.heap ρ h' ρ := .put2 hdm hL keep
  obtain ⟨oL', esL', epL', hoL', hdL', hkL'⟩ := id F'.ns
  have cells : ∀ (y : Str) (c : Addr) (v : Option Value), env.kindOf y = some .cell → env.cells.lookup y = some c → s.heap.IsCell c v → h'.IsCell c v := fun y c v hy hc ⟨oc, q1, q2⟩ => by
    refine ⟨oc, keep c oc (fun q => ?_) (fun q => ?_) q1, q2⟩
    · subst q; rw [hoL] at q1; cases q1; rw [q2] at hdL; cases hdL
    · obtain ⟨c', _, r1, _, r3, _⟩ := hS.frm.cell y hy
      rw [hc] at r1; cases r1; exact r3 (q ▸ hdm)
  have S' : State C env sc ns { s with heap := h', toks := s.toks + 1 + 1 } ρ { st with obs := st.obs.set dn (.ns (setField x v fs)) } := by
    refine ⟨hS.inv.put2 hdx hS.frm.locN hS.frm.locB hL keep ⟨_, _, hod', ?_⟩, hS.frm.len, ⟨m, F'.ns⟩, hS.frm.locN, hS.frm.locB, fun y hy => ?_, hS.frm.inj, fun y i w h1 h2 h3 => ?_⟩
    · simpa using hput.ext eV
    · obtain ⟨c, v₀, q1, q2, q3⟩ := hS.frm.cell y hy
      exact ⟨c, v₀, q1, cells y c v₀ hy q1 q2, q3⟩
    · obtain ⟨val', hl, hv'⟩ := hS.frm.vals y i w h1 h2 h3
      refine ⟨val', ?_, hv'.ext eV⟩
      rcases hl with ⟨k', m', ⟨o1, es1, ep1, q1, q2, q3, q4⟩, hmy⟩ | ⟨k', c, q1, q2⟩
      · rw [hoL] at q1; cases q1; rw [hdL] at q2; cases q2
        have hmm : m y = m' y := by rw [← q4, ← hkL.2]
        exact .inl ⟨k', m, F'.ns, by rw [hmm]; exact hmy⟩
      · exact .inr ⟨k', c, q1, cells y c _ k' q1 q2⟩
  refine hq _ _ ρ trivial S' ⟨⟨[], by simp⟩, fun _ q => .inl q, fun b o q1 q2 q3 => .inl (keep b o (fun z => q3 (.inl z)) (fun z => q2 (z ▸ hdm)) q1), fun b o q1 => ?_, rfl, rfl, rfl⟩
  by_cases z1 : b = env.locals
  · subst z1; exact ⟨_, hoL'⟩
  · by_cases z2 : b = dx
    · subst z2; exact ⟨_, hod'⟩
    · exact ⟨o, keep b o z1 z2 q1⟩
end
end Mine
set_option autoImplicit false
set_option linter.unusedVariables false
namespace Mine
open PySem PyProof.Rows PySem.W
section
variable {C : Cx} {d : Nat} {env : Env} {sc : Scope} {ns : List Str} {K : Frag} {G : GI} {W : Wd}
noncomputable def compE : Expr → Bool
  | .ListComp .. => true
  | .SetComp .. => true
  | .DictComp .. => true
  | _ => false
theorem swaps_plain {e : Expr} {t : Option Expr} {n : Nat} (h : compE e = false) : swapsWith e t n env = pure false := by
  cases e <;> first | rfl | cases h
theorem swaps_attr {e o : Expr} {x : Str} {p : Pos} {n : Nat} : swapsWith e (some (.Attribute o x p)) n env = pure false := by
  cases e <;> rfl
theorem swaps_tup {e : Expr} {ts : List Expr} {k : Nat} {p : Pos} {n : Nat} : swapsWith e (some (.Tuple ts k p)) n env = pure false := by
  cases e <;> rfl
theorem stores_tup {e : Expr} {ts : List Expr} {k : Nat} {p : Pos} (h : isTupT e = false) : swappedStores [.Tuple ts k p] e env = pure none := by
  cases e <;> first | rfl | cases h
theorem snd_assignAttr (hO : Ok C K G W d) {e : Nat} {o v : Expr} {x : Str} {p pos : Pos} {m mo : M V} (hv : SndE C e env sc ns v m) (ho : SndE C e env sc ns o mo) : SndX C e env sc ns (.Assign [.Attribute o x p] v pos) (setAttrM W mo x m) := .of fun A s ρ st Q E X hA hS hw =>
  plainObj_wpAny_Assign_Attribute (hv.then hA hS hw fun w val s₁ ρ₁ st₁ r₁ S₁ e₁ hw₁ => ho.then hA S₁ hw₁ fun ov oval s₂ ρ₂ st₂ r₂ S₂ e₂ hw₂ =>
    (at_setattr hO r₂ (r₁.ext e₂.extN)).thenS hA S₂ hw₂ fun _ _ s₃ ρ₃ st₃ _ S₃ e₃ hw₃ => hw₃.1 _ _ _ rfl S₃ (.refl ..)) swaps_attr
theorem snd_assignTuple (hE : EnvOk env sc) {e : Nat} {v : Expr} {ts : List Expr} {k : Nat} {p pos : Pos} {m : M V} {tg : Tg} (ht : TgtR sc ns (.Tuple ts k p) tg) (hn : isTupT v = false) (hv : SndE C e env sc ns v m) : SndX C e env sc ns (.Assign [.Tuple ts k p] v pos) (assignM tg m) := .of fun A s ρ st Q E X hA hS hw =>
  Assign_Tuple (hv.then hA hS hw fun w val s₁ ρ₁ st₁ r₁ S₁ e₁ hw₁ =>
    (at_asg hE (fun _ q => q) ht r₁ fun _ _ _ _ q => q.own).thenS hA S₁ hw₁ fun _ _ s₂ ρ₂ st₂ _ S₂ e₂ hw₂ => hw₂.1 _ _ _ rfl S₂ (.refl ..)) (swaps_tup (env := env) (e := v) (ts := ts) (k := k) (p := p) (n := pos.line)) (stores_tup hn)

/- calls of names -/
theorem AOk.create {A : Around} (h : AOk (d + 1) A) (k : Addr) (vals : List Value) : AOk2 d (A.under (.builtin "type.__call__" ⟨.ref k :: vals, []⟩)) where
  depth := by
    show A.depth + (Code.builtin "type.__call__" ⟨.ref k :: vals, []⟩).weight + 3 * d + 4 ≤ 990
    have e : (Code.builtin "type.__call__" ⟨.ref k :: vals, []⟩).weight = 1 := rfl
    rw [e]; have := h.depth; omega
  units := by
    show A.units + (Code.builtin "type.__call__" ⟨.ref k :: vals, []⟩).cUnits + 100 * d + 250 ≤ 9900
    have e : (Code.builtin "type.__call__" ⟨.ref k :: vals, []⟩).cUnits = 1 := rfl
    rw [e]; have := h.units; omega
  handled := h.handled
  guards := by
    show pushGuards (Code.builtin "type.__call__" ⟨.ref k :: vals, []⟩).guards A.guards = _
    rw [h.guards]; rfl
theorem wpM_newC {c : Str} {vs : List V} {st : St} {Q : V → St → Prop} {X : Str → St → Prop} (h : wpM (newC W c vs) st Q X) :
    wpM (W.cf (.meth c (nm "__init__")) (.ref (st.obs.length + 1) :: vs)) { st with obs := st.obs ++ [.ns []] ++ [.inst c st.obs.length] } (fun r st' => r = .none ∧ Q (.ref (st.obs.length + 1)) st') X := by
  unfold newC at h
  rw [wpM_bind, wpM_alloc] at h
  dsimp only at h
  rw [wpM_bind, wpM_alloc, wpM_bind] at h
  simp only [List.length_append, List.length_singleton] at h
  refine wpM_mono h (fun r st' q => ?_) fun _ _ q => q
  cases r <;> first | exact q.elim | exact ⟨rfl, q⟩
theorem at_new (hO : Ok C K G W d) {c : Str} {k : Addr} (hk : C.mg c = some (.ref k)) (hi : W.has c (nm "__init__") = true) {vs : List V} {vals : List Value} {s : Shared} {ρ : List Addr} {st : St} (hv : VRs C s.heap ρ vs vals) : At C (d + 1) env sc ns (VR C) Nil (call (.ref k) vals) (newC W c vs) s ρ st := .of fun A Q E X hA hS hw => by
  have h1 := wpM_newC hw.1
  obtain ⟨hkp, hmk, f, hf, hfn, hs⟩ := hO.new c k hk hi
  have g1 := Grows.push s.heap emptyDict
  have hD : s.heap.get? s.heap.objs.size = none := fresh_none
  obtain ⟨S₁, e₁, r₁⟩ := hS.made (tk := s.toks) (o := .ns []) g1 hD ⟨#[], 0, Heap.get?_push_size _ rfl, rfl⟩
  have g2 := Grows.push (s.heap.push emptyDict) (instObj k s.heap.objs.size)
  have hD2 : (s.heap.push emptyDict).get? (s.heap.objs.size + 1) = none := Heap.get?_none_of_le (by rw [Heap.size_push]; exact Nat.le_refl _)
  have hget : ((s.heap.push emptyDict).push (instObj k s.heap.objs.size)).get? (s.heap.objs.size + 1) = some (instObj k s.heap.objs.size) := by
    have := Heap.get?_push_size (s.heap.push emptyDict) (o := instObj k s.heap.objs.size) rfl
    rw [Heap.size_push] at this; exact this
  obtain ⟨S₂, e₂, r₂⟩ := S₁.made (tk := s.toks) (o := .inst c st.obs.length) (D := s.heap.objs.size + 1) g2 hD2 ⟨s.heap.objs.size, k, by
    have hl := hS.inv.len
    rw [← hl]; simp, hk, hget⟩
  obtain ⟨hh, gg, dd, tt, oo⟩ := s
  refine wpAny_call (make_core (makes_of (hO.inK.keeps hS.inv.base) hmk) (looks_findIn (hO.inK.keeps hS.inv.base) hf) (fun self => bind_fn (hO.inK.keeps hS.inv.base) self (beq_iff_eq.mp hfn)) (.inl rfl) ?_)
  have hall := e₁.trans e₂
  refine codeAny_mono (hs env sc ns (.ref (st.obs.length + 1) :: vs) (.ref (hh.objs.size + 1) :: vals) _ _ _ ?_ _ (fun r s' => r = .none ∧ Q (.ref (hh.objs.size + 1)) s') E X (hA.create k vals) S₂ ⟨wpM_mono h1 (fun r st' q val s' ρ' hr hS' he => ?_) fun _ _ q => q, fun c' st' x s' ρ' hx hr => hw.2 c' st' x s' ρ' hx (hr.trans hall)⟩) fun r s' z => ?_
  · simp only [VRs]
    refine ⟨_, _, rfl, ?_, (hv.ext e₁.extN).ext e₂.extN⟩
    simpa using r₂
  · obtain ⟨rfl, q⟩ := q
    refine ⟨hr, q _ s' ρ' ?_ hS' (hall.trans he)⟩
    have r₃ := r₂.ext he.extN
    simpa using r₃
  · rcases r with e | (v | _ | _ | _) <;> first | exact z | exact z.elim
end
end Mine
set_option autoImplicit false
set_option linter.unusedVariables false
namespace Mine
open PySem PyProof.Rows PySem.W
section
variable {C : Cx} {d : Nat} {env : Env} {sc : Scope} {ns : List Str} {K : Frag} {G : GI} {W : Wd}
/- enumerate -/
theorem src_enum (hO : Ok C K G W d) (hE : EnvOk env sc) {e : Nat} {t x : Expr} {p pos : Pos} {m : M V} (ht : isTupT t = true) (hb : isBuiltin G sc (nm "enumerate") "enumerate" = true) (hx : starE x = false) (h : SndE C e env sc ns x m) :
    SrcSnd C e env sc ns t (.Call (.Name (nm "enumerate") p) [x] [] pos) (m.bind enumV) := by
  intro A s₀ ρ₀ st₀ Q E X hA hS₀ hw hX
  cases t <;> first | cases ht | skip
  simp only [isBuiltin, Bool.and_eq_true, Bool.not_eq_true'] at hb
  obtain ⟨⟨⟨⟨_, hgl⟩, hf⟩, hc⟩, hk⟩ := hb
  obtain ⟨h1, h2⟩ := hO.cx.blt (nm "enumerate") (.type "enumerate") (by decide +kernel) hf hc hk
  refine wpAny_Call_Name_kw (load_blt hO.cx hE hS₀ hgl h1 h2 ?_)
  have ha : All2 (ArgR C e env sc ns) [x] [m] := ⟨⟨hx, h⟩, trivial⟩
  show wpAny _ _ (callWith pos (.type "enumerate") [] (backTo pos (starEach [x] env)) []) _ _ _
  rw [star_cons hx]
  refine callWith_type1 (h A s₀ ρ₀ st₀ _ E X hA hS₀ (wpM_mono (wpM_bind.mp hw) (fun v st₁ hw₁ val s₁ ρ₁ r₁ S₁ e₁ => ?_) fun _ _ h => h) hX)
  cases v <;> first | exact hw₁.elim | skip
  rename_i r
  simp only [VR] at r₁
  obtain ⟨a, rfl, ha⟩ := r₁
  obtain ⟨xs, q1, h1⟩ := wpM_getList.mp (wpM_bind.mp hw₁)
  obtain ⟨items, hl, hxs⟩ := S₁.inv.isList q1 ha
  refine call_enumerate_list hl fun h' he hit hsz g => ?_
  refine wpAny_pyIter_enum he ?_
  have hal : s₁.heap.get? a ≠ none := by obtain ⟨o, ho, _⟩ := hl; rw [ho]; simp
  have hn1 : s₁.heap.get? s₁.heap.objs.size = none := fresh_none
  have hn2 : s₁.heap.get? (s₁.heap.objs.size + 1) = none := Heap.get?_none_of_le (Nat.le_succ _)
  have ne1 : a ≠ s₁.heap.objs.size := fun q => hal (q ▸ hn1)
  have ne2 : a ≠ s₁.heap.objs.size + 1 := fun q => hal (q ▸ hn2)
  have ne3 : s₁.heap.objs.size + 1 ≠ s₁.heap.objs.size := Nat.succ_ne_self _
  refine h1 _ { s₁ with heap := h' } ρ₁ [s₁.heap.objs.size + 1, s₁.heap.objs.size] _ (iter_enum_list ha ne3 ne1 ne2) ⟨⟨_, he⟩, hit⟩ (fun b hb => ?_) (S₁.grows g s₁.toks) (e₁.trans (Ext.grows (t := s₁.toks) g))
  have hb' : s₁.heap.get? b = none := by
    rcases List.mem_cons.mp hb with rfl | hb
    · exact hn2
    · cases mem_one hb; exact hn1
  exact ⟨S₁.notIn hb', e₁.was hb', S₁.notB hb'⟩
/- names of the text -/
theorem snd_glob (hO : Ok C K G W d) (hE : EnvOk env sc) {e : Nat} {x : Str} {pos : Pos} {v : V} (hg : isGlob sc x = true) (h : dGlob G x = some v) : SndE C e env sc ns (.Name x pos) (constM v) := .of fun A s ρ st Q E X hA hS hw => by
  unfold dGlob at h
  split at h
  · rename_i w hw'
    cases h
    obtain ⟨val, q1, q2⟩ := hO.cx.const x v hw'
    exact load_own hO.cx hE hS hg q1 (hw.1 _ _ _ (q2 _ _) hS (.refl ..))
  · rename_i hn
    split at h
    · rename_i hc
      cases h
      obtain ⟨a, q⟩ := hO.cx.cls x hc
      exact load_own hO.cx hE hS hg q (hw.1 _ _ _ (by simp only [VR]; exact ⟨a, rfl, q⟩) hS (.refl ..))
    · rename_i hc
      split at h
      · cases h
      · rename_i hf
        obtain ⟨t, ht, rfl⟩ := Option.map_eq_some_iff.mp h
        have hb : bltTab.lookup x = some (.type t) := by
          have hm := lookup_mem ht
          simp only [typeNames, List.mem_cons, List.not_mem_nil, or_false, Prod.mk.injEq] at hm
          rcases hm with ⟨rfl, rfl⟩ | ⟨rfl, rfl⟩ | ⟨rfl, rfl⟩ | ⟨rfl, rfl⟩ | ⟨rfl, rfl⟩ | ⟨rfl, rfl⟩ <;> decide +kernel
        obtain ⟨h1, h2⟩ := hO.cx.blt x (.type t) hb (by simpa using hf) (by simpa using hc) (by rw [hn]; rfl)
        exact load_blt hO.cx hE hS hg h1 h2 (hw.1 _ _ _ (by simp only [VR]) hS (.refl ..))
/- calls of names -/
theorem at_strOf {e : Nat} {vs : List V} {vals : List Value} {s : Shared} {ρ : List Addr} {st : St} (hv : VRs C s.heap ρ vs vals) : At C e env sc ns (VR C) Nil (call (.type "str") vals) (fStr vs) s ρ st := .of fun A Q E X hA hS hw => by
  obtain ⟨hw1, hX⟩ := hw
  unfold fStr at hw1
  split at hw1
  · obtain ⟨i, rfl, h1⟩ := wpM_asInt.mp (wpM_bind.mp hw1)
    obtain ⟨hl, h2⟩ := Rest.ite' h1
    simp only [VRs, VR] at hv
    obtain ⟨_, _, rfl, ⟨t, rfl⟩, rfl⟩ := hv
    refine PySem.P.str_of_int hl (h2 _ _ _ ?_ (hS.toks _) (.toks _))
    simp only [VR, strI]
    exact ⟨_, rfl⟩
  · exact hw1.elim
theorem at_intOf {e : Nat} {vs : List V} {vals : List Value} {s : Shared} {ρ : List Addr} {st : St} (hv : VRs C s.heap ρ vs vals) : At C e env sc ns (VR C) Nil (call (.type "int") vals) (fInt vs) s ρ st := .of fun A Q E X hA hS hw => by
  obtain ⟨hw1, hX⟩ := hw
  unfold fInt at hw1
  split at hw1
  · rename_i v
    simp only [VRs] at hv
    obtain ⟨_, _, rfl, hv, rfl⟩ := hv
    cases v <;> first | exact hw1.elim | skip
    · cases hv
      exact call_int_bool (hw1 _ _ _ ⟨_, rfl⟩ (hS.toks _) (.toks _))
    · obtain ⟨hl, h1⟩ := Rest.ite' (show wpM (intS _) st _ X from hw1)
      obtain ⟨n, hn, h2⟩ := wpM_ofOpt.mp (wpM_bind.mp h1)
      obtain ⟨t, rfl⟩ := hv
      exact PySem.W.KIN.call_text hn (by rw [str_len]; exact hl) (h2 _ _ _ ⟨_, rfl⟩ (hS.toks _) (.toks _))
  · exact hw1.elim
theorem at_isi (hK : K.In C.base) {e : Nat} {vs : List V} {vals : List Value} {s : Shared} {ρ : List Addr} {st : St} (hv : VRs C s.heap ρ vs vals) : At C e env sc ns (VR C) Nil (call (.builtin "isinstance") vals) (fIsi vs) s ρ st := by
  unfold fIsi
  split
  · rename_i v w
    unfold isi2
    split
    · rename_i c
      refine .of fun A Q E X hA hS hw => ?_
      obtain ⟨a, rfl, h1⟩ := wpM_asRef.mp (wpM_bind.mp hw.1)
      simp only [VRs, VR] at hv
      obtain ⟨_, _, rfl, ⟨D, rfl, hD⟩, _, _, rfl, ⟨k, rfl, hk⟩, rfl⟩ := hv
      obtain ⟨o, ho, h2⟩ := wpM_getOb.mp (wpM_bind.mp h1)
      cases o <;> first | exact h2.elim | skip
      rename_i c' dn
      obtain ⟨o2, ho2, h3⟩ := wpM_getOb.mp (wpM_bind.mp h2)
      cases o2 <;> first | exact h3.elim | skip
      obtain ⟨rfl, h4⟩ := Rest.ite' h3
      obtain ⟨k', dx, es, n, hk', hdx, hI, _, hn⟩ := hS.inv.inst ho ho2 hD
      rw [hk] at hk'
      cases hk'
      exact isi_call (hK.keeps hS.inv.base) (fun M => hI.type) (by unfold isIn; rw [beq_self_eq_true, Bool.true_or]) (by intro q; cases q) (h4 _ _ _ rfl hS (.refl ..))
    · exact at_isinstance hv
  · exact .of fun A Q E X hA hS hw => hw.1.elim
theorem bfun_ok (hK : K.In C.base) {x : Str} {f : List V → M V} (h : bfun x = some f) : ∃ fv, bltTab.lookup x = some fv ∧ Callable K fv ∧ ∀ {e : Nat} vs vals s ρ st, VRs C s.heap ρ vs vals → At C e env sc ns (VR C) Nil (call fv vals) (f vs) s ρ st := by
  unfold bfun at h
  split at h
  · rename_i q; rw [eq_of_beq q]; cases h
    exact ⟨.builtin "len", by decide +kernel, .inl ⟨_, rfl⟩, fun vs vals s ρ st hv => at_len hv⟩
  split at h
  · rename_i q; rw [eq_of_beq q]; cases h
    exact ⟨.builtin "isinstance", by decide +kernel, .inl ⟨_, rfl⟩, fun vs vals s ρ st hv => at_isi hK hv⟩
  split at h
  · rename_i q; rw [eq_of_beq q]; cases h
    exact ⟨.type "list", by decide +kernel, .inr (.inl ⟨_, rfl⟩), fun vs vals s ρ st hv => at_list hv⟩
  split at h
  · rename_i q; rw [eq_of_beq q]; cases h
    exact ⟨.type "range", by decide +kernel, .inr (.inl ⟨_, rfl⟩), fun vs vals s ρ st hv => at_range hv⟩
  split at h
  · rename_i q; rw [eq_of_beq q]; cases h
    exact ⟨.type "str", by decide +kernel, .inr (.inl ⟨_, rfl⟩), fun vs vals s ρ st hv => at_strOf hv⟩
  split at h
  · rename_i q; rw [eq_of_beq q]; cases h
    exact ⟨.type "int", by decide +kernel, .inr (.inl ⟨_, rfl⟩), fun vs vals s ρ st hv => at_intOf hv⟩
  cases h
theorem snd_callName (hO : Ok C K G W d) (hE : EnvOk env sc) {x : Str} {p pos : Pos} {es : List Expr} {ms : List (M V)} {m : M V} (ha : All2 (ArgR C (d + 1) env sc ns) es ms) (h : dCall W G sc x ms = some m) : SndE C (d + 1) env sc ns (.Call (.Name x p) es [] pos) m := .of fun A s ρ st Q E X hA hS hw => by
  unfold dCall at h
  split at h
  case isFalse => cases h
  rename_i hg
  refine wpAny_Call_Name_kw ?_
  split at h
  · rename_i hf
    cases h
    obtain ⟨a, q1, q2, q3⟩ := hO.fn x hf
    exact load_own hO.cx hE hS hg q1 ((snd_callAny (fs := []) hO.inK (.inr (.inr q2)) ha (by simp only [VRs]) fun vs vals s ρ st hv => q3.at hv).go hA hS hw)
  split at h
  · rename_i hf hc
    split at h
    case isFalse => cases h
    rename_i hi
    cases h
    obtain ⟨a, q⟩ := hO.cx.cls x hc
    obtain ⟨hkp, _⟩ := hO.new x a q hi
    exact load_own hO.cx hE hS hg q ((snd_callAny (fs := []) hO.inK (.inr (.inr hkp)) ha (by simp only [VRs]) fun vs vals s ρ st hv => at_new hO q hi hv).go hA hS hw)
  split at h
  · cases h
  · rename_i hf hc hk
    obtain ⟨f, h1, rfl⟩ := Option.map_eq_some_iff.mp h
    obtain ⟨fv, q1, q2, q3⟩ := bfun_ok (K := K) (C := C) (env := env) (sc := sc) (ns := ns) hO.inK h1
    obtain ⟨h2, h3⟩ := hO.cx.blt x fv q1 (by simpa using hf) (by simpa using hc) (by cases z : List.lookup x G.consts with | none => rfl | some w => rw [z] at hk; exact absurd rfl hk)
    exact load_blt hO.cx hE hS hg h2 h3 ((snd_callAny (fs := []) hO.inK q2 ha (by simp only [VRs]) fun vs vals s ρ st hv => q3 vs vals s ρ st hv).go hA hS hw)
end
end Mine
set_option autoImplicit false
set_option linter.unusedVariables false
namespace Mine
open PySem PyProof.Rows PySem.W
/- targets -/
theorem tgs_ok {sc : Scope} {ns : List Str} : ∀ {es : List Expr} {xs : List Str} {is : List Nat}, namesOfT es = some xs → xs.all (isVar sc) = true → idxAll ns xs = some is → TgR sc ns es is
  | [], xs, is, h1, h2, h3 => by cases h1; cases h3; exact trivial
  | e :: es, xs, is, h1, h2, h3 => by
    cases e <;> first | cases h1 | skip
    rename_i x p
    simp only [namesOfT, Option.map_eq_some_iff] at h1
    obtain ⟨ys, h1, rfl⟩ := h1
    simp only [List.all_cons, Bool.and_eq_true] at h2
    unfold idxAll at h3
    split at h3
    · rename_i k ks q1 q2
      cases h3
      exact ⟨h2.1, q1, tgs_ok h1 h2.2 q2⟩
    · cases h3
theorem dTg_ok {sc : Scope} {ns : List Str} {t : Expr} {tg : Tg} (h : dTg sc ns t = some tg) : TgtR sc ns t tg := by
  unfold dTg at h
  split at h
  · split at h
    · rename_i x p hv
      obtain ⟨i, h1, rfl⟩ := Option.map_eq_some_iff.mp h
      exact ⟨hv, h1⟩
    · cases h
  · split at h
    · rename_i es k p xs hx
      split at h
      · rename_i hall
        obtain ⟨is, h1, rfl⟩ := Option.map_eq_some_iff.mp h
        exact tgs_ok hx hall h1
      · cases h
    · cases h
  · cases h
theorem tnames_ok : ∀ {es : List Expr} {xs : List Str}, namesOfT es = some xs → tnames es = xs
  | [], xs, h => by cases h; rfl
  | e :: es, xs, h => by
    cases e <;> first | cases h | skip
    rename_i x p
    simp only [namesOfT, Option.map_eq_some_iff] at h
    obtain ⟨ys, h, rfl⟩ := h
    show x :: tnames es = _
    rw [tnames_ok h]
theorem tname_ok {t : Expr} {xs : List Str} (h : tgNames t = some xs) : ∀ x ∈ tname t, x ∈ xs := by
  cases t <;> first | cases h | skip
  · exact fun x hx => hx
  · intro x hx
    show x ∈ xs
    rw [← tnames_ok h]; exact hx
theorem set_plain' {e : Expr} (h : isSetE e = false) (env : Env) : ∀ x, foldedSetIterable e env x = pure x := by
  intro x
  cases e <;> first | rfl | cases h
/- the methods -/
section
variable {C : Cx} {d : Nat} {env : Env} {sc : Scope} {ns : List Str} {K : Frag} {G : GI} {W : Wd}
theorem pickM_ok (hO : Ok C K G W d) (x : Str) : PickOk C K (d + 1) env sc ns x (pickM W x) := by
  unfold pickM
  split
  · rename_i h; rw [eq_of_beq h]; exact pick_list PySem.F.slot_list_append rfl fun vs vals s ρ st hv => at_append hv
  split
  · rename_i h; rw [eq_of_beq h]; exact pick_str PySem.F.slot_str_count rfl fun vs vals s ρ st hv => at_count hv
  split
  · rename_i h; rw [eq_of_beq h]; exact pick_str PySem.F.slot_str_join rfl fun vs vals s ρ st hv => at_join hv
  split
  · rename_i h; rw [eq_of_beq h]; exact pick_str PySem.F.slot_str_split rfl fun vs vals s ρ st hv => at_split hv
  split
  · rename_i h; rw [eq_of_beq h]; exact pick_str PySem.F.slot_str_startswith rfl fun vs vals s ρ st hv => at_starts hv
  exact pick_own hO
/- an expression and what it means -/
structure DnOk (C : Cx) (d : Nat) (env : Env) (sc : Scope) (ns : List Str) (e : Expr) (D : Dn) : Prop where
  v : ∀ m, D.v = some m → starE e = false ∧ SndE C d env sc ns e m
  b : ∀ m, D.b = some m → SndB C d env sc ns e m
  s : ∀ m, D.s = some m → ∀ t, isTupT t = true → SrcSnd C d env sc ns t e m
theorem DnOk.none {e : Expr} : DnOk C d env sc ns e (.of Option.none) := ⟨(fun m h => by cases h), (fun m h => by cases h), (fun m h => by cases h)⟩
theorem DnOk.mk' {e : Expr} {m : Option (M V)} (he : isTrue e env (eval e env) = (do let v ← eval e env; standAt e.pos; holding [v] (truthy v))) (hs : starE e = false) (h : ∀ m', m = some m' → SndE C d env sc ns e m') : DnOk C d env sc ns e (.of m) := by
  cases m with
  | none => exact .none
  | some m =>
    have h1 := h m rfl
    exact ⟨(fun m' q => by cases q; exact ⟨hs, h1⟩), (fun m' q => by cases q; exact sndB_value h1 he), (fun m' q t _ => by cases q; exact src_value h1)⟩
theorem allV_args : ∀ {es : List Expr} {Ds : List Dn} {l : List (M V)}, All2 (DnOk C d env sc ns) es Ds → allV Ds = some l → All2 (ArgR C d env sc ns) es l
  | [], [], l, _, h => by cases h; exact trivial
  | e :: es, D :: Ds, l, h, q => by
    unfold allV at q
    split at q
    · rename_i m l' q1 q2
      cases q
      exact ⟨h.1.v m q1, allV_args h.2 q2⟩
    · cases q
  | [], _ :: _, _, h, _ => h.elim
  | _ :: _, [], _, h, _ => h.elim
theorem args_E : ∀ {es : List Expr} {l : List (M V)}, All2 (ArgR C d env sc ns) es l → All2 (SndE C d env sc ns) es l
  | [], [], _ => trivial
  | _ :: _, _ :: _, h => ⟨h.1.2, args_E h.2⟩
  | [], _ :: _, h => h.elim
  | _ :: _, [], h => h.elim
theorem allB_ok : ∀ {es : List Expr} {Ds : List Dn} {l : List (M Bool)}, All2 (DnOk C d env sc ns) es Ds → allB Ds = some l → All2 (SndB C d env sc ns) es l
  | [], [], l, _, h => by cases h; exact trivial
  | e :: es, D :: Ds, l, h, q => by
    unfold allB at q
    split at q
    · rename_i m l' q1 q2
      cases q
      exact ⟨h.1.b m q1, allB_ok h.2 q2⟩
    · cases q
  | [], _ :: _, _, h, _ => h.elim
  | _ :: _, [], _, h, _ => h.elim
theorem zip_ok : ∀ {ops : List CmpOp} {es : List Expr} {ms : List (M V)} {r : List (CmpOp × M V)}, All2 (ArgR C d env sc ns) es ms → zipOps ops ms = some r → ChainR C d env sc ns ops es r
  | [], [], [], r, _, h => by cases h; exact trivial
  | o :: ops, e :: es, m :: ms, r, ha, h => by
    simp only [zipOps, Option.map_eq_some_iff] at h
    obtain ⟨r', h, rfl⟩ := h
    exact ⟨rfl, ha.1.2, zip_ok ha.2 h⟩
  | [], [], _ :: _, _, ha, _ => ha.elim
  | [], _ :: _, [], _, ha, _ => ha.elim
  | [], _ :: _, _ :: _, _, _, h => by cases h
  | _ :: _, [], [], _, _, h => by cases h
  | _ :: _, [], _ :: _, _, ha, _ => ha.elim
  | _ :: _, _ :: _, [], _, ha, _ => ha.elim
theorem marks_ok : ∀ {ops : List CmpOp} {es : List Expr}, es.any isSetE = false → lastMarks ops es = false
  | [], [], _ => rfl
  | [], _ :: _, _ => rfl
  | [o], [], _ => rfl
  | [o], [e], h => by
    simp only [List.any_cons, List.any_nil, Bool.or_false] at h
    show behindInMarks o e = false
    unfold behindInMarks
    cases e <;> first | (cases o <;> rfl) | cases h
  | [o], e :: e' :: es, h => by
    simp only [List.any_cons, Bool.or_eq_false_iff] at h
    show lastMarks [] (e' :: es) = false
    rfl
  | o :: o' :: ops, [], _ => rfl
  | o :: o' :: ops, [e], _ => by
    show lastMarks (o' :: ops) [] = false
    exact marks_ok rfl
  | o :: o' :: ops, e :: e' :: es, h => by
    rw [List.any_cons, Bool.or_eq_false_iff] at h
    show lastMarks (o' :: ops) (e' :: es) = false
    exact marks_ok h.2
/- comprehensions -/
structure CompD (C : Cx) (d : Nat) (env : Env) (sc : Scope) (ns : List Str) (elt t it : Expr) (ifs : List Expr) (cs : Scope) (m : M V) : Prop where
  has : ∃ xs tg src mc me, m = compM ns.length xs.length src tg (andM mc) me ∧ CompGood sc ns cs xs ∧ TgtR cs (ns ++ xs) t tg ∧ (∀ x ∈ tname t, x ∈ xs) ∧ SrcSnd C d env sc ns t it src ∧ (∀ x, foldedSetIterable it env x = pure x) ∧ ifs.length ≤ 1 ∧
    (∀ cenv, EnvOk cenv cs → All2 (SndB C d cenv cs (ns ++ xs)) ifs mc) ∧ ∀ cenv, EnvOk cenv cs → SndE C d cenv cs (ns ++ xs) elt me
noncomputable def dComp (W : Wd) (G : GI) (sc : Scope) (ns : List Str) (elt : Expr) (gens : List Comprehension) (cs : Scope) : Option (M V) := match gens with
    | [⟨t, it, ifs, 0⟩] => match tgNames t with
      | some xs => if !compOk sc ns cs xs || isSetE it || decide (1 < ifs.length) then none else match (if isTupT t then (dn W G sc ns it).s else (dn W G sc ns it).v.map fun m => m.bind toSrc), dTg cs (ns ++ xs) t, allB (dns W G cs (ns ++ xs) ifs), (dn W G cs (ns ++ xs) elt).v with
        | some s, some tg, some cond, some e => some (compM ns.length xs.length s tg (andM cond) e)
        | _, _, _, _ => none
      | none => none
    | _ => none
theorem comp_inv {elt : Expr} {gens : List Comprehension} {cs : Scope} {m : M V} (h : dComp W G sc ns elt gens cs = some m) : ∃ t it ifs, gens = [⟨t, it, ifs, 0⟩] := by
  unfold dComp at h
  split at h
  · exact ⟨_, _, _, rfl⟩
  · cases h
theorem comp_data {elt t it : Expr} {ifs : List Expr} {cs : Scope} {m : M V} (hit : DnOk C d env sc ns it (dn W G sc ns it)) (hifs : ∀ xs cenv, EnvOk cenv cs → All2 (DnOk C d cenv cs (ns ++ xs)) ifs (dns W G cs (ns ++ xs) ifs))
    (helt : ∀ xs cenv, EnvOk cenv cs → DnOk C d cenv cs (ns ++ xs) elt (dn W G cs (ns ++ xs) elt)) (h : dComp W G sc ns elt [⟨t, it, ifs, 0⟩] cs = some m) : CompD C d env sc ns elt t it ifs cs m := by
  have h' : (match tgNames t with
      | some xs => if !compOk sc ns cs xs || isSetE it || decide (1 < ifs.length) then none else match (if isTupT t then (dn W G sc ns it).s else (dn W G sc ns it).v.map fun m => m.bind toSrc), dTg cs (ns ++ xs) t, allB (dns W G cs (ns ++ xs) ifs), (dn W G cs (ns ++ xs) elt).v with
        | some s, some tg, some cond, some e => some (compM ns.length xs.length s tg (andM cond) e)
        | _, _, _, _ => none
      | none => none) = some m := h
  clear h
  split at h'
  · rename_i xs hxs
    split at h'
    · cases h'
    · rename_i hok
      simp only [Bool.not_eq_true, Bool.or_eq_false_iff, Bool.not_eq_false', decide_eq_false_iff_not, Nat.not_lt] at hok
      obtain ⟨⟨h1, h2⟩, h3⟩ := hok
      split at h'
      · rename_i s tg cond e q1 q2 q3 q4
        cases h'
        refine ⟨xs, tg, s, cond, e, rfl, comp_good h1, dTg_ok q2, tname_ok hxs, ?_, set_plain' h2 env, h3, fun cenv hc => allB_ok (hifs xs cenv hc) q3, fun cenv hc => ((helt xs cenv hc).v e q4).2⟩
        by_cases ht : isTupT t = true
        · rw [if_pos ht] at q1
          exact hit.s s q1 t ht
        · rw [if_neg ht] at q1
          obtain ⟨m', q5, rfl⟩ := Option.map_eq_some_iff.mp q1
          exact src_value (hit.v m' q5).2
      · cases h'
  · cases h'
theorem CompD.snd {elt t it : Expr} {ifs : List Expr} {cs : Scope} {m : M V} {pos : Pos} (hE : EnvOk env sc) (h : CompD C d env sc ns elt t it ifs cs m) : SndE C d env sc ns (.ListComp elt [⟨t, it, ifs, 0⟩] cs pos) m := by
  obtain ⟨xs, tg, src, mc, me, rfl, h1, h2, h3, h4, h5, h6, h7, h8⟩ := h.has
  exact snd_comp hE h1 h2 h3 h4 h5 h6 h7 h8
end
end Mine
set_option autoImplicit false
set_option linter.unusedVariables false
namespace Mine
open PySem PyProof.Rows PySem.W
section
variable {C : Cx} {d : Nat} {K : Frag} {G : GI} {W : Wd}
theorem optV_ok {env : Env} {sc : Scope} {ns : List Str} {e : Option Expr} {m : Option (M V)} (h : ∀ x, e = some x → DnOk C d env sc ns x (dn W G sc ns x)) (q : optV (dnO W G sc ns e) = some m) : OptR C d env sc ns e m := by
  cases e with
  | none => cases q; exact trivial
  | some x =>
    obtain ⟨m', q1, rfl⟩ := Option.map_eq_some_iff.mp (show (dn W G sc ns x).v.map some = some m from q)
    exact ((h x rfl).v m' q1).2
theorem dn_sub (sc : Scope) (ns : List Str) (o i : Expr) (p : Pos) (hs : dSlice i = false) : dn W G sc ns (.Subscript o i p) = .of (dSu (dn W G sc ns o).v (dn W G sc ns i).v) := by
  cases i <;> first | rfl | cases hs
noncomputable def isSlice : Expr → Bool
  | .Slice .. => true
  | _ => false
mutual
theorem dn_ok (hO : Ok C K G W d) : ∀ (e : Expr) {env : Env} {sc : Scope} {ns : List Str}, EnvOk env sc → DnOk C (d + 1) env sc ns e (dn W G sc ns e)
  | .Constant c k p, env, sc, ns, hE => .mk' rfl rfl fun m' h => by
    obtain ⟨v, h1, rfl⟩ := Option.map_eq_some_iff.mp h
    exact snd_const h1
  | .Name x p, env, sc, ns, hE => .mk' rfl rfl fun m' h => by
    split at h
    · rename_i hg
      obtain ⟨v, h1, rfl⟩ := Option.map_eq_some_iff.mp h
      exact snd_glob hO hE hg h1
    · split at h
      · rename_i hv
        obtain ⟨i, h1, rfl⟩ := Option.map_eq_some_iff.mp h
        exact snd_var hE hv h1
      · cases h
  | .BoolOp .And es p, env, sc, ns, hE => by
    have ih := dns_ok hO es (ns := ns) hE
    refine ⟨(fun m h => ⟨rfl, ?_⟩), (fun m h => ?_), (fun m h => by cases h)⟩
    · have h' : (if es.isEmpty then none else (allV (dns W G sc ns es)).map fun l => boolV (andM (l.map evB))) = some m := h
      split at h'
      · cases h'
      · rename_i hne
        obtain ⟨l, h1, rfl⟩ := Option.map_eq_some_iff.mp h'
        exact snd_and (fun q => hne (by rw [q]; rfl)) (args_E (allV_args ih h1))
    · obtain ⟨l, h1, rfl⟩ := Option.map_eq_some_iff.mp (show (allB (dns W G sc ns es)).map andM = some m from h)
      exact sndB_and (allB_ok ih h1)
  | .BoolOp .Or es p, env, sc, ns, hE => by
    have ih := dns_ok hO es (ns := ns) hE
    refine ⟨(fun m h => ⟨rfl, ?_⟩), (fun m h => ?_), (fun m h => by cases h)⟩
    · have h' : (if es.isEmpty then none else (allV (dns W G sc ns es)).map fun l => boolV (orM (l.map evB))) = some m := h
      split at h'
      · cases h'
      · rename_i hne
        obtain ⟨l, h1, rfl⟩ := Option.map_eq_some_iff.mp h'
        exact snd_or (fun q => hne (by rw [q]; rfl)) (args_E (allV_args ih h1))
    · obtain ⟨l, h1, rfl⟩ := Option.map_eq_some_iff.mp (show (allB (dns W G sc ns es)).map orM = some m from h)
      exact sndB_or (allB_ok ih h1)
  | .BinOp l op r p, env, sc, ns, hE => .mk' rfl rfl fun m' h => by
    split at h
    · rename_i a b h1 h2
      cases h
      exact snd_bin ((dn_ok hO l hE).v a h1).2 ((dn_ok hO r hE).v b h2).2 fun x y vx vy s ρ st q1 q2 => at_bin q1 q2
    · cases h
  | .UnaryOp .Not x p, env, sc, ns, hE => by
    have ih := dn_ok hO x (ns := ns) hE
    refine ⟨(fun m h => ⟨rfl, ?_⟩), (fun m h => ?_), (fun m h => by cases h)⟩
    · obtain ⟨a, h1, rfl⟩ := Option.map_eq_some_iff.mp (show ((dn W G sc ns x).v.map fun m => boolV (notM (evB m))) = some m from h)
      exact snd_not (ih.v a h1).2
    · obtain ⟨a, h1, rfl⟩ := Option.map_eq_some_iff.mp (show (dn W G sc ns x).b.map notM = some m from h)
      exact sndB_not (ih.b a h1)
  | .UnaryOp .USub x p, env, sc, ns, hE => .mk' rfl rfl fun m' h => by
    obtain ⟨a, h1, rfl⟩ := Option.map_eq_some_iff.mp h
    exact snd_neg ((dn_ok hO x hE).v a h1).2
  | .UnaryOp .Invert x p, env, sc, ns, hE => .none
  | .UnaryOp .UAdd x p, env, sc, ns, hE => .none
  | .IfExp t a b p, env, sc, ns, hE => by
    refine ⟨(fun m h => ⟨rfl, ?_⟩), (fun m h => by cases h), (fun m h => by cases h)⟩
    have h' : (match (dn W G sc ns t).b, (dn W G sc ns a).v, (dn W G sc ns b).v with
      | some t, some a, some b => some (iteM t a b)
      | _, _, _ => none) = some m := h
    split at h'
    · rename_i mt ma mb h1 h2 h3
      cases h'
      exact snd_ife ((dn_ok hO t hE).b mt h1) ((dn_ok hO a hE).v ma h2).2 ((dn_ok hO b hE).v mb h3).2
    · cases h'
  | .List es p, env, sc, ns, hE => .mk' rfl rfl fun m' h => by
    split at h
    · obtain ⟨l, h1, rfl⟩ := Option.map_eq_some_iff.mp h
      exact snd_list (allV_args (dns_ok hO es hE) h1)
    · cases h
  | .Tuple es k p, env, sc, ns, hE => .mk' rfl rfl fun m' h => by
    split at h
    · obtain ⟨l, h1, rfl⟩ := Option.map_eq_some_iff.mp h
      exact snd_tuple (allV_args (dns_ok hO es hE) h1)
    · cases h
  | .ListComp elt [⟨t, it, ifs, 0⟩] cs p, env, sc, ns, hE => .mk' rfl rfl fun m' h =>
    (comp_data (dn_ok hO it hE) (fun xs cenv hc => dns_ok hO ifs hc) (fun xs cenv hc => dn_ok hO elt hc) h).snd hE
  | .ListComp elt [] cs p, env, sc, ns, hE => .none
  | .ListComp elt [⟨t, it, ifs, .ofNat (n + 1)⟩] cs p, env, sc, ns, hE => .none
  | .ListComp elt [⟨t, it, ifs, .negSucc n⟩] cs p, env, sc, ns, hE => .none
  | .ListComp elt (⟨_, _, _, a⟩ :: _ :: _) cs p, env, sc, ns, hE => by
    cases a with
    | ofNat n => cases n <;> exact .none
    | negSucc n => exact .none
  | .Compare l ops cs p, env, sc, ns, hE => by
    have ih1 := dn_ok hO l (ns := ns) hE
    have ih2 := dns_ok hO cs (ns := ns) hE
    show DnOk C (d + 1) env sc ns _ (match (dn W G sc ns l).v, allV (dns W G sc ns cs) with
      | some a, some bs => if lastMarks0 ops cs then .of none else match zipOps ops bs with
        | some (r :: rs) => .test (some (cmpM a (r :: rs)))
        | _ => .of none
      | _, _ => .of none)
    split
    · rename_i a bs h1 h2
      split
      · exact .none
      · rename_i hm
        split
        · rename_i r rs h3
          have ha := allV_args ih2 h2
          have hz := zip_ok ha h3
          have hmk : lastMarks ops cs = false := marks_ok (by simpa [lastMarks0] using hm)
          refine ⟨(fun m h => ⟨rfl, ?_⟩), (fun m h => ?_), (fun m h => by cases h)⟩
          · cases h; exact snd_cmp cmp_snd (ih1.v a h1).2 hz (List.cons_ne_nil _ _) hmk
          · cases h; exact sndB_cmp cmp_snd (ih1.v a h1).2 hz (List.cons_ne_nil _ _) hmk
        · exact .none
    · exact .none
  | .Call (.Attribute o x ap) as ks p, env, sc, ns, hE => .mk' rfl rfl fun m' h => by
    have ih1 := dn_ok hO o (ns := ns) hE
    have ih2 := dns_ok hO as (ns := ns) hE
    split at h
    · rename_i m l h1 h2
      split at h
      · rename_i hc
        simp only [Bool.and_eq_true, decide_eq_true_eq, Bool.not_eq_true'] at hc
        cases h
        exact snd_methodCall hO.inK hc.2 hc.1.2 hc.1.1 (ih1.v m h1).2 (allV_args ih2 h2) (pickM_ok hO x)
      · cases h
    · cases h
  | .Call (.Name x q) as ks p, env, sc, ns, hE => by
    have ih := dns_ok hO as (ns := ns) hE
    show DnOk C (d + 1) env sc ns _ (match allV (dns W G sc ns as), ks with
      | some l, [] =>
        if isBuiltin G sc x "enumerate" then ⟨none, none, match l with | [m] => some (m.bind enumV) | _ => none⟩
        else .of (dCall W G sc x l)
      | _, _ => .of none)
    split
    · rename_i l h1
      have ha := allV_args ih h1
      clear h1
      split
      · rename_i hb
        refine ⟨(fun m h => by cases h), (fun m h => by cases h), (fun m h t ht => ?_)⟩
        dsimp only at h
        split at h
        · rename_i m1
          cases h
          cases as with
          | nil => exact ha.elim
          | cons a r =>
            cases r with
            | cons _ _ => exact ha.2.elim
            | nil =>
              have hx : x = nm "enumerate" := by
                simp only [isBuiltin, Bool.and_eq_true] at hb
                exact eq_of_beq hb.1.1.1.1
              subst hx
              exact src_enum hO hE ht hb ha.1.1 ha.1.2
        · cases h
      · exact .mk' rfl rfl fun m' h => snd_callName hO hE ha h
    · exact .none
  | .Call (.BoolOp ..) as ks p, env, sc, ns, hE => .none
  | .Call (.NamedExpr ..) as ks p, env, sc, ns, hE => .none
  | .Call (.BinOp ..) as ks p, env, sc, ns, hE => .none
  | .Call (.UnaryOp ..) as ks p, env, sc, ns, hE => .none
  | .Call (.Lambda ..) as ks p, env, sc, ns, hE => .none
  | .Call (.IfExp ..) as ks p, env, sc, ns, hE => .none
  | .Call (.Dict ..) as ks p, env, sc, ns, hE => .none
  | .Call (.Set ..) as ks p, env, sc, ns, hE => .none
  | .Call (.ListComp ..) as ks p, env, sc, ns, hE => .none
  | .Call (.SetComp ..) as ks p, env, sc, ns, hE => .none
  | .Call (.DictComp ..) as ks p, env, sc, ns, hE => .none
  | .Call (.GeneratorExp ..) as ks p, env, sc, ns, hE => .none
  | .Call (.Await ..) as ks p, env, sc, ns, hE => .none
  | .Call (.Yield ..) as ks p, env, sc, ns, hE => .none
  | .Call (.YieldFrom ..) as ks p, env, sc, ns, hE => .none
  | .Call (.Compare ..) as ks p, env, sc, ns, hE => .none
  | .Call (.Call ..) as ks p, env, sc, ns, hE => .none
  | .Call (.FormattedValue ..) as ks p, env, sc, ns, hE => .none
  | .Call (.JoinedStr ..) as ks p, env, sc, ns, hE => .none
  | .Call (.Constant ..) as ks p, env, sc, ns, hE => .none
  | .Call (.Subscript ..) as ks p, env, sc, ns, hE => .none
  | .Call (.Starred ..) as ks p, env, sc, ns, hE => .none
  | .Call (.List ..) as ks p, env, sc, ns, hE => .none
  | .Call (.Tuple ..) as ks p, env, sc, ns, hE => .none
  | .Call (.Slice ..) as ks p, env, sc, ns, hE => .none
  | .Attribute o x p, env, sc, ns, hE => .mk' rfl rfl fun m' h => by
    have ih := dn_ok hO o (ns := ns) hE
    split at h
    · cases h
    · rename_i hs
      obtain ⟨a, h1, rfl⟩ := Option.map_eq_some_iff.mp h
      exact snd_attr hO (by simpa using hs) (ih.v a h1).2
  | .Subscript o (.Slice l u st q) p, env, sc, ns, hE => .mk' rfl rfl fun m' h => by
    have ih := dn_ok hO o (ns := ns) hE
    have ihl := dnO_ok hO l (ns := ns) hE
    have ihu := dnO_ok hO u (ns := ns) hE
    unfold dSl at h
    split at h
    · rename_i m ml mu h1 h2 h3
      cases h
      exact snd_slice (ih.v m h1).2 (optV_ok ihl h2) (optV_ok ihu h3)
    · cases h
  | .Subscript o i p, env, sc, ns, hE => by
    have ih := dn_ok hO o (ns := ns) hE
    have ih2 := dn_ok hO i (ns := ns) hE
    by_cases hs : dSlice i = true
    · cases i <;> first | cases hs | skip
      rename_i l u st q
      refine .mk' rfl rfl fun m' h => ?_
      unfold dSl at h
      split at h
      · rename_i m ml mu h1 h2 h3
        cases h
        exact snd_slice (ih.v m h1).2 (optV_ok (fun x q => by subst q; exact dn_ok hO x hE) h2) (optV_ok (fun x q => by subst q; exact dn_ok hO x hE) h3)
      · cases h
    · rw [dn_sub _ _ _ _ _ (by simpa using hs)]
      refine .mk' rfl rfl fun m' h => ?_
      unfold dSu at h
      split at h
      · rename_i m k h1 h2
        cases h
        refine snd_sub ?_ (ih.v m h1).2 (ih2.v k h2).2
        cases i <;> first | rfl | exact absurd rfl hs
      · cases h
  | .NamedExpr .., env, sc, ns, hE => .none
  | .Lambda .., env, sc, ns, hE => .none
  | .Dict .., env, sc, ns, hE => .none
  | .Set .., env, sc, ns, hE => .none
  | .SetComp .., env, sc, ns, hE => .none
  | .DictComp .., env, sc, ns, hE => .none
  | .GeneratorExp .., env, sc, ns, hE => .none
  | .Await .., env, sc, ns, hE => .none
  | .Yield .., env, sc, ns, hE => .none
  | .YieldFrom .., env, sc, ns, hE => .none
  | .FormattedValue .., env, sc, ns, hE => .none
  | .JoinedStr .., env, sc, ns, hE => .none
  | .Starred .., env, sc, ns, hE => .none
  | .Slice .., env, sc, ns, hE => .none
theorem dnO_ok (hO : Ok C K G W d) : ∀ (e : Option Expr) {env : Env} {sc : Scope} {ns : List Str}, EnvOk env sc → ∀ x, e = some x → DnOk C (d + 1) env sc ns x (dn W G sc ns x)
  | none, env, sc, ns, hE, x, h => by cases h
  | some e, env, sc, ns, hE, x, h => by cases h; exact dn_ok hO e hE
theorem dns_ok (hO : Ok C K G W d) : ∀ (es : List Expr) {env : Env} {sc : Scope} {ns : List Str}, EnvOk env sc → All2 (DnOk C (d + 1) env sc ns) es (dns W G sc ns es)
  | [], env, sc, ns, hE => trivial
  | e :: es, env, sc, ns, hE => ⟨dn_ok hO e hE, dns_ok hO es hE⟩
end
end
end Mine
set_option autoImplicit false
set_option linter.unusedVariables false
namespace Mine
open PySem PyProof.Rows PySem.W
section
variable {C : Cx} {d : Nat} {K : Frag} {G : GI} {W : Wd}
theorem comp_gens {sc : Scope} {ns : List Str} {elt : Expr} {cs : Scope} {p : Pos} {m : M V} : ∀ {gens : List Comprehension}, (dn W G sc ns (.ListComp elt gens cs p)).v = some m → ∃ t it ifs, gens = [⟨t, it, ifs, 0⟩]
  | [], h => by cases h
  | [⟨t, it, ifs, .ofNat 0⟩], _ => ⟨t, it, ifs, rfl⟩
  | [⟨t, it, ifs, .ofNat (n + 1)⟩], h => by cases h
  | [⟨t, it, ifs, .negSucc n⟩], h => by cases h
  | ⟨_, _, _, a⟩ :: _ :: _, h => by
    cases a with
    | ofNat n => cases n <;> cases h
    | negSucc n => cases h
theorem src_ok (hO : Ok C K G W d) {env : Env} {sc : Scope} {ns : List Str} (hE : EnvOk env sc) {t it : Expr} {s : M Src} (h : dSrc W G sc ns (isTupT t) it = some s) : SrcSnd C (d + 1) env sc ns t it s := by
  unfold dSrc at h
  split at h
  · rename_i ht
    exact (dn_ok hO it hE).s s h t ht
  · obtain ⟨m, h1, rfl⟩ := Option.map_eq_some_iff.mp h
    exact src_value ((dn_ok hO it hE).v m h1).2
theorem src_notSet {sc : Scope} {ns : List Str} {tt : Bool} {it : Expr} {s : M Src} (h : dSrc W G sc ns tt it = some s) : isSetE it = false := by
  cases it <;> first | rfl | skip
  unfold dSrc at h
  split at h <;> cases h
theorem assign_ok (hO : Ok C K G W d) {env : Env} {sc : Scope} {ns : List Str} (hE : EnvOk env sc) {x : Str} {p pos : Pos} {e : Expr} {m : M V} {tg : Tg} (he : (dn W G sc ns e).v = some m) (ht : dTg sc ns (.Name x p) = some tg) : SndX C (d + 1) env sc ns (.Assign [.Name x p] e pos) (assignM tg m) := by
  have htg := dTg_ok ht
  cases tg <;> first | exact htg.elim | skip
  rename_i i
  by_cases hc : compE e = true
  · cases e <;> first | cases hc | skip
    · rename_i elt gens cs p'
      obtain ⟨t, it, ifs, rfl⟩ := comp_gens he
      obtain ⟨xs, tg, src, mc, me, rfl, h1, h2, h3, h4, h5, h6, h7, h8⟩ := (comp_data (dn_ok hO it hE) (fun xs cenv hc => dns_ok hO ifs hc) (fun xs cenv hc => dn_ok hO elt hc) he).has
      exact snd_assignComp hE h1 htg.1 htg.2 h2 h3 h4 h5 h6 h7 h8
    · cases he
    · cases he
  · exact snd_assignName hE ((dn_ok hO e hE).v m he).2 htg.1 htg.2 (swaps_plain (env := env) (e := e) (t := some (.Name x p)) (n := pos.line) (by simpa using hc))
theorem snd_try {env : Env} {sc : Scope} {ns : List Str} {b : List Stmt} {h₀ : ExceptHandler} {hs : List ExceptHandler} {pos : Pos} {m : M Flow} (h : SndXs C d env sc ns b m) : SndX C d env sc ns (.Try b (h₀ :: hs) [] [] pos) m := fun A s ρ st Q E X hA hS hw hX => by
  refine wpAny_Try_except (h A s ρ st _ _ X hA hS (wpM_mono hw (fun v st₁ hq val s₁ ρ₁ r₁ S₁ e₁ => ?_) fun _ _ hx => hx) (fun _ _ _ _ _ _ r => r.elim))
  have hq' := hq val s₁ ρ₁ r₁ S₁ e₁
  cases v with
  | next => cases r₁; exact wpAny_execs_nil hq'
  | ret v => obtain ⟨x, rfl, _⟩ := r₁; exact hq'
theorem no_some {α : Type} {P : Prop} {m : α} (h : (none : Option α) = some m) : P := by cases h
theorem if_some {α : Type} {c : Bool} {o : Option α} {m : α} (h : (if c then o else none) = some m) : c = true ∧ o = some m := by
  cases c with
  | true => exact ⟨rfl, h⟩
  | false => exact no_some h
theorem asg_ok (hO : Ok C K G W d) {env : Env} {sc : Scope} {ns : List Str} (hE : EnvOk env sc) {t e : Expr} {pos : Pos} {m : M Flow} (h : dAsg W G sc ns t e (dE W G sc ns e) = some m) : SndX C (d + 1) env sc ns (.Assign [t] e pos) m := by
  obtain ⟨me, h1, h⟩ := Option.bind_eq_some_iff.mp h
  have ih := ((dn_ok hO e hE).v me h1).2
  cases t with
  | Attribute o x p =>
    obtain ⟨mo, h2, rfl⟩ := Option.map_eq_some_iff.mp h
    exact snd_assignAttr hO ih ((dn_ok hO o hE).v mo h2).2
  | Name x p =>
    obtain ⟨tg, h2, rfl⟩ := Option.map_eq_some_iff.mp h
    exact assign_ok hO hE h1 h2
  | Tuple ts k p =>
    have h' : (if isTupT e then none else (dTg sc ns (.Tuple ts k p)).map fun tg => assignM tg me) = some m := h
    cases ht : isTupT e with
    | true => rw [ht] at h'; exact no_some h'
    | false =>
      rw [ht] at h'
      obtain ⟨tg, h2, rfl⟩ := Option.map_eq_some_iff.mp h'
      exact snd_assignTuple hE (dTg_ok h2) ht ih
  | _ => exact no_some h
theorem raise_ok {env : Env} {sc : Scope} {ns : List Str} {e f : Option Expr} {pos : Pos} {m : M Flow} (h : (if f.isNone then dRaise G sc e else none) = some m) : SndX C (d + 1) env sc ns (.Raise e f pos) m := by
  cases f with
  | some _ => cases h
  | none =>
    have h' : dRaise G sc e = some m := h
    unfold dRaise at h'
    split at h'
    · split at h'
      · cases h'; exact snd_raise
      · cases h'
    · cases h'
theorem one1_ok {α : Type} {l : List α} {t : α} (h : one1 l = some t) : l = [t] := by
  cases l with
  | nil => cases h
  | cons a l =>
    cases l with
    | nil => cases h; rfl
    | cons _ _ => cases h
mutual
theorem dS_ok (hO : Ok C K G W d) {env : Env} {sc : Scope} {ns : List Str} (hE : EnvOk env sc) (s : Stmt) {m : M Flow} (h : dS W G sc ns s = some m) : SndX C (d + 1) env sc ns s m := by
  cases s with
  | Expr e pos =>
    obtain ⟨hc, h⟩ := if_some (o := (dE W G sc ns e).map exprM) h
    obtain ⟨a, h1, rfl⟩ := Option.map_eq_some_iff.mp h
    refine snd_expr hE ((dn_ok hO _ hE).v a h1).2 (swaps_plain (env := env) (e := e) (t := none) (n := pos.line) ?_)
    cases e <;> first | rfl | cases hc
  | Pass pos =>
    have h' : some (M.pure .next) = some m := h
    cases h'
    exact snd_pass
  | Return e pos =>
    obtain ⟨e, rfl, h⟩ := Option.bind_eq_some_iff.mp (show (e.bind fun e => (dE W G sc ns e).map retM) = some m from h)
    obtain ⟨a, h1, rfl⟩ := Option.map_eq_some_iff.mp h
    exact snd_return ((dn_ok hO e hE).v a h1).2
  | Assign ts e pos =>
    obtain ⟨t, h1, h⟩ := Option.bind_eq_some_iff.mp (show ((one1 ts).bind fun t => dAsg W G sc ns t e (dE W G sc ns e)) = some m from h)
    cases one1_ok h1
    exact asg_ok hO hE h
  | If t b o pos =>
    obtain ⟨mt, h1, h⟩ := Option.bind_eq_some_iff.mp (show ((dB W G sc ns t).bind fun t => (dSs W G sc ns b).bind fun b => (dSs W G sc ns o).bind fun o => some (iteM t (seqS b) (seqS o))) = some m from h)
    obtain ⟨mb, h2, h⟩ := Option.bind_eq_some_iff.mp h
    obtain ⟨mo, h3, h⟩ := Option.bind_eq_some_iff.mp h
    cases h
    exact snd_if ((dn_ok hO t hE).b mt h1) (snd_seq (dSs_ok hO hE b h2)) (snd_seq (dSs_ok hO hE o h3))
  | For t it b o pos =>
    obtain ⟨hc, h⟩ := if_some (o := (dTg sc ns t).bind fun tg => (dSrc W G sc ns (isTupT t) it).bind fun s => (dSs W G sc ns b).bind fun b => some (forM tg s (seqS b))) h
    cases List.isEmpty_iff.mp hc
    obtain ⟨tg, h1, h⟩ := Option.bind_eq_some_iff.mp h
    obtain ⟨ms, h2, h⟩ := Option.bind_eq_some_iff.mp h
    obtain ⟨mb, h3, h⟩ := Option.bind_eq_some_iff.mp h
    cases h
    exact snd_for hE (dTg_ok h1) (src_ok hO hE h2) (snd_seq (dSs_ok hO hE b h3)) (set_plain' (src_notSet h2) env)
  | Raise e f pos => exact raise_ok h
  | Try b hs o f pos =>
    obtain ⟨hc, h⟩ := if_some (o := (dSs W G sc ns b).map seqS) h
    simp only [Bool.and_eq_true] at hc
    cases List.isEmpty_iff.mp hc.1.2
    cases List.isEmpty_iff.mp hc.2
    cases hs with
    | nil => cases hc.1.1
    | cons _ _ =>
      obtain ⟨mb, h1, rfl⟩ := Option.map_eq_some_iff.mp h
      exact snd_try (snd_seq (dSs_ok hO hE b h1))
  | _ => exact no_some h
termination_by sizeOf s
theorem dSs_ok (hO : Ok C K G W d) {env : Env} {sc : Scope} {ns : List Str} (hE : EnvOk env sc) (ss : List Stmt) {ms : List (M Flow)} (h : dSs W G sc ns ss = some ms) : All2 (SndX C (d + 1) env sc ns) ss ms := by
  cases ss with
  | nil =>
    have h' : some [] = some ms := h
    cases h'; exact trivial
  | cons s r =>
    obtain ⟨m, h1, h⟩ := Option.bind_eq_some_iff.mp (show ((dS W G sc ns s).bind fun m => (dSs W G sc ns r).bind fun l => some (m :: l)) = some ms from h)
    obtain ⟨l, h2, h⟩ := Option.bind_eq_some_iff.mp h
    cases h
    exact ⟨dS_ok hO hE s h1, dSs_ok hO hE r h2⟩
termination_by sizeOf ss
end
end
end Mine
set_option autoImplicit false
set_option linter.unusedVariables false
namespace Mine
open PySem PyProof.Rows PySem.W
/- what the start heap holds, read off the written part of it -/
theorem mg_of {K : Frag} {h : Heap} {mg : Str → Option Value} (hK : K.In h) (hg : h.Ns mainGlobals mg) {x : Str} {r : Option Value} (e : nsIn K mainGlobals x = some r) : mg x = r := by
  unfold nsIn at e
  split at e
  · rename_i c d es n sl ho
    obtain ⟨o, es', ep, h1, h2, h3, h4⟩ := hg
    have h5 := hK _ _ ho
    rw [h1] at h5
    cases h5
    cases h2
    rw [← h4 x]
    unfold nsFind findBy
    rw [← Array.find?_toList]
    split at e
    · rename_i en he; cases e; rw [he]; rfl
    · rename_i he
      rw [he]
      split at e
      · cases e
      · cases e; rfl
  · cases e
noncomputable def gAddr (K : Frag) (x : Str) : Option Addr := match nsIn K mainGlobals x with
  | some (some (.ref a)) => some a
  | _ => none
theorem gAddr_some {K : Frag} {x : Str} {a : Addr} (h : gAddr K x = some a) : nsIn K mainGlobals x = some (some (.ref a)) := by
  unfold gAddr at h
  split at h
  · rename_i b hb; cases h; exact hb
  · cases h
noncomputable def mAddr (K : Frag) (k : Addr) (x : Str) : Option Addr := match findIn K (.ref k) x with
  | some (some (.ref f)) => some f
  | _ => none
theorem mAddr_some {K : Frag} {k : Addr} {x : Str} {a : Addr} (h : mAddr K k x = some a) : findIn K (.ref k) x = some (some (.ref a)) := by
  unfold mAddr at h
  split at h
  · rename_i b hb; cases h; exact hb
  · cases h
noncomputable def adr (K : Frag) : FnKey → Option Addr
  | .fn x => gAddr K x
  | .meth c m => (gAddr K c).bind fun k => mAddr K k m
noncomputable def fnV (K : Frag) (a : Option Addr) : Option FuncData := match a with
  | some a => (match K.lookup a with
    | some ⟨_, _, .func fd, _⟩ => some fd
    | _ => none)
  | none => none
noncomputable def codeB (K : Frag) (cd : Value) (q : Str) : Bool := match cd with
  | .ref c => (match K.lookup c with
    | some ⟨_, _, .fields vs, _⟩ => (match (vs[1]? : Option Value) with
      | some (Value.str y _) => y == q
      | _ => false)
    | _ => false)
  | _ => false
noncomputable def isNoneV : Value → Bool
  | .none => true
  | _ => false
noncomputable def fnB (K : Frag) (f : FnD) : Bool := f.ok && match fnV K (adr K f.key) with
  | some fd => fd.globals == mainGlobals && fd.closure.isEmpty && fd.builtins == builtinsNs && codeB K fd.code fd.qualname && fd.params.posonlyargs.isEmpty && fd.params.vararg.isNone && fd.params.kwonlyargs.isEmpty && fd.params.kw_defaults.isEmpty && fd.params.kwarg.isNone && fd.params.defaults.isEmpty &&
      (fd.params.args.map (·.arg) == f.params) && isNoneV fd.defaults
  | none => false
noncomputable def fnShape (K : Frag) (f : FnD) : Option (Scope × FuncBody) := (fnV K (adr K f.key)).map fun fd => (fd.scope, fd.body)
noncomputable def wantShape (f : FnD) : Option (Scope × FuncBody) := some (f.scope, .stmts f.body)
theorem map_eq_mem {α β : Type} {f g : α → β} : ∀ {l : List α}, l.map f = l.map g → ∀ x ∈ l, f x = g x
  | [], _, _, h => (nomatch h)
  | y :: l, e, x, h => by
    simp only [List.map_cons, List.cons.injEq] at e
    cases h with
    | head => exact e.1
    | tail _ h => exact map_eq_mem e.2 x h
theorem fnV_some {K : Frag} {a : Option Addr} {fd : FuncData} (h : fnV K a = some fd) : ∃ b o, a = some b ∧ K.lookup b = some o ∧ o.data = .func fd := by
  unfold fnV at h
  split at h
  · rename_i b
    split at h
    · rename_i c d fd' sl q
      cases h
      exact ⟨b, _, rfl, q, rfl⟩
    · cases h
  · cases h
theorem code_ok {K : Frag} {h : Heap} (hK : K.In h) {cd : Value} {q : Str} (e : codeB K cd q = true) : h.CodeRec cd q := by
  cases cd <;> first | cases e | skip
  rename_i c
  unfold codeB at e
  dsimp only at e
  split at e
  · rename_i ho
    split at e
    · rename_i y t hv
      refine ⟨c, _, _, t, rfl, hK _ _ ho, rfl, ?_⟩
      rw [hv, eq_of_beq e]
    · cases e
  · cases e
theorem isNone_ok {v : Value} (h : isNoneV v = true) : v = .none := by
  cases v <;> first | rfl | cases h
theorem fn_ok {C : Cx} {K : Frag} (hK : K.In C.base) {f : FnD} (hs : fnShape K f = wantShape f) (hb : fnB K f = true) : ∃ a, adr K f.key = some a ∧ FnOk C f a ∧ FnGood f := by
  unfold fnShape wantShape at hs
  obtain ⟨fd, h1, h2⟩ := Option.map_eq_some_iff.mp hs
  obtain ⟨a, o, h3, h4, h5⟩ := fnV_some h1
  unfold fnB at hb
  rw [h1] at hb
  simp only [Bool.and_eq_true, beq_iff_eq, List.isEmpty_iff, Option.isNone_iff_eq_none] at hb
  obtain ⟨hok, ⟨⟨⟨⟨⟨⟨⟨⟨⟨⟨⟨b1, b2⟩, b3⟩, b4⟩, b5⟩, b6⟩, b7⟩, b8⟩, b9⟩, b10⟩, b11⟩, b12⟩⟩ := hb
  simp only [Prod.mk.injEq] at h2
  refine ⟨a, h3, ⟨o, fd, fd.params.args, hK _ _ h4, h5, h2.1, h2.2, b1, b2, b3, code_ok hK b4, ?_, b11, isNone_ok b12⟩, FnD.good hok⟩
  rcases hp : fd.params with ⟨c1, c2, c3, c4, c5, c6, c7⟩
  rw [hp] at b5 b6 b7 b8 b9 b10
  simp only at b5 b6 b7 b8 b9 b10 ⊢
  rw [b5, b6, b7, b8, b9, b10]
theorem FnKey.beq_eq {a b : FnKey} (h : a.beq b = true) : a = b := by
  cases a with
  | fn x => cases b with
    | fn y => rw [eq_of_beq (show (x == y) = true from h)]
    | meth _ _ => cases h
  | meth a b' => cases b with
    | fn y => cases h
    | meth c d =>
      have h' : (a == c && b' == d) = true := h
      rw [Bool.and_eq_true] at h'
      rw [eq_of_beq h'.1, eq_of_beq h'.2]
theorem FnKey.beq_self (a : FnKey) : a.beq a = true := by
  cases a <;> simp [FnKey.beq]
/- the checks -/
noncomputable def fldB (K : Frag) (k : Addr) (x : Str) : Bool := plainGet K k x && hasDictIn K k && (match findIn K (.ref k) x with | some attr => noGet K attr | none => false) &&
  (findIn K (.ref k) "__setattr__" == some (some (.builtin "object.__setattr__"))) && plainOver K k && (takerIn K k x == some none)
noncomputable def keyB (K : Frag) (f : FnD) : Bool := match f.key with
  | .fn x => (match gAddr K x with
    | some a => keepIn K (.ref a)
    | none => false)
  | .meth c m => (match gAddr K c with
    | some k => plainGet K k m && (match mAddr K k m with
        | some a => isFn K (.ref a) && keepIn K (.ref a)
        | none => false) && (!(m == nm "__init__") || (keepIn K (.ref k) && makesIn K k)) && (fieldsIn f.body).all (fldB K k)
    | none => false)
noncomputable def intIs (b : Int) : Option (Option Value) → Bool
  | some (some (.int c _)) => b == c
  | _ => false
noncomputable def strIs (b : List Nat) : Option (Option Value) → Bool
  | some (some (.str c _)) => (⟨b.toArray⟩ : Str) == c
  | _ => false
noncomputable def constV (x : Option (Option Value)) : V → Bool
  | .int b => intIs b x
  | .str b => strIs b x
  | _ => false
noncomputable def constB (K : Frag) (p : Str × V) : Bool := constV (nsIn K mainGlobals p.1) p.2
theorem intIs_ok {b : Int} {x : Option (Option Value)} (h : intIs b x = true) : ∃ t, x = some (some (.int b t)) := by
  unfold intIs at h
  split at h
  · rename_i c t; exact ⟨t, by rw [eq_of_beq h]⟩
  · cases h
theorem strIs_ok {b : List Nat} {x : Option (Option Value)} (h : strIs b x = true) : ∃ t, x = some (some (.str ⟨b.toArray⟩ t)) := by
  unfold strIs at h
  split at h
  · rename_i c t; exact ⟨t, by rw [eq_of_beq h]⟩
  · cases h
noncomputable def bltB (K : Frag) (G : GI) (p : Str × Value) : Bool := G.fns.contains p.1 || G.clss.contains p.1 || (G.consts.lookup p.1).isSome || nsIn K mainGlobals p.1 == some none
structure TopOk (K : Frag) (p : List Stmt) : Prop where
  shape : (fnsOf p).map (fnShape K) = (fnsOf p).map wantShape
  fns : (fnsOf p).all (fnB K) = true
  keys : (fnsOf p).all (keyB K) = true
  consts : (giOf p).consts.all (constB K) = true
  clss : (giOf p).clss.all (fun x => (gAddr K x).isSome) = true
  blt : bltTab.all (bltB K (giOf p)) = true
theorem blt_boot : (bltTab.all fun q => bootBuiltins q.1 == some q.2 && !(q.1 == ("__name__" : Str))) = true := by decide +kernel
/- the facts that do not hang on the depth of calls -/
noncomputable def FnAt (C : Cx) (p : List Stmt) (a : Addr) (key : FnKey) : Prop := ∀ f, (fnsOf p).find? (fun f => f.key.beq key) = some f → FnOk C f a ∧ FnGood f
section
variable {C : Cx} {K : Frag} {p : List Stmt}
theorem TopOk.fnAt (T : TopOk K p) (hK : K.In C.base) {key : FnKey} {a : Addr} (ha : adr K key = some a) : FnAt C p a key := fun f hf => by
  have hm := List.mem_of_find?_eq_some hf
  have hk := FnKey.beq_eq (List.find?_some (p := fun f : FnD => f.key.beq key) hf)
  obtain ⟨b, h1, h2, h3⟩ := fn_ok hK (map_eq_mem T.shape f hm) (List.all_eq_true.mp T.fns f hm)
  rw [hk, ha] at h1
  cases h1
  exact ⟨h2, h3⟩
theorem cxOk (T : TopOk K p) (hK : K.In C.base) (hg : C.base.Ns mainGlobals C.mg) (hb : C.base.Ns builtinsNs C.mb) (hl : C.base.NoLimit) (hbt : ∀ x : Str, x ≠ "__name__" → C.mb x = bootBuiltins x) : CxOk C (giOf p) where
  g := hg
  b := hb
  lim := hl
  blt := fun x v h1 h2 h3 h4 => by
    have hm := lookup_mem h1
    have q := List.all_eq_true.mp T.blt _ hm
    have q2 := List.all_eq_true.mp blt_boot _ hm
    simp only [bltB, Bool.or_eq_true, h2, h3, Bool.false_eq_true, false_or, beq_iff_eq] at q
    simp only [Bool.and_eq_true, beq_iff_eq, Bool.not_eq_true', beq_eq_false_iff_ne, ne_eq] at q2
    refine ⟨?_, (hbt x q2.2).trans q2.1⟩
    rcases q with q | q
    · rw [Option.isNone_iff_eq_none.mp h4] at q; cases q
    · exact mg_of hK hg q
  const := fun x v h => by
    have q := List.all_eq_true.mp T.consts _ (lookup_mem h)
    unfold constB at q
    dsimp only at q
    cases v <;> first | cases q | skip
    · obtain ⟨t, e⟩ := intIs_ok q
      exact ⟨_, mg_of hK hg e, fun _ _ => by simp only [VR]; exact ⟨t, rfl⟩⟩
    · obtain ⟨t, e⟩ := strIs_ok q
      exact ⟨_, mg_of hK hg e, fun _ _ => by simp only [VR]; exact ⟨t, rfl⟩⟩
  cls := fun x h => by
    have q := List.all_eq_true.mp T.clss x (by simpa using h)
    obtain ⟨a, ha⟩ := Option.isSome_iff_exists.mp q
    exact ⟨a, mg_of hK hg (gAddr_some ha)⟩
theorem has_mem {c x : Str} (h : hasOf p c x = true) : ∃ f ∈ fnsOf p, f.key = .meth c x := by
  unfold hasOf at h
  obtain ⟨f, h1, h2⟩ := List.any_eq_true.mp h
  exact ⟨f, h1, FnKey.beq_eq h2⟩
theorem fns_mem {x : Str} (h : (giOf p).fns.contains x = true) : ∃ f ∈ fnsOf p, f.key = .fn x := by
  have h' : x ∈ (giOf p).fns := by simpa using h
  obtain ⟨f, h1, h2⟩ := List.mem_filterMap.mp (show x ∈ List.filterMap _ (fnsOf p) from h')
  refine ⟨f, h1, ?_⟩
  split at h2
  · rename_i y hy; cases h2; exact hy
  · cases h2
theorem fld_mem {c x : Str} (h : fldOf p c x = true) : ∃ f ∈ fnsOf p, ∃ m, f.key = .meth c m ∧ x ∈ fieldsIn f.body := by
  unfold fldOf at h
  obtain ⟨f, h1, h2⟩ := List.any_eq_true.mp h
  split at h2
  · rename_i c' m hk
    simp only [Bool.and_eq_true, List.contains_iff_mem] at h2
    exact ⟨f, h1, m, by rw [hk, eq_of_beq h2.1], h2.2⟩
  · cases h2
theorem stuck_snd (C : Cx) (d : Nat) (a : Addr) : FSnd C d a (fun _ => stuck) := fun env sc ns vs vals s ρ st hv A Q E X hA hS hw => hw.1.elim
theorem FSnd.of_fn (hl : C.base.NoLimit) {d : Nat} {a : Addr} {key : FnKey} (hO : Ok C K (giOf p) (wdOf p (cfOf p d)) d) (h : FnAt C p a key) : FSnd C (d + 1) a (cfOf p (d + 1) key) := by
  unfold cfOf
  split
  · rename_i f hf
    obtain ⟨h1, h2⟩ := h f hf
    unfold FnD.sem
    split
    · rename_i l hl'
      exact call_snd hl h1 h2 fun env hE => snd_seq (dSs_ok hO hE f.body hl')
    · exact stuck_snd C _ _
  · exact stuck_snd C _ _
theorem ok_of (T : TopOk K p) (hK : K.In C.base) (cx : CxOk C (giOf p)) {d : Nat} (hf : ∀ key a, FnAt C p a key → FSnd C d a (cfOf p d key)) : Ok C K (giOf p) (wdOf p (cfOf p d)) d where
  cx := cx
  inK := hK
  fn := fun x h => by
    obtain ⟨f, hm, hk⟩ := fns_mem h
    have q := List.all_eq_true.mp T.keys f hm
    unfold keyB at q
    rw [hk] at q
    dsimp only at q
    split at q
    · rename_i a ha
      exact ⟨a, mg_of hK cx.g (gAddr_some ha), q, hf _ _ (T.fnAt hK (key := .fn x) ha)⟩
    · cases q
  meth := fun c k x hc h => by
    obtain ⟨f, hm, hk⟩ := has_mem h
    have q := List.all_eq_true.mp T.keys f hm
    unfold keyB at q
    rw [hk] at q
    dsimp only at q
    split at q
    · rename_i k' hk'
      have e := mg_of hK cx.g (gAddr_some hk')
      rw [hc] at e
      cases e
      simp only [Bool.and_eq_true] at q
      obtain ⟨⟨⟨q1, q2⟩, q3⟩, q4⟩ := q
      split at q2
      · rename_i a ha
        rw [Bool.and_eq_true] at q2
        exact ⟨q1, a, mAddr_some ha, q2.1, q2.2, hf _ _ (T.fnAt hK (key := .meth c x) (by show (gAddr K c).bind _ = _; rw [hk']; exact ha))⟩
      · cases q2
    · cases q
  fld := fun c k x hc h => by
    obtain ⟨f, hm, m, hk, hx⟩ := fld_mem h
    have q := List.all_eq_true.mp T.keys f hm
    unfold keyB at q
    rw [hk] at q
    dsimp only at q
    split at q
    · rename_i k' hk'
      have e := mg_of hK cx.g (gAddr_some hk')
      rw [hc] at e
      cases e
      simp only [Bool.and_eq_true] at q
      have q4 := List.all_eq_true.mp q.2 x hx
      unfold fldB at q4
      simp only [Bool.and_eq_true, beq_iff_eq] at q4
      obtain ⟨⟨⟨⟨⟨b1, b2⟩, b3⟩, b4⟩, b5⟩, b6⟩ := q4
      split at b3
      · rename_i attr ha
        exact ⟨b1, b2, ⟨attr, ha, b3⟩, b4, b5, b6⟩
      · cases b3
    · cases q
  new := fun c k hc h => by
    obtain ⟨f, hm, hk⟩ := has_mem h
    have q := List.all_eq_true.mp T.keys f hm
    unfold keyB at q
    rw [hk] at q
    dsimp only at q
    split at q
    · rename_i k' hk'
      have e := mg_of hK cx.g (gAddr_some hk')
      rw [hc] at e
      cases e
      simp only [Bool.and_eq_true] at q
      obtain ⟨⟨⟨q1, q2⟩, q3⟩, q4⟩ := q
      rw [beq_self_eq_true, Bool.not_true, Bool.false_or, Bool.and_eq_true] at q3
      split at q2
      · rename_i a ha
        rw [Bool.and_eq_true] at q2
        exact ⟨q3.1, q3.2, a, mAddr_some ha, q2.1, hf _ _ (T.fnAt hK (key := .meth c (nm "__init__")) (by show (gAddr K c).bind _ = _; rw [hk']; exact ha))⟩
      · cases q2
    · cases q
theorem all_ok (T : TopOk K p) (hK : K.In C.base) (cx : CxOk C (giOf p)) : ∀ d, (∀ key a, FnAt C p a key → FSnd C d a (cfOf p d key))
  | 0, key, a, _ => stuck_snd C 0 a
  | d + 1, key, a, h => .of_fn cx.lim (ok_of T hK cx (all_ok T hK cx d)) h
end
end Mine
set_option autoImplicit false
set_option linter.unusedVariables false
namespace Mine
open PySem PyProof.Rows PySem.W
theorem inv_start (C : Cx) : Inv C C.base [] [] :=
  ⟨fun _ _ e => e, rfl, List.nodup_nil, fun a ha => (nomatch ha), fun i o ho => by simp at ho⟩
/- a run of the whole -/
theorem run_law {C : Cx} {K : Frag} {p : List Stmt} (T : TopOk K p) (hK : K.In C.base) (cx : CxOk C (giOf p)) {d : Nat} {key : FnKey} {a : Addr} (hfa : FnAt C p a key) {s : Shared} (hs : s.heap = C.base) {vs : List V} {vals : List Value} (hv : VRs C s.heap [] vs vals)
    {v : V} {obs' : List Ob} (hrun : cfOf p (d + 1) key vs ⟨[], []⟩ = .ok v ⟨[], obs'⟩) {A : Around} (hA : AOk2 (d + 1) A) {Q : Value → Shared → Prop} {E : Value → Shared → Prop}
    (hQ : ∀ val s' ρ', VR C s'.heap ρ' v val → Inv C s'.heap ρ' obs' → Ext Nil s [] s' ρ' → Q val s') : codeAny (model C.prog C.w) A (.call (.ref a) ⟨vals, []⟩) (Back Q E) s := by
  have hO := ok_of T hK cx (all_ok T hK cx d)
  have e : cfOf p (d + 1) key = (match (fnsOf p).find? (fun f => f.key.beq key) with
    | some f => f.sem (wdOf p (cfOf p d)) (giOf p)
    | none => fun _ => stuck) := rfl
  rw [e] at hrun
  cases hf : (fnsOf p).find? (fun f => f.key.beq key) with
  | none => rw [hf] at hrun; cases hrun
  | some f =>
    rw [hf] at hrun
    obtain ⟨h1, h2⟩ := hfa f hf
    have e2 : f.sem (wdOf p (cfOf p d)) (giOf p) = (match dSs (wdOf p (cfOf p d)) (giOf p) f.scope (slotsOf f.scope) f.body with
      | some l => runFn f.params.length (slotsOf f.scope).length (seqS l)
      | none => fun _ => stuck) := rfl
    dsimp only at hrun
    rw [e2] at hrun
    cases hl : dSs (wdOf p (cfOf p d)) (giOf p) f.scope (slotsOf f.scope) f.body with
    | none => rw [hl] at hrun; cases hrun
    | some l =>
      rw [hl] at hrun
      dsimp only at hrun
      refine call_gen (Φ := fun s ρ st => Inv C s.heap ρ st.obs) (fun _ _ _ h => h) (fun s ρ st s' ρ' obs' h e I => I) cx.lim h1 h2 (fun env hE => snd_seq (dSs_ok hO hE f.body hl)) default vs vals s [] ⟨[], []⟩ hv A Q E (fun _ _ => False) hA ?_ ?_ (fun _ _ _ _ _ h _ => h.elim)
      · show Inv C s.heap [] []
        rw [hs]; exact inv_start C
      · unfold wpM
        rw [hrun]
        exact fun val s' ρ' r I e => hQ val s' ρ' r I e
theorem ints_vr {C : Cx} {h : Heap} {ρ : List Addr} : ∀ {vs : List Value} {xs : List Int}, IntsAre vs xs → VRs C h ρ (xs.map .int) vs
  | _, _, .nil => by simp only [List.map, VRs]
  | _, _, .cons n t r => by
    simp only [List.map, VRs]
    exact ⟨_, _, rfl, ⟨t, rfl⟩, ints_vr r⟩
theorem script_vr {C : Cx} {L : Addr} {vs : List Value} {xs : List Int} (hL : C.base.IsList L vs.toArray) (hi : IntsAre vs xs) (h : Heap) : VRs C h [] [.flist (xs.map .int)] [.ref L] := by
  simp only [VRs, VR]
  exact ⟨_, _, rfl, ⟨L, _, rfl, hL, by simpa using ints_vr hi⟩, rfl⟩
theorem weight_int {i : Int} : PyData.weight (.int i) ≤ i.natAbs.log2 + 1 ∧ i.natAbs.log2 ≤ PyData.weight (.int i) := by
  unfold PyData.weight
  by_cases h : i = 0
  · subst h; simp
  · have : (i == 0) = false := by simpa using h
    rw [this]; simp
theorem weight_mem : ∀ {xs : List Int} {x : Int}, x ∈ xs → PyData.weight (.int x) ≤ PyData.weightAll (xs.map .int)
  | y :: xs, x, h => by
    simp only [List.map, PyData.weightAll]
    cases h with
    | head => omega
    | tail _ h => have := weight_mem h; omega
theorem lay_log {xs : List Int} (h : (PyData.list (xs.map .int)).layable0 = true) : ∀ x ∈ xs, x.natAbs.log2 < 1048577 := by
  intro x hx
  unfold PyData.layable0 at h
  rw [Bool.and_eq_true, decide_eq_true_eq] at h
  have h1 := weight_mem hx
  have h2 := (weight_int (i := x)).2
  have h4 : PyData.weightAll (xs.map .int) ≤ 1048576 := h.2
  omega
theorem caller_ok {d : Nat} (h : d ≤ 60) : AOk2 d callerA := ⟨by show 1 + claimMargin + 3 * d + 4 ≤ 990; unfold claimMargin; omega, by show 4 + 100 * d + 250 ≤ 9900; omega, rfl, rfl⟩
/- a law: what is left of its statement once its text is run -/
theorem close_law {p : List Stmt} {K : Frag} (hT : TopOk K p) (hadr : (gAddr K (nm "law")).isSome = true) {w : World} {s₁ : Shared} {mg mb : Str → Option Value} {loose : List Str} {view : Program} {mean : ExcName → Option Value} {fa L : Addr} {vs : List Value} {xs : List Int} (KX : K.In s₁.heap) (T : Top view loose mean mg mb s₁.heap) (hmg : mg (nm "law") = some (.ref fa)) (hg : s₁.gens = #[])
    (hL : s₁.heap.IsList L vs.toArray) (hI : IntsAre vs xs) {d : Nat} (hd : d ≤ 50) (hrun : ∃ obs', cfOf p (d + 1) (.fn (nm "law")) [.flist (xs.map .int)] ⟨[], []⟩ = .ok (.bool true) ⟨[], obs'⟩) {prog : Program} {Z : Result → Shared → Prop}
    (hZ : ∀ s', (∀ b o, s₁.heap.get? b = some o → s'.heap.get? b = some o) → s'.os = s₁.os → s'.gens = #[] → Z (.ok (.ret (.bool true))) s') :
    codeAny (model prog w) callerA (.call (.ref fa) ⟨[.ref L], []⟩) Z s₁ := by
  let C : Cx := ⟨prog, w, s₁.heap, mg, mb⟩
  have cx : CxOk C (giOf p) := cxOk hT KX T.g T.b T.nolimit T.builtins
  obtain ⟨a, ha⟩ := Option.isSome_iff_exists.mp hadr
  have e := mg_of KX T.g (gAddr_some ha)
  rw [hmg] at e
  cases e
  obtain ⟨obs', hrun⟩ := hrun
  refine codeAny_mono (run_law (C := C) hT KX cx (d := d) (hT.fnAt KX (key := .fn (nm "law")) ha) (s := s₁) rfl (script_vr (C := C) hL hI _) hrun (caller_ok (by omega)) (Q := fun v s' => Z (.ok (.ret v)) s') (E := fun _ _ => False) fun val s' ρ' hv I e => ?_) fun r s' z => ?_
  · simp only [VR] at hv
    subst hv
    exact hZ s' I.base e.os (e.gens.trans hg)
  · rcases r with e | (v | _ | _ | _) <;> first | exact z | exact z.elim
noncomputable def nameLine : Stmt → Bool
  | .Assign [.Name x _] _ _ => x == nm "__name__"
  | _ => false
noncomputable def viewOf (p : Program) : Program := { p with main := { p.main with body := p.main.body.filter fun s => !nameLine s } }
/- the part of a heap that is looked at: all of it -/
noncomputable def fragAll (h : Heap) : Frag := (List.range h.objs.size).filterMap fun a => (h.get? a).map fun o => (a, o)
theorem fragAll_in (h : Heap) : (fragAll h).In h := by
  intro a o e
  have hm := lookup_mem e
  unfold fragAll at hm
  obtain ⟨b, _, hb⟩ := List.mem_filterMap.mp hm
  obtain ⟨o', h1, h2⟩ := Option.map_eq_some_iff.mp hb
  cases h2
  exact h1
/- what is read off the heap at the top's end -/
noncomputable def topB (p : List Stmt) (K : Frag) : Bool := (fnsOf p).all (fnB K) && (fnsOf p).all (keyB K) && (giOf p).consts.all (constB K) && (giOf p).clss.all (fun x => (gAddr K x).isSome) && bltTab.all (bltB K (giOf p)) && (gAddr K (nm "law")).isSome
noncomputable def topHook (p : List Stmt) : Hook where
  α := Bool × List (Option (Scope × FuncBody))
  obs := fun s => (topB p (fragAll s.heap), (fnsOf p).map (fnShape (fragAll s.heap)))
  val := fun _ => (true, (fnsOf p).map wantShape)
  says := fun _ h => ∃ K : Frag, K.In h ∧ TopOk K p ∧ (gAddr K (nm "law")).isSome = true
  of := fun w s e => by
    have e1 := congrArg Prod.fst e
    have e2 := congrArg Prod.snd e
    dsimp only at e1 e2
    unfold topB at e1
    simp only [Bool.and_eq_true] at e1
    obtain ⟨⟨⟨⟨⟨b1, b2⟩, b3⟩, b4⟩, b5⟩, b6⟩ := e1
    exact ⟨fragAll s.heap, fragAll_in _, ⟨e2, b1, b2, b3, b4, b5⟩, b6⟩
  keeps := fun w h h' ⟨K, h1, h2⟩ hk => ⟨K, h1.keeps hk, h2⟩
end Mine
set_option autoImplicit false
set_option linter.unusedVariables false
namespace Mine
open PySem

/- evaluation, step by step -/
noncomputable def Out.bind {α β : Type} : Out α → (α → M β) → Out β
  | .ok a s, f => f a s
  | .exc c s, _ => .exc c s
  | .stuck, _ => .stuck
section
variable {α β : Type}
@[simp] theorem Out.bind_ok (a : α) (s : St) (f : α → M β) : (Out.ok a s).bind f = f a s := id rfl
@[simp] theorem ev_bind (m : M α) (f : α → M β) (st : St) : M.bind m f st = (m st).bind f := by unfold M.bind Out.bind; cases m st <;> rfl
@[simp] theorem ev_pure (a : α) (st : St) : M.pure a st = .ok a st := id rfl
@[simp] theorem ev_const (v : V) (st : St) : constM v st = .ok v st := id rfl
@[simp] theorem ev_var (i : Nat) (vars : List (Option V)) (obs : List Ob) : varM i ⟨vars, obs⟩ = match vars[i]? with
  | some (some v) => .ok v ⟨vars, obs⟩
  | _ => .stuck := id rfl
@[simp] theorem ev_ite (c : Prop) [Decidable c] (m n : M α) (st : St) : (if c then m else n) st = if c then m st else n st := by split <;> rfl
@[simp] theorem ev_bin (op : Operator) (a b : M V) (st : St) : (binM op a b) st = (a.bind fun x => b.bind fun y => binV op x y) st := id rfl
@[simp] theorem ev_setVar (i : Nat) (v : V) (vars : List (Option V)) (obs : List Ob) : setVar i v ⟨vars, obs⟩ = if i < vars.length then .ok () ⟨vars.set i (some v), obs⟩ else .stuck := id rfl
@[simp] theorem ev_seqS_nil (st : St) : seqS [] st = .ok .next st := id rfl
noncomputable def seqK (r : List (M Flow)) : Flow → M Flow
  | .next => seqS r
  | .ret v => M.pure (.ret v)
@[simp] theorem seqK_next (r : List (M Flow)) : seqK r .next = seqS r := id rfl
@[simp] theorem seqK_ret (r : List (M Flow)) (v : V) : seqK r (.ret v) = M.pure (.ret v) := id rfl
@[simp] theorem ev_seqS_cons (m : M Flow) (r : List (M Flow)) (st : St) : (seqS (m :: r)) st = (m.bind (seqK r)) st := id rfl
@[simp] theorem ev_assign (t : Tg) (m : M V) (st : St) : (assignM t m) st = (m.bind fun v => (asg t v).bind fun _ => M.pure .next) st := id rfl
@[simp] theorem ev_asg_var (i : Nat) (v : V) (st : St) : (asg (.var i) v) st = (setVar i v) st := id rfl
@[simp] theorem ev_asg_tup (is : List Nat) (vs : List V) (st : St) : (asg (.tup is) (.tuple vs)) st = (setVars is vs) st := id rfl
@[simp] theorem ev_setVars_cons (i : Nat) (is : List Nat) (v : V) (vs : List V) (st : St) : (setVars (i :: is) (v :: vs)) st = ((setVar i v).bind fun _ => setVars is vs) st := id rfl
@[simp] theorem ev_setVars_nil   (st : St) : (setVars [] []) st = (M.pure ()) st := id rfl
@[simp] theorem ev_ret (m : M V) (st : St) : (retM m) st = (m.bind fun v => M.pure (.ret v)) st := id rfl
@[simp] theorem ev_expr (m : M V) (st : St) : (exprM m) st = (m.bind fun _ => M.pure .next) st := id rfl
@[simp] theorem ev_app (f : List V → M V) (args : List (M V)) (st : St) : (appM f args) st = ((seqM args).bind f) st := id rfl
@[simp] theorem ev_seqM_nil (st : St) : seqM ([] : List (M α)) st = .ok [] st := id rfl
@[simp] theorem ev_seqM_cons (m : M α) (r : List (M α)) (st : St) : (seqM (m :: r)) st = (m.bind fun v => (seqM r).bind fun vs => M.pure (v :: vs)) st := id rfl
@[simp] theorem ev_meth (pick : V → M (List V → M V)) (o : M V) (args : List (M V)) (st : St) : (methM pick o args) st = (o.bind fun v => (pick v).bind fun f => (seqM args).bind fun vs => f (v :: vs)) st := id rfl
@[simp] theorem ev_listM (es : List (M V)) (st : St) : (listM es) st = ((seqM es).bind allocL) st := id rfl
@[simp] theorem ev_tupM (es : List (M V)) (st : St) : (tupM es) st = ((seqM es).bind tupL) st := id rfl
@[simp] theorem ev_evB (m : M V) (st : St) : (evB m) st = (m.bind asBool) st := id rfl
@[simp] theorem ev_boolV (m : M Bool) (st : St) : (boolV m) st = (m.bind fun b => M.pure (.bool b)) st := id rfl
@[simp] theorem ev_and_nil   (st : St) : (andM []) st = (M.pure true) st := id rfl
@[simp] theorem ev_and_cons (m : M Bool) (r : List (M Bool)) (st : St) : (andM (m :: r)) st = (m.bind fun b => if b then andM r else M.pure false) st := id rfl
@[simp] theorem ev_or_nil   (st : St) : (orM []) st = (M.pure false) st := id rfl
@[simp] theorem ev_or_cons (m : M Bool) (r : List (M Bool)) (st : St) : (orM (m :: r)) st = (m.bind fun b => if b then M.pure true else orM r) st := id rfl
@[simp] theorem ev_not (m : M Bool) (st : St) : (notM m) st = (m.bind fun b => M.pure !b) st := id rfl
@[simp] theorem ev_iteM (t : M Bool) (a b : M α) (st : St) : (iteM t a b) st = (t.bind fun x => if x then a else b) st := id rfl
@[simp] theorem ev_asBool (b : Bool) (st : St) : (asBool (.bool b)) st = (M.pure b) st := id rfl
@[simp] theorem ev_asInt (b : Int) (st : St) : (asInt (.int b)) st = (M.pure b) st := id rfl
@[simp] theorem ev_add_int (a b : Int) (st : St) : (binV .Add (.int a) (.int b)) st = (M.pure (.int (a + b))) st := id rfl
@[simp] theorem ev_add_ref (a b : Nat) (st : St) : (binV .Add (.ref a) (.ref b)) st = ((getList a).bind fun x => (getList b).bind fun y => allocL (x ++ y)) st := id rfl
@[simp] theorem ev_sub_int (a b : Int) (st : St) : (binV .Sub (.int a) (.int b)) st = (M.pure (.int (a - b))) st := id rfl
noncomputable def mulG (a b : Int) : Prop := a.natAbs.log2 + b.natAbs.log2 < 67108864
@[simp] theorem ev_mul_int {a b : Int} (h : mulG a b) (st : St) : (binV .Mult (.int a) (.int b)) st = (M.pure (.int (a * b))) st := by rw [show binV .Mult (.int a) (.int b) = M.pure (.int (a * b)) from if_pos h]
noncomputable def heavy (n : Nat) (c : Int) : Prop := c.natAbs.log2 < n
theorem log2_of_lt {n : Nat} {k : Nat} (hk : 0 < k) (h : n < 2 ^ k) : n.log2 < k := by
  by_cases hn : n = 0
  · subst hn; simpa using hk
  · exact (Nat.log2_lt hn).mpr h
theorem lt_of_log2 {n k : Nat} (h : n.log2 < k) : n < 2 ^ k := by
  by_cases hn : n = 0
  · subst hn; exact Nat.pow_pos (by decide)
  · exact (Nat.log2_lt hn).mp h
theorem heavy_add {n : Nat} {a b : Int} (ha : heavy n a) (hb : heavy n b) : heavy (n + 1) (a + b) := by
  have h1 := lt_of_log2 ha
  have h2 := lt_of_log2 hb
  refine log2_of_lt (Nat.succ_pos n) ?_
  rw [Nat.pow_succ]
  omega
theorem heavy_mono {n m : Nat} {a : Int} (h : heavy n a) (hm : n ≤ m) : heavy m a := Nat.lt_of_lt_of_le h hm
theorem heavy_31 {a : Int} (h : -2147483648 < a ∧ a < 2147483648) : heavy 31 a := log2_of_lt (by decide) (by
  have : (2 : Nat) ^ 31 = 2147483648 := by decide
  omega)
theorem mulG_of {n m : Nat} {a b : Int} (ha : heavy n a) (hb : heavy m b) (h : n + m < 67108864) : mulG a b := by
  unfold mulG heavy at *; omega
theorem fmod_pos {a b : Int} (h : 0 < b) : Int.fmod a b = a % b := Int.fmod_eq_emod_of_nonneg a (Int.le_of_lt h)
theorem fdiv_pos {a b : Int} (h : 0 < b) : Int.fdiv a b = a / b := Int.fdiv_eq_ediv_of_nonneg a (Int.le_of_lt h)
theorem mod_pos' {a b : Int} (h : 0 < b) : binV .Mod (.int a) (.int b) = M.pure (.int (a % b)) := by
  rw [← fmod_pos h]
  exact if_neg (by omega)
@[simp] theorem ev_mod_pos {a b : Int} (h : 0 < b) (st : St) : binV .Mod (.int a) (.int b) st = .ok (.int (a % b)) st := by rw [mod_pos' h]; rfl
theorem div_pos' {a b : Int} (h : 0 < b ∧ b < 1073741824) : binV .FloorDiv (.int a) (.int b) = M.pure (.int (a / b)) := by
  rw [← fdiv_pos h.1]
  exact if_neg (by omega)
@[simp] theorem ev_div_pos {a b : Int} (h : 0 < b ∧ b < 1073741824) (st : St) : binV .FloorDiv (.int a) (.int b) st = .ok (.int (a / b)) st := by rw [div_pos' h]; rfl
@[simp] theorem ev_cmp (a : M V) (r : List (CmpOp × M V)) (st : St) : (cmpM a r) st = (a.bind fun x => chainM x r) st := id rfl
@[simp] theorem ev_chain1 (x : V) (op : CmpOp) (m : M V) (st : St) : (chainM x [(op, m)]) st = (m.bind fun y => cmpV op x y) st := id rfl
@[simp] theorem ev_chain2 (x : V) (op : CmpOp) (m : M V) (q : CmpOp × M V) (r : List (CmpOp × M V)) (st : St) : (chainM x ((op, m) :: q :: r)) st = (m.bind fun y => (cmpV op x y).bind fun b => if b then chainM y (q :: r) else M.pure false) st := id rfl
@[simp] theorem ev_lt (a b : Int) (st : St) : (cmpV .Lt (.int a) (.int b)) st = (M.pure (decide (a < b))) st := id rfl
@[simp] theorem ev_le (a b : Int) (st : St) : (cmpV .LtE (.int a) (.int b)) st = (M.pure (decide (a ≤ b))) st := id rfl
@[simp] theorem ev_gt (a b : Int) (st : St) : (cmpV .Gt (.int a) (.int b)) st = (M.pure (decide (a > b))) st := id rfl
@[simp] theorem ev_ge (a b : Int) (st : St) : (cmpV .GtE (.int a) (.int b)) st = (M.pure (decide (a ≥ b))) st := id rfl
@[simp] theorem ev_eq (a b : V) (st : St) : (cmpV .Eq a b) st = (pyEq a b) st := id rfl
@[simp] theorem ev_ne (a b : V) (st : St) : (cmpV .NotEq a b) st = ((pyEq a b).bind fun x => M.pure !x) st := id rfl
@[simp] theorem ev_in (a b : List Nat) (st : St) : (cmpV .In (.str a) (.str b)) st = (M.pure !(occ b a 1).isEmpty) st := id rfl
@[simp] theorem ev_notin (a b : List Nat) (st : St) : (cmpV .NotIn (.str a) (.str b)) st = ((M.pure (!(occ b a 1).isEmpty)).bind fun x => M.pure !x) st := id rfl
theorem shaped_int (i : Int) : SeqAt.shaped (.int i) = true := rfl
theorem shaped_bool (i : Bool) : SeqAt.shaped (.bool i) = true := rfl
@[simp] theorem ev_eq_int (a b : Int) (st : St) : pyEq (.int a) (.int b) st = .ok (a == b) st := id rfl
@[simp] theorem ev_eq_bool (a b : Bool) (st : St) : pyEq (.bool a) (.bool b) st = .ok (a == b) st := id rfl
@[simp] theorem ev_getOb (a : Nat) (vars : List (Option V)) (obs : List Ob) : getOb a ⟨vars, obs⟩ = match obs[a]? with
  | some o => .ok o ⟨vars, obs⟩
  | none => .stuck := id rfl
@[simp] theorem ev_getList (a : Nat) (vars : List (Option V)) (obs : List Ob) : getList a ⟨vars, obs⟩ = match obs[a]? with
  | some (.list xs) => .ok xs ⟨vars, obs⟩
  | _ => .stuck := by
  unfold getList
  rw [ev_bind, ev_getOb]
  cases obs[a]? with
  | none => rfl
  | some o => cases o <;> rfl
theorem le_lim {n : Nat} (h : n ≤ 1000) : n ≤ lim := by unfold lim; omega
@[simp] theorem ev_allocL {xs : List V} (h : xs.length ≤ 1000) (vars : List (Option V)) (obs : List Ob) : allocL xs ⟨vars, obs⟩ = .ok (.ref obs.length) ⟨vars, obs ++ [.list xs]⟩ := by
  unfold allocL; rw [if_pos (le_lim h)]; rfl
@[simp] theorem ev_alloc (o : Ob) (vars : List (Option V)) (obs : List Ob) : alloc o ⟨vars, obs⟩ = .ok (.ref obs.length) ⟨vars, obs ++ [o]⟩ := id rfl
@[simp] theorem ev_tupL {xs : List V} (h : xs.length ≤ 1000) (vars : List (Option V)) (obs : List Ob) : tupL xs ⟨vars, obs⟩ = .ok (.tuple xs) ⟨vars, obs⟩ := by
  unfold tupL; rw [if_pos (le_lim h)]; rfl
@[simp] theorem ev_setOb (a : Nat) (o : Ob) (vars : List (Option V)) (obs : List Ob) : setOb a o ⟨vars, obs⟩ = if a < obs.length then .ok () ⟨vars, obs.set a o⟩ else .stuck := id rfl
@[simp] theorem ev_withObs (f : List Ob → Option α) (vars : List (Option V)) (obs : List Ob) : withObs f ⟨vars, obs⟩ = match f obs with
  | some a => .ok a ⟨vars, obs⟩
  | none => .stuck := id rfl
@[simp] theorem ev_ofOpt (a : α) (st : St) : (ofOpt (some a)) st = (M.pure a) st := id rfl
@[simp] theorem ev_subM (m i : M V) (st : St) : (subM m i) st = (m.bind fun v => i.bind fun k => subV v k) st := id rfl
@[simp] theorem ev_sub_str (s : List Nat) (i : Int) (st : St) : (subV (.str s) (.int i)) st = (ofOpt ((idxL s i).map fun c => .str [c])) st := id rfl
@[simp] theorem ev_sub_flist (s : List V) (i : Int) (st : St) : (subV (.flist s) (.int i)) st = (ofOpt (idxL s i)) st := id rfl
@[simp] theorem ev_sub_ref (a : Nat) (i : Int) (vars : List (Option V)) (obs : List Ob) : subV (.ref a) (.int i) ⟨vars, obs⟩ = match obs[a]? with
  | some (.list xs) => ofOpt (idxL xs i) ⟨vars, obs⟩
  | _ => .stuck := by
  show ((getOb a).bind fun o => match o with
    | .list xs => (asInt (.int i)).bind fun i => ofOpt (idxL xs i)
    | _ => stuck) ⟨vars, obs⟩ = _
  rw [ev_bind, ev_getOb]
  cases obs[a]? with
  | none => rfl
  | some o => cases o <;> rfl
@[simp] theorem ev_len_str (s : List Nat) (st : St) : (fLen [.str s]) st = (lenM s.length) st := id rfl
@[simp] theorem ev_len_flist (s : List V) (st : St) : (fLen [.flist s]) st = (lenM s.length) st := id rfl
@[simp] theorem ev_len_ref (a : Nat) (st : St) : (fLen [.ref a]) st = ((getList a).bind fun xs => lenM xs.length) st := id rfl
@[simp] theorem ev_lenM {n : Nat} (h : n ≤ 1000) (st : St) : lenM n st = .ok (.int n) st := by unfold lenM; rw [if_pos (le_lim h)]; rfl
@[simp] theorem ev_range1 (n : Int) (st : St) : (fRange [.int n]) st = (if -1000000 ≤ n ∧ n ≤ 1000000 then M.pure (.range 0 n) else stuck) st := id rfl
@[simp] theorem ev_toSrc_range (lo hi : Int) (st : St) : toSrc (.range lo hi) st = if smallR lo hi = true then .ok ⟨(rangeL lo hi).map .int, []⟩ st else .stuck := by
  have e : toSrc (.range lo hi) = withObs fun _ => if smallR lo hi = true then some ⟨(rangeL lo hi).map .int, []⟩ else none := rfl
  rw [e]
  obtain ⟨vars, obs⟩ := st
  unfold withObs
  by_cases h : smallR lo hi = true
  · rw [if_pos h]; simp only [h, if_true]
  · rw [if_neg h, if_neg h]
@[simp] theorem ev_toSrc_str (s : List Nat) (st : St) : toSrc (.str s) st = .ok ⟨charsOf s, []⟩ st := id rfl
@[simp] theorem ev_toSrc_ref (a : Nat) (vars : List (Option V)) (obs : List Ob) : toSrc (.ref a) ⟨vars, obs⟩ = match obs[a]? with
  | some (.list xs) => .ok ⟨xs, [(a, .list xs)]⟩ ⟨vars, obs⟩
  | _ => .stuck := by
  unfold toSrc withObs
  dsimp only
  cases q : obs[a]? with
  | none => rfl
  | some o => cases o <;> rfl
@[simp] theorem ev_enumV (a : Nat) (st : St) : (enumV (.ref a)) st = ((getList a).bind fun xs => M.pure ⟨enumFrom 0 xs, [(a, .list xs)]⟩) st := id rfl
@[simp] theorem ev_list_ref (a : Nat) (st : St) : (fList [.ref a]) st = ((getList a).bind fun xs => allocL xs) st := id rfl
@[simp] theorem ev_pickL (f : List V → M V) (a : Nat) (st : St) : (pickL f (.ref a)) st = ((getList a).bind fun _ => M.pure f) st := id rfl
@[simp] theorem ev_pickS (f : List V → M V) (s : List Nat) (st : St) : (pickS f (.str s)) st = (M.pure f) st := id rfl
noncomputable def appS (a : Nat) (v : V) (xs : List V) : M V := if xs.length ≤ lim then (setOb a (.list (xs ++ [v]))).bind fun _ => M.pure .none else stuck
@[simp] theorem ev_appS (a : Nat) (v : V) {xs : List V} (h : xs.length ≤ 1000) (st : St) : (appS a v xs) st = ((setOb a (.list (xs ++ [v]))).bind fun _ => M.pure .none) st := by rw [show appS a v xs = (setOb a (.list (xs ++ [v]))).bind fun _ => M.pure .none from if_pos (le_lim h)]
@[simp] theorem ev_append (a : Nat) (v : V) (st : St) : (mAppend [.ref a, v]) st = ((getList a).bind (appS a v)) st := id rfl
@[simp] theorem ev_isi (v : V) (t : String) (st : St) : (fIsinstance [v, .type t]) st = (withObs fun obs => (kindV obs v).bind fun k => (isiK k t).map .bool) st := id rfl
@[simp] theorem ev_fIsi (v : V) (t : String) (st : St) : fIsi [v, .type t] st = fIsinstance [v, .type t] st := id rfl
@[simp] theorem kind_int (obs : List Ob) (i : Int) : kindV obs (.int i) = some "int" := id rfl
@[simp] theorem kind_bool (obs : List Ob) (i : Bool) : kindV obs (.bool i) = some "bool" := id rfl
@[simp] theorem kind_str (obs : List Ob) (i : List Nat) : kindV obs (.str i) = some "str" := id rfl
@[simp] theorem isi_ii : isiK "int" "int" = some true := id rfl
@[simp] theorem isi_ib : isiK "int" "bool" = some false := id rfl
@[simp] theorem isi_bb : isiK "bool" "bool" = some true := id rfl
@[simp] theorem isi_ss : isiK "str" "str" = some true := id rfl
@[simp] theorem isi_ll : isiK "list" "list" = some true := id rfl
theorem kind_list {obs : List Ob} {a : Nat} {xs : List V} (h : obs[a]? = some (.list xs)) : kindV obs (.ref a) = some "list" := by simp only [kindV, h]
@[simp] theorem ev_runFn (np n : Nat) (body : M Flow) (args : List V) (vars : List (Option V)) (obs : List Ob) (h : args.length = np) :
    runFn np n body args ⟨vars, obs⟩ = match body ⟨args.map some ++ List.replicate (n - np) none, obs⟩ with
    | .ok (.ret v) s' => .ok v ⟨vars, s'.obs⟩
    | .ok .next s' => .ok .none ⟨vars, s'.obs⟩
    | .exc c s' => .exc c ⟨vars, s'.obs⟩
    | .stuck => .stuck := by unfold runFn; rw [if_pos h]; try rfl
@[simp] theorem ev_attrM (W : Wd) (m : M V) (x : Str) (st : St) : (attrM W m x) st = (m.bind (attrV W x)) st := id rfl
@[simp] theorem ev_sliceM (m : M V) (lo hi : Option (M V)) (st : St) : (sliceM m lo hi) st = (m.bind fun v => (optI lo).bind fun l => (optI hi).bind fun h => sliceV v l h) st := id rfl
@[simp] theorem ev_optI_none   (st : St) : (optI none) st = (M.pure none) st := id rfl
@[simp] theorem ev_optI_some (m : M V) (st : St) : (optI (some m)) st = (m.bind fun v => (asInt v).bind fun i => M.pure (some i)) st := id rfl
noncomputable def sliS (lo hi : Option Int) (xs : List V) : M V := if xs.length ≤ lim then alloc (.list (sliceL xs lo hi)) else stuck
@[simp] theorem ev_sliS (lo hi : Option Int) {xs : List V} (h : xs.length ≤ 1000) (st : St) : (sliS lo hi xs) st = (alloc (.list (sliceL xs lo hi))) st := by rw [show sliS lo hi xs = alloc (.list (sliceL xs lo hi)) from if_pos (le_lim h)]
@[simp] theorem ev_slice_flist (s : List V) (lo hi : Option Int) (st : St) : (sliceV (.flist s) lo hi) st = (sliS lo hi s) st := id rfl
@[simp] theorem ev_slice_ref (a : Nat) (lo hi : Option Int) (st : St) : (sliceV (.ref a) lo hi) st = ((getList a).bind (sliS lo hi)) st := id rfl
end
end Mine
set_option autoImplicit false
set_option linter.unusedVariables false
namespace Mine
open PySem
/- growth of the ledger -/
noncomputable def Gr (o o' : List Ob) : Prop := ∃ t, o' = o ++ t
theorem Gr.refl (o : List Ob) : Gr o o := ⟨[], by simp⟩
theorem Gr.trans {a b c : List Ob} (x : Gr a b) (y : Gr b c) : Gr a c := by
  obtain ⟨t, rfl⟩ := x; obtain ⟨u, rfl⟩ := y; exact ⟨t ++ u, by simp⟩
theorem Gr.get {a b : List Ob} (x : Gr a b) {i : Nat} {o : Ob} (h : a[i]? = some o) : b[i]? = some o := by
  obtain ⟨t, rfl⟩ := x
  rw [List.getElem?_append_left (List.getElem?_eq_some_iff.mp h).1]; exact h
theorem Gr.len {a b : List Ob} (x : Gr a b) : a.length ≤ b.length := by
  obtain ⟨t, rfl⟩ := x; simp
theorem Gr.add (a t : List Ob) : Gr a (a ++ t) := ⟨t, rfl⟩
theorem Gr.to {a b : List Ob} (x : Gr a b) (t : List Ob) : Gr a (b ++ t) := x.trans (.add b t)
/- what a loop runs over has not changed -/
theorem ev_chk {c : List (Nat × Ob)} {vars : List (Option V)} {obs : List Ob} (h : chkOk c obs) : chkObs c ⟨vars, obs⟩ = .ok () ⟨vars, obs⟩ := if_pos h
noncomputable def ChkP (c : List (Nat × Ob)) (obs : List Ob) : Prop := ∀ vars, chkObs c ⟨vars, obs⟩ = .ok () ⟨vars, obs⟩
theorem ChkP.nil (obs : List Ob) : ChkP [] obs := fun _ => ev_chk fun p hp => (nomatch hp)
theorem ChkP.one {a : Nat} {xs : List V} {obs : List Ob} (h : obs[a]? = some (.list xs)) : ChkP [(a, .list xs)] obs := fun _ => ev_chk fun p hp => by cases List.mem_singleton.mp hp; exact h

/- for -/
theorem forItems_ok {t : Tg} {body : M Flow} {c : List (Nat × Ob)} (I : List V → St → Prop) (hc : ∀ l st, I l st → ChkP c st.obs)
    (hs : ∀ x l st, I (x :: l) st → ∃ st1, ((asg t x).bind fun _ => body) st = .ok .next st1 ∧ I l st1) : ∀ l st, I l st → ∃ st1, forItems t body c l st = .ok .next st1 ∧ I [] st1
  | [], st, h => ⟨st, by
      obtain ⟨vars, obs⟩ := st
      unfold forItems
      rw [ev_bind, hc _ _ h vars]; rfl, h⟩
  | x :: l, st, h => by
    obtain ⟨st1, h1, h2⟩ := hs x l st h
    obtain ⟨st2, h3, h4⟩ := forItems_ok I hc hs l st1 h2
    refine ⟨st2, ?_, h4⟩
    obtain ⟨vars, obs⟩ := st
    unfold forItems
    rw [ev_bind, hc _ _ h vars, Out.bind_ok]
    rw [ev_bind] at h1 ⊢
    cases q : asg t x ⟨vars, obs⟩ with
    | ok a s =>
      rw [q] at h1
      rw [Out.bind_ok] at h1 ⊢
      rw [ev_bind, h1, Out.bind_ok]
      exact h3
    | exc _ _ => rw [q] at h1; cases h1
    | stuck => rw [q] at h1; cases h1
@[simp] theorem ev_for (t : Tg) (src : M Src) (body : M Flow) (st : St) : forM t src body st = (src.bind fun s => forItems t body s.chk s.items) st := id rfl
/- comprehensions of one name -/
theorem compItems_ok {t : Tg} {elt : M V} {c : List (Nat × Ob)} (I : List V → List V → St → Prop) (hc : ∀ l acc st, I l acc st → ChkP c st.obs)
    (hs : ∀ x l acc st, I (x :: l) acc st → ∃ v st1, ((asg t x).bind fun _ => elt) st = .ok v st1 ∧ I l (acc ++ [v]) st1) : ∀ l acc st, I l acc st → ∃ vs st1, compItems t (andM []) elt c l st = .ok vs st1 ∧ I [] (acc ++ vs) st1
  | [], acc, st, h => ⟨[], st, by
      obtain ⟨vars, obs⟩ := st
      unfold compItems
      rw [ev_bind, hc _ _ _ h vars]; rfl, by simpa using h⟩
  | x :: l, acc, st, h => by
    obtain ⟨v, st1, h1, h2⟩ := hs x l acc st h
    obtain ⟨vs, st2, h3, h4⟩ := compItems_ok I hc hs l _ st1 h2
    refine ⟨v :: vs, st2, ?_, by simpa using h4⟩
    obtain ⟨vars, obs⟩ := st
    unfold compItems
    rw [ev_bind, hc _ _ _ h vars, Out.bind_ok]
    rw [ev_bind] at h1 ⊢
    cases q : asg t x ⟨vars, obs⟩ with
    | ok a s =>
      rw [q] at h1
      rw [Out.bind_ok] at h1 ⊢
      show ((M.pure true).bind fun b => if b then elt.bind fun v => (compItems t (andM []) elt c l).bind fun vs => M.pure (v :: vs) else compItems t (andM []) elt c l) s = _
      rw [ev_bind, ev_pure, Out.bind_ok, if_pos rfl, ev_bind, h1, Out.bind_ok, ev_bind, h3]; rfl
    | exc _ _ => rw [q] at h1; cases h1
    | stuck => rw [q] at h1; cases h1
theorem comp1 {b : Nat} {src : M Src} {elt : M V} {vars : List (Option V)} {obs obs0 : List Ob} {items : List V} {c : List (Nat × Ob)} (hb : vars.length = b) (hs : src ⟨vars, obs⟩ = .ok ⟨items, c⟩ ⟨vars, obs0⟩) (hl : items.length ≤ 1000)
    (I : List V → List V → List Ob → Prop) (h0 : I items [] obs0) (hc : ∀ l acc obs, I l acc obs → ChkP c obs)
    (hstep : ∀ x l acc obs, I (x :: l) acc obs → ∃ v obs', elt ⟨vars ++ [some x], obs⟩ = .ok v ⟨vars ++ [some x], obs'⟩ ∧ I l (acc ++ [v]) obs') :
    ∃ vs obs', I [] vs obs' ∧ compM b 1 src (.var b) (andM []) elt ⟨vars, obs⟩ = .ok (.ref obs'.length) ⟨vars, obs' ++ [.list vs]⟩ := by
  subst hb
  have key := compItems_ok (t := .var vars.length) (elt := elt) (c := c) (fun l acc st => (∃ z, st.vars = vars ++ [z]) ∧ I l acc st.obs) (fun l acc st h => hc l acc _ h.2) (fun x l acc st h => by
    obtain ⟨vs', obs'⟩ := st
    obtain ⟨⟨z, hz⟩, hi⟩ := h
    dsimp only at hz hi
    subst hz
    obtain ⟨v, o', h1, h2⟩ := hstep x l acc obs' hi
    refine ⟨v, ⟨vars ++ [some x], o'⟩, ?_, ⟨_, rfl⟩, h2⟩
    rw [ev_bind, ev_asg_var, ev_setVar, if_pos (by simp), Out.bind_ok]
    have : (vars ++ [z]).set vars.length (some x) = vars ++ [some x] := by simp
    rw [this]; exact h1) items [] ⟨vars ++ [none], obs0⟩ ⟨⟨none, rfl⟩, h0⟩
  obtain ⟨vs, ⟨vv, o'⟩, h1, _, h3⟩ := key
  refine ⟨vs, o', by simpa using h3, ?_⟩
  unfold compM
  rw [ev_bind, hs, Out.bind_ok, if_pos (le_lim hl), ev_bind]
  have : innerM vars.length 1 (compItems (.var vars.length) (andM []) elt c items) ⟨vars, obs0⟩ = .ok vs ⟨vars, o'⟩ := by
    unfold innerM
    have e : ({ vars := List.take vars.length vars ++ List.replicate 1 none, obs := obs0 } : St) = ⟨vars ++ [none], obs0⟩ := by simp
    dsimp only
    rw [e, h1]
  dsimp only
  rw [this]
  simp
/- ... whose parts change nothing -/
theorem comp1_pure {b : Nat} {src : M Src} {elt : M V} {vars : List (Option V)} {obs obs0 : List Ob} {items : List V} {c : List (Nat × Ob)} (hb : vars.length = b) (hs : src ⟨vars, obs⟩ = .ok ⟨items, c⟩ ⟨vars, obs0⟩) (hl : items.length ≤ 1000) (hc : ChkP c obs0)
    (g : V → V) (hg : ∀ x ∈ items, elt ⟨vars ++ [some x], obs0⟩ = .ok (g x) ⟨vars ++ [some x], obs0⟩) :
    compM b 1 src (.var b) (andM []) elt ⟨vars, obs⟩ = .ok (.ref obs0.length) ⟨vars, obs0 ++ [.list (items.map g)]⟩ := by
  obtain ⟨vs, o', ⟨rfl, h1, h2⟩, h3⟩ := comp1 (elt := elt) hb hs hl (fun l acc o => o = obs0 ∧ (∃ p, items = p ++ l ∧ acc = p.map g) ∧ True) ⟨rfl, ⟨[], rfl, rfl⟩, trivial⟩ (fun l acc o h => h.1 ▸ hc) (fun x l acc o h => by
    obtain ⟨rfl, ⟨p, hp, rfl⟩, _⟩ := h
    refine ⟨g x, o, hg x (by rw [hp]; simp), rfl, ⟨p ++ [x], by rw [hp]; simp, by simp⟩, trivial⟩)
  obtain ⟨p, hp, rfl⟩ := h1
  simp at hp
  rw [hp]
  exact h3
end Mine
set_option autoImplicit false
set_option linter.unusedVariables false
namespace Mine
open PySem
/- rows of ints, as the ledger holds them, within a stretch of it -/
noncomputable def RowAt (obs : List Ob) (lo hi : Nat) (a : Nat) (row : List Int) : Prop := lo ≤ a ∧ a < hi ∧ obs[a]? = some (.list (row.map .int))
noncomputable def RowsAt (obs : List Ob) (lo hi : Nat) : List Nat → List (List Int) → Prop
  | [], [] => True
  | a :: as, r :: rs => RowAt obs lo hi a r ∧ RowsAt obs lo hi as rs
  | _, _ => False
noncomputable def Same (lo hi : Nat) (o o' : List Ob) : Prop := ∀ a, lo ≤ a → a < hi → o'[a]? = o[a]?
theorem RowsAt.same {o o' : List Ob} {lo hi : Nat} (h : Same lo hi o o') : ∀ {as : List Nat} {rs : List (List Int)}, RowsAt o lo hi as rs → RowsAt o' lo hi as rs
  | [], [], _ => trivial
  | a :: as, r :: rs, x => ⟨⟨x.1.1, x.1.2.1, (h a x.1.1 x.1.2.1).trans x.1.2.2⟩, RowsAt.same h x.2⟩
  | [], _ :: _, x => x.elim
  | _ :: _, [], x => x.elim
theorem RowsAt.wide {o : List Ob} {lo hi lo' hi' : Nat} (h1 : lo' ≤ lo) (h2 : hi ≤ hi') : ∀ {as : List Nat} {rs : List (List Int)}, RowsAt o lo hi as rs → RowsAt o lo' hi' as rs
  | [], [], _ => trivial
  | a :: as, r :: rs, x => ⟨⟨Nat.le_trans h1 x.1.1, Nat.lt_of_lt_of_le x.1.2.1 h2, x.1.2.2⟩, RowsAt.wide h1 h2 x.2⟩
  | [], _ :: _, x => x.elim
  | _ :: _, [], x => x.elim
theorem RowsAt.len {o : List Ob} {lo hi : Nat} : ∀ {as : List Nat} {rs : List (List Int)}, RowsAt o lo hi as rs → as.length = rs.length
  | [], [], _ => rfl
  | _ :: _, _ :: _, x => congrArg (· + 1) (RowsAt.len x.2)
  | [], _ :: _, x => x.elim
  | _ :: _, [], x => x.elim
theorem RowsAt.get {o : List Ob} {lo hi : Nat} : ∀ {as : List Nat} {rs : List (List Int)} {i : Nat} {r : List Int}, RowsAt o lo hi as rs → rs[i]? = some r → ∃ a, as[i]? = some a ∧ RowAt o lo hi a r
  | [], [], _, _, _, h => by simp at h
  | a :: as, r :: rs, 0, _, x, h => by simp at h; subst h; exact ⟨a, rfl, x.1⟩
  | a :: as, r :: rs, i + 1, _, x, h => by simpa using RowsAt.get x.2 (by simpa using h)
  | [], _ :: _, _, _, x, _ => x.elim
  | _ :: _, [], _, _, x, _ => x.elim
theorem RowsAt.append {o : List Ob} {lo hi : Nat} : ∀ {as bs : List Nat} {rs ts : List (List Int)}, RowsAt o lo hi as rs → RowsAt o lo hi bs ts → RowsAt o lo hi (as ++ bs) (rs ++ ts)
  | [], _, [], _, _, y => y
  | _ :: _, _, _ :: _, _, x, y => ⟨x.1, RowsAt.append x.2 y⟩
  | [], _, _ :: _, _, x, _ => x.elim
  | _ :: _, _, [], _, x, _ => x.elim
structure Rows (obs : List Ob) (lo hi : Nat) (r : Nat) (rows : List (List Int)) : Prop where
  ge : lo ≤ r
  lt : r < hi
  has : ∃ as : List Nat, obs[r]? = some (.list (as.map .ref)) ∧ RowsAt obs lo hi as rows
theorem Rows.same {o o' : List Ob} {lo hi r : Nat} {rows : List (List Int)} (x : Rows o lo hi r rows) (h : Same lo hi o o') : Rows o' lo hi r rows :=
  ⟨x.ge, x.lt, let ⟨as, h1, h2⟩ := x.has; ⟨as, (h r x.ge x.lt).trans h1, h2.same h⟩⟩
theorem Rows.wide {o : List Ob} {lo hi lo' hi' r : Nat} {rows : List (List Int)} (x : Rows o lo hi r rows) (h1 : lo' ≤ lo) (h2 : hi ≤ hi') : Rows o lo' hi' r rows :=
  ⟨Nat.le_trans h1 x.ge, Nat.lt_of_lt_of_le x.lt h2, let ⟨as, q1, q2⟩ := x.has; ⟨as, q1, q2.wide h1 h2⟩⟩
theorem Gr.same {o o' : List Ob} (g : Gr o o') {lo hi : Nat} (h : hi ≤ o.length) : Same lo hi o o' := fun a _ ha => by
  obtain ⟨t, rfl⟩ := g
  rw [List.getElem?_append_left (Nat.lt_of_lt_of_le ha h)]
theorem Same.trans {a b c : List Ob} {lo hi : Nat} (x : Same lo hi a b) (y : Same lo hi b c) : Same lo hi a c := fun i h1 h2 => (y i h1 h2).trans (x i h1 h2)
theorem Same.set {o : List Ob} {lo hi a : Nat} {x : Ob} (h : a < lo ∨ hi ≤ a) : Same lo hi o (o.set a x) := fun i h1 h2 => by
  rw [List.getElem?_set_ne (by omega)]
theorem Same.get {o o' : List Ob} {lo hi a : Nat} {x : Ob} (s : Same lo hi o o') (h1 : lo ≤ a) (h2 : a < hi) (h : o[a]? = some x) : o'[a]? = some x := (s a h1 h2).trans h
/- their data -/
noncomputable def rowD (r : List Int) : PyData := .list (r.map .int)
noncomputable def rowsD (rs : List (List Int)) : PyData := .list (rs.map rowD)
theorem dat_ints (obs : List Ob) (f : V → Option PyData) : ∀ r : List Int, datVs obs f (r.map .int) = some (r.map .int)
  | [] => rfl
  | i :: r => by simp only [List.map, datVs, datV, dat_ints obs f r]
theorem dat_bools (obs : List Ob) (f : V → Option PyData) : ∀ r : List Bool, datVs obs f (r.map .bool) = some (r.map .bool)
  | [] => rfl
  | i :: r => by simp only [List.map, datVs, datV, dat_bools obs f r]
theorem dat_row {obs : List Ob} {n a : Nat} {r : List Int} (h : obs[a]? = some (.list (r.map .int))) : datR obs (n + 1) (.ref a) = some (rowD r) := by
  simp only [datR, h, dat_ints, rowD, Option.map_some]
theorem dat_refs {obs : List Ob} {n lo hi : Nat} : ∀ {as : List Nat} {rs : List (List Int)}, RowsAt obs lo hi as rs → datVs obs (datR obs (n + 1)) (as.map .ref) = some (rs.map rowD)
  | [], [], _ => rfl
  | a :: as, r :: rs, x => by simp only [List.map, datVs, datV, dat_row x.1.2.2, dat_refs x.2]
  | [], _ :: _, x => x.elim
  | _ :: _, [], x => x.elim
theorem dat_rows {obs : List Ob} {n lo hi r : Nat} {rows : List (List Int)} (x : Rows obs lo hi r rows) : datR obs (n + 2) (.ref r) = some (rowsD rows) := by
  obtain ⟨as, h1, h2⟩ := x.has
  simp only [datR, h1, dat_refs h2, rowsD, Option.map_some]
theorem lay_ints : ∀ r : List Int, PyData.canLayAll0 (r.map .int) = true
  | [] => rfl
  | i :: r => by simp only [List.map, PyData.canLayAll0, PyData.canLay0, lay_ints r, Bool.and_true]
theorem lay_rows : ∀ r : List (List Int), PyData.canLayAll0 (r.map rowD) = true
  | [] => rfl
  | i :: r => by simp only [List.map, PyData.canLayAll0, PyData.canLay0, rowD, lay_ints, lay_rows r, Bool.and_true]
theorem depth_ints : ∀ r : List Int, PyData.depthAll (r.map .int) = 0
  | [] => rfl
  | i :: r => by simp only [List.map, PyData.depthAll, PyData.depth, depth_ints r]; rfl
theorem depth_rows : ∀ r : List (List Int), PyData.depthAll (r.map rowD) ≤ 1
  | [] => Nat.zero_le _
  | i :: r => by
    have := depth_rows r
    simp only [List.map, PyData.depthAll, PyData.depth, rowD, depth_ints]
    omega
noncomputable def flat : List PyData → Bool
  | [] => true
  | .none :: r => flat r
  | .bool _ :: r => flat r
  | .int _ :: r => flat r
  | _ :: _ => false
theorem flat_lay : ∀ {l : List PyData}, flat l = true → PyData.canLayAll0 l = true ∧ PyData.depthAll l = 0
  | [], _ => ⟨rfl, rfl⟩
  | .none :: r, h => by
    obtain ⟨h1, h2⟩ := flat_lay (l := r) h
    simp only [PyData.canLayAll0, PyData.canLay0, PyData.depthAll, PyData.depth, h1, h2]; decide
  | .bool _ :: r, h => by
    obtain ⟨h1, h2⟩ := flat_lay (l := r) h
    simp only [PyData.canLayAll0, PyData.canLay0, PyData.depthAll, PyData.depth, h1, h2]; decide
  | .int _ :: r, h => by
    obtain ⟨h1, h2⟩ := flat_lay (l := r) h
    simp only [PyData.canLayAll0, PyData.canLay0, PyData.depthAll, PyData.depth, h1, h2]; decide
theorem flat_bools : ∀ r : List Bool, flat (r.map .bool) = true
  | [] => rfl
  | _ :: r => flat_bools r
theorem shaped_rows (rs : List (List Int)) : SeqAt.shaped (rowsD rs) = true := by
  have := depth_rows rs
  simp only [SeqAt.shaped, rowsD, PyData.canLay0, PyData.depth, lay_rows, Bool.true_and, decide_eq_true_eq]
  omega
theorem shaped_flat {l : List PyData} (h : flat l = true) : SeqAt.shaped (.list l) = true := by
  obtain ⟨h1, h2⟩ := flat_lay h
  simp only [SeqAt.shaped, PyData.canLay0, PyData.depth, h1, h2, Bool.true_and, decide_eq_true_eq]
  decide
theorem shaped_two {rs : List (List Int)} {l : List PyData} (h : flat l = true) : SeqAt.shaped (.list [rowsD rs, .list l]) = true := by
  obtain ⟨h1, h2⟩ := flat_lay h
  have h3 := depth_rows rs
  simp only [SeqAt.shaped, rowsD, PyData.canLay0, PyData.canLayAll0, PyData.depth, PyData.depthAll, h1, h2, lay_rows, Bool.true_and, decide_eq_true_eq]
  omega
/- two things of the same data are equal -/
theorem eq_self {D : PyData} {a b : V} {vars : List (Option V)} {obs : List Ob} (h1 : dat obs a = some D) (h2 : dat obs b = some D) (hs : SeqAt.shaped D = true) (hr : PyData.eqv D D = true) : pyEq a b ⟨vars, obs⟩ = .ok true ⟨vars, obs⟩ := by
  unfold pyEq
  rw [ev_withObs]
  have : eqO obs a b = some true := by unfold eqO; simp only [h1, h2, hs, Bool.and_self, if_true, hr]
  rw [this]
end Mine
set_option autoImplicit false
set_option linter.unusedVariables false
set_option linter.unusedSimpArgs false
namespace Mine
open PySem
/- signs and words -/
theorem at_one {s : List Nat} {c i : Nat} (h : StrLaws.At ⟨s.toArray⟩ ⟨[c].toArray⟩ s.length i) : s[i]? = some c := by
  have := (StrLaws.subAt_one ⟨s.toArray⟩ c i).mp (by
    have e : (⟨s.toArray⟩ : Str).length = s.length := by show s.toArray.size = _; simp
    rw [e]; exact h)
  simpa using this
theorem occ_is (s : List Nat) (c n : Nat) : ∃ f, StrLaws.ChainTo ⟨s.toArray⟩ ⟨[c].toArray⟩ s.length 0 (occ s [c] n) f := by
  have e : (⟨s.toArray⟩ : Str).length = s.length := by show s.toArray.size = _; simp
  have := StrLaws.occ_chain ⟨s.toArray⟩ ⟨[c].toArray⟩ n
  rw [e] at this
  exact this
theorem occ_found {s : List Nat} {c : Nat} : (occ s [c] 1).isEmpty = !decide (c ∈ s) := by
  have e : (⟨s.toArray⟩ : Str).length = s.length := by show s.toArray.size = _; simp
  have := StrLaws.found_one ⟨s.toArray⟩ c
  rw [e] at this
  unfold occ
  show (Builtin.Str.occurrences ⟨s.toArray⟩ ⟨#[c]⟩ 0 s.length 1).isEmpty = _
  have h2 : (c ∈ (⟨s.toArray⟩ : Str).cps.toList) ↔ c ∈ s := by simp
  rw [← Bool.not_not (List.isEmpty _), this]
theorem occ_first {s : List Nat} {c : Nat} (h : c ∈ s) : ∃ i r, occ s [c] 1 = i :: r ∧ i < s.length := by
  have h1 : (occ s [c] 1).isEmpty = false := by rw [occ_found]; simp [h]
  cases q : occ s [c] 1 with
  | nil => rw [q] at h1; cases h1
  | cons i r =>
    obtain ⟨f, hf⟩ := occ_is s c 1
    rw [q] at hf
    exact ⟨i, r, rfl, (List.getElem?_eq_some_iff.mp (at_one hf.2.1)).1⟩
theorem occ_once {s : List Nat} {c n : Nat} (h : s.Nodup) : (occ s [c] n).length ≤ 1 := by
  obtain ⟨f, hf⟩ := occ_is s c n
  match q : occ s [c] n with
  | [] => simp
  | [_] => simp
  | i :: j :: r =>
    rw [q] at hf
    have h1 := at_one hf.2.1
    have h2 := at_one hf.2.2.2.1
    have h3 : i + 1 ≤ j := hf.2.2.1
    obtain ⟨l1, e1⟩ := List.getElem?_eq_some_iff.mp h1
    have := (List.getElem?_inj l1 h).mp (h1.trans h2.symm)
    omega
structure SignsP (s : List Nat) : Prop where
  one : 1 ≤ s.length
  three : s.length ≤ 3
  az : ∀ c ∈ s, 97 ≤ c ∧ c ≤ 122
  nd : s.Nodup
noncomputable def letters : List Nat := [97, 98, 99, 100, 101, 102, 103, 104, 105, 106, 107, 108, 109, 110, 111, 112, 113, 114, 115, 116, 117, 118, 119, 120, 121, 122]
theorem letters_all : ∀ k : Fin 26, letters[k.1]? = some (97 + k.1) := by decide +kernel
theorem in_letters {c : Nat} (h : 97 ≤ c ∧ c ≤ 122) : (occ letters [c] 1).isEmpty = false := by
  rw [occ_found]
  have := letters_all ⟨c - 97, by omega⟩
  have e : 97 + (c - 97) = c := by omega
  rw [e] at this
  simp [List.mem_of_getElem? this]
/- joining signs -/
theorem strs_chars : ∀ s : List Nat, strsOf (s.map fun c => V.str [c]) = some (s.map fun c => [c])
  | [] => rfl
  | c :: s => by simp only [List.map, strsOf, strs_chars s, Option.map_some]
theorem fold_chars : ∀ (s : List Nat) (a : Array Nat), ((s.map fun c => mkS [c]).foldl (fun acc p => acc ++ (mkS []).cps ++ p.cps) a).toList = a.toList ++ s
  | [], a => by simp
  | c :: s, a => by
    simp only [List.map, List.foldl, fold_chars s]
    simp [mkS]
theorem join_chars (s : List Nat) : (Txt.join (mkS []) (s.map fun c => mkS [c])).cps.toList = s := by
  cases s with
  | nil => rfl
  | cons c s =>
    show (List.foldl (fun acc p => acc ++ (mkS []).cps ++ p.cps) (mkS [c]).cps (s.map fun c => mkS [c])).toList = _
    rw [fold_chars]; rfl
theorem joinOk_chars {s : List Nat} (h : s.length ≤ 1000) : JoinOk (mkS []) (s.map fun c => mkS [c]) = true := by
  unfold JoinOk
  rw [StrLaws.joinTotal]
  have e1 : ∀ s : List Nat, ((s.map fun c => mkS [c]).map (·.length)).sum = s.length := by
    intro s
    induction s with
    | nil => rfl
    | cons c s ih => simp only [List.map, List.sum_cons, ih]; show 1 + _ = _ + 1; omega
  have e2 : (mkS []).length = 0 := rfl
  rw [e1, e2]
  simp only [Builtin.Str.tooLong, Bool.not_eq_true', decide_eq_false_iff_not, Nat.not_lt, Nat.mul_zero, Nat.add_zero]
  show s.length ≤ 16777216
  omega
theorem ev_join {a : Nat} {s : List Nat} {vars : List (Option V)} {obs : List Ob} (h : obs[a]? = some (.list (s.map fun c => V.str [c]))) (hl : s.length ≤ 1000) : mJoin [.str [], .ref a] ⟨vars, obs⟩ = .ok (.str s) ⟨vars, obs⟩ := by
  show ((getList a).bind fun xs => (ofOpt (strsOf xs)).bind fun ws => if JoinOk (mkS []) (ws.map mkS) then M.pure (V.str (Txt.join (mkS []) (ws.map mkS)).cps.toList) else stuck) _ = _
  rw [ev_bind, ev_getList, h]
  simp only [Out.bind_ok]
  have e : (s.map fun c => [c]).map mkS = s.map fun c => mkS [c] := by simp
  rw [strs_chars, ev_bind, ev_ofOpt, ev_pure, Out.bind_ok, e, if_pos (joinOk_chars hl), join_chars]; rfl
end Mine
set_option autoImplicit false
set_option linter.unusedVariables false
set_option linter.unusedSimpArgs false
namespace Mine
open PySem
/- copies of rows -/
noncomputable def rowO (w : List Int) : Ob := .list (w.map .int)
noncomputable def cpy (n : Nat) (rows : List (List Int)) : List Ob := rows.map rowO ++ [.list ((List.range' n rows.length).map .ref)]
theorem rowsAt_range : ∀ (rows : List (List Int)) (pre suf : List Ob), RowsAt (pre ++ (rows.map rowO ++ suf)) pre.length (pre.length + rows.length) (List.range' pre.length rows.length) rows
  | [], pre, suf => trivial
  | w :: ws, pre, suf => by
    have ih := rowsAt_range ws (pre ++ [rowO w]) suf
    have e : pre ++ [rowO w] ++ (ws.map rowO ++ suf) = pre ++ ((w :: ws).map rowO ++ suf) := by simp
    have e2 : (pre ++ [rowO w]).length = pre.length + 1 := by simp
    rw [e, e2] at ih
    refine ⟨⟨Nat.le_refl _, by simp, ?_⟩, ?_⟩
    · rw [List.getElem?_append_right (Nat.le_refl _)]; simp [rowO]
    · refine ih.wide (Nat.le_succ _) ?_
      simp only [List.length_cons]; omega
theorem cpy_len (n : Nat) (rows : List (List Int)) : (cpy n rows).length = rows.length + 1 := by simp [cpy]
theorem cpy_top (obs : List Ob) (rows : List (List Int)) (t : List Ob) : (obs ++ (cpy obs.length rows ++ t))[obs.length + rows.length]? = some (.list ((List.range' obs.length rows.length).map .ref)) := by
  rw [List.getElem?_append_right (Nat.le_add_right _ _), List.getElem?_append_left (by rw [cpy_len]; omega)]
  unfold cpy
  rw [List.getElem?_append_right (by simp)]
  simp
theorem cpy_rows (obs : List Ob) (rows : List (List Int)) (t : List Ob) : Rows (obs ++ (cpy obs.length rows ++ t)) obs.length (obs.length + rows.length + 1) (obs.length + rows.length) rows := by
  refine ⟨Nat.le_add_right _ _, Nat.lt_succ_self _, _, cpy_top obs rows t, ?_⟩
  have := rowsAt_range rows obs ([.list ((List.range' obs.length rows.length).map .ref)] ++ t)
  unfold cpy
  rw [List.append_assoc]
  exact this.wide (Nat.le_refl _) (Nat.le_succ _)
theorem copy_rows {b : Nat} {src : M Src} {vars : List (Option V)} {obs : List Ob} {r lo hi : Nat} {as : List Nat} {rows : List (List Int)} (hb : vars.length = b) (hs : src ⟨vars, obs⟩ = .ok ⟨as.map .ref, [(r, .list (as.map .ref))]⟩ ⟨vars, obs⟩)
    (hr : obs[r]? = some (.list (as.map .ref))) (hrows : RowsAt obs lo hi as rows) (hn : rows.length ≤ 1000) (hw : ∀ w ∈ rows, w.length ≤ 1000) {elt : M V} (he : elt = appM fList [varM b]) :
    compM b 1 src (.var b) (andM []) elt ⟨vars, obs⟩ = .ok (.ref (obs.length + rows.length)) ⟨vars, obs ++ cpy obs.length rows⟩ := by
  subst he
  have hlen := hrows.len
  obtain ⟨vs, o', hI, h3⟩ := comp1 (elt := appM fList [varM b]) hb hs (by simp; omega)
    (fun l acc o => ∃ d rest bs, rows = d ++ rest ∧ l = bs.map V.ref ∧ RowsAt obs lo hi bs rest ∧ o = obs ++ d.map rowO ∧ acc = (List.range' obs.length d.length).map V.ref)
    ⟨[], rows, as, rfl, rfl, hrows, by simp, rfl⟩
    (fun l acc o hI => by
      obtain ⟨d, rest, bs, _, _, _, rfl, _⟩ := hI
      exact .one (Gr.get (.add _ _) hr))
    (fun x l acc o hI => by
      obtain ⟨d, rest, bs, h1, h2, h3, rfl, rfl⟩ := hI
      cases bs with
      | nil => cases h2
      | cons a bs =>
        cases rest with
        | nil => exact h3.elim
        | cons w rest =>
          cases h2
          have hwl : w.length ≤ 1000 := hw w (by rw [h1]; simp)
          have hget : (obs ++ d.map rowO)[a]? = some (.list (w.map .int)) := Gr.get (.add _ _) h3.1.2.2
          refine ⟨.ref (obs ++ d.map rowO).length, obs ++ d.map rowO ++ [rowO w], ?_, d ++ [w], rest, bs, by rw [h1]; simp, rfl, h3.2, by simp, ?_⟩
          · subst hb
            simp [hget, hwl, rowO]
          · simp [List.range'_concat, List.range'_1_concat])
  obtain ⟨d, rest, bs, h1, h2, h4, rfl, rfl⟩ := hI
  cases bs with
  | cons _ _ => cases h2
  | nil =>
    cases rest with
    | cons _ _ => exact h4.elim
    | nil =>
      rw [List.append_nil] at h1
      subst h1
      rw [h3]
      unfold cpy
      simp
/- machines -/
theorem ev_attr {W : Wd} {x c : Str} {a dn : Nat} {fs : List (Str × V)} {v : V} {vars : List (Option V)} {obs : List Ob} (h1 : obs[a]? = some (.inst c dn)) (h2 : obs[dn]? = some (.ns fs)) (hf : W.fld c x = true) (hv : fs.lookup x = some v) : attrV W x (.ref a) ⟨vars, obs⟩ = .ok v ⟨vars, obs⟩ := by
  unfold attrV
  simp [h1, h2, hf, hv]
theorem ev_pickO {W : Wd} {x c : Str} {a dn : Nat} {fs : List (Str × V)} {vars : List (Option V)} {obs : List Ob} (h1 : obs[a]? = some (.inst c dn)) (h2 : obs[dn]? = some (.ns fs)) (hf : W.has c x = true) (hv : fs.lookup x = none) : pickO W x (.ref a) ⟨vars, obs⟩ = .ok (W.cf (.meth c x)) ⟨vars, obs⟩ := by
  unfold pickO
  simp [h1, h2, hf, hv]
theorem ev_setattr {W : Wd} {x c : Str} {a dn : Nat} {fs : List (Str × V)} {v : V} {vars : List (Option V)} {obs : List Ob} (h1 : obs[a]? = some (.inst c dn)) (h2 : obs[dn]? = some (.ns fs)) (hf : W.fld c x = true) (hl : fs.length ≤ 100) : setAttrV W (.ref a) x v ⟨vars, obs⟩ = .ok () ⟨vars, obs.set dn (.ns (setField x v fs))⟩ := by
  unfold setAttrV
  simp only [ev_bind, ev_getOb, h1, h2, Out.bind_ok, hf, hl, if_true, ev_setOb]
  exact if_pos (List.getElem?_eq_some_iff.mp h2).1
@[simp] theorem ev_setAttrM (W : Wd) (o : M V) (x : Str) (m : M V) (st : St) : setAttrM W o x m st = (m.bind fun v => o.bind fun ov => (setAttrV W ov x v).bind fun _ => M.pure .next) st := id rfl
theorem idx_nat {α : Type} {xs : List α} {i : Nat} {v : α} (h : xs[i]? = some v) (hl : xs.length ≤ 1000) : idxL xs (i : Int) = some v := by
  have := (List.getElem?_eq_some_iff.mp h).1
  unfold idxL big
  rw [if_pos (by omega), if_pos (by omega)]
  simpa using h
theorem sub_ref {obs : List Ob} {a i : Nat} {xs : List V} {v : V} (h : obs[a]? = some (.list xs)) (hi : xs[i]? = some v) (hl : xs.length ≤ 1000) (vars : List (Option V)) : subV (.ref a) (.int i) ⟨vars, obs⟩ = .ok v ⟨vars, obs⟩ := by
  simp [h, idx_nat hi hl]
structure Mach (obs : List Ob) (lo hi m : Nat) (s : List Nat) (rows : List (List Int)) (ends : List Bool) : Prop where
  ge : lo ≤ m
  lt : m < hi
  has : ∃ dn wr fr, (lo ≤ dn ∧ dn < hi) ∧ (lo ≤ fr ∧ fr < hi) ∧ obs[m]? = some (.inst (nm "Machine") dn) ∧ obs[dn]? = some (.ns [(nm "signs", .str s), (nm "ways", .ref wr), (nm "finals", .ref fr)]) ∧ Rows obs lo hi wr rows ∧ obs[fr]? = some (.list (ends.map .bool))
theorem Mach.same {o o' : List Ob} {lo hi m : Nat} {s : List Nat} {rows : List (List Int)} {ends : List Bool} (x : Mach o lo hi m s rows ends) (h : Same lo hi o o') : Mach o' lo hi m s rows ends := by
  obtain ⟨dn, wr, fr, h1, h2, h3, h4, h5, h6⟩ := x.has
  exact ⟨x.ge, x.lt, dn, wr, fr, h1, h2, (h _ x.ge x.lt).trans h3, (h _ h1.1 h1.2).trans h4, h5.same h, (h _ h2.1 h2.2).trans h6⟩
end Mine
set_option autoImplicit false
set_option linter.unusedVariables false
set_option linter.unusedSimpArgs false
set_option maxRecDepth 100000
namespace Mine
open PySem
theorem dat_flat {obs : List Ob} {n e : Nat} {ends : List Bool} (h : obs[e]? = some (.list (ends.map .bool))) : datR obs (n + 1) (.ref e) = some (.list (ends.map .bool)) := by
  simp only [datR, h, dat_bools, Option.map_some]
theorem eqv_ok {D : PyData} (h : SeqAt.shaped D = true) : PyData.eqv D D = true := by
  unfold SeqAt.shaped at h
  rw [Bool.and_eq_true] at h
  exact PySem.SeqAt.eqv_refl D h.1
theorem Rows.eq {o : List Ob} {lo hi p lo' hi' q : Nat} {rows : List (List Int)} (x : Rows o lo hi p rows) (y : Rows o lo' hi' q rows) (vars : List (Option V)) : pyEq (.ref p) (.ref q) ⟨vars, o⟩ = .ok true ⟨vars, o⟩ :=
  eq_self (show dat o (.ref p) = _ from dat_rows (n := 6) x) (show dat o (.ref q) = _ from dat_rows (n := 6) y) (shaped_rows rows) (eqv_ok (shaped_rows rows))
theorem flats_eq {o : List Ob} {p q : Nat} {ends : List Bool} (x : o[p]? = some (.list (ends.map .bool))) (y : o[q]? = some (.list (ends.map .bool))) (vars : List (Option V)) : pyEq (.ref p) (.ref q) ⟨vars, o⟩ = .ok true ⟨vars, o⟩ :=
  eq_self (show dat o (.ref p) = _ from dat_flat (n := 7) x) (show dat o (.ref q) = _ from dat_flat (n := 7) y) (shaped_flat (flat_bools ends)) (eqv_ok (shaped_flat (flat_bools ends)))
theorem idx0 {α : Type} (x : α) (l : List α) : idxL (x :: l) 0 = some x := rfl
theorem idx1 {α : Type} (x y : α) (l : List α) : idxL (x :: y :: l) 1 = some y := rfl
end Mine
set_option autoImplicit false
set_option linter.unusedVariables false
set_option linter.unusedSimpArgs false
namespace Mine
open PySem
/- words joined by one sign -/
noncomputable def joinC (c : Nat) : List (List Nat) → List Nat
  | [] => []
  | w :: r => w ++ r.flatMap fun v => c :: v
theorem str_ext {x y : Str} (h : x.cps.toList = y.cps.toList) : x = y := by
  cases x; cases y
  simp only [Str.mk.injEq]
  exact Array.toList_inj.mp h
theorem join_list (c : Nat) : ∀ ws : List (List Nat), (Str.join (mkS [c]) (ws.map mkS)).cps.toList = joinC c ws
  | [] => rfl
  | [w] => by simp [Str.join, joinC, mkS]
  | w :: v :: r => by
    have ih := join_list c (v :: r)
    have e : Str.join (mkS [c]) ((w :: v :: r).map mkS) = mkS w ++ mkS [c] ++ Str.join (mkS [c]) ((v :: r).map mkS) := rfl
    rw [e]
    simp only [Str.cps_append, Array.toList_append]
    rw [ih]
    simp [mkS, joinC]
theorem txt_join (c : Nat) (ws : List (List Nat)) : (Txt.join (mkS [c]) (ws.map mkS)).cps.toList = joinC c ws := by
  show (Builtin.Str.glued (mkS [c]) (ws.map mkS)).cps.toList = _
  rw [StrLaws.glued_eq_join]
  exact join_list c ws
theorem cut_inj {c : Nat} : ∀ {a b r t : List Nat}, c ∉ a → c ∉ b → a ++ c :: r = b ++ c :: t → a = b ∧ r = t
  | [], [], _, _, _, _, h => by simpa using h
  | [], y :: b, _, _, _, hb, h => by simp at h hb; exact absurd h.1 hb.1
  | x :: a, [], _, _, ha, _, h => by simp at h ha; exact absurd h.1.symm ha.1
  | x :: a, y :: b, r, t, ha, hb, h => by
    simp only [List.cons_append, List.cons.injEq] at h
    simp only [List.mem_cons, not_or] at ha hb
    obtain ⟨h1, h2⟩ := cut_inj ha.2 hb.2 h.2
    exact ⟨by rw [h.1, h1], h2⟩
theorem joinC_inj {c : Nat} : ∀ {A B : List (List Nat)} {w v : List Nat}, (∀ x ∈ w :: A, c ∉ x) → (∀ x ∈ v :: B, c ∉ x) → joinC c (w :: A) = joinC c (v :: B) → w :: A = v :: B
  | [], [], w, v, _, _, h => by simpa [joinC] using h
  | [], b :: B, w, v, hA, _, h => by
    simp only [joinC, List.flatMap_nil, List.append_nil, List.flatMap_cons] at h
    exact absurd (by rw [h]; simp) (hA w (by simp))
  | a :: A, [], w, v, _, hB, h => by
    simp only [joinC, List.flatMap_nil, List.append_nil, List.flatMap_cons] at h
    exact absurd (by rw [← h]; simp) (hB v (by simp))
  | a :: A, b :: B, w, v, hA, hB, h => by
    simp only [joinC, List.flatMap_cons, List.cons_append] at h
    obtain ⟨h1, h2⟩ := cut_inj (hA w (by simp)) (hB v (by simp)) h
    have := joinC_inj (A := A) (B := B) (w := a) (v := b) (fun x hx => hA x (by simp at hx ⊢; exact .inr hx)) (fun x hx => hB x (by simp at hx ⊢; exact .inr hx)) (by simpa [joinC] using h2)
    rw [h1, this]
theorem mkS_list (x : Str) : mkS x.cps.toList = x := str_ext (by simp [mkS])
theorem split_join {c : Nat} {w : List Nat} {ws : List (List Nat)} (h : ∀ x ∈ w :: ws, c ∉ x) : Txt.split (mkS (joinC c (w :: ws))) (mkS [c]) = (w :: ws).map mkS := by
  have h1 := StrLaws.join_split (mkS (joinC c (w :: ws))) (mkS [c])
  have h2 := StrLaws.split_free (mkS (joinC c (w :: ws))) c
  have h3 := PyProof.Rows.split_pos (mkS (joinC c (w :: ws))) (mkS [c])
  generalize hP : Txt.split (mkS (joinC c (w :: ws))) (mkS [c]) = P at *
  have h2' : ∀ p ∈ P, c ∉ p.cps.toList := fun p hp => h2 p (by
    have e : Txt.split (mkS (joinC c (w :: ws))) ⟨#[c]⟩ = P := hP
    rw [e]; exact hp)
  obtain ⟨q, Q, hQ⟩ : ∃ q Q, P = q :: Q := by
    cases P with
    | nil => simp at h3
    | cons q Q => exact ⟨q, Q, rfl⟩
  have e : P = (P.map fun x => x.cps.toList).map mkS := by
    rw [List.map_map]
    conv => lhs; rw [← List.map_id P]
    exact List.map_congr_left fun x _ => (mkS_list x).symm
  rw [e] at h1 ⊢
  have h4 := congrArg (fun x : Str => x.cps.toList) h1
  rw [join_list] at h4
  have h5 : (mkS (joinC c (w :: ws))).cps.toList = joinC c (w :: ws) := by simp [mkS]
  rw [h5, hQ, List.map_cons] at h4
  rw [hQ, List.map_cons]
  rw [joinC_inj (fun x hx => ?_) h h4]
  rw [← List.map_cons (f := fun x : Str => x.cps.toList), ← hQ] at hx
  obtain ⟨p, hp, rfl⟩ := List.mem_map.mp hx
  exact h2' p hp
/- numbers -/
noncomputable def num (k : Nat) : List Nat := strI (k : Int)
theorem num_ok : ∀ k : Fin 20, ((num k.1).all fun c => decide (48 ≤ c ∧ c ≤ 57)) = true ∧ 1 ≤ (num k.1).length ∧ (num k.1).length ≤ 2 := by decide +kernel
theorem num_digits {k c : Nat} (hk : k < 20) (hc : c ∈ num k) : 48 ≤ c ∧ c ≤ 57 := by
  have := List.all_eq_true.mp (num_ok ⟨k, hk⟩).1 c hc
  simpa using this
theorem num_len {k : Nat} (hk : k < 20) : 1 ≤ (num k).length ∧ (num k).length ≤ 2 := (num_ok ⟨k, hk⟩).2
theorem num_int {k : Nat} (hk : k < 20) : intText? (mkS (num k)) = some (k : Int) := by
  have e : mkS (num k) = Str.ofString (toString (k : Int)) := mkS_list _
  rw [e]
  exact PySem.W.KIN.num_reads (by omega) (by omega)
/- the head of a text -/
theorem starts_app (p r : List Nat) : Txt.startswith (mkS (p ++ r)) (mkS p) = true := by
  unfold Txt.startswith
  have e1 : (mkS p).length = p.length := by show p.toArray.size = _; simp
  have e2 : (mkS (p ++ r)).length = p.length + r.length := by show (p ++ r).toArray.size = _; simp
  rw [e1, e2]
  rw [Bool.and_eq_true]
  refine ⟨by simp, ?_⟩
  rw [StrLaws.subAt_eq]
  have e3 : (⟨p.toArray⟩ : Str).length = p.length := e1
  simp [mkS, e3]
theorem slice_app (p r : List Nat) : (Txt.slice ⟨(p ++ r).toArray⟩ (some (p.length : Int)) none).cps.toList = r := by
  unfold Txt.slice
  have e2 : (⟨(p ++ r).toArray⟩ : Str).length = p.length + r.length := by show (p ++ r).toArray.size = _; simp
  have e3 : Builtin.Str.strSliceIndices (some (p.length : Int)) none 1 (p.length + r.length) = Builtin.Str.strSliceIndices (some (p.length : Int)) (some ((p.length + r.length : Nat) : Int)) 1 (p.length + r.length) := by
    unfold Builtin.Str.strSliceIndices
    simp only [show ((1 : Int) > 0) = True from by simp, if_true]
    congr 1
    rw [if_neg (by omega)]
    omega
  have e4 := StrLaws.sliced_plain ⟨(p ++ r).toArray⟩ (a := p.length) (b := p.length + r.length) (by omega) (by rw [e2]; exact Nat.le_refl _)
  have e5 := StrLaws.strSliceIndices_plain (a := p.length) (b := p.length + r.length) (len := p.length + r.length) (by omega) (Nat.le_refl _)
  rw [e2] at e4 ⊢
  rw [e3]
  split
  · rename_i h
    rw [e5] at h
    simp at h
    subst h
    simp
  · show (List.filterMap _ _).toArray.toList = r
    rw [e4]
    simp
end Mine
set_option autoImplicit false
set_option maxRecDepth 100000
set_option linter.unusedVariables false
namespace Mine
open PySem
noncomputable def p1 : List Stmt := PySem.Challenge.pw_uf020027_11.main.body
noncomputable def bd_is_signs_1 (d : Nat) : M Flow := seqS [iteM (orM [cmpM (varM 1) [(.NotIn, constM (.str [97, 98, 99, 100, 101, 102, 103, 104, 105, 106, 107, 108, 109, 110, 111, 112, 113, 114, 115, 116, 117, 118, 119, 120, 121, 122]))], cmpM (methM (pickS mCount) (varM 0) [varM 1]) [(.Gt, constM (.int 1))]]) (seqS [retM (constM (.bool false))]) (seqS [])]
/- 0 thing, 1 sign -/
theorem cf_is_signs (d : Nat) : cfOf p1 (d + 1) (.fn (nm "is_signs")) = runFn 1 2 (
  seqS [iteM (orM [notM (evB (appM fIsi [varM 0, constM (.type "str")])), notM (cmpM (constM (.int 1)) [(.LtE, appM fLen [varM 0]), (.LtE, constM (.int 3))])]) (seqS [retM (constM (.bool false))]) (seqS []),
    forM (.var 1) ((varM 0).bind toSrc) (bd_is_signs_1 d),
    retM (constM (.bool true))]) := rfl
/- 0 thing, 1 many -/
theorem cf_is_room (d : Nat) : cfOf p1 (d + 1) (.fn (nm "is_room")) = runFn 2 2 (
  seqS [retM (boolV (andM [evB (appM fIsi [varM 0, constM (.type "int")]), evB (boolV (notM (evB (appM fIsi [varM 0, constM (.type "bool")])))), evB (boolV (cmpM (constM (.int 0)) [(.LtE, varM 0), (.Lt, varM 1)]))]))]) := rfl
noncomputable def bd_is_row_1 (d : Nat) : M Flow := seqS [iteM (notM (evB (appM (cfOf p1 d (.fn (nm "is_room"))) [varM 3, varM 2]))) (seqS [retM (constM (.bool false))]) (seqS [])]
/- 0 thing, 1 signs, 2 many, 3 room -/
theorem cf_is_row (d : Nat) : cfOf p1 (d + 1) (.fn (nm "is_row")) = runFn 3 4 (
  seqS [iteM (orM [notM (evB (appM fIsi [varM 0, constM (.type "list")])), cmpM (appM fLen [varM 0]) [(.NotEq, appM fLen [varM 1])]]) (seqS [retM (constM (.bool false))]) (seqS []),
    forM (.var 3) ((varM 0).bind toSrc) (bd_is_row_1 d),
    retM (constM (.bool true))]) := rfl
noncomputable def bd_makes_machine_1 (d : Nat) : M Flow := seqS [iteM (notM (evB (appM (cfOf p1 d (.fn (nm "is_row"))) [varM 3, varM 0, appM fLen [varM 1]]))) (seqS [retM (constM (.bool false))]) (seqS [])]
noncomputable def bd_makes_machine_2 (d : Nat) : M Flow := seqS [iteM (notM (evB (appM fIsi [varM 4, constM (.type "bool")]))) (seqS [retM (constM (.bool false))]) (seqS [])]
/- 0 signs, 1 rows, 2 ends, 3 row, 4 end -/
theorem cf_makes_machine (d : Nat) : cfOf p1 (d + 1) (.fn (nm "makes_machine")) = runFn 3 5 (
  seqS [iteM (orM [notM (evB (appM (cfOf p1 d (.fn (nm "is_signs"))) [varM 0])), notM (evB (appM fIsi [varM 1, constM (.type "list")])), notM (evB (appM fIsi [varM 2, constM (.type "list")]))]) (seqS [retM (constM (.bool false))]) (seqS []),
    iteM (orM [notM (cmpM (constM (.int 1)) [(.LtE, appM fLen [varM 1]), (.LtE, constM (.int 20))]), cmpM (appM fLen [varM 2]) [(.NotEq, appM fLen [varM 1])]]) (seqS [retM (constM (.bool false))]) (seqS []),
    forM (.var 3) ((varM 1).bind toSrc) (bd_makes_machine_1 d),
    forM (.var 4) ((varM 2).bind toSrc) (bd_makes_machine_2 d),
    retM (constM (.bool true))]) := rfl
noncomputable def bd_Machine___init___1 (d : Nat) : M V := appM fList [varM 4]
/- 0 self, 1 signs, 2 rows, 3 ends -/
theorem cf_Machine___init__ (d : Nat) : cfOf p1 (d + 1) (.meth (nm "Machine") (nm "__init__")) = runFn 4 4 (
  seqS [iteM (notM (evB (appM (cfOf p1 d (.fn (nm "makes_machine"))) [varM 1, varM 2, varM 3]))) (seqS [raiseM (nm "BadMachine")]) (seqS []),
    setAttrM (wdOf p1 (cfOf p1 d)) (varM 0) (nm "signs") (varM 1),
    setAttrM (wdOf p1 (cfOf p1 d)) (varM 0) (nm "ways") (compM 4 1 ((varM 2).bind toSrc) (.var 4) (andM []) (bd_Machine___init___1 d)),
    setAttrM (wdOf p1 (cfOf p1 d)) (varM 0) (nm "finals") (appM fList [varM 3])]) := rfl
/- 0 self -/
theorem cf_Machine_many (d : Nat) : cfOf p1 (d + 1) (.meth (nm "Machine") (nm "many")) = runFn 1 1 (
  seqS [retM (appM fLen [attrM (wdOf p1 (cfOf p1 d)) (varM 0) (nm "ways")])]) := rfl
noncomputable def bd_Machine_rows_1 (d : Nat) : M V := appM fList [varM 1]
/- 0 self -/
theorem cf_Machine_rows (d : Nat) : cfOf p1 (d + 1) (.meth (nm "Machine") (nm "rows")) = runFn 1 1 (
  seqS [retM (compM 1 1 ((attrM (wdOf p1 (cfOf p1 d)) (varM 0) (nm "ways")).bind toSrc) (.var 1) (andM []) (bd_Machine_rows_1 d))]) := rfl
/- 0 self -/
theorem cf_Machine_ends (d : Nat) : cfOf p1 (d + 1) (.meth (nm "Machine") (nm "ends")) = runFn 1 1 (
  seqS [retM (appM fList [attrM (wdOf p1 (cfOf p1 d)) (varM 0) (nm "finals")])]) := rfl
noncomputable def st_written_1 (d : Nat) : M Flow := assignM (.var 1) (listM [binM .Add (constM (.str [115, 105, 103, 110, 115, 32])) (attrM (wdOf p1 (cfOf p1 d)) (varM 0) (nm "signs"))])
noncomputable def bd_written_2 (d : Nat) : M V := appM fStr [varM 5]
noncomputable def bd_written_3 (d : Nat) : M Flow := seqS [assignM (.var 4) (binM .Add (listM [binM .Add (appM fStr [varM 2]) (constM (.str [58]))]) (compM 5 1 ((varM 3).bind toSrc) (.var 5) (andM []) (bd_written_2 d))),
  iteM (evB (subM (methM (pickO (wdOf p1 (cfOf p1 d)) (nm "ends")) (varM 0) []) (varM 2))) (seqS [exprM (methM (pickL mAppend) (varM 4) [constM (.str [101, 110, 100])])]) (seqS []),
  exprM (methM (pickL mAppend) (varM 1) [methM (pickS mJoin) (constM (.str [32])) [varM 4]])]
noncomputable def st_written_2 (d : Nat) : M Flow := forM (.tup [2, 3]) ((methM (pickO (wdOf p1 (cfOf p1 d)) (nm "rows")) (varM 0) []).bind enumV) (bd_written_3 d)
noncomputable def st_written_3 (d : Nat) : M Flow := retM (methM (pickS mJoin) (constM (.str [10])) [varM 1])
/- 0 machine, 1 lines, 2 room, 3 row, 4 words -/
theorem cf_written (d : Nat) : cfOf p1 (d + 1) (.fn (nm "written")) = runFn 1 5 (
  seqS [st_written_1 d, st_written_2 d, st_written_3 d]) := rfl
noncomputable def st_number_of_1 (d : Nat) : M Flow := iteM (notM (cmpM (constM (.int 1)) [(.LtE, appM fLen [varM 0]), (.LtE, constM (.int 2))])) (seqS [retM (negM (constM (.int 1)))]) (seqS [])
noncomputable def bd_number_of_2 (d : Nat) : M Flow := seqS [iteM (cmpM (varM 1) [(.NotIn, constM (.str [48, 49, 50, 51, 52, 53, 54, 55, 56, 57]))]) (seqS [retM (negM (constM (.int 1)))]) (seqS [])]
noncomputable def st_number_of_2 (d : Nat) : M Flow := forM (.var 1) ((varM 0).bind toSrc) (bd_number_of_2 d)
noncomputable def st_number_of_3 (d : Nat) : M Flow := retM (appM fInt [varM 0])
/- 0 word, 1 sign -/
theorem cf_number_of (d : Nat) : cfOf p1 (d + 1) (.fn (nm "number_of")) = runFn 1 2 (
  seqS [st_number_of_1 d, st_number_of_2 d, st_number_of_3 d]) := rfl
noncomputable def st_machine_of_1 (d : Nat) : M Flow := assignM (.var 2) (listM [])
noncomputable def st_machine_of_2 (d : Nat) : M Flow := assignM (.var 3) (listM [])
noncomputable def bd_machine_of_3 (d : Nat) : M V := appM (cfOf p1 d (.fn (nm "number_of"))) [varM 7]
noncomputable def bd_machine_of_4 (d : Nat) : M Flow := seqS [assignM (.var 5) (methM (pickS mSplit) (varM 4) [constM (.str [32])]),
  assignM (.var 6) (boolV (cmpM (subM (varM 5) (negM (constM (.int 1)))) [(.Eq, constM (.str [101, 110, 100]))])),
  iteM (evB (varM 6)) (seqS [assignM (.var 5) (sliceM (varM 5) none (some (negM (constM (.int 1)))))]) (seqS []),
  exprM (methM (pickL mAppend) (varM 2) [compM 7 1 ((sliceM (varM 5) (some (constM (.int 1))) none).bind toSrc) (.var 7) (andM []) (bd_machine_of_3 d)]),
  exprM (methM (pickL mAppend) (varM 3) [varM 6])]
noncomputable def st_machine_of_3 (d : Nat) : M Flow := forM (.var 4) ((varM 1).bind toSrc) (bd_machine_of_4 d)
noncomputable def st_machine_of_4 (d : Nat) : M Flow := seqS [retM (appM (newC (wdOf p1 (cfOf p1 d)) (nm "Machine")) [varM 0, varM 2, varM 3])]
/- 0 signs, 1 lines, 2 rows, 3 ends, 4 line, 5 words, 6 is_end -/
theorem cf_machine_of (d : Nat) : cfOf p1 (d + 1) (.fn (nm "machine_of")) = runFn 2 7 (
  seqS [st_machine_of_1 d, st_machine_of_2 d, st_machine_of_3 d, st_machine_of_4 d]) := rfl
noncomputable def st_read_1 (d : Nat) : M Flow := iteM (notM (evB (appM fIsi [varM 0, constM (.type "str")]))) (seqS [raiseM (nm "BadText")]) (seqS [])
noncomputable def st_read_2 (d : Nat) : M Flow := assignM (.var 1) (methM (pickS mSplit) (varM 0) [constM (.str [10])])
noncomputable def st_read_3 (d : Nat) : M Flow := assignM (.var 2) (constM .none)
noncomputable def st_read_4 (d : Nat) : M Flow := iteM (evB (methM (pickS mStarts) (subM (varM 1) (constM (.int 0))) [constM (.str [115, 105, 103, 110, 115, 32])])) (seqS [assignM (.var 2) (appM (cfOf p1 d (.fn (nm "machine_of"))) [sliceM (subM (varM 1) (constM (.int 0))) (some (constM (.int 6))) none, sliceM (varM 1) (some (constM (.int 1))) none])]) (seqS [])
noncomputable def st_read_5 (d : Nat) : M Flow := iteM (orM [cmpM (varM 2) [(.Is, constM .none)], cmpM (appM (cfOf p1 d (.fn (nm "written"))) [varM 2]) [(.NotEq, varM 0)]]) (seqS [raiseM (nm "BadText")]) (seqS [])
noncomputable def st_read_6 (d : Nat) : M Flow := retM (varM 2)
/- 0 text, 1 lines, 2 machine -/
theorem cf_read (d : Nat) : cfOf p1 (d + 1) (.fn (nm "read")) = runFn 1 3 (
  seqS [st_read_1 d, st_read_2 d, st_read_3 d, st_read_4 d, st_read_5 d, st_read_6 d]) := rfl
/- 0 _law_script, 1 _law_k -/
theorem cf__law_cell_at (d : Nat) : cfOf p1 (d + 1) (.fn (nm "_law_cell_at")) = runFn 2 2 (
  seqS [iteM (cmpM (varM 1) [(.Lt, appM fLen [varM 0])]) (seqS [retM (subM (varM 0) (varM 1))]) (seqS []),
    retM (constM (.int 0))]) := rfl
/- 0 _law_cell, 1 _law_k, 2 _law_number -/
theorem cf__law_mixed (d : Nat) : cfOf p1 (d + 1) (.fn (nm "_law_mixed")) = runFn 2 3 (
  seqS [assignM (.var 2) (binM .Add (binM .Add (varM 0) (binM .Mult (constM (.int 7919)) (varM 1))) (constM (.int 3))),
    retM (binM .Mod (binM .Mult (binM .Mod (binM .Mult (varM 2) (varM 2)) (constM (.int 2147483647))) (constM (.int 48271))) (constM (.int 2147483647)))]) := rfl
/- 0 _law_thing -/
theorem cf__law_whole (d : Nat) : cfOf p1 (d + 1) (.fn (nm "_law_whole")) = runFn 1 1 (
  seqS [retM (boolV (andM [evB (appM fIsi [varM 0, constM (.type "int")]), evB (boolV (notM (evB (appM fIsi [varM 0, constM (.type "bool")]))))]))]) := rfl
noncomputable def bd__law_signs_1 (d : Nat) : M V := subM (varM 1) (binM .Mod (binM .Add (binM .FloorDiv (varM 0) (constM (.int 3))) (binM .Mult (varM 2) (varM 3))) (constM (.int 26)))
/- 0 _law_cell, 1 _law_letters, 2 _law_step -/
theorem cf__law_signs (d : Nat) : cfOf p1 (d + 1) (.fn (nm "_law_signs")) = runFn 1 3 (
  seqS [assignM (.var 1) (constM (.str [97, 98, 99, 100, 101, 102, 103, 104, 105, 106, 107, 108, 109, 110, 111, 112, 113, 114, 115, 116, 117, 118, 119, 120, 121, 122])),
    assignM (.var 2) (subM (listM [constM (.int 1), constM (.int 3), constM (.int 5), constM (.int 7), constM (.int 9), constM (.int 11)]) (binM .Mod (binM .FloorDiv (varM 0) (constM (.int 78))) (constM (.int 6)))),
    retM (methM (pickS mJoin) (constM (.str [])) [compM 3 1 ((appM fRange [binM .Add (constM (.int 1)) (binM .Mod (varM 0) (constM (.int 3)))]).bind toSrc) (.var 3) (andM []) (bd__law_signs_1 d)])]) := rfl
noncomputable def bd__law_drawn_1 (d : Nat) : M V := binM .Mod (binM .FloorDiv (appM (cfOf p1 d (.fn (nm "_law_mixed"))) [varM 8, varM 9]) (constM (.int 16))) (varM 4)
noncomputable def bd__law_drawn_2 (d : Nat) : M Flow := seqS [assignM (.var 8) (appM (cfOf p1 d (.fn (nm "_law_cell_at"))) [varM 0, binM .Add (binM .Add (varM 1) (constM (.int 1))) (varM 7)]),
  exprM (methM (pickL mAppend) (varM 5) [compM 9 1 ((appM fRange [varM 2]).bind toSrc) (.var 9) (andM []) (bd__law_drawn_1 d)]),
  exprM (methM (pickL mAppend) (varM 6) [boolV (cmpM (binM .Mod (binM .FloorDiv (appM (cfOf p1 d (.fn (nm "_law_mixed"))) [varM 8, constM (.int 5)]) (constM (.int 64))) (constM (.int 2))) [(.Eq, constM (.int 1))])])]
noncomputable def bd__law_drawn_3 (d : Nat) : M V := binM .Add (listM [binM .Mod (binM .Add (varM 9) (constM (.int 1))) (varM 4)]) (sliceM (varM 10) (some (constM (.int 1))) none)
noncomputable def bd__law_drawn_4 (d : Nat) : M V := boolV (cmpM (varM 9) [(.Eq, binM .Sub (varM 4) (constM (.int 1)))])
/- 0 _law_script, 1 _law_start, 2 _law_size, 3 _law_most, 4 _law_rooms, 5 _law_rows, 6 _law_ends, 7 _law_room, 8 _law_cell -/
theorem cf__law_drawn (d : Nat) : cfOf p1 (d + 1) (.fn (nm "_law_drawn")) = runFn 4 9 (
  seqS [assignM (.var 4) (binM .Add (constM (.int 1)) (binM .Mod (appM (cfOf p1 d (.fn (nm "_law_cell_at"))) [varM 0, varM 1]) (varM 3))),
    assignM (.var 5) (listM []),
    assignM (.var 6) (listM []),
    forM (.var 7) ((appM fRange [varM 4]).bind toSrc) (bd__law_drawn_2 d),
    iteM (cmpM (binM .Mod (binM .FloorDiv (appM (cfOf p1 d (.fn (nm "_law_cell_at"))) [varM 0, varM 1]) (constM (.int 32))) (constM (.int 3))) [(.Eq, constM (.int 1))]) (seqS [assignM (.var 5) (compM 9 2 ((varM 5).bind enumV) (.tup [9, 10]) (andM []) (bd__law_drawn_3 d)),
      assignM (.var 6) (compM 9 1 ((appM fRange [varM 4]).bind toSrc) (.var 9) (andM []) (bd__law_drawn_4 d))]) (seqS []),
    retM (tupM [varM 5, varM 6])]) := rfl
noncomputable def st__law_text_1 (d : Nat) : M Flow := assignM (.var 3) (binM .Add (constM (.str [115, 105, 103, 110, 115, 32])) (varM 0))
noncomputable def bd__law_text_2 (d : Nat) : M Flow := seqS [assignM (.var 3) (binM .Add (binM .Add (varM 3) (constM (.str [32]))) (appM fStr [varM 5]))]
noncomputable def bd__law_text_3 (d : Nat) : M Flow := seqS [assignM (.var 3) (binM .Add (binM .Add (binM .Add (varM 3) (constM (.str [10]))) (appM fStr [varM 4])) (constM (.str [58]))),
  forM (.var 5) ((subM (varM 1) (varM 4)).bind toSrc) (bd__law_text_2 d),
  assignM (.var 3) (binM .Add (varM 3) (subM (listM [constM (.str [32, 101, 110, 100]), constM (.str [])]) (appM fInt [boolV (notM (evB (subM (varM 2) (varM 4))))])))]
noncomputable def st__law_text_2 (d : Nat) : M Flow := forM (.var 4) ((appM fRange [appM fLen [varM 1]]).bind toSrc) (bd__law_text_3 d)
noncomputable def st__law_text_3 (d : Nat) : M Flow := retM (varM 3)
/- 0 _law_signs_here, 1 _law_rows, 2 _law_ends, 3 _law_text_here, 4 _law_room, 5 _law_goal -/
theorem cf__law_text (d : Nat) : cfOf p1 (d + 1) (.fn (nm "_law_text")) = runFn 3 6 (
  seqS [st__law_text_1 d, st__law_text_2 d, st__law_text_3 d]) := rfl
noncomputable def bd__law_great_1 (d : Nat) : M V := binM .Mod (binM .FloorDiv (appM (cfOf p1 d (.fn (nm "_law_mixed"))) [varM 0, binM .Add (binM .Mult (constM (.int 3)) (varM 4)) (varM 5)]) (constM (.int 16))) (varM 2)
noncomputable def bd__law_great_2 (d : Nat) : M V := compM 5 1 ((appM fRange [varM 1]).bind toSrc) (.var 5) (andM []) (bd__law_great_1 d)
noncomputable def bd__law_great_3 (d : Nat) : M V := boolV (cmpM (binM .Mod (binM .FloorDiv (appM (cfOf p1 d (.fn (nm "_law_mixed"))) [varM 0, varM 4]) (constM (.int 64))) (constM (.int 2))) [(.Eq, constM (.int 1))])
/- 0 _law_cell, 1 _law_size, 2 _law_rooms, 3 _law_rows -/
theorem cf__law_great (d : Nat) : cfOf p1 (d + 1) (.fn (nm "_law_great")) = runFn 2 4 (
  seqS [assignM (.var 2) (binM .Add (constM (.int 11)) (binM .Mod (varM 0) (constM (.int 10)))),
    assignM (.var 3) (compM 4 1 ((appM fRange [varM 2]).bind toSrc) (.var 4) (andM []) (bd__law_great_2 d)),
    retM (tupM [varM 3, compM 4 1 ((appM fRange [varM 2]).bind toSrc) (.var 4) (andM []) (bd__law_great_3 d)])]) := rfl
noncomputable def st_law_1 (d : Nat) : M Flow := assignM (.var 1) (appM (cfOf p1 d (.fn (nm "_law_signs"))) [appM (cfOf p1 d (.fn (nm "_law_cell_at"))) [varM 0, constM (.int 0)]])
noncomputable def st_law_2 (d : Nat) : M Flow := assignM (.tup [2, 3]) (appM (cfOf p1 d (.fn (nm "_law_drawn"))) [varM 0, constM (.int 1), appM fLen [varM 1], constM (.int 8)])
noncomputable def st_law_3 (d : Nat) : M Flow := iteM (cmpM (binM .Mod (appM (cfOf p1 d (.fn (nm "_law_cell_at"))) [varM 0, constM (.int 10)]) (constM (.int 4))) [(.Eq, constM (.int 1))]) (seqS [assignM (.tup [2, 3]) (appM (cfOf p1 d (.fn (nm "_law_great"))) [binM .FloorDiv (appM (cfOf p1 d (.fn (nm "_law_cell_at"))) [varM 0, constM (.int 10)]) (constM (.int 4)), appM fLen [varM 1]])]) (seqS [])
noncomputable def st_law_4 (d : Nat) : M Flow := assignM (.var 4) (appM (newC (wdOf p1 (cfOf p1 d)) (nm "Machine")) [varM 1, varM 2, varM 3])
noncomputable def bd_law_5 (d : Nat) : M V := varM 9
noncomputable def bd_law_6 (d : Nat) : M Flow := seqS [iteM (cmpM (appM fLen [compM 9 1 ((varM 8).bind toSrc) (.var 9) (andM [notM (evB (appM (cfOf p1 d (.fn (nm "_law_whole"))) [varM 9]))]) (bd_law_5 d)]) [(.Gt, constM (.int 0))]) (seqS [retM (constM (.bool false))]) (seqS [])]
noncomputable def bd_law_7 (d : Nat) : M Flow := seqS [assignM (.var 6) (appM (cfOf p1 d (.fn (nm "written"))) [varM 4]),
  iteM (orM [notM (evB (appM fIsi [varM 6, constM (.type "str")])), cmpM (varM 6) [(.NotEq, appM (cfOf p1 d (.fn (nm "_law_text"))) [varM 1, varM 2, varM 3])]]) (seqS [retM (constM (.bool false))]) (seqS []),
  assignM (.var 7) (appM (cfOf p1 d (.fn (nm "read"))) [varM 6]),
  iteM (orM [notM (evB (appM fIsi [varM 7, constM (.own (nm "Machine"))])), cmpM (attrM (wdOf p1 (cfOf p1 d)) (varM 7) (nm "signs")) [(.NotEq, varM 1)], cmpM (methM (pickO (wdOf p1 (cfOf p1 d)) (nm "rows")) (varM 7) []) [(.NotEq, varM 2)], cmpM (methM (pickO (wdOf p1 (cfOf p1 d)) (nm "ends")) (varM 7) []) [(.NotEq, varM 3)]]) (seqS [retM (constM (.bool false))]) (seqS []),
  forM (.var 8) ((methM (pickO (wdOf p1 (cfOf p1 d)) (nm "rows")) (varM 7) []).bind toSrc) (bd_law_6 d)]
noncomputable def st_law_5 (d : Nat) : M Flow := forM (.var 5) ((appM fRange [constM (.int 2)]).bind toSrc) (bd_law_7 d)
noncomputable def st_law_6 (d : Nat) : M Flow := retM (constM (.bool true))
/- 0 _law_script, 1 _law_signs_here, 2 _law_rows, 3 _law_ends, 4 _law_machine, 5 _law_turn, 6 _law_text_here, 7 _law_found, 8 _law_row -/
theorem cf_law (d : Nat) : cfOf p1 (d + 1) (.fn (nm "law")) = runFn 1 9 (
  seqS [st_law_1 d, st_law_2 d, st_law_3 d, st_law_4 d, st_law_5 d, st_law_6 d]) := rfl
end Mine
set_option autoImplicit false
set_option linter.unusedVariables false
set_option linter.unusedSimpArgs false
set_option maxRecDepth 100000
namespace Mine
open PySem
noncomputable def mixed (c k : Int) : Int := ((c + 7919 * k + 3) * (c + 7919 * k + 3)) % 2147483647 * 48271 % 2147483647
theorem mixed_eq (d : Nat) (c k : Int) (st : St) (hc : heavy 1048577 c) (hk : 0 ≤ k ∧ k ≤ 1000) : cfOf p1 (d + 1) (.fn (nm "_law_mixed")) [.int c, .int k] st = .ok (.int (mixed c k)) st := by
  have e1 : mulG 7919 k := mulG_of (n := 31) (m := 31) (heavy_31 (by omega)) (heavy_31 (by omega)) (by decide)
  have h2 : heavy 1048578 (c + (7919 * k + 3)) := heavy_add hc (heavy_mono (heavy_31 (by omega)) (by decide))
  rw [← Int.add_assoc] at h2
  have e2 := mulG_of h2 h2 (by decide)
  have h3 : 0 ≤ (c + 7919 * k + 3) * (c + 7919 * k + 3) % 2147483647 ∧ (c + 7919 * k + 3) * (c + 7919 * k + 3) % 2147483647 < 2147483647 := ⟨Int.emod_nonneg _ (by decide), Int.emod_lt_of_pos _ (by decide)⟩
  have e3 : mulG ((c + 7919 * k + 3) * (c + 7919 * k + 3) % 2147483647) 48271 := mulG_of (n := 31) (m := 31) (heavy_31 (by omega)) (heavy_31 (by decide)) (by decide)
  rw [cf__law_mixed]
  obtain ⟨vars, obs⟩ := st
  simp [e1, e2, e3, mixed]
theorem cell_eq (d : Nat) (xs : List Int) (k : Nat) (st : St) (hx : xs.length ≤ 63) (hk : k ≤ 1000) : cfOf p1 (d + 1) (.fn (nm "_law_cell_at")) [.flist (xs.map .int), .int k] st = .ok (.int (xs.getD k 0)) st := by
  rw [cf__law_cell_at]
  obtain ⟨vars, obs⟩ := st
  have hl : xs.length ≤ 1000 := by omega
  by_cases h : k < xs.length
  · have h1 : (k : Int) < xs.length := by omega
    have hi : idxL (xs.map V.int) (k : Int) = some (.int xs[k]) := by
      unfold idxL big
      rw [if_pos (by omega), if_pos (by omega)]
      simp [h]
    simp [hl, h1, hi, h]
  · have h1 : ¬ (k : Int) < xs.length := by omega
    simp [hl, h1, h]
theorem whole_eq (d : Nat) (i : Int) (st : St) : cfOf p1 (d + 1) (.fn (nm "_law_whole")) [.int i] st = .ok (.bool true) st := by
  rw [cf__law_whole]
  obtain ⟨vars, obs⟩ := st
  simp
theorem is_signs_eq (d : Nat) {s : List Nat} (h : SignsP s) (st : St) : cfOf p1 (d + 1) (.fn (nm "is_signs")) [.str s] st = .ok (.bool true) st := by
  rw [cf_is_signs]
  obtain ⟨vars, obs⟩ := st
  have h1 := h.one
  have h3 := h.three
  have hl : s.length ≤ 1000 := by omega
  have e1 : (1 : Int) ≤ s.length := by omega
  have e3 : (s.length : Int) ≤ 3 := by omega
  have key := forItems_ok (t := .var 1) (body := bd_is_signs_1 d) (c := [])
    (fun l st => (∀ v ∈ l, v ∈ charsOf s) ∧ ∃ z, st = ⟨[some (.str s), z], obs⟩) (fun _ _ _ => .nil _) (fun x l st hI => by
      obtain ⟨hx, z, rfl⟩ := hI
      have hx' := hx x (by simp)
      unfold charsOf at hx'
      obtain ⟨c, hc, rfl⟩ := List.mem_map.mp hx'
      refine ⟨⟨[some (.str s), some (.str [c])], obs⟩, ?_, fun v hv => hx v (by simp [hv]), _, rfl⟩
      have hin := in_letters (h.az c hc)
      have hcnt : ¬ (((occ s [c] (s.length + 1)).length : Int) > 1) := by have := occ_once (c := c) (n := s.length + 1) h.nd; omega
      have hcnt' : ¬ (1 : Int) < ((occ s [c] (s.length + 1)).length : Int) := hcnt
      have em : mCount [.str s, .str [c]] = M.pure (.int (occ s [c] (s.length + 1)).length) := rfl
      unfold letters at hin
      simp [bd_is_signs_1, hin, em, hcnt']) (charsOf s) ⟨[some (.str s), none], obs⟩ ⟨fun _ q => q, none, rfl⟩
  obtain ⟨st1, k1, _, z, rfl⟩ := key
  simp [hl, e1, e3, k1]
theorem is_room_eq (d : Nat) {r : Int} {n : Nat} (h : 0 ≤ r ∧ r < n) (st : St) : cfOf p1 (d + 1) (.fn (nm "is_room")) [.int r, .int n] st = .ok (.bool true) st := by
  rw [cf_is_room]
  obtain ⟨vars, obs⟩ := st
  simp [h.1, h.2]
theorem is_row_eq (d : Nat) {r : List Int} {s : List Nat} {a n : Nat} {vars : List (Option V)} {obs : List Ob} (ha : obs[a]? = some (.list (r.map .int))) (hl : r.length = s.length) (hs : s.length ≤ 3) (h : ∀ i ∈ r, 0 ≤ i ∧ i < n) :
    cfOf p1 (d + 2) (.fn (nm "is_row")) [.ref a, .str s, .int n] ⟨vars, obs⟩ = .ok (.bool true) ⟨vars, obs⟩ := by
  rw [cf_is_row]
  have hl' : s.length ≤ 1000 := by omega
  have key := forItems_ok (t := .var 3) (body := bd_is_row_1 (d + 1)) (c := [(a, .list (r.map .int))])
    (fun l st => (∀ v ∈ l, v ∈ r.map V.int) ∧ ∃ z, st = ⟨[some (.ref a), some (.str s), some (.int n), z], obs⟩) (fun _ _ hI => by obtain ⟨_, z, rfl⟩ := hI; exact .one ha) (fun x l st hI => by
      obtain ⟨hx, z, rfl⟩ := hI
      obtain ⟨i, hi, rfl⟩ := List.mem_map.mp (hx x (by simp))
      refine ⟨⟨[some (.ref a), some (.str s), some (.int n), some (.int i)], obs⟩, ?_, fun v hv => hx v (by simp [hv]), _, rfl⟩
      simp [bd_is_row_1, is_room_eq d (h i hi)]) (r.map .int) ⟨[some (.ref a), some (.str s), some (.int n), none], obs⟩ ⟨fun _ q => q, none, rfl⟩
  obtain ⟨st1, k1, _, z, rfl⟩ := key
  simp [k1, kind_list ha, ha, hl, hl']
theorem makes_eq (d : Nat) {s : List Nat} {rows : List (List Int)} {ends : List Bool} {r e lo hi : Nat} {vars : List (Option V)} {obs : List Ob} (hs : SignsP s) (hr : Rows obs lo hi r rows) (he : obs[e]? = some (.list (ends.map .bool)))
    (hn : 1 ≤ rows.length) (hn8 : rows.length ≤ 20) (hle : ends.length = rows.length) (hrow : ∀ w ∈ rows, w.length = s.length ∧ ∀ i ∈ w, 0 ≤ i ∧ i < (rows.length : Int)) :
    cfOf p1 (d + 3) (.fn (nm "makes_machine")) [.str s, .ref r, .ref e] ⟨vars, obs⟩ = .ok (.bool true) ⟨vars, obs⟩ := by
  rw [cf_makes_machine]
  obtain ⟨as, h1, h2⟩ := hr.has
  have hal := h2.len
  have e1 : as.length ≤ 1000 := by omega
  have e2 : ends.length ≤ 1000 := by omega
  have e3 : (1 : Int) ≤ as.length := by omega
  have e4 : (as.length : Int) ≤ 20 := by omega
  have e5 : (ends.length : Int) = as.length := by omega
  have e6 : (rows.length : Int) = as.length := by omega
  rw [e6] at hrow
  have key := forItems_ok (t := .var 3) (body := bd_makes_machine_1 (d + 2)) (c := [(r, .list (as.map .ref))])
    (fun l st => (∃ bs ws, l = bs.map V.ref ∧ RowsAt obs lo hi bs ws ∧ ∀ w ∈ ws, w ∈ rows) ∧ ∃ z, st = ⟨[some (.str s), some (.ref r), some (.ref e), z, none], obs⟩) (fun _ _ hI => by obtain ⟨_, z, rfl⟩ := hI; exact .one h1) (fun x l st hI => by
      obtain ⟨⟨bs, ws, hb, hw, hm⟩, z, rfl⟩ := hI
      cases bs with
      | nil => cases hb
      | cons b bs =>
        cases ws with
        | nil => exact hw.elim
        | cons w ws =>
          cases hb
          refine ⟨⟨[some (.str s), some (.ref r), some (.ref e), some (.ref b), none], obs⟩, ?_, ⟨bs, ws, rfl, hw.2, fun w' h' => hm w' (by simp [h'])⟩, _, rfl⟩
          obtain ⟨q1, q2⟩ := hrow w (hm w (by simp))
          have := is_row_eq d (vars := [some (.str s), some (.ref r), some (.ref e), some (.ref b), none]) hw.1.2.2 q1 hs.three q2
          simp [bd_makes_machine_1, h1, e1, this]) (as.map .ref) ⟨[some (.str s), some (.ref r), some (.ref e), none, none], obs⟩ ⟨⟨as, rows, rfl, h2, fun _ q => q⟩, none, rfl⟩
  obtain ⟨st1, k1, _, z, rfl⟩ := key
  have key2 := forItems_ok (t := .var 4) (body := bd_makes_machine_2 (d + 2)) (c := [(e, .list (ends.map .bool))])
    (fun l st => (∀ v ∈ l, v ∈ ends.map V.bool) ∧ ∃ y, st = ⟨[some (.str s), some (.ref r), some (.ref e), z, y], obs⟩) (fun _ _ hI => by obtain ⟨_, z, rfl⟩ := hI; exact .one he) (fun x l st hI => by
      obtain ⟨hx, y, rfl⟩ := hI
      obtain ⟨i, hi, rfl⟩ := List.mem_map.mp (hx x (by simp))
      refine ⟨⟨[some (.str s), some (.ref r), some (.ref e), z, some (.bool i)], obs⟩, ?_, fun v hv => hx v (by simp [hv]), _, rfl⟩
      simp [bd_makes_machine_2]) (ends.map .bool) ⟨[some (.str s), some (.ref r), some (.ref e), z, none], obs⟩ ⟨fun _ q => q, none, rfl⟩
  obtain ⟨st2, k2, _, y, rfl⟩ := key2
  simp [k1, k2, kind_list h1, kind_list he, h1, he, e1, e2, e3, e4, e5, is_signs_eq (d + 1) hs]
end Mine
set_option autoImplicit false
set_option linter.unusedVariables false
set_option linter.unusedSimpArgs false
set_option maxRecDepth 100000
namespace Mine
open PySem
theorem fld1_signs : fldOf p1 (nm "Machine") (nm "signs") = true := by decide +kernel
theorem fld1_ways : fldOf p1 (nm "Machine") (nm "ways") = true := by decide +kernel
theorem fld1_finals : fldOf p1 (nm "Machine") (nm "finals") = true := by decide +kernel
theorem has1_goes : hasOf p1 (nm "Machine") (nm "goes") = true := by decide +kernel
theorem has1_takes : hasOf p1 (nm "Machine") (nm "takes") = true := by decide +kernel
theorem has1_many : hasOf p1 (nm "Machine") (nm "many") = true := by decide +kernel
theorem has1_rows : hasOf p1 (nm "Machine") (nm "rows") = true := by decide +kernel
theorem has1_ends : hasOf p1 (nm "Machine") (nm "ends") = true := by decide +kernel
noncomputable def fs1 (s : List Nat) (wr fr : Nat) : List (Str × V) := [(nm "signs", .str s), (nm "ways", .ref wr), (nm "finals", .ref fr)]
theorem look_signs (s : List Nat) (wr fr : Nat) : (fs1 s wr fr).lookup (nm "signs") = some (.str s) := rfl
theorem look_ways (s : List Nat) (wr fr : Nat) : (fs1 s wr fr).lookup (nm "ways") = some (.ref wr) := rfl
theorem look_finals (s : List Nat) (wr fr : Nat) : (fs1 s wr fr).lookup (nm "finals") = some (.ref fr) := rfl
/- the methods of a machine, as a text sees them -/
structure Sees (d : Nat) (obs : List Ob) (m : Nat) (s : List Nat) (wr fr : Nat) : Prop where
  signs : ∀ vars, attrV (wdOf p1 (cfOf p1 d)) (nm "signs") (.ref m) ⟨vars, obs⟩ = .ok (.str s) ⟨vars, obs⟩
  ways : ∀ vars, attrV (wdOf p1 (cfOf p1 d)) (nm "ways") (.ref m) ⟨vars, obs⟩ = .ok (.ref wr) ⟨vars, obs⟩
  finals : ∀ vars, attrV (wdOf p1 (cfOf p1 d)) (nm "finals") (.ref m) ⟨vars, obs⟩ = .ok (.ref fr) ⟨vars, obs⟩
  goes : ∀ vars, pickO (wdOf p1 (cfOf p1 d)) (nm "goes") (.ref m) ⟨vars, obs⟩ = .ok (cfOf p1 d (.meth (nm "Machine") (nm "goes"))) ⟨vars, obs⟩
  takes : ∀ vars, pickO (wdOf p1 (cfOf p1 d)) (nm "takes") (.ref m) ⟨vars, obs⟩ = .ok (cfOf p1 d (.meth (nm "Machine") (nm "takes"))) ⟨vars, obs⟩
  many : ∀ vars, pickO (wdOf p1 (cfOf p1 d)) (nm "many") (.ref m) ⟨vars, obs⟩ = .ok (cfOf p1 d (.meth (nm "Machine") (nm "many"))) ⟨vars, obs⟩
  rows : ∀ vars, pickO (wdOf p1 (cfOf p1 d)) (nm "rows") (.ref m) ⟨vars, obs⟩ = .ok (cfOf p1 d (.meth (nm "Machine") (nm "rows"))) ⟨vars, obs⟩
  ends : ∀ vars, pickO (wdOf p1 (cfOf p1 d)) (nm "ends") (.ref m) ⟨vars, obs⟩ = .ok (cfOf p1 d (.meth (nm "Machine") (nm "ends"))) ⟨vars, obs⟩
theorem Mach.sees {obs : List Ob} {lo hi m : Nat} {s : List Nat} {rows : List (List Int)} {ends : List Bool} (x : Mach obs lo hi m s rows ends) : ∃ wr fr, Rows obs lo hi wr rows ∧ obs[fr]? = some (.list (ends.map .bool)) ∧ ∀ d, Sees d obs m s wr fr := by
  obtain ⟨dn, wr, fr, h1, h2, h3, h4, h5, h6⟩ := x.has
  refine ⟨wr, fr, h5, h6, fun d => ⟨fun _ => ev_attr h3 h4 fld1_signs rfl, fun _ => ev_attr h3 h4 fld1_ways rfl, fun _ => ev_attr h3 h4 fld1_finals rfl, fun _ => ev_pickO h3 h4 has1_goes rfl, fun _ => ev_pickO h3 h4 has1_takes rfl, fun _ => ev_pickO h3 h4 has1_many rfl, fun _ => ev_pickO h3 h4 has1_rows rfl, fun _ => ev_pickO h3 h4 has1_ends rfl⟩⟩
/- which rooms there are -/
structure Good (s : List Nat) (rows : List (List Int)) (ends : List Bool) : Prop where
  signs : SignsP s
  one : 1 ≤ rows.length
  most : rows.length ≤ 20
  ends : ends.length = rows.length
  row : ∀ w ∈ rows, w.length = s.length ∧ ∀ i ∈ w, 0 ≤ i ∧ i < (rows.length : Int)
end Mine
set_option autoImplicit false
set_option linter.unusedVariables false
set_option linter.unusedSimpArgs false
set_option maxRecDepth 100000
namespace Mine
open PySem
section
variable {obs : List Ob} {lo hi m : Nat} {s : List Nat} {rows : List (List Int)} {ends : List Bool}
theorem Good.wl (G : Good s rows ends) : ∀ w ∈ rows, w.length ≤ 1000 := fun w hw => by have := (G.row w hw).1; have := G.signs.three; omega
theorem many_eq (d : Nat) (x : Mach obs lo hi m s rows ends) (G : Good s rows ends) (vars : List (Option V)) : cfOf p1 (d + 1) (.meth (nm "Machine") (nm "many")) [.ref m] ⟨vars, obs⟩ = .ok (.int rows.length) ⟨vars, obs⟩ := by
  rw [cf_Machine_many]
  obtain ⟨wr, fr, hR, hF, hs⟩ := x.sees
  obtain ⟨as, h1, h2⟩ := hR.has
  have h3 := h2.len
  have h4 := G.most
  have h5 : rows.length ≤ 1000 := by omega
  simp [(hs d).ways, h1, h3, h5]
theorem rows_eq (d : Nat) (x : Mach obs lo hi m s rows ends) (G : Good s rows ends) (vars : List (Option V)) : cfOf p1 (d + 1) (.meth (nm "Machine") (nm "rows")) [.ref m] ⟨vars, obs⟩ = .ok (.ref (obs.length + rows.length)) ⟨vars, obs ++ cpy obs.length rows⟩ := by
  rw [cf_Machine_rows]
  obtain ⟨wr, fr, hR, hF, hs⟩ := x.sees
  obtain ⟨as, h1, h2⟩ := hR.has
  have h4 := G.most
  have := copy_rows (b := 1) (vars := [some (.ref m)]) (src := (attrM (wdOf p1 (cfOf p1 d)) (varM 0) (nm "ways")).bind toSrc) (obs := obs) rfl (by simp [(hs d).ways, h1]) h1 h2 (by omega) G.wl (elt := bd_Machine_rows_1 d) rfl
  simp [this]
theorem ends_eq (d : Nat) (x : Mach obs lo hi m s rows ends) (G : Good s rows ends) (vars : List (Option V)) : cfOf p1 (d + 1) (.meth (nm "Machine") (nm "ends")) [.ref m] ⟨vars, obs⟩ = .ok (.ref obs.length) ⟨vars, obs ++ [.list (ends.map .bool)]⟩ := by
  rw [cf_Machine_ends]
  obtain ⟨wr, fr, hR, hF, hs⟩ := x.sees
  have h4 := G.most
  have h3 := G.ends
  have h5 : ends.length ≤ 1000 := by omega
  simp [(hs d).finals, hF, h5]
end
/- a machine is made -/
theorem init_eq (d : Nat) {s : List Nat} {rows : List (List Int)} {ends : List Bool} (G : Good s rows ends) {obs : List Ob} {lo hi r e : Nat} (hR : Rows obs lo hi r rows) (hhi : hi ≤ obs.length) (hE : obs[e]? = some (.list (ends.map .bool))) (vars : List (Option V)) :
    ∃ obs', newC (wdOf p1 (cfOf p1 (d + 4))) (nm "Machine") [.str s, .ref r, .ref e] ⟨vars, obs⟩ = .ok (.ref (obs.length + 1)) ⟨vars, obs'⟩ ∧ Gr obs obs' ∧ Mach obs' obs.length obs'.length (obs.length + 1) s rows ends := by
  obtain ⟨as, h1, h2⟩ := hR.has
  have hm := G.most
  have hel : e < obs.length := (List.getElem?_eq_some_iff.mp hE).1
  have hrl : r < obs.length := Nat.lt_of_lt_of_le hR.lt hhi
  have he1000 : ends.length ≤ 1000 := by have := G.ends; omega
  -- the start
  generalize ho1 : obs ++ [Ob.ns [], Ob.inst (nm "Machine") obs.length] = o1
  have l1 : o1.length = obs.length + 2 := by rw [← ho1]; simp
  have g1 : Gr obs o1 := ⟨_, ho1.symm⟩
  have i1 : o1[obs.length + 1]? = some (.inst (nm "Machine") obs.length) := by rw [← ho1, List.getElem?_append_right (by omega)]; simp
  have n1 : o1[obs.length]? = some (.ns []) := by rw [← ho1, List.getElem?_append_right (by omega)]; simp
  have mk := fun vars => makes_eq d (vars := vars) (obs := o1) G.signs (hR.same (g1.same hhi)) (g1.get hE) G.one G.most G.ends G.row
  -- signs
  generalize ho2 : o1.set obs.length (.ns [(nm "signs", .str s)]) = o2
  have l2 : o2.length = obs.length + 2 := by rw [← ho2]; simp [l1]
  have s2 : Same 0 obs.length o1 o2 := by rw [← ho2]; exact .set (.inr (Nat.le_refl _))
  have i2 : o2[obs.length + 1]? = some (.inst (nm "Machine") obs.length) := by rw [← ho2, List.getElem?_set_ne (by omega)]; exact i1
  have n2 : o2[obs.length]? = some (.ns [(nm "signs", .str s)]) := by rw [← ho2, List.getElem?_set]; simp [l1]
  have r2 : o2[r]? = some (.list (as.map .ref)) := s2.get (Nat.zero_le _) hrl (g1.get h1)
  have e2 : o2[e]? = some (.list (ends.map .bool)) := s2.get (Nat.zero_le _) hel (g1.get hE)
  have R2 : RowsAt o2 0 obs.length as rows := (((h2.wide (Nat.zero_le _) hhi).same (g1.same (Nat.le_refl _)))).same s2
  -- ways
  have cp := copy_rows (b := 4) (vars := [some (.ref (obs.length + 1)), some (.str s), some (.ref r), some (.ref e)]) (src := (varM 2).bind toSrc) (obs := o2) rfl (by simp [r2]) r2 R2 (by omega) G.wl (elt := bd_Machine___init___1 (d + 3)) rfl
  generalize ho3 : o2 ++ cpy o2.length rows = o3
  rw [ho3] at cp
  have g3 : Gr o2 o3 := ⟨_, ho3.symm⟩
  have w3 : Rows o3 o2.length (o2.length + rows.length + 1) (o2.length + rows.length) rows := by have := cpy_rows o2 rows []; rw [List.append_nil, ho3] at this; exact this
  have l3 : o3.length = o2.length + rows.length + 1 := by rw [← ho3]; simp [cpy_len]; omega
  generalize ho4 : o3.set obs.length (.ns [(nm "signs", .str s), (nm "ways", .ref (o2.length + rows.length))]) = o4
  have l4 : o4.length = o3.length := by rw [← ho4]; simp
  have s4 : Same (obs.length + 1) o3.length o3 o4 := by rw [← ho4]; exact .set (.inl (Nat.lt_succ_self _))
  have i4 : o4[obs.length + 1]? = some (.inst (nm "Machine") obs.length) := by rw [← ho4, List.getElem?_set_ne (by omega)]; exact g3.get i2
  have n4 : o4[obs.length]? = some (.ns [(nm "signs", .str s), (nm "ways", .ref (o2.length + rows.length))]) := by rw [← ho4, List.getElem?_set]; simp; omega
  have e4 : o4[e]? = some (.list (ends.map .bool)) := by rw [← ho4, List.getElem?_set_ne (by omega)]; exact g3.get e2
  -- finals
  generalize ho5 : o4 ++ [Ob.list (ends.map .bool)] = o5
  have l5 : o5.length = o4.length + 1 := by rw [← ho5]; simp
  have g5 : Gr o4 o5 := ⟨_, ho5.symm⟩
  generalize ho6 : o5.set obs.length (.ns [(nm "signs", .str s), (nm "ways", .ref (o2.length + rows.length)), (nm "finals", .ref o4.length)]) = o6
  have l6 : o6.length = o5.length := by rw [← ho6]; simp
  have i6 : o6[obs.length + 1]? = some (.inst (nm "Machine") obs.length) := by rw [← ho6, List.getElem?_set_ne (by omega)]; exact g5.get i4
  have n6 : o6[obs.length]? = some (.ns [(nm "signs", .str s), (nm "ways", .ref (o2.length + rows.length)), (nm "finals", .ref o4.length)]) := by rw [← ho6, List.getElem?_set]; simp; omega
  have f6 : o6[o4.length]? = some (.list (ends.map .bool)) := by rw [← ho6, List.getElem?_set_ne (by omega), ← ho5, List.getElem?_append_right (Nat.le_refl _)]; simp
  have w6 : Rows o6 o2.length (o2.length + rows.length + 1) (o2.length + rows.length) rows := by
    refine ((w3.same fun a h1 h2 => s4 a (by omega) (by omega)).same (g5.same (by omega))).same ?_
    rw [← ho6]
    exact .set (.inl (by omega))
  have a1 : ∀ vars, setAttrV (wdOf p1 (cfOf p1 (d + 3))) (.ref (obs.length + 1)) (nm "signs") (.str s) ⟨vars, o1⟩ = .ok () ⟨vars, o2⟩ := fun vars => by rw [ev_setattr i1 n1 fld1_signs (by decide), ← ho2]; rfl
  have a2 : ∀ vars, setAttrV (wdOf p1 (cfOf p1 (d + 3))) (.ref (obs.length + 1)) (nm "ways") (.ref (o2.length + rows.length)) ⟨vars, o3⟩ = .ok () ⟨vars, o4⟩ := fun vars => by rw [ev_setattr (g3.get i2) (g3.get n2) fld1_ways (by decide : 1 ≤ 100), ← ho4]; rfl
  have a3 : ∀ vars, setAttrV (wdOf p1 (cfOf p1 (d + 3))) (.ref (obs.length + 1)) (nm "finals") (.ref o4.length) ⟨vars, o5⟩ = .ok () ⟨vars, o6⟩ := fun vars => by rw [ev_setattr (g5.get i4) (g5.get n4) fld1_finals (by decide : 2 ≤ 100), ← ho6]; rfl
  have hin : cfOf p1 (d + 4) (.meth (nm "Machine") (nm "__init__")) [.ref (obs.length + 1), .str s, .ref r, .ref e] ⟨vars, o1⟩ = .ok .none ⟨vars, o6⟩ := by
    rw [cf_Machine___init__]
    simp [mk, a1, a2, a3, cp, e4, he1000, ho5]
  refine ⟨o6, ?_, ?_, ⟨Nat.le_succ _, by omega, obs.length, o2.length + rows.length, o4.length, by omega, by omega, i6, n6, w6.wide (by omega) (by omega), f6⟩⟩
  · unfold newC
    have e1 : obs ++ [Ob.ns []] ++ [Ob.inst (nm "Machine") obs.length] = o1 := by rw [← ho1]; simp
    have e2 : (wdOf p1 (cfOf p1 (d + 4))).cf = cfOf p1 (d + 4) := rfl
    simp [e1, e2, hin]
  · have t1 : ∀ i, i < obs.length → o6[i]? = obs[i]? := fun i hi => by
      rw [← ho6, List.getElem?_set_ne (by omega), ← ho5, List.getElem?_append_left (by omega), ← ho4, List.getElem?_set_ne (by omega), ← ho3, List.getElem?_append_left (by omega), ← ho2, List.getElem?_set_ne (by omega), ← ho1, List.getElem?_append_left hi]
    refine ⟨o6.drop obs.length, ?_⟩
    have : o6.take obs.length = obs := by
      apply List.ext_getElem?
      intro i
      rw [List.getElem?_take]
      split
      · exact t1 i ‹_›
      · rw [List.getElem?_eq_none (by omega)]
    calc o6 = o6.take obs.length ++ o6.drop obs.length := (List.take_append_drop _ _).symm
      _ = _ := by rw [this]
end Mine
set_option autoImplicit false
set_option linter.unusedVariables false
set_option linter.unusedSimpArgs false
set_option maxRecDepth 100000
namespace Mine
open PySem
theorem mem_range {lo hi : Int} {v : V} (h : v ∈ (rangeL lo hi).map V.int) : ∃ k : Nat, v = .int (lo + k) ∧ lo + k < hi := by
  unfold rangeL at h
  simp only [List.map_map, List.mem_map, List.mem_range, Function.comp_apply] at h
  obtain ⟨k, hk, rfl⟩ := h
  exact ⟨k, rfl, by omega⟩
theorem range_len {hi : Int} : ((rangeL 0 hi).map V.int).length = hi.toNat := by
  unfold rangeL; simp
theorem range_map (hi : Int) (g : V → V) : ((rangeL 0 hi).map V.int).map g = (List.range hi.toNat).map fun (k : Nat) => g (.int k) := by
  unfold rangeL
  simp only [List.map_map, Int.sub_zero]
  apply List.map_congr_left
  intro k _
  simp
theorem small_small {hi : Int} (h1 : -1000 ≤ hi) (h2 : hi ≤ 1000) : smallR 0 hi = true := by
  unfold smallR
  simp only [Bool.and_eq_true, decide_eq_true_eq]
  omega
theorem idx_letters {m : Int} (h : 0 ≤ m ∧ m < 26) : idxL letters m = some (97 + m.toNat) := by
  have := letters_all ⟨m.toNat, by omega⟩
  have e : idxL letters ((m.toNat : Nat) : Int) = some (97 + m.toNat) := idx_nat this (by decide)
  rw [Int.toNat_of_nonneg h.1] at e
  exact e
noncomputable def signAt (c step : Int) (k : Nat) : Nat := 97 + ((c / 3 + step * k) % 26).toNat
noncomputable def signG (c step : Int) : V → V
  | .int k => .str [97 + ((c / 3 + step * k) % 26).toNat]
  | _ => .none
theorem signs_ok (d : Nat) (c : Int) (vars : List (Option V)) (obs : List Ob) : ∃ s obs', cfOf p1 (d + 1) (.fn (nm "_law_signs")) [.int c] ⟨vars, obs⟩ = .ok (.str s) ⟨vars, obs'⟩ ∧ Gr obs obs' ∧ SignsP s := by
  rw [cf__law_signs]
  have hstep : ∃ step : Int, idxL [V.int 1, V.int 3, V.int 5, V.int 7, V.int 9, V.int 11] (c / 78 % 6) = some (.int step) ∧ (step = 1 ∨ step = 3 ∨ step = 5 ∨ step = 7 ∨ step = 9 ∨ step = 11) := by
    have : c / 78 % 6 = 0 ∨ c / 78 % 6 = 1 ∨ c / 78 % 6 = 2 ∨ c / 78 % 6 = 3 ∨ c / 78 % 6 = 4 ∨ c / 78 % 6 = 5 := by omega
    rcases this with e | e | e | e | e | e <;> rw [e]
    · exact ⟨1, rfl, by simp⟩
    · exact ⟨3, rfl, by simp⟩
    · exact ⟨5, rfl, by simp⟩
    · exact ⟨7, rfl, by simp⟩
    · exact ⟨9, rfl, by simp⟩
    · exact ⟨11, rfl, by simp⟩
  obtain ⟨step, h1, h2⟩ := hstep
  generalize ho : obs ++ [Ob.list [V.int 1, V.int 3, V.int 5, V.int 7, V.int 9, V.int 11]] = o
  have ho1 : o[obs.length]? = some (.list [V.int 1, V.int 3, V.int 5, V.int 7, V.int 9, V.int 11]) := by rw [← ho, List.getElem?_append_right (Nat.le_refl _)]; simp
  have r1 : -1000000 ≤ 1 + c % 3 ∧ 1 + c % 3 ≤ 1000000 := by omega
  have r2 : smallR 0 (1 + c % 3) = true := small_small (by omega) (by omega)
  have hc := comp1_pure (b := 3) (vars := [some (.int c), some (.str letters), some (.int step)]) (obs := o) (obs0 := o) (src := (appM fRange [binM .Add (constM (.int 1)) (binM .Mod (varM 0) (constM (.int 3)))]).bind toSrc) (elt := bd__law_signs_1 d) (c := []) rfl
    (items := (rangeL 0 (1 + c % 3)).map .int) (by simp [r1, r2]) (by rw [range_len]; omega) (.nil _) (signG c step) (fun x hx => by
      obtain ⟨k, rfl, hk⟩ := mem_range hx
      have hm : mulG step (0 + (k : Int)) := mulG_of (n := 31) (m := 31) (heavy_31 (by omega)) (heavy_31 (by omega)) (by decide)
      rw [Int.zero_add] at hm ⊢
      have hi := idx_letters (m := (c / 3 + step * k) % 26) (by omega)
      simp [bd__law_signs_1, hm, hi, signG])
  rw [range_map] at hc
  have hs : (List.range (1 + c % 3).toNat).map (fun (k : Nat) => signG c step (.int k)) = ((List.range (1 + c % 3).toNat).map (signAt c step)).map fun c => V.str [c] := by
    simp only [List.map_map]; rfl
  rw [hs] at hc
  have hj := fun vars => ev_join (a := o.length) (vars := vars) (obs := o ++ [Ob.list (((List.range (1 + c % 3).toNat).map (signAt c step)).map fun c => V.str [c])]) (s := (List.range (1 + c % 3).toNat).map (signAt c step)) (by rw [List.getElem?_append_right (Nat.le_refl _)]; simp) (by simp; omega)
  refine ⟨(List.range (1 + c % 3).toNat).map (signAt c step), o ++ [Ob.list (((List.range (1 + c % 3).toNat).map (signAt c step)).map fun c => V.str [c])], ?_, ?_, ?_⟩
  · unfold letters at hc
    simp [ho, ho1, h1, hc, hj, -List.map_map]
  · exact Gr.trans ⟨_, ho.symm⟩ (.add _ _)
  · have hn : c % 3 = 0 ∨ c % 3 = 1 ∨ c % 3 = 2 := by omega
    have lst : ∃ a b e : Nat, (97 ≤ a ∧ a ≤ 122) ∧ (97 ≤ b ∧ b ≤ 122) ∧ (97 ≤ e ∧ e ≤ 122) ∧ a ≠ b ∧ a ≠ e ∧ b ≠ e ∧ ((List.range (1 + c % 3).toNat).map (signAt c step) = [a] ∨ (List.range (1 + c % 3).toNat).map (signAt c step) = [a, b] ∨ (List.range (1 + c % 3).toNat).map (signAt c step) = [a, b, e]) := by
      refine ⟨signAt c step 0, signAt c step 1, signAt c step 2, ?_, ?_, ?_, ?_, ?_, ?_, ?_⟩
      · unfold signAt; omega
      · unfold signAt; omega
      · unfold signAt; omega
      · unfold signAt; rcases h2 with rfl | rfl | rfl | rfl | rfl | rfl <;> omega
      · unfold signAt; rcases h2 with rfl | rfl | rfl | rfl | rfl | rfl <;> omega
      · unfold signAt; rcases h2 with rfl | rfl | rfl | rfl | rfl | rfl <;> omega
      · rcases hn with e | e | e <;> rw [e]
        · left; rfl
        · right; left; rfl
        · right; right; rfl
    obtain ⟨a, b, e, ha, hb, he, hab, hae, hbe, h | h | h⟩ := lst <;> rw [h]
    · exact ⟨by simp, by simp, by simpa using ha, by simp⟩
    · exact ⟨by simp, by simp, by simp; omega, by simp [hab]⟩
    · exact ⟨by simp, by simp, by simp; omega, by simp [hab, hae, hbe]⟩
end Mine
set_option autoImplicit false
set_option linter.unusedVariables false
set_option linter.unusedSimpArgs false
set_option maxRecDepth 100000
namespace Mine
open PySem
theorem comp2 {b : Nat} {src : M Src} {elt : M V} {vars : List (Option V)} {obs obs0 : List Ob} {items : List V} {c : List (Nat × Ob)} (hb : vars.length = b) (hs : src ⟨vars, obs⟩ = .ok ⟨items, c⟩ ⟨vars, obs0⟩) (hl : items.length ≤ 1000)
    (I : List V → List V → List Ob → Prop) (h0 : I items [] obs0) (hc : ∀ l acc obs, I l acc obs → ChkP c obs)
    (hstep : ∀ x l acc obs, I (x :: l) acc obs → ∃ y z v obs', x = .tuple [y, z] ∧ elt ⟨vars ++ [some y, some z], obs⟩ = .ok v ⟨vars ++ [some y, some z], obs'⟩ ∧ I l (acc ++ [v]) obs') :
    ∃ vs obs', I [] vs obs' ∧ compM b 2 src (.tup [b, b + 1]) (andM []) elt ⟨vars, obs⟩ = .ok (.ref obs'.length) ⟨vars, obs' ++ [.list vs]⟩ := by
  subst hb
  have key := compItems_ok (t := .tup [vars.length, vars.length + 1]) (elt := elt) (c := c) (fun l acc st => (∃ z w, st.vars = vars ++ [z, w]) ∧ I l acc st.obs) (fun l acc st h => hc l acc _ h.2) (fun x l acc st h => by
    obtain ⟨vs', obs'⟩ := st
    obtain ⟨⟨z, w, hz⟩, hi⟩ := h
    dsimp only at hz hi
    subst hz
    obtain ⟨y, u, v, o', rfl, h1, h2⟩ := hstep x l acc obs' hi
    refine ⟨v, ⟨vars ++ [some y, some u], o'⟩, ?_, ⟨_, _, rfl⟩, h2⟩
    rw [ev_bind, ev_asg_tup, ev_setVars_cons, ev_bind, ev_setVar, if_pos (by simp), Out.bind_ok, ev_setVars_cons, ev_bind, ev_setVar, if_pos (by simp), Out.bind_ok, ev_setVars_nil, ev_pure, Out.bind_ok]
    have : ((vars ++ [z, w]).set vars.length (some y)).set (vars.length + 1) (some u) = vars ++ [some y, some u] := by simp
    rw [this]; exact h1) items [] ⟨vars ++ [none, none], obs0⟩ ⟨⟨none, none, rfl⟩, h0⟩
  obtain ⟨vs, ⟨vv, o'⟩, h1, _, h3⟩ := key
  refine ⟨vs, o', by simpa using h3, ?_⟩
  unfold compM
  rw [ev_bind, hs, Out.bind_ok, if_pos (le_lim hl), ev_bind]
  have : innerM vars.length 2 (compItems (.tup [vars.length, vars.length + 1]) (andM []) elt c items) ⟨vars, obs0⟩ = .ok vs ⟨vars, o'⟩ := by
    unfold innerM
    have e : ({ vars := List.take vars.length vars ++ List.replicate 2 none, obs := obs0 } : St) = ⟨vars ++ [none, none], obs0⟩ := by simp
    dsimp only
    rw [e, h1]
  dsimp only
  rw [this]
  simp
theorem app_at {a : Nat} {v : V} {xs : List V} {obs : List Ob} (h : obs[a]? = some (.list xs)) (hl : xs.length ≤ 1000) (vars : List (Option V)) : mAppend [.ref a, v] ⟨vars, obs⟩ = .ok .none ⟨vars, obs.set a (.list (xs ++ [v]))⟩ := by
  rw [ev_append, ev_bind, ev_getList, h]
  simp only [Out.bind_ok]
  rw [ev_appS _ _ hl, ev_bind, ev_setOb, if_pos (List.getElem?_eq_some_iff.mp h).1]; rfl
theorem Gr.set {a b : List Ob} (g : Gr a b) {i : Nat} (h : a.length ≤ i) (x : Ob) : Gr a (b.set i x) := by
  obtain ⟨t, rfl⟩ := g
  exact ⟨t.set (i - a.length) x, by rw [List.set_append_right _ _ h]⟩
noncomputable def rowG (c : Int) (n : Nat) : V → V
  | .int p => .int (mixed c p / 16 % n)
  | _ => .none
noncomputable def rowL (c : Int) (n k : Nat) : List Int := (List.range k).map fun (p : Nat) => mixed c p / 16 % (n : Int)
/- rows and ends as drawn so far -/
structure Drawn (o0 o : List Ob) (k n : Nat) (R E : Nat) (rows : List (List Int)) (ends : List Bool) : Prop where
  gr : Gr o0 o
  r : o0.length ≤ R
  e : o0.length ≤ E
  ne : R ≠ E
  el : o[E]? = some (.list (ends.map .bool))
  rw : ∃ as, o[R]? = some (.list (as.map .ref)) ∧ RowsAt o o0.length o.length as rows ∧ R ∉ as ∧ E ∉ as
  row : ∀ w ∈ rows, w.length = k ∧ ∀ i ∈ w, 0 ≤ i ∧ i < (n : Int)
theorem RowsAt.set {o : List Ob} {lo hi i : Nat} {x : Ob} : ∀ {as : List Nat} {rs : List (List Int)}, RowsAt o lo hi as rs → i ∉ as → RowsAt (o.set i x) lo hi as rs
  | [], [], _, _ => trivial
  | a :: as, r :: rs, h, hn => ⟨⟨h.1.1, h.1.2.1, by rw [List.getElem?_set_ne (fun q => hn (by rw [q]; exact .head _))]; exact h.1.2.2⟩, RowsAt.set h.2 fun q => hn (.tail _ q)⟩
  | [], _ :: _, h, _ => h.elim
  | _ :: _, [], h, _ => h.elim
theorem RowsAt.lt {o : List Ob} {lo hi i : Nat} : ∀ {as : List Nat} {rs : List (List Int)}, RowsAt o lo hi as rs → i ∈ as → lo ≤ i ∧ i < hi
  | [], [], _, h => (nomatch h)
  | a :: as, r :: rs, h, hn => by
    cases hn with
    | head => exact ⟨h.1.1, h.1.2.1⟩
    | tail _ q => exact RowsAt.lt h.2 q
  | [], _ :: _, h, _ => h.elim
  | _ :: _, [], h, _ => h.elim
theorem Drawn.more {o0 o : List Ob} {k n R E : Nat} {rows : List (List Int)} {ends : List Bool} (D : Drawn o0 o k n R E rows ends) {w : List Int} {b : Bool} {as : List Nat} (h1 : o[R]? = some (.list (as.map .ref))) (hw : w.length = k ∧ ∀ i ∈ w, 0 ≤ i ∧ i < (n : Int)) :
    Drawn o0 (((o ++ [rowO w]).set R (.list (as.map .ref ++ [.ref o.length]))).set E (.list (ends.map .bool ++ [.bool b]))) k n R E (rows ++ [w]) (ends ++ [b]) := by
  obtain ⟨as', q1, q2, q3, q4⟩ := D.rw
  have : as' = as := by
    rw [h1] at q1
    injection q1 with q1; injection q1 with q1
    have hinj : ∀ {x y : List Nat}, x.map V.ref = y.map V.ref → x = y := by
      intro x
      induction x with
      | nil => intro y h; cases y with
        | nil => rfl
        | cons _ _ => cases h
      | cons a x ih => intro y h; cases y with
        | nil => cases h
        | cons b y => simp only [List.map_cons, List.cons.injEq, V.ref.injEq] at h; rw [h.1, ih h.2]
    exact (hinj q1).symm
  subst this
  have rl := (List.getElem?_eq_some_iff.mp h1).1
  have el := (List.getElem?_eq_some_iff.mp D.el).1
  have go := D.gr.len
  refine ⟨((D.gr.to _).set D.r _).set D.e _, D.r, D.e, D.ne, ?_, ⟨as' ++ [o.length], ?_, ?_, ?_, ?_⟩, ?_⟩
  · rw [List.getElem?_set]; simp; omega
  · rw [List.getElem?_set_ne (Ne.symm D.ne), List.getElem?_set]; simp; omega
  · refine RowsAt.set (RowsAt.set ?_ ?_) ?_
    · refine RowsAt.append ((q2.same ((Gr.add o _).same (Nat.le_refl _))).wide (Nat.le_refl _) (by simp)) ⟨⟨go, by simp, ?_⟩, trivial⟩
      rw [List.getElem?_append_right (Nat.le_refl _)]; simp [rowO]
    · simp [q3]; omega
    · simp [q4]; omega
  · simp [q3]; omega
  · simp [q4]; omega
  · intro w' hw'
    rcases List.mem_append.mp hw' with q | q
    · exact D.row w' q
    · cases List.mem_singleton.mp q; exact hw
end Mine
set_option autoImplicit false
set_option linter.unusedVariables false
set_option linter.unusedSimpArgs false
set_option maxRecDepth 100000
namespace Mine
open PySem
theorem getD_heavy {xs : List Int} (h : ∀ x ∈ xs, heavy 1048577 x) (k : Nat) : heavy 1048577 (xs.getD k 0) := by
  by_cases hk : k < xs.length
  · have : xs.getD k 0 = xs[k] := by simp [hk]
    rw [this]; exact h _ (List.getElem_mem _)
  · have : xs.getD k 0 = 0 := by simp [Nat.le_of_not_lt hk]
    rw [this]; exact heavy_mono (heavy_31 (by decide)) (by decide)
theorem slice_tail {α : Type} (xs : List α) : sliceL xs (some 1) none = xs.drop 1 := by
  unfold sliceL clipAt
  simp only [Option.elim]
  cases xs with
  | nil => simp
  | cons x xs =>
    have e : (max 0 (min (if (1 : Int) < 0 then 1 + ((x :: xs).length : Int) else 1) ((x :: xs).length : Int))).toNat = 1 := by
      simp only [List.length_cons]; omega
    rw [e]
    simp
theorem enum_cons (k : Nat) (v : V) (l : List V) : enumFrom k (v :: l) = .tuple [.int k, v] :: enumFrom (k + 1) l := rfl
theorem enum_len : ∀ (l : List V) (k : Nat), (enumFrom k l).length = l.length
  | [], _ => rfl
  | _ :: l, k => by simp only [enumFrom, List.length_cons, enum_len l]
noncomputable def endG (n : Nat) : V → V
  | .int i => .bool (i == (n : Int) - 1)
  | _ => .none
/- one turn of the drawing -/
theorem drawn_turn (d : Nat) {xs : List Int} (hx : xs.length ≤ 63) (hh : ∀ x ∈ xs, heavy 1048577 x) {k n R E i : Nat} (hk : 1 ≤ k ∧ k ≤ 3) (hn : 1 ≤ n ∧ n ≤ 8) (hi : i < 8) {o0 o : List Ob} {rows : List (List Int)} {ends : List Bool} (D : Drawn o0 o k n R E rows ends) (hr : rows.length ≤ 8) (he : ends.length ≤ 8) (z y : Option V) :
    ∃ o' w b y', bd__law_drawn_2 (d + 1) ⟨[some (.flist (xs.map .int)), some (.int 1), some (.int k), some (.int 8), some (.int n), some (.ref R), some (.ref E), some (.int i), y], o⟩ = .ok .next ⟨[some (.flist (xs.map .int)), some (.int 1), some (.int k), some (.int 8), some (.int n), some (.ref R), some (.ref E), some (.int i), y'], o'⟩ ∧ Drawn o0 o' k n R E (rows ++ [w]) (ends ++ [b]) := by
  obtain ⟨as, h1, h2, h3, h4⟩ := D.rw
  have has := h2.len
  have hc2 : ∀ st, cfOf p1 (d + 1) (.fn (nm "_law_cell_at")) [.flist (xs.map .int), .int (2 + (i : Int))] st = .ok (.int (xs.getD (2 + i) 0)) st := fun st => by
    have := cell_eq d xs (2 + i) st hx (by omega)
    have e : ((2 + i : Nat) : Int) = 2 + (i : Int) := by omega
    rw [e] at this
    exact this
  generalize hcell : xs.getD (2 + i) 0 = c at hc2
  have hc : heavy 1048577 c := by rw [← hcell]; exact getD_heavy hh _
  have hnpos : (0 : Int) < n := by omega
  have hcomp := comp1_pure (b := 9) (vars := [some (.flist (xs.map .int)), some (.int 1), some (.int k), some (.int 8), some (.int n), some (.ref R), some (.ref E), some (.int i), some (.int c)]) (obs := o) (obs0 := o) (src := (appM fRange [varM 2]).bind toSrc) (elt := bd__law_drawn_1 (d + 1)) (c := []) rfl
    (items := (rangeL 0 k).map .int) (by
      have r1 : -1000000 ≤ (k : Int) ∧ (k : Int) ≤ 1000000 := by omega
      have r2 : smallR 0 (k : Int) = true := small_small (by omega) (by omega)
      simp only [ev_bind, ev_app, ev_seqM_cons, ev_var, List.getElem?_cons_succ, List.getElem?_cons_zero, Out.bind_ok, ev_seqM_nil, ev_pure, ev_range1, r1, and_self, if_true, ev_toSrc_range, r2, ev_ite]) (by rw [range_len]; omega) (.nil _) (rowG c n) (fun x hx' => by
      obtain ⟨p, rfl, hp⟩ := mem_range hx'
      rw [Int.zero_add] at hp ⊢
      have hmx := fun st => mixed_eq d c (p : Int) st hc (by omega)
      simp [bd__law_drawn_1, hmx, ev_mod_pos hnpos, rowG])
  rw [range_map] at hcomp
  have e1 : (List.range (k : Int).toNat).map (fun (p : Nat) => rowG c n (.int p)) = (rowL c n k).map .int := by
    unfold rowL; simp only [List.map_map, Int.toNat_natCast]; rfl
  rw [e1] at hcomp
  have hw : (rowL c n k).length = k ∧ ∀ j ∈ rowL c n k, 0 ≤ j ∧ j < (n : Int) := by
    unfold rowL
    refine ⟨by simp, fun j hj => ?_⟩
    obtain ⟨p, _, rfl⟩ := List.mem_map.mp hj
    exact ⟨Int.emod_nonneg _ (by omega), Int.emod_lt_of_pos _ hnpos⟩
  have hm5 := fun st => mixed_eq d c 5 st hc (by decide)
  generalize hb : ((mixed c 5 / 64 % 2 : Int) == 1) = b
  refine ⟨_, rowL c n k, b, some (.int c), ?_, D.more h1 hw⟩
  generalize ho1 : o ++ [Ob.list ((rowL c n k).map .int)] = o1 at hcomp
  have ho1' : o ++ [rowO (rowL c n k)] = o1 := ho1
  rw [ho1']
  have g1 : Gr o o1 := ⟨_, ho1.symm⟩
  have a1 := fun vars => app_at (v := .ref o.length) (g1.get h1) (by simp; omega) vars
  generalize ho2 : o1.set R (.list (as.map .ref ++ [.ref o.length])) = o2
  rw [ho2] at a1
  have he2 : o2[E]? = some (.list (ends.map .bool)) := by rw [← ho2, List.getElem?_set_ne D.ne]; exact g1.get D.el
  have a2 := fun vars => app_at (v := .bool b) he2 (by simp; omega) vars
  have hR1 := g1.get h1
  have hR : o[R]? = some (.list (as.map .ref)) := h1
  unfold bd__law_drawn_2
  simp [hc2, hR, hcomp, hm5, a1, hb, he2, a2, -ev_append, -List.getD_eq_getElem?_getD]
end Mine
set_option autoImplicit false
set_option linter.unusedVariables false
set_option linter.unusedSimpArgs false
set_option maxRecDepth 100000
namespace Mine
open PySem
theorem drawn_loop (d : Nat) {xs : List Int} (hx : xs.length ≤ 63) (hh : ∀ x ∈ xs, heavy 1048577 x) {k n R E : Nat} (hk : 1 ≤ k ∧ k ≤ 3) (hn : 1 ≤ n ∧ n ≤ 8) {o0 o : List Ob} (D : Drawn o0 o k n R E [] []) :
    ∃ o' rows ends z y, forItems (.var 7) (bd__law_drawn_2 (d + 1)) [] ((rangeL 0 n).map .int) ⟨[some (.flist (xs.map .int)), some (.int 1), some (.int k), some (.int 8), some (.int n), some (.ref R), some (.ref E), none, none], o⟩ = .ok .next ⟨[some (.flist (xs.map .int)), some (.int 1), some (.int k), some (.int 8), some (.int n), some (.ref R), some (.ref E), z, y], o'⟩ ∧ Drawn o0 o' k n R E rows ends ∧ rows.length = n ∧ ends.length = n := by
  obtain ⟨st1, h1, rows, ends, h2, h3, h4, z, y, o', rfl, D'⟩ := forItems_ok (t := .var 7) (body := bd__law_drawn_2 (d + 1)) (c := []) (fun l st => ∃ rows ends, rows.length + l.length = n ∧ ends.length = rows.length ∧ (∀ v ∈ l, ∃ i : Nat, v = .int i ∧ i < 8) ∧ ∃ z y o', st = ⟨[some (.flist (xs.map .int)), some (.int 1), some (.int k), some (.int 8), some (.int n), some (.ref R), some (.ref E), z, y], o'⟩ ∧ Drawn o0 o' k n R E rows ends) (fun _ _ _ => .nil _) (fun x l st hI => by
    obtain ⟨rows, ends, q1, q2, q3, z, y, o', rfl, D'⟩ := hI
    obtain ⟨i, rfl, hi⟩ := q3 x (by simp)
    simp only [List.length_cons] at q1
    obtain ⟨o'', w, b, y', t1, t2⟩ := drawn_turn d hx hh hk hn hi D' (by omega) (by omega) z y
    refine ⟨_, ?_, rows ++ [w], ends ++ [b], ?_, ?_, fun v hv => q3 v (by simp [hv]), some (.int i), y', o'', rfl, t2⟩
    · simp [t1]
    · simp; omega
    · simp [q2]) ((rangeL 0 n).map .int) ⟨[some (.flist (xs.map .int)), some (.int 1), some (.int k), some (.int 8), some (.int n), some (.ref R), some (.ref E), none, none], o⟩ ⟨[], [], by rw [range_len]; simp, rfl, fun v hv => by
      obtain ⟨i, rfl, hi⟩ := mem_range hv
      exact ⟨i, by simp, by omega⟩, none, none, o, rfl, D⟩
  exact ⟨o', rows, ends, z, y, h1, D', by simpa using h2, by simp at h2; omega⟩
/- the ring -/
theorem ring_rows (d : Nat) {xs : List Int} {k n R E : Nat} (hk : 1 ≤ k ∧ k ≤ 3) (hn : 1 ≤ n ∧ n ≤ 8) {o0 o : List Ob} {rows : List (List Int)} {ends : List Bool} (D : Drawn o0 o k n R E rows ends) (hl : rows.length = n) (z y : Option V) :
    ∃ o' cs rows', compM 9 2 ((varM 5).bind enumV) (.tup [9, 10]) (andM []) (bd__law_drawn_3 (d + 1)) ⟨[some (.flist (xs.map .int)), some (.int 1), some (.int k), some (.int 8), some (.int n), some (.ref R), some (.ref E), z, y], o⟩ = .ok (.ref o'.length) ⟨[some (.flist (xs.map .int)), some (.int 1), some (.int k), some (.int 8), some (.int n), some (.ref R), some (.ref E), z, y], o' ++ [.list (cs.map .ref)]⟩ ∧
      Gr o o' ∧ RowsAt o' o0.length o'.length cs rows' ∧ rows'.length = n ∧ ∀ w ∈ rows', w.length = k ∧ ∀ i ∈ w, 0 ≤ i ∧ i < (n : Int) := by
  obtain ⟨as, h1, h2, h3, h4⟩ := D.rw
  have has := h2.len
  have hnpos : (0 : Int) < n := by omega
  have key := comp2 (b := 9) (vars := [some (.flist (xs.map .int)), some (.int 1), some (.int k), some (.int 8), some (.int n), some (.ref R), some (.ref E), z, y]) (obs := o) (obs0 := o) (src := (varM 5).bind enumV) (elt := bd__law_drawn_3 (d + 1)) (c := [(R, .list (as.map .ref))]) (items := enumFrom 0 (as.map .ref)) rfl
    (by simp [h1]) (by rw [enum_len]; simp; omega)
    (fun l acc o' => ∃ i bs rest cs rows', l = enumFrom i (bs.map .ref) ∧ RowsAt o o0.length o.length bs rest ∧ acc = cs.map V.ref ∧ RowsAt o' o0.length o'.length cs rows' ∧ Gr o o' ∧ rows'.length + bs.length = n ∧ (∀ w ∈ rest, w.length = k ∧ ∀ i ∈ w, 0 ≤ i ∧ i < (n : Int)) ∧ (∀ w ∈ rows', w.length = k ∧ ∀ i ∈ w, 0 ≤ i ∧ i < (n : Int)))
    ⟨0, as, rows, [], [], rfl, h2, rfl, trivial, .refl _, by simp; omega, D.row, fun w hw => (nomatch hw)⟩
    (fun l acc o' hI => by
      obtain ⟨i, bs, rest, cs, rows', _, _, _, _, g, _⟩ := hI
      exact .one (g.get h1))
    (fun x l acc o' hI => by
      obtain ⟨i, bs, rest, cs, rows', q1, q2, q3, q4, g, q5, q6, q7⟩ := hI
      cases bs with
      | nil => cases q1
      | cons a bs =>
        cases rest with
        | nil => exact q2.elim
        | cons w rest =>
          rw [List.map_cons, enum_cons] at q1
          cases q1
          subst q3
          obtain ⟨w1, w2⟩ := q6 w (by simp)
          have hwl : w.length ≤ 1000 := by omega
          have ha : o'[a]? = some (.list (w.map .int)) := g.get q2.1.2.2
          generalize hA : o' ++ [Ob.list [V.int (((i : Int) + 1) % n)]] = oA
          have gA : Gr o' oA := ⟨_, hA.symm⟩
          have lA : oA.length = o'.length + 1 := by rw [← hA]; simp
          have aA : oA[o'.length]? = some (.list [V.int (((i : Int) + 1) % n)]) := by rw [← hA, List.getElem?_append_right (Nat.le_refl _)]; simp
          generalize hB : oA ++ [Ob.list ((w.map V.int).drop 1)] = oB
          have gB : Gr oA oB := ⟨_, hB.symm⟩
          have lB : oB.length = o'.length + 2 := by rw [← hB]; simp [lA]
          have aB : oB[o'.length]? = some (.list [V.int (((i : Int) + 1) % n)]) := gB.get aA
          have bB : oB[oA.length]? = some (.list ((w.map V.int).drop 1)) := by rw [← hB, List.getElem?_append_right (Nat.le_refl _)]; simp
          have hgl := g.len
          have hog := D.gr.len
          refine ⟨_, _, .ref oB.length, oB ++ [rowO ((((i : Int) + 1) % n) :: w.drop 1)], rfl, ?_, i + 1, bs, rest, cs ++ [oB.length], rows' ++ [(((i : Int) + 1) % n) :: w.drop 1], rfl, q2.2, by simp, ?_, ((g.trans gA).trans gB).to _, by simp at q5 ⊢; omega, fun w' h' => q6 w' (by simp [h']), ?_⟩
          · have e : ([V.int (((i : Int) + 1) % n)] ++ (w.map V.int).drop 1).length ≤ 1000 := by simp; omega
            simp only [bd__law_drawn_3, ev_bin, ev_bind, ev_listM, ev_seqM_cons, ev_var, List.cons_append, List.nil_append, List.getElem?_cons_succ, List.getElem?_cons_zero, Out.bind_ok, ev_const, ev_add_int, ev_pure, ev_mod_pos hnpos, ev_seqM_nil]
            rw [ev_allocL (by simp)]
            simp only [Out.bind_ok, hA, ev_sliceM, ev_bind, ev_var, List.getElem?_cons_succ, List.getElem?_cons_zero, ev_optI_some, ev_const, ev_asInt, ev_pure, ev_optI_none, ev_slice_ref, ev_getList, gA.get ha]
            rw [ev_sliS _ _ (by simp; omega)]
            simp only [ev_alloc, Out.bind_ok, slice_tail, hB, ev_add_ref, ev_bind, ev_getList, aB, bB]
            rw [ev_allocL e]
            simp [rowO]
          · refine RowsAt.append ((q4.same (((gA.trans gB).to _).same (Nat.le_refl _))).wide (Nat.le_refl _) (by simp; omega)) ⟨⟨by omega, by simp, ?_⟩, trivial⟩
            rw [List.getElem?_append_right (Nat.le_refl _)]; simp [rowO]
          · intro w' hw'
            rcases List.mem_append.mp hw' with q | q
            · exact q7 w' q
            · cases List.mem_singleton.mp q
              refine ⟨by simp; omega, fun j hj => ?_⟩
              rcases List.mem_cons.mp hj with rfl | hj
              · exact ⟨Int.emod_nonneg _ (by omega), Int.emod_lt_of_pos _ hnpos⟩
              · exact w2 j (List.mem_of_mem_drop hj))
  obtain ⟨vs, o', ⟨i, bs, rest, cs, rows', q1, q2, q3, q4, g, q5, q6, q7⟩, h⟩ := key
  cases bs with
  | cons b bs => rw [List.map_cons, enum_cons] at q1; cases q1
  | nil =>
    subst q3
    exact ⟨o', cs, rows', h, g, q4, by simpa using q5, q7⟩
theorem drawn_ok (d : Nat) {xs : List Int} (hx : xs.length ≤ 63) (hh : ∀ x ∈ xs, heavy 1048577 x) {k : Nat} (hk : 1 ≤ k ∧ k ≤ 3) (vars : List (Option V)) (obs : List Ob) :
    ∃ (rows : List (List Int)) (ends : List Bool) (r e : Nat) (obs' : List Ob), cfOf p1 (d + 2) (.fn (nm "_law_drawn")) [.flist (xs.map .int), .int 1, .int k, .int 8] ⟨vars, obs⟩ = .ok (.tuple [.ref r, .ref e]) ⟨vars, obs'⟩ ∧ Gr obs obs' ∧ Rows obs' 0 obs'.length r rows ∧ obs'[e]? = some (.list (ends.map .bool)) ∧
      1 ≤ rows.length ∧ rows.length ≤ 8 ∧ ends.length = rows.length ∧ ∀ w ∈ rows, w.length = k ∧ ∀ i ∈ w, 0 ≤ i ∧ i < (rows.length : Int) := by
  rw [cf__law_drawn]
  have c1 : ∀ st, cfOf p1 (d + 1) (.fn (nm "_law_cell_at")) [.flist (xs.map .int), .int 1] st = .ok (.int (xs.getD 1 0)) st := fun st => cell_eq d xs 1 st hx (by omega)
  generalize xs.getD 1 0 = c at c1
  obtain ⟨n, hn⟩ : ∃ n : Nat, 1 + c % 8 = (n : Int) := ⟨(1 + c % 8).toNat, by omega⟩
  have hn8 : 1 ≤ n ∧ n ≤ 8 := by omega
  have r1 : -1000000 ≤ (n : Int) ∧ (n : Int) ≤ 1000000 := by omega
  have r2 : smallR 0 (n : Int) = true := small_small (by omega) (by omega)
  have hnpos : (0 : Int) < n := by omega
  generalize ho : obs ++ [Ob.list []] ++ [Ob.list []] = o
  have lo : o.length = obs.length + 2 := by rw [← ho]; simp
  have D0 : Drawn obs o k n obs.length (obs.length + 1) [] [] := by
    refine ⟨⟨_, by rw [← ho, List.append_assoc]⟩, Nat.le_refl _, Nat.le_succ _, by omega, ?_, ⟨[], ?_, trivial, by simp, by simp⟩, fun w hw => (nomatch hw)⟩
    · rw [← ho, List.getElem?_append_right (by simp)]; simp
    · rw [← ho, List.append_assoc, List.getElem?_append_right (Nat.le_refl _)]; simp
  obtain ⟨o', rows, ends, z, y, h1, D, h2, h3⟩ := drawn_loop d hx hh hk hn8 D0
  have ho' : obs ++ [Ob.list [], Ob.list []] = o := by rw [← ho]; simp
  by_cases hc : c / 32 % 3 = 1
  · obtain ⟨o2, cs, rows', k1, k2, k3, k4, k5⟩ := ring_rows d (xs := xs) hk hn8 D h2 z y
    generalize ho3 : o2 ++ [Ob.list (cs.map .ref)] = o3 at k1
    have g3 : Gr o2 o3 := ⟨_, ho3.symm⟩
    have l3 : o3.length = o2.length + 1 := by rw [← ho3]; simp
    have hcomp := comp1_pure (b := 9) (vars := [some (.flist (xs.map .int)), some (.int 1), some (.int k), some (.int 8), some (.int n), some (.ref o2.length), some (.ref (obs.length + 1)), z, y]) (obs := o3) (obs0 := o3) (src := (appM fRange [varM 4]).bind toSrc) (elt := bd__law_drawn_4 (d + 1)) (c := []) rfl
      (items := (rangeL 0 n).map .int) (by simp [r1, r2]) (by rw [range_len]; omega) (.nil _) (endG n) (fun x hx' => by
        obtain ⟨p, rfl, hp⟩ := mem_range hx'
        simp [bd__law_drawn_4, endG])
    rw [range_map] at hcomp
    have e1 : (List.range (n : Int).toNat).map (fun (p : Nat) => endG n (.int p)) = ((List.range n).map fun (p : Nat) => ((p : Int) == (n : Int) - 1)).map .bool := by
      simp only [List.map_map, Int.toNat_natCast]; rfl
    rw [e1] at hcomp
    refine ⟨rows', (List.range n).map fun (p : Nat) => ((p : Int) == (n : Int) - 1), o2.length, o3.length, o3 ++ [.list (((List.range n).map fun (p : Nat) => ((p : Int) == (n : Int) - 1)).map .bool)], ?_, ?_, ?_, ?_, by omega, by omega, by simp [k4], by rw [k4]; exact k5⟩
    · simp [c1, hn, ho', r1, r2, h1, hc, k1, hcomp, -List.map_map]
    · exact ((D.gr.trans k2).trans g3).to _
    · refine ⟨Nat.zero_le _, by simp; omega, cs, ?_, ?_⟩
      · refine Gr.get (.add _ _) ?_
        rw [← ho3, List.getElem?_append_right (Nat.le_refl _)]; simp
      · exact (k3.same ((g3.to _).same (Nat.le_refl _))).wide (Nat.zero_le _) (by simp; omega)
    · rw [List.getElem?_append_right (Nat.le_refl _)]; simp
  · obtain ⟨as, q1, q2, q3, q4⟩ := D.rw
    refine ⟨rows, ends, obs.length, obs.length + 1, o', ?_, D.gr, ⟨Nat.zero_le _, (List.getElem?_eq_some_iff.mp q1).1, as, q1, q2.wide (Nat.zero_le _) (Nat.le_refl _)⟩, D.el, by omega, by omega, by omega, by rw [h2]; exact D.row⟩
    simp [c1, hn, ho', r1, r2, h1, hc]
end Mine
set_option autoImplicit false
set_option linter.unusedVariables false
set_option linter.unusedSimpArgs false
set_option maxRecDepth 100000
namespace Mine
open PySem
/- a machine as text -/
noncomputable def endW (e : Bool) : List (List Nat) := if e then [[101, 110, 100]] else []
noncomputable def wordsT (k : Nat) (row : List Int) (e : Bool) : List (List Nat) := (num k ++ [58]) :: (row.map (fun g => num g.toNat) ++ endW e)
noncomputable def linesT : Nat → List (List Int) → List Bool → List (List Nat)
  | k, r :: rs, e :: es => joinC 32 (wordsT k r e) :: linesT (k + 1) rs es
  | _, _, _ => []
noncomputable def signsW : List Nat := [115, 105, 103, 110, 115, 32]
noncomputable def textT (s : List Nat) (rows : List (List Int)) (ends : List Bool) : List Nat := joinC 10 ((signsW ++ s) :: linesT 0 rows ends)
theorem ev_str {k : Nat} (hk : k < 100000) (st : St) : fStr [.int k] st = .ok (.str (num k)) st := by
  have hp : (2 : Nat) ^ 20 = 1048576 := by decide
  have h20 : (k : Int).natAbs.log2 < 20 := log2_of_lt (by decide) (by omega)
  have hl : (k : Int).natAbs.log2 < 1920 := by omega
  show ((asInt (.int k)).bind fun i => if i.natAbs.log2 < 1920 then M.pure (V.str (strI i)) else stuck) st = _
  rw [ev_bind, ev_asInt, ev_pure, Out.bind_ok, if_pos hl]
  rfl
theorem ev_str' {g : Int} (hg : 0 ≤ g ∧ g < 100000) (st : St) : fStr [.int g] st = .ok (.str (num g.toNat)) st := by
  have := ev_str (k := g.toNat) (by omega) st
  rw [Int.toNat_of_nonneg hg.1] at this
  exact this
theorem strs_map : ∀ ws : List (List Nat), strsOf (ws.map V.str) = some ws
  | [] => rfl
  | w :: ws => by simp only [List.map, strsOf, strs_map ws, Option.map_some]
theorem ev_joinC {a c : Nat} {ws : List (List Nat)} {vars : List (Option V)} {obs : List Ob} (h : obs[a]? = some (.list (ws.map V.str))) (hl : ws.length ≤ 100) (hw : ∀ w ∈ ws, w.length ≤ 1000) : mJoin [.str [c], .ref a] ⟨vars, obs⟩ = .ok (.str (joinC c ws)) ⟨vars, obs⟩ := by
  show ((getList a).bind fun xs => (ofOpt (strsOf xs)).bind fun ws => if JoinOk (mkS [c]) (ws.map mkS) then M.pure (V.str (Txt.join (mkS [c]) (ws.map mkS)).cps.toList) else stuck) _ = _
  rw [ev_bind, ev_getList, h]
  simp only [Out.bind_ok]
  have hok : JoinOk (mkS [c]) (ws.map mkS) = true := by
    unfold JoinOk
    have e1 : (mkS [c]).length = 1 := rfl
    have := StrLaws.joinFits (sep := mkS [c]) (texts := ws.map mkS) (B := 1000) (fun y hy => by
      obtain ⟨w, hw', rfl⟩ := List.mem_map.mp hy
      have := hw w hw'
      show w.toArray.size ≤ 1000
      simpa using this) (by rw [e1, List.length_map]; omega)
    rw [this]; rfl
  rw [strs_map, ev_bind, ev_ofOpt, ev_pure, Out.bind_ok, if_pos hok, txt_join]; rfl
theorem ev_add_str {a b : List Nat} (h : (a ++ b).length ≤ 100000) (st : St) : binV .Add (.str a) (.str b) st = .ok (.str (a ++ b)) st := by
  show ((asStr (.str b)).bind fun t => strM (a ++ t)) st = _
  have : strM (a ++ b) = M.pure (.str (a ++ b)) := if_pos (by unfold lim; omega)
  rw [ev_bind]
  show (strM (a ++ b)) st = _
  rw [this]; rfl
theorem ev_split {x : List Nat} {c : Nat} {w : List Nat} {ws : List (List Nat)} (hx : x = joinC c (w :: ws)) (hl : x.length ≤ 100000) (h : ∀ v ∈ w :: ws, c ∉ v) (vars : List (Option V)) (obs : List Ob) :
    mSplit [.str x, .str [c]] ⟨vars, obs⟩ = .ok (.ref obs.length) ⟨vars, obs ++ [.list ((w :: ws).map V.str)]⟩ := by
  show ((asStr (.str x)).bind fun x => (asStr (.str [c])).bind fun y => splitS x y) _ = _
  have e : splitS x [c] = alloc (.list ((Txt.split (mkS x) (mkS [c])).map strO)) := if_pos ⟨by simp, by unfold lim; omega⟩
  rw [ev_bind]
  show ((asStr (.str [c])).bind fun y => splitS x y) _ = _
  rw [ev_bind]
  show splitS x [c] _ = _
  rw [e, hx, split_join h, List.map_map]
  have e2 : ((w :: ws).map (strO ∘ mkS)) = (w :: ws).map V.str := List.map_congr_left fun v _ => by simp [strO, mkS]
  rw [e2]; rfl
/- number_of -/
theorem figures_in {c : Nat} (h : 48 ≤ c ∧ c ≤ 57) : (occ [48, 49, 50, 51, 52, 53, 54, 55, 56, 57] [c] 1).isEmpty = false := by
  rw [occ_found]
  have : c ∈ [48, 49, 50, 51, 52, 53, 54, 55, 56, 57] := by
    simp only [List.mem_cons, List.not_mem_nil, or_false]; omega
  simp [this]
theorem number_eq (d : Nat) {k : Nat} (hk : k < 20) (st : St) : cfOf p1 (d + 1) (.fn (nm "number_of")) [.str (num k)] st = .ok (.int k) st := by
  obtain ⟨vars, obs⟩ := st
  obtain ⟨h1, h2⟩ := num_len hk
  have hl : (num k).length ≤ 1000 := by omega
  have e1 : (1 : Int) ≤ (num k).length := by omega
  have e2 : ((num k).length : Int) ≤ 2 := by omega
  have s1 : st_number_of_1 d ⟨[some (.str (num k)), none], obs⟩ = .ok .next ⟨[some (.str (num k)), none], obs⟩ := by
    unfold st_number_of_1
    simp [hl, e1, e2]
  obtain ⟨st1, k1, _, z, rfl⟩ := forItems_ok (t := .var 1) (body := bd_number_of_2 d) (c := [])
    (fun l st => (∀ v ∈ l, v ∈ charsOf (num k)) ∧ ∃ z, st = ⟨[some (.str (num k)), z], obs⟩) (fun _ _ _ => .nil _) (fun x l st hI => by
      obtain ⟨hx, z, rfl⟩ := hI
      have hx' := hx x (by simp)
      unfold charsOf at hx'
      obtain ⟨c, hc, rfl⟩ := List.mem_map.mp hx'
      refine ⟨⟨[some (.str (num k)), some (.str [c])], obs⟩, ?_, fun v hv => hx v (by simp [hv]), _, rfl⟩
      have hin := figures_in (num_digits hk hc)
      simp [bd_number_of_2, hin]) (charsOf (num k)) ⟨[some (.str (num k)), none], obs⟩ ⟨fun _ q => q, none, rfl⟩
  have s2 : st_number_of_2 d ⟨[some (.str (num k)), none], obs⟩ = .ok .next ⟨[some (.str (num k)), z], obs⟩ := by
    unfold st_number_of_2
    simp [k1]
  have s3 : st_number_of_3 d ⟨[some (.str (num k)), z], obs⟩ = .ok (.ret (.int k)) ⟨[some (.str (num k)), z], obs⟩ := by
    unfold st_number_of_3
    have e : ∀ st, fInt [.str (num k)] st = .ok (.int k) st := fun st => by
      show intS (num k) st = _
      have e3 : intS (num k) = (ofOpt (intText? ⟨(num k).toArray⟩)).bind fun n => M.pure (.int n) := if_pos (by omega)
      have e4 : intText? ⟨(num k).toArray⟩ = some (k : Int) := num_int hk
      rw [e3, e4]; rfl
    simp [e]
  rw [cf_number_of, ev_runFn 1 2 _ _ _ _ rfl]
  have ee : ([V.str (num k)].map some ++ List.replicate (2 - 1) none) = [some (.str (num k)), none] := rfl
  rw [ee]
  simp only [ev_seqS_cons, ev_bind, s1, s2, s3, Out.bind_ok, seqK_next, seqK_ret, ev_pure]
end Mine
set_option autoImplicit false
set_option linter.unusedVariables false
set_option linter.unusedSimpArgs false
set_option maxRecDepth 100000
namespace Mine
open PySem
theorem words_small {k : Nat} {row : List Int} {n : Nat} (hk : k < 20) (hn : n ≤ 20) (hrow : ∀ i ∈ row, 0 ≤ i ∧ i < (n : Int)) (e : Bool) : ∀ w ∈ wordsT k row e, w.length ≤ 3 ∧ (∀ c ∈ w, c = 58 ∨ (48 ≤ c ∧ c ≤ 57) ∨ (97 ≤ c ∧ c ≤ 122)) := by
  intro w hw
  unfold wordsT at hw
  rcases List.mem_cons.mp hw with rfl | hw
  · have := num_len hk
    refine ⟨by simp; omega, fun c hc => ?_⟩
    rcases List.mem_append.mp hc with h | h
    · exact .inr (.inl (num_digits hk h))
    · simp at h; exact .inl h
  · rcases List.mem_append.mp hw with hw | hw
    · obtain ⟨g, hg, rfl⟩ := List.mem_map.mp hw
      obtain ⟨h1, h2⟩ := hrow g hg
      have h3 : g.toNat < 20 := by omega
      have := num_len h3
      exact ⟨by omega, fun c hc => .inr (.inl (num_digits h3 hc))⟩
    · unfold endW at hw
      cases e with
      | false => simp at hw
      | true =>
        simp at hw
        subst hw
        refine ⟨by simp, fun c hc => ?_⟩
        simp at hc
        omega
/- one line is written -/
theorem row_words (d : Nat) {vars : List (Option V)} {obs : List Ob} {a k n : Nat} {row : List Int} (hv : vars.length = 5) (h3 : vars[3]? = some (some (.ref a))) (ha : obs[a]? = some (.list (row.map .int))) (hrow : ∀ i ∈ row, 0 ≤ i ∧ i < (n : Int)) (hn : n ≤ 20) (hl : row.length ≤ 3) :
    compM 5 1 ((varM 3).bind toSrc) (.var 5) (andM []) (bd_written_2 d) ⟨vars, obs⟩ = .ok (.ref obs.length) ⟨vars, obs ++ [.list ((row.map (fun g => num g.toNat)).map V.str)]⟩ := by
  have := comp1_pure (b := 5) (vars := vars) (obs := obs) (obs0 := obs) (src := (varM 3).bind toSrc) (elt := bd_written_2 d) (c := [(a, .list (row.map .int))]) hv (items := row.map .int)
    (by rw [ev_bind, ev_var, h3]; simp only [Out.bind_ok, ev_toSrc_ref, ha]) (by simp; omega) (.one ha) (fun v => match v with | .int g => .str (num g.toNat) | _ => .none) (fun x hx => by
      obtain ⟨g, hg, rfl⟩ := List.mem_map.mp hx
      obtain ⟨h1, h2⟩ := hrow g hg
      have e : (vars ++ [some (V.int g)])[5]? = some (some (.int g)) := by rw [List.getElem?_append_right (by omega), hv]; rfl
      unfold bd_written_2
      simp only [ev_app, ev_bind, ev_seqM_cons, ev_var, e, Out.bind_ok, ev_seqM_nil, ev_pure, ev_str' (g := g) ⟨h1, by omega⟩])
  rw [this]
  simp only [List.map_map]
  rfl
theorem joinC_len {c : Nat} : ∀ {ws : List (List Nat)} {B : Nat}, (∀ w ∈ ws, w.length ≤ B) → (joinC c ws).length ≤ ws.length * (B + 1)
  | [], _, _ => by simp [joinC]
  | w :: ws, B, h => by
    have hw := h w (by simp)
    have : (ws.flatMap fun v => c :: v).length ≤ ws.length * (B + 1) := by
      clear hw
      induction ws with
      | nil => simp
      | cons v ws ih =>
        have hv := h v (by simp)
        have := ih fun x hx => h x (by simp at hx ⊢; rcases hx with q | q <;> simp [q])
        simp only [List.flatMap_cons, List.length_append, List.length_cons, Nat.succ_mul]
        omega
    simp only [joinC, List.length_append, List.length_cons, Nat.succ_mul]
    omega
theorem written_turn (d : Nat) {o : List Ob} {lo hi m A a k n : Nat} {s : List Nat} {rows : List (List Int)} {ends : List Bool} (x : Mach o lo hi m s rows ends) (hhi : hi ≤ A) (hA : A < o.length) (G : Good s rows ends) {row : List Int} {e : Bool} {ls : List (List Nat)} {z : Option V}
    (ha : o[a]? = some (.list (row.map .int))) (hrow : ∀ i ∈ row, 0 ≤ i ∧ i < (rows.length : Int)) (hl : row.length ≤ 3) (he : ends[k]? = some e) (hL : o[A]? = some (.list (ls.map V.str))) (hls : ls.length ≤ 100) :
    ∃ o' z', bd_written_3 (d + 1) ⟨[some (.ref m), some (.ref A), some (.int k), some (.ref a), z], o⟩ = .ok .next ⟨[some (.ref m), some (.ref A), some (.int k), some (.ref a), z'], o'⟩ ∧ o'[A]? = some (.list ((ls ++ [joinC 32 (wordsT k row e)]).map V.str)) ∧ o.length ≤ o'.length ∧ ∀ i, i < o.length → i ≠ A → o'[i]? = o[i]? := by
  have hkl : k < ends.length := (List.getElem?_eq_some_iff.mp he).1
  have hme := G.ends
  have hmost := G.most
  have hk : k < 20 := by omega
  have hnum := num_len hk
  generalize hB : o ++ [Ob.list [V.str (num k ++ [58])]] = oB
  have gB : Gr o oB := ⟨_, hB.symm⟩
  have lB : oB.length = o.length + 1 := by rw [← hB]; simp
  have bB : oB[o.length]? = some (.list [V.str (num k ++ [58])]) := by rw [← hB, List.getElem?_append_right (Nat.le_refl _)]; simp
  have hc := row_words (d + 1) (vars := [some (.ref m), some (.ref A), some (.int k), some (.ref a), z]) (obs := oB) (a := a) (row := row) (k := k) rfl rfl (gB.get ha) hrow (by omega) hl
  generalize hC : oB ++ [Ob.list ((row.map (fun g => num g.toNat)).map V.str)] = oC at hc
  have gC : Gr oB oC := ⟨_, hC.symm⟩
  have lC : oC.length = o.length + 2 := by rw [← hC]; simp [lB]
  have cC : oC[oB.length]? = some (.list ((row.map (fun g => num g.toNat)).map V.str)) := by rw [← hC, List.getElem?_append_right (Nat.le_refl _)]; simp
  generalize hD : oC ++ [Ob.list ([V.str (num k ++ [58])] ++ (row.map (fun g => num g.toNat)).map V.str)] = oD
  have gD : Gr oC oD := ⟨_, hD.symm⟩
  have lD : oD.length = o.length + 3 := by rw [← hD]; simp [lC]
  have dD : oD[oC.length]? = some (.list ([V.str (num k ++ [58])] ++ (row.map (fun g => num g.toNat)).map V.str)) := by rw [← hD, List.getElem?_append_right (Nat.le_refl _)]; simp
  have gD' : Gr o oD := gB.trans (gC.trans gD)
  have xD : Mach oD lo hi m s rows ends := x.same (gD'.same (by omega))
  obtain ⟨wr, fr, _, _, hs⟩ := xD.sees
  generalize hE : oD ++ [Ob.list (ends.map .bool)] = oE
  have gE : Gr oD oE := ⟨_, hE.symm⟩
  have lE : oE.length = o.length + 4 := by rw [← hE]; simp [lD]
  have eE : oE[oD.length]? = some (.list (ends.map .bool)) := by rw [← hE, List.getElem?_append_right (Nat.le_refl _)]; simp
  have hsub := fun vars => sub_ref eE (i := k) (v := .bool e) (by rw [List.getElem?_map, he]; rfl) (by simp; omega) vars
  have gE' : Gr o oE := gD'.trans gE
  have ew : ([V.str (num k ++ [58])] ++ (row.map (fun g => num g.toNat)).map V.str).length ≤ 1000 := by simp; omega
  have en : (num k ++ [58]).length ≤ 100000 := by simp; omega
  have hwl : (wordsT k row e).length ≤ 100 := by unfold wordsT endW; cases e <;> simp <;> omega
  have hws := words_small hk hmost hrow e
  -- the words, once the end is told
  have key : ∃ oF, (iteM (evB (subM (methM (pickO (wdOf p1 (cfOf p1 (d + 1))) (nm "ends")) (varM 0) []) (varM 2))) (seqS [exprM (methM (pickL mAppend) (varM 4) [constM (.str [101, 110, 100])])]) (seqS [])) ⟨[some (.ref m), some (.ref A), some (.int k), some (.ref a), some (.ref oC.length)], oD⟩ = .ok .next ⟨[some (.ref m), some (.ref A), some (.int k), some (.ref a), some (.ref oC.length)], oF⟩ ∧
      oF[oC.length]? = some (.list ((wordsT k row e).map V.str)) ∧ oF.length = oE.length ∧ ∀ i, i < o.length → oF[i]? = o[i]? := by
    cases e with
    | false =>
      refine ⟨oE, ?_, ?_, rfl, fun i hi => gE'.same (lo := 0) (hi := o.length) (Nat.le_refl _) i (Nat.zero_le _) hi⟩
      · simp [(hs (d + 1)).ends, ends_eq d xD G, hE, hsub, -ev_sub_ref]
      · rw [gE.get dD]; simp [wordsT, endW]
    | true =>
      have a1 := fun vars => app_at (v := .str [101, 110, 100]) (gE.get dD) ew vars
      refine ⟨oE.set oC.length (.list ([V.str (num k ++ [58])] ++ (row.map (fun g => num g.toNat)).map V.str ++ [.str [101, 110, 100]])), ?_, ?_, by simp, fun i hi => ?_⟩
      · have q := gE.get dD
        simp [(hs (d + 1)).ends, ends_eq d xD G, hE, hsub, q, a1, -ev_sub_ref, -ev_append]
      · rw [List.getElem?_set]
        simp [wordsT, endW]
        omega
      · rw [List.getElem?_set_ne (by omega)]
        exact gE'.same (lo := 0) (hi := o.length) (Nat.le_refl _) i (Nat.zero_le _) hi
  obtain ⟨oF, k1, k2, k3, k4⟩ := key
  have hj := fun vars => ev_joinC (c := 32) (vars := vars) k2 hwl (fun w hw => by have := (hws w hw).1; omega)
  have hLF : oF[A]? = some (.list (ls.map V.str)) := (k4 A hA).trans hL
  have a2 := fun vars => app_at (v := .str (joinC 32 (wordsT k row e))) hLF (by simp; omega) vars
  refine ⟨oF.set A (.list (ls.map V.str ++ [.str (joinC 32 (wordsT k row e))])), some (.ref oC.length), ?_, ?_, by simp; omega, fun i hi hne => ?_⟩
  · unfold bd_written_3
    rw [ev_seqS_cons, ev_bind]
    have s1 : assignM (.var 4) (binM .Add (listM [binM .Add (appM fStr [varM 2]) (constM (.str [58]))]) (compM 5 1 ((varM 3).bind toSrc) (.var 5) (andM []) (bd_written_2 (d + 1)))) ⟨[some (.ref m), some (.ref A), some (.int k), some (.ref a), z], o⟩ = .ok .next ⟨[some (.ref m), some (.ref A), some (.int k), some (.ref a), some (.ref oC.length)], oD⟩ := by
      simp only [ev_assign, ev_bind, ev_bin, ev_listM, ev_seqM_cons, ev_app, ev_var, List.getElem?_cons_succ, List.getElem?_cons_zero, Out.bind_ok, ev_seqM_nil, ev_pure, ev_str (k := k) (by omega), ev_const, ev_add_str en]
      rw [ev_allocL (by simp), hB]
      simp only [Out.bind_ok, hc, ev_add_ref, ev_bind, ev_getList, gC.get bB, cC]
      rw [ev_allocL ew, hD]
      rfl
    rw [s1, Out.bind_ok, seqK_next, ev_seqS_cons, ev_bind, k1, Out.bind_ok, seqK_next]
    simp [hLF, k2, hj, a2, -ev_append]
  · rw [List.getElem?_set]
    simp
    omega
  · rw [List.getElem?_set_ne (Ne.symm hne), k4 i hi]
end Mine
set_option autoImplicit false
set_option linter.unusedVariables false
set_option linter.unusedSimpArgs false
set_option maxRecDepth 100000
namespace Mine
open PySem
theorem linesT_len : ∀ (k : Nat) (rs : List (List Int)) (es : List Bool), es.length = rs.length → (linesT k rs es).length = rs.length
  | _, [], [], _ => rfl
  | k, r :: rs, e :: es, h => by simp only [linesT, List.length_cons, linesT_len (k + 1) rs es (by simpa using h)]
  | _, [], _ :: _, h => by simp at h
  | _, _ :: _, [], h => by simp at h
theorem lines_small {n : Nat} (hn : n ≤ 20) : ∀ {k : Nat} {rs : List (List Int)} {es : List Bool}, k + rs.length ≤ n → (∀ w ∈ rs, w.length ≤ 3 ∧ ∀ i ∈ w, 0 ≤ i ∧ i < (n : Int)) → ∀ l ∈ linesT k rs es, l.length ≤ 100 ∧ ∀ c ∈ l, c = 32 ∨ c = 58 ∨ (48 ≤ c ∧ c ≤ 57) ∨ (97 ≤ c ∧ c ≤ 122)
  | k, [], es, _, _, l, hl => by cases es <;> simp [linesT] at hl
  | k, r :: rs, [], _, _, l, hl => by simp [linesT] at hl
  | k, r :: rs, e :: es, hk, h, l, hl => by
    simp only [linesT, List.mem_cons] at hl
    simp only [List.length_cons] at hk
    rcases hl with rfl | hl
    · have hr := h r (by simp)
      have hw := words_small (k := k) (e := e) (by omega) hn hr.2
      refine ⟨?_, fun c hc => ?_⟩
      · have h1 : (wordsT k r e).length ≤ 5 := by unfold wordsT endW; cases e <;> simp <;> omega
        have h2 := joinC_len (c := 32) (ws := wordsT k r e) (B := 3) fun w hw' => (hw w hw').1
        have h3 : (wordsT k r e).length * 4 ≤ 20 := by omega
        omega
      · have mem : ∀ {ws : List (List Nat)}, c ∈ joinC 32 ws → c = 32 ∨ ∃ w ∈ ws, c ∈ w := by
          intro ws hc
          cases ws with
          | nil => simp [joinC] at hc
          | cons w ws =>
            rcases List.mem_append.mp hc with q | q
            · exact .inr ⟨w, by simp, q⟩
            · obtain ⟨v, hv, hc'⟩ := List.mem_flatMap.mp q
              rcases List.mem_cons.mp hc' with rfl | q
              · exact .inl rfl
              · exact .inr ⟨v, by simp [hv], q⟩
        rcases mem hc with q | ⟨w, hw', hc'⟩
        · exact .inl q
        · exact .inr ((hw w hw').2 c hc')
    · exact lines_small hn (k := k + 1) (rs := rs) (es := es) (by omega) (fun w hw => h w (by simp [hw])) l hl
theorem Good.rs {s : List Nat} {rows : List (List Int)} {ends : List Bool} (G : Good s rows ends) : ∀ w ∈ rows, w.length ≤ 3 ∧ ∀ i ∈ w, 0 ≤ i ∧ i < (rows.length : Int) := fun w hw => ⟨by have := (G.row w hw).1; have := G.signs.three; omega, (G.row w hw).2⟩
theorem RowsAt.keep {o o' : List Ob} {lo hi : Nat} (h : ∀ a, lo ≤ a → a < hi → o'[a]? = o[a]?) {as : List Nat} {rs : List (List Int)} (x : RowsAt o lo hi as rs) : RowsAt o' lo hi as rs := x.same h
/- how far the writing has come -/
inductive WrI (n nA : Nat) (oB : List Ob) (m : Nat) (s : List Nat) (rows : List (List Int)) (ends : List Bool) (l : List V) (st : St) : Prop
  | mk (k : Nat) (bs : List Nat) (rs : List (List Int)) (es : List Bool) (ls : List (List Nat)) (o : List Ob) (z2 z3 z4 : Option V) (q1 : l = enumFrom k (bs.map V.ref)) (q2 : RowsAt oB nA (nA + rows.length) bs rs) (q3 : es.length = rs.length) (q4 : k + rs.length = rows.length) (q5 : ends.drop k = es) (q6 : ∀ w ∈ rs, w ∈ rows)
      (q7 : ls ++ linesT k rs es = linesT 0 rows ends) (hst : st = ⟨[some (.ref m), some (.ref n), z2, z3, z4], o⟩) (q8 : o[n]? = some (.list (((signsW ++ s) :: ls).map V.str))) (q9 : oB.length ≤ o.length) (q10 : ∀ i, i < oB.length → i ≠ n → o[i]? = oB[i]?) (q11 : ls.length ≤ k)
theorem written_ok (d : Nat) {obs : List Ob} {lo hi m : Nat} {s : List Nat} {rows : List (List Int)} {ends : List Bool} (x : Mach obs lo hi m s rows ends) (hhi : hi ≤ obs.length) (G : Good s rows ends) (vars : List (Option V)) :
    ∃ obs', cfOf p1 (d + 2) (.fn (nm "written")) [.ref m] ⟨vars, obs⟩ = .ok (.str (textT s rows ends)) ⟨vars, obs'⟩ ∧ Gr obs obs' := by
  obtain ⟨wr, fr, _, _, hs⟩ := x.sees
  have h3 := G.signs.three
  have hme := G.ends
  have hmost := G.most
  have e1 : (signsW ++ s).length ≤ 100000 := by simp [signsW]; omega
  -- 1
  generalize hA : obs ++ [Ob.list [V.str (signsW ++ s)]] = oA
  have gA : Gr obs oA := ⟨_, hA.symm⟩
  have lA : oA.length = obs.length + 1 := by rw [← hA]; simp
  have aA : oA[obs.length]? = some (.list [V.str (signsW ++ s)]) := by rw [← hA, List.getElem?_append_right (Nat.le_refl _)]; simp
  have s1 : st_written_1 (d + 1) ⟨[some (.ref m), none, none, none, none], obs⟩ = .ok .next ⟨[some (.ref m), some (.ref obs.length), none, none, none], oA⟩ := by
    unfold st_written_1
    simp only [ev_assign, ev_bind, ev_listM, ev_seqM_cons, ev_bin, ev_const, Out.bind_ok, ev_attrM, ev_var, List.getElem?_cons_zero, (hs (d + 1)).signs, show ([115, 105, 103, 110, 115, 32] : List Nat) = signsW from rfl, ev_add_str e1, ev_seqM_nil, ev_pure]
    rw [ev_allocL (by simp), hA]
    rfl
  -- 2
  have xA : Mach oA lo hi m s rows ends := x.same (gA.same hhi)
  obtain ⟨wr', fr', _, _, hs'⟩ := xA.sees
  have rA := rows_eq d xA G
  generalize hB : oA ++ cpy oA.length rows = oB at rA
  have gB : Gr oA oB := ⟨_, hB.symm⟩
  have lB : oB.length = oA.length + rows.length + 1 := by rw [← hB, List.length_append, cpy_len]; omega
  have tB : oB[oA.length + rows.length]? = some (.list ((List.range' oA.length rows.length).map .ref)) := by have := cpy_top oA rows []; rw [List.append_nil, hB] at this; exact this
  have wB : RowsAt oB oA.length (oA.length + rows.length) (List.range' oA.length rows.length) rows := by
    have := rowsAt_range rows oA [.list ((List.range' oA.length rows.length).map .ref)]
    unfold cpy at hB
    rw [hB] at this
    exact this
  obtain ⟨st1, k1, hI⟩ := forItems_ok (t := .tup [2, 3]) (body := bd_written_3 (d + 1)) (c := [(oA.length + rows.length, .list ((List.range' oA.length rows.length).map .ref))])
    (WrI obs.length oA.length oB m s rows ends)
    (fun l st hI => by
      obtain ⟨k, bs, rs, es, ls, o, z2, z3, z4, _, _, _, _, _, _, _, rfl, _, _, hk, _⟩ := hI
      exact .one ((hk _ (by omega) (by omega)).trans tB))
    (fun y l st hI => by
      obtain ⟨k, bs, rs, es, ls, o, z2, z3, z4, q1, q2, q3, q4, q5, q6, q7, rfl, q8, q9, q10, q11⟩ := hI
      cases bs with
      | nil => cases q1
      | cons a bs =>
        cases rs with
        | nil => exact q2.elim
        | cons r rs =>
          cases es with
          | nil => simp at q3
          | cons e es =>
            rw [List.map_cons, enum_cons] at q1
            cases q1
            simp only [List.length_cons] at q4 q3
            have he : ends[k]? = some e := by
              have := congrArg List.head? q5
              rw [List.head?_drop] at this
              simpa using this
            have ha : o[a]? = some (.list (r.map .int)) := (q10 a (by have := q2.1.2.1; omega) (by have := q2.1.1; omega)).trans q2.1.2.2
            have xo : Mach o lo hi m s rows ends := xA.same fun i h1 h2 => by
              rw [q10 i (by omega) (by omega)]
              exact gB.same (lo := 0) (hi := oA.length) (Nat.le_refl _) i (Nat.zero_le _) (by omega)
            have hr := G.rs r (q6 r (by simp))
            obtain ⟨o', z', t1, t2, t3, t4⟩ := written_turn d (A := obs.length) (a := a) (k := k) (n := 0) (e := e) (z := z4) xo hhi (by omega) G ha hr.2 hr.1 he q8 (by simp only [List.length_cons]; omega)
            refine ⟨_, ?_, k + 1, bs, rs, es, ls ++ [joinC 32 (wordsT k r e)], o', some (.int k), some (.ref a), z', rfl, q2.2, by omega, by omega, ?_, fun w hw => q6 w (by simp [hw]), ?_, rfl, ?_, by omega, fun i h1 h2 => ?_, by simp; omega⟩
            · rw [ev_bind]
              have : asg (.tup [2, 3]) (.tuple [.int k, .ref a]) ⟨[some (.ref m), some (.ref obs.length), z2, z3, z4], o⟩ = .ok () ⟨[some (.ref m), some (.ref obs.length), some (.int k), some (.ref a), z4], o⟩ := by simp
              rw [this, Out.bind_ok, t1]
            · rw [← List.tail_drop, q5]; rfl
            · rw [← q7]; simp [linesT]
            · rw [t2]; simp
            · rw [t4 i (by omega) h2, q10 i h1 h2])
    (enumFrom 0 ((List.range' oA.length rows.length).map .ref)) ⟨[some (.ref m), some (.ref obs.length), none, none, none], oB⟩
    ⟨0, _, rows, ends, [], oB, none, none, none, rfl, wB, hme, by omega, by simp, fun _ q => q, rfl, rfl, by rw [gB.get aA]; simp, Nat.le_refl _, fun _ _ _ => rfl, Nat.le_refl _⟩
  obtain ⟨k, bs, rs, es, ls, o, z2, z3, z4, q1, q2, q3, q4, q5, q6, q7, rfl, q8, q9, q10, q11⟩ := hI
  cases bs with
  | cons a bs => rw [List.map_cons, enum_cons] at q1; cases q1
  | nil =>
    cases rs with
    | cons _ _ => exact q2.elim
    | nil =>
      have hls : ls = linesT 0 rows ends := by
        rw [← q7]
        cases es <;> simp [linesT]
      subst hls
      have s2 : st_written_2 (d + 1) ⟨[some (.ref m), some (.ref obs.length), none, none, none], oA⟩ = .ok .next ⟨[some (.ref m), some (.ref obs.length), z2, z3, z4], o⟩ := by
        unfold st_written_2
        simp only [ev_for, ev_bind, ev_meth, ev_var, List.getElem?_cons_zero, Out.bind_ok, (hs' (d + 1)).rows, ev_seqM_nil, rA, ev_enumV, ev_getList, tB, ev_pure, k1]
      have hlen := linesT_len 0 rows ends hme
      have hsm := lines_small hmost (k := 0) (rs := rows) (es := ends) (by omega) G.rs
      have hj := fun vars => ev_joinC (c := 10) (vars := vars) q8 (by simp only [List.length_cons]; omega) (fun w hw => by
        rcases List.mem_cons.mp hw with rfl | hw
        · simp [signsW]; omega
        · have := (hsm w hw).1; omega)
      have s3 : st_written_3 (d + 1) ⟨[some (.ref m), some (.ref obs.length), z2, z3, z4], o⟩ = .ok (.ret (.str (textT s rows ends))) ⟨[some (.ref m), some (.ref obs.length), z2, z3, z4], o⟩ := by
        unfold st_written_3 textT
        simp [hj]
      refine ⟨o, ?_, ?_⟩
      · rw [cf_written, ev_runFn 1 5 _ _ _ _ rfl]
        have ee : ([V.ref m].map some ++ List.replicate (5 - 1) none) = [some (.ref m), none, none, none, none] := rfl
        rw [ee]
        simp only [ev_seqS_cons, ev_bind, s1, s2, s3, Out.bind_ok, seqK_next, seqK_ret, ev_pure]
      · refine ⟨o.drop obs.length, ?_⟩
        have : o.take obs.length = obs := by
          apply List.ext_getElem?
          intro i
          rw [List.getElem?_take]
          split
          · rename_i hi
            rw [q10 i (by omega) (by omega)]
            exact (gA.trans gB).same (lo := 0) (hi := obs.length) (Nat.le_refl _) i (Nat.zero_le _) hi
          · rw [List.getElem?_eq_none (by omega)]
        calc o = o.take obs.length ++ o.drop obs.length := (List.take_append_drop _ _).symm
          _ = _ := by rw [this]
end Mine
set_option autoImplicit false
set_option linter.unusedVariables false
set_option linter.unusedSimpArgs false
set_option maxRecDepth 100000
namespace Mine
open PySem
noncomputable def goalsT (gs : List Int) : List Nat := gs.flatMap fun g => 32 :: num g.toNat
theorem goals_len {n : Nat} (hn : n ≤ 20) : ∀ {gs : List Int}, (∀ i ∈ gs, 0 ≤ i ∧ i < (n : Int)) → (goalsT gs).length ≤ 3 * gs.length
  | [], _ => by simp [goalsT]
  | g :: gs, h => by
    have ih := goals_len hn (gs := gs) fun i hi => h i (by simp [hi])
    have := h g (by simp)
    have := num_len (k := g.toNat) (by omega)
    simp only [goalsT, List.flatMap_cons, List.length_append, List.length_cons] at ih ⊢
    omega
theorem goals_snoc (gs : List Int) (g : Int) : goalsT (gs ++ [g]) = goalsT gs ++ ([32] ++ num g.toNat) := by simp [goalsT]
theorem line_eq (k : Nat) (row : List Int) (e : Bool) : joinC 32 (wordsT k row e) = num k ++ [58] ++ goalsT row ++ (if e then [32, 101, 110, 100] else []) := by
  unfold joinC wordsT goalsT endW
  dsimp only
  rw [List.flatMap_append]
  have : (row.map fun g => num g.toNat).flatMap (fun v => 32 :: v) = row.flatMap fun g => 32 :: num g.toNat := by rw [List.flatMap_map]
  rw [this]
  cases e <;> simp
theorem text_goals (d : Nat) {o : List Ob} {a n : Nat} {row : List Int} {vs : List (Option V)} {T : List Nat} {z : Option V} {v0 v1 v2 v4 : Option V} (ha : o[a]? = some (.list (row.map .int))) (hn : n ≤ 20) (hrow : ∀ i ∈ row, 0 ≤ i ∧ i < (n : Int)) (hT : T.length + 3 * row.length ≤ 100000) :
    ∃ z', forItems (.var 5) (bd__law_text_2 d) [(a, .list (row.map .int))] (row.map .int) ⟨[v0, v1, v2, some (.str T), v4, z], o⟩ = .ok .next ⟨[v0, v1, v2, some (.str (T ++ goalsT row)), v4, z'], o⟩ := by
  obtain ⟨st1, k1, dn, rest, h1, h2, z', rfl⟩ := forItems_ok (t := .var 5) (body := bd__law_text_2 d) (c := [(a, .list (row.map .int))])
    (fun l st => ∃ dn rest, row = dn ++ rest ∧ l = rest.map V.int ∧ ∃ z, st = ⟨[v0, v1, v2, some (.str (T ++ goalsT dn)), v4, z], o⟩) (fun _ _ hI => by obtain ⟨_, _, _, _, z, rfl⟩ := hI; exact .one ha) (fun x l st hI => by
      obtain ⟨dn, rest, q1, q2, z, rfl⟩ := hI
      cases rest with
      | nil => cases q2
      | cons g rest =>
        cases q2
        obtain ⟨g1, g2⟩ := hrow g (by rw [q1]; simp)
        refine ⟨⟨[v0, v1, v2, some (.str (T ++ goalsT (dn ++ [g]))), v4, some (.int g)], o⟩, ?_, dn ++ [g], rest, by rw [q1]; simp, rfl, _, rfl⟩
        have hd := goals_len hn (gs := dn) fun i hi => hrow i (by rw [q1]; simp [hi])
        have hlen : dn.length + (rest.length + 1) = row.length := by rw [q1]; simp
        have hg := num_len (k := g.toNat) (by omega)
        have b1 : ((T ++ goalsT dn) ++ [32]).length ≤ 100000 := by simp only [List.length_append, List.length_cons, List.length_nil]; omega
        have b2 : ((T ++ goalsT dn) ++ [32] ++ num g.toNat).length ≤ 100000 := by simp only [List.length_append, List.length_cons, List.length_nil]; omega
        have e : (T ++ goalsT dn) ++ [32] ++ num g.toNat = T ++ goalsT (dn ++ [g]) := by rw [goals_snoc]; simp
        rw [e] at b2
        unfold bd__law_text_2
        simp only [ev_bind, ev_asg_var, ev_setVar, List.length_cons, List.length_nil, Nat.reduceAdd, Nat.reduceLT, if_true, List.set_cons_succ, List.set_cons_zero, Out.bind_ok, ev_seqS_cons, ev_assign, ev_bin, ev_var, List.getElem?_cons_succ, List.getElem?_cons_zero, ev_const, ev_add_str b1, ev_app, ev_seqM_cons, ev_seqM_nil, ev_pure, ev_str' (g := g) ⟨g1, by omega⟩]
        have := ev_add_str (a := (T ++ goalsT dn) ++ [32]) (b := num g.toNat) (by rw [e]; exact b2)
        rw [this, e]
        rfl) (row.map .int) ⟨[v0, v1, v2, some (.str T), v4, z], o⟩ ⟨[], row, rfl, rfl, z, by simp [goalsT]⟩
  cases rest with
  | cons _ _ => cases h2
  | nil =>
    rw [List.append_nil] at h1
    subst h1
    exact ⟨z', k1⟩
theorem joinC_snoc {c : Nat} (w : List Nat) (ws : List (List Nat)) (v : List Nat) : joinC c (w :: (ws ++ [v])) = joinC c (w :: ws) ++ ([c] ++ v) := by simp [joinC]
/- how far the text has come -/
inductive TxI (obs : List Ob) (s : List Nat) (rows : List (List Int)) (ends : List Bool) (r e : Nat) (l : List V) (st : St) : Prop
  | mk (k : Nat) (rs : List (List Int)) (es : List Bool) (ls : List (List Nat)) (o : List Ob) (z4 z5 : Option V) (q1 : l = ((List.range' k rs.length).map fun (i : Nat) => V.int i)) (q2 : k + rs.length = rows.length) (q3 : es.length = rs.length) (q4 : ends.drop k = es) (q5 : rows.drop k = rs) (q6 : ls ++ linesT k rs es = linesT 0 rows ends) (q7 : ls.length = k)
      (hst : st = ⟨[some (.str s), some (.ref r), some (.ref e), some (.str (joinC 10 ((signsW ++ s) :: ls))), z4, z5], o⟩) (g : Gr obs o)
theorem text_ok (d : Nat) {obs : List Ob} {lo hi r e : Nat} {s : List Nat} {rows : List (List Int)} {ends : List Bool} (hR : Rows obs lo hi r rows) (hE : obs[e]? = some (.list (ends.map .bool))) (G : Good s rows ends) (vars : List (Option V)) :
    ∃ obs', cfOf p1 (d + 1) (.fn (nm "_law_text")) [.str s, .ref r, .ref e] ⟨vars, obs⟩ = .ok (.str (textT s rows ends)) ⟨vars, obs'⟩ ∧ Gr obs obs' := by
  obtain ⟨as, hr1, hr2⟩ := hR.has
  have hal := hr2.len
  have h3 := G.signs.three
  have hme := G.ends
  have hmost := G.most
  have e1 : (signsW ++ s).length ≤ 100000 := by simp [signsW]; omega
  have s1 : st__law_text_1 d ⟨[some (.str s), some (.ref r), some (.ref e), none, none, none], obs⟩ = .ok .next ⟨[some (.str s), some (.ref r), some (.ref e), some (.str (signsW ++ s)), none, none], obs⟩ := by
    unfold st__law_text_1
    simp only [ev_assign, ev_bind, ev_bin, ev_const, Out.bind_ok, ev_var, List.getElem?_cons_zero, show ([115, 105, 103, 110, 115, 32] : List Nat) = signsW from rfl, ev_add_str e1]
    rfl
  have r1 : -1000000 ≤ (rows.length : Int) ∧ (rows.length : Int) ≤ 1000000 := by omega
  have r2 : smallR 0 (rows.length : Int) = true := small_small (by omega) (by omega)
  have hal1000 : as.length ≤ 1000 := by omega
  have hsm := lines_small hmost (k := 0) (rs := rows) (es := ends) (by omega) G.rs
  obtain ⟨st1, k1, hI⟩ := forItems_ok (t := .var 4) (body := bd__law_text_3 d) (c := [])
    (TxI obs s rows ends r e) (fun _ _ _ => .nil _) (fun y l st hI => by
      obtain ⟨k, rs, es, ls, o, z4, z5, q1, q2, q3, q4, q5, q6, q7, rfl, g⟩ := hI
      cases rs with
      | nil => cases q1
      | cons row rs =>
        cases es with
        | nil => simp at q3
        | cons b es =>
          simp only [List.length_cons] at q1 q2 q3
          rw [List.range'_succ, List.map_cons] at q1
          cases q1
          have hrk : rows[k]? = some row := by
            have := congrArg List.head? q5
            rw [List.head?_drop] at this
            simpa using this
          have hek : ends[k]? = some b := by
            have := congrArg List.head? q4
            rw [List.head?_drop] at this
            simpa using this
          have hrow := G.rs row (List.mem_of_getElem? hrk)
          obtain ⟨a, ha1, ha2⟩ := hr2.get hrk
          have ha := g.get ha2.2.2
          have hk20 : k < 20 := by omega
          have hnum := num_len hk20
          have hT : (joinC 10 ((signsW ++ s) :: ls)).length ≤ 3000 := by
            have := joinC_len (c := 10) (ws := (signsW ++ s) :: ls) (B := 100) (fun w hw => by
              rcases List.mem_cons.mp hw with rfl | hw
              · simp [signsW]; omega
              · exact (hsm w (by rw [← q6]; simp [hw])).1)
            simp only [List.length_cons] at this
            omega
          generalize hTT : joinC 10 ((signsW ++ s) :: ls) = T at hT ⊢
          have c1 : (T ++ [10]).length ≤ 100000 := by simp; omega
          have c2 : (T ++ [10] ++ num k).length ≤ 100000 := by simp; omega
          have c3 : (T ++ [10] ++ num k ++ [58]).length ≤ 100000 := by simp; omega
          obtain ⟨z', hg⟩ := text_goals d (o := o) (a := a) (n := rows.length) (row := row) (vs := []) (T := T ++ [10] ++ num k ++ [58]) (z := z5) (v0 := some (.str s)) (v1 := some (.ref r)) (v2 := some (.ref e)) (v4 := some (.int k)) ha hmost hrow.2 (by simp; omega)
          have hgl := goals_len hmost hrow.2
          have sub1 := fun vars => sub_ref (g.get hr1) (i := k) (v := .ref a) (by rw [List.getElem?_map, ha1]; rfl) (by simp; omega) vars
          have sub2 := fun vars => sub_ref (g.get hE) (i := k) (v := .bool b) (by rw [List.getElem?_map, hek]; rfl) (by simp; omega)
          generalize hL : o ++ [Ob.list [V.str [32, 101, 110, 100], V.str []]] = oL
          have gL : Gr o oL := ⟨_, hL.symm⟩
          have lL : oL[o.length]? = some (.list [V.str [32, 101, 110, 100], V.str []]) := by rw [← hL, List.getElem?_append_right (Nat.le_refl _)]; simp
          have sub3 := fun vars => sub_ref ((g.trans gL).get hE) (i := k) (v := .bool b) (by rw [List.getElem?_map, hek]; rfl) (by simp; omega) vars
          have hfin : (T ++ [10] ++ num k ++ [58] ++ goalsT row ++ (if b then [32, 101, 110, 100] else [])) = joinC 10 ((signsW ++ s) :: (ls ++ [joinC 32 (wordsT k row b)])) := by
            rw [joinC_snoc, hTT, line_eq]; simp
          have c4 : ((T ++ [10] ++ num k ++ [58] ++ goalsT row) ++ (if b then [32, 101, 110, 100] else [])).length ≤ 100000 := by cases b <;> simp <;> omega
          refine ⟨⟨[some (.str s), some (.ref r), some (.ref e), some (.str (joinC 10 ((signsW ++ s) :: (ls ++ [joinC 32 (wordsT k row b)])))), some (.int k), z'], oL⟩, ?_, k + 1, rs, es, ls ++ [joinC 32 (wordsT k row b)], oL, some (.int k), z', rfl, by omega, by omega, ?_, ?_, ?_, by simp [q7], rfl, g.trans gL⟩
          · unfold bd__law_text_3
            simp only [ev_bind, ev_asg_var, ev_setVar, List.length_cons, List.length_nil, Nat.reduceAdd, Nat.reduceLT, if_true, List.set_cons_succ, List.set_cons_zero, Out.bind_ok, ev_seqS_cons, ev_assign, ev_bin, ev_var, List.getElem?_cons_succ, List.getElem?_cons_zero, ev_const, ev_add_str c1, ev_app, ev_seqM_cons, ev_seqM_nil, ev_pure, ev_str (k := k) (by omega), ev_add_str c2, ev_add_str c3, seqK_next, ev_for, ev_subM, sub1, ev_toSrc_ref, ha, hg]
            simp only [ev_listM, ev_bind, ev_seqM_cons, ev_const, Out.bind_ok, ev_seqM_nil, ev_pure]
            rw [ev_allocL (by simp), hL]
            have hint : ∀ st, fInt [.bool !b] st = .ok (.int (if (!b) = true then 1 else 0)) st := fun st => rfl
            simp only [Out.bind_ok, ev_app, ev_bind, ev_seqM_cons, ev_boolV, ev_not, ev_evB, ev_subM, ev_var, List.getElem?_cons_succ, List.getElem?_cons_zero, sub3, ev_asBool, ev_pure, ev_seqM_nil, hint]
            have hsel : ∀ vars, subV (.ref o.length) (.int (if (!b) = true then 1 else 0)) ⟨vars, oL⟩ = .ok (.str (if b then [32, 101, 110, 100] else [])) ⟨vars, oL⟩ := fun vars => by
              cases b
              · simp only [Bool.not_false, if_true, ev_sub_ref, lL]; rfl
              · simp only [Bool.not_true, Bool.false_eq_true, if_false, ev_sub_ref, lL]; rfl
            simp only [hsel, Out.bind_ok, ev_add_str c4, hfin]
            rfl
          · rw [← List.tail_drop, q4]; rfl
          · rw [← List.tail_drop, q5]; rfl
          · rw [← q6]; simp [linesT])
    ((List.range' 0 rows.length).map fun (i : Nat) => V.int i) ⟨[some (.str s), some (.ref r), some (.ref e), some (.str (signsW ++ s)), none, none], obs⟩
    ⟨0, rows, ends, [], obs, none, none, rfl, by omega, hme, by simp, by simp, rfl, rfl, by simp [joinC], .refl _⟩
  obtain ⟨k, rs, es, ls, o, z4, z5, q1, q2, q3, q4, q5, q6, q7, rfl, g⟩ := hI
  cases rs with
  | cons row rs => simp only [List.length_cons, List.range'_succ, List.map_cons] at q1; cases q1
  | nil =>
    have hls : ls = linesT 0 rows ends := by
      rw [← q6]
      cases es <;> simp [linesT]
    subst hls
    have hitems : (rangeL 0 (rows.length : Int)).map V.int = (List.range' 0 rows.length).map fun (i : Nat) => V.int i := by
      unfold rangeL
      simp only [List.map_map, Int.sub_zero, Int.toNat_natCast, List.range_eq_range']
      apply List.map_congr_left
      intro i _
      simp
    have s2 : st__law_text_2 d ⟨[some (.str s), some (.ref r), some (.ref e), some (.str (signsW ++ s)), none, none], obs⟩ = .ok .next ⟨[some (.str s), some (.ref r), some (.ref e), some (.str (joinC 10 ((signsW ++ s) :: linesT 0 rows ends))), z4, z5], o⟩ := by
      unfold st__law_text_2
      have hl' : ∀ st, lenM (as.map V.ref).length st = .ok (.int rows.length) st := fun st => by rw [ev_lenM (by simpa using hal1000)]; simp [hal]
      simp only [ev_for, ev_bind, ev_app, ev_seqM_cons, ev_var, List.getElem?_cons_succ, List.getElem?_cons_zero, Out.bind_ok, ev_seqM_nil, ev_pure, ev_len_ref, ev_getList, hr1, hl', ev_range1, r1, and_self, if_true, ev_ite, ev_toSrc_range, r2, hitems, k1]
    have s3 : st__law_text_3 d ⟨[some (.str s), some (.ref r), some (.ref e), some (.str (joinC 10 ((signsW ++ s) :: linesT 0 rows ends))), z4, z5], o⟩ = .ok (.ret (.str (textT s rows ends))) ⟨[some (.str s), some (.ref r), some (.ref e), some (.str (joinC 10 ((signsW ++ s) :: linesT 0 rows ends))), z4, z5], o⟩ := by
      unfold st__law_text_3 textT
      rfl
    refine ⟨o, ?_, g⟩
    rw [cf__law_text, ev_runFn 3 6 _ _ _ _ rfl]
    have ee : ([V.str s, V.ref r, V.ref e].map some ++ List.replicate (6 - 3) none) = [some (.str s), some (.ref r), some (.ref e), none, none, none] := rfl
    rw [ee]
    simp only [ev_seqS_cons, ev_bind, s1, s2, s3, Out.bind_ok, seqK_next, seqK_ret, ev_pure]
end Mine
set_option autoImplicit false
set_option linter.unusedVariables false
set_option linter.unusedSimpArgs false
set_option maxRecDepth 100000
namespace Mine
open PySem
/- texts compared -/
theorem text_eq {a b : List Nat} (ha : ∀ c ∈ a, c < 1114112) (hb : ∀ c ∈ b, c < 1114112) (st : St) : pyEq (.str a) (.str b) st = .ok (decide (a = b)) st := by
  obtain ⟨vars, obs⟩ := st
  have sh : ∀ {x : List Nat}, (∀ c ∈ x, c < 1114112) → SeqAt.shaped (.str ⟨x.toArray⟩) = true := fun {x} hx => by
    unfold SeqAt.shaped
    simp only [PyData.canLay0, PyData.strOk, PyData.depth, Bool.and_eq_true, decide_eq_true_eq]
    refine ⟨?_, rfl⟩
    simp only [List.size_toArray, List.all_toArray', List.all_eq_true, decide_eq_true_eq]
    exact hx
  unfold pyEq
  rw [ev_withObs]
  have e : eqO obs (.str a) (.str b) = some (decide (a = b)) := by
    show (if SeqAt.shaped (.str ⟨a.toArray⟩) && SeqAt.shaped (.str ⟨b.toArray⟩) then some (PyData.eqv (.str ⟨a.toArray⟩) (.str ⟨b.toArray⟩)) else none) = _
    rw [sh ha, sh hb]
    simp only [Bool.and_self, if_true, PyData.eqv, Option.some.injEq]
    rw [Bool.eq_iff_iff]
    simp
  rw [e]
theorem slice_init {α : Type} (xs : List α) (h : 1 ≤ xs.length) : sliceL xs none (some (-1)) = xs.dropLast := by
  unfold sliceL clipAt
  simp only [Option.elim]
  have e : (max 0 (min (if (-1 : Int) < 0 then -1 + (xs.length : Int) else -1) (xs.length : Int))).toNat = xs.length - 1 := by
    rw [if_pos (by decide)]; omega
  rw [e]
  simp [List.dropLast_eq_take]
theorem idx_last {α : Type} {xs : List α} {v : α} (h : xs.getLast? = some v) (hl : xs.length ≤ 1000) : idxL xs (-1) = some v := by
  unfold idxL big
  have hp : 1 ≤ xs.length := by cases xs with
    | nil => simp at h
    | cons _ _ => simp
  rw [if_neg (by decide), if_pos (by omega)]
  have e : (-1 + (xs.length : Int)).toNat = xs.length - 1 := by omega
  rw [e, ← List.getLast?_eq_getElem?]
  exact h
theorem last_word {k : Nat} {row : List Int} {e : Bool} (hk : k < 20) {n : Nat} (hn : n ≤ 20) (hrow : ∀ i ∈ row, 0 ≤ i ∧ i < (n : Int)) : ∃ w, (wordsT k row e).getLast? = some w ∧ (w = [101, 110, 100] ↔ e = true) ∧ ∀ c ∈ w, c < 1114112 := by
  have hw := words_small hk hn hrow e
  have hne : wordsT k row e ≠ [] := by simp [wordsT]
  obtain ⟨w, h⟩ : ∃ w, (wordsT k row e).getLast? = some w := ⟨_, List.getLast?_eq_some_getLast hne⟩
  have hm : w ∈ wordsT k row e := List.mem_of_getLast? h
  refine ⟨w, h, ?_, fun c hc => by rcases (hw w hm).2 c hc with q | q | q <;> omega⟩
  cases e with
  | true =>
    have : (wordsT k row true).getLast? = some [101, 110, 100] := by
      show (((num k ++ [58]) :: row.map fun (g : Int) => num g.toNat) ++ [[101, 110, 100]]).getLast? = _
      exact List.getLast?_concat
    rw [h] at this
    cases this
    simp
  | false =>
    refine ⟨fun q => ?_, fun q => by cases q⟩
    subst q
    unfold wordsT endW at hm
    simp only [Bool.false_eq_true, if_false, List.append_nil, List.mem_cons, List.mem_map] at hm
    rcases hm with q | ⟨g, hg, q⟩
    · have := num_digits hk (c := 101) (by
        have h2 : (101 : Nat) ∈ num k ++ [58] := by rw [← q]; simp
        rcases List.mem_append.mp h2 with r | r
        · exact r
        · simp at r)
      omega
    · obtain ⟨g1, g2⟩ := hrow g hg
      have := num_digits (k := g.toNat) (by omega) (c := 101) (by rw [q]; simp)
      omega
/- one line is read -/
theorem read_turn (d : Nat) {o0 o : List Ob} {k n R E : Nat} {s : List Nat} {rs : List (List Int)} {es : List Bool} {row : List Int} {e : Bool} {Lr : Nat} {z5 z6 : Option V} {K : Nat} (hK : K < 20) (hn : n ≤ 20) (D : Drawn o0 o k n R E rs es) (hk : row.length = k) (hk3 : k ≤ 3) (hrow : ∀ i ∈ row, 0 ≤ i ∧ i < (n : Int)) (hrl : rs.length ≤ 20) (hel : es.length ≤ 20) :
    ∃ o' z5' z6', bd_machine_of_4 (d + 1) ⟨[some (.str s), some (.ref Lr), some (.ref R), some (.ref E), some (.str (joinC 32 (wordsT K row e))), z5, z6], o⟩ = .ok .next ⟨[some (.str s), some (.ref Lr), some (.ref R), some (.ref E), some (.str (joinC 32 (wordsT K row e))), z5', z6'], o'⟩ ∧ Drawn o0 o' k n R E (rs ++ [row]) (es ++ [e]) := by
  obtain ⟨as, h1, h2, h3, h4⟩ := D.rw
  have has := h2.len
  have hws := words_small hK hn hrow e
  have hwl : (wordsT K row e).length ≤ 5 := by unfold wordsT endW; cases e <;> simp <;> omega
  have hjl := joinC_len (c := 32) (ws := wordsT K row e) (B := 3) fun w hw => (hws w hw).1
  obtain ⟨w0, wt, hwt⟩ : ∃ w0 wt, wordsT K row e = w0 :: wt := ⟨_, _, rfl⟩
  have hsp := fun vars => ev_split (x := joinC 32 (wordsT K row e)) (c := 32) (w := w0) (ws := wt) (by rw [hwt]) (by omega) (fun v hv => by
    rw [← hwt] at hv
    intro hc
    rcases (hws v hv).2 32 hc with q | q | q <;> omega) vars o
  rw [← hwt] at hsp
  generalize hA : o ++ [Ob.list ((wordsT K row e).map V.str)] = oA at hsp
  have gA : Gr o oA := ⟨_, hA.symm⟩
  have lA : oA.length = o.length + 1 := by rw [← hA]; simp
  have aA : oA[o.length]? = some (.list ((wordsT K row e).map V.str)) := by rw [← hA, List.getElem?_append_right (Nat.le_refl _)]; simp
  obtain ⟨w, hw1, hw2, hw3⟩ := last_word (e := e) hK hn hrow
  have hlast : ∀ vars, subV (.ref o.length) (.int (-1)) ⟨vars, oA⟩ = .ok (.str w) ⟨vars, oA⟩ := fun vars => by
    simp only [ev_sub_ref, aA]
    rw [idx_last (v := .str w) (by rw [List.getLast?_map, hw1]; rfl) (by simp; omega)]
    rfl
  have heq : ∀ st, pyEq (.str w) (.str [101, 110, 100]) st = .ok e st := fun st => by
    rw [text_eq hw3 (by simp)]
    have : decide (w = [101, 110, 100]) = e := by
      cases e with
      | true => simp [hw2.mpr rfl]
      | false => simp; intro q; cases hw2.mp q
    rw [this]
  -- the words without the end
  have key : ∃ (B : Nat) (oB : List Ob), (iteM (evB (varM 6)) (seqS [assignM (.var 5) (sliceM (varM 5) none (some (negM (constM (.int 1)))))]) (seqS [])) ⟨[some (.str s), some (.ref Lr), some (.ref R), some (.ref E), some (.str (joinC 32 (wordsT K row e))), some (.ref o.length), some (.bool e)], oA⟩ = .ok .next ⟨[some (.str s), some (.ref Lr), some (.ref R), some (.ref E), some (.str (joinC 32 (wordsT K row e))), some (.ref B), some (.bool e)], oB⟩ ∧
      oB[B]? = some (.list (((num K ++ [58]) :: row.map fun g => num g.toNat).map V.str)) ∧ Gr oA oB := by
    cases e with
    | false =>
      refine ⟨o.length, oA, by simp, ?_, .refl _⟩
      rw [aA]; simp [wordsT, endW]
    | true =>
      refine ⟨oA.length, oA ++ [.list (((num K ++ [58]) :: row.map fun g => num g.toNat).map V.str)], ?_, ?_, .add _ _⟩
      · have hneg : ∀ st, negM (constM (.int 1)) st = .ok (.int (-1)) st := fun st => rfl
        have hsl : sliceL ((wordsT K row true).map V.str) none (some (-1)) = ((num K ++ [58]) :: row.map fun g => num g.toNat).map V.str := by
          rw [slice_init _ (by simp [wordsT]), ← List.map_dropLast]
          congr 1
          show (((num K ++ [58]) :: row.map fun (g : Int) => num g.toNat) ++ [[101, 110, 100]]).dropLast = _
          rw [List.dropLast_concat]
        simp only [ev_iteM, ev_bind, ev_evB, ev_var, List.getElem?_cons_succ, List.getElem?_cons_zero, Out.bind_ok, ev_asBool, ev_pure, if_true, ev_seqS_cons, ev_assign, ev_sliceM, ev_optI_none, ev_optI_some, hneg, ev_asInt, ev_slice_ref, ev_getList, aA]
        rw [ev_sliS _ _ (by simp; omega), hsl]
        rfl
      · rw [List.getElem?_append_right (Nat.le_refl _)]; simp
  obtain ⟨B, oB, k1, k2, gB⟩ := key
  generalize hC : oB ++ [Ob.list ((row.map fun g => num g.toNat).map V.str)] = oC
  have gC : Gr oB oC := ⟨_, hC.symm⟩
  have cC : oC[oB.length]? = some (.list ((row.map fun g => num g.toNat).map V.str)) := by rw [← hC, List.getElem?_append_right (Nat.le_refl _)]; simp
  have gC' : Gr o oC := gA.trans (gB.trans gC)
  have lC := gC'.len
  have hcomp : ∀ vars, vars.length = 7 → vars[5]? = some (some (.ref B)) → compM 7 1 ((sliceM (varM 5) (some (constM (.int 1))) none).bind toSrc) (.var 7) (andM []) (bd_machine_of_3 (d + 1)) ⟨vars, oB⟩ = .ok (.ref oC.length) ⟨vars, oC ++ [.list (row.map .int)]⟩ := fun vars hv h5 => by
    have hsrc : ((sliceM (varM 5) (some (constM (.int 1))) none).bind toSrc) ⟨vars, oB⟩ = .ok ⟨(row.map fun g => num g.toNat).map V.str, [(oB.length, .list ((row.map fun g => num g.toNat).map V.str))]⟩ ⟨vars, oC⟩ := by
      simp only [ev_bind, ev_sliceM, ev_var, h5, Out.bind_ok, ev_optI_some, ev_const, ev_asInt, ev_pure, ev_optI_none, ev_slice_ref, ev_getList, k2]
      rw [ev_sliS _ _ (by simp; omega), slice_tail]
      simp only [List.map_cons, List.drop_succ_cons, List.drop_zero, ev_alloc, hC, Out.bind_ok, ev_toSrc_ref, cC]
    obtain ⟨vs, o', hI, h3⟩ := comp1 (elt := bd_machine_of_3 (d + 1)) hv hsrc (by simp; omega) (fun l acc o => o = oC ∧ ∃ dn rest, row = dn ++ rest ∧ l = (rest.map fun g => num g.toNat).map V.str ∧ acc = dn.map V.int) ⟨rfl, [], row, rfl, rfl, rfl⟩ (fun l acc o h => h.1 ▸ .one cC) (fun x l acc o h => by
      obtain ⟨rfl, dn, rest, q1, q2, rfl⟩ := h
      cases rest with
      | nil => cases q2
      | cons g rest =>
        cases q2
        obtain ⟨g1, g2⟩ := hrow g (by rw [q1]; simp)
        refine ⟨.int g, o, ?_, rfl, dn ++ [g], rest, by rw [q1]; simp, rfl, by simp⟩
        have e : (vars ++ [some (V.str (num g.toNat))])[7]? = some (some (.str (num g.toNat))) := by rw [List.getElem?_append_right (by omega), hv]; rfl
        have hk : g.toNat < 20 := by omega
        have hn' := number_eq d hk
        rw [Int.toNat_of_nonneg g1] at hn'
        unfold bd_machine_of_3
        simp only [ev_app, ev_bind, ev_seqM_cons, ev_var, e, Out.bind_ok, ev_seqM_nil, ev_pure, hn'])
    obtain ⟨rfl, dn, rest, q1, q2, rfl⟩ := hI
    cases rest with
    | cons _ _ => cases q2
    | nil =>
      rw [List.append_nil] at q1
      subst q1
      exact h3
  -- what is drawn so far, at the later ledger
  have D' : Drawn o0 oC k n R E rs es := ⟨D.gr.trans gC', D.r, D.e, D.ne, gC'.get D.el, ⟨as, gC'.get h1, (h2.same (gC'.same (Nat.le_refl _))).wide (Nat.le_refl _) lC, h3, h4⟩, D.row⟩
  have hR := gC'.get h1
  generalize hF : oC ++ [Ob.list (row.map .int)] = oF at hcomp
  have hF' : oC ++ [rowO row] = oF := hF
  have gF : Gr oC oF := ⟨_, hF.symm⟩
  have a1 := fun vars => app_at (v := .ref oC.length) (gF.get hR) (by simp; omega) vars
  generalize hG : oF.set R (.list (as.map .ref ++ [.ref oC.length])) = oG
  rw [hG] at a1
  have he2 : oG[E]? = some (.list (es.map .bool)) := by rw [← hG, List.getElem?_set_ne D.ne]; exact gF.get (gC'.get D.el)
  have a2 := fun vars => app_at (v := .bool e) he2 (by simp; omega) vars
  have hRB : oB[R]? = some (.list (as.map .ref)) := (gA.trans gB).get h1
  refine ⟨oG.set E (.list (es.map .bool ++ [.bool e])), some (.ref B), some (.bool e), ?_, ?_⟩
  · have hcomp' := hcomp [some (.str s), some (.ref Lr), some (.ref R), some (.ref E), some (.str (joinC 32 (wordsT K row e))), some (.ref B), some (.bool e)] rfl rfl
    unfold bd_machine_of_4
    have hneg : ∀ st, negM (constM (.int 1)) st = .ok (.int (-1)) st := fun st => rfl
    simp only [ev_seqS_cons, ev_bind, ev_assign, ev_meth, ev_var, List.getElem?_cons_succ, List.getElem?_cons_zero, Out.bind_ok, ev_pickS, ev_pure, ev_seqM_cons, ev_const, ev_seqM_nil, hsp, ev_asg_var, ev_setVar, List.length_cons, List.length_nil, Nat.reduceAdd, Nat.reduceLT, if_true, List.set_cons_succ, List.set_cons_zero, seqK_next, ev_boolV, ev_cmp, ev_subM, hneg, hlast, ev_chain1, ev_eq, heq, k1]
    simp only [ev_expr, ev_bind, ev_meth, ev_var, List.getElem?_cons_succ, List.getElem?_cons_zero, Out.bind_ok, ev_pickL, ev_getList, hRB, ev_pure, ev_seqM_cons, hcomp', ev_seqM_nil, a1, seqK_next, he2, a2, ev_seqS_nil, ev_seqS_cons]
  · rw [← hG, ← hF']
    exact D'.more hR ⟨hk, hrow⟩
end Mine
set_option autoImplicit false
set_option linter.unusedVariables false
set_option linter.unusedSimpArgs false
set_option maxRecDepth 100000
namespace Mine
open PySem
theorem linesT_cons (k : Nat) (r : List Int) (rs : List (List Int)) (e : Bool) (es : List Bool) : linesT k (r :: rs) (e :: es) = joinC 32 (wordsT k r e) :: linesT (k + 1) rs es := id rfl
/- how far the reading has come -/
inductive MoI (obs : List Ob) (Lr : Nat) (s : List Nat) (rows : List (List Int)) (ends : List Bool) (l : List V) (st : St) : Prop
  | mk (rs1 rs2 : List (List Int)) (es1 es2 : List Bool) (q1 : rows = rs1 ++ rs2) (q2 : ends = es1 ++ es2) (q3 : es1.length = rs1.length) (q4 : es2.length = rs2.length) (q5 : l = (linesT rs1.length rs2 es2).map V.str) (z4 z5 z6 : Option V) (o' : List Ob)
      (hst : st = ⟨[some (.str s), some (.ref Lr), some (.ref obs.length), some (.ref (obs.length + 1)), z4, z5, z6], o'⟩) (D : Drawn obs o' s.length rows.length obs.length (obs.length + 1) rs1 es1)
theorem machine_of_ok (d : Nat) {obs : List Ob} {Lr : Nat} {s : List Nat} {rows : List (List Int)} {ends : List Bool} (G : Good s rows ends) (hL : obs[Lr]? = some (.list ((linesT 0 rows ends).map V.str))) (vars : List (Option V)) :
    ∃ m lo obs', cfOf p1 (d + 5) (.fn (nm "machine_of")) [.str s, .ref Lr] ⟨vars, obs⟩ = .ok (.ref m) ⟨vars, obs'⟩ ∧ Gr obs obs' ∧ Mach obs' lo obs'.length m s rows ends := by
  have h3 := G.signs.three
  have hme := G.ends
  have hmost := G.most
  generalize ho : obs ++ [Ob.list []] ++ [Ob.list []] = o
  have lo : o.length = obs.length + 2 := by rw [← ho]; simp
  have D0 : Drawn obs o s.length rows.length obs.length (obs.length + 1) [] [] := by
    refine ⟨⟨_, by rw [← ho, List.append_assoc]⟩, Nat.le_refl _, Nat.le_succ _, by omega, ?_, ⟨[], ?_, trivial, by simp, by simp⟩, fun w hw => (nomatch hw)⟩
    · rw [← ho, List.getElem?_append_right (by simp)]; simp
    · rw [← ho, List.append_assoc, List.getElem?_append_right (Nat.le_refl _)]; simp
  obtain ⟨st1, k1, rs1, rs2, es1, es2, q1, q2, q3, q4, q5, z4, z5, z6, o', rfl, D⟩ := forItems_ok (t := .var 4) (body := bd_machine_of_4 (d + 4)) (c := [(Lr, .list ((linesT 0 rows ends).map V.str))])
    (MoI obs Lr s rows ends)
    (fun l st hI => by
      obtain ⟨_, _, _, _, _, _, _, _, _, _, _, _, o', rfl, D⟩ := hI
      exact .one (D.gr.get hL))
    (fun x l st hI => by
      obtain ⟨rs1, rs2, es1, es2, q1, q2, q3, q4, q5, z4, z5, z6, o', rfl, D⟩ := hI
      cases rs2 with
      | nil => cases es2 <;> simp [linesT] at q5
      | cons row rs2 =>
        cases es2 with
        | nil => simp at q4
        | cons e es2 =>
          rw [linesT_cons, List.map_cons] at q5
          injection q5 with q5 q6
          subst q5
          have hrow := G.row row (by rw [q1]; simp)
          have hlen := congrArg List.length q1
          simp only [List.length_append, List.length_cons] at hlen
          obtain ⟨o'', z5', z6', t1, t2⟩ := read_turn (d + 3) (K := rs1.length) (s := s) (Lr := Lr) (e := e) (z5 := z5) (z6 := z6) (by omega) hmost D hrow.1 h3 hrow.2 (by omega) (by omega)
          refine ⟨_, ?_, rs1 ++ [row], rs2, es1 ++ [e], es2, by rw [q1]; simp, by rw [q2]; simp, by simp [q3], by simpa using q4, by rw [q6]; simp, some (.str (joinC 32 (wordsT rs1.length row e))), z5', z6', o'', rfl, t2⟩
          rw [ev_bind, ev_asg_var, ev_setVar]
          exact t1) ((linesT 0 rows ends).map V.str) ⟨[some (.str s), some (.ref Lr), some (.ref obs.length), some (.ref (obs.length + 1)), none, none, none], o⟩
    ⟨[], rows, [], ends, rfl, rfl, rfl, hme, rfl, none, none, none, o, rfl, D0⟩
  have hr2 : rs2 = [] := by
    cases rs2 with
    | nil => rfl
    | cons r rs2 => cases es2 with
      | nil => simp at q4
      | cons e es2 => rw [linesT_cons] at q5; cases q5
  subst hr2
  have he2 : es2 = [] := List.length_eq_zero_iff.mp (by simpa using q4)
  subst he2
  rw [List.append_nil] at q1 q2
  subst q1 q2
  obtain ⟨as, w1, w2, w3, w4⟩ := D.rw
  obtain ⟨obs', n1, n2, n3⟩ := init_eq d G (obs := o') (lo := obs.length) (hi := o'.length) (r := obs.length) (e := obs.length + 1) ⟨Nat.le_refl _, (List.getElem?_eq_some_iff.mp w1).1, as, w1, w2⟩ (Nat.le_refl _) D.el [some (.str s), some (.ref Lr), some (.ref obs.length), some (.ref (obs.length + 1)), z4, z5, z6]
  refine ⟨o'.length + 1, o'.length, obs', ?_, D.gr.trans n2, n3⟩
  rw [cf_machine_of, ev_runFn 2 7 _ _ _ _ rfl]
  have ee : ([V.str s, V.ref Lr].map some ++ List.replicate (7 - 2) none) = [some (.str s), some (.ref Lr), none, none, none, none, none] := rfl
  rw [ee]
  have s12 : (seqS [st_machine_of_1 (d + 4), st_machine_of_2 (d + 4), st_machine_of_3 (d + 4), st_machine_of_4 (d + 4)]) ⟨[some (.str s), some (.ref Lr), none, none, none, none, none], obs⟩ = .ok (.ret (.ref (o'.length + 1))) ⟨[some (.str s), some (.ref Lr), some (.ref obs.length), some (.ref (obs.length + 1)), z4, z5, z6], obs'⟩ := by
    have ho' : obs ++ [Ob.list [], Ob.list []] = o := by rw [← ho]; simp
    have hLo : o[Lr]? = _ := D0.gr.get hL
    unfold st_machine_of_1 st_machine_of_2 st_machine_of_3 st_machine_of_4
    simp [ho', hLo, k1, n1]
  rw [s12]
end Mine
set_option autoImplicit false
set_option linter.unusedVariables false
set_option linter.unusedSimpArgs false
set_option maxRecDepth 100000
namespace Mine
open PySem
theorem joinC_mem {c x : Nat} {ws : List (List Nat)} (h : x ∈ joinC c ws) : x = c ∨ ∃ w ∈ ws, x ∈ w := by
  cases ws with
  | nil => simp [joinC] at h
  | cons w ws =>
    rcases List.mem_append.mp h with q | q
    · exact .inr ⟨w, by simp, q⟩
    · obtain ⟨v, hv, hc'⟩ := List.mem_flatMap.mp q
      rcases List.mem_cons.mp hc' with rfl | q
      · exact .inl rfl
      · exact .inr ⟨v, by simp [hv], q⟩
theorem all_small {s : List Nat} {rows : List (List Int)} {ends : List Bool} (G : Good s rows ends) : ∀ l ∈ (signsW ++ s) :: linesT 0 rows ends, l.length ≤ 100 ∧ ∀ c ∈ l, 32 ≤ c ∧ c ≤ 122 := fun l hl => by
  rcases List.mem_cons.mp hl with rfl | hl
  · have h3 := G.signs.three
    refine ⟨by simp [signsW]; omega, fun c hc => ?_⟩
    rcases List.mem_append.mp hc with q | q
    · simp [signsW] at q; omega
    · have := G.signs.az c q; omega
  · have := lines_small (es := ends) G.most (k := 0) (by omega) G.rs l hl
    exact ⟨this.1, fun c hc => by rcases this.2 c hc with q | q | q | q <;> omega⟩
theorem text_len {s : List Nat} {rows : List (List Int)} {ends : List Bool} (G : Good s rows ends) : (textT s rows ends).length ≤ 10000 := by
  have h1 := joinC_len (c := 10) (ws := (signsW ++ s) :: linesT 0 rows ends) (B := 100) fun w hw => (all_small G w hw).1
  have h2 := linesT_len 0 rows ends G.ends
  have h3 := G.most
  simp only [List.length_cons, h2] at h1
  have h4 : (rows.length + 1) * (100 + 1) ≤ 21 * 101 := Nat.mul_le_mul (by omega) (Nat.le_refl _)
  exact Nat.le_trans h1 (by omega)
theorem text_chr {s : List Nat} {rows : List (List Int)} {ends : List Bool} (G : Good s rows ends) : ∀ c ∈ textT s rows ends, c < 1114112 := fun c hc => by
  rcases joinC_mem hc with rfl | ⟨w, hw, hc⟩
  · decide
  · have := (all_small G w hw).2 c hc; omega
theorem text_self {s : List Nat} {rows : List (List Int)} {ends : List Bool} (G : Good s rows ends) (st : St) : pyEq (.str (textT s rows ends)) (.str (textT s rows ends)) st = .ok true st := by
  rw [text_eq (text_chr G) (text_chr G)]; simp
theorem read_ok (d : Nat) {obs : List Ob} {s : List Nat} {rows : List (List Int)} {ends : List Bool} (G : Good s rows ends) (vars : List (Option V)) :
    ∃ m lo hi obs', cfOf p1 (d + 6) (.fn (nm "read")) [.str (textT s rows ends)] ⟨vars, obs⟩ = .ok (.ref m) ⟨vars, obs'⟩ ∧ Gr obs obs' ∧ Mach obs' lo hi m s rows ends ∧ hi ≤ obs'.length := by
  have htl := text_len G
  have hts := text_self G
  have hln := linesT_len 0 rows ends G.ends
  have hmost := G.most
  have h3 := G.signs.three
  have hsp := fun vars => ev_split (x := textT s rows ends) (c := 10) (w := signsW ++ s) (ws := linesT 0 rows ends) rfl (by omega) (fun v hv hc => by have := (all_small G v hv).2 10 hc; omega) vars obs
  generalize hA : obs ++ [Ob.list (((signsW ++ s) :: linesT 0 rows ends).map V.str)] = oA at hsp
  have gA : Gr obs oA := ⟨_, hA.symm⟩
  have aA : oA[obs.length]? = some (.list (((signsW ++ s) :: linesT 0 rows ends).map V.str)) := by rw [← hA, List.getElem?_append_right (Nat.le_refl _)]; simp
  generalize hB : oA ++ [Ob.list ((linesT 0 rows ends).map V.str)] = oB
  have gB : Gr oA oB := ⟨_, hB.symm⟩
  have bB : oB[oA.length]? = some (.list ((linesT 0 rows ends).map V.str)) := by rw [← hB, List.getElem?_append_right (Nat.le_refl _)]; simp
  generalize htx : textT s rows ends = T at hsp hts
  have s1 : st_read_1 (d + 5) ⟨[some (.str T), none, none], obs⟩ = .ok .next ⟨[some (.str T), none, none], obs⟩ := by
    unfold st_read_1; simp
  have s2 : st_read_2 (d + 5) ⟨[some (.str T), none, none], obs⟩ = .ok .next ⟨[some (.str T), some (.ref obs.length), none], oA⟩ := by
    unfold st_read_2; simp [hsp]
  have s3 : st_read_3 (d + 5) ⟨[some (.str T), some (.ref obs.length), none], oA⟩ = .ok .next ⟨[some (.str T), some (.ref obs.length), some .none], oA⟩ := by
    unfold st_read_3; simp
  obtain ⟨m, lo, oC, c1, gC, x⟩ := machine_of_ok d G bB [some (.str T), some (.ref obs.length), some .none]
  have h0 : ∀ vars, subV (.ref obs.length) (.int 0) ⟨vars, oA⟩ = .ok (.str (signsW ++ s)) ⟨vars, oA⟩ := fun vars => by
    simp only [ev_sub_ref, aA, List.map_cons, idx0]; rfl
  have hst : ∀ st, mStarts [.str (signsW ++ s), .str signsW] st = .ok (.bool true) st := fun st => by
    show Out.ok (V.bool (Txt.startswith (mkS (signsW ++ s)) (mkS signsW))) st = _
    rw [starts_app]
  have hsl : ∀ st, sliceV (.str (signsW ++ s)) (some 6) none st = .ok (.str s) st := fun st => by
    have e : sliceV (.str (signsW ++ s)) (some 6) none = M.pure (.str (Txt.slice ⟨(signsW ++ s).toArray⟩ (some 6) none).cps.toList) := if_pos (by unfold lim; simp [signsW]; omega)
    have e2 := slice_app signsW s
    rw [e, show ((signsW.length : Nat) : Int) = 6 from rfl] at *
    rw [e2]; rfl
  have s4 : st_read_4 (d + 5) ⟨[some (.str T), some (.ref obs.length), some .none], oA⟩ = .ok .next ⟨[some (.str T), some (.ref obs.length), some (.ref m)], oC⟩ := by
    unfold st_read_4
    simp only [ev_iteM, ev_bind, ev_evB, ev_meth, ev_subM, ev_var, List.getElem?_cons_succ, List.getElem?_cons_zero, Out.bind_ok, ev_const, h0, ev_pickS, ev_pure, ev_seqM_cons, ev_seqM_nil, show ([115, 105, 103, 110, 115, 32] : List Nat) = signsW from rfl, hst, ev_asBool, if_true, ev_seqS_cons, ev_assign, ev_app, ev_sliceM, ev_optI_some, ev_optI_none, ev_asInt, hsl, ev_slice_ref, ev_getList, aA]
    rw [ev_sliS _ _ (by simp; omega), slice_tail]
    simp only [List.map_cons, List.drop_succ_cons, List.drop_zero, ev_alloc, hB, Out.bind_ok, ev_bind, ev_seqM_nil, ev_pure, c1, ev_asg_var, ev_setVar, List.length_cons, List.length_nil, Nat.reduceAdd, Nat.reduceLT, if_true, List.set_cons_succ, List.set_cons_zero, seqK_next, ev_seqS_nil, ev_pure]
  obtain ⟨oD, w1, gD⟩ := written_ok (d + 3) x (Nat.le_refl _) G [some (.str T), some (.ref obs.length), some (.ref m)]
  rw [htx] at w1
  have s5 : st_read_5 (d + 5) ⟨[some (.str T), some (.ref obs.length), some (.ref m)], oC⟩ = .ok .next ⟨[some (.str T), some (.ref obs.length), some (.ref m)], oD⟩ := by
    unfold st_read_5
    have hn : ∀ st, cmpV .Is (.ref m) .none st = .ok false st := fun st => rfl
    simp [hn, w1, hts]
  have s6 : st_read_6 (d + 5) ⟨[some (.str T), some (.ref obs.length), some (.ref m)], oD⟩ = .ok (.ret (.ref m)) ⟨[some (.str T), some (.ref obs.length), some (.ref m)], oD⟩ := by
    unfold st_read_6; simp
  refine ⟨m, lo, oC.length, oD, ?_, gA.trans (gB.trans (gC.trans gD)), x.same (gD.same (Nat.le_refl _)), gD.len⟩
  rw [cf_read, ev_runFn 1 3 _ _ _ _ rfl]
  have ee : ([V.str T].map some ++ List.replicate (3 - 1) none) = [some (.str T), none, none] := rfl
  rw [ee]
  simp only [ev_seqS_cons, ev_bind, s1, s2, s3, s4, s5, s6, Out.bind_ok, seqK_next, seqK_ret, ev_pure]
end Mine
set_option autoImplicit false
set_option linter.unusedVariables false
set_option linter.unusedSimpArgs false
set_option maxRecDepth 100000
namespace Mine
open PySem
theorem heavy_div4 {n : Nat} {c : Int} (hn : 0 < n) (h : heavy n c) : heavy n (c / 4) := by
  have h1 : (c / 4).natAbs ≤ c.natAbs := by omega
  exact log2_of_lt hn (Nat.lt_of_le_of_lt h1 (lt_of_log2 h))
noncomputable def grG (c : Int) (n i : Nat) : V → V
  | .int p => .int (mixed c (3 * i + p) / 16 % n)
  | _ => .none
noncomputable def grL (c : Int) (n k i : Nat) : List Int := (List.range k).map fun (p : Nat) => mixed c (3 * i + p) / 16 % (n : Int)
noncomputable def greG (c : Int) : V → V
  | .int p => .bool (mixed c p / 64 % 2 == 1)
  | _ => .none
theorem gr_row (d : Nat) {c : Int} (hc : heavy 1048577 c) {k n i : Nat} (hk : 1 ≤ k ∧ k ≤ 3) (hn : 11 ≤ n ∧ n ≤ 20) (hi : i < n) (z : Option V) (o : List Ob) :
    bd__law_great_2 (d + 1) ⟨[some (.int c), some (.int k), some (.int n), z, some (.int i)], o⟩ = .ok (.ref o.length) ⟨[some (.int c), some (.int k), some (.int n), z, some (.int i)], o ++ [rowO (grL c n k i)]⟩ := by
  have r1 : -1000000 ≤ (k : Int) ∧ (k : Int) ≤ 1000000 := by omega
  have r2 : smallR 0 (k : Int) = true := small_small (by omega) (by omega)
  have hnpos : (0 : Int) < n := by omega
  have h := comp1_pure (b := 5) (vars := [some (.int c), some (.int k), some (.int n), z, some (.int i)]) (obs := o) (obs0 := o) (src := (appM fRange [varM 1]).bind toSrc) (elt := bd__law_great_1 (d + 1)) (c := []) rfl
    (items := (rangeL 0 k).map .int) (by simp only [ev_bind, ev_app, ev_seqM_cons, ev_var, List.getElem?_cons_succ, List.getElem?_cons_zero, Out.bind_ok, ev_seqM_nil, ev_pure, ev_range1, r1, and_self, if_true, ev_toSrc_range, r2, ev_ite]) (by rw [range_len]; omega) (.nil _) (grG c n i) (fun x hx => by
      obtain ⟨p, rfl, hp⟩ := mem_range hx
      rw [Int.zero_add] at hp ⊢
      have hm : mulG 3 (i : Int) := mulG_of (n := 31) (m := 31) (heavy_31 (by omega)) (heavy_31 (by omega)) (by decide)
      have hmx := fun st => mixed_eq d c (3 * i + p : Int) st hc (by omega)
      simp [bd__law_great_1, hm, hmx, ev_mod_pos hnpos, grG])
  rw [range_map] at h
  have e1 : (List.range (k : Int).toNat).map (fun (p : Nat) => grG c n i (.int p)) = (grL c n k i).map .int := by
    unfold grL; simp only [List.map_map, Int.toNat_natCast]; rfl
  rw [e1] at h
  exact h
theorem great_ok (d : Nat) {c : Int} (hc : heavy 1048577 c) {k : Nat} (hk : 1 ≤ k ∧ k ≤ 3) (vars : List (Option V)) (obs : List Ob) :
    ∃ (rows : List (List Int)) (ends : List Bool) (r e : Nat) (obs' : List Ob), cfOf p1 (d + 2) (.fn (nm "_law_great")) [.int c, .int k] ⟨vars, obs⟩ = .ok (.tuple [.ref r, .ref e]) ⟨vars, obs'⟩ ∧ Gr obs obs' ∧ Rows obs' 0 obs'.length r rows ∧ obs'[e]? = some (.list (ends.map .bool)) ∧
      1 ≤ rows.length ∧ rows.length ≤ 20 ∧ ends.length = rows.length ∧ ∀ w ∈ rows, w.length = k ∧ ∀ i ∈ w, 0 ≤ i ∧ i < (rows.length : Int) := by
  obtain ⟨n, hn⟩ : ∃ n : Nat, 11 + c % 10 = (n : Int) := ⟨(11 + c % 10).toNat, by omega⟩
  have hn8 : 11 ≤ n ∧ n ≤ 20 := by omega
  have r1 : -1000000 ≤ (n : Int) ∧ (n : Int) ≤ 1000000 := by omega
  have r2 : smallR 0 (n : Int) = true := small_small (by omega) (by omega)
  have hnpos : (0 : Int) < n := by omega
  have hsrc : ∀ vars obs, vars[2]? = some (some (V.int n)) → ((appM fRange [varM 2]).bind toSrc) ⟨vars, obs⟩ = .ok ⟨(rangeL 0 n).map .int, []⟩ ⟨vars, obs⟩ := fun vars obs h => by
    simp only [ev_bind, ev_app, ev_seqM_cons, ev_var, h, Out.bind_ok, ev_seqM_nil, ev_pure, ev_range1, r1, and_self, if_true, ev_toSrc_range, r2, ev_ite]
  obtain ⟨vs, o', ⟨cs, rs, q1, q2, q3, q4, q5, q6⟩, h⟩ := comp1 (b := 4) (vars := [some (.int c), some (.int k), some (.int n), none]) (obs := obs) (obs0 := obs) (src := (appM fRange [varM 2]).bind toSrc) (elt := bd__law_great_2 (d + 1)) (c := []) (items := (rangeL 0 n).map .int) rfl (hsrc _ _ rfl) (by rw [range_len]; omega)
    (fun l acc o => ∃ cs rs, acc = cs.map V.ref ∧ RowsAt o 0 o.length cs rs ∧ Gr obs o ∧ rs.length + l.length = n ∧ (∀ v ∈ l, ∃ i : Nat, v = .int i ∧ i < n) ∧ ∀ w ∈ rs, w.length = k ∧ ∀ i ∈ w, 0 ≤ i ∧ i < (n : Int))
    ⟨[], [], rfl, trivial, .refl _, by rw [range_len]; simp, fun v hv => by
      obtain ⟨i, rfl, hi⟩ := mem_range hv
      exact ⟨i, by simp, by omega⟩, fun w hw => (nomatch hw)⟩ (fun _ _ _ _ => .nil _)
    (fun x l acc o hI => by
      obtain ⟨cs, rs, rfl, q2, q3, q4, q5, q6⟩ := hI
      obtain ⟨i, rfl, hi⟩ := q5 x (by simp)
      refine ⟨.ref o.length, _, gr_row d hc hk hn8 hi none o, cs ++ [o.length], rs ++ [grL c n k i], by simp, ?_, q3.to _, by simp at q4 ⊢; omega, fun v hv => q5 v (by simp [hv]), fun w hw => ?_⟩
      · refine RowsAt.append ((q2.same ((Gr.add o _).same (Nat.le_refl _))).wide (Nat.le_refl _) (by simp)) ⟨⟨Nat.zero_le _, by simp, ?_⟩, trivial⟩
        rw [List.getElem?_append_right (Nat.le_refl _)]; simp [rowO]
      · rcases List.mem_append.mp hw with q | q
        · exact q6 w q
        · cases List.mem_singleton.mp q
          unfold grL
          refine ⟨by simp, fun j hj => ?_⟩
          obtain ⟨p, _, rfl⟩ := List.mem_map.mp hj
          exact ⟨Int.emod_nonneg _ (by omega), Int.emod_lt_of_pos _ hnpos⟩)
  subst q1
  generalize ho1 : o' ++ [Ob.list (cs.map .ref)] = o1 at h
  have g1 : Gr o' o1 := ⟨_, ho1.symm⟩
  have l1 : o1.length = o'.length + 1 := by rw [← ho1]; simp
  have hcomp := comp1_pure (b := 4) (vars := [some (.int c), some (.int k), some (.int n), some (.ref o'.length)]) (obs := o1) (obs0 := o1) (src := (appM fRange [varM 2]).bind toSrc) (elt := bd__law_great_3 (d + 1)) (c := []) rfl (hsrc _ _ rfl) (by rw [range_len]; omega) (.nil _) (greG c) (fun x hx => by
    obtain ⟨p, rfl, hp⟩ := mem_range hx
    rw [Int.zero_add] at hp ⊢
    have hmx := fun st => mixed_eq d c (p : Int) st hc (by omega)
    simp [bd__law_great_3, hmx, greG])
  rw [range_map] at hcomp
  have e1 : (List.range (n : Int).toNat).map (fun (p : Nat) => greG c (.int p)) = ((List.range n).map fun (p : Nat) => (mixed c p / 64 % 2 == (1 : Int))).map .bool := by
    simp only [List.map_map, Int.toNat_natCast]; rfl
  rw [e1] at hcomp
  have hrl : rs.length = n := by simpa using q4
  refine ⟨rs, (List.range n).map fun (p : Nat) => (mixed c p / 64 % 2 == (1 : Int)), o'.length, o1.length, o1 ++ [.list (((List.range n).map fun (p : Nat) => (mixed c p / 64 % 2 == (1 : Int))).map .bool)], ?_, ?_, ?_, ?_, by omega, by omega, by simp [hrl], by rw [hrl]; exact q6⟩
  · rw [cf__law_great]
    simp [hn, h, hcomp, -List.map_map]
  · exact (q3.trans g1).to _
  · refine ⟨Nat.zero_le _, by simp; omega, cs, ?_, ?_⟩
    · refine Gr.get (.add _ _) ?_
      rw [← ho1, List.getElem?_append_right (Nat.le_refl _)]; simp
    · exact (q2.same ((g1.to _).same (Nat.le_refl _))).wide (Nat.zero_le _) (by simp; omega)
  · rw [List.getElem?_append_right (Nat.le_refl _)]; simp
end Mine
set_option autoImplicit false
set_option linter.unusedVariables false
set_option linter.unusedSimpArgs false
set_option maxRecDepth 100000
namespace Mine
open PySem
theorem comp_none {b : Nat} {src : M Src} {cond : M Bool} {elt : M V} {vars : List (Option V)} {obs obs0 : List Ob} {items : List V} {c : List (Nat × Ob)} (hb : vars.length = b) (hs : src ⟨vars, obs⟩ = .ok ⟨items, c⟩ ⟨vars, obs0⟩) (hl : items.length ≤ 1000) (hc : ChkP c obs0)
    (hg : ∀ x ∈ items, cond ⟨vars ++ [some x], obs0⟩ = .ok false ⟨vars ++ [some x], obs0⟩) :
    compM b 1 src (.var b) cond elt ⟨vars, obs⟩ = .ok (.ref obs0.length) ⟨vars, obs0 ++ [.list []]⟩ := by
  subst hb
  have key : ∀ (l : List V) (z : Option V), (∀ x ∈ l, x ∈ items) → ∃ z', compItems (.var vars.length) cond elt c l ⟨vars ++ [z], obs0⟩ = .ok [] ⟨vars ++ [z'], obs0⟩ := fun l => by
    induction l with
    | nil => exact fun z _ => ⟨z, by unfold compItems; rw [ev_bind, hc]; rfl⟩
    | cons x l ih =>
      intro z h
      obtain ⟨z', h'⟩ := ih (some x) fun y hy => h y (by simp [hy])
      refine ⟨z', ?_⟩
      unfold compItems
      have e : (vars ++ [z]).set vars.length (some x) = vars ++ [some x] := by simp
      rw [ev_bind, hc, Out.bind_ok, ev_bind, ev_asg_var, ev_setVar, if_pos (by simp), Out.bind_ok, e, ev_bind, hg x (h x (by simp)), Out.bind_ok, if_neg (by simp)]
      exact h'
  obtain ⟨z, h1⟩ := key items none fun _ q => q
  unfold compM
  rw [ev_bind, hs, Out.bind_ok, if_pos (le_lim hl), ev_bind]
  have : innerM vars.length 1 (compItems (.var vars.length) cond elt c items) ⟨vars, obs0⟩ = .ok [] ⟨vars, obs0⟩ := by
    unfold innerM
    have e : ({ vars := List.take vars.length vars ++ List.replicate 1 none, obs := obs0 } : St) = ⟨vars ++ [none], obs0⟩ := by simp
    dsimp only
    rw [e, h1]
  dsimp only
  rw [this]
  simp
theorem ev_isiOwn {a dn : Nat} {c : Str} {fs : List (Str × V)} {obs : List Ob} (h1 : obs[a]? = some (.inst c dn)) (h2 : obs[dn]? = some (.ns fs)) (vars : List (Option V)) : fIsi [.ref a, .own c] ⟨vars, obs⟩ = .ok (.bool true) ⟨vars, obs⟩ := by
  show isiOwn a c ⟨vars, obs⟩ = _
  unfold isiOwn
  simp [h1, h2]
/- the rows that are told hold whole numbers -/
theorem whole_turn (d : Nat) {o : List Ob} {a : Nat} {row : List Int} (ha : o[a]? = some (.list (row.map .int))) (hl : row.length ≤ 3) {v0 v1 v2 v3 v4 v5 v6 v7 : Option V} :
    bd_law_6 (d + 1) ⟨[v0, v1, v2, v3, v4, v5, v6, v7, some (.ref a)], o⟩ = .ok .next ⟨[v0, v1, v2, v3, v4, v5, v6, v7, some (.ref a)], o ++ [.list []]⟩ := by
  have h := comp_none (b := 9) (vars := [v0, v1, v2, v3, v4, v5, v6, v7, some (.ref a)]) (obs := o) (obs0 := o) (src := (varM 8).bind toSrc) (cond := andM [notM (evB (appM (cfOf p1 (d + 1) (.fn (nm "_law_whole"))) [varM 9]))]) (elt := bd_law_5 (d + 1)) (c := [(a, .list (row.map .int))]) (items := row.map .int) rfl
    (by simp only [ev_bind, ev_var, List.getElem?_cons_succ, List.getElem?_cons_zero, Out.bind_ok, ev_toSrc_ref, ha]) (by simp; omega) (.one ha) (fun x hx => by
      obtain ⟨g, hg, rfl⟩ := List.mem_map.mp hx
      simp only [ev_and_cons, ev_bind, ev_not, ev_evB, ev_app, ev_seqM_cons, ev_var, List.cons_append, List.nil_append, List.getElem?_cons_succ, List.getElem?_cons_zero, Out.bind_ok, ev_seqM_nil, ev_pure, whole_eq, ev_asBool, Bool.not_true]
      rfl)
  have e : (o ++ [Ob.list []])[o.length]? = some (.list []) := by rw [List.getElem?_append_right (Nat.le_refl _)]; simp
  unfold bd_law_6
  simp [h, e]
end Mine
set_option autoImplicit false
set_option linter.unusedVariables false
set_option linter.unusedSimpArgs false
set_option maxRecDepth 100000
namespace Mine
open PySem
/- the loop over the rows that are told -/
theorem whole_loop (d : Nat) {o0 : List Ob} {lo hi c : Nat} {as : List Nat} {rows : List (List Int)} (hc : o0[c]? = some (.list (as.map .ref))) (hr : RowsAt o0 lo hi as rows) (hw : ∀ w ∈ rows, w.length ≤ 3) {v0 v1 v2 v3 v4 v5 v6 v7 z : Option V} :
    ∃ o z', forItems (.var 8) (bd_law_6 (d + 1)) [(c, .list (as.map .ref))] (as.map .ref) ⟨[v0, v1, v2, v3, v4, v5, v6, v7, z], o0⟩ = .ok .next ⟨[v0, v1, v2, v3, v4, v5, v6, v7, z'], o⟩ ∧ Gr o0 o := by
  obtain ⟨st, h1, bs, ws, _, _, _, z', o, rfl, g⟩ := forItems_ok (t := .var 8) (body := bd_law_6 (d + 1)) (c := [(c, .list (as.map .ref))])
    (fun l st => ∃ bs ws, l = bs.map V.ref ∧ RowsAt o0 lo hi bs ws ∧ (∀ w ∈ ws, w.length ≤ 3) ∧ ∃ z o, st = ⟨[v0, v1, v2, v3, v4, v5, v6, v7, z], o⟩ ∧ Gr o0 o)
    (fun l st hI => by
      obtain ⟨_, _, _, _, _, _, o, rfl, g⟩ := hI
      exact .one (g.get hc))
    (fun x l st hI => by
      obtain ⟨bs, ws, hb, hr, hw, z, o, rfl, g⟩ := hI
      cases bs with
      | nil => cases hb
      | cons b bs =>
        cases ws with
        | nil => exact hr.elim
        | cons w ws =>
          cases hb
          refine ⟨⟨[v0, v1, v2, v3, v4, v5, v6, v7, some (.ref b)], o ++ [.list []]⟩, ?_, bs, ws, rfl, hr.2, fun w' h' => hw w' (by simp [h']), _, _, rfl, g.to _⟩
          rw [ev_bind, ev_asg_var, ev_setVar]
          exact whole_turn d (g.get hr.1.2.2) (hw w (by simp))) (as.map .ref) ⟨[v0, v1, v2, v3, v4, v5, v6, v7, z], o0⟩ ⟨as, rows, rfl, hr, hw, z, o0, rfl, .refl _⟩
  exact ⟨o, z', h1, g⟩
/- one turn -/
theorem law_turn (d : Nat) {S : V} {o : List Ob} {lo hi m r e hr : Nat} {s : List Nat} {rows : List (List Int)} {ends : List Bool} (x : Mach o lo hi m s rows ends) (hhi : hi ≤ o.length) (hR : Rows o 0 hr r rows) (hhr : hr ≤ o.length) (hE : o[e]? = some (.list (ends.map .bool))) (G : Good s rows ends) (z5 z6 z7 z8 : Option V) :
    ∃ o' z6' z7' z8', bd_law_7 (d + 6) ⟨[some S, some (.str s), some (.ref r), some (.ref e), some (.ref m), z5, z6, z7, z8], o⟩ = .ok .next ⟨[some S, some (.str s), some (.ref r), some (.ref e), some (.ref m), z5, z6', z7', z8'], o'⟩ ∧ Gr o o' := by
  have hts := text_self G
  have hss := fun st => text_eq (a := s) (b := s) (fun c hc => by have := G.signs.az c hc; omega) (fun c hc => by have := G.signs.az c hc; omega) st
  simp only [decide_true] at hss
  obtain ⟨oA, w1, gA⟩ := written_ok (d + 4) x hhi G [some S, some (.str s), some (.ref r), some (.ref e), some (.ref m), z5, z6, z7, z8]
  have lA := gA.len
  have hRA := hR.same (gA.same hhr)
  obtain ⟨oB, t1, gB⟩ := text_ok (d + 5) hRA (gA.get hE) G [some S, some (.str s), some (.ref r), some (.ref e), some (.ref m), z5, some (.str (textT s rows ends)), z7, z8]
  have lB := gB.len
  have hRB := hRA.same (gB.same (by omega))
  obtain ⟨m2, lo2, hi2, oC, r1, gC, x2, hhi2⟩ := read_ok d (obs := oB) G [some S, some (.str s), some (.ref r), some (.ref e), some (.ref m), z5, some (.str (textT s rows ends)), z7, z8]
  have lC := gC.len
  have hRC := hRB.same (gC.same (by omega))
  generalize textT s rows ends = T at *
  have hEC := gC.get (gB.get (gA.get hE))
  -- rows
  have g1 := fun vars => rows_eq (d + 5) x2 G vars
  have g1c : Rows (oC ++ cpy oC.length rows) oC.length (oC.length + rows.length + 1) (oC.length + rows.length) rows := by
    have := cpy_rows oC rows []; rw [List.append_nil] at this; exact this
  have gD : Gr oC (oC ++ cpy oC.length rows) := .add _ _
  generalize oC ++ cpy oC.length rows = oD at *
  have lD := gD.len
  have x3 := x2.same (gD.same hhi2)
  have hRD := hRC.same (gD.same (by omega))
  have q1 := fun vars => Rows.eq g1c hRD vars
  -- ends
  have g2 := fun vars => ends_eq (d + 5) x3 G vars
  have g2c : (oD ++ [Ob.list (ends.map .bool)])[oD.length]? = some (.list (ends.map .bool)) := by rw [List.getElem?_append_right (Nat.le_refl _)]; simp
  have gE : Gr oD (oD ++ [Ob.list (ends.map .bool)]) := .add _ _
  generalize oD ++ [Ob.list (ends.map .bool)] = oE at *
  have lE := gE.len
  have x4 := x3.same (gE.same (by omega))
  have q2 := fun vars => flats_eq g2c (gE.get (gD.get hEC)) vars
  -- rows again
  have g3 := fun vars => rows_eq (d + 5) x4 G vars
  have g3c := cpy_top oE rows []
  have g3r := cpy_rows oE rows []
  rw [List.append_nil] at g3c g3r
  obtain ⟨as, as1, as2⟩ := g3r.has
  have gF : Gr oE (oE ++ cpy oE.length rows) := .add _ _
  generalize oE ++ cpy oE.length rows = oF at *
  obtain ⟨oG, z8', k1, gG⟩ := whole_loop (d + 5) as1 as2 (fun w hw => (G.rs w hw).1) (v0 := some S) (v1 := some (.str s)) (v2 := some (.ref r)) (v3 := some (.ref e)) (v4 := some (.ref m)) (v5 := z5) (v6 := some (.str T)) (v7 := some (.ref m2)) (z := z8)
  obtain ⟨dn, wr, fr, _, _, i1, i2, _⟩ := x2.has
  have hown := fun vars => ev_isiOwn i1 i2 vars
  obtain ⟨_, _, _, _, e2⟩ := x2.sees
  obtain ⟨_, _, _, _, e3⟩ := x3.sees
  obtain ⟨_, _, _, _, e4⟩ := x4.sees
  refine ⟨oG, some (.str T), some (.ref m2), z8', ?_, gA.trans (gB.trans (gC.trans (gD.trans (gE.trans (gF.trans gG)))))⟩
  have u1 := (e2 (d + 6)).signs
  have u2 := (e2 (d + 6)).rows
  have u3 := (e3 (d + 6)).ends
  have u4 := (e4 (d + 6)).rows
  clear e2 e3 e4
  unfold bd_law_7
  simp [w1, t1, hts, r1, hown, u1, hss, u2, g1, q1, u3, g2, q2, u4, g3, as1, k1]
end Mine
set_option autoImplicit false
set_option linter.unusedVariables false
set_option linter.unusedSimpArgs false
set_option maxRecDepth 100000
namespace Mine
open PySem
theorem law11_ok (d : Nat) {xs : List Int} (hx : xs.length ≤ 63) (hh : ∀ x ∈ xs, heavy 1048577 x) (vars : List (Option V)) (obs : List Ob) :
    ∃ obs', cfOf p1 (d + 7) (.fn (nm "law")) [.flist (xs.map .int)] ⟨vars, obs⟩ = .ok (.bool true) ⟨vars, obs'⟩ := by
  have hh10 := getD_heavy hh 10
  have c0 : ∀ st, cfOf p1 (d + 6) (.fn (nm "_law_cell_at")) [.flist (xs.map .int), .int 0] st = .ok (.int (xs.getD 0 0)) st := fun st => cell_eq (d + 5) xs 0 st hx (by omega)
  have c10 : ∀ st, cfOf p1 (d + 6) (.fn (nm "_law_cell_at")) [.flist (xs.map .int), .int 10] st = .ok (.int (xs.getD 10 0)) st := fun st => cell_eq (d + 5) xs 10 st hx (by omega)
  generalize xs.getD 10 0 = c at *
  generalize xs.getD 0 0 = c' at *
  have dr := fun (k : Nat) (hk : 1 ≤ k ∧ k ≤ 3) => drawn_ok (d + 4) hx hh hk
  generalize V.flist (xs.map .int) = S at *
  -- 1
  obtain ⟨s, o1, h1, g1, hs⟩ := signs_ok (d + 5) c' [some S, none, none, none, none, none, none, none, none] obs
  have hs1 := hs.one
  have hs3 := hs.three
  have hsl : s.length ≤ 1000 := by omega
  have s1 : st_law_1 (d + 6) ⟨[some S, none, none, none, none, none, none, none, none], obs⟩ = .ok .next ⟨[some S, some (.str s), none, none, none, none, none, none, none], o1⟩ := by
    unfold st_law_1
    simp [c0, h1]
  -- 2
  obtain ⟨rows, ends, r, e, o2, h2, g2, hR, hE, hone, hk8, hel, hrow⟩ := dr s.length ⟨hs1, hs3⟩ [some S, some (.str s), none, none, none, none, none, none, none] o1
  have s2 : st_law_2 (d + 6) ⟨[some S, some (.str s), none, none, none, none, none, none, none], o1⟩ = .ok .next ⟨[some S, some (.str s), some (.ref r), some (.ref e), none, none, none, none, none], o2⟩ := by
    unfold st_law_2
    simp [hsl, h2]
  -- 3
  have key : ∃ rows' ends' r' e' o3, st_law_3 (d + 6) ⟨[some S, some (.str s), some (.ref r), some (.ref e), none, none, none, none, none], o2⟩ = .ok .next ⟨[some S, some (.str s), some (.ref r'), some (.ref e'), none, none, none, none, none], o3⟩ ∧ Rows o3 0 o3.length r' rows' ∧ o3[e']? = some (.list (ends'.map .bool)) ∧ Good s rows' ends' := by
    by_cases hc : c % 4 = 1
    · obtain ⟨rows', ends', r', e', o3, h3, g3, hR', hE', hone', hk', hel', hrow'⟩ := great_ok (d + 4) (heavy_div4 (by decide) hh10) (k := s.length) ⟨hs1, hs3⟩ [some S, some (.str s), some (.ref r), some (.ref e), none, none, none, none, none] o2
      refine ⟨rows', ends', r', e', o3, ?_, hR', hE', hs, hone', hk', hel', hrow'⟩
      unfold st_law_3
      simp [c10, hc, hsl, h3]
    · refine ⟨rows, ends, r, e, o2, ?_, hR, hE, hs, hone, by omega, hel, hrow⟩
      unfold st_law_3
      simp [c10, hc]
  clear dr hR hE hone hk8 hel hrow g1 g2
  obtain ⟨rows', ends', r', e', o3, s3, hR, hE, G⟩ := key
  -- 4
  obtain ⟨o4, n1, n2, x⟩ := init_eq (d + 2) G hR (Nat.le_refl _) hE [some S, some (.str s), some (.ref r'), some (.ref e'), none, none, none, none, none]
  have s4 : st_law_4 (d + 6) ⟨[some S, some (.str s), some (.ref r'), some (.ref e'), none, none, none, none, none], o3⟩ = .ok .next ⟨[some S, some (.str s), some (.ref r'), some (.ref e'), some (.ref (o3.length + 1)), none, none, none, none], o4⟩ := by
    unfold st_law_4
    simp [n1]
  have l4 := n2.len
  have hR4 := hR.same (n2.same (Nat.le_refl _))
  have hE4 := n2.get hE
  generalize o3.length + 1 = m at *
  -- 5
  obtain ⟨st, k5, z5, z6, z7, z8, o5, rfl, _⟩ := forItems_ok (t := .var 5) (body := bd_law_7 (d + 6)) (c := [])
    (fun l st => ∃ z5 z6 z7 z8 o, st = ⟨[some S, some (.str s), some (.ref r'), some (.ref e'), some (.ref m), z5, z6, z7, z8], o⟩ ∧ Gr o4 o) (fun _ _ _ => .nil _)
    (fun y l st hI => by
      obtain ⟨z5, z6, z7, z8, o, rfl, g⟩ := hI
      have lo := g.len
      obtain ⟨o', z6', z7', z8', t1, t2⟩ := law_turn d (S := S) (x.same (g.same (Nat.le_refl _))) lo (hR4.same (g.same l4)) (by omega) (g.get hE4) G (some y) z6 z7 z8
      refine ⟨_, ?_, some y, z6', z7', z8', o', rfl, g.trans t2⟩
      rw [ev_bind, ev_asg_var, ev_setVar]
      exact t1) ((rangeL 0 2).map .int) ⟨[some S, some (.str s), some (.ref r'), some (.ref e'), some (.ref m), none, none, none, none], o4⟩ ⟨none, none, none, none, o4, rfl, .refl _⟩
  have s5 : st_law_5 (d + 6) ⟨[some S, some (.str s), some (.ref r'), some (.ref e'), some (.ref m), none, none, none, none], o4⟩ = .ok .next ⟨[some S, some (.str s), some (.ref r'), some (.ref e'), some (.ref m), z5, z6, z7, z8], o5⟩ := by
    unfold st_law_5
    have r2 : smallR 0 2 = true := small_small (by omega) (by omega)
    simp [r2, k5]
  refine ⟨o5, ?_⟩
  rw [cf_law, ev_runFn 1 9 _ _ _ _ rfl]
  have ee : ([S].map some ++ List.replicate (9 - 1) none) = [some S, none, none, none, none, none, none, none, none] := rfl
  rw [ee]
  have s6 : ∀ st, st_law_6 (d + 6) st = .ok (.ret (.bool true)) st := fun st => rfl
  simp only [ev_seqS_cons, ev_bind, s1, s2, s3, s4, s5, s6, Out.bind_ok, seqK_next, seqK_ret, ev_pure]
end Mine
namespace Mine
open PySem PySem.W PyProof.Rows
set_option maxRecDepth 100000
set_option maxHeartbeats 8000000
noncomputable def view1 : Program := viewOf PySem.Challenge.pw_uf020027_11
theorem said1 : OpenLaw.wellSaid PySem.Challenge.rw_uf020027_11 = true := by kernel_rfl
theorem ok1 : (chainsOk view1 && opensWell PySem.Challenge.rw_uf020027_11.row.prog && (frees PySem.Challenge.rw_uf020027_11.row.toRowW && PySem.Challenge.rw_uf020027_11.row.within.isEmpty)) = true := by kernel_rfl
theorem left1 : LeftO PySem.Challenge.rw_uf020027_11.row.prog view1 [] (fun s => xlAt view1 [] s && recOk PySem.Challenge.rw_uf020027_11.row.records s) (topHook p1).obs (topHook p1).val 3100 := by
  intro w
  kernel_rfl
end Mine
open PySem PySem.W PyProof.Rows Mine
set_option maxRecDepth 100000 in
set_option maxHeartbeats 8000000 in
theorem PySem.Challenge.cw_uf020027_11_holds : PySem.Challenge.rw_uf020027_11.Holds := by
  w_on
  refine holds_law said1 fun said => ?_
  refine holds_open (r := PySem.Challenge.rw_uf020027_11.row) (q := view1) (loose := []) (Xt := fun s => xlAt view1 [] s && recOk (RowW.records PySem.Challenge.rw_uf020027_11.row.toRowW) s) (XP := XL view1 []) (Yf := Hook.obs (topHook p1)) (Ya := Hook.val (topHook p1)) (YP := Hook.says (topHook p1)) (N := 3100) left1 (Hook.of (topHook p1)) (Hook.keeps (topHook p1)) (fun s e => xl_of s (Bool.and_eq_true_iff.mp e).1) XL.keeps (by rfl) (by rfl) (by rfl) (fun s e => recFacts_of (Bool.and_eq_true_iff.mp e).2) (by rfl) said ok1 ⟨rfl, rfl, rfl, rfl, rfl, by decide +kernel⟩ ?hw ?hc
  case hw => w_witness2
  intro w s₀ s₁ mg mb G Y fa o pm cd doc dV kV ho hd hcd hD hmg hg args vals as hpre hlay hrd hwl hlo
  obtain ⟨K, KX, hT, hadr⟩ := Y
  refine Ground.open G ?_
  intro T B D TE TW
  clear hd hcd hD
  wrow_args hpre hlay hrd hwl hlo
  refine enter_call ?_
  rename_i xs _ _ hlay' _ _ _ _ _ _ _ hL _ _ _ hI _ hc _
  exact close_law hT hadr KX T hmg hg hL hI (d := 6) (by decide) ((law11_ok 0 (by omega) (lay_log hlay') [] [])) fun s' h1 h2 h3 => GoodW.toG ⟨.inl ⟨.bool true, .bool true, [], rfl, fun _ => rfl, .bool true, (by kernel_rfl!), fun _ => ⟨List.nodup_nil, fun a h => (nomatch h)⟩⟩, h1, h2, h3⟩
