import PyProof.Rows.All
import KE.KIntText
import PyProof.ZipIter
import PyProof.Draws
import PyProof.EnumMake
import PyProof.Rows.ListMulArg
import KE.KItem
import OpenK.KLine
import Wide.All
import OpenK.AllK
import Wide.FinOn
import PySem.Challenge.RW_uf020027_04
set_option Elab.async false
set_option bootstrap.genMatcherCode false
set_option linter.unusedSimpArgs false
set_option autoImplicit false
namespace Mine
open PySem

/- values, objects, state -/
inductive V where
  | none | bool (b : Bool) | int (i : Int) | str (s : List Nat)
  | tuple (vs : List V) | range (lo hi : Int) | set (ns : List Int) | flist (vs : List V) | alist (vs : List V)
  | finst (c : Str) (ns : List Str) (vs : List V)
  | exc (c : Str) | ref (i : Nat) | own (x : Str) | type (n : String)

inductive Ob where
  | list (xs : List V)
  | pset (ks : List (List Int))
  | inst (c : Str) (d : Nat) | ns (fs : List (Str × V))

structure St where
  vars : List (Option V)
  obs : List Ob

inductive Out (α : Type) where
  | stuck
  | ok (a : α) (s : St)
  | exc (c : Str) (s : St)

noncomputable def M (α : Type) := St → Out α
noncomputable def M.pure {α : Type} (a : α) : M α := fun s => .ok a s
noncomputable def M.bind {α β : Type} (m : M α) (f : α → M β) : M β := fun s => match m s with
  | .ok a s' => f a s'
  | .exc c s' => .exc c s'
  | .stuck => .stuck
noncomputable def stuck {α : Type} : M α := fun _ => .stuck
noncomputable def ofOpt {α : Type} : Option α → M α
  | some a => M.pure a
  | none => stuck

inductive Flow where
  | next | ret (v : V)

inductive FnKey where
  | fn (x : Str) | meth (c m : Str) | fnO (x : Str) | fnR (x : Str)

/- what a body is run in: the calls; which own class is another one's heir -/
structure Wd where
  cf : FnKey → List V → M V
  sub : Str → Str → Bool
  fld : Str → Str → Bool
  has : Str → Str → Bool
  frz : Str → Bool

/- primitives on the state -/
noncomputable def getVar (i : Nat) : M V := fun s => match s.vars[i]? with
  | some (some v) => .ok v s
  | _ => .stuck
noncomputable def setVar (i : Nat) (v : V) : M Unit := fun s => if i < s.vars.length then .ok () { s with vars := s.vars.set i (some v) } else .stuck
noncomputable def getOb (a : Nat) : M Ob := fun s => match s.obs[a]? with
  | some o => .ok o s
  | none => .stuck
noncomputable def setOb (a : Nat) (o : Ob) : M Unit := fun s => if a < s.obs.length then .ok () { s with obs := s.obs.set a o } else .stuck
noncomputable def alloc (o : Ob) : M V := fun s => .ok (.ref s.obs.length) { s with obs := s.obs ++ [o] }
noncomputable def innerM {α : Type} (base n : Nat) (m : M α) : M α := fun s => match m { s with vars := s.vars.take base ++ List.replicate n none } with
  | .ok a s' => .ok a { s with obs := s'.obs }
  | .exc c s' => .exc c { s with obs := s'.obs }
  | .stuck => .stuck
noncomputable def withObs {α : Type} (f : List Ob → Option α) : M α := fun s => match f s.obs with
  | some a => .ok a s
  | none => .stuck

noncomputable def asBool : V → M Bool
  | .bool b => M.pure b
  | _ => stuck
noncomputable def asInt : V → M Int
  | .int i => M.pure i
  | _ => stuck

noncomputable def getList (a : Nat) : M (List V) := (getOb a).bind fun o => match o with
  | .list xs => M.pure xs
  | _ => stuck
/- the items of a list, frozen or not -/
noncomputable def listOf : V → M (List V)
  | .flist xs => M.pure xs
  | .alist xs => M.pure xs
  | .ref a => getList a
  | _ => stuck

/- sizes that the model lets grow -/
noncomputable def lim : Nat := 16777216
/- plain helpers -/
noncomputable def intsOf : List V → Option (List Int)
  | [] => some []
  | .int i :: r => (intsOf r).map (i :: ·)
  | _ => none
/- a dict whose keys are rows of whole numbers, all True -/
noncomputable def keyP : V → Option (List Int)
  | .tuple vs => intsOf vs
  | _ => none
noncomputable def isTrueV : V → Bool
  | .bool b => b
  | _ => false
noncomputable def putP (ks : List (List Int)) (k : List Int) : List (List Int) := if k ∈ ks then ks else ks ++ [k]
noncomputable def mkP (k v : V) : M V := (ofOpt (keyP k)).bind fun k => if isTrueV v = true then alloc (.pset [k]) else stuck
noncomputable def pset1M (k v : M V) : M V := k.bind fun k => v.bind fun v => mkP k v
noncomputable def big : Int := 9223372036854775808
noncomputable def idxL {α : Type} (xs : List α) (i : Int) : Option α :=
  if 0 ≤ i then (if i < big then xs[i.toNat]? else none) else if -(xs.length : Int) ≤ i ∧ -big ≤ i then xs[(i + (xs.length : Int)).toNat]? else none
noncomputable def sliceL {α : Type} (xs : List α) (lo hi : Option Int) : List α :=
  (xs.drop (lo.elim 0 (clipAt xs.length))).take (hi.elim xs.length (clipAt xs.length) - lo.elim 0 (clipAt xs.length))
noncomputable def charsOf (s : List Nat) : List V := s.map fun c => .str [c]
noncomputable def rangeL (lo hi : Int) : List Int := (List.range (hi - lo).toNat).map fun (k : Nat) => lo + (k : Int)
noncomputable def strsOf : List V → Option (List (List Nat))
  | [] => some []
  | .str s :: r => (strsOf r).map (s :: ·)
  | _ => none
/- ==: of plain data, as the kit's PyData tells it -/
mutual
noncomputable def datV (obs : List Ob) (f : V → Option PyData) : V → Option PyData
  | .none => some .none
  | .bool b => some (.bool b)
  | .int i => some (.int i)
  | .str s => some (.str ⟨s.toArray⟩)
  | .tuple vs => (datVs obs f vs).map .tuple
  | .flist vs => (datVs obs f vs).map .list
  | .ref a => f (.ref a)
  | _ => none
noncomputable def datVs (obs : List Ob) (f : V → Option PyData) : List V → Option (List PyData)
  | [] => some []
  | v :: r => match datV obs f v, datVs obs f r with
    | some x, some l => some (x :: l)
    | _, _ => none
end
section
variable {obs : List Ob} {f : V → Option PyData}
theorem dR0 : datV obs f (.none) = some .none := rfl
theorem dR1 {b : Bool} : datV obs f (.bool b) = some (.bool b) := rfl
theorem dR2 {i : Int} : datV obs f (.int i) = some (.int i) := rfl
theorem dR3 {s : List Nat} : datV obs f (.str s) = some (.str ⟨s.toArray⟩) := rfl
theorem dR4 {vs : List V} : datV obs f (.tuple vs) = (datVs obs f vs).map .tuple := rfl
theorem dR5 {vs : List V} : datV obs f (.flist vs) = (datVs obs f vs).map .list := rfl
theorem dR6 {a : Nat} : datV obs f (.ref a) = f (.ref a) := rfl
theorem dR7 {vs : List V} : datV obs f (.alist vs) = none := rfl
theorem dR8 {c : Str} {ns : List Str} {vs : List V} : datV obs f (.finst c ns vs) = none := rfl
theorem dR9 {lo : Int} {hi : Int} : datV obs f (.range lo hi) = none := rfl
theorem dR10 {ns : List Int} : datV obs f (.set ns) = none := rfl
theorem dR11 {c : Str} : datV obs f (.exc c) = none := rfl
theorem dR12 {x : Str} : datV obs f (.own x) = none := rfl
theorem dR13 {t : String} : datV obs f (.type t) = none := rfl
theorem dT0 : datVs obs f [] = some [] := rfl
theorem dT1 {v : V} {r : List V} : datVs obs f (v :: r) = (match datV obs f v, datVs obs f r with
    | some x, some l => some (x :: l)
    | _, _ => none) := rfl
end
noncomputable def datR (obs : List Ob) : Nat → V → Option PyData
  | 0, _ => none
  | n + 1, .ref a => match obs[a]? with
    | some (.list xs) => (datVs obs (datR obs n) xs).map .list
    | _ => none
  | _ + 1, _ => none
noncomputable def dat (obs : List Ob) (v : V) : Option PyData := datV obs (datR obs 8) v
noncomputable def eqO (obs : List Ob) (a b : V) : Option Bool := match dat obs a, dat obs b with
  | some x, some y => if SeqAt.shaped x && SeqAt.shaped y then some (PyData.eqv x y) else none
  | _, _ => none
/- data of a list, and of one thing to look for in it -/
noncomputable def datL (obs : List Ob) (a : V) (xs : List V) : Option (PyData × List PyData) := match dat obs a, datVs obs (datR obs 8) xs with
  | some d, some ds => if SeqAt.shaped d && PyData.canLayAll0 ds then some (d, ds) else none
  | _, _ => none
noncomputable def pyEq (a b : V) : M Bool := withObs fun obs => eqO obs a b

structure Src where
  items : List V
  chk : List (Nat × Ob)

noncomputable def chkOk (c : List (Nat × Ob)) (obs : List Ob) : Prop := ∀ p : Nat × Ob, p ∈ c → obs[p.1]? = some p.2
open Classical in
noncomputable def chkObs (c : List (Nat × Ob)) : M Unit := fun s => if chkOk c s.obs then .ok () s else .stuck
noncomputable def smallR (lo hi : Int) : Bool := decide (-1000000 ≤ lo) && decide (lo ≤ 1000000) && decide (-1000000 ≤ hi) && decide (hi ≤ 1000000)
noncomputable def toSrc (v : V) : M Src := withObs fun obs => match v with
  | .ref a => match obs[a]? with
    | some (.list xs) => some ⟨xs, [(a, .list xs)]⟩
    | _ => none
  | .range lo hi => if smallR lo hi then some ⟨(rangeL lo hi).map .int, []⟩ else none
  | .str s => some ⟨charsOf s, []⟩
  | .flist xs => some ⟨xs, []⟩
  | _ => none
noncomputable def enumFrom (k : Nat) : List V → List V
  | [] => []
  | v :: r => .tuple [.int k, v] :: enumFrom (k + 1) r
noncomputable def enumV (v : V) : M Src := (toSrc v).bind fun s => match v with
  | .ref _ => M.pure ⟨enumFrom 0 s.items, s.chk⟩
  | .flist _ => M.pure ⟨enumFrom 0 s.items, s.chk⟩
  | _ => stuck
noncomputable def zipL3 (a b c : List V) : List V := List.zipWith (fun x p => .tuple [x, p.1, p.2]) a (b.zip c)
noncomputable def zipA3 : List V → M Src
  | [x, y, z] => (match x with
    | .str s => (match y with
      | .flist ys => (match z with
        | .flist zs => if s.length ≤ ys.length ∧ s.length ≤ zs.length then M.pure ⟨zipL3 (charsOf s) ys zs, []⟩ else stuck
        | _ => stuck)
      | _ => stuck)
    | _ => stuck)
  | _ => stuck
noncomputable def strM (s : List Nat) : M V := if s.length ≤ lim then M.pure (.str s) else stuck
noncomputable def allocL (xs : List V) : M V := if xs.length ≤ lim then M.pure (.flist xs) else stuck
/- a new list that is not frozen -/
noncomputable def ownL : V → M V
  | .flist xs => alloc (.list xs)
  | _ => stuck
noncomputable def tupL (xs : List V) : M V := if xs.length ≤ lim then M.pure (.tuple xs) else stuck

/- combinators: expressions -/
noncomputable def seqM {α : Type} : List (M α) → M (List α)
  | [] => M.pure []
  | m :: r => m.bind fun v => (seqM r).bind fun vs => M.pure (v :: vs)
noncomputable def zipM3 (a b c : M V) : M Src := (seqM [a, b, c]).bind zipA3
noncomputable def appM (f : List V → M V) (args : List (M V)) : M V := (seqM args).bind f
noncomputable def constM (v : V) : M V := M.pure v
noncomputable def varM (i : Nat) : M V := getVar i
noncomputable def tupM (es : List (M V)) : M V := (seqM es).bind tupL
noncomputable def listM (es : List (M V)) : M V := (seqM es).bind allocL
noncomputable def evB (m : M V) : M Bool := m.bind asBool
noncomputable def boolV (m : M Bool) : M V := m.bind fun b => M.pure (.bool b)
noncomputable def andM : List (M Bool) → M Bool
  | [] => M.pure true
  | m :: r => m.bind fun b => if b then andM r else M.pure false
noncomputable def orM : List (M Bool) → M Bool
  | [] => M.pure false
  | m :: r => m.bind fun b => if b then M.pure true else orM r
noncomputable def notM (m : M Bool) : M Bool := m.bind fun b => M.pure !b
noncomputable def negM (m : M V) : M V := m.bind fun v => (asInt v).bind fun i => M.pure (.int (-i))
noncomputable def iteM {α : Type} (t : M Bool) (a b : M α) : M α := t.bind fun x => if x then a else b
noncomputable def asStr : V → M (List Nat)
  | .str s => M.pure s
  | _ => stuck
noncomputable def asRef : V → M Nat
  | .ref i => M.pure i
  | _ => stuck
noncomputable def addV (a b : V) : M V := match a with
  | .int i => (asInt b).bind fun j => M.pure (.int (i + j))
  | .str s => (asStr b).bind fun t => strM (s ++ t)
  | v => (listOf v).bind fun x => (listOf b).bind fun y => allocL (x ++ y)
noncomputable def int2 {α : Type} (f : Int → Int → M α) (a b : V) : M α := (asInt a).bind fun i => (asInt b).bind fun j => f i j
noncomputable def mulI (a b : Int) : M V := if a.natAbs.log2 + b.natAbs.log2 < 67108864 then M.pure (.int (a * b)) else stuck
noncomputable def modI (a b : Int) : M V := if b = 0 then stuck else M.pure (.int (Int.fmod a b))
noncomputable def divI (a b : Int) : M V := if b = 0 ∨ 1073741824 ≤ b.natAbs then stuck else M.pure (.int (Int.fdiv a b))
noncomputable def mulV (a b : V) : M V := match a with
  | a => int2 mulI a b
noncomputable def binV : Operator → V → V → M V
  | .Add => addV
  | .Mult => mulV
  | .Sub => int2 fun a b => M.pure (.int (a - b))
  | .Mod => int2 modI
  | .FloorDiv => int2 divI
  | _ => fun _ _ => stuck
noncomputable def binM (op : Operator) (a b : M V) : M V := a.bind fun x => b.bind fun y => binV op x y
noncomputable def occ (x y : List Nat) (n : Nat) : List Nat := Builtin.Str.occurrences ⟨x.toArray⟩ ⟨y.toArray⟩ 0 x.length n
noncomputable def inL (a : V) (xs : List V) : M Bool := withObs fun obs => (datL obs a xs).map fun p => p.2.any fun y => PyData.eqv y p.1
noncomputable def inO (a : V) : Ob → M Bool
  | .list xs => inL a xs
  | .pset ks => (ofOpt (keyP a)).bind fun k => M.pure (decide (k ∈ ks))
  | _ => stuck
noncomputable def inV (a b : V) : M Bool := match b with
  | .str x => (asStr a).bind fun y => M.pure !(occ x y 1).isEmpty
  | .flist xs => inL a xs
  | .tuple xs => inL a xs
  | .ref r => (getOb r).bind (inO a)
  | _ => stuck
noncomputable def isNoneM : V → M Bool
  | .none => M.pure true
  | .bool _ => M.pure false | .int _ => M.pure false | .str _ => M.pure false | .tuple _ => M.pure false | .ref _ => M.pure false | .flist _ => M.pure false | .finst .. => M.pure false
  | _ => stuck
noncomputable def isV (a : V) : V → M Bool
  | .none => isNoneM a
  | .bool c => (asBool a).bind fun b => M.pure (b == c)
  | _ => stuck
noncomputable def cmpV : CmpOp → V → V → M Bool
  | .Eq => pyEq
  | .NotEq => fun a b => (pyEq a b).bind fun x => M.pure !x
  | .Lt => int2 fun a b => M.pure (decide (a < b))
  | .LtE => int2 fun a b => M.pure (decide (a ≤ b))
  | .Gt => int2 fun a b => M.pure (decide (a > b))
  | .GtE => int2 fun a b => M.pure (decide (a ≥ b))
  | .In => inV
  | .NotIn => fun a b => (inV a b).bind fun x => M.pure !x
  | .Is => isV
  | .IsNot => fun a b => (isV a b).bind fun x => M.pure !x
noncomputable def chainM (x : V) : List (CmpOp × M V) → M Bool
  | [] => stuck
  | [(op, m)] => m.bind fun y => cmpV op x y
  | (op, m) :: r => m.bind fun y => (cmpV op x y).bind fun b => if b then chainM y r else M.pure false
noncomputable def cmpM (a : M V) (r : List (CmpOp × M V)) : M Bool := a.bind fun x => chainM x r
noncomputable def attrV (W : Wd) (x : Str) : V → M V
  | .finst c ns vs => if W.fld c x then ofOpt ((ns.zip vs).lookup x) else stuck
  | .ref a => (getOb a).bind fun o => match o with
    | .inst c d => if W.fld c x then (getOb d).bind fun n => (match n with
      | .ns fs => ofOpt (fs.lookup x)
      | _ => stuck) else stuck
    | _ => stuck
  | _ => stuck
noncomputable def attrM (W : Wd) (m : M V) (x : Str) : M V := m.bind (attrV W x)
noncomputable def subO (k : V) : Ob → M V
  | .list xs => (asInt k).bind fun i => ofOpt (idxL xs i)
  | _ => stuck
noncomputable def subV (v k : V) : M V := match v with
  | .str s => (asInt k).bind fun i => ofOpt ((idxL s i).map fun c => .str [c])
  | .tuple vs => (asInt k).bind fun i => ofOpt (idxL vs i)
  | .flist vs => (asInt k).bind fun i => ofOpt (idxL vs i)
  | .alist vs => (asInt k).bind fun i => ofOpt (idxL vs i)
  | .ref a => (getOb a).bind (subO k)
  | _ => stuck
noncomputable def subM (m i : M V) : M V := m.bind fun v => i.bind fun k => subV v k
noncomputable def optI (m : Option (M V)) : M (Option Int) := match m with
  | none => M.pure none
  | some m => m.bind fun v => (asInt v).bind fun i => M.pure (some i)
noncomputable def sliceV (v : V) (lo hi : Option Int) : M V := match v with
  | .str s => if s.length ≤ lim then M.pure (.str (Txt.slice ⟨s.toArray⟩ lo hi).cps.toList) else stuck
  | v => (listOf v).bind fun xs => if xs.length ≤ lim then M.pure (.flist (sliceL xs lo hi)) else stuck
noncomputable def sliceM (m : M V) (lo hi : Option (M V)) : M V := m.bind fun v => (optI lo).bind fun l => (optI hi).bind fun h => sliceV v l h
/- built-in functions and methods -/
noncomputable def lenM (n : Nat) : M V := if n ≤ lim then M.pure (.int n) else stuck
noncomputable def lenV : V → M V
  | .str s => lenM s.length
  | .tuple s => lenM s.length
  | v => (listOf v).bind fun xs => lenM xs.length
noncomputable def fLen : List V → M V
  | [v] => lenV v
  | _ => stuck
noncomputable def nm (s : String) : Str := Str.ofString s
/- isinstance, of the built-in types -/
noncomputable def isiTypes : List String := ["int", "str", "bool", "list", "tuple", "dict"]
noncomputable def isiK (k t : String) : Option Bool := if isiTypes.contains t then some (k == t || (k == "bool" && t == "int")) else none
noncomputable def kindV (obs : List Ob) : V → Option String
  | .bool _ => some "bool"
  | .int _ => some "int"
  | .str _ => some "str"
  | .flist _ => some "list"
  | .tuple _ => some "tuple"
  | .none => some "NoneType"
  | .ref a => match obs[a]? with
    | some (.list _) => some "list"
    | _ => none
  | _ => none
noncomputable def fIsinstance : List V → M V
  | [v, .type t] => withObs fun obs => (kindV obs v).bind fun k => (isiK k t).map .bool
  | _ => stuck
noncomputable def isi2 (v : V) : V → M V
  | w => fIsinstance [v, w]
noncomputable def fIsi : List V → M V
  | [v, w] => isi2 v w
  | _ => stuck
noncomputable def fList : List V → M V
  | [.tuple xs] => allocL xs
  | [v] => (listOf v).bind fun xs => allocL xs
  | _ => stuck
noncomputable def tupV : V → M V
  | .tuple xs => M.pure (.tuple xs)
  | v => (listOf v).bind tupL
noncomputable def allO {α β : Type} (f : α → Option β) : List α → Option (List β)
  | [] => some []
  | a :: r => match f a, allO f r with
    | some b, some l => some (b :: l)
    | _, _ => none
/- a set of whole numbers: those that are met, in order -/
noncomputable def fMax : List V → M V
  | [a, b] => int2 (fun a b => M.pure (.int (if b > a then b else a))) a b
  | _ => stuck
noncomputable def fRange : List V → M V
  | [.int n] => if -1000000 ≤ n ∧ n ≤ 1000000 then M.pure (.range 0 n) else stuck
  | [.int a, .int b] => if (-1000000 ≤ a ∧ a ≤ 1000000) ∧ -1000000 ≤ b ∧ b ≤ 1000000 then M.pure (.range a b) else stuck
  | _ => stuck
noncomputable def bfun (x : Str) : Option (List V → M V) :=
  if x == nm "len" then some fLen else if x == nm "isinstance" then some fIsi else if x == nm "list" then some fList
  else if x == nm "range" then some fRange else
  if x == nm "max" then some fMax else
  none
noncomputable def mAppend : List V → M V
  | [.ref a, v] => (getList a).bind fun xs => if xs.length ≤ lim then (setOb a (.list (xs ++ [v]))).bind fun _ => M.pure .none else stuck
  | _ => stuck
noncomputable def mIndex : List V → M V
  | [.str x, .str y] => match occ x y 1 with
    | i :: _ => M.pure (.int i)
    | [] => stuck
  | _ => stuck
noncomputable def mCount : List V → M V
  | [.str x, .str y] => M.pure (.int (occ x y (x.length + 1)).length)
  | _ => stuck
noncomputable def mkS (s : List Nat) : Str := ⟨s.toArray⟩
noncomputable def mJoin : List V → M V
  | [.str sep, v] => (listOf v).bind fun xs => (ofOpt (strsOf xs)).bind fun ws =>
    if JoinOk (mkS sep) (ws.map mkS) then M.pure (.str (Txt.join (mkS sep) (ws.map mkS)).cps.toList) else stuck
  | _ => stuck
/- which method is meant: by the thing that is asked -/
noncomputable def pickL (f : List V → M V) : V → M (List V → M V)
  | .ref a => (getList a).bind fun _ => M.pure f
  | _ => stuck
noncomputable def pickS (f : List V → M V) : V → M (List V → M V)
  | .str _ => M.pure f
  | _ => stuck
noncomputable def pickI : V → M (List V → M V)
  | .str _ => M.pure mIndex
  | _ => stuck
noncomputable def pickO (W : Wd) (x : Str) : V → M (List V → M V)
  | .finst c ns vs => if ((ns.zip vs).lookup x).isNone && W.has c x then M.pure (W.cf (.meth c x)) else stuck
  | .ref a => (getOb a).bind fun o => match o with
    | .inst c d => (getOb d).bind fun n => (match n with
      | .ns fs => if (fs.lookup x).isNone && W.has c x then M.pure (W.cf (.meth c x)) else stuck
      | _ => stuck)
    | _ => stuck
  | _ => stuck
noncomputable def pickM (W : Wd) (x : Str) : V → M (List V → M V) :=
  if x == nm "append" then pickL mAppend else
  if x == nm "index" then pickI else
  if x == nm "count" then pickS mCount else if x == nm "join" then pickS mJoin else
  pickO W x
/- references below n -/
mutual
noncomputable def ltV (n : Nat) : V → Bool
  | .ref i => decide (i < n)
  | .tuple vs => ltVs n vs
  | .flist vs => ltVs n vs
  | .alist vs => ltVs n vs
  | .finst _ _ vs => ltVs n vs
  | _ => true
noncomputable def ltVs (n : Nat) : List V → Bool
  | [] => true
  | v :: vs => ltV n v && ltVs n vs
end
section
variable {n : Nat}
theorem lR0 {i : Nat} : ltV n (.ref i) = decide (i < n) := rfl
theorem lR1 {vs : List V} : ltV n (.tuple vs) = ltVs n vs := rfl
theorem lR2 {vs : List V} : ltV n (.flist vs) = ltVs n vs := rfl
theorem lR3 {vs : List V} : ltV n (.alist vs) = ltVs n vs := rfl
theorem lR4 {c : Str} {ns : List Str} {vs : List V} : ltV n (.finst c ns vs) = ltVs n vs := rfl
theorem lR5 : ltV n (.none) = true := rfl
theorem lR6 {b : Bool} : ltV n (.bool b) = true := rfl
theorem lR7 {i : Int} : ltV n (.int i) = true := rfl
theorem lR8 {s : List Nat} : ltV n (.str s) = true := rfl
theorem lR9 {lo : Int} {hi : Int} : ltV n (.range lo hi) = true := rfl
theorem lR10 {ns : List Int} : ltV n (.set ns) = true := rfl
theorem lR11 {c : Str} : ltV n (.exc c) = true := rfl
theorem lR12 {x : Str} : ltV n (.own x) = true := rfl
theorem lR13 {t : String} : ltV n (.type t) = true := rfl
theorem lS0 : ltVs n [] = true := rfl
theorem lS1 {v : V} {vs : List V} : ltVs n (v :: vs) = (ltV n v && ltVs n vs) := rfl
end
noncomputable def ltO (n : Nat) : Ob → Bool
  | .list xs => ltVs n xs
  | .pset _ => true
  | .inst _ d => decide (d < n)
  | .ns fs => ltVs n (fs.map (·.2))
/- what is handed out of a ledger, once what lies above n is let go: frozen -/
noncomputable def res (n : Nat) (o : List Ob) : Nat → V → Option V
  | 0, _ => none
  | k + 1, v => if ltV n v then some v else match v with
    | .tuple vs => (allO (res n o k) vs).map .tuple
    | .ref i => (match o[i]? with
      | some (.list xs) => (allO (res n o k) xs).map .flist
      | _ => none)
    | _ => none
noncomputable def keeps (o o' : List Ob) : Prop := o'.take o.length = o ∨ (o.length ≤ o'.length ∧ ∀ x ∈ o'.take o.length, ltO o.length x = true)
open Classical in
noncomputable def settle (o o' : List Ob) (v : V) : Option (V × List Ob) := if keeps o o' then (res o.length o' 4 v).map fun v => (v, o'.take o.length) else none
open Classical in
noncomputable def dropTo (o o' : List Ob) : Option (List Ob) := if keeps o o' then some (o'.take o.length) else none
/- a new instance: it stays in the ledger, or it is frozen at once -/
noncomputable def newR (W : Wd) (c : Str) (vs : List V) : M V :=
  (alloc (.ns [])).bind fun d => match d with
    | .ref d => (alloc (.inst c d)).bind fun o => (W.cf (.meth c (nm "__init__")) (o :: vs)).bind fun r => (match r with
      | .none => M.pure o
      | _ => stuck)
    | _ => stuck
noncomputable def frzI (c : Str) (n : Nat) (o' : List Ob) : Option V := match o'[n]?, o'[n + 1]? with
  | some (.ns fs), some (.inst c' d) => if c' = c ∧ d = n ∧ ltVs n (fs.map (·.2)) = true then some (.finst c (fs.map (·.1)) (fs.map (·.2))) else none
  | _, _ => none
noncomputable def newF (W : Wd) (c : Str) (vs : List V) : M V := fun s => match newR W c vs s with
    | .ok _ s' => (match frzI c s.obs.length s'.obs, dropTo s.obs s'.obs with
      | some v, some o => .ok v { s with obs := o }
      | _, _ => .stuck)
    | .exc c' s' => (match dropTo s.obs s'.obs with
      | some o => .exc c' { s with obs := o }
      | none => .stuck)
    | .stuck => .stuck
noncomputable def newC (W : Wd) (c : Str) (vs : List V) : M V := if W.frz c then newF W c vs else newR W c vs

/- targets -/
inductive Tg where
  | var (i : Nat) | tup (is : List Nat)
noncomputable def setVars : List Nat → List V → M Unit
  | i :: is, v :: vs => (setVar i v).bind fun _ => setVars is vs
  | [], [] => M.pure ()
  | _, _ => stuck
noncomputable def asg : Tg → V → M Unit
  | .var i, v => setVar i v
  | .tup is, .tuple vs => setVars is vs
  | _, _ => stuck

/- comprehensions, statements -/
noncomputable def compItems (t : Tg) (cond : M Bool) (elt : M V) (c : List (Nat × Ob)) : List V → M (List V)
  | [] => (chkObs c).bind fun _ => M.pure []
  | x :: xs => (chkObs c).bind fun _ => (asg t x).bind fun _ => cond.bind fun b =>
    if b then elt.bind fun v => (compItems t cond elt c xs).bind fun vs => M.pure (v :: vs) else compItems t cond elt c xs
noncomputable def compM (base n : Nat) (src : M Src) (t : Tg) (cond : M Bool) (elt : M V) : M V :=
  src.bind fun s => if s.items.length ≤ lim then (innerM base n (compItems t cond elt s.chk s.items)).bind fun vs => M.pure (.flist vs) else stuck
noncomputable def seqS : List (M Flow) → M Flow
  | [] => M.pure .next
  | m :: r => m.bind fun f => match f with
    | .next => seqS r
    | .ret v => M.pure (.ret v)
noncomputable def forItems (t : Tg) (body : M Flow) (c : List (Nat × Ob)) : List V → M Flow
  | [] => (chkObs c).bind fun _ => M.pure .next
  | x :: xs => (chkObs c).bind fun _ => (asg t x).bind fun _ => body.bind fun f => match f with
    | .next => forItems t body c xs
    | .ret v => M.pure (.ret v)
noncomputable def forM (t : Tg) (src : M Src) (body : M Flow) : M Flow := src.bind fun s => forItems t body s.chk s.items
noncomputable def whileN (t : M Bool) (body : M Flow) : Nat → M Flow
  | 0 => stuck
  | n + 1 => t.bind fun b => if b then body.bind (fun f => match f with
      | .next => whileN t body n
      | .ret v => M.pure (.ret v)) else M.pure .next
noncomputable def fuelW : Nat := 1000000
noncomputable def whileM (t : M Bool) (body : M Flow) : M Flow := whileN t body fuelW
noncomputable def exprM (m : M V) : M Flow := m.bind fun _ => M.pure .next
noncomputable def retM (m : M V) : M Flow := m.bind fun v => M.pure (.ret v)
noncomputable def raiseM (_c : Str) : M Flow := stuck
noncomputable def assignM (t : Tg) (m : M V) : M Flow := m.bind fun v => (asg t v).bind fun _ => M.pure .next
noncomputable def setField (x : Str) (v : V) : List (Str × V) → List (Str × V)
  | [] => [(x, v)]
  | e :: r => if e.1 == x then (x, v) :: r else e :: setField x v r
noncomputable def setAttrV (W : Wd) (o : V) (x : Str) (v : V) : M Unit := match o with
  | .ref a => (getOb a).bind fun o => match o with
    | .inst c d => if W.fld c x then (getOb d).bind fun n => (match n with
      | .ns fs => if fs.length ≤ 100 then setOb d (.ns (setField x v fs)) else stuck
      | _ => stuck) else stuck
    | _ => stuck
  | _ => stuck
noncomputable def setAttrM (W : Wd) (o : M V) (x : Str) (m : M V) : M Flow := m.bind fun v => o.bind fun ov => (setAttrV W ov x v).bind fun _ => M.pure .next
noncomputable def setIdx {α : Type} (xs : List α) (i : Int) (v : α) : Option (List α) :=
  if 0 ≤ i ∧ i < big ∧ i < xs.length then some (xs.set i.toNat v) else none
noncomputable def setSubO (k v : V) : Ob → Option Ob
  | .list xs => (match k with
    | .int i => (setIdx xs i v).map .list
    | _ => none)
  | .pset ks => (keyP k).bind fun k => if isTrueV v = true ∧ ks.length ≤ lim then some (.pset (putP ks k)) else none
  | _ => none
noncomputable def setSubV (o k v : V) : M Unit := match o with
  | .ref a => (getOb a).bind fun o => (ofOpt (setSubO k v o)).bind fun o' => setOb a o'
  | _ => stuck
noncomputable def setSubM (o k m : M V) : M Flow := m.bind fun v => o.bind fun ov => k.bind fun kv => (setSubV ov kv v).bind fun _ => M.pure .next
noncomputable def flowV : Flow → V
  | .ret v => v
  | .next => .none
/- a call: what it leaves above the caller's ledger is let go, but for what a new instance's own body makes -/
noncomputable def settleB (raw : Bool) (o o' : List Ob) (v : V) : Option (V × List Ob) := if raw then some (v, o') else settle o o' v
/- ... or it is one new list, that nobody else knows -/
open Classical in
noncomputable def settleO (o o' : List Ob) (v : V) : Option (V × List Ob) := match v with
  | .ref i => (match o'[i]? with
    | some (.list xs) => if (o.length ≤ i ∧ o.length ≤ o'.length) ∧ (∀ x ∈ o'.take o.length, ltO o.length x = true) ∧ ltVs o.length xs = true then some (.flist xs, o'.take o.length) else none
    | _ => none)
  | _ => none
noncomputable def runFnS (sf : List Ob → List Ob → V → Option (V × List Ob)) (np n : Nat) (body : M Flow) (args : List V) : M V := fun s =>
  if args.length = np then match body ⟨args.map some ++ List.replicate (n - np) none, s.obs⟩ with
    | .ok fl s' => (match sf s.obs s'.obs (flowV fl) with
      | some (v, o) => .ok v { s with obs := o }
      | none => .stuck)
    | .exc c s' => (match dropTo s.obs s'.obs with
      | some o => .exc c { s with obs := o }
      | none => .stuck)
    | .stuck => .stuck
  else .stuck
noncomputable abbrev runFn (raw : Bool) := runFnS (settleB raw)
end Mine
set_option autoImplicit false
namespace Mine
open PySem

/- what the text's globals are -/
structure GI where
  fns : List Str
  clss : List Str
  consts : List (Str × V)

noncomputable def typeNames : List (Str × String) := [(nm "int", "int"), (nm "str", "str"), (nm "bool", "bool"), (nm "list", "list"), (nm "tuple", "tuple"), (nm "dict", "dict")]
noncomputable def dGlob (G : GI) (x : Str) : Option V :=
  match G.consts.lookup x with
  | some v => some v
  | none => if G.clss.contains x then some (.own x) else if G.fns.contains x then none else (typeNames.lookup x).map .type
noncomputable def idxLast : List Str → Str → Option Nat
  | [], _ => none
  | y :: r, x => match idxLast r x with
    | some k => some (k + 1)
    | none => if y == x then some 0 else none
noncomputable def isGlob (sc : Scope) (x : Str) : Bool := sc.names.lookup x == some .globalImplicit
noncomputable def isVar (sc : Scope) (x : Str) : Bool := match sc.names.lookup x with
  | some .local => true | some .cell => true | some .free => true | _ => false
noncomputable def dConst : Const → Option V
  | .none => some .none
  | .bool b => some (.bool b)
  | .int i => some (.int i)
  | .str s => some (.str s.cps.toList)
  | _ => none
noncomputable def isBuiltin (G : GI) (sc : Scope) (x : Str) (n : String) : Bool := x == nm n && isGlob sc x && !G.fns.contains x && !G.clss.contains x && (G.consts.lookup x).isNone
noncomputable def nameIs : Expr → Option Str
  | .Name x _ => some x
  | _ => none
noncomputable def namesOfT : List Expr → Option (List Str)
  | [] => some []
  | .Name x _ :: r => (namesOfT r).map (x :: ·)
  | _ => none
noncomputable def tgNames : Expr → Option (List Str)
  | .Name x _ => some [x]
  | .Tuple es _ _ => namesOfT es
  | _ => none
noncomputable def idxAll (ns : List Str) : List Str → Option (List Nat)
  | [] => some []
  | x :: r => match idxLast ns x, idxAll ns r with
    | some k, some ks => some (k :: ks)
    | _, _ => none
noncomputable def dTg (sc : Scope) (ns : List Str) : Expr → Option Tg
  | .Name x _ => if isVar sc x then (idxLast ns x).map .var else none
  | .Tuple es _ _ => match namesOfT es with
    | some xs => if xs.all (isVar sc) then (idxAll ns xs).map .tup else none
    | none => none
  | _ => none
noncomputable def isTupT : Expr → Bool
  | .Tuple .. => true
  | _ => false
noncomputable def zipOps : List CmpOp → List (M V) → Option (List (CmpOp × M V))
  | [], [] => some []
  | o :: os, m :: ms => (zipOps os ms).map ((o, m) :: ·)
  | _, _ => none
/- a call of a global name -/
noncomputable def dCall (W : Wd) (G : GI) (sc : Scope) (x : Str) (args : List (M V)) : Option (M V) :=
  if isGlob sc x then
    if G.fns.contains x then some (appM (W.cf (.fn x)) args)
    else if G.clss.contains x then (if W.has x (nm "__init__") then some (appM (newC W x) args) else none)
    else if (G.consts.lookup x).isSome then none
    else (bfun x).map fun f => appM f args
  else none
noncomputable def supE : Expr → Bool
  | .Call (.Name _ _) [] [] _ => true
  | _ => false
noncomputable def methM (pick : V → M (List V → M V)) (o : M V) (args : List (M V)) : M V := o.bind fun v => (pick v).bind fun f => (seqM args).bind fun vs => f (v :: vs)
noncomputable def dMeth (W : Wd) (x : Str) (o : M V) (args : List (M V)) : Option (M V) := some (methM (pickM W x) o args)

noncomputable def isSetE : Expr → Bool
  | .Set .. => true
  | _ => false
/- a set display behind in: none here -/
noncomputable def lastMarks0 (_ : List CmpOp) (es : List Expr) : Bool := es.any isSetE
/- what an expression means: its value; as a test; as what a loop runs over -/
structure Dn where
  v : Option (M V)
  b : Option (M Bool)
  s : Option (M Src)
noncomputable def Dn.of (m : Option (M V)) : Dn := ⟨m, m.map evB, m.map fun m => m.bind toSrc⟩
noncomputable def Dn.test (b : Option (M Bool)) : Dn := ⟨b.map boolV, b, none⟩
noncomputable def allV : List Dn → Option (List (M V))
  | [] => some []
  | x :: r => match x.v, allV r with
    | some m, some l => some (m :: l)
    | _, _ => none
noncomputable def allB : List Dn → Option (List (M Bool))
  | [] => some []
  | x :: r => match x.b, allB r with
    | some m, some l => some (m :: l)
    | _, _ => none
noncomputable def optV : Option Dn → Option (Option (M V))
  | none => some none
  | some x => x.v.map some
noncomputable def dSlice : Expr → Bool
  | .Slice .. => true
  | _ => false

noncomputable def dSl (o : Option (M V)) (l h : Option Dn) (st : Option Expr) : Option (M V) := match o, st, optV l, optV h with
  | some m, none, some l, some h => some (sliceM m l h)
  | _, _, _, _ => none
noncomputable def dSu (o k : Option (M V)) : Option (M V) := match o, k with
  | some m, some k => some (subM m k)
  | _, _ => none
/- a comprehension's own block, seen from where it stands -/
noncomputable def compOk (sc : Scope) (ns : List Str) (cs : Scope) (xs : List Str) : Bool :=
  cs.kind == .function && decide (cs.names.map (·.1)).Nodup &&
  cs.names.all (fun p => (p.2 != .cell || xs.contains p.1) && !(p.1 == ("__debug__" : Str)) && (p.2 != .local || xs.contains p.1 || !ns.contains p.1) && (p.2 != .free || (sc.names.lookup p.1 == some .cell || sc.names.lookup p.1 == some .free))) &&
  xs.all fun x => cs.names.lookup x == some .local || cs.names.lookup x == some .cell

mutual
noncomputable def dn (W : Wd) (G : GI) (sc : Scope) (ns : List Str) : Expr → Dn
  | .Constant c _ _ => .of ((dConst c).map constM)
  | .Name x _ => .of (if isGlob sc x then (dGlob G x).map constM else if isVar sc x then (idxLast ns x).map varM else none)
  | .BoolOp .And es _ => ⟨if es.isEmpty then none else (allV (dns W G sc ns es)).map fun l => boolV (andM (l.map evB)), (allB (dns W G sc ns es)).map andM, none⟩
  | .BoolOp .Or es _ => ⟨if es.isEmpty then none else (allV (dns W G sc ns es)).map fun l => boolV (orM (l.map evB)), (allB (dns W G sc ns es)).map orM, none⟩
  | .BinOp l op r _ => .of (match (dn W G sc ns l).v, (dn W G sc ns r).v with
    | some a, some b => some (binM op a b)
    | _, _ => none)
  | .UnaryOp .Not x _ => ⟨(dn W G sc ns x).v.map fun m => boolV (notM (evB m)), (dn W G sc ns x).b.map notM, none⟩
  | .UnaryOp .USub x _ => .of ((dn W G sc ns x).v.map negM)
  | .IfExp t a b _ => ⟨match (dn W G sc ns t).b, (dn W G sc ns a).v, (dn W G sc ns b).v with
    | some t, some a, some b => some (iteM t a b)
    | _, _, _ => none, none, none⟩
  | .List es _ => .of (if es.length ≤ 64 then (allV (dns W G sc ns es)).map listM else none)
  | .Tuple es _ _ => .of (if es.length ≤ 64 then (allV (dns W G sc ns es)).map tupM else none)
  | .ListComp elt gens cs _ => .of (match gens with
    | [⟨t, it, ifs, 0⟩] => match tgNames t with
      | some xs => if !compOk sc ns cs xs || isSetE it || decide (1 < ifs.length) then none else match (if isTupT t then (dn W G sc ns it).s else (dn W G sc ns it).v.map fun m => m.bind toSrc), dTg cs (ns ++ xs) t, allB (dns W G cs (ns ++ xs) ifs), (dn W G cs (ns ++ xs) elt).v with
        | some s, some tg, some cond, some e => some (compM ns.length xs.length s tg (andM cond) e)
        | _, _, _, _ => none
      | none => none
    | _ => none)
  | .Compare l ops cs _ => match (dn W G sc ns l).v, allV (dns W G sc ns cs) with
    | some a, some bs => if lastMarks0 ops cs then .of none else match zipOps ops bs with
      | some (r :: rs) => .test (some (cmpM a (r :: rs)))
      | _ => .of none
    | _, _ => .of none
  | .Call (.Attribute o x ap) as ks p => .of (match (dn W G sc ns o).v, allV (dns W G sc ns as), ks with
    | some m, some l, [] => if (ap.endLine == p.line) && decide (as.length < 29) && !supE o then dMeth W x m l else none
    | _, _, _ => none)
  | .Call (.Name x _) as ks _ => match allV (dns W G sc ns as), ks with
    | some l, [] =>
      if isBuiltin G sc x "enumerate" then ⟨none, none, match l with | [m] => some (m.bind enumV) | _ => none⟩
      else .of (dCall W G sc x l)
    | _, _ => .of none
  | .Attribute o x _ => .of (if supE o then none else (dn W G sc ns o).v.map fun m => attrM W m x)
  | .Subscript o (.Slice l h st _) _ => .of (dSl (dn W G sc ns o).v (dnO W G sc ns l) (dnO W G sc ns h) st)
  | .Subscript o i _ => .of (dSu (dn W G sc ns o).v (dn W G sc ns i).v)
  | _ => .of none
noncomputable def dnO (W : Wd) (G : GI) (sc : Scope) (ns : List Str) : Option Expr → Option Dn
  | none => none
  | some e => some (dn W G sc ns e)
noncomputable def dns (W : Wd) (G : GI) (sc : Scope) (ns : List Str) : List Expr → List Dn
  | [] => []
  | e :: r => dn W G sc ns e :: dns W G sc ns r
end
noncomputable def dE (W : Wd) (G : GI) (sc : Scope) (ns : List Str) (e : Expr) : Option (M V) := (dn W G sc ns e).v
noncomputable def dB (W : Wd) (G : GI) (sc : Scope) (ns : List Str) (e : Expr) : Option (M Bool) := (dn W G sc ns e).b
noncomputable def dSrc (W : Wd) (G : GI) (sc : Scope) (ns : List Str) (tt : Bool) (e : Expr) : Option (M Src) := if tt then (dn W G sc ns e).s else (dn W G sc ns e).v.map fun m => m.bind toSrc

/- lists that are new -/
noncomputable def freshE (G : GI) (sc : Scope) : Expr → Bool
  | .List .. => true
  | .ListComp .. => true
  | .Call (.Name x _) _ _ _ => isBuiltin G sc x "list"
  | _ => false
/- ... and that the text changes later on -/
noncomputable def ownE (G : GI) (sc : Scope) (mu : List Str) : Expr → Expr → Bool
  | .Name x _, e => freshE G sc e && mu.contains x
  | .Subscript .., e => freshE G sc e
  | _, _ => false
noncomputable def ownM (b : Bool) (m : M V) : M V := if b then m.bind ownL else m
/- a new dict -/
noncomputable def dDict (W : Wd) (G : GI) (sc : Scope) (ns : List Str) : Expr → Option (M V)
  | .Dict [some k] [v] _ =>
    if isTupT k then (dE W G sc ns k).bind fun k => (dE W G sc ns v).map fun v => pset1M k v else
    none
  | _ => none
/- a new list that a call hands out, and that the text changes -/
noncomputable def callN : Expr → Option (Str × List Expr)
  | .Call f as ks _ => if ks.isEmpty then (nameIs f).map fun x => (x, as) else none
  | _ => none
noncomputable def dOwnT (W : Wd) (mu : List Str) (f : Str) (l : List (M V)) : Expr → Option (M V)
  | .Name x _ => if mu.contains x then some ((appM (W.cf (.fnO f)) l).bind ownL) else none
  | .Tuple ts _ _ => if (namesOfT ts).any (fun xs => xs.any mu.contains) then some (appM (W.cf (.fnR f)) l) else none
  | _ => none
noncomputable def dOwn (W : Wd) (G : GI) (mu : List Str) (sc : Scope) (ns : List Str) (t e : Expr) : Option (M V) := (callN e).bind fun p =>
  if isGlob sc p.1 && G.fns.contains p.1 then (allV (dns W G sc ns p.2)).bind fun l => dOwnT W mu p.1 l t else none
noncomputable def dNew (W : Wd) (G : GI) (mu : List Str) (sc : Scope) (ns : List Str) (t e : Expr) : Option (M V) :=
  match dDict W G sc ns e with
  | some m => some m
  | none =>
  dOwn W G mu sc ns t e
noncomputable def dZip2 (W : Wd) (G : GI) (sc : Scope) (ns : List Str) : List Expr → Option (M Src)
  | [a, b, c] => (dE W G sc ns a).bind fun a => (dE W G sc ns b).bind fun b => (dE W G sc ns c).map fun c => zipM3 a b c
  | _ => none
noncomputable def dZip (W : Wd) (G : GI) (sc : Scope) (ns : List Str) (tt : Bool) (e : Expr) : Option (M Src) := (callN e).bind fun p => if tt && isBuiltin G sc p.1 "zip" then dZip2 W G sc ns p.2 else none
noncomputable def dVal (W : Wd) (G : GI) (mu : List Str) (sc : Scope) (ns : List Str) (t e : Expr) : Option (M V) := match dNew W G mu sc ns t e with
  | some m => some m
  | none => (dE W G sc ns e).map (ownM (ownE G sc mu t e))
noncomputable def dAsg (W : Wd) (G : GI) (sc : Scope) (ns : List Str) (t e : Expr) (m : Option (M V)) : Option (M Flow) := m.bind fun m => match t with
  | .Attribute o x _ => (dE W G sc ns o).map fun o => setAttrM W o x m
  | .Subscript o k _ => (dE W G sc ns o).bind fun o => (dE W G sc ns k).bind fun k => some (setSubM o k m)
  | .Name x p => (dTg sc ns (.Name x p)).map fun tg => assignM tg m
  | .Tuple ts k p => if isTupT e then none else (dTg sc ns (.Tuple ts k p)).map fun tg => assignM tg m
  | _ => none
/- what a for runs over -/
noncomputable def dFor (W : Wd) (G : GI) (sc : Scope) (ns : List Str) (tt : Bool) (e : Expr) : Option (M Src) :=
  match dZip W G sc ns tt e with
  | some m => some m
  | none =>
    dSrc W G sc ns tt e
noncomputable def callE : Expr → Bool
  | .Call .. => true
  | _ => false
noncomputable def raiseC : Option Expr → Option Str
  | some (.Call (.Name c _) _ [] _) => some c
  | _ => none
noncomputable def dRaise (G : GI) (sc : Scope) (e : Option Expr) : Option (M Flow) := match raiseC e with
  | some c => if isGlob sc c && G.clss.contains c then some (raiseM c) else none
  | none => none
noncomputable def one1 {α : Type} : List α → Option α
  | [t] => some t
  | _ => none
mutual
noncomputable def dS (W : Wd) (G : GI) (mu : List Str) (sc : Scope) (ns : List Str) : Stmt → Option (M Flow)
  | .Expr e _ => if callE e then (dE W G sc ns e).map exprM else none
  | .Pass _ => some (M.pure .next)
  | .Return e _ => e.bind fun e => (dE W G sc ns e).map retM
  | .Assign ts e _ => (one1 ts).bind fun t => dAsg W G sc ns t e (dVal W G mu sc ns t e)
  | .If t b o _ => (dB W G sc ns t).bind fun t => (dSs W G mu sc ns b).bind fun b => (dSs W G mu sc ns o).bind fun o => some (iteM t (seqS b) (seqS o))
  | .While t b o _ => if o.isEmpty then (dB W G sc ns t).bind fun t => (dSs W G mu sc ns b).bind fun b => some (whileM t (seqS b)) else none
  | .For t it b o _ => if o.isEmpty then (dTg sc ns t).bind fun tg => (dFor W G sc ns (isTupT t) it).bind fun s => (dSs W G mu sc ns b).bind fun b => some (forM tg s (seqS b)) else none
  | .Raise e f _ => if f.isNone then dRaise G sc e else none
  | _ => none
noncomputable def dSs (W : Wd) (G : GI) (mu : List Str) (sc : Scope) (ns : List Str) : List Stmt → Option (List (M Flow))
  | [] => some []
  | s :: r => (dS W G mu sc ns s).bind fun m => (dSs W G mu sc ns r).bind fun l => some (m :: l)
end
/- the names whose lists a body changes -/
noncomputable def mutM : Str → Bool := fun m => m == nm "append" || m == nm "extend" || m == nm "pop"
noncomputable def mutE : Expr → List Str
  | .Call (.Attribute (.Name x _) m _) _ _ _ => if mutM m then [x] else []
  | _ => []
noncomputable def mutT : Expr → List Str
  | .Subscript (.Name x _) _ _ => [x]
  | .Subscript (.Subscript (.Name x _) _ _) _ _ => [x]
  | _ => []
mutual
noncomputable def mutS : Stmt → List Str
  | .Expr e _ => mutE e
  | .Assign [t] e _ => mutT t ++ mutE e
  | .If _ b o _ => mutSs b ++ mutSs o
  | .While _ b _ _ => mutSs b
  | .For _ _ b _ _ => mutSs b
  | .Try b _ _ _ _ => mutSs b
  | _ => []
noncomputable def mutSs : List Stmt → List Str
  | [] => []
  | s :: r => mutS s ++ mutSs r
end

/- a def -/
noncomputable def slotsOf (sc : Scope) : List Str := (sc.names.filter fun p => p.2 == .local || p.2 == .cell).map (·.1)
structure FnD where
  key : FnKey
  params : List Str
  scope : Scope
  body : List Stmt
noncomputable def fnOfStmt (k : Str → FnKey) : Stmt → Option FnD
  | .FunctionDef name args body [] none [] scope none bind _ =>
    if bind == name && args.posonlyargs.isEmpty && args.vararg.isNone && args.kwonlyargs.isEmpty && args.kwarg.isNone && args.defaults.isEmpty then
      some ⟨k name, args.args.map (·.arg), scope, body⟩ else none
  | _ => none
noncomputable def fnsOf : List Stmt → List FnD
  | [] => []
  | .ClassDef name _ _ body _ _ _ _ _ _ _ :: r => body.filterMap (fnOfStmt (.meth name)) ++ fnsOf r
  | s :: r => (fnOfStmt .fn s).toList ++ fnsOf r
noncomputable def basesOf : List Stmt → List (Str × Str)
  | [] => []
  | .ClassDef name bs _ _ _ _ _ _ _ _ _ :: r => (name, match bs with | [.Name b _] => b | _ => nm "object") :: basesOf r
  | _ :: r => basesOf r
noncomputable def constsOf : List Stmt → List (Str × V)
  | [] => []
  | .Assign [.Name x _] (.Constant c _ _) _ :: r => (match dConst c with | some v => if x == nm "__name__" then [] else [(x, v)] | none => []) ++ constsOf r
  | _ :: r => constsOf r
noncomputable def giOf (p : List Stmt) : GI where
  fns := (fnsOf p).filterMap fun f => match f.key with | .fn x => some x | _ => none
  clss := (basesOf p).map (·.1)
  consts := constsOf p
noncomputable def subOf (bs : List (Str × Str)) : Nat → Str → Str → Bool
  | 0, _, _ => false
  | n + 1, c, d => c == d || match bs.lookup c with
    | some b => subOf bs n b d
    | none => false
noncomputable def FnKey.beq : FnKey → FnKey → Bool
  | .fn x, .fn y => x == y
  | .meth a b, .meth c d => a == c && b == d
  | _, _ => false
noncomputable def FnKey.raw : FnKey → Bool
  | .meth _ m => m == nm "__init__"
  | _ => false
noncomputable def FnKey.base : FnKey → FnKey
  | .fnO x => .fn x
  | .fnR x => .fn x
  | k => k
noncomputable def FnKey.own : FnKey → Bool
  | .fnO _ => true
  | _ => false
noncomputable def FnD.semO (W : Wd) (G : GI) (f : FnD) : List V → M V :=
  match dSs W G (mutSs f.body) f.scope (slotsOf f.scope) f.body with
  | some l => runFnS settleO f.params.length (slotsOf f.scope).length (seqS l)
  | none => fun _ => stuck
noncomputable def FnKey.keep : FnKey → Bool
  | .fnR _ => true
  | _ => false
noncomputable def FnD.sem (W : Wd) (G : GI) (raw : Bool) (f : FnD) : List V → M V :=
  match dSs W G (mutSs f.body) f.scope (slotsOf f.scope) f.body with
  | some l => runFn (raw || f.key.raw) f.params.length (slotsOf f.scope).length (seqS l)
  | none => fun _ => stuck
/- the fields that a class's methods set -/
noncomputable def fieldsIn : List Stmt → List Str
  | [] => []
  | .Assign [.Attribute _ x _] _ _ :: r => x :: fieldsIn r
  | _ :: r => fieldsIn r
noncomputable def fldOf (p : List Stmt) (c x : Str) : Bool := (fnsOf p).any fun f => match f.key with
  | .meth c' _ => c' == c && (fieldsIn f.body).contains x
  | _ => false
noncomputable def hasOf (p : List Stmt) (c x : Str) : Bool := (fnsOf p).any fun f => f.key.beq (.meth c x)
noncomputable def wdOf (p : List Stmt) (cf : FnKey → List V → M V) : Wd := ⟨cf, subOf (basesOf p) 6, fldOf p, hasOf p, fun c => c == nm "Machine"⟩
noncomputable def cfOf (p : List Stmt) : Nat → FnKey → List V → M V
  | 0, _ => fun _ => stuck
  | d + 1, k => match (fnsOf p).find? (fun f => f.key.beq k.base) with
    | some f => if k.own then f.semO (wdOf p (cfOf p d)) (giOf p) else f.sem (wdOf p (cfOf p d)) (giOf p) k.keep
    | none => fun _ => stuck
end Mine
set_option autoImplicit false
set_option linter.unusedVariables false
namespace Mine
open PySem
noncomputable def wpM {α : Type} (m : M α) (st : St) (Q : α → St → Prop) (X : Str → St → Prop) : Prop := match m st with
  | .ok a s => Q a s
  | .exc c s => X c s
  | .stuck => False

/- a goal is put away, so that a case split does not write it down again -/
theorem shut {G : Prop} (h : ∀ P : Prop, (G → P) → P) : G := h G id
theorem wpM_bind {α β : Type} {m : M α} {f : α → M β} {st : St} {Q : β → St → Prop} {X : Str → St → Prop} :
    wpM (m.bind f) st Q X ↔ wpM m st (fun a s => wpM (f a) s Q X) X := by
  unfold wpM M.bind
  cases m st <;> rfl
theorem wpM_pure {α : Type} {a : α} {st : St} {Q : α → St → Prop} {X : Str → St → Prop} : wpM (M.pure a) st Q X ↔ Q a st := Iff.rfl
theorem wpM_stuck {α : Type} {st : St} {Q : α → St → Prop} {X : Str → St → Prop} : wpM (stuck : M α) st Q X ↔ False := Iff.rfl
theorem wpM_mono {α : Type} {m : M α} {st : St} {Q Q' : α → St → Prop} {X X' : Str → St → Prop} (h : wpM m st Q X) (hq : ∀ a s, Q a s → Q' a s) (hx : ∀ c s, X c s → X' c s) : wpM m st Q' X' := by
  unfold wpM at *
  cases hm : m st with
  | ok a s => rw [hm] at h; exact hq a s h
  | exc c s => rw [hm] at h; exact hx c s h
  | stuck => rw [hm] at h; exact h

section
variable {st : St} {X : Str → St → Prop}
theorem wpM_getVar {i : Nat} {Q : V → St → Prop} : wpM (getVar i) st Q X ↔ ∃ v, st.vars[i]? = some (some v) ∧ Q v st := by
  unfold wpM getVar
  cases h : st.vars[i]? with
  | none => simp
  | some o => cases o with
    | none => simp
    | some v => simp
theorem wpM_setVar {i : Nat} {v : V} {Q : Unit → St → Prop} : wpM (setVar i v) st Q X ↔ i < st.vars.length ∧ Q () { st with vars := st.vars.set i (some v) } := by
  unfold wpM setVar
  by_cases h : i < st.vars.length <;> simp [h]
theorem wpM_getOb {a : Nat} {Q : Ob → St → Prop} : wpM (getOb a) st Q X ↔ ∃ o, st.obs[a]? = some o ∧ Q o st := by
  unfold wpM getOb
  cases h : st.obs[a]? with
  | none => simp
  | some o => simp
theorem wpM_setOb {a : Nat} {o : Ob} {Q : Unit → St → Prop} : wpM (setOb a o) st Q X ↔ a < st.obs.length ∧ Q () { st with obs := st.obs.set a o } := by
  unfold wpM setOb
  by_cases h : a < st.obs.length <;> simp [h]
theorem wpM_alloc {o : Ob} {Q : V → St → Prop} : wpM (alloc o) st Q X ↔ Q (.ref st.obs.length) { st with obs := st.obs ++ [o] } := Iff.rfl
theorem wpM_innerM {α : Type} {b n : Nat} {m : M α} {Q : α → St → Prop} : wpM (innerM b n m) st Q X ↔ wpM m { st with vars := st.vars.take b ++ List.replicate n none } (fun a st' => Q a { st with obs := st'.obs }) (fun c st' => X c { st with obs := st'.obs }) := by
  unfold wpM innerM
  cases m { st with vars := st.vars.take b ++ List.replicate n none } <;> rfl
theorem wpM_withObs {α : Type} {f : List Ob → Option α} {Q : α → St → Prop} : wpM (withObs f) st Q X ↔ ∃ a, f st.obs = some a ∧ Q a st := by
  unfold wpM withObs
  cases h : f st.obs with
  | none => simp
  | some o => simp
theorem wpM_ofOpt {α : Type} {o : Option α} {Q : α → St → Prop} : wpM (ofOpt o) st Q X ↔ ∃ a, o = some a ∧ Q a st := by
  cases o with
  | none => simp [ofOpt, wpM_stuck]
  | some a => simp [ofOpt, wpM_pure]
theorem wpM_getList {a : Nat} {Q : List V → St → Prop} : wpM (getList a) st Q X ↔ ∃ xs, st.obs[a]? = some (.list xs) ∧ Q xs st := by
  unfold getList
  rw [wpM_bind, wpM_getOb]
  constructor
  · rintro ⟨o, h1, h2⟩
    cases o <;> first | exact ⟨_, h1, h2⟩ | exact h2.elim
  · rintro ⟨xs, h1, h2⟩
    exact ⟨_, h1, h2⟩
theorem wpM_asBool {v : V} {Q : Bool → St → Prop} : wpM (asBool v) st Q X ↔ ∃ b, v = .bool b ∧ Q b st := by
  cases v <;> simp [asBool, wpM_pure, wpM_stuck]
theorem wpM_asInt {v : V} {Q : Int → St → Prop} : wpM (asInt v) st Q X ↔ ∃ b, v = .int b ∧ Q b st := by
  cases v <;> simp [asInt, wpM_pure, wpM_stuck]
theorem wpM_asStr {v : V} {Q : List Nat → St → Prop} : wpM (asStr v) st Q X ↔ ∃ b, v = .str b ∧ Q b st := by
  cases v <;> simp [asStr, wpM_pure, wpM_stuck]
theorem wpM_listOf {v : V} {Q : List V → St → Prop} (h : wpM (listOf v) st Q X) : (∃ xs, (v = .flist xs ∨ v = .alist xs) ∧ Q xs st) ∨ (∃ a xs, v = .ref a ∧ st.obs[a]? = some (.list xs) ∧ Q xs st) := by
  cases v <;> first | exact h.elim | skip
  · exact .inl ⟨_, .inl rfl, h⟩
  · exact .inl ⟨_, .inr rfl, h⟩
  · obtain ⟨xs, h1, h2⟩ := wpM_getList.mp h
    exact .inr ⟨_, xs, rfl, h1, h2⟩
theorem wpM_int2 {α : Type} {f : Int → Int → M α} {a b : V} {Q : α → St → Prop} (h : wpM (int2 f a b) st Q X) : ∃ i j, a = .int i ∧ b = .int j ∧ wpM (f i j) st Q X := by
  obtain ⟨i, rfl, h1⟩ := wpM_asInt.mp (wpM_bind.mp h)
  obtain ⟨j, rfl, h2⟩ := wpM_asInt.mp (wpM_bind.mp h1)
  exact ⟨i, j, rfl, rfl, h2⟩
end

end Mine
set_option autoImplicit false
set_option linter.unusedVariables false
namespace Mine
open PySem PyProof.Rows

/- what is known of a run; off: places that no frozen thing may lie at -/
structure Cx where
  prog : Program
  w : World
  base : Heap
  mg : Str → Option Value
  mb : Str → Option Value
  off : Addr → Prop
noncomputable def Cx.at (C : Cx) (f : Addr → Prop) : Cx := { C with off := f }
noncomputable def Cx.hide (C : Cx) (N : Addr → Prop) : Cx := C.at fun b => C.off b ∨ N b
noncomputable def Free (C : Cx) (ρ : List Addr) (a : Addr) : Prop := a ∉ ρ ∧ ¬ C.off a

noncomputable def KeysR : List Str → List DictEntry → Prop
  | [], l => l = []
  | x :: xs, l => ∃ e es t, l = e :: es ∧ e.key = .str x t ∧ KeysR xs es
noncomputable def IsInst (C : Cx) (h : Heap) (c : Str) (a da : Addr) (ents : Array DictEntry) : Prop :=
  ∃ k n, C.mg c = some (.ref k) ∧ h.get? a = some { cls := .ref k, dict := some da } ∧ h.get? da = some { cls := .type "dict", data := .dict ents n }
mutual
noncomputable def VR (C : Cx) (h : Heap) (ρ : List Addr) : V → Value → Prop
  | .none, v => v = .none
  | .bool b, v => v = .bool b
  | .int i, v => ∃ t, v = .int i t
  | .str s, v => ∃ t, v = .str ⟨s.toArray⟩ t
  | .tuple vs, v => ∃ a items, v = .ref a ∧ IsTup h a items ∧ Free C ρ a ∧ VRs C h ρ vs items.toList
  | .flist vs, v => ∃ a items n, v = .ref a ∧ h.get? a = some { cls := .type "list", data := .seq items n } ∧ Free C ρ a ∧ VRs C h ρ vs items.toList
  | .alist vs, v => ∃ a items, v = .ref a ∧ h.IsList a items ∧ Free C ρ a ∧ VRs C h ρ vs items.toList
  | .finst c ns vs, v => ∃ a da ents, v = .ref a ∧ IsInst C h c a da ents ∧ (Free C ρ a ∧ Free C ρ da) ∧ KeysR ns ents.toList ∧ VRs C h ρ vs (ents.toList.map (·.val))
  | .range lo hi, v => ∃ a t u k, v = .ref a ∧ Free C ρ a ∧ IsRange h a lo hi 1 t u k
  | .set ns, v => ∃ a, v = .ref a ∧ Free C ρ a ∧ h.SetOf (intKind C.prog C.w) a (fun k => ns.any (· == k)) ns.length
  | .exc _, _ => False
  | .ref i, v => ∃ a, v = .ref a ∧ ρ[i]? = some a
  | .own x, v => ∃ a, v = .ref a ∧ C.mg x = some (.ref a)
  | .type n, v => v = .type n
noncomputable def VRs (C : Cx) (h : Heap) (ρ : List Addr) : List V → List Value → Prop
  | [], l => l = []
  | v :: vs, l => ∃ x xs, l = x :: xs ∧ VR C h ρ v x ∧ VRs C h ρ vs xs
end
section
variable {C : Cx} {h : Heap} {ρ : List Addr} {v : Value}
theorem vR0 : VR C h ρ (.none) v = (v = .none) := rfl
theorem vR1 {b : Bool} : VR C h ρ (.bool b) v = (v = .bool b) := rfl
theorem vR2 {i : Int} : VR C h ρ (.int i) v = (∃ t, v = .int i t) := rfl
theorem vR3 {s : List Nat} : VR C h ρ (.str s) v = (∃ t, v = .str ⟨s.toArray⟩ t) := rfl
theorem vR4 {vs : List V} : VR C h ρ (.tuple vs) v = (∃ a items, v = .ref a ∧ IsTup h a items ∧ Free C ρ a ∧ VRs C h ρ vs items.toList) := rfl
theorem vR5 {vs : List V} : VR C h ρ (.flist vs) v = (∃ a items n, v = .ref a ∧ h.get? a = some { cls := .type "list", data := .seq items n } ∧ Free C ρ a ∧ VRs C h ρ vs items.toList) := rfl
theorem vR6 {vs : List V} : VR C h ρ (.alist vs) v = (∃ a items, v = .ref a ∧ h.IsList a items ∧ Free C ρ a ∧ VRs C h ρ vs items.toList) := rfl
theorem vR7 {c : Str} {ns : List Str} {vs : List V} : VR C h ρ (.finst c ns vs) v = (∃ a da ents, v = .ref a ∧ IsInst C h c a da ents ∧ (Free C ρ a ∧ Free C ρ da) ∧ KeysR ns ents.toList ∧ VRs C h ρ vs (ents.toList.map (·.val))) := rfl
theorem vR8 {lo : Int} {hi : Int} : VR C h ρ (.range lo hi) v = (∃ a t u k, v = .ref a ∧ Free C ρ a ∧ IsRange h a lo hi 1 t u k) := rfl
theorem vR9 {ns : List Int} : VR C h ρ (.set ns) v = (∃ a, v = .ref a ∧ Free C ρ a ∧ h.SetOf (intKind C.prog C.w) a (fun k => ns.any (· == k)) ns.length) := rfl
theorem vR10 {c : Str} : VR C h ρ (.exc c) v = (False) := rfl
theorem vR11 {i : Nat} : VR C h ρ (.ref i) v = (∃ a, v = .ref a ∧ ρ[i]? = some a) := rfl
theorem vR12 {x : Str} : VR C h ρ (.own x) v = (∃ a, v = .ref a ∧ C.mg x = some (.ref a)) := rfl
theorem vR13 {n : String} : VR C h ρ (.type n) v = (v = .type n) := rfl
theorem vS0 {l : List Value} : VRs C h ρ [] l = (l = []) := rfl
theorem vS1 {v : V} {vs : List V} {l : List Value} : VRs C h ρ (v :: vs) l = (∃ x xs, l = x :: xs ∧ VR C h ρ v x ∧ VRs C h ρ vs xs) := rfl
end
noncomputable def NsR (C : Cx) (h : Heap) (ρ : List Addr) : List (Str × V) → List DictEntry → Prop
  | [], l => l = []
  | e :: es, l => ∃ x xs t, l = x :: xs ∧ x.key = .str e.1 t ∧ VR C h ρ e.2 x.val ∧ NsR C h ρ es xs
theorem ns_keys {C : Cx} {h : Heap} {ρ : List Addr} : ∀ {fs : List (Str × V)} {l : List DictEntry}, NsR C h ρ fs l → KeysR (fs.map (·.1)) l ∧ VRs C h ρ (fs.map (·.2)) (l.map (·.val))
  | [], l, r => by cases r; exact ⟨rfl, by simp only [List.map, vS0, vS1]⟩
  | (x, v) :: fs, l, r => by
    obtain ⟨e, es, t, rfl, h1, h2, h3⟩ := r
    obtain ⟨q1, q2⟩ := ns_keys h3
    refine ⟨⟨e, es, t, rfl, h1, q1⟩, ?_⟩
    simp only [List.map, vS0, vS1]
    exact ⟨_, _, rfl, h2, q2⟩
theorem keys_ns {C : Cx} {h : Heap} {ρ : List Addr} : ∀ {ns : List Str} {vs : List V} {l : List DictEntry}, KeysR ns l → VRs C h ρ vs (l.map (·.val)) → NsR C h ρ (ns.zip vs) l
  | [], vs, l, r, q => by cases r; rfl
  | x :: ns, vs, l, r, q => by
    obtain ⟨e, es, t, rfl, h1, h2⟩ := r
    cases vs with
    | nil => simp only [List.map, vS0, vS1] at q; cases q
    | cons v vs =>
      simp only [List.map, vS0, vS1] at q
      obtain ⟨_, _, q1, q2, q3⟩ := q
      cases q1
      exact ⟨e, es, t, rfl, h1, q2, keys_ns h2 q3⟩

noncomputable def OR (C : Cx) (h : Heap) (ρ : List Addr) : Ob → Addr → Prop
  | .list xs, a => ∃ items n, h.get? a = some { cls := .type "list", data := .seq items n } ∧ VRs C h ρ xs items.toList
  | .pset ks, a => ∃ xs : List (List Int × Addr × Value), h.DictOfH (tupleKind (intKind C.prog C.w)) a xs ∧ (∀ x ∈ xs, Free C ρ x.2.1 ∧ x.2.2 = .bool true) ∧ xs.map (·.1) = ks
  | .inst c d, a => ∃ da k, ρ[d]? = some da ∧ C.mg c = some (.ref k) ∧ h.get? a = some { cls := .ref k, dict := some da }
  | .ns fs, a => ∃ ents n, h.get? a = some { cls := .type "dict", data := .dict ents n } ∧ NsR C h ρ fs ents.toList

structure Inv (C : Cx) (h : Heap) (ρ : List Addr) (obs : List Ob) : Prop where
  base : C.base.StaysIn h
  len : ρ.length = obs.length
  nodup : ρ.Nodup
  new : ∀ a : Addr, a ∈ ρ → C.base.get? a = none ∧ ¬ C.off a
  hid : ∀ a : Addr, C.off a → ∃ o, h.get? a = some o
  ob : ∀ (i : Nat) (o : Ob), obs[i]? = some o → ∃ a : Addr, ρ[i]? = some a ∧ OR C h ρ o a

/- things that stand for values -/
noncomputable def valTypes : List String := ["tuple", "list", "range", "dict", "set"]
noncomputable def isVal (o : Obj) : Bool := match o.cls with
  | .type n => valTypes.contains n
  | .ref _ => true
  | _ => false

/- from one state of the heap and the ledger to another: references below n are kept -/
structure Mv (n : Nat) (C : Cx) (h : Heap) (ρ : List Addr) (C' : Cx) (h' : Heap) (ρ' : List Addr) : Prop where
  eq : ∃ f, C' = C.at f
  idx : ∀ (i : Nat) (a : Addr), i < n → ρ[i]? = some a → ρ'[i]? = some a
  val : ∀ (b : Addr) (o : Obj), h.get? b = some o → Free C ρ b → isVal o = true → h'.get? b = some o ∧ Free C' ρ' b
theorem Mv.mg {n : Nat} {C C' : Cx} {h h' : Heap} {ρ ρ' : List Addr} (e : Mv n C h ρ C' h' ρ') : C'.mg = C.mg := by obtain ⟨f, q⟩ := e.eq; rw [q]; rfl
theorem list_isVal {o : Obj} (h : o.cls = .type "list") : isVal o = true := by unfold isVal; rw [h]; rfl
mutual
theorem VR.move {n : Nat} {C C' : Cx} {h h' : Heap} {ρ ρ' : List Addr} (e : Mv n C h ρ C' h' ρ') : ∀ {v : V} {x : Value}, ltV n v = true → VR C h ρ v x → VR C' h' ρ' v x
  | .none, _, _, r => r
  | .bool _, _, _, r => r
  | .int _, _, _, r => r
  | .str _, _, _, r => r
  | .tuple vs, x, q, r => by
    simp only [vR0, vR1, vR2, vR3, vR4, vR5, vR6, vR7, vR8, vR9, vR10, vR11, vR12, vR13, lR0, lR1, lR2, lR3, lR4, lR5, lR6, lR7, lR8, lR9, lR10, lR11, lR12, lR13] at q r ⊢
    obtain ⟨a, items, rfl, ⟨o, ho, hc, n, hd⟩, hn, hr⟩ := r
    obtain ⟨h1, h2⟩ := e.val a o ho hn (by unfold isVal; rw [hc]; rfl)
    exact ⟨a, items, rfl, ⟨o, h1, hc, n, hd⟩, h2, VRs.move e q hr⟩
  | .flist vs, x, q, r => by
    simp only [vR0, vR1, vR2, vR3, vR4, vR5, vR6, vR7, vR8, vR9, vR10, vR11, vR12, vR13, lR0, lR1, lR2, lR3, lR4, lR5, lR6, lR7, lR8, lR9, lR10, lR11, lR12, lR13] at q r ⊢
    obtain ⟨a, items, n, rfl, ho, hn, hr⟩ := r
    obtain ⟨h1, h2⟩ := e.val a _ ho hn rfl
    exact ⟨a, items, n, rfl, h1, h2, VRs.move e q hr⟩
  | .alist vs, x, q, r => by
    simp only [vR0, vR1, vR2, vR3, vR4, vR5, vR6, vR7, vR8, vR9, vR10, vR11, vR12, vR13, lR0, lR1, lR2, lR3, lR4, lR5, lR6, lR7, lR8, lR9, lR10, lR11, lR12, lR13] at q r ⊢
    obtain ⟨a, items, rfl, ⟨o, ho, hc, n, hd⟩, hn, hr⟩ := r
    obtain ⟨h1, h2⟩ := e.val a o ho hn (list_isVal hc)
    exact ⟨a, items, rfl, ⟨o, h1, hc, n, hd⟩, h2, VRs.move e q hr⟩
  | .finst c ns vs, x, q, r => by
    simp only [vR0, vR1, vR2, vR3, vR4, vR5, vR6, vR7, vR8, vR9, vR10, vR11, vR12, vR13, lR0, lR1, lR2, lR3, lR4, lR5, lR6, lR7, lR8, lR9, lR10, lR11, lR12, lR13] at q r ⊢
    obtain ⟨a, da, ents, rfl, ⟨k, m, hk, ha, hd⟩, ⟨hn, hdn⟩, hks, hr⟩ := r
    obtain ⟨h1, h2⟩ := e.val a _ ha hn rfl
    obtain ⟨h3, h4⟩ := e.val da _ hd hdn rfl
    exact ⟨a, da, ents, rfl, ⟨k, m, by rw [e.mg]; exact hk, h1, h3⟩, ⟨h2, h4⟩, hks, VRs.move e q hr⟩
  | .range lo hi, x, q, r => by
    simp only [vR0, vR1, vR2, vR3, vR4, vR5, vR6, vR7, vR8, vR9, vR10, vR11, vR12, vR13] at r ⊢
    obtain ⟨a, t, u, k, rfl, hn, ho⟩ := r
    obtain ⟨h1, h2⟩ := e.val a _ ho hn rfl
    exact ⟨a, t, u, k, rfl, h2, h1⟩
  | .set ns, x, _, r => by
    simp only [vR0, vR1, vR2, vR3, vR4, vR5, vR6, vR7, vR8, vR9, vR10, vR11, vR12, vR13] at r ⊢
    obtain ⟨a, rfl, hn, o, es, ep, t, ho, hc, hr⟩ := r
    obtain ⟨h1, h2⟩ := e.val a o ho hn (by unfold isVal; rw [hc.1]; rfl)
    refine ⟨a, rfl, h2, ?_⟩
    obtain ⟨f, q⟩ := e.eq
    subst q
    exact ⟨o, es, ep, t, h1, hc, hr⟩
  | .exc _, _, _, r => by simp only [vR0, vR1, vR2, vR3, vR4, vR5, vR6, vR7, vR8, vR9, vR10, vR11, vR12, vR13] at r
  | .ref i, x, q, r => by
    simp only [vR0, vR1, vR2, vR3, vR4, vR5, vR6, vR7, vR8, vR9, vR10, vR11, vR12, vR13, lR0, lR1, lR2, lR3, lR4, lR5, lR6, lR7, lR8, lR9, lR10, lR11, lR12, lR13, decide_eq_true_eq] at q r ⊢
    obtain ⟨a, rfl, hi⟩ := r
    exact ⟨a, rfl, e.idx i a q hi⟩
  | .own _, _, _, r => by simp only [vR0, vR1, vR2, vR3, vR4, vR5, vR6, vR7, vR8, vR9, vR10, vR11, vR12, vR13] at r ⊢; rw [e.mg]; exact r
  | .type _, _, _, r => by simp only [vR0, vR1, vR2, vR3, vR4, vR5, vR6, vR7, vR8, vR9, vR10, vR11, vR12, vR13] at r ⊢; exact r
theorem VRs.move {n : Nat} {C C' : Cx} {h h' : Heap} {ρ ρ' : List Addr} (e : Mv n C h ρ C' h' ρ') : ∀ {vs : List V} {xs : List Value}, ltVs n vs = true → VRs C h ρ vs xs → VRs C' h' ρ' vs xs
  | [], _, _, r => by simp only [vS0, vS1] at r ⊢; exact r
  | v :: vs, l, q, r => by
    simp only [vS0, vS1, lS0, lS1, Bool.and_eq_true] at q r ⊢
    obtain ⟨x, xs, rfl, h1, h2⟩ := r
    exact ⟨x, xs, rfl, VR.move e q.1 h1, VRs.move e q.2 h2⟩
end
mutual
theorem VR.lt {C : Cx} {h : Heap} {ρ : List Addr} : ∀ {v : V} {x : Value}, VR C h ρ v x → ltV ρ.length v = true
  | .none, _, r => by simp only [lR0, lR1, lR2, lR3, lR4, lR5, lR6, lR7, lR8, lR9, lR10, lR11, lR12, lR13]
  | .bool _, _, r => by simp only [lR0, lR1, lR2, lR3, lR4, lR5, lR6, lR7, lR8, lR9, lR10, lR11, lR12, lR13]
  | .int _, _, r => by simp only [lR0, lR1, lR2, lR3, lR4, lR5, lR6, lR7, lR8, lR9, lR10, lR11, lR12, lR13]
  | .str _, _, r => by simp only [lR0, lR1, lR2, lR3, lR4, lR5, lR6, lR7, lR8, lR9, lR10, lR11, lR12, lR13]
  | .tuple vs, x, r => by
    simp only [vR0, vR1, vR2, vR3, vR4, vR5, vR6, vR7, vR8, vR9, vR10, vR11, vR12, vR13, lR0, lR1, lR2, lR3, lR4, lR5, lR6, lR7, lR8, lR9, lR10, lR11, lR12, lR13] at r ⊢
    obtain ⟨a, items, rfl, _, hn, hr⟩ := r
    exact VRs.lt hr
  | .flist vs, x, r => by
    simp only [vR0, vR1, vR2, vR3, vR4, vR5, vR6, vR7, vR8, vR9, vR10, vR11, vR12, vR13, lR0, lR1, lR2, lR3, lR4, lR5, lR6, lR7, lR8, lR9, lR10, lR11, lR12, lR13] at r ⊢
    obtain ⟨a, items, n, rfl, _, hn, hr⟩ := r
    exact VRs.lt hr
  | .alist vs, x, r => by
    simp only [vR0, vR1, vR2, vR3, vR4, vR5, vR6, vR7, vR8, vR9, vR10, vR11, vR12, vR13, lR0, lR1, lR2, lR3, lR4, lR5, lR6, lR7, lR8, lR9, lR10, lR11, lR12, lR13] at r ⊢
    obtain ⟨a, items, rfl, _, hn, hr⟩ := r
    exact VRs.lt hr
  | .finst c ns vs, x, r => by
    simp only [vR0, vR1, vR2, vR3, vR4, vR5, vR6, vR7, vR8, vR9, vR10, vR11, vR12, vR13, lR0, lR1, lR2, lR3, lR4, lR5, lR6, lR7, lR8, lR9, lR10, lR11, lR12, lR13] at r ⊢
    obtain ⟨a, da, ents, rfl, _, _, hks, hr⟩ := r
    exact VRs.lt hr
  | .range lo hi, x, r => by simp only [lR0, lR1, lR2, lR3, lR4, lR5, lR6, lR7, lR8, lR9, lR10, lR11, lR12, lR13]
  | .set _, _, r => by simp only [lR0, lR1, lR2, lR3, lR4, lR5, lR6, lR7, lR8, lR9, lR10, lR11, lR12, lR13]
  | .exc _, _, r => by simp only [vR0, vR1, vR2, vR3, vR4, vR5, vR6, vR7, vR8, vR9, vR10, vR11, vR12, vR13] at r
  | .ref i, x, r => by
    simp only [vR0, vR1, vR2, vR3, vR4, vR5, vR6, vR7, vR8, vR9, vR10, vR11, vR12, vR13, lR0, lR1, lR2, lR3, lR4, lR5, lR6, lR7, lR8, lR9, lR10, lR11, lR12, lR13, decide_eq_true_eq] at r ⊢
    obtain ⟨a, rfl, hi⟩ := r
    exact (List.getElem?_eq_some_iff.mp hi).1
  | .own _, _, r => by simp only [lR0, lR1, lR2, lR3, lR4, lR5, lR6, lR7, lR8, lR9, lR10, lR11, lR12, lR13]
  | .type _, _, r => by simp only [lR0, lR1, lR2, lR3, lR4, lR5, lR6, lR7, lR8, lR9, lR10, lR11, lR12, lR13]
theorem VRs.lt {C : Cx} {h : Heap} {ρ : List Addr} : ∀ {vs : List V} {xs : List Value}, VRs C h ρ vs xs → ltVs ρ.length vs = true
  | [], _, r => by simp only [lS0, lS1]
  | v :: vs, l, r => by
    simp only [vS0, vS1, lS0, lS1, Bool.and_eq_true] at r ⊢
    obtain ⟨x, xs, rfl, h1, h2⟩ := r
    exact ⟨VR.lt h1, VRs.lt h2⟩
end
theorem NsR.move {n : Nat} {C C' : Cx} {h h' : Heap} {ρ ρ' : List Addr} (e : Mv n C h ρ C' h' ρ') : ∀ {es : List (Str × V)} {xs : List DictEntry}, ltVs n (es.map (·.2)) = true → NsR C h ρ es xs → NsR C' h' ρ' es xs
  | [], _, _, r => r
  | _ :: _, _, q, ⟨x, xs, t, q0, h1, h2, h3⟩ => by
    simp only [List.map, lS0, lS1, Bool.and_eq_true] at q
    exact ⟨x, xs, t, q0, h1, h2.move e q.1, NsR.move e q.2 h3⟩
theorem NsR.lt {C : Cx} {h : Heap} {ρ : List Addr} {es : List (Str × V)} {xs : List DictEntry} (r : NsR C h ρ es xs) : ltVs ρ.length (es.map (·.2)) = true := (ns_keys r).2.lt
theorem OR.move {n : Nat} {C C' : Cx} {h h' : Heap} {ρ ρ' : List Addr} (e : Mv n C h ρ C' h' ρ') {o : Ob} {a : Addr} (q : ltO n o = true) (r : OR C h ρ o a) (ha : h'.get? a = h.get? a) : OR C' h' ρ' o a := by
  cases o with
  | list xs => obtain ⟨items, n, h1, h2⟩ := r; exact ⟨items, n, ha.trans h1, h2.move e q⟩
  | pset ks =>
    obtain ⟨xs, ⟨o, es, ep, h1, h2, h3, h4, h5, h6⟩, h7, h8⟩ := r
    have tup : ∀ x ∈ xs, (∃ o' items n, h'.get? x.2.1 = some o' ∧ o'.cls = .type "tuple" ∧ o'.data = .seq items n ∧ ItemsAre (intKind C.prog C.w) x.1 items.toList) ∧ Free C' ρ' x.2.1 := fun x hx => by
      obtain ⟨o', items, n, q1, q2, q3, q4⟩ := h5 x hx
      obtain ⟨g1, g2⟩ := e.val _ o' q1 (h7 x hx).1 (by unfold isVal; rw [q2]; rfl)
      exact ⟨⟨o', items, n, g1, q2, q3, q4⟩, g2⟩
    obtain ⟨f, q'⟩ := e.eq
    subst q'
    exact ⟨xs, ⟨o, es, ep, ha.trans h1, h2, h3, h4, fun x hx => (tup x hx).1, h6⟩, fun x hx => ⟨(tup x hx).2, (h7 x hx).2⟩, h8⟩
  | inst c d =>
    obtain ⟨da, k, h1, h2, h3⟩ := r
    simp only [ltO, decide_eq_true_eq] at q
    exact ⟨da, k, e.idx _ _ q h1, by rw [e.mg]; exact h2, ha.trans h3⟩
  | ns fs => obtain ⟨items, n, h1, h2⟩ := r; exact ⟨items, n, ha.trans h1, h2.move e q⟩
theorem OR.lt {C : Cx} {h : Heap} {ρ : List Addr} {o : Ob} {a : Addr} (r : OR C h ρ o a) : ltO ρ.length o = true := by
  cases o with
  | list xs => obtain ⟨items, n, h1, h2⟩ := r; exact h2.lt
  | pset ks => simp only [ltO]
  | inst c d =>
    obtain ⟨da, k, h1, h2, h3⟩ := r
    simp only [ltO, decide_eq_true_eq]
    exact (List.getElem?_eq_some_iff.mp h1).1
  | ns fs => obtain ⟨items, n, h1, h2⟩ := r; exact h2.lt
theorem OR.there {C : Cx} {h : Heap} {ρ : List Addr} {o : Ob} {a : Addr} (r : OR C h ρ o a) : ∃ ob, h.get? a = some ob := by
  cases o with
  | list xs => obtain ⟨items, n, h1, _⟩ := r; exact ⟨_, h1⟩
  | pset ks => obtain ⟨xs, ⟨o, es, ep, h1, _⟩, _⟩ := r; exact ⟨o, h1⟩
  | inst c d => obtain ⟨da, k, _, _, h3⟩ := r; exact ⟨_, h3⟩
  | ns fs => obtain ⟨items, n, h1, _⟩ := r; exact ⟨_, h1⟩

structure ExtV (C : Cx) (h : Heap) (ρ : List Addr) (h' : Heap) (ρ' : List Addr) : Prop where
  pre : ∃ t, ρ' = ρ ++ t
  val : ∀ (b : Addr) (o : Obj), h.get? b = some o → Free C ρ b → isVal o = true → h'.get? b = some o ∧ b ∉ ρ'
theorem ExtV.at {C : Cx} {h h' : Heap} {ρ ρ' : List Addr} (e : ExtV C h ρ h' ρ') {i : Nat} {a : Addr} (hi : ρ[i]? = some a) : ρ'[i]? = some a := by
  obtain ⟨t, rfl⟩ := e.pre
  rw [List.getElem?_append_left (List.getElem?_eq_some_iff.mp hi).1]; exact hi
theorem ExtV.mv {C : Cx} {h h' : Heap} {ρ ρ' : List Addr} (e : ExtV C h ρ h' ρ') : Mv ρ.length C h ρ C h' ρ' :=
  ⟨⟨C.off, rfl⟩, fun i a _ q => e.at q, fun b o h1 h2 h3 => ⟨(e.val b o h1 h2 h3).1, (e.val b o h1 h2 h3).2, h2.2⟩⟩
theorem VR.ext {C : Cx} {h h' : Heap} {ρ ρ' : List Addr} (e : ExtV C h ρ h' ρ') {v : V} {x : Value} (r : VR C h ρ v x) : VR C h' ρ' v x := r.move e.mv r.lt
theorem VRs.ext {C : Cx} {h h' : Heap} {ρ ρ' : List Addr} (e : ExtV C h ρ h' ρ') {vs : List V} {xs : List Value} (r : VRs C h ρ vs xs) : VRs C h' ρ' vs xs := r.move e.mv r.lt
theorem NsR.ext {C : Cx} {h h' : Heap} {ρ ρ' : List Addr} (e : ExtV C h ρ h' ρ') {es : List (Str × V)} {xs : List DictEntry} (r : NsR C h ρ es xs) : NsR C h' ρ' es xs := r.move e.mv r.lt
theorem OR.ext {C : Cx} {h h' : Heap} {ρ ρ' : List Addr} (e : ExtV C h ρ h' ρ') {o : Ob} {a : Addr} (r : OR C h ρ o a) (ha : h'.get? a = h.get? a) : OR C h' ρ' o a := r.move e.mv r.lt ha
theorem Inv.mem {C : Cx} {h : Heap} {ρ : List Addr} {obs : List Ob} (I : Inv C h ρ obs) {a : Addr} (ha : a ∈ ρ) : ∃ o, h.get? a = some o := by
  obtain ⟨i, hi, rfl⟩ := List.getElem_of_mem ha
  have hl : i < obs.length := I.len ▸ hi
  obtain ⟨b, hb, r⟩ := I.ob i obs[i] (List.getElem?_eq_getElem hl)
  rw [List.getElem?_eq_getElem hi] at hb
  cases hb
  exact r.there
theorem Inv.ext {C : Cx} {h h' : Heap} {ρ : List Addr} {obs : List Ob} (I : Inv C h ρ obs) (hb : C.base.StaysIn h') (e : ExtV C h ρ h' ρ) (ha : ∀ a : Addr, a ∈ ρ → h'.get? a = h.get? a) (hal : ∀ b o, h.get? b = some o → ∃ o', h'.get? b = some o') : Inv C h' ρ obs :=
  ⟨hb, I.len, I.nodup, I.new, fun a q => let ⟨o, h1⟩ := I.hid a q; hal a o h1, fun i o ho => let ⟨a, h1, h2⟩ := I.ob i o ho; ⟨a, h1, h2.ext e (ha a (List.mem_of_getElem? h1))⟩⟩
theorem Inv.notB {C : Cx} {h : Heap} {ρ : List Addr} {obs : List Ob} (I : Inv C h ρ obs) {a : Addr} (hn : h.get? a = none) : C.base.get? a = none := by
  cases q : C.base.get? a with
  | none => rfl
  | some o => have := I.base _ o q; rw [hn] at this; cases this
theorem Inv.notOff {C : Cx} {h : Heap} {ρ : List Addr} {obs : List Ob} (I : Inv C h ρ obs) {a : Addr} (hn : h.get? a = none) : ¬ C.off a := fun q => by
  obtain ⟨o, ho⟩ := I.hid a q; rw [hn] at ho; cases ho
theorem Inv.notIn {C : Cx} {h : Heap} {ρ : List Addr} {obs : List Ob} (I : Inv C h ρ obs) {a : Addr} (hn : h.get? a = none) : a ∉ ρ := fun hm => by
  obtain ⟨o, ho⟩ := I.mem hm; rw [hn] at ho; cases ho

/- growth -/
noncomputable def Grows (h h' : Heap) : Prop := ∀ (b : Addr) (o : Obj), h.get? b = some o → h'.get? b = some o
theorem Grows.refl (h : Heap) : Grows h h := fun _ _ e => e
theorem Grows.trans {a b c : Heap} (x : Grows a b) (y : Grows b c) : Grows a c := fun i o e => y i o (x i o e)
theorem Grows.push (h : Heap) (o : Obj) : Grows h (h.push o) := fun _ _ e => Heap.get?_push_of_some _ e
theorem Grows.extBut {h h' : Heap} (x : Heap.ExtBut h.objs.size h h') : Grows h h' := fun b o e => x b o (Nat.ne_of_lt (Heap.lt_size e)) e
theorem Grows.extV {C : Cx} {h h' : Heap} (g : Grows h h') (ρ : List Addr) : ExtV C h ρ h' ρ := ⟨⟨[], by simp⟩, fun b o e hn _ => ⟨g b o e, hn.1⟩⟩
theorem Inv.grows {C : Cx} {h h' : Heap} {ρ : List Addr} {obs : List Ob} (I : Inv C h ρ obs) (g : Grows h h') : Inv C h' ρ obs :=
  I.ext (fun b o e => g b o (I.base b o e)) (g.extV ρ) (fun a ha => by obtain ⟨o, ho⟩ := I.mem ha; rw [ho, g a o ho]) fun b o e => ⟨o, g b o e⟩
/- a new thing is taken into the ledger -/
theorem ExtV.made {C : Cx} {h h' : Heap} {ρ : List Addr} {D : Addr} (g : Grows h h') (hD : h.get? D = none) : ExtV C h ρ h' (ρ ++ [D]) :=
  ⟨⟨[D], rfl⟩, fun b o hb hn _ => ⟨g b o hb, fun hm => by
    rcases List.mem_append.mp hm with q | q
    · exact hn.1 q
    · cases List.mem_singleton.mp q
      rw [hD] at hb; cases hb⟩⟩
theorem at_end {ρ : List Addr} {obs : List Ob} {D : Addr} {o o' : Ob} {i : Nat} (hl : ρ.length = obs.length) (h : (obs ++ [o])[i]? = some o') : (i < obs.length ∧ obs[i]? = some o') ∨ (o' = o ∧ (ρ ++ [D])[i]? = some D) := by
  by_cases hi : i < obs.length
  · rw [List.getElem?_append_left hi] at h
    exact .inl ⟨hi, h⟩
  · rw [List.getElem?_append_right (Nat.le_of_not_lt hi)] at h
    have e : i - obs.length = 0 := by
      cases hq : i - obs.length with
      | zero => rfl
      | succ k => rw [hq] at h; simp at h
    rw [e] at h
    simp at h
    have hi' : i = ρ.length := by omega
    exact .inr ⟨h.symm, by rw [hi']; simp⟩
/- ... in any way -/
theorem Inv.adopt {C C' : Cx} {h h' : Heap} {ρ : List Addr} {obs : List Ob} {D : Addr} {o : Ob} (I : Inv C h ρ obs) (e : Mv ρ.length C h ρ C' h' (ρ ++ [D])) (hbase : C'.base = C.base) (hb : C.base.StaysIn h') (ha : ∀ a : Addr, a ∈ ρ → h'.get? a = h.get? a ∧ ¬ C'.off a)
    (hn : D ∉ ρ) (hDb : C.base.get? D = none) (hDo : ¬ C'.off D) (hid : ∀ a : Addr, C'.off a → ∃ o, h'.get? a = some o) (r : OR C' h' (ρ ++ [D]) o D) : Inv C' h' (ρ ++ [D]) (obs ++ [o]) := by
  refine ⟨by rw [hbase]; exact hb, by simp [I.len], List.nodup_append.mpr ⟨I.nodup, by simp, fun x hx y hy => ?_⟩, fun b hb' => ?_, hid, fun i o' ho => ?_⟩
  · cases List.mem_singleton.mp hy
    exact fun q => hn (q ▸ hx)
  · rcases List.mem_append.mp hb' with q | q
    · rw [hbase]; exact ⟨(I.new b q).1, (ha b q).2⟩
    · cases List.mem_singleton.mp q; rw [hbase]; exact ⟨hDb, hDo⟩
  · rcases at_end (D := D) I.len ho with ⟨hi, ho⟩ | ⟨rfl, hi⟩
    · obtain ⟨b, q1, q2⟩ := I.ob i o' ho
      exact ⟨b, e.idx i b (by rw [I.len]; exact hi) q1, q2.move e q2.lt (ha b (List.mem_of_getElem? q1)).1⟩
    · exact ⟨D, hi, r⟩
theorem Inv.made {C : Cx} {h h' : Heap} {ρ : List Addr} {obs : List Ob} {D : Addr} {o : Ob} (I : Inv C h ρ obs) (g : Grows h h') (hD : h.get? D = none) (r : OR C h' (ρ ++ [D]) o D) : Inv C h' (ρ ++ [D]) (obs ++ [o]) :=
  have I' := I.grows g
  I.adopt (ExtV.made g hD).mv rfl I'.base (fun a ha => ⟨by obtain ⟨o, ho⟩ := I.mem ha; rw [ho, g a o ho], (I.new a ha).2⟩) (I.notIn hD) (I.notB hD) (I.notOff hD) I'.hid r
/- a thing of the ledger is changed -/
theorem ExtV.put {C : Cx} {h h' : Heap} {ρ : List Addr} {a : Addr} (ha : a ∈ ρ) (hs : ∀ b o, b ≠ a → h.get? b = some o → h'.get? b = some o) : ExtV C h ρ h' ρ :=
  ⟨⟨[], by simp⟩, fun b o hb hn _ => ⟨hs b o (fun q => hn.1 (q ▸ ha)) hb, hn.1⟩⟩
/- ... and one that is off -/
theorem ExtV.put2 {C : Cx} {h h' : Heap} {ρ : List Addr} {a L : Addr} (ha : a ∈ ρ) (hL : C.off L) (hs : ∀ b o, b ≠ L → b ≠ a → h.get? b = some o → h'.get? b = some o) : ExtV C h ρ h' ρ :=
  ⟨⟨[], by simp⟩, fun b o hb hn hv => ⟨hs b o (fun q => hn.2 (q ▸ hL)) (fun q => hn.1 (q ▸ ha)) hb, hn.1⟩⟩
theorem Inv.put' {C : Cx} {h h' : Heap} {ρ : List Addr} {obs : List Ob} {i : Nat} {a : Addr} {o : Ob} (I : Inv C h ρ obs) (hi : ρ[i]? = some a) (e : ExtV C h ρ h' ρ) (hs : ∀ b o, b ∈ ρ → b ≠ a → h.get? b = some o → h'.get? b = some o) (hb : C.base.StaysIn h') (hal : ∀ b o, h.get? b = some o → ∃ o', h'.get? b = some o') (r : OR C h' ρ o a) : Inv C h' ρ (obs.set i o) := by
  refine ⟨hb, by simp [I.len], I.nodup, I.new, fun b q => let ⟨o, h1⟩ := I.hid b q; hal b o h1, fun j o' ho => ?_⟩
  rw [List.getElem?_set] at ho
  split at ho
  · rename_i e
    split at ho
    · cases ho; subst e; exact ⟨a, hi, r⟩
    · cases ho
  · rename_i ne
    obtain ⟨b, q1, q2⟩ := I.ob j o' ho
    have hne : b ≠ a := fun q => ne ((List.getElem?_inj (List.getElem?_eq_some_iff.mp hi).1 I.nodup).mp (by rw [hi, q1, q]))
    obtain ⟨ob, q3⟩ := q2.there
    exact ⟨b, q1, q2.ext e (by rw [q3]; exact hs b ob (List.mem_of_getElem? q1) hne q3)⟩
theorem Inv.put {C : Cx} {h h' : Heap} {ρ : List Addr} {obs : List Ob} {i : Nat} {a : Addr} {o : Ob} (I : Inv C h ρ obs) (hi : ρ[i]? = some a) (hs : ∀ b o, b ≠ a → h.get? b = some o → h'.get? b = some o) (r : OR C h' ρ o a) : Inv C h' ρ (obs.set i o) := by
  have ha : a ∈ ρ := List.mem_of_getElem? hi
  refine I.put' hi (.put ha hs) (fun b o _ => hs b o) (fun b o' hb => hs b o' (fun q => ?_) (I.base b o' hb)) (fun b o' hb => ?_) r
  · have := (I.new a ha).1; rw [← q, hb] at this; cases this
  · by_cases q : b = a
    · subst q; exact r.there
    · exact ⟨o', hs b o' q hb⟩
/- more is hidden, less is hidden -/
theorem Mv.hide {C : Cx} {N : Addr → Prop} {h h' : Heap} {ρ : List Addr} (g : Grows h h') (hN : ∀ b, N b → h.get? b = none) : Mv ρ.length C h ρ (C.hide N) h' ρ :=
  ⟨⟨_, rfl⟩, fun _ _ _ q => q, fun b o hb hf _ => ⟨g b o hb, hf.1, fun q => q.elim hf.2 fun q => by rw [hN b q] at hb; cases hb⟩⟩
theorem Mv.show {C : Cx} {N : Addr → Prop} {h : Heap} {ρ : List Addr} : Mv ρ.length (C.hide N) h ρ C h ρ :=
  ⟨⟨C.off, rfl⟩, fun _ _ _ q => q, fun b o hb hf _ => ⟨hb, hf.1, fun q => hf.2 (.inl q)⟩⟩
theorem Inv.hide {C : Cx} {N : Addr → Prop} {h h' : Heap} {ρ : List Addr} {obs : List Ob} (I : Inv C h ρ obs) (g : Grows h h') (hN : ∀ b, N b → h.get? b = none ∧ ∃ o, h'.get? b = some o) : Inv (C.hide N) h' ρ obs :=
  have I' := I.grows g
  ⟨I'.base, I.len, I.nodup, fun a ha => ⟨(I.new a ha).1, fun q => q.elim (I.new a ha).2 fun q => by obtain ⟨o, ho⟩ := I.mem ha; rw [(hN a q).1] at ho; cases ho⟩, fun a q => q.elim (I'.hid a) fun q => (hN a q).2,
   fun i o ho => let ⟨a, h1, h2⟩ := I.ob i o ho; ⟨a, h1, h2.move (.hide g fun b q => (hN b q).1) h2.lt (by obtain ⟨o, q⟩ := h2.there; rw [q]; exact g a o q)⟩⟩
theorem Inv.show {C : Cx} {N : Addr → Prop} {h : Heap} {ρ : List Addr} {obs : List Ob} (I : Inv (C.hide N) h ρ obs) : Inv C h ρ obs :=
  ⟨I.base, I.len, I.nodup, fun a ha => ⟨(I.new a ha).1, fun q => (I.new a ha).2 (.inl q)⟩, fun a q => I.hid a (.inl q), fun i o ho => let ⟨a, h1, h2⟩ := I.ob i o ho; ⟨a, h1, h2.move .show h2.lt rfl⟩⟩
theorem VR.show {C : Cx} {N : Addr → Prop} {h : Heap} {ρ : List Addr} {v : V} {x : Value} (r : VR (C.hide N) h ρ v x) : VR C h ρ v x := r.move .show r.lt

/- what lies above n is let go -/
theorem Mv.drop {C : Cx} {h : Heap} {ρ t : List Addr} : Mv ρ.length C h (ρ ++ t) C h ρ :=
  ⟨⟨C.off, rfl⟩, fun i a hi q => by rw [List.getElem?_append_left hi] at q; exact q, fun b o hb hf _ => ⟨hb, fun q => hf.1 (List.mem_append_left t q), hf.2⟩⟩
theorem vrs_of {C : Cx} {h : Heap} {ρ ρ' : List Addr} {f : V → Option V} (hf : ∀ v v' x, f v = some v' → VR C h ρ' v x → VR C h ρ v' x) : ∀ {vs vs' : List V} {xs : List Value}, allO f vs = some vs' → VRs C h ρ' vs xs → VRs C h ρ vs' xs
  | [], vs', xs, e, r => by cases e; simp only [vS0, vS1] at r ⊢; exact r
  | v :: vs, vs', xs, e, r => by
    simp only [vS0, vS1] at r
    obtain ⟨x, xs, rfl, r1, r2⟩ := r
    unfold allO at e
    split at e
    · rename_i b l' h1 h2
      cases e
      simp only [vS0, vS1]
      exact ⟨x, xs, rfl, hf v b x h1 r1, vrs_of hf h2 r2⟩
    · cases e
theorem res_ok {C : Cx} {h : Heap} {ρ t : List Addr} {o : List Ob} (I : Inv C h (ρ ++ t) o) : ∀ (k : Nat) (v v' : V) (x : Value), res ρ.length o k v = some v' → VR C h (ρ ++ t) v x → VR C h ρ v' x
  | 0, v, v', x, e, _ => by cases e
  | k + 1, v, v', x, e, r => by
    unfold res at e
    split at e
    · rename_i hl
      cases e
      exact r.move .drop hl
    · rename_i hl
      split at e
      · rename_i vs
        obtain ⟨vs', h1, rfl⟩ := Option.map_eq_some_iff.mp e
        simp only [vR0, vR1, vR2, vR3, vR4, vR5, vR6, vR7, vR8, vR9, vR10, vR11, vR12, vR13] at r ⊢
        obtain ⟨a, items, rfl, ht, hf, hr⟩ := r
        exact ⟨a, items, rfl, ht, ⟨fun q => hf.1 (List.mem_append_left t q), hf.2⟩, vrs_of (fun v v' x => res_ok I k v v' x) h1 hr⟩
      · rename_i i
        split at e
        · rename_i xs ho
          obtain ⟨vs', h1, rfl⟩ := Option.map_eq_some_iff.mp e
          simp only [vR0, vR1, vR2, vR3, vR4, vR5, vR6, vR7, vR8, vR9, vR10, vR11, vR12, vR13] at r ⊢
          obtain ⟨a, rfl, ha⟩ := r
          obtain ⟨a', ha', items, n, h2, h3⟩ := I.ob i _ ho
          rw [ha] at ha'; cases ha'
          simp only [lR0, lR1, lR2, lR3, lR4, lR5, lR6, lR7, lR8, lR9, lR10, lR11, lR12, lR13, decide_eq_true_eq] at hl
          refine ⟨a, items, n, rfl, h2, ⟨fun q => ?_, (I.new a (List.mem_of_getElem? ha)).2⟩, vrs_of (fun v v' x => res_ok I k v v' x) h1 h3⟩
          rw [List.getElem?_append_right (by omega)] at ha
          exact (List.nodup_append.mp I.nodup).2.2 a q a (List.mem_of_getElem? ha) rfl
        · cases e
      · cases e
theorem Inv.drop {C : Cx} {h : Heap} {ρ t : List Addr} {o' : List Ob} (I : Inv C h (ρ ++ t) o') (hc : ∀ x ∈ o'.take ρ.length, ltO ρ.length x = true) : Inv C h ρ (o'.take ρ.length) := by
  have hl := I.len
  simp at hl
  refine ⟨I.base, by simp; omega, (List.nodup_append.mp I.nodup).1, fun a ha => I.new a (List.mem_append_left t ha), I.hid, fun i o ho => ?_⟩
  have hi : i < ρ.length := by
    have := (List.getElem?_eq_some_iff.mp ho).1
    simp at this; omega
  have ho' : o'[i]? = some o := by rw [List.getElem?_take] at ho; rw [if_pos hi] at ho; exact ho
  obtain ⟨a, h1, h2⟩ := I.ob i o ho'
  rw [List.getElem?_append_left hi] at h1
  exact ⟨a, h1, h2.move .drop (hc o (List.mem_of_getElem? ho)) rfl⟩
theorem Inv.keeps {C : Cx} {h h₀ : Heap} {ρ t : List Addr} {o o' : List Ob} (I₀ : Inv C h₀ ρ o) (I : Inv C h (ρ ++ t) o') (hk : keeps o o') : Inv C h ρ (o'.take o.length) := by
  rw [← I₀.len]
  refine I.drop fun x hx => ?_
  rcases hk with e | ⟨_, e⟩
  · rw [I₀.len, e] at hx
    obtain ⟨i, hi, rfl⟩ := List.getElem_of_mem hx
    obtain ⟨a, _, r⟩ := I₀.ob i _ (List.getElem?_eq_getElem hi)
    exact r.lt
  · rw [I₀.len] at hx ⊢; exact e x hx
end Mine
set_option autoImplicit false
set_option linter.unusedVariables false
namespace Mine
open PySem PyProof.Rows

/- frames -/
noncomputable def KeepO (o : Obj) (h' : Heap) (b : Addr) : Prop := h'.get? b = some o ∨ (o.cls = .type "frame" ∧ ∃ sl, h'.get? b = some { o with slots := sl })
theorem KeepO.data {o : Obj} {h' : Heap} {b : Addr} (k : KeepO o h' b) : ∃ o', h'.get? b = some o' ∧ o'.cls = o.cls ∧ o'.data = o.data ∧ o'.dict = o.dict := by
  rcases k with k | ⟨_, sl, k⟩
  · exact ⟨o, k, rfl, rfl, rfl⟩
  · exact ⟨_, k, rfl, rfl, rfl⟩
theorem KeepO.trans {o : Obj} {h h' : Heap} {b : Addr} (k : KeepO o h b) (k' : ∀ o', h.get? b = some o' → KeepO o' h' b) : KeepO o h' b := by
  rcases k with k | ⟨hc, sl, k⟩
  · exact k' o k
  · rcases k' _ k with q | ⟨_, sl', q⟩
    · exact .inr ⟨hc, sl, q⟩
    · exact .inr ⟨hc, sl', q⟩
theorem KeepO.val {o : Obj} {h' : Heap} {b : Addr} (k : KeepO o h' b) (hv : o.cls ≠ .type "frame") : h'.get? b = some o := by
  rcases k with k | ⟨hc, _⟩
  · exact k
  · exact absurd hc hv
theorem isVal_cls {o : Obj} (h : isVal o = true) : o.cls ≠ .type "frame" := fun q => by
  unfold isVal at h; rw [q] at h; revert h; decide
/- what no frozen thing can be -/
noncomputable def Aside (C : Cx) (h : Heap) (b : Addr) : Prop := C.off b ∨ ∀ o, h.get? b = some o → isVal o = false
theorem Aside.no {C : Cx} {h : Heap} {ρ : List Addr} {b : Addr} {o : Obj} (a : Aside C h b) (hb : h.get? b = some o) (hf : Free C ρ b) (hv : isVal o = true) : False := by
  rcases a with q | q
  · exact hf.2 q
  · rw [q o hb] at hv; cases hv

structure Ext (S : Addr → Prop) (s : Shared) (ρ : List Addr) (s' : Shared) (ρ' : List Addr) : Prop where
  pre : ∃ t, ρ' = ρ ++ t
  fresh : ∀ a : Addr, a ∈ ρ' → a ∈ ρ ∨ s.heap.get? a = none
  keep : ∀ (b : Addr) (o : Obj), s.heap.get? b = some o → b ∉ ρ → ¬ S b → KeepO o s'.heap b
  alive : ∀ (b : Addr) (o : Obj), s.heap.get? b = some o → ∃ o', s'.heap.get? b = some o'
  gens : s'.gens = s.gens
  drawn : s'.drawn = s.drawn
  os : s'.os = s.os
noncomputable def Nil (_ : Addr) : Prop := False
noncomputable def Own (env : Env) (b : Addr) : Prop := b = env.locals ∨ ∃ x, env.kindOf x = some .cell ∧ env.cells.lookup x = some b

theorem Ext.refl (S : Addr → Prop) (s : Shared) (ρ : List Addr) : Ext S s ρ s ρ :=
  ⟨⟨[], by simp⟩, fun _ h => .inl h, fun _ _ h _ _ => .inl h, fun _ o h => ⟨o, h⟩, rfl, rfl, rfl⟩
theorem Ext.apart {S : Addr → Prop} {s s' : Shared} {ρ ρ' : List Addr} (x : Ext S s ρ s' ρ') {b : Addr} {o : Obj} (hb : s.heap.get? b = some o) (hn : b ∉ ρ) : b ∉ ρ' := fun hm => by
  rcases x.fresh b hm with q | q
  · exact hn q
  · rw [hb] at q; cases q
theorem Ext.was {S : Addr → Prop} {s s' : Shared} {ρ ρ' : List Addr} (x : Ext S s ρ s' ρ') {a : Addr} (h : s'.heap.get? a = none) : s.heap.get? a = none := by
  cases q : s.heap.get? a with
  | none => rfl
  | some o => obtain ⟨o', h'⟩ := x.alive a o q; rw [h] at h'; cases h'
theorem Ext.trans {S : Addr → Prop} {s s' s'' : Shared} {ρ ρ' ρ'' : List Addr} (x : Ext S s ρ s' ρ') (y : Ext S s' ρ' s'' ρ'') : Ext S s ρ s'' ρ'' :=
  ⟨by obtain ⟨t, rfl⟩ := x.pre; obtain ⟨u, rfl⟩ := y.pre; exact ⟨t ++ u, by rw [List.append_assoc]⟩,
   fun a ha => by
     rcases y.fresh a ha with q | q
     · exact x.fresh a q
     · exact .inr (x.was q),
   fun b o hb hn hS => (x.keep b o hb hn hS).trans fun o' ho' => y.keep b o' ho' (x.apart hb hn) hS,
   fun b o hb => let ⟨o', h'⟩ := x.alive b o hb; y.alive b o' h', y.gens.trans x.gens, y.drawn.trans x.drawn, y.os.trans x.os⟩
theorem Ext.mono {S T : Addr → Prop} {s s' : Shared} {ρ ρ' : List Addr} (x : Ext S s ρ s' ρ') (h : ∀ b, S b → T b) : Ext T s ρ s' ρ' :=
  ⟨x.pre, x.fresh, fun b o hb hn hT => x.keep b o hb hn fun q => hT (h b q), x.alive, x.gens, x.drawn, x.os⟩
theorem Ext.nil {T : Addr → Prop} {s s' : Shared} {ρ ρ' : List Addr} (x : Ext Nil s ρ s' ρ') : Ext T s ρ s' ρ' := x.mono fun _ q => q.elim
theorem Ext.extV {C : Cx} {S : Addr → Prop} {s s' : Shared} {ρ ρ' : List Addr} (x : Ext S s ρ s' ρ') (hS : ∀ b, S b → Aside C s.heap b) : ExtV C s.heap ρ s'.heap ρ' :=
  ⟨x.pre, fun b o hb hn hv => ⟨(x.keep b o hb hn.1 fun q => (hS b q).no hb hn hv).val (isVal_cls hv), x.apart hb hn.1⟩⟩
theorem Ext.extN {C : Cx} {s s' : Shared} {ρ ρ' : List Addr} (x : Ext Nil s ρ s' ρ') : ExtV C s.heap ρ s'.heap ρ' := x.extV fun _ q => q.elim
/- steps -/
theorem Ext.toks {S : Addr → Prop} {s : Shared} {ρ : List Addr} (t : Nat) : Ext S s ρ { s with toks := t } ρ := ⟨⟨[], by simp⟩, fun _ h => .inl h, fun _ _ h _ _ => .inl h, fun _ o h => ⟨o, h⟩, rfl, rfl, rfl⟩
theorem Ext.grows {S : Addr → Prop} {s : Shared} {ρ : List Addr} {h' : Heap} {t : Nat} (g : Grows s.heap h') : Ext S s ρ { s with heap := h', toks := t } ρ :=
  ⟨⟨[], by simp⟩, fun _ h => .inl h, fun b o h _ _ => .inl (g b o h), fun b o h => ⟨o, g b o h⟩, rfl, rfl, rfl⟩
theorem Ext.take {S : Addr → Prop} {s : Shared} {ρ : List Addr} {h' : Heap} {t : Nat} {a : Addr} (g : Grows s.heap h') (ha : s.heap.get? a = none) : Ext S s ρ { s with heap := h', toks := t } (ρ ++ [a]) :=
  ⟨⟨[a], rfl⟩, fun b hb => by
    rcases List.mem_append.mp hb with q | q
    · exact .inl q
    · cases List.mem_singleton.mp q; exact .inr ha, fun b o h _ _ => .inl (g b o h), fun b o h => ⟨o, g b o h⟩, rfl, rfl, rfl⟩
theorem Ext.put {S : Addr → Prop} {s : Shared} {ρ : List Addr} {h' : Heap} {t : Nat} {a : Addr} {o' : Obj} (ha : a ∈ ρ) (hs : ∀ b o, b ≠ a → s.heap.get? b = some o → h'.get? b = some o) (ho : h'.get? a = some o') : Ext S s ρ { s with heap := h', toks := t } ρ :=
  ⟨⟨[], by simp⟩, fun _ h => .inl h, fun b o h hn _ => .inl (hs b o (fun q => hn (q ▸ ha)) h), fun b o h => by
    by_cases q : b = a
    · subst q; exact ⟨o', ho⟩
    · exact ⟨o, hs b o q h⟩, rfl, rfl, rfl⟩

/- the frame at hand -/
noncomputable def Loads (h : Heap) (env : Env) (x : Str) (val : Value) : Prop :=
  (env.kindOf x = some .local ∧ ∃ m, h.Ns env.locals m ∧ m x = some val) ∨ (env.kindOf x = some .cell ∧ ∃ c, env.cells.lookup x = some c ∧ h.IsCell c (some val))
structure Frm (C : Cx) (h : Heap) (ρ : List Addr) (env : Env) (sc : Scope) (ns : List Str) (vars : List (Option V)) : Prop where
  len : vars.length = ns.length
  loc : ∃ m, h.Ns env.locals m
  off : ∀ b, Own env b → C.off b
  locN : env.locals ∉ ρ
  locB : C.base.get? env.locals = none
  cell : ∀ x : Str, env.kindOf x = some .cell → ∃ c v₀, env.cells.lookup x = some c ∧ h.IsCell c v₀ ∧ c ∉ ρ ∧ C.base.get? c = none
  inj : ∀ (x y : Str) (c : Addr), env.kindOf x = some .cell → env.kindOf y = some .cell → env.cells.lookup x = some c → env.cells.lookup y = some c → x = y
  vals : ∀ (x : Str) (i : Nat) (v : V), isVar sc x = true → idxLast ns x = some i → vars[i]? = some (some v) → ∃ val, Loads h env x val ∧ VR C h ρ v val
structure EnvOk (env : Env) (sc : Scope) : Prop where
  kind : env.scope.kind = .function
  glob : env.globals = mainGlobals
  blt : env.builtins = builtinsNs
  gl : ∀ x : Str, isGlob sc x = true → env.kindOf x = some .globalImplicit
  lo : ∀ x : Str, sc.names.lookup x = some .local → env.kindOf x = some .local
  ce : ∀ x : Str, sc.names.lookup x = some .cell ∨ sc.names.lookup x = some .free → env.kindOf x = some .cell
  dbg : ∀ x : Str, isGlob sc x = true ∨ isVar sc x = true → (x == ("__debug__" : Str)) = false
theorem EnvOk.vr {env : Env} {sc : Scope} (h : EnvOk env sc) (x : Str) (hx : isVar sc x = true) : env.kindOf x = some .local ∨ env.kindOf x = some .cell := by
  unfold isVar at hx
  split at hx
  · rename_i e; exact .inl (h.lo x e)
  · rename_i e; exact .inr (h.ce x (.inl e))
  · rename_i e; exact .inr (h.ce x (.inr e))
  · cases hx
structure State (C : Cx) (env : Env) (sc : Scope) (ns : List Str) (s : Shared) (ρ : List Addr) (st : St) : Prop where
  inv : Inv C s.heap ρ st.obs
  frm : Frm C s.heap ρ env sc ns st.vars

theorem Frm.ext {C : Cx} {s s' : Shared} {ρ ρ' : List Addr} {env : Env} {sc : Scope} {ns : List Str} {vars : List (Option V)} (F : Frm C s.heap ρ env sc ns vars) (x : Ext Nil s ρ s' ρ') : Frm C s'.heap ρ' env sc ns vars := by
  obtain ⟨m, o, es, ep, ho, hd, hk⟩ := F.loc
  obtain ⟨o', ho', _, hd', _⟩ := (x.keep _ o ho F.locN id).data
  have cells : ∀ (c : Addr) (v : Option Value), s.heap.IsCell c v → c ∉ ρ → s'.heap.IsCell c v ∧ c ∉ ρ' := fun c v ⟨oc, hc, hcd⟩ hn =>
    let ⟨o₁, h1, _, h2, _⟩ := (x.keep c oc hc hn id).data; ⟨⟨o₁, h1, h2.trans hcd⟩, x.apart hc hn⟩
  refine ⟨F.len, ⟨m, o', es, ep, ho', hd'.trans hd, hk⟩, F.off, x.apart ho F.locN, F.locB, fun y hy => ?_, F.inj, fun y i v h1 h2 h3 => ?_⟩
  · obtain ⟨c, v₀, q1, q2, q3, q4⟩ := F.cell y hy
    exact ⟨c, v₀, q1, (cells c v₀ q2 q3).1, (cells c v₀ q2 q3).2, q4⟩
  · obtain ⟨val, hl, hv⟩ := F.vals y i v h1 h2 h3
    refine ⟨val, ?_, hv.ext x.extN⟩
    rcases hl with ⟨k, m₁, ⟨o₁, es₁, ep₁, ho₁, hd₁, hk₁⟩, hm⟩ | ⟨k, c, q1, q2⟩
    · rw [ho] at ho₁; cases ho₁
      exact .inl ⟨k, m₁, ⟨o', es₁, ep₁, ho', hd'.trans hd₁, hk₁⟩, hm⟩
    · obtain ⟨c', v₀, r1, _, r3, _⟩ := F.cell y k
      rw [q1] at r1; cases r1
      exact .inr ⟨k, c, q1, (cells c _ q2 r3).1⟩
theorem State.toks {C : Cx} {env : Env} {sc : Scope} {ns : List Str} {s : Shared} {ρ : List Addr} {st : St} (S : State C env sc ns s ρ st) (t : Nat) : State C env sc ns { s with toks := t } ρ st := ⟨S.inv, S.frm⟩
theorem State.grows {C : Cx} {env : Env} {sc : Scope} {ns : List Str} {s : Shared} {ρ : List Addr} {st : St} (S : State C env sc ns s ρ st) {h' : Heap} (g : Grows s.heap h') (t : Nat) : State C env sc ns { s with heap := h', toks := t } ρ st :=
  ⟨S.inv.grows g, S.frm.ext (Ext.grows (t := t) g)⟩
/- what is raised: none so far -/
noncomputable def Raised (_C : Cx) (_env : Env) (_s : Shared) (_ρ : List Addr) (_c : Str) (_st : St) (_x : Value) (_s' : Shared) (_ρ' : List Addr) : Prop := False
theorem Raised.trans {C : Cx} {S : Addr → Prop} {env : Env} {s s₁ s' : Shared} {ρ ρ₁ ρ' : List Addr} {c : Str} {st : St} {x : Value} (_e : Ext S s ρ s₁ ρ₁) (r : Raised C env s₁ ρ₁ c st x s' ρ') : Raised C env s ρ c st x s' ρ' := r

structure AOk (d : Nat) (A : Around) : Prop where
  depth : A.depth + 3 * d + 3 ≤ 990
  units : A.units + 100 * d + 200 ≤ 9900
  handled : A.handled = none
  guards : A.guards = some []

/- a term of the model does what m does, handing on what R says of the value -/
noncomputable def Snd {α β : Type} (C : Cx) (d : Nat) (env : Env) (sc : Scope) (ns : List Str) (R : Heap → List Addr → α → β → Prop) (S : Addr → Prop) (t : Sem β) (m : M α) : Prop :=
  ∀ (A : Around) (s : Shared) (ρ : List Addr) (st : St) (Q : β → Shared → Prop) (E : Value → Shared → Prop) (X : Str → St → Prop),
    AOk d A → State C env sc ns s ρ st →
    wpM m st (fun v st' => ∀ val s' ρ', R s'.heap ρ' v val → State C env sc ns s' ρ' st' → Ext S s ρ s' ρ' → Q val s') X →
    (∀ c st' x s' ρ', X c st' → Raised C env s ρ c st' x s' ρ' → E x s') →
    wpAny (model C.prog C.w) A t Q E s
noncomputable def Bl (_ : Heap) (_ : List Addr) (b b' : Bool) : Prop := b = b'
noncomputable def Un {α : Type} (_ : Heap) (_ : List Addr) (_ : α) (_ : Unit) : Prop := True
abbrev SndE (C : Cx) (d : Nat) (env : Env) (sc : Scope) (ns : List Str) (e : Expr) (m : M V) : Prop := Snd C d env sc ns (VR C) Nil (eval e env) m
abbrev SndB (C : Cx) (d : Nat) (env : Env) (sc : Scope) (ns : List Str) (e : Expr) (m : M Bool) : Prop := Snd C d env sc ns Bl Nil (isTrue e env (eval e env)) m

section
variable {C : Cx} {d : Nat} {env : Env} {sc : Scope} {ns : List Str}

theorem snd_const {c : Const} {k : Nat} {pos : Pos} {v : V} (h : dConst c = some v) : SndE C d env sc ns (.Constant c k pos) (constM v) := by
  intro A s ρ st Q E X hA hS hw _
  cases c with
  | none => cases h; exact wpAny_pure (hw _ _ _ rfl hS (.refl ..))
  | bool b => cases h; exact wpAny_pure (hw _ _ _ rfl hS (.refl ..))
  | int i => cases h; exact wpAny_Constant_int (hw _ _ _ ⟨_, rfl⟩ (hS.toks _) (.toks _))
  | str x => cases h; exact wpAny_Constant_str (hw _ _ _ ⟨_, rfl⟩ (hS.toks _) (.toks _))
  | _ => cases h

theorem snd_var {x : Str} {pos : Pos} {i : Nat} (hE : EnvOk env sc) (hx : isVar sc x = true) (hi : idxLast ns x = some i) : SndE C d env sc ns (.Name x pos) (varM i) := by
  intro A s ρ st Q E X hA hS hw _
  obtain ⟨v, hv, hw⟩ := wpM_getVar.mp hw
  obtain ⟨val, hl, hr⟩ := hS.frm.vals x i v hx hi hv
  refine wpAny_Name ?_ (hE.dbg x (.inr hx))
  rcases hl with ⟨k, m, hm, hmx⟩ | ⟨k, c, q1, q2⟩
  · exact wpAny_loadName_local hE.kind k hm hmx (hw _ _ _ hr hS (.refl ..))
  · exact wpAny_loadName_cell hE.kind k q1 q2 (hw _ _ _ hr hS (.refl ..))

/- an operation on values, at a state -/
noncomputable def At {α β : Type} (C : Cx) (d : Nat) (env : Env) (sc : Scope) (ns : List Str) (R : Heap → List Addr → α → β → Prop) (S : Addr → Prop) (t : Sem β) (m : M α) (s : Shared) (ρ : List Addr) (st : St) : Prop :=
  ∀ (A : Around) (Q : β → Shared → Prop) (E : Value → Shared → Prop) (X : Str → St → Prop), AOk d A → State C env sc ns s ρ st →
    wpM m st (fun v st' => ∀ val s' ρ', R s'.heap ρ' v val → State C env sc ns s' ρ' st' → Ext S s ρ s' ρ' → Q val s') X →
    (∀ c st' x s' ρ', X c st' → Raised C env s ρ c st' x s' ρ' → E x s') → wpAny (model C.prog C.w) A t Q E s

/- what is still to be shown of the rest -/
noncomputable def Rest {α β : Type} (C : Cx) (env : Env) (sc : Scope) (ns : List Str) (R : Heap → List Addr → α → β → Prop) (S : Addr → Prop) (Q : β → Shared → Prop) (E : Value → Shared → Prop) (X : Str → St → Prop) (m : M α) (s : Shared) (ρ : List Addr) (st : St) : Prop :=
  wpM m st (fun v st' => ∀ val s' ρ', R s'.heap ρ' v val → State C env sc ns s' ρ' st' → Ext S s ρ s' ρ' → Q val s') X ∧
  ∀ c st' x s' ρ', X c st' → Raised C env s ρ c st' x s' ρ' → E x s'
theorem At.of {α β : Type} {R : Heap → List Addr → α → β → Prop} {S : Addr → Prop} {t : Sem β} {m : M α} {s : Shared} {ρ : List Addr} {st : St}
    (h : ∀ (A : Around) (Q : β → Shared → Prop) (E : Value → Shared → Prop) (X : Str → St → Prop), AOk d A → State C env sc ns s ρ st → Rest C env sc ns R S Q E X m s ρ st → wpAny (model C.prog C.w) A t Q E s) :
    At C d env sc ns R S t m s ρ st := fun A Q E X hA hS hw hX => h A Q E X hA hS ⟨hw, hX⟩
theorem Snd.of {α β : Type} {R : Heap → List Addr → α → β → Prop} {S : Addr → Prop} {t : Sem β} {m : M α}
    (h : ∀ (A : Around) (s : Shared) (ρ : List Addr) (st : St) (Q : β → Shared → Prop) (E : Value → Shared → Prop) (X : Str → St → Prop), AOk d A → State C env sc ns s ρ st → Rest C env sc ns R S Q E X m s ρ st → wpAny (model C.prog C.w) A t Q E s) :
    Snd C d env sc ns R S t m := fun A s ρ st Q E X hA hS hw hX => h A s ρ st Q E X hA hS ⟨hw, hX⟩
theorem At.go {α β : Type} {R : Heap → List Addr → α → β → Prop} {S : Addr → Prop} {t : Sem β} {m : M α} {s : Shared} {ρ : List Addr} {st : St} {A : Around} {Q : β → Shared → Prop} {E : Value → Shared → Prop} {X : Str → St → Prop}
    (h : At C d env sc ns R S t m s ρ st) (hA : AOk d A) (hS : State C env sc ns s ρ st) (hr : Rest C env sc ns R S Q E X m s ρ st) : wpAny (model C.prog C.w) A t Q E s := h A Q E X hA hS hr.1 hr.2
theorem Snd.go {α β : Type} {R : Heap → List Addr → α → β → Prop} {S : Addr → Prop} {t : Sem β} {m : M α} {s : Shared} {ρ : List Addr} {st : St} {A : Around} {Q : β → Shared → Prop} {E : Value → Shared → Prop} {X : Str → St → Prop}
    (h : Snd C d env sc ns R S t m) (hA : AOk d A) (hS : State C env sc ns s ρ st) (hr : Rest C env sc ns R S Q E X m s ρ st) : wpAny (model C.prog C.w) A t Q E s := h A s ρ st Q E X hA hS hr.1 hr.2
/- the rest, seen from a later state -/
theorem Rest.mono {α β : Type} {R : Heap → List Addr → α → β → Prop} {S : Addr → Prop} {Q : β → Shared → Prop} {E : Value → Shared → Prop} {X : Str → St → Prop} {m : M α} {s s₁ : Shared} {ρ ρ₁ : List Addr} {st : St}
    (e : Ext S s ρ s₁ ρ₁) (h : wpM m st (fun v st' => ∀ val s' ρ', R s'.heap ρ' v val → State C env sc ns s' ρ' st' → Ext S s ρ s' ρ' → Q val s') X) (hX : ∀ c st' x s' ρ', X c st' → Raised C env s ρ c st' x s' ρ' → E x s') : Rest C env sc ns R S Q E X m s₁ ρ₁ st :=
  ⟨wpM_mono h (fun _ _ h val' s' ρ' r' S' e' => h val' s' ρ' r' S' (e.trans e')) fun _ _ h => h, fun c st' x s' ρ' hx r => hX c st' x s' ρ' hx (r.trans e)⟩
/- first m, then what is done with its value -/
theorem Snd.then {α β α' β' : Type} {R : Heap → List Addr → α → β → Prop} {R' : Heap → List Addr → α' → β' → Prop} {S : Addr → Prop} {t : Sem β} {m : M α} {g : α → M α'} {P : β → Shared → Prop}
    {A : Around} {s : Shared} {ρ : List Addr} {st : St} {Q : β' → Shared → Prop} {E : Value → Shared → Prop} {X : Str → St → Prop}
    (h1 : Snd C d env sc ns R Nil t m) (hA : AOk d A) (hS : State C env sc ns s ρ st) (hr : Rest C env sc ns R' S Q E X (m.bind g) s ρ st)
    (h2 : ∀ v val s₁ ρ₁ st₁, R s₁.heap ρ₁ v val → State C env sc ns s₁ ρ₁ st₁ → Ext Nil s ρ s₁ ρ₁ → Rest C env sc ns R' S Q E X (g v) s₁ ρ₁ st₁ → P val s₁) :
    wpAny (model C.prog C.w) A t P E s :=
  h1 A s ρ st _ E X hA hS (wpM_mono (wpM_bind.mp hr.1) (fun v st₁ hw₁ val s₁ ρ₁ r S₁ e₁ => h2 v val s₁ ρ₁ st₁ r S₁ e₁ (.mono e₁.nil hw₁ hr.2)) fun _ _ h => h) hr.2
theorem At.then {α β α' β' : Type} {R : Heap → List Addr → α → β → Prop} {R' : Heap → List Addr → α' → β' → Prop} {S : Addr → Prop} {t : Sem β} {m : M α} {g : α → M α'} {P : β → Shared → Prop}
    {A : Around} {s : Shared} {ρ : List Addr} {st : St} {Q : β' → Shared → Prop} {E : Value → Shared → Prop} {X : Str → St → Prop}
    (h1 : At C d env sc ns R Nil t m s ρ st) (hA : AOk d A) (hS : State C env sc ns s ρ st) (hr : Rest C env sc ns R' S Q E X (m.bind g) s ρ st)
    (h2 : ∀ v val s₁ ρ₁ st₁, R s₁.heap ρ₁ v val → State C env sc ns s₁ ρ₁ st₁ → Ext Nil s ρ s₁ ρ₁ → Rest C env sc ns R' S Q E X (g v) s₁ ρ₁ st₁ → P val s₁) :
    wpAny (model C.prog C.w) A t P E s :=
  h1 A _ E X hA hS (wpM_mono (wpM_bind.mp hr.1) (fun v st₁ hw₁ val s₁ ρ₁ r S₁ e₁ => h2 v val s₁ ρ₁ st₁ r S₁ e₁ (.mono e₁.nil hw₁ hr.2)) fun _ _ h => h) hr.2

theorem snd_bin {l r : Expr} {op : Operator} {pos : Pos} {a b : M V} (hl : SndE C d env sc ns l a) (hr : SndE C d env sc ns r b)
    (hop : ∀ x y vx vy s ρ st, VR C s.heap ρ x vx → VR C s.heap ρ y vy → At C d env sc ns (VR C) Nil (binaryOp op vx vy) (binV op x y) s ρ st) :
    SndE C d env sc ns (.BinOp l op r pos) (binM op a b) := .of fun A s ρ st Q E X hA hS hw => by
  refine wpAny_BinOp (hl.then hA hS hw fun x vx s₁ ρ₁ st₁ r₁ S₁ e₁ hw₁ => ?_)
  exact hr.then hA S₁ hw₁ fun y vy s₂ ρ₂ st₂ r₂ S₂ e₂ hw₂ => (hop x y vx vy s₂ ρ₂ st₂ (r₁.ext e₂.extN) r₂).go hA S₂ hw₂
theorem snd_ife {t x y : Expr} {pos : Pos} {mt : M Bool} {a b : M V} (ht : SndB C d env sc ns t mt) (hl : SndE C d env sc ns x a) (hr : SndE C d env sc ns y b) :
    SndE C d env sc ns (.IfExp t x y pos) (iteM mt a b) := .of fun A s ρ st Q E X hA hS hw => by
  refine wpAny_IfExp (ht.then hA hS hw fun v val s₁ ρ₁ st₁ r₁ S₁ e₁ hw₁ => ?_)
  cases r₁
  cases v
  · exact hr.go hA S₁ hw₁
  · exact hl.go hA S₁ hw₁
theorem sndB_not {x : Expr} {pos : Pos} {m : M Bool} (h : SndB C d env sc ns x m) : SndB C d env sc ns (.UnaryOp .Not x pos) (notM m) := .of fun A s ρ st Q E X hA hS hw =>
  wpAny_isTrue_Not (h.then hA hS hw fun v val s₁ ρ₁ st₁ r₁ S₁ e₁ hw₁ => by
    cases r₁; exact (wpM_pure.mp hw₁.1) _ _ _ rfl S₁ (.refl ..))
theorem sndB_value {e : Expr} {m : M V} (h : SndE C d env sc ns e m) (he : isTrue e env (eval e env) = (do let v ← eval e env; standAt e.pos; holding [v] (truthy v))) : SndB C d env sc ns e (evB m) := .of fun A s ρ st Q E X hA hS hw =>
  wpAny_isTrue_value (h.then hA hS hw fun v val s₁ ρ₁ st₁ r₁ S₁ e₁ hw₁ => by
    obtain ⟨b, rfl, hb⟩ := wpM_asBool.mp hw₁.1
    cases r₁
    exact wpAny_truthy_bool (hb _ _ _ rfl S₁ (.refl ..))) he
end
noncomputable def All2 {α β : Type} (P : α → β → Prop) : List α → List β → Prop
  | [], [] => True
  | a :: l, b :: r => P a b ∧ All2 P l r
  | _, _ => False
section
variable {C : Cx} {d : Nat} {env : Env} {sc : Scope} {ns : List Str}
theorem snd_andB : ∀ {es : List Expr} {ms : List (M Bool)}, All2 (SndB C d env sc ns) es ms → Snd C d env sc ns Bl Nil (allTrue .And es env) (andM ms)
  | [], [], _ => .of fun A s ρ st Q E X hA hS hw => wpAny_allTrue_And_nil (hw.1 _ _ _ rfl hS (.refl ..))
  | e :: es, m :: ms, h => .of fun A s ρ st Q E X hA hS hw => by
    refine wpAny_allTrue_And_cons (h.1.then hA hS hw fun v val s₁ ρ₁ st₁ r₁ S₁ e₁ hw₁ => ?_)
    cases r₁
    cases v
    · exact hw₁.1 _ _ _ rfl S₁ (.refl ..)
    · exact (snd_andB h.2).go hA S₁ hw₁
  | [], _ :: _, h => h.elim
  | _ :: _, [], h => h.elim
theorem snd_orB : ∀ {es : List Expr} {ms : List (M Bool)}, All2 (SndB C d env sc ns) es ms → Snd C d env sc ns Bl Nil (allTrue .Or es env) (orM ms)
  | [], [], _ => .of fun A s ρ st Q E X hA hS hw => wpAny_allTrue_Or_nil (hw.1 _ _ _ rfl hS (.refl ..))
  | e :: es, m :: ms, h => .of fun A s ρ st Q E X hA hS hw => by
    refine wpAny_allTrue_Or_cons (h.1.then hA hS hw fun v val s₁ ρ₁ st₁ r₁ S₁ e₁ hw₁ => ?_)
    cases r₁
    cases v
    · exact (snd_orB h.2).go hA S₁ hw₁
    · exact hw₁.1 _ _ _ rfl S₁ (.refl ..)
  | [], _ :: _, h => h.elim
  | _ :: _, [], h => h.elim
theorem sndB_and {es : List Expr} {pos : Pos} {ms : List (M Bool)} (h : All2 (SndB C d env sc ns) es ms) : SndB C d env sc ns (.BoolOp .And es pos) (andM ms) := .of fun A s ρ st Q E X hA hS hw =>
  wpAny_isTrue_BoolOp ((snd_andB h).go hA hS hw)
theorem sndB_or {es : List Expr} {pos : Pos} {ms : List (M Bool)} (h : All2 (SndB C d env sc ns) es ms) : SndB C d env sc ns (.BoolOp .Or es pos) (orM ms) := .of fun A s ρ st Q E X hA hS hw =>
  wpAny_isTrue_BoolOp ((snd_orB h).go hA hS hw)

/- the value of an and, an or: bools -/
theorem snd_and : ∀ {es : List Expr} {pos : Pos} {ms : List (M V)}, es ≠ [] → All2 (SndE C d env sc ns) es ms → SndE C d env sc ns (.BoolOp .And es pos) (boolV (andM (ms.map evB)))
  | [], _, _, h, _ => absurd rfl h
  | [e], pos, [m], _, h => .of fun A s ρ st Q E X hA hS hw => by
    refine BoolOp_one (h.1.go hA hS ⟨?_, hw.2⟩)
    have h1 := hw.1
    simp only [boolV, andM, evB, List.map, wpM_bind] at h1
    refine wpM_mono h1 (fun v st₁ h2 val s' ρ' r S' e' => ?_) fun _ _ h => h
    obtain ⟨b, rfl, h3⟩ := wpM_asBool.mp h2
    cases b <;> simp only [Bool.false_eq_true, if_false, if_true, wpM_pure] at h3 <;> exact h3 val s' ρ' r S' e'
  | e :: e' :: es, pos, m :: m' :: ms, _, h => .of fun A s ρ st Q E X hA hS hw => by
    have hw' : Rest C env sc ns (VR C) Nil Q E X (m.bind fun v => (asBool v).bind fun b => (if b then andM ((m' :: ms).map evB) else M.pure false).bind fun b => M.pure (.bool b)) s ρ st := by
      refine ⟨?_, hw.2⟩
      have h1 := hw.1
      simp only [boolV, andM, evB, List.map_cons, wpM_bind] at h1 ⊢
      exact h1
    refine BoolOp_and (h.1.then hA hS hw' fun v val s₁ ρ₁ st₁ r₁ S₁ e₁ hw₁ => ?_)
    obtain ⟨b, rfl, h3⟩ := wpM_asBool.mp (wpM_bind.mp hw₁.1)
    cases r₁
    refine wpAny_truthy_bool ?_
    cases b
    · exact h3 _ _ _ rfl S₁ (.refl ..)
    · exact (snd_and (List.cons_ne_nil _ _) h.2).go hA S₁ ⟨h3, hw₁.2⟩
  | [_], _, [], _, h => h.elim
  | [_], _, _ :: _ :: _, _, h => h.2.elim
  | _ :: _ :: _, _, [], _, h => h.elim
  | _ :: _ :: _, _, [_], _, h => h.2.elim
theorem snd_or : ∀ {es : List Expr} {pos : Pos} {ms : List (M V)}, es ≠ [] → All2 (SndE C d env sc ns) es ms → SndE C d env sc ns (.BoolOp .Or es pos) (boolV (orM (ms.map evB)))
  | [], _, _, h, _ => absurd rfl h
  | [e], pos, [m], _, h => .of fun A s ρ st Q E X hA hS hw => by
    refine BoolOp_one (h.1.go hA hS ⟨?_, hw.2⟩)
    have h1 := hw.1
    simp only [boolV, orM, evB, List.map, wpM_bind] at h1
    refine wpM_mono h1 (fun v st₁ h2 val s' ρ' r S' e' => ?_) fun _ _ h => h
    obtain ⟨b, rfl, h3⟩ := wpM_asBool.mp h2
    cases b <;> simp only [Bool.false_eq_true, if_false, if_true, wpM_pure] at h3 <;> exact h3 val s' ρ' r S' e'
  | e :: e' :: es, pos, m :: m' :: ms, _, h => .of fun A s ρ st Q E X hA hS hw => by
    have hw' : Rest C env sc ns (VR C) Nil Q E X (m.bind fun v => (asBool v).bind fun b => (if b then M.pure true else orM ((m' :: ms).map evB)).bind fun b => M.pure (.bool b)) s ρ st := by
      refine ⟨?_, hw.2⟩
      have h1 := hw.1
      simp only [boolV, orM, evB, List.map_cons, wpM_bind] at h1 ⊢
      exact h1
    refine BoolOp_or (h.1.then hA hS hw' fun v val s₁ ρ₁ st₁ r₁ S₁ e₁ hw₁ => ?_)
    obtain ⟨b, rfl, h3⟩ := wpM_asBool.mp (wpM_bind.mp hw₁.1)
    cases r₁
    refine wpAny_truthy_bool ?_
    cases b
    · exact (snd_or (List.cons_ne_nil _ _) h.2).go hA S₁ ⟨h3, hw₁.2⟩
    · exact h3 _ _ _ rfl S₁ (.refl ..)
  | [_], _, [], _, h => h.elim
  | [_], _, _ :: _ :: _, _, h => h.2.elim
  | _ :: _ :: _, _, [], _, h => h.elim
  | _ :: _ :: _, _, [_], _, h => h.2.elim
theorem snd_not {x : Expr} {pos : Pos} {m : M V} (h : SndE C d env sc ns x m) : SndE C d env sc ns (.UnaryOp .Not x pos) (boolV (notM (evB m))) := .of fun A s ρ st Q E X hA hS hw => by
  have hw' : Rest C env sc ns (VR C) Nil Q E X (m.bind fun v => (asBool v).bind fun b => M.pure (.bool (!b))) s ρ st := by
    refine ⟨?_, hw.2⟩
    have h1 := hw.1
    simp only [boolV, notM, evB, wpM_bind] at h1 ⊢
    exact h1
  refine wpAny_UnaryOp (h.then hA hS hw' fun v val s₁ ρ₁ st₁ r₁ S₁ e₁ hw₁ => ?_)
  obtain ⟨b, rfl, h3⟩ := wpM_asBool.mp (wpM_bind.mp hw₁.1)
  cases r₁
  exact not_of (wpAny_truthy_bool (h3 _ _ _ rfl S₁ (.refl ..)))
theorem snd_neg {x : Expr} {pos : Pos} {m : M V} (h : SndE C d env sc ns x m) : SndE C d env sc ns (.UnaryOp .USub x pos) (negM m) := .of fun A s ρ st Q E X hA hS hw => by
  refine wpAny_UnaryOp (h.then hA hS hw fun v val s₁ ρ₁ st₁ r₁ S₁ e₁ hw₁ => ?_)
  obtain ⟨b, rfl, h3⟩ := wpM_asInt.mp (wpM_bind.mp hw₁.1)
  obtain ⟨t, rfl⟩ := r₁
  exact P.neg_int (h3 _ _ _ ⟨_, rfl⟩ (S₁.toks _) (.toks _))

/- comparisons -/
noncomputable def RB (_ : Heap) (_ : List Addr) (b : Bool) (val : Value) : Prop := val = .bool b
noncomputable def CmpSnd (C : Cx) (d : Nat) (env : Env) (sc : Scope) (ns : List Str) : Prop :=
  ∀ op x y vx vy s ρ st, VR C s.heap ρ x vx → VR C s.heap ρ y vy → At C d env sc ns RB Nil (compareOp op vx vy) (cmpV op x y) s ρ st
noncomputable def ChainR (C : Cx) (d : Nat) (env : Env) (sc : Scope) (ns : List Str) : List CmpOp → List Expr → List (CmpOp × M V) → Prop
  | [], [], [] => True
  | o :: os, e :: es, p :: r => o = p.1 ∧ SndE C d env sc ns e p.2 ∧ ChainR C d env sc ns os es r
  | _, _, _ => False
theorem snd_test (hc : CmpSnd C d env sc ns) {pos : Pos} : ∀ {ops : List CmpOp} {es : List Expr} {r : List (CmpOp × M V)} {x : V} {vx : Value} {s : Shared} {ρ : List Addr} {st : St}, r ≠ [] → ChainR C d env sc ns ops es r → VR C s.heap ρ x vx →
    At C d env sc ns Bl Nil (testChain pos vx ops (evalEach es env)) (chainM x r) s ρ st
  | _, _, [], _, _, _, _, _, h, _, _ => absurd rfl h
  | [o], [e], [(o', m)], x, vx, s, ρ, st, _, h, hr => .of fun A Q E X hA hS hw => by
    obtain ⟨rfl, h1, _⟩ := h
    refine test_last (h1.then hA hS hw fun y vy s₁ ρ₁ st₁ r₁ S₁ e₁ hw₁ => ?_)
    refine (hc o x y vx vy s₁ ρ₁ st₁ (hr.ext e₁.extN) r₁) A _ E X hA S₁ (wpM_mono hw₁.1 (fun b st' h val s' ρ' r' S' e' => ?_) fun _ _ h => h) hw₁.2
    cases r'
    exact wpAny_truthy_bool (h _ _ _ rfl S' e')
  | o :: o₂ :: os, e :: e₂ :: es, (o', m) :: p :: r, x, vx, s, ρ, st, _, h, hr => .of fun A Q E X hA hS hw => by
    obtain ⟨rfl, h1, h2⟩ := h
    refine test_link (h1.then hA hS hw fun y vy s₁ ρ₁ st₁ r₁ S₁ e₁ hw₁ => ?_)
    refine (hc o x y vx vy s₁ ρ₁ st₁ (hr.ext e₁.extN) r₁).then hA S₁ hw₁ fun b val s₂ ρ₂ st₂ r₂ S₂ e₂ hw₂ => ?_
    cases r₂
    refine wpAny_truthy_bool ?_
    cases b
    · exact hw₂.1 _ _ _ rfl S₂ (.refl ..)
    · exact (snd_test hc (List.cons_ne_nil _ _) h2 (r₁.ext e₂.extN)).go hA S₂ hw₂
  | [], [], _ :: _, _, _, _, _, _, _, h, _ => h.elim
  | [], _ :: _, _ :: _, _, _, _, _, _, _, h, _ => h.elim
  | _ :: _, [], _ :: _, _, _, _, _, _, _, h, _ => h.elim
  | [_], [_], _ :: _ :: _, _, _, _, _, _, _, h, _ => h.2.2.elim
  | [_], _ :: _ :: _, [_], _, _, _, _, _, _, h, _ => h.2.2.elim
  | [_], _ :: _ :: _, _ :: _ :: _, _, _, _, _, _, _, h, _ => h.2.2.elim
  | _ :: _ :: _, [_], [_], _, _, _, _, _, _, h, _ => h.2.2.elim
  | _ :: _ :: _, [_], _ :: _ :: _, _, _, _, _, _, _, h, _ => h.2.2.elim
  | _ :: _ :: _, _ :: _ :: _, [_], _, _, _, _, _, _, h, _ => h.2.2.elim
theorem snd_chain (hc : CmpSnd C d env sc ns) {pos : Pos} : ∀ {ops : List CmpOp} {es : List Expr} {r : List (CmpOp × M V)} {x : V} {vx : Value} {s : Shared} {ρ : List Addr} {st : St}, r ≠ [] → ChainR C d env sc ns ops es r → VR C s.heap ρ x vx →
    At C d env sc ns RB Nil (compareChain pos vx ops (evalEach es env)) (chainM x r) s ρ st
  | _, _, [], _, _, _, _, _, h, _, _ => absurd rfl h
  | [o], [e], [(o', m)], x, vx, s, ρ, st, _, h, hr => .of fun A Q E X hA hS hw => by
    obtain ⟨rfl, h1, _⟩ := h
    refine chain_last (h1.then hA hS hw fun y vy s₁ ρ₁ st₁ r₁ S₁ e₁ hw₁ => ?_)
    exact (hc o x y vx vy s₁ ρ₁ st₁ (hr.ext e₁.extN) r₁).go hA S₁ hw₁
  | o :: o₂ :: os, e :: e₂ :: es, (o', m) :: p :: r, x, vx, s, ρ, st, _, h, hr => .of fun A Q E X hA hS hw => by
    obtain ⟨rfl, h1, h2⟩ := h
    refine chain_link (h1.then hA hS hw fun y vy s₁ ρ₁ st₁ r₁ S₁ e₁ hw₁ => ?_)
    refine (hc o x y vx vy s₁ ρ₁ st₁ (hr.ext e₁.extN) r₁).then hA S₁ hw₁ fun b val s₂ ρ₂ st₂ r₂ S₂ e₂ hw₂ => ?_
    cases r₂
    refine wpAny_truthy_bool ?_
    cases b
    · exact hw₂.1 _ _ _ rfl S₂ (.refl ..)
    · exact (snd_chain hc (List.cons_ne_nil _ _) h2 (r₁.ext e₂.extN)).go hA S₂ hw₂
  | [], [], _ :: _, _, _, _, _, _, _, h, _ => h.elim
  | [], _ :: _, _ :: _, _, _, _, _, _, _, h, _ => h.elim
  | _ :: _, [], _ :: _, _, _, _, _, _, _, h, _ => h.elim
  | [_], [_], _ :: _ :: _, _, _, _, _, _, _, h, _ => h.2.2.elim
  | [_], _ :: _ :: _, [_], _, _, _, _, _, _, h, _ => h.2.2.elim
  | [_], _ :: _ :: _, _ :: _ :: _, _, _, _, _, _, _, h, _ => h.2.2.elim
  | _ :: _ :: _, [_], [_], _, _, _, _, _, _, h, _ => h.2.2.elim
  | _ :: _ :: _, [_], _ :: _ :: _, _, _, _, _, _, _, h, _ => h.2.2.elim
  | _ :: _ :: _, _ :: _ :: _, [_], _, _, _, _, _, _, h, _ => h.2.2.elim
theorem sndB_cmp (hc : CmpSnd C d env sc ns) {l : Expr} {ops : List CmpOp} {cs : List Expr} {pos : Pos} {a : M V} {r : List (CmpOp × M V)} (hl : SndE C d env sc ns l a) (hr : ChainR C d env sc ns ops cs r) (hn : r ≠ []) (hm : lastMarks ops cs = false) :
    SndB C d env sc ns (.Compare l ops cs pos) (cmpM a r) := .of fun A s ρ st Q E X hA hS hw => by
  rw [arm_isTrue_Compare, markedEach_of_false _ _ _ hm]
  exact wpAny_bind (hl.then hA hS hw fun x vx s₁ ρ₁ st₁ r₁ S₁ e₁ hw₁ => (snd_test hc hn hr r₁).go hA S₁ hw₁)
theorem snd_cmp (hc : CmpSnd C d env sc ns) {l : Expr} {ops : List CmpOp} {cs : List Expr} {pos : Pos} {a : M V} {r : List (CmpOp × M V)} (hl : SndE C d env sc ns l a) (hr : ChainR C d env sc ns ops cs r) (hn : r ≠ []) (hm : lastMarks ops cs = false) :
    SndE C d env sc ns (.Compare l ops cs pos) (boolV (cmpM a r)) := .of fun A s ρ st Q E X hA hS hw => by
  have hw' : Rest C env sc ns (VR C) Nil Q E X (a.bind fun x => (chainM x r).bind fun b => M.pure (.bool b)) s ρ st := by
    refine ⟨?_, hw.2⟩
    have h1 := hw.1
    simp only [boolV, cmpM, wpM_bind] at h1 ⊢
    exact h1
  show wpAny _ _ (do compareChain pos (← eval l env) ops (markedEach ops cs (evalEach cs env))) Q E s
  rw [markedEach_of_false _ _ _ hm]
  refine wpAny_bind (hl.then hA hS hw' fun x vx s₁ ρ₁ st₁ r₁ S₁ e₁ hw₁ => ?_)
  refine (snd_chain hc hn hr r₁).then hA S₁ hw₁ fun b val s₂ ρ₂ st₂ r₂ S₂ e₂ hw₂ => ?_
  cases r₂
  exact hw₂.1 _ _ _ rfl S₂ (.refl ..)
end
end Mine
set_option autoImplicit false
set_option linter.unusedVariables false
namespace Mine
open PySem PyProof.Rows

theorem idxLast_get : ∀ {ns : List Str} {x : Str} {i : Nat}, idxLast ns x = some i → ns[i]? = some x
  | [], _, _, h => by cases h
  | y :: r, x, i, h => by
    unfold idxLast at h
    cases q : idxLast r x with
    | some k => rw [q] at h; cases h; simpa using idxLast_get q
    | none =>
      rw [q] at h
      dsimp only at h
      split at h
      · rename_i e; cases h; simp [eq_of_beq e]
      · cases h

section
variable {C : Cx} {d : Nat} {env : Env} {sc : Scope} {ns : List Str}
theorem own_aside {h h' : Heap} {ρ : List Addr} {vars : List (Option V)} (F : Frm C h ρ env sc ns vars) : ∀ b, Own env b → Aside C h' b := fun b q => .inl (F.off b q)

/- one thing that the frame owns is changed -/
/- what a name's store changes -/
noncomputable def OwnV (env : Env) (x : Str) (b : Addr) : Prop := (env.kindOf x = some .local ∧ b = env.locals) ∨ (env.kindOf x = some .cell ∧ env.cells.lookup x = some b)
theorem OwnV.own {env : Env} {x : Str} {b : Addr} (h : OwnV env x b) : Own env b := h.elim (fun q => .inl q.2) fun q => .inr ⟨x, q⟩
theorem State.own {S : Addr → Prop} {s : Shared} {ρ : List Addr} {st : St} (hS : State C env sc ns s ρ st) {a : Addr} {h' : Heap} {t : Nat} {o' : Obj} {vars' : List (Option V)} (hown : Own env a) (hSa : S a) (hs : Heap.SameBut a s.heap h') (ho : h'.get? a = some o')
    (hb : C.base.get? a = none) (hn : a ∉ ρ) (hlen : vars'.length = ns.length) (hloc : ∃ m, h'.Ns env.locals m)
    (hcell : ∀ x : Str, env.kindOf x = some .cell → ∃ c v₀, env.cells.lookup x = some c ∧ h'.IsCell c v₀)
    (hvals : ∀ (x : Str) (i : Nat) (v : V), isVar sc x = true → idxLast ns x = some i → vars'[i]? = some (some v) → ∃ val, Loads h' env x val ∧ VR C s.heap ρ v val) :
    State C env sc ns { s with heap := h', toks := t } ρ { st with vars := vars' } ∧ Ext S s ρ { s with heap := h', toks := t } ρ := by
  have keep : ∀ b o, b ≠ a → s.heap.get? b = some o → h'.get? b = some o := fun b o hne e => (hs.2 b hne).trans e
  have eV : ExtV C s.heap ρ h' ρ := ⟨⟨[], by simp⟩, fun b o hb' hn' hv => ⟨keep b o (fun q => by subst q; exact hn'.2 (hS.frm.off _ hown)) hb', hn'.1⟩⟩
  have alive : ∀ b o, s.heap.get? b = some o → ∃ o', h'.get? b = some o' := fun b o hb' => by
    by_cases q : b = a
    · subst q; exact ⟨o', ho⟩
    · exact ⟨o, keep b o q hb'⟩
  refine ⟨⟨hS.inv.ext (fun b o hbo => keep b o (fun q => by rw [q, hb] at hbo; cases hbo) (hS.inv.base b o hbo)) eV (fun b hb' => hs.2 b fun q => hn (q ▸ hb')) alive, ⟨hlen, hloc, hS.frm.off, hS.frm.locN, hS.frm.locB, fun x hx => ?_, hS.frm.inj, fun x i v h1 h2 h3 => ?_⟩⟩,
    ⟨⟨[], by simp⟩, fun _ h => .inl h, fun b o hb' hn' hS' => .inl (keep b o (fun q => hS' (q ▸ hSa)) hb'), alive, rfl, rfl, rfl⟩⟩
  · obtain ⟨c, v₀, q1, q2⟩ := hcell x hx
    obtain ⟨c', _, r1, _, r3, r4⟩ := hS.frm.cell x hx
    rw [q1] at r1; cases r1
    exact ⟨c, v₀, q1, q2, r3, r4⟩
  · obtain ⟨val, q1, q2⟩ := hvals x i v h1 h2 h3
    exact ⟨val, q1, q2.ext eV⟩

theorem at_store {S : Addr → Prop} (hE : EnvOk env sc) {x : Str} {i : Nat} {v : V} {val : Value} {s : Shared} {ρ : List Addr} {st : St} (hx : isVar sc x = true) (hi : idxLast ns x = some i) (hr : VR C s.heap ρ v val) (hSx : ∀ b, OwnV env x b → S b) :
    At C d env sc ns Un S (storeName env x val) (setVar i v) s ρ st := .of fun A Q E X hA hS hw => by
  obtain ⟨hlt, hw1⟩ := wpM_setVar.mp hw.1
  have hne : ∀ {y : Str} {j : Nat}, idxLast ns y = some j → y ≠ x → j ≠ i := fun {y j} hj hy q => by
    subst q
    have h1 := idxLast_get hj
    rw [idxLast_get hi] at h1; cases h1; exact hy rfl
  have same : ∀ {y : Str} {j : Nat}, idxLast ns y = some j → y = x → j = i := fun {y j} hj hy => by subst hy; rw [hi] at hj; cases hj; rfl
  have hset : (st.vars.set i (some v))[i]? = some (some v) := by rw [List.getElem?_set]; simp [hlt]
  rcases hE.vr x hx with k | k
  · obtain ⟨m, hm⟩ := hS.frm.loc
    refine wpAny_storeName_local k hm (fun h' hn' hs => ?_) (by rw [hE.kind]; rfl)
    obtain ⟨o', _, _, ho', _⟩ := id hn'
    have h5 : ∀ y : Str, env.kindOf y = some .cell → ∃ c v₀, env.cells.lookup y = some c ∧ h'.IsCell c v₀ := fun y hy => by
      obtain ⟨c, v₀, q1, ⟨oc, q2, q3⟩, _⟩ := hS.frm.cell y hy
      have hcl : c ≠ env.locals := fun q => by
        subst q
        obtain ⟨ol, _, _, hol, hld, _⟩ := hm
        rw [q2] at hol; cases hol; rw [q3] at hld; cases hld
      exact ⟨c, v₀, q1, oc, (hs.2 c hcl).trans q2, q3⟩
    have h6 : ∀ (y : Str) (j : Nat) (w : V), isVar sc y = true → idxLast ns y = some j → (st.vars.set i (some v))[j]? = some (some w) → ∃ val, Loads h' env y val ∧ VR C s.heap ρ w val := fun y j w h1 h2 h3 => by
      by_cases hy : y = x
      · have := same h2 hy; subst this; subst hy
        rw [hset] at h3; cases h3
        exact ⟨val, .inl ⟨k, _, hn', by simp⟩, hr⟩
      · rw [List.getElem?_set_ne (Ne.symm (hne h2 hy))] at h3
        obtain ⟨val', hl, hv⟩ := hS.frm.vals y j w h1 h2 h3
        refine ⟨val', ?_, hv⟩
        rcases hl with ⟨k', m', hm', hmy⟩ | ⟨k', c, q1, oc, q2, q3⟩
        · have hmm : m y = m' y := by
            obtain ⟨o1, e1, _, ho1, hd1, _, hf1⟩ := hm
            obtain ⟨o2, e2, _, ho2, hd2, _, hf2⟩ := hm'
            rw [ho1] at ho2; cases ho2
            rw [hd1] at hd2; cases hd2
            rw [← hf1, ← hf2]
          exact .inl ⟨k', _, hn', by simp [hy, hmm, hmy]⟩
        · have hcl : c ≠ env.locals := fun q => by
            subst q
            obtain ⟨ol, _, _, hol, hld, _⟩ := hm
            rw [q2] at hol; cases hol; rw [q3] at hld; cases hld
          exact .inr ⟨k', c, q1, oc, (hs.2 c hcl).trans q2, q3⟩
    obtain ⟨S', e'⟩ := hS.own (t := s.toks + 1) (vars' := st.vars.set i (some v)) (.inl rfl) (hSx _ (.inl ⟨k, rfl⟩)) hs ho' hS.frm.locB hS.frm.locN (by simp [hS.frm.len]) ⟨_, hn'⟩ h5 h6
    exact hw1 _ _ _ trivial S' e'
  · obtain ⟨c, v₀, q1, hc, q3, q4⟩ := hS.frm.cell x k
    refine wpAny_storeName_cell hE.kind k q1 hc fun h' hc' hs => ?_
    obtain ⟨oc', hoc', hcd'⟩ := id hc'
    have hcl : env.locals ≠ c := fun q => by
      obtain ⟨m, ol, _, _, hol, hld, _⟩ := hS.frm.loc
      obtain ⟨oc, hoc, hcd⟩ := hc
      rw [q, hoc] at hol; cases hol; rw [hcd] at hld; cases hld
    have nsKeep : ∀ {m}, s.heap.Ns env.locals m → h'.Ns env.locals m := fun ⟨ol, es, ep, hol, r⟩ => ⟨ol, es, ep, (hs.2 _ hcl).trans hol, r⟩
    have h5 : ∀ y : Str, env.kindOf y = some .cell → ∃ c v₀, env.cells.lookup y = some c ∧ h'.IsCell c v₀ := fun y hy => by
      by_cases hy' : y = x
      · subst hy'; exact ⟨c, _, q1, hc'⟩
      · obtain ⟨c', v', r1, ⟨o1, r2, r3⟩, _⟩ := hS.frm.cell y hy
        exact ⟨c', v', r1, o1, (hs.2 c' fun q => hy' (hS.frm.inj y x c hy k (q ▸ r1) q1)).trans r2, r3⟩
    have h6 : ∀ (y : Str) (j : Nat) (w : V), isVar sc y = true → idxLast ns y = some j → (st.vars.set i (some v))[j]? = some (some w) → ∃ val, Loads h' env y val ∧ VR C s.heap ρ w val := fun y j w h1 h2 h3 => by
      by_cases hy : y = x
      · have := same h2 hy; subst this; subst hy
        rw [hset] at h3; cases h3
        exact ⟨val, .inr ⟨k, c, q1, hc'⟩, hr⟩
      · rw [List.getElem?_set_ne (Ne.symm (hne h2 hy))] at h3
        obtain ⟨val', hl, hv⟩ := hS.frm.vals y j w h1 h2 h3
        refine ⟨val', ?_, hv⟩
        rcases hl with ⟨k', m', hm', hmy⟩ | ⟨k', c', r1, o1, r2, r3⟩
        · exact .inl ⟨k', m', nsKeep hm', hmy⟩
        · exact .inr ⟨k', c', r1, o1, (hs.2 c' fun q => hy (hS.frm.inj y x c k' k (q ▸ r1) q1)).trans r2, r3⟩
    obtain ⟨S', e'⟩ := hS.own (t := s.toks) (vars' := st.vars.set i (some v)) (.inr ⟨x, k, q1⟩) (hSx _ (.inr ⟨k, q1⟩)) hs hoc' q4 q3 (by simp [hS.frm.len]) (hS.frm.loc.imp fun m hm => nsKeep hm) h5 h6
    exact hw1 _ _ _ trivial S' e'
end
noncomputable def FlR (C : Cx) (h : Heap) (ρ : List Addr) : Flow → PySem.Flow → Prop
  | .next, f => f = .next
  | .ret v, f => ∃ val, f = .ret val ∧ VR C h ρ v val
abbrev SndX (C : Cx) (d : Nat) (env : Env) (sc : Scope) (ns : List Str) (x : Stmt) (m : M Flow) : Prop := Snd C d env sc ns (FlR C) (Own env) (exec x env) m
abbrev SndXs (C : Cx) (d : Nat) (env : Env) (sc : Scope) (ns : List Str) (xs : List Stmt) (m : M Flow) : Prop := Snd C d env sc ns (FlR C) (Own env) (execs xs env) m

section
variable {C : Cx} {d : Nat} {env : Env} {sc : Scope} {ns : List Str}
/- one that may change the frame, then another -/
theorem Snd.thenS {α β α' β' : Type} {R : Heap → List Addr → α → β → Prop} {R' : Heap → List Addr → α' → β' → Prop} {S : Addr → Prop} {t : Sem β} {m : M α} {g : α → M α'} {P : β → Shared → Prop}
    {A : Around} {s : Shared} {ρ : List Addr} {st : St} {Q : β' → Shared → Prop} {E : Value → Shared → Prop} {X : Str → St → Prop}
    (h1 : Snd C d env sc ns R S t m) (hA : AOk d A) (hS : State C env sc ns s ρ st) (hr : Rest C env sc ns R' S Q E X (m.bind g) s ρ st)
    (h2 : ∀ v val s₁ ρ₁ st₁, R s₁.heap ρ₁ v val → State C env sc ns s₁ ρ₁ st₁ → Ext S s ρ s₁ ρ₁ → Rest C env sc ns R' S Q E X (g v) s₁ ρ₁ st₁ → P val s₁) :
    wpAny (model C.prog C.w) A t P E s :=
  h1 A s ρ st _ E X hA hS (wpM_mono (wpM_bind.mp hr.1) (fun v st₁ hw₁ val s₁ ρ₁ r S₁ e₁ => h2 v val s₁ ρ₁ st₁ r S₁ e₁ (.mono e₁ hw₁ hr.2)) fun _ _ h => h) hr.2
theorem At.thenS {α β α' β' : Type} {R : Heap → List Addr → α → β → Prop} {R' : Heap → List Addr → α' → β' → Prop} {S : Addr → Prop} {t : Sem β} {m : M α} {g : α → M α'} {P : β → Shared → Prop}
    {A : Around} {s : Shared} {ρ : List Addr} {st : St} {Q : β' → Shared → Prop} {E : Value → Shared → Prop} {X : Str → St → Prop}
    (h1 : At C d env sc ns R S t m s ρ st) (hA : AOk d A) (hS : State C env sc ns s ρ st) (hr : Rest C env sc ns R' S Q E X (m.bind g) s ρ st)
    (h2 : ∀ v val s₁ ρ₁ st₁, R s₁.heap ρ₁ v val → State C env sc ns s₁ ρ₁ st₁ → Ext S s ρ s₁ ρ₁ → Rest C env sc ns R' S Q E X (g v) s₁ ρ₁ st₁ → P val s₁) :
    wpAny (model C.prog C.w) A t P E s :=
  h1 A _ E X hA hS (wpM_mono (wpM_bind.mp hr.1) (fun v st₁ hw₁ val s₁ ρ₁ r S₁ e₁ => h2 v val s₁ ρ₁ st₁ r S₁ e₁ (.mono e₁ hw₁ hr.2)) fun _ _ h => h) hr.2

theorem snd_seq : ∀ {xs : List Stmt} {ms : List (M Flow)}, All2 (SndX C d env sc ns) xs ms → SndXs C d env sc ns xs (seqS ms)
  | [], [], _ => .of fun A s ρ st Q E X hA hS hw => wpAny_execs_nil (hw.1 _ _ _ rfl hS (.refl ..))
  | x :: xs, m :: ms, h => .of fun A s ρ st Q E X hA hS hw => by
    refine wpAny_execs_cons (h.1.thenS hA hS hw fun f fl s₁ ρ₁ st₁ r₁ S₁ e₁ hw₁ => ?_)
    cases f with
    | next => cases r₁; exact (snd_seq h.2).go hA S₁ hw₁
    | ret v => obtain ⟨val, rfl, hv⟩ := r₁; exact hw₁.1 _ _ _ ⟨val, rfl, hv⟩ S₁ (.refl ..)
  | [], _ :: _, h => h.elim
  | _ :: _, [], h => h.elim
theorem snd_if {t : Expr} {b o : List Stmt} {pos : Pos} {mt : M Bool} {mb mo : M Flow} (ht : SndB C d env sc ns t mt) (hb : SndXs C d env sc ns b mb) (ho : SndXs C d env sc ns o mo) :
    SndX C d env sc ns (.If t b o pos) (iteM mt mb mo) := .of fun A s ρ st Q E X hA hS hw => by
  refine wpAny_If (ht.then hA hS hw fun v val s₁ ρ₁ st₁ r₁ S₁ e₁ hw₁ => ?_)
  cases r₁
  cases v
  · exact ho.go hA S₁ hw₁
  · exact hb.go hA S₁ hw₁
theorem snd_return {e : Expr} {pos : Pos} {m : M V} (h : SndE C d env sc ns e m) : SndX C d env sc ns (.Return (some e) pos) (retM m) := .of fun A s ρ st Q E X hA hS hw =>
  wpAny_Return_some (h.then hA hS hw fun v val s₁ ρ₁ st₁ r₁ S₁ e₁ hw₁ => hw₁.1 _ _ _ ⟨val, rfl, r₁⟩ S₁ (.refl ..))
theorem snd_pass {pos : Pos} : SndX C d env sc ns (.Pass pos) (M.pure .next) := .of fun A s ρ st Q E X hA hS hw => wpAny_Pass (hw.1 _ _ _ rfl hS (.refl ..))
theorem snd_expr (hE : EnvOk env sc) {e : Expr} {pos : Pos} {m : M V} (h : SndE C d env sc ns e m) (hs : swapsWith e none pos.line env = pure false) : SndX C d env sc ns (.Expr e pos) (exprM m) := .of fun A s ρ st Q E X hA hS hw =>
  wpAny_Expr_any (h.then hA hS hw fun v val s₁ ρ₁ st₁ r₁ S₁ e₁ hw₁ => hw₁.1 _ _ _ rfl S₁ (.refl ..)) (by unfold interactive; rw [hE.kind]; rfl) hs
theorem snd_raise {e : Option Expr} {pos : Pos} {c : Str} : SndX C d env sc ns (.Raise e none pos) (raiseM c) := .of fun A s ρ st Q E X hA hS hw => hw.1.elim
theorem snd_assignName (hE : EnvOk env sc) {x : Str} {p pos : Pos} {e : Expr} {m : M V} {i : Nat} (h : SndE C d env sc ns e m) (hx : isVar sc x = true) (hi : idxLast ns x = some i)
    (hs : swapsWith e (some (.Name x p)) pos.line env = pure false) : SndX C d env sc ns (.Assign [.Name x p] e pos) (assignM (.var i) m) := .of fun A s ρ st Q E X hA hS hw =>
  wpAny_Assign_Name (h.then hA hS hw fun v val s₁ ρ₁ st₁ r₁ S₁ e₁ hw₁ =>
    (at_store hE hx hi r₁ fun _ q => q.own).thenS hA S₁ hw₁ fun _ _ s₂ ρ₂ st₂ _ S₂ e₂ hw₂ => hw₂.1 _ _ _ rfl S₂ (.refl ..)) hs

/- several names -/
noncomputable def TgR (sc : Scope) (ns : List Str) : List Expr → List Nat → Prop
  | [], [] => True
  | .Name x _ :: r, i :: is => isVar sc x = true ∧ idxLast ns x = some i ∧ TgR sc ns r is
  | _, _ => False
noncomputable def tnames : List Expr → List Str
  | [] => []
  | .Name x _ :: r => x :: tnames r
  | _ :: r => tnames r
theorem at_stores {S : Addr → Prop} (hE : EnvOk env sc) (hSO : ∀ b, S b → Own env b) {is : List Nat} : ∀ {es : List Expr} {vs : List V} {vals : List Value} {s : Shared} {ρ : List Addr} {st : St}, TgR sc ns es is → VRs C s.heap ρ vs vals → (∀ x b, isVar sc x = true → x ∈ tnames es → OwnV env x b → S b) →
    At C d env sc ns Un S (assignInOrder ((assignEach es env).map (·.2)) vals) (setVars is vs) s ρ st := by
  induction is with
  | nil =>
    intro es vs vals s ρ st ht hv hSx
    cases es with
    | cons e es => cases e <;> exact ht.elim
    | nil =>
      refine .of fun A Q E X hA hS hw => ?_
      cases vs with
      | cons _ _ => exact hw.1.elim
      | nil =>
        simp only [vS0, vS1] at hv; subst hv
        exact wpAny_assignInOrder_none (hw.1 _ _ _ trivial hS (.refl ..))
  | cons i is ih =>
    intro es vs vals s ρ st ht hv hSx
    cases es with
    | nil => exact ht.elim
    | cons e es =>
      refine .of fun A Q E X hA hS hw => ?_
      cases vs with
      | nil => exact hw.1.elim
      | cons v vs =>
        cases e <;> first | exact ht.elim | skip
        rename_i x p
        simp only [vS0, vS1] at hv
        obtain ⟨val, vals, rfl, hv1, hv2⟩ := hv
        obtain ⟨hx, hi, ht'⟩ := ht
        refine wpAny_assignInOrder_more ?_
        show wpAny _ _ (do standAt p; bindName env x val) _ _ _
        refine wpAny_bind (wpAny_standAt (wpAny_bindName ?_))
        refine (at_store hE hx hi hv1 fun b q => hSx x b hx (.head _) q).thenS hA hS hw fun _ _ s₁ ρ₁ st₁ _ S₁ e₁ hw₁ => ?_
        exact (ih ht' (hv2.ext (e₁.extV fun b q => own_aside hS.frm b (hSO b q))) fun y b h1 h2 h3 => hSx y b h1 (.tail _ h2) h3).go hA S₁ hw₁
theorem TgR.len {es : List Expr} {is : List Nat} (h : TgR sc ns es is) : (assignEach es env).length = is.length ∧ (assignEach es env).findIdx? (·.1) = none := by
  induction es generalizing is with
  | nil => cases is with
    | nil => exact ⟨rfl, rfl⟩
    | cons _ _ => exact h.elim
  | cons e es ih =>
    cases e <;> cases is <;> first | exact h.elim | skip
    rename_i x p i is
    obtain ⟨_, _, h'⟩ := h
    obtain ⟨h1, h2⟩ := ih h'
    show ((false, assign (.Name x p) env) :: assignEach es env).length = _ ∧ ((false, assign (.Name x p) env) :: assignEach es env).findIdx? (·.1) = none
    refine ⟨by simp [h1], ?_⟩
    rw [List.findIdx?_cons, h2]; rfl
theorem VRs.len {h : Heap} {ρ : List Addr} : ∀ {vs : List V} {xs : List Value}, VRs C h ρ vs xs → vs.length = xs.length
  | [], _, r => by simp only [vS0, vS1] at r; subst r; rfl
  | _ :: _, _, r => by
    simp only [vS0, vS1] at r
    obtain ⟨x, xs, rfl, _, h2⟩ := r
    simp [VRs.len h2]
theorem wpM_setVars_len {is : List Nat} {vs : List V} {st : St} {Q : Unit → St → Prop} {X : Str → St → Prop} (h : wpM (setVars is vs) st Q X) : is.length = vs.length := by
  induction is generalizing vs st with
  | nil => cases vs with
    | nil => rfl
    | cons _ _ => exact h.elim
  | cons i is ih => cases vs with
    | nil => exact h.elim
    | cons v vs =>
      obtain ⟨_, h2⟩ := wpM_setVar.mp (wpM_bind.mp h)
      simp [ih h2]
/- a target takes a value -/
noncomputable def TgtR (sc : Scope) (ns : List Str) : Expr → Tg → Prop
  | .Name x _, .var i => isVar sc x = true ∧ idxLast ns x = some i
  | .Tuple es _ _, .tup is => TgR sc ns es is
  | _, _ => False
noncomputable def tname : Expr → List Str
  | .Name x _ => [x]
  | .Tuple es _ _ => tnames es
  | _ => []
theorem at_asg {S : Addr → Prop} (hE : EnvOk env sc) (hSO : ∀ b, S b → Own env b) {t : Expr} {tg : Tg} {v : V} {val : Value} {s : Shared} {ρ : List Addr} {st : St} (ht : TgtR sc ns t tg) (hv : VR C s.heap ρ v val) (hSx : ∀ x b, isVar sc x = true → x ∈ tname t → OwnV env x b → S b) :
    At C d env sc ns Un S (assign t env val) (asg tg v) s ρ st := .of fun A Q E X hA hS hw => by
  cases t <;> cases tg <;> first | exact ht.elim | skip
  · rename_i x p i
    show wpAny _ _ (do standAt p; bindName env x val) _ _ _
    exact wpAny_bind (wpAny_standAt (wpAny_bindName ((at_store hE ht.1 ht.2 hv fun b q => hSx x b ht.1 (.head _) q).go hA hS hw)))
  · rename_i es k p is
    cases v <;> first | exact hw.1.elim | skip
    rename_i vs
    simp only [vR0, vR1, vR2, vR3, vR4, vR5, vR6, vR7, vR8, vR9, vR10, vR11, vR12, vR13] at hv
    obtain ⟨a, items, rfl, ht', hn, hr⟩ := hv
    have hlen := wpM_setVars_len (show wpM (setVars is vs) st _ _ from hw.1)
    refine wpAny_assign_Tuple hA.handled ht' ?_ ht.len.2 fun h' hx => ?_
    · rw [ht.len.1, hlen, hr.len]; simp
    · have g := Grows.extBut hx
      exact (at_stores hE hSO ht (hr.ext (g.extV ρ)) fun y b h1 h2 h3 => hSx y b h1 h2 h3).go hA (hS.grows g s.toks) (.mono (Ext.grows g) hw.1 hw.2)
end
end Mine
set_option autoImplicit false
set_option linter.unusedVariables false
namespace Mine
open PySem PyProof.Rows

theorem lookup_zip_some : ∀ {ns : List Str} {vs : List Value} {i : Nat} {x : Str} {v : Value}, ns.Nodup → ns[i]? = some x → vs[i]? = some v → (ns.zip vs).lookup x = some v
  | [], _, _, _, _, _, h, _ => by simp at h
  | _ :: _, [], _, _, _, _, _, h => by simp at h
  | n :: ns, w :: vs, 0, x, v, hn, h1, h2 => by
    simp at h1 h2; subst h1; subst h2
    simp
  | n :: ns, w :: vs, i + 1, x, v, hn, h1, h2 => by
    have hn' := List.nodup_cons.mp hn
    simp at h1 h2
    have hne : (x == n) = false := by
      cases q : x == n with
      | false => rfl
      | true => exact absurd (List.mem_of_getElem? h1) (by rw [eq_of_beq q]; exact hn'.1)
    rw [List.zip_cons_cons, List.lookup_cons, hne]
    exact lookup_zip_some hn'.2 h1 h2
theorem filterMap_zip {ns : List Str} {vs : List Value} (hn : ns.Nodup) (hl : vs.length = ns.length) : (ns.filterMap fun n => ((ns.zip vs).lookup n).map (n, ·)) = ns.zip vs := by
  have key : ∀ (k : Nat) (l : List Str), l = ns.drop k → (l.filterMap fun n => ((ns.zip vs).lookup n).map (n, ·)) = (ns.zip vs).drop k := by
    intro k l
    induction l generalizing k with
    | nil =>
      intro h
      have : ns.length ≤ k := by
        have := congrArg List.length h
        simp at this; omega
      rw [List.filterMap_nil, List.drop_eq_nil_of_le (by simp; omega)]
    | cons x l ih =>
      intro h
      have hk : k < ns.length := by
        have := congrArg List.length h
        simp at this; omega
      have hd := List.drop_eq_getElem_cons hk
      rw [hd] at h
      injection h with h1 h2
      have hv : k < vs.length := by omega
      have := lookup_zip_some hn (i := k) (x := x) (v := vs[k]) (by rw [List.getElem?_eq_getElem hk, h1]) (List.getElem?_eq_getElem hv)
      rw [List.filterMap_cons, this]
      rw [List.drop_eq_getElem_cons (l := ns.zip vs) (by simp; omega)]
      simp only [Option.map_some, List.getElem_zip, h1]
      rw [ih (k + 1) h2]
  simpa using key 0 ns rfl
theorem sem_pb {α β : Type} {a : α} {f : α → Sem β} : ((pure a : Sem α) >>= f) = f a := rfl
theorem seqItems_none : seqItems? Value.none = pure none := rfl
theorem bindArgs_plain {fd : FuncData} {ps : List Arg} {vals : List Value} (hp : fd.params = ⟨[], ps, none, [], [], none, []⟩) (hd : fd.defaults = .none) (hn : (ps.map (·.arg)).Nodup) (hl : vals.length = ps.length) :
    bindArgs fd ⟨vals, []⟩ = pure ((ps.map (·.arg)).zip vals) := by
  have hl' : vals.length = (ps.map (·.arg)).length := by simp [hl]
  have hmiss : ((ps.map (·.arg)).take (ps.map (·.arg)).length).filter (fun n => (((ps.map (·.arg)).zip vals).lookup n).isNone) = [] := by
    rw [List.take_length, List.filter_eq_nil_iff]
    intro x hx
    obtain ⟨i, hi, rfl⟩ := List.getElem_of_mem hx
    rw [lookup_zip_some hn (i := i) (v := vals[i]'(by omega)) (List.getElem?_eq_getElem hi) (List.getElem?_eq_getElem (by omega))]
    simp
  have hgt : (decide (vals.length > (ps.map (·.arg)).length)) = false := decide_eq_false (by omega)
  obtain ⟨⟩ := fd
  cases hp
  cases hd
  unfold bindArgs
  dsimp only [List.map_nil, List.nil_append, List.forIn_nil, sem_pb, seqItems_none, Option.getD_none, List.length_nil, Nat.sub_zero, List.isEmpty_nil, Bool.not_true]
  refine (if_neg ?_).trans ?_
  · show ¬ (decide (vals.length > (ps.map (·.arg)).length) && true) = true
    rw [hgt]; decide
  refine (if_neg ?_).trans ?_
  · rw [List.drop_nil]
    show ¬ (!(((ps.map (·.arg)).take (ps.map (·.arg)).length).filter (fun n => (((ps.map (·.arg)).zip vals).lookup n).isNone)).isEmpty) = true
    rw [hmiss]; decide
  simp only [List.map_nil, List.nil_append, List.append_nil, List.forIn_nil, sem_pb, List.length_nil, Nat.sub_zero, Nat.zero_sub, List.drop_nil, Bool.false_eq_true, if_false, List.isEmpty_nil, Bool.not_true, List.zip_nil_right, filterMap_zip hn hl']

theorem wpM_runFn {sf : List Ob → List Ob → V → Option (V × List Ob)} {np n : Nat} {body : M Flow} {args : List V} {st : St} {Q : V → St → Prop} {X : Str → St → Prop} (h : wpM (runFnS sf np n body args) st Q X) :
    args.length = np ∧ wpM body ⟨args.map some ++ List.replicate (n - np) none, st.obs⟩ (fun fl st' => ∃ v o, sf st.obs st'.obs (flowV fl) = some (v, o) ∧ Q v { st with obs := o }) (fun c st' => ∃ o, dropTo st.obs st'.obs = some o ∧ X c { st with obs := o }) := by
  unfold wpM runFnS at h
  by_cases hl : args.length = np
  · rw [if_pos hl] at h
    refine ⟨hl, ?_⟩
    unfold wpM
    cases hb : body ⟨args.map some ++ List.replicate (n - np) none, st.obs⟩ with
    | ok fl st' =>
      rw [hb] at h
      dsimp only at h ⊢
      cases hs : sf st.obs st'.obs (flowV fl) with
      | none => rw [hs] at h; exact h.elim
      | some p => rw [hs] at h; exact ⟨p.1, p.2, rfl, h⟩
    | exc c st' =>
      rw [hb] at h
      dsimp only at h ⊢
      cases hs : dropTo st.obs st'.obs with
      | none => rw [hs] at h; exact h.elim
      | some p => rw [hs] at h; exact ⟨p, rfl, h⟩
    | stuck => rw [hb] at h; exact h
  · rw [if_neg hl] at h; exact h.elim
theorem settle_some {o o' : List Ob} {v v' : V} {o'' : List Ob} (h : settle o o' v = some (v', o'')) : Mine.keeps o o' ∧ res o.length o' 4 v = some v' ∧ o'' = o'.take o.length := by
  unfold settle at h
  split at h
  · rename_i hk
    obtain ⟨w, h1, h2⟩ := Option.map_eq_some_iff.mp h
    cases h2
    exact ⟨hk, h1, rfl⟩
  · cases h

structure FnGood (f : FnD) : Prop where
  kind : f.scope.kind = .function
  gen : f.scope.isGenerator = false
  co : f.scope.isCoroutine = false
  nodup : (f.scope.names.map (·.1)).Nodup
  nofree : ∀ p ∈ f.scope.names, p.2 ≠ .free
  pre : f.params <+: slotsOf f.scope
  dbg : ∀ p ∈ f.scope.names, (p.1 == ("__debug__" : Str)) = false
noncomputable def FnD.ok (f : FnD) : Bool := f.scope.kind == .function && !f.scope.isGenerator && !f.scope.isCoroutine && decide (f.scope.names.map (·.1)).Nodup && f.scope.names.all (fun p => p.2 != .free && !(p.1 == ("__debug__" : Str))) && f.params.isPrefixOf (slotsOf f.scope)
theorem FnD.good {f : FnD} (h : f.ok = true) : FnGood f := by
  simp only [FnD.ok, Bool.and_eq_true, beq_iff_eq, Bool.not_eq_true', decide_eq_true_eq, List.all_eq_true, bne_iff_ne, ne_eq] at h
  obtain ⟨⟨⟨⟨⟨h1, h2⟩, h3⟩, h4⟩, h5⟩, h6⟩ := h
  exact ⟨h1, h2, h3, h4, fun p hp => (h5 p hp).1, List.isPrefixOf_iff_prefix.mp h6, fun p hp => (h5 p hp).2⟩
structure FnOk (C : Cx) (f : FnD) (a : Addr) : Prop where
  fn : ∃ o fd ps, C.base.get? a = some o ∧ o.data = .func fd ∧ fd.scope = f.scope ∧ fd.body = .stmts f.body ∧ fd.globals = mainGlobals ∧ fd.closure = [] ∧ fd.builtins = builtinsNs ∧ C.base.CodeRec fd.code fd.qualname ∧
    fd.params = ⟨[], ps, none, [], [], none, []⟩ ∧ ps.map (·.arg) = f.params ∧ fd.defaults = .none

theorem lookup_mem {α β : Type} [BEq α] [LawfulBEq α] : ∀ {l : List (α × β)} {x : α} {v : β}, l.lookup x = some v → (x, v) ∈ l
  | [], _, _, h => by cases h
  | (y, w) :: r, x, v, h => by
    rw [List.lookup_cons] at h
    split at h
    · rename_i e; cases h; rw [eq_of_beq e]; exact .head _
    · exact .tail _ (lookup_mem h)
theorem lookup_of_nodup {α β : Type} [BEq α] [LawfulBEq α] : ∀ {l : List (α × β)} {x : α} {v : β}, (l.map (·.1)).Nodup → (x, v) ∈ l → l.lookup x = some v
  | (y, w) :: r, x, v, hn, h => by
    have hn' := List.nodup_cons.mp hn
    rw [List.lookup_cons]
    cases h with
    | head => simp
    | tail _ h =>
      have : (x == y) = false := by
        cases q : x == y with
        | false => rfl
        | true => exact absurd (List.mem_map_of_mem (f := (·.1)) h) (by show ¬ x ∈ _; rw [eq_of_beq q]; exact hn'.1)
      rw [this]; exact lookup_of_nodup hn'.2 h

/- parameters as the frame holds them -/
theorem bindL_get (k : Str → Option NameKind) : ∀ {b : List (Str × Value)} {m : Str → Option Value} {x : Str} {v : Value}, (b.map (·.1)).Nodup → (x, v) ∈ b → k x = some .local → bindL k b m x = some v
  | (y, w) :: r, m, x, v, hn, h, hk => by
    have hn' := List.nodup_cons.mp hn
    unfold bindL
    cases h with
    | head =>
      rw [if_pos hk]
      exact bindL_skip k hn'.1 (by simp)
    | tail _ h => exact bindL_get k hn'.2 h hk
where bindL_skip (k : Str → Option NameKind) : ∀ {b : List (Str × Value)} {m : Str → Option Value} {x : Str} {v : Value}, x ∉ b.map (·.1) → m x = some v → bindL k b m x = some v
  | [], _, _, _, _, h => h
  | (y, w) :: r, m, x, v, hn, h => by
    unfold bindL
    refine bindL_skip k (fun q => hn (.tail _ q)) ?_
    have hne : x ≠ y := fun q => hn (by rw [q]; exact .head _)
    split
    · simp [hne, h]
    · exact h
theorem bindC_get (k : Str → Option NameKind) : ∀ {b : List (Str × Value)} {m : Str → Option Value} {x : Str} {v : Value}, (b.map (·.1)).Nodup → (x, v) ∈ b → k x = some .cell → bindC k b m x = some v
  | (y, w) :: r, m, x, v, hn, h, hk => by
    have hn' := List.nodup_cons.mp hn
    unfold bindC
    cases h with
    | head =>
      rw [if_neg (by rw [hk]; decide)]
      exact bindC_skip k hn'.1 (by simp)
    | tail _ h => exact bindC_get k hn'.2 h hk
where bindC_skip (k : Str → Option NameKind) : ∀ {b : List (Str × Value)} {m : Str → Option Value} {x : Str} {v : Value}, x ∉ b.map (·.1) → m x = some v → bindC k b m x = some v
  | [], _, _, _, _, h => h
  | (y, w) :: r, m, x, v, hn, h => by
    unfold bindC
    refine bindC_skip k (fun q => hn (.tail _ q)) ?_
    have hne : x ≠ y := fun q => hn (by rw [q]; exact .head _)
    split
    · exact h
    · simp [hne, h]
theorem cells_lookup {x : Str} : ∀ {names : List (Str × NameKind)} {n : Nat} {acc : List (Str × Addr)}, (x, NameKind.cell) ∈ names ∨ (acc.lookup x).isSome = true → ((cellsFrom n names acc).lookup x).isSome = true
  | [], _, _, h => by
    rcases h with h | h
    · cases h
    · exact h
  | (y, k) :: r, n, acc, h => by
    unfold cellsFrom
    by_cases hk : (k == NameKind.cell) = true
    · rw [if_pos hk]
      refine cells_lookup ?_
      by_cases hy : (x == y) = true
      · right; rw [List.lookup_cons, hy]; rfl
      · rcases h with h | h
        · cases h with
          | head => exact absurd (by simp) hy
          | tail _ h => exact .inl h
        · right; rw [List.lookup_cons]; simp only [hy]; exact h
    · rw [if_neg hk]
      refine cells_lookup ?_
      rcases h with h | h
      · cases h with
        | head => exact absurd rfl hk
        | tail _ h => exact .inl h
      · exact .inr h
theorem cells_inj {l : List (Str × Addr)} (h : l.Pairwise fun x y => x.2 ≠ y.2) {x y : Str} {c : Addr} (hx : (x, c) ∈ l) (hy : (y, c) ∈ l) : x = y := by
  induction l with
  | nil => cases hx
  | cons p l ih =>
    obtain ⟨h1, h2⟩ := List.pairwise_cons.mp h
    cases hx with
    | head => cases hy with
      | head => rfl
      | tail _ hy => exact absurd rfl (h1 (y, c) hy)
    | tail _ hx => cases hy with
      | head => exact absurd rfl (h1 (x, c) hx)
      | tail _ hy => exact ih h2 hx hy

/- a call of a def -/
structure AOk2 (d : Nat) (A : Around) : Prop where
  depth : A.depth + 3 * d + 4 ≤ 990
  units : A.units + 100 * d + 250 ≤ 9900
  handled : A.handled = none
  guards : A.guards = some []
noncomputable def Back (Q : Value → Shared → Prop) (E : Value → Shared → Prop) (r : Result) (s : Shared) : Prop := match r with
  | .ok (.ret v) => Q v s
  | .ok _ => False
  | .error e => E e s
noncomputable def FSnd (C : Cx) (d : Nat) (a : Addr) (g : List V → M V) : Prop :=
  ∀ (env : Env) (sc : Scope) (ns : List Str) (vs : List V) (vals : List Value) (s : Shared) (ρ : List Addr) (st : St), VRs C s.heap ρ vs vals →
    ∀ (A : Around) (Q : Value → Shared → Prop) (E : Value → Shared → Prop) (X : Str → St → Prop), AOk2 d A → State C env sc ns s ρ st → Rest C env sc ns (VR C) Nil Q E X (g vs) s ρ st → codeAny (model C.prog C.w) A (.call (.ref a) ⟨vals, []⟩) (Back Q E) s
theorem AOk.two {d : Nat} {A : Around} (h : AOk (d + 1) A) : AOk2 d A := ⟨by have := h.depth; omega, by have := h.units; omega, h.handled, h.guards⟩
theorem FSnd.at {C : Cx} {d : Nat} {a : Addr} {g : List V → M V} (h : FSnd C d a g) {env : Env} {sc : Scope} {ns : List Str} {vs : List V} {vals : List Value} {s : Shared} {ρ : List Addr} {st : St} (hv : VRs C s.heap ρ vs vals) : At C (d + 1) env sc ns (VR C) Nil (call (.ref a) vals) (g vs) s ρ st :=
  .of fun A Q E X hA hS hw => wpAny_call (h env sc ns vs vals s ρ st hv A Q E X hA.two hS hw)
theorem AOk2.deeper {d : Nat} {A : Around} (h : AOk2 d A) (env : Env) : AOk d (A.deeper env) :=
  ⟨by show A.depth + 1 + 3 * d + 3 ≤ 990; have := h.depth; omega, by show A.units + 3 + 100 * d + 200 ≤ 9900; have := h.units; omega, h.handled, h.guards⟩
theorem slots_nodup {f : FnD} (hg : FnGood f) : (slotsOf f.scope).Nodup := by
  unfold slotsOf
  exact List.Nodup.sublist (List.Sublist.map _ List.filter_sublist) hg.nodup
theorem envOk_call {f : FnD} (hg : FnGood f) {env : Env} (hs : env.scope = f.scope) (h1 : env.globals = mainGlobals) (h2 : env.builtins = builtinsNs) : EnvOk env f.scope where
  kind := by rw [hs]; exact hg.kind
  glob := h1
  blt := h2
  gl := fun x hx => by unfold isGlob at hx; show env.scope.names.lookup x = _; rw [hs]; exact eq_of_beq hx
  lo := fun x hx => by show env.scope.names.lookup x = _; rw [hs]; exact hx
  ce := fun x hx => by
    show env.scope.names.lookup x = _
    rw [hs]
    rcases hx with hx | hx
    · exact hx
    · exact absurd rfl (hg.nofree _ (lookup_mem hx))
  dbg := fun x hx => by
    have : ∃ k, f.scope.names.lookup x = some k := by
      rcases hx with hx | hx
      · exact ⟨_, eq_of_beq hx⟩
      · unfold isVar at hx
        split at hx <;> first | exact ⟨_, by assumption⟩ | cases hx
    obtain ⟨k, hk⟩ := this
    exact hg.dbg _ (lookup_mem hk)

theorem VRs.get {C : Cx} {h : Heap} {ρ : List Addr} : ∀ {vs : List V} {xs : List Value} {i : Nat} {v : V}, VRs C h ρ vs xs → vs[i]? = some v → ∃ x, xs[i]? = some x ∧ VR C h ρ v x
  | [], _, _, _, _, h => by simp at h
  | v :: vs, _, 0, w, r, h => by
    simp only [vS0, vS1] at r
    obtain ⟨x, xs, rfl, h1, _⟩ := r
    simp at h; subst h
    exact ⟨x, rfl, h1⟩
  | v :: vs, _, i + 1, w, r, h => by
    simp only [vS0, vS1] at r
    obtain ⟨x, xs, rfl, _, h2⟩ := r
    simp at h
    simpa using VRs.get h2 h

noncomputable def flowVal : PySem.Flow → Value
  | .ret v => v
  | _ => .none
theorem call_core {C : Cx} {d : Nat} {f : FnD} {a : Addr} {mb : M Flow} (hlim : C.base.NoLimit) (hf : FnOk C f a) (hg : FnGood f)
    (hbody : ∀ env g, EnvOk env f.scope → SndXs (C.at g) d env f.scope (slotsOf f.scope) f.body mb)
    {vs : List V} {vals : List Value} {s : Shared} {ρ : List Addr} {obs : List Ob} (hv : VRs C s.heap ρ vs vals) {A : Around} {Q : Value → Shared → Prop} {E : Value → Shared → Prop} {X : Str → St → Prop} (hA : AOk2 d A) (hI : Inv C s.heap ρ obs) (hlen : vs.length = f.params.length)
    (hw1 : wpM mb ⟨vs.map some ++ List.replicate ((slotsOf f.scope).length - f.params.length) none, obs⟩ (fun fl st' => ∀ val s' ρ', VR C s'.heap ρ' (flowV fl) val → Inv C s'.heap ρ' st'.obs → Ext Nil s ρ s' ρ' → Q val s') X) : codeAny (model C.prog C.w) A (.call (.ref a) ⟨vals, []⟩) (Back Q E) s := by
  obtain ⟨o, fd, ps, ho, hdat, hsc, hbd, hgl, hcl, hbl, hcd, hps, hpn, hdf⟩ := hf.fn
  have hkeep := hI.base
  have hvl : vals.length = ps.length := by rw [← hv.len, hlen, ← hpn]; simp
  have hpd : (ps.map (·.arg)).Nodup := by
    rw [hpn]; exact List.Nodup.sublist hg.pre.sublist (slots_nodup hg)
  have hslot : ∀ x, x ∈ slotsOf f.scope → (x, NameKind.local) ∈ f.scope.names ∨ (x, NameKind.cell) ∈ f.scope.names := fun x hx => by
    unfold slotsOf at hx
    obtain ⟨⟨y, k⟩, hp, rfl⟩ := List.mem_map.mp hx
    obtain ⟨hp1, hp2⟩ := List.mem_filter.mp hp
    cases k <;> simp at hp2
    · exact .inl hp1
    · exact .inr hp1
  have hzip : ∀ x ∈ (ps.map (·.arg)).zip vals, x.1 ∈ slotsOf f.scope := fun x hx => by
    obtain ⟨n, v⟩ := x
    exact hg.pre.subset (hpn ▸ (List.of_mem_zip hx).1)
  refine (codeAny_call_cells (by have := hA.depth; show A.depth < 1000; omega) (hkeep _ _ ho) hdat (hlim.keeps hkeep) (hcd.keeps hkeep) hbd (bindArgs_plain hps hdf hpd hvl) hcl (fun x hx => ?_) (fun s₁ hc => ?_)
    (by rw [hsc]; exact hg.co) (by rw [hsc]; exact hg.gen) (by rw [hsc]; exact hg.kind))
  · rw [hsc]
    rcases hslot _ (hzip x hx) with q | q
    · exact .inl (lookup_of_nodup hg.nodup q)
    · exact .inr ⟨lookup_of_nodup hg.nodup q, cells_lookup (.inl q)⟩
  · generalize he : callEnvC fd s.heap.objs.size a = env' at hc ⊢
    have e1 : env'.scope = f.scope := by rw [← he]; exact hsc
    have e2 : env'.locals = s.heap.objs.size := by rw [← he]; rfl
    have e3 : env'.globals = mainGlobals := by rw [← he]; exact hgl
    have e4 : env'.builtins = builtinsNs := by rw [← he]; exact hbl
    have e5 : env'.cells = cellsFrom (s.heap.objs.size + 1) f.scope.names [] := by rw [← he, ← hsc]; rfl
    have hk' : ∀ x, env'.kindOf x = f.scope.names.lookup x := fun x => by show env'.scope.names.lookup x = _; rw [e1]
    obtain ⟨h₁, tk, rfl, hkeep₁⟩ := hc.done
    have hnone : ∀ {b : Addr}, s.heap.objs.size ≤ b → s.heap.get? b = none := fun hb => Heap.get?_none_of_le hb
    have notIn : ∀ {b : Addr}, s.heap.objs.size ≤ b → b ∉ ρ := fun hb hm => by
      obtain ⟨o', ho'⟩ := hI.mem hm
      rw [hnone hb] at ho'; cases ho'
    have notB : ∀ {b : Addr}, s.heap.objs.size ≤ b → C.base.get? b = none := fun {b} hb => by
      cases q : C.base.get? b with
      | none => rfl
      | some o' => have := hkeep b o' q; rw [hnone hb] at this; cases this
    have g : Grows s.heap h₁ := hkeep₁
    have hex : Ext Nil s ρ { s with heap := h₁, toks := tk } ρ := Ext.grows g
    have above : ∀ {x : Str} {c : Addr}, env'.cells.lookup x = some c → s.heap.objs.size ≤ c := fun {x c} hl => by
      have := hc.above x c (lookup_mem hl)
      rw [e2] at this; exact Nat.le_of_lt this
    have hown : ∀ b, Own env' b → s.heap.objs.size ≤ b := fun b hb => by
      rcases hb with rfl | ⟨x, _, hl⟩
      · rw [e2]; exact Nat.le_refl _
      · exact above hl
    have hN : ∀ b, Own env' b → s.heap.get? b = none ∧ ∃ o, h₁.get? b = some o := fun b hb => by
      refine ⟨hnone (hown b hb), ?_⟩
      rcases hb with rfl | ⟨x, _, hl⟩
      · obtain ⟨o, _, _, ho, _⟩ := hc.toInCall.ns; exact ⟨o, ho⟩
      · obtain ⟨o, ho, _⟩ := hc.cell x b hl; exact ⟨o, ho⟩
    have S₁ : State (C.hide (Own env')) env' f.scope (slotsOf f.scope) { s with heap := h₁, toks := tk } ρ ⟨vs.map some ++ List.replicate ((slotsOf f.scope).length - f.params.length) none, obs⟩ := by
      refine ⟨hI.hide g hN, ⟨?_, ⟨_, hc.toInCall.ns⟩, fun b hb => .inr hb, notIn (hown _ (.inl rfl)), notB (hown _ (.inl rfl)), fun x hx => ?_, fun x y c h1 h2 h3 h4 => cells_inj hc.apart (lookup_mem h3) (lookup_mem h4), fun x i v h1 h2 h3 => ?_⟩⟩
      · have := hg.pre.length_le
        simp [hlen]; omega
      · have hm : (x, NameKind.cell) ∈ f.scope.names := lookup_mem ((hk' x) ▸ hx)
        have hsome : (env'.cells.lookup x).isSome = true := by rw [e5]; exact cells_lookup (.inl hm)
        obtain ⟨c, hcx⟩ := Option.isSome_iff_exists.mp hsome
        exact ⟨c, _, hcx, hc.cell x c hcx, notIn (above hcx), notB (above hcx)⟩
      · have hi : i < vs.length := by
          refine Nat.lt_of_not_le fun hle => ?_
          rw [List.getElem?_append_right (by simpa using hle), List.getElem?_replicate] at h3
          split at h3 <;> cases h3
        rw [List.getElem?_append_left (by simpa using hi), List.getElem?_map] at h3
        have hvi : vs[i]? = some v := by
          cases q : vs[i]? with
          | none => rw [q] at h3; cases h3
          | some w => rw [q] at h3; cases h3; rfl
        obtain ⟨val, hval, hr⟩ := hv.get hvi
        have hxi : (ps.map (·.arg))[i]? = some x := by
          have := idxLast_get h2
          obtain ⟨t, ht⟩ := hg.pre
          rw [← ht, List.getElem?_append_left (by rw [← hlen]; exact hi)] at this
          rw [hpn]; exact this
        have hmem : (x, val) ∈ (ps.map (·.arg)).zip vals := lookup_mem (lookup_zip_some hpd hxi hval)
        have hnd : (((ps.map (·.arg)).zip vals).map (·.1)).Nodup := by
          rw [List.map_fst_zip (by simp [hvl])]; exact hpd
        refine ⟨val, ?_, hr.move (.hide g fun b hb => (hN b hb).1) hr.lt⟩
        rcases hslot x (List.mem_of_getElem? (idxLast_get h2)) with q | q
        · have k : env'.kindOf x = some .local := (hk' x).trans (lookup_of_nodup hg.nodup q)
          exact .inl ⟨k, _, hc.toInCall.ns, bindL_get _ hnd hmem k⟩
        · have k : env'.kindOf x = some .cell := (hk' x).trans (lookup_of_nodup hg.nodup q)
          have hsome : (env'.cells.lookup x).isSome = true := by rw [e5]; exact cells_lookup (.inl q)
          obtain ⟨c, hcx⟩ := Option.isSome_iff_exists.mp hsome
          exact .inr ⟨k, c, hcx, by have := hc.cell x c hcx; rw [bindC_get _ hnd hmem k] at this; exact this⟩
    refine (hbody env' (fun b => C.off b ∨ Own env' b) (envOk_call hg e1 e3 e4)) (A.deeper env') _ ρ _ _ _ X (hA.deeper env') S₁ (wpM_mono hw1 (fun fl st₂ hq flow s₂ ρ₂ hfl S₂ e₂ => ?_) fun _ _ h => h) (fun _ _ _ _ _ _ r => r.elim)
    have S₂' : State (C.hide (Own env')) env' f.scope (slotsOf f.scope) s₂ ρ₂ st₂ := S₂
    have keep : ∀ b o', s.heap.get? b = some o' → b ∉ ρ → ¬ Nil b → KeepO o' s₂.heap b := fun b o' hb hn _ => e₂.keep b o' (g b o' hb) hn fun q => by rw [hnone (hown b q)] at hb; cases hb
    have hkeep2 : Ext Nil s ρ s₂ ρ₂ := by
      refine ⟨e₂.pre, fun b hb => ?_, keep, fun b o' hb => e₂.alive b o' (g b o' hb), e₂.gens, e₂.drawn, e₂.os⟩
      rcases e₂.fresh b hb with q | q
      · exact .inl q
      · exact .inr (hex.was q)
    have hval : ∃ val, flowVal flow = val ∧ VR C s₂.heap ρ₂ (flowV fl) val := by
      cases fl with
      | next => cases hfl; exact ⟨_, rfl, rfl⟩
      | ret v => obtain ⟨val, rfl, hr⟩ := hfl; exact ⟨_, rfl, VR.show (N := Own env') hr⟩
    obtain ⟨val, hv1, hv2⟩ := hval
    show Q (flowVal flow) s₂
    rw [hv1]
    exact hq val s₂ ρ₂ hv2 S₂'.inv.show hkeep2
theorem call_gen {C : Cx} {Φ : Shared → List Addr → St → Prop} (hΦ : ∀ s ρ st, Φ s ρ st → Inv C s.heap ρ st.obs) (hΦ2 : ∀ s ρ st s' ρ' obs', Φ s ρ st → Ext Nil s ρ s' ρ' → Inv C s'.heap ρ' obs' → Φ s' ρ' { st with obs := obs' })
    {d : Nat} {f : FnD} {a : Addr} {mb : M Flow} (hlim : C.base.NoLimit) (hf : FnOk C f a) (hg : FnGood f)
    (hbody : ∀ env g, EnvOk env f.scope → SndXs (C.at g) d env f.scope (slotsOf f.scope) f.body mb) {raw : Bool}
    (env : Env) (vs : List V) (vals : List Value) (s : Shared) (ρ : List Addr) (st : St) (hv : VRs C s.heap ρ vs vals) (A : Around) (Q : Value → Shared → Prop) (E : Value → Shared → Prop) (X : Str → St → Prop) (hA : AOk2 d A) (hS : Φ s ρ st)
    (hw : wpM (runFn raw f.params.length (slotsOf f.scope).length mb vs) st (fun v st' => ∀ val s' ρ', VR C s'.heap ρ' v val → Φ s' ρ' st' → Ext Nil s ρ s' ρ' → Q val s') X)
    (hX : ∀ c st' x s' ρ', X c st' → Raised C env s ρ c st' x s' ρ' → E x s') : codeAny (model C.prog C.w) A (.call (.ref a) ⟨vals, []⟩) (Back Q E) s := by
  have hI := hΦ s ρ st hS
  obtain ⟨hlen, hw1⟩ := wpM_runFn hw
  refine call_core hlim hf hg hbody hv hA hI hlen (wpM_mono hw1 (fun fl st₂ hq val s₂ ρ₂ hv2 I₂ e₂ => ?_) fun _ _ q => q)
  obtain ⟨v, o', hse, hq⟩ := hq
  cases raw with
  | true =>
    cases hse
    exact hq val s₂ ρ₂ hv2 (hΦ2 _ _ _ _ _ _ hS e₂ I₂) e₂
  | false =>
    obtain ⟨hk, hr, rfl⟩ := settle_some hse
    obtain ⟨t, rfl⟩ := e₂.pre
    have I₃ := hI.keeps I₂ hk
    have hx : Ext Nil s ρ s₂ ρ := ⟨⟨[], by simp⟩, fun b hb => .inl hb, e₂.keep, e₂.alive, e₂.gens, e₂.drawn, e₂.os⟩
    rw [← hI.len] at hr
    exact hq val s₂ ρ (res_ok I₂ 4 _ _ _ hr hv2) (hΦ2 _ _ _ _ _ _ hS hx I₃) hx
theorem call_snd {C : Cx} {d : Nat} {f : FnD} {a : Addr} {mb : M Flow} {raw : Bool} (hlim : C.base.NoLimit) (hf : FnOk C f a) (hg : FnGood f)
    (hbody : ∀ env g, EnvOk env f.scope → SndXs (C.at g) d env f.scope (slotsOf f.scope) f.body mb) : FSnd C d a (runFn raw f.params.length (slotsOf f.scope).length mb) := by
  intro env sc ns vs vals s ρ st hv A Q E X hA hS hw
  exact call_gen (Φ := fun s ρ st => State C env sc ns s ρ st) (fun _ _ _ h => h.inv) (fun s ρ st s' ρ' obs' h e I => ⟨I, h.frm.ext e⟩) hlim hf hg hbody env vs vals s ρ st hv A Q E X hA hS hw.1 hw.2
end Mine
set_option autoImplicit false
set_option linter.unusedVariables false
namespace Mine
open PySem PyProof.Rows

theorem wpM_chkObs {c : List (Nat × Ob)} {st : St} {Q : Unit → St → Prop} {X : Str → St → Prop} (h : wpM (chkObs c) st Q X) : chkOk c st.obs ∧ Q () st := by
  unfold wpM chkObs at h
  by_cases hc : chkOk c st.obs
  · simp only [if_pos hc] at h
    exact ⟨hc, h⟩
  · simp only [if_neg hc] at h

/- iterators; ks, kx: frozen things that they go through -/
structure IterOk (C : Cx) (d : Nat) (target : Expr) (items : List V) (chk : List (Nat × Ob)) (it : Value) (fp : List Addr) (P : Nat → Heap → Prop) (ρ₀ : List Addr) (ks : List V) (kx : List Value) : Prop where
  frame : ∀ (i : Nat) (h h' : Heap), P i h → (∀ b : Addr, b ∈ fp → ∀ o, h.get? b = some o → h'.get? b = some o) → P i h'
  there : ∀ (i : Nat) (h : Heap), P i h → ∀ b : Addr, b ∈ fp → ∃ o vs, h.get? b = some o ∧ o.data = .fields vs ∧ o.cls ≠ .type "frame" ∧ isVal o = false
  next : ∀ (f : Addr → Prop) (i : Nat) (A : Around) (s : Shared) (ρ : List Addr) (obs : List Ob) (Q : Value → Shared → Prop) (R : Option Value → Shared → Prop) (E : Value → Shared → Prop) (v : V), AOk d A → Inv (C.at f) s.heap ρ obs → VRs (C.at f) s.heap ρ ks kx → (∃ t, ρ = ρ₀ ++ t) → chkOk chk obs → P i s.heap → (∀ b : Addr, b ∈ fp → b ∉ ρ) → items[i]? = some v →
    (∀ val s₁, wpAny (model C.prog C.w) A (letOwnedTupleGo target it val) (fun _ s₂ => Q val s₂) E s₁ → R (some val) s₁) →
    (∀ val h' tk, VR (C.at f) h' ρ v val → P (i + 1) h' → (∀ b o, b ∉ fp → s.heap.get? b = some o → h'.get? b = some o) → Q val { s with heap := h', toks := tk }) →
    wpAny (model C.prog C.w) A (pyNext it) R E s
  done : ∀ (f : Addr → Prop) (i : Nat) (A : Around) (s : Shared) (ρ : List Addr) (obs : List Ob) (Q : Option Value → Shared → Prop) (E : Value → Shared → Prop), AOk d A → Inv (C.at f) s.heap ρ obs → VRs (C.at f) s.heap ρ ks kx → (∃ t, ρ = ρ₀ ++ t) → chkOk chk obs → P i s.heap → (∀ b : Addr, b ∈ fp → b ∉ ρ) → items[i]? = none →
    (∀ h' tk, (∀ b o, b ∉ fp → s.heap.get? b = some o → h'.get? b = some o) → Q none { s with heap := h', toks := tk }) → wpAny (model C.prog C.w) A (pyNext it) Q E s
  self : ∀ (i : Nat) (A : Around) (s : Shared) (Q : Value → Shared → Prop) (E : Value → Shared → Prop), P i s.heap → Q it s → wpAny (model C.prog C.w) A (pyIter it) Q E s

noncomputable def SrcSnd (C : Cx) (d : Nat) (env : Env) (sc : Scope) (ns : List Str) (target : Expr) (e : Expr) (m : M Src) : Prop :=
  ∀ (A : Around) (s : Shared) (ρ : List Addr) (st : St) (Q : Value → Shared → Prop) (E : Value → Shared → Prop) (X : Str → St → Prop), AOk d A → State C env sc ns s ρ st →
    wpM m st (fun src st' => ∀ it s' ρ' fp P ks kx, IterOk C d target src.items src.chk it fp P ρ' ks kx → VRs C s'.heap ρ' ks kx → P 0 s'.heap → (∀ b : Addr, b ∈ fp → b ∉ ρ' ∧ s.heap.get? b = none ∧ C.base.get? b = none) → State C env sc ns s' ρ' st' → Ext Nil s ρ s' ρ' → Q it s') X →
    (∀ c st' x s' ρ', X c st' → Raised C env s ρ c st' x s' ρ' → E x s') → wpAny (model C.prog C.w) A (eval e env) (fun x s₁ => wpAny (model C.prog C.w) A (pyIter x) Q E s₁) E s

/- ... with places that may change though they stand for values: they are off -/
structure IterZ (C : Cx) (d : Nat) (g : Addr → Prop) (target : Expr) (items : List V) (chk : List (Nat × Ob)) (it : Value) (fp : List Addr) (P : Nat → Heap → Prop) (ρ₀ : List Addr) (ks : List V) (kx : List Value) : Prop where
  frame : ∀ (i : Nat) (h h' : Heap), P i h → (∀ b : Addr, b ∈ fp → ∀ o, h.get? b = some o → h'.get? b = some o) → P i h'
  there : ∀ (i : Nat) (h : Heap), P i h → ∀ b : Addr, b ∈ fp → ∃ o, h.get? b = some o ∧ ((∃ vs, o.data = .fields vs) ∨ ∃ vs n, o.data = .seq vs n) ∧ o.cls ≠ .type "frame" ∧ (g b ∨ isVal o = false)
  next : ∀ (i : Nat) (A : Around) (s : Shared) (ρ : List Addr) (obs : List Ob) (Q : Value → Shared → Prop) (R : Option Value → Shared → Prop) (E : Value → Shared → Prop) (v : V), AOk d A → Inv (C.at g) s.heap ρ obs → VRs (C.at g) s.heap ρ ks kx → (∃ t, ρ = ρ₀ ++ t) → chkOk chk obs → P i s.heap → (∀ b : Addr, b ∈ fp → b ∉ ρ) → items[i]? = some v →
    (∀ val s₁, wpAny (model C.prog C.w) A (letOwnedTupleGo target it val) (fun _ s₂ => Q val s₂) E s₁ → R (some val) s₁) →
    (∀ val h' tk, VR (C.at g) h' ρ v val → P (i + 1) h' → (∀ b o, b ∉ fp → s.heap.get? b = some o → h'.get? b = some o) → Q val { s with heap := h', toks := tk }) →
    wpAny (model C.prog C.w) A (pyNext it) R E s
  done : ∀ (i : Nat) (A : Around) (s : Shared) (ρ : List Addr) (obs : List Ob) (Q : Option Value → Shared → Prop) (E : Value → Shared → Prop), AOk d A → Inv (C.at g) s.heap ρ obs → VRs (C.at g) s.heap ρ ks kx → (∃ t, ρ = ρ₀ ++ t) → chkOk chk obs → P i s.heap → (∀ b : Addr, b ∈ fp → b ∉ ρ) → items[i]? = none →
    (∀ h' tk, (∀ b o, b ∉ fp → s.heap.get? b = some o → h'.get? b = some o) → (∀ b, b ∈ fp → g b → ∃ o, h'.get? b = some o) → Q none { s with heap := h', toks := tk }) → wpAny (model C.prog C.w) A (pyNext it) Q E s
noncomputable def SrcZ (C : Cx) (d : Nat) (env : Env) (sc : Scope) (ns : List Str) (target : Expr) (e : Expr) (m : M Src) : Prop :=
  ∀ (A : Around) (s : Shared) (ρ : List Addr) (st : St) (Q : Value → Shared → Prop) (E : Value → Shared → Prop) (X : Str → St → Prop), AOk d A → State C env sc ns s ρ st →
    wpM m st (fun src st' => ∀ it s' ρ' fp P ks kx g, IterZ C d g target src.items src.chk it fp P ρ' ks kx → (∀ b, C.off b → g b) → VRs (C.at g) s'.heap ρ' ks kx → P 0 s'.heap → (∀ b : Addr, b ∈ fp → b ∉ ρ' ∧ s.heap.get? b = none ∧ C.base.get? b = none) → State (C.at g) env sc ns s' ρ' st' → Ext Nil s ρ s' ρ' → Q it s') X →
    (∀ c st' x s' ρ', X c st' → Raised C env s ρ c st' x s' ρ' → E x s') → wpAny (model C.prog C.w) A (eval e env) (fun x s₁ => wpAny (model C.prog C.w) A (pyIter x) Q E s₁) E s
theorem IterOk.z {C : Cx} {d : Nat} {target : Expr} {items : List V} {chk : List (Nat × Ob)} {it : Value} {fp : List Addr} {P : Nat → Heap → Prop} {ρ₀ : List Addr} {ks : List V} {kx : List Value} (h : IterOk C d target items chk it fp P ρ₀ ks kx) (hn : ∀ b, b ∈ fp → ¬ C.off b) : IterZ C d C.off target items chk it fp P ρ₀ ks kx where
  frame := h.frame
  there := fun i hh hp b hb => let ⟨o, vs, h1, h2, h3, h4⟩ := h.there i hh hp b hb; ⟨o, h1, .inl ⟨vs, h2⟩, h3, .inr h4⟩
  next := h.next C.off
  done := fun i A s ρ obs Q E hA hI hK hp hc hP hf hi hQ => h.done C.off i A s ρ obs Q E hA hI hK hp hc hP hf hi fun h' tk hk => hQ h' tk hk fun b hb q => absurd q (hn b hb)
theorem SrcSnd.z {C : Cx} {d : Nat} {env : Env} {sc : Scope} {ns : List Str} {target e : Expr} {m : M Src} (h : SrcSnd C d env sc ns target e m) : SrcZ C d env sc ns target e m := fun A s ρ st Q E X hA hS hw hX =>
  h A s ρ st Q E X hA hS (wpM_mono hw (fun src st' hq it s' ρ' fp P ks kx hI hK hP hfp S e => hq it s' ρ' fp P ks kx C.off (hI.z fun b hb => hS.inv.notOff (hfp b hb).2.1) (fun _ q => q) hK hP hfp S e) fun _ _ q => q) hX

section
variable {C : Cx} {d : Nat} {env : Env} {sc : Scope} {ns : List Str}
theorem Own.notFields {h : Heap} {ρ : List Addr} {vars : List (Option V)} (F : Frm C h ρ env sc ns vars) {b : Addr} {o : Obj} {vs : Array Value} (hb : h.get? b = some o) (hd : o.data = .fields vs) : ¬ Own env b := by
  intro ho
  rcases ho with rfl | ⟨x, hk, hc⟩
  · obtain ⟨m, o', es, ep, ho', hd', _⟩ := F.loc
    rw [hb] at ho'; cases ho'; rw [hd] at hd'; cases hd'
  · obtain ⟨c, v₀, q1, ⟨o', q2, q3⟩, _⟩ := F.cell x hk
    rw [hc] at q1; cases q1; rw [hb] at q2; cases q2; rw [hd] at q3; cases q3
theorem Own.notData {h : Heap} {ρ : List Addr} {vars : List (Option V)} (F : Frm C h ρ env sc ns vars) {b : Addr} {o : Obj} (hb : h.get? b = some o) (hd : (∃ vs, o.data = .fields vs) ∨ ∃ vs n, o.data = .seq vs n) : ¬ Own env b := by
  rcases hd with ⟨vs, hd⟩ | ⟨vs, n, hd⟩
  · exact Own.notFields F hb hd
  · intro ho
    rcases ho with rfl | ⟨x, hk, hc⟩
    · obtain ⟨m, o', es, ep, ho', hd', _⟩ := F.loc
      rw [hb] at ho'; cases ho'; rw [hd] at hd'; cases hd'
    · obtain ⟨c, v₀, q1, ⟨o', q2, q3⟩, _⟩ := F.cell x hk
      rw [hc] at q1; cases q1; rw [hb] at q2; cases q2; rw [hd] at q3; cases q3
/- less is off -/
theorem State.un {g : Addr → Prop} {s : Shared} {ρ : List Addr} {st : St} (hS : State (C.at g) env sc ns s ρ st) (hg : ∀ b, C.off b → g b) (ho : ∀ b, Own env b → C.off b) : State C env sc ns s ρ st ∧ Mv ρ.length (C.at g) s.heap ρ C s.heap ρ := by
  have mv : Mv ρ.length (C.at g) s.heap ρ C s.heap ρ := ⟨⟨C.off, rfl⟩, fun _ _ _ q => q, fun b o hb hf _ => ⟨hb, hf.1, fun q => hf.2 (hg b q)⟩⟩
  have I := hS.inv
  have F := hS.frm
  exact ⟨⟨⟨I.base, I.len, I.nodup, fun a ha => ⟨(I.new a ha).1, fun q => (I.new a ha).2 (hg a q)⟩, fun a q => I.hid a (hg a q), fun i o ho => let ⟨a, h1, h2⟩ := I.ob i o ho; ⟨a, h1, h2.move mv h2.lt rfl⟩⟩,
    F.len, F.loc, ho, F.locN, F.locB, F.cell, F.inj, fun x i v h1 h2 h3 => let ⟨val, hl, hv⟩ := F.vals x i v h1 h2 h3; ⟨val, hl, hv.move mv hv.lt⟩⟩, mv⟩
/- only things that are neither the ledger's nor the frame's have changed -/
theorem State.off {s : Shared} {ρ : List Addr} {st : St} (hS : State C env sc ns s ρ st) {F : Addr → Prop} {h' : Heap} {tk : Nat} (hk : ∀ b o, ¬ F b → s.heap.get? b = some o → h'.get? b = some o)
    (hfp : ∀ b : Addr, F b → b ∉ ρ ∧ C.base.get? b = none ∧ ¬ Own env b ∧ Aside C s.heap b ∧ (C.off b → ∃ o, h'.get? b = some o)) : State C env sc ns { s with heap := h', toks := tk } ρ st := by
  have eV : ExtV C s.heap ρ h' ρ := ⟨⟨[], by simp⟩, fun b o hb hn hv => ⟨hk b o (fun q => (hfp b q).2.2.2.1.no hb hn hv) hb, hn.1⟩⟩
  have loc : ∀ b, Own env b → ¬ F b := fun b ho q => (hfp b q).2.2.1 ho
  have cells : ∀ (x : Str) (c : Addr) (v : Option Value), env.kindOf x = some .cell → env.cells.lookup x = some c → s.heap.IsCell c v → h'.IsCell c v := fun x c v hkx hc ⟨oc, h1, h2⟩ => ⟨oc, hk c oc (loc c (.inr ⟨x, hkx, hc⟩)) h1, h2⟩
  have nsK : ∀ {m}, s.heap.Ns env.locals m → h'.Ns env.locals m := fun ⟨o, es, ep, h1, h2⟩ => ⟨o, es, ep, hk _ o (loc _ (.inl rfl)) h1, h2⟩
  have same : ∀ a : Addr, a ∈ ρ → h'.get? a = s.heap.get? a := fun a ha => by
    obtain ⟨o, ho⟩ := hS.inv.mem ha
    rw [ho]; exact hk a o (fun q => (hfp a q).1 ha) ho
  refine ⟨⟨fun b o hb => hk b o (fun q => by rw [(hfp b q).2.1] at hb; cases hb) (hS.inv.base b o hb), hS.inv.len, hS.inv.nodup, hS.inv.new, fun a q => ?_, fun i o ho => let ⟨a, h1, h2⟩ := hS.inv.ob i o ho; ⟨a, h1, h2.ext eV (same a (List.mem_of_getElem? h1))⟩⟩, hS.frm.len, hS.frm.loc.imp fun m hm => nsK hm, hS.frm.off, hS.frm.locN, hS.frm.locB, fun x hx => ?_, hS.frm.inj, fun x i v h1 h2 h3 => ?_⟩
  · obtain ⟨o, ho⟩ := hS.inv.hid a q
    by_cases hF : F a
    · exact (hfp a hF).2.2.2.2 q
    · exact ⟨o, hk a o hF ho⟩
  · obtain ⟨c, v₀, q1, q2, q3⟩ := hS.frm.cell x hx
    exact ⟨c, v₀, q1, cells x c v₀ hx q1 q2, q3⟩
  · obtain ⟨val, hl, hv⟩ := hS.frm.vals x i v h1 h2 h3
    refine ⟨val, ?_, hv.ext eV⟩
    rcases hl with ⟨k, m, hm, hx⟩ | ⟨k, c, q1, q2⟩
    · exact .inl ⟨k, m, nsK hm, hx⟩
    · exact .inr ⟨k, c, q1, cells x c _ k q1 q2⟩
theorem State.off1 {s : Shared} {ρ : List Addr} {st : St} (hS : State C env sc ns s ρ st) {D : Addr} {h' : Heap} {tk : Nat} (hk : ∀ b o, ¬ b = D → s.heap.get? b = some o → h'.get? b = some o) (h1 : D ∉ ρ) (h2 : C.base.get? D = none) (h3 : ¬ Own env D) (h4 : C.off D) (h5 : ∃ o, h'.get? D = some o) : State C env sc ns { s with heap := h', toks := tk } ρ st :=
  hS.off (F := fun b => b = D) hk fun b hb => by subst hb; exact ⟨h1, h2, h3, .inl h4, fun _ => h5⟩
theorem State.fp {s : Shared} {ρ : List Addr} {st : St} (hS : State C env sc ns s ρ st) {fp : List Addr} {h' : Heap} {tk : Nat} (hk : ∀ b o, b ∉ fp → s.heap.get? b = some o → h'.get? b = some o)
    (hfp : ∀ b : Addr, b ∈ fp → (b ∉ ρ ∧ ¬ C.off b) ∧ C.base.get? b = none ∧ ∃ o vs, s.heap.get? b = some o ∧ o.data = .fields vs ∧ o.cls ≠ .type "frame" ∧ isVal o = false) : State C env sc ns { s with heap := h', toks := tk } ρ st :=
  hS.off (F := fun b => b ∈ fp) hk fun b hb => by
    obtain ⟨h1, h2, o, vs, h3, h4, _, h5⟩ := hfp b hb
    exact ⟨h1.1, h2, Own.notFields hS.frm h3 h4, .inr fun o' ho' => by rw [h3] at ho'; cases ho'; exact h5, fun q => absurd q h1.2⟩
/- the second step touches only what is new since the first -/
theorem Ext.over {S T : Addr → Prop} {s s' s'' : Shared} {ρ ρ' ρ'' : List Addr} (x : Ext S s ρ s' ρ') (y : Ext T s' ρ' s'' ρ'') (hT : ∀ b, T b → s.heap.get? b = none) : Ext S s ρ s'' ρ'' :=
  ⟨by obtain ⟨t, rfl⟩ := x.pre; obtain ⟨u, rfl⟩ := y.pre; exact ⟨t ++ u, by rw [List.append_assoc]⟩,
   fun a ha => by
     rcases y.fresh a ha with q | q
     · exact x.fresh a q
     · exact .inr (x.was q),
   fun b o hb hn hS => (x.keep b o hb hn hS).trans fun o' ho' => y.keep b o' ho' (x.apart hb hn) fun q => (by rw [hT b q] at hb; cases hb),
   fun b o hb => let ⟨o', h'⟩ := x.alive b o hb; y.alive b o' h', y.gens.trans x.gens, y.drawn.trans x.drawn, y.os.trans x.os⟩
theorem Ext.one {s : Shared} {ρ : List Addr} {a : Addr} {h' : Heap} {tk : Nat} {o' : Obj} (hs : ∀ b o, b ≠ a → s.heap.get? b = some o → h'.get? b = some o) (ho : h'.get? a = some o') : Ext (fun b => b = a) s ρ { s with heap := h', toks := tk } ρ :=
  ⟨⟨[], by simp⟩, fun _ h => .inl h, fun b o hb _ hn => .inl (hs b o hn hb), fun b o hb => by
    by_cases q : b = a
    · subst q; exact ⟨o', ho⟩
    · exact ⟨o, hs b o q hb⟩, rfl, rfl, rfl⟩
theorem Ext.fp' {s : Shared} {ρ : List Addr} {fp : List Addr} {h' : Heap} {tk : Nat} (hs : ∀ b o, b ∉ fp → s.heap.get? b = some o → h'.get? b = some o) (ha : ∀ b : Addr, b ∈ fp → ∃ o', h'.get? b = some o') : Ext (fun b => b ∈ fp) s ρ { s with heap := h', toks := tk } ρ :=
  ⟨⟨[], by simp⟩, fun _ h => .inl h, fun b o hb _ hn => .inl (hs b o hn hb), fun b o hb => by
    by_cases q : b ∈ fp
    · exact ha b q
    · exact ⟨o, hs b o q hb⟩, rfl, rfl, rfl⟩
/- a frame that the steps leave alone -/
theorem Frm.extS {S : Addr → Prop} {s s' : Shared} {ρ ρ' : List Addr} {vars : List (Option V)} (F : Frm C s.heap ρ env sc ns vars) (x : Ext S s ρ s' ρ') (hO : ∀ b, S b → ¬ Own env b) (hv : ∀ b, S b → Aside C s.heap b) : Frm C s'.heap ρ' env sc ns vars := by
  obtain ⟨m, o, es, ep, ho, hd, hk⟩ := F.loc
  obtain ⟨o', ho', _, hd', _⟩ := (x.keep _ o ho F.locN fun q => hO _ q (.inl rfl)).data
  have cells : ∀ (y : Str) (c : Addr) (v : Option Value), env.kindOf y = some .cell → env.cells.lookup y = some c → s.heap.IsCell c v → c ∉ ρ → s'.heap.IsCell c v ∧ c ∉ ρ' := fun y c v hy hc' ⟨oc, hc, hcd⟩ hn =>
    let ⟨o₁, h1, _, h2, _⟩ := (x.keep c oc hc hn fun q => hO _ q (.inr ⟨y, hy, hc'⟩)).data; ⟨⟨o₁, h1, h2.trans hcd⟩, x.apart hc hn⟩
  refine ⟨F.len, ⟨m, o', es, ep, ho', hd'.trans hd, hk⟩, F.off, x.apart ho F.locN, F.locB, fun y hy => ?_, F.inj, fun y i v h1 h2 h3 => ?_⟩
  · obtain ⟨c, v₀, q1, q2, q3, q4⟩ := F.cell y hy
    exact ⟨c, v₀, q1, (cells y c v₀ hy q1 q2 q3).1, (cells y c v₀ hy q1 q2 q3).2, q4⟩
  · obtain ⟨val, hl, hvv⟩ := F.vals y i v h1 h2 h3
    refine ⟨val, ?_, hvv.ext (x.extV hv)⟩
    rcases hl with ⟨k, m₁, ⟨o₁, es₁, ep₁, ho₁, hd₁, hk₁⟩, hm⟩ | ⟨k, c, q1, q2⟩
    · rw [ho] at ho₁; cases ho₁
      exact .inl ⟨k, m₁, ⟨o', es₁, ep₁, ho', hd'.trans hd₁, hk₁⟩, hm⟩
    · obtain ⟨c', v₀, r1, _, r3, _⟩ := F.cell y k
      rw [q1] at r1; cases r1
      exact .inr ⟨k, c, q1, (cells y c _ k q1 q2 r3).1⟩
theorem Ext.fp {S : Addr → Prop} {s₀ s : Shared} {ρ₀ ρ : List Addr} (x : Ext S s₀ ρ₀ s ρ) {fp : List Addr} {h' : Heap} {tk : Nat} (hk : ∀ b o, b ∉ fp → s.heap.get? b = some o → h'.get? b = some o) (hfp : ∀ b : Addr, b ∈ fp → s₀.heap.get? b = none) :
    Ext S s₀ ρ₀ { s with heap := h', toks := tk } ρ := by
  have nf : ∀ b o, s₀.heap.get? b = some o → b ∉ fp := fun b o hb q => by rw [hfp b q] at hb; cases hb
  refine ⟨x.pre, x.fresh, fun b o hb hn hS => ?_, fun b o hb => ?_, x.gens, x.drawn, x.os⟩
  · rcases x.keep b o hb hn hS with q | ⟨hc, sl, q⟩
    · exact .inl (hk b o (nf b o hb) q)
    · exact .inr ⟨hc, sl, hk b _ (nf b o hb) q⟩
  · obtain ⟨o', ho'⟩ := x.alive b o hb
    exact ⟨o', hk b o' (nf b o hb) ho'⟩
theorem Ext.pre_trans {T : Addr → Prop} {s' s'' : Shared} {ρ ρ' ρ'' : List Addr} (h : ∃ t, ρ' = ρ ++ t) (y : Ext T s' ρ' s'' ρ'') : ∃ t, ρ'' = ρ ++ t := by
  obtain ⟨t, rfl⟩ := h
  obtain ⟨u, rfl⟩ := y.pre
  exact ⟨t ++ u, by rw [List.append_assoc]⟩

/- a for loop -/
noncomputable def ForI (C : Cx) (env : Env) (sc : Scope) (ns : List Str) (items : List V) (fp : List Addr) (P : Nat → Heap → Prop) (s₀ : Shared) (ρ₀ ρ₁ : List Addr) (ks : List V) (kx : List Value) (W : List V → St → Prop) (n : Nat) (s : Shared) : Prop :=
  ∃ i ρ st, n = items.length - i ∧ State C env sc ns s ρ st ∧ P i s.heap ∧ (∀ b : Addr, b ∈ fp → b ∉ ρ) ∧ Ext (Own env) s₀ ρ₀ s ρ ∧ (∃ t, ρ = ρ₁ ++ t) ∧ VRs C s.heap ρ ks kx ∧ W (items.drop i) st
theorem drop_of_none {α : Type} {l : List α} {i : Nat} (h : l[i]? = none) : l.drop i = [] := List.drop_eq_nil_of_le (by simpa using h)
theorem drop_of_some {α : Type} {l : List α} {i : Nat} {v : α} (h : l[i]? = some v) : l.drop i = v :: l.drop (i + 1) := by
  have hlt : i < l.length := (List.getElem?_eq_some_iff.mp h).1
  rw [List.drop_eq_getElem_cons hlt]
  congr 1
  rw [List.getElem?_eq_getElem hlt] at h; exact Option.some.inj h
theorem IterZ.keep {C₀ : Cx} {g : Addr → Prop} {target : Expr} {items : List V} {chk : List (Nat × Ob)} {it : Value} {fp : List Addr} {P : Nat → Heap → Prop} {ρ₀ : List Addr} {ks : List V} {kx : List Value} (hI : IterZ C₀ d g target items chk it fp P ρ₀ ks kx) {i : Nat} {s s' : Shared} {ρ ρ' : List Addr} {st : St} (hS : State C env sc ns s ρ st) (hP : P i s.heap)
    (hn : ∀ b : Addr, b ∈ fp → b ∉ ρ) (e : Ext (Own env) s ρ s' ρ') : P i s'.heap ∧ ∀ b : Addr, b ∈ fp → b ∉ ρ' := by
  refine ⟨hI.frame i _ _ hP fun b hb o ho => ?_, fun b hb => ?_⟩
  · obtain ⟨o', h1, h2, h3, h4⟩ := hI.there i _ hP b hb
    rw [ho] at h1; cases h1
    exact (e.keep b o ho (hn b hb) (Own.notData hS.frm ho h2)).val h3
  · obtain ⟨o', h1, _⟩ := hI.there i _ hP b hb
    exact e.apart h1 (hn b hb)
theorem snd_for (hE : EnvOk env sc) {t it : Expr} {b : List Stmt} {pos : Pos} {tg : Tg} {src : M Src} {mb : M Flow} (ht : TgtR sc ns t tg) (hs : SrcZ C d env sc ns t it src) (hb : ∀ g, SndXs (C.at g) d env sc ns b mb) (hset : ∀ x, foldedSetIterable it env x = pure x) :
    SndX C d env sc ns (.For t it b [] pos) (forM tg src mb) := .of fun A s₀ ρ₀ st₀ Q E X hA hS₀ hw => by
  refine wpAny_For (hs A s₀ ρ₀ st₀ _ E X hA hS₀ (wpM_mono (wpM_bind.mp hw.1) (fun sr st₁ hw₁ itv s₁ ρ₁ fp P ks kx g hI hg hK hP hfp S₁ e₁ => ?_) fun _ _ h => h) hw.2) hset
  have ho := hS₀.frm.off
  refine codeAny_forLoop_any (ForI (C.at g) env sc ns sr.items fp P s₀ ρ₀ ρ₁ ks kx fun l st => wpM (forItems tg mb sr.chk l) st (fun v st' => ∀ val s' ρ', FlR C s'.heap ρ' v val → State C env sc ns s' ρ' st' → Ext (Own env) s₀ ρ₀ s' ρ' → Q val s') X) ?_ _
    ⟨0, ρ₁, st₁, rfl, S₁, hP, fun b hb' => (hfp b hb').1, e₁.nil, ⟨[], by simp⟩, hK, by simpa using hw₁⟩
  intro n s hJ
  refine shut fun PP kk => ?_
  obtain ⟨i, ρ, st, hn, hS, hPi, hfpρ, e, hpre, hKi, hwi⟩ := hJ
  have fresh₀ : ∀ b : Addr, b ∈ fp → s₀.heap.get? b = none := fun b hb' => (hfp b hb').2.1
  have aside : ∀ b : Addr, b ∈ fp → Aside (C.at g) s.heap b := fun b hb' => by
    obtain ⟨o, h1, _, _, h4⟩ := hI.there i _ hPi b hb'
    exact h4.elim .inl fun q => .inr fun o' ho' => by rw [h1] at ho'; cases ho'; exact q
  have step : ∀ {h' : Heap} {tk : Nat}, (∀ b o, b ∉ fp → s.heap.get? b = some o → h'.get? b = some o) → (∀ b, b ∈ fp → g b → ∃ o, h'.get? b = some o) → State (C.at g) env sc ns { s with heap := h', toks := tk } ρ st := fun hk hal =>
    hS.off (F := fun b => b ∈ fp) hk fun b hb' => by
      obtain ⟨o, h1, h2, _, _⟩ := hI.there i _ hPi b hb'
      exact ⟨hfpρ b hb', (hfp b hb').2.2, Own.notData hS.frm h1 h2, aside b hb', hal b hb'⟩
  cases hit : sr.items[i]? with
  | none =>
    rw [drop_of_none hit] at hwi
    have hcq := wpM_chkObs (wpM_bind.mp hwi)
    have hq := hcq.2
    refine kk (hI.done i A s ρ st.obs _ _ hA hS.inv hKi hpre hcq.1 hPi hfpρ hit fun h' tk hk hal => wpAny_execs_nil ?_)
    exact hq _ _ _ rfl ((step hk hal).un hg ho).1 (e.fp hk fresh₀)
  | some v =>
    have hlt : i < sr.items.length := (List.getElem?_eq_some_iff.mp hit).1
    rw [drop_of_some hit] at hwi
    have hcq := wpM_chkObs (wpM_bind.mp hwi)
    have hq := hcq.2
    refine kk (hI.next i A s ρ st.obs _ _ _ v hA hS.inv hKi hpre hcq.1 hPi hfpρ hit (fun val s₁ h => h) fun val h' tk hv hP' hk => ?_)
    · have S₂ := step (tk := tk) hk fun b hb' _ => let ⟨o, h1, _⟩ := hI.there _ _ hP' b hb'; ⟨o, h1⟩
      have e₂ : Ext (Own env) s₀ ρ₀ { s with heap := h', toks := tk } ρ := e.fp hk fresh₀
      refine at_asg (C := C.at g) (S := Own env) hE (fun _ q => q) ht hv (fun _ _ _ _ q => q.own) A _ _ X hA S₂ (wpM_mono (wpM_bind.mp hq) (fun _ st₃ h₃ _ s₃ ρ₃ _ S₃ e₃ => ?_) fun _ _ h => h) (fun _ _ _ _ _ _ r => r.elim)
      refine hb g A s₃ ρ₃ st₃ _ _ X hA S₃ (wpM_mono (wpM_bind.mp h₃) (fun f st₄ h₄ fl s₄ ρ₄ hfl S₄ e₄ => ?_) fun _ _ h => h) (fun _ _ _ _ _ _ r => r.elim)
      cases f with
      | ret v =>
        obtain ⟨val, rfl, hr⟩ := hfl
        have SM := S₄.un hg ho
        exact h₄ _ _ _ ⟨val, rfl, VR.move SM.2 (VR.lt hr) hr⟩ SM.1 (e₂.trans (e₃.trans e₄))
      | next =>
        cases hfl
        have p12 := hI.keep S₂ hP' hfpρ (e₃.trans e₄)
        have eK : ExtV (C.at g) s.heap ρ h' ρ := ⟨⟨[], by simp⟩, fun b o hb' hn' hv' => ⟨hk b o (fun q => (aside b q).no hb' hn' hv') hb', hn'.1⟩⟩
        have hK₄ := (hKi.ext eK).ext ((e₃.trans e₄).extV (C := C.at g) (s := { s with heap := h', toks := tk }) fun b q => own_aside S₂.frm b q)
        exact ⟨sr.items.length - (i + 1), by omega, i + 1, ρ₄, st₄, rfl, S₄, p12.1, p12.2, e₂.trans (e₃.trans e₄), Ext.pre_trans hpre (e₃.trans e₄), hK₄, h₄⟩
/- a while loop -/
theorem snd_while {t : Expr} {b : List Stmt} {pos : Pos} {mt : M Bool} {mb : M Flow} (ht : SndB C d env sc ns t mt) (hb : SndXs C d env sc ns b mb) :
    SndX C d env sc ns (.While t b [] pos) (whileM mt mb) := .of fun A s₀ ρ₀ st₀ Q E X hA hS₀ hw => by
  refine wpAny_While (codeAny_whileLoop (fun n s => ∃ ρ st, State C env sc ns s ρ st ∧ Ext (Own env) s₀ ρ₀ s ρ ∧
    wpM (whileN mt mb n) st (fun v st' => ∀ (val : PySem.Flow) (s' : Shared) (ρ' : List Addr), FlR C s'.heap ρ' v val → State C env sc ns s' ρ' st' → Ext (Own env) s₀ ρ₀ s' ρ' → Q val s') X) ?_ fuelW ⟨ρ₀, st₀, hS₀, .refl .., hw.1⟩)
  rintro n s ⟨ρ, st, hS, e, hwi⟩
  cases n with
  | zero => exact hwi.elim
  | succ n =>
    refine ht A s ρ st _ _ X hA hS (wpM_mono (wpM_bind.mp hwi) (fun v st₁ h₁ val s₁ ρ₁ r₁ S₁ e₁ => ?_) fun _ _ h => h) (fun _ _ _ _ _ _ r => r.elim)
    cases r₁
    cases v with
    | false => exact wpAny_execs_nil (h₁ _ _ _ rfl S₁ (e.trans e₁.nil))
    | true =>
      refine hb A s₁ ρ₁ st₁ _ _ X hA S₁ (wpM_mono (wpM_bind.mp h₁) (fun f st₂ h₂ fl s₂ ρ₂ hfl S₂ e₂ => ?_) fun _ _ h => h) (fun _ _ _ _ _ _ r => r.elim)
      cases f with
      | ret v => obtain ⟨val, rfl, hr⟩ := hfl; exact h₂ _ _ _ ⟨val, rfl, hr⟩ S₂ (e.trans (e₁.nil.trans e₂))
      | next => cases hfl; exact ⟨n, Nat.lt_succ_self n, ρ₂, st₂, S₂, e.trans (e₁.nil.trans e₂), h₂⟩
end
end Mine
set_option autoImplicit false
set_option linter.unusedVariables false
namespace Mine
open PySem PyProof.Rows

noncomputable def tupleOwners : List String := ["enumerate", "zip", "dict_itemiterator", "dict_reverseitemiterator", "odict_iterator", "itertools.zip_longest", "itertools.pairwise"]
theorem owned_skip {M : Model} {A : Around} {E : Value → Shared → Prop} {s : Shared} {target : Expr} {I : Addr} {val : Value} {Q : Unit → Shared → Prop} {o : Obj} {n : String} (ho : s.heap.get? I = some o) (hc : o.cls = .type n) (hn : tupleOwners.contains n = false) (hQ : Q () s) :
    wpAny M A (letOwnedTupleGo target (.ref I) val) Q E s := by
  have key : wpAny M A (do
    let (.ref r, .ref a) := ((Value.ref I), val) | return
    let o ← load r
    match o.cls, o.data with
    | .type n, .fields vs =>
      if ["enumerate", "zip", "dict_itemiterator", "dict_reverseitemiterator", "odict_iterator", "itertools.zip_longest", "itertools.pairwise"].contains n && vs[0]? == some (rawInt a) then
        rule "for.unpacks-the-owned-tuple"
        updateField r 0 .none
    | _, _ => pure ()) Q E s := by
    cases val <;> first | exact wpAny_pure hQ | skip
    refine wpAny_bind (wpAny_load ho ?_)
    rw [hc]
    cases o.data <;> first | exact wpAny_pure hQ | skip
    have hn' : (["enumerate", "zip", "dict_itemiterator", "dict_reverseitemiterator", "odict_iterator", "itertools.zip_longest", "itertools.pairwise"] : List String).contains n = false := hn
    dsimp only
    rw [hn', Bool.false_and]
    exact wpAny_pure hQ
  cases target <;> first | exact key | exact wpAny_pure hQ

theorem iterObj {o : Obj} {vs : Array Value} {n : String} (hd : o.data = .fields vs) (hc : o.cls = .type n) (h1 : n ≠ "frame") (h2 : valTypes.contains n = false) : o.cls ≠ .type "frame" ∧ isVal o = false := by
  refine ⟨fun q => h1 (by rw [hc] at q; injection q), ?_⟩
  unfold isVal
  rw [hc]
  exact h2
theorem strIter_ne (x : Str) : strIterType x ≠ "frame" ∧ valTypes.contains (strIterType x) = false ∧ tupleOwners.contains (strIterType x) = false := by
  unfold strIterType
  split <;> exact ⟨by decide, by decide, by decide⟩
section
variable {C : Cx} {d : Nat}
theorem ExtV.one {h h' : Heap} {ρ : List Addr} {I : Addr} {o : Obj} (hI : h.get? I = some o) (hv : isVal o = false) (hs : ∀ b o, b ≠ I → h.get? b = some o → h'.get? b = some o) : ExtV C h ρ h' ρ :=
  ⟨⟨[], by simp⟩, fun b o' hb hn hv' => ⟨hs b o' (fun q => by subst q; rw [hI] at hb; cases hb; rw [hv] at hv'; cases hv') hb, hn.1⟩⟩

/- the list at a place of the ledger -/
theorem Inv.list {h : Heap} {ρ : List Addr} {obs : List Ob} (I : Inv C h ρ obs) {r : Nat} {xs : List V} {a : Addr} (ho : obs[r]? = some (.list xs)) (ha : ρ[r]? = some a) : ∃ items n, h.get? a = some { cls := .type "list", data := .seq items n } ∧ VRs C h ρ xs items.toList := by
  obtain ⟨a', h1, h2⟩ := I.ob r _ ho
  rw [ha] at h1; cases h1
  exact h2
theorem toList_get {α : Type} {a : Array α} {i : Nat} : a.toList[i]? = a[i]? := by simp
theorem VRs.getA {h : Heap} {ρ : List Addr} {vs : List V} {items : Array Value} {i : Nat} {v : V} (r : VRs C h ρ vs items.toList) (hv : vs[i]? = some v) : ∃ x, items[i]? = some x ∧ VR C h ρ v x := by
  obtain ⟨x, h1, h2⟩ := r.get hv
  exact ⟨x, by rw [← toList_get]; exact h1, h2⟩
theorem VRs.noneA {h : Heap} {ρ : List Addr} {vs : List V} {items : Array Value} {i : Nat} (r : VRs C h ρ vs items.toList) (hv : vs[i]? = none) : items[i]? = none := by
  have := r.len
  rw [← toList_get]
  simp at hv ⊢
  simp at this
  omega

/- iterators of one thing -/
theorem mem_one {a b : Addr} (h : a ∈ [b]) : a = b := List.mem_singleton.mp h
theorem li_obj {h : Heap} {I ax : Addr} {i : Nat} (hp : h.IsListIter I ax i) : ∃ o vs, h.get? I = some o ∧ o.data = .fields vs ∧ o.cls ≠ .type "frame" ∧ isVal o = false := by
  obtain ⟨o, ho, hc, hd⟩ := hp
  exact ⟨o, _, ho, hd, iterObj hd hc (by decide) (by decide)⟩
theorem li_next {f : Addr → Prop} {target : Expr} {A : Around} {s : Shared} {ρ : List Addr} {I ax : Addr} {i : Nat} {xs : List V} {items : Array Value} {v : V} {Q : Value → Shared → Prop} {R : Option Value → Shared → Prop} {E : Value → Shared → Prop}
    (hl : s.heap.IsList ax items) (hvs : VRs (C.at f) s.heap ρ xs items.toList) (hp : s.heap.IsListIter I ax i) (hv : xs[i]? = some v)
    (hR : ∀ val s₁, wpAny (model C.prog C.w) A (letOwnedTupleGo target (.ref I) val) (fun _ s₂ => Q val s₂) E s₁ → R (some val) s₁)
    (hQ : ∀ val h' tk, VR (C.at f) h' ρ v val → h'.IsListIter I ax (i + 1) → (∀ b o, b ∉ [I] → s.heap.get? b = some o → h'.get? b = some o) → Q val { s with heap := h', toks := tk }) : wpAny (model C.prog C.w) A (pyNext (.ref I)) R E s := by
  obtain ⟨x, hx, hxv⟩ := hvs.getA hv
  obtain ⟨oI, vI, hoI, hdI, _, hvI⟩ := li_obj hp
  refine wpAny_pyNext_list_item hp hl hx fun h' hp' hs => hR _ _ ?_
  obtain ⟨o', ho', hc', hd'⟩ := id hp'
  exact owned_skip ho' hc' (by decide) (hQ x h' s.toks (hxv.ext (.one hoI hvI fun b o hb e => (hs.2 b hb).trans e)) hp' fun b o hb e => (hs.2 b (fun q => hb (by simp [q]))).trans e)
theorem iter_list {target : Expr} {ρ₀ : List Addr} {I ax : Addr} {r : Nat} {xs : List V} (hr : ρ₀[r]? = some ax) : IterOk C d target xs [(r, .list xs)] (.ref I) [I] (fun i h => h.IsListIter I ax i) ρ₀ [] [] where
  frame := fun i h h' hp hk => hp.at fun o e => hk I (by simp) o e
  there := fun i h hp b hb => by cases mem_one hb; exact li_obj hp
  next := fun f i A s ρ obs Q R E v hA hInv hK hpre hchk hp hn hv hR hQ => by
    obtain ⟨t, rfl⟩ := hpre
    have hax : (ρ₀ ++ t)[r]? = some ax := by rw [List.getElem?_append_left (List.getElem?_eq_some_iff.mp hr).1]; exact hr
    obtain ⟨items, n, hl, hvs⟩ := hInv.list (hchk (r, .list xs) (by simp)) hax
    exact li_next ⟨_, hl, rfl, n, rfl⟩ hvs hp hv hR hQ
  done := fun f i A s ρ obs Q E hA hInv hK hpre hchk hp hn hv hQ => by
    obtain ⟨t, rfl⟩ := hpre
    have hax : (ρ₀ ++ t)[r]? = some ax := by rw [List.getElem?_append_left (List.getElem?_eq_some_iff.mp hr).1]; exact hr
    obtain ⟨items, n, hl, hvs⟩ := hInv.list (hchk (r, .list xs) (by simp)) hax
    exact wpAny_pyNext_list_end hA.handled hp ⟨_, hl, rfl, n, rfl⟩ (hvs.noneA hv) fun h' hx => hQ h' s.toks fun b o hb e => hx b o (fun q => hb (by simp [q])) e
  self := fun i A s Q E hp hQ => wpAny_pyIter_listiter hp hQ
theorem vr_flist {h : Heap} {ρ : List Addr} {xs : List V} {ax : Addr} (r : VR C h ρ (.flist xs) (.ref ax)) : ∃ items, h.IsList ax items ∧ VRs C h ρ xs items.toList := by
  simp only [vR0, vR1, vR2, vR3, vR4, vR5, vR6, vR7, vR8, vR9, vR10, vR11, vR12, vR13] at r
  obtain ⟨a, items, n, q, hl, _, hv⟩ := r
  cases q
  exact ⟨items, ⟨_, hl, rfl, n, rfl⟩, hv⟩
theorem vrs_head {h : Heap} {ρ : List Addr} {v : V} {vs : List V} {x : Value} {xs : List Value} (r : VRs C h ρ (v :: vs) (x :: xs)) : VR C h ρ v x ∧ VRs C h ρ vs xs := by
  simp only [vS0, vS1] at r
  obtain ⟨_, _, q, h1, h2⟩ := r
  cases q
  exact ⟨h1, h2⟩
theorem iter_flist {target : Expr} {ρ₀ : List Addr} {I ax : Addr} {xs : List V} : IterOk C d target xs [] (.ref I) [I] (fun i h => h.IsListIter I ax i) ρ₀ [.flist xs] [.ref ax] where
  frame := fun i h h' hp hk => hp.at fun o e => hk I (by simp) o e
  there := fun i h hp b hb => by cases mem_one hb; exact li_obj hp
  next := fun f i A s ρ obs Q R E v hA hInv hK hpre hchk hp hn hv hR hQ => by
    obtain ⟨items, hl, hvs⟩ := vr_flist (vrs_head hK).1
    exact li_next hl hvs hp hv hR hQ
  done := fun f i A s ρ obs Q E hA hInv hK hpre hchk hp hn hv hQ => by
    obtain ⟨items, hl, hvs⟩ := vr_flist (vrs_head hK).1
    exact wpAny_pyNext_list_end hA.handled hp hl (hvs.noneA hv) fun h' hx => hQ h' s.toks fun b o hb e => hx b o (fun q => hb (by simp [q])) e
  self := fun i A s Q E hp hQ => wpAny_pyIter_listiter hp hQ
theorem rangeL_get {lo hi : Int} {i : Nat} {v : V} (h : ((rangeL lo hi).map V.int)[i]? = some v) : v = .int (lo + i) ∧ (i : Int) < hi - lo := by
  unfold rangeL at h
  rw [List.getElem?_map, List.getElem?_map] at h
  cases q : (List.range (hi - lo).toNat)[i]? with
  | none => rw [q] at h; cases h
  | some k =>
    rw [q] at h
    obtain ⟨h1, h2⟩ := List.getElem?_eq_some_iff.mp q
    simp at h1 h2
    subst h2
    simp at h
    exact ⟨h.symm, by omega⟩
theorem rangeL_none {lo hi : Int} {i : Nat} (h : ((rangeL lo hi).map V.int)[i]? = none) : hi - lo ≤ i := by
  unfold rangeL at h
  simp at h
  omega
theorem iter_range {target : Expr} {ρ₀ : List Addr} {I : Addr} {lo hi : Int} : IterOk C d target ((rangeL lo hi).map .int) [] (.ref I) [I] (fun i h => ∃ left, left = max (hi - lo) 0 - i ∧ IsRangeIter h I (lo + i) left 1) ρ₀ [] [] where
  frame := fun i h h' hp hk => let ⟨l, h1, h2⟩ := hp; ⟨l, h1, hk I (by simp) _ h2⟩
  there := fun i h hp b hb => by
    cases mem_one hb
    obtain ⟨l, h1, h2⟩ := hp
    exact ⟨_, _, h2, rfl, iterObj (n := "range_iterator") rfl rfl (by decide) (by decide)⟩
  next := fun f i A s ρ obs Q R E v hA hInv hK hpre hchk hp hn hv hR hQ => by
    obtain ⟨rfl, hlt⟩ := rangeL_get hv
    obtain ⟨l, h1, h2⟩ := hp
    refine wpAny_pyNext_range_item h2 (by omega) fun h' hp' hs => hR _ _ ?_
    refine owned_skip hp' rfl (by decide) (hQ _ h' (s.toks + 1) (by simp only [vR0, vR1, vR2, vR3, vR4, vR5, vR6, vR7, vR8, vR9, vR10, vR11, vR12, vR13]; exact ⟨_, rfl⟩) ⟨l - 1, by omega, ?_⟩ fun b o hb e => (hs.2 b (fun q => hb (by simp [q]))).trans e)
    have : lo + ((i + 1 : Nat) : Int) = lo + i + 1 := by omega
    rw [this]; exact hp'
  done := fun f i A s ρ obs Q E hA hInv hK hpre hchk hp hn hv hQ => by
    have := rangeL_none hv
    obtain ⟨l, h1, h2⟩ := hp
    exact wpAny_pyNext_range_end hA.handled h2 (by omega) fun h' hx => hQ h' s.toks fun b o hb e => hx b o (fun q => hb (by simp [q])) e
  self := fun i A s Q E hp hQ => let ⟨l, h1, h2⟩ := hp; wpAny_pyIter_rangeiter h2 hQ
theorem chars_get {s : List Nat} {i : Nat} {v : V} (h : (charsOf s)[i]? = some v) : ∃ c, s[i]? = some c ∧ v = .str [c] := by
  unfold charsOf at h
  rw [List.getElem?_map] at h
  cases q : s[i]? with
  | none => rw [q] at h; cases h
  | some c => rw [q] at h; cases h; exact ⟨c, rfl, rfl⟩
theorem chars_none {s : List Nat} {i : Nat} (h : (charsOf s)[i]? = none) : s[i]? = none := by
  unfold charsOf at h
  simpa using h
theorem iter_str {target : Expr} {ρ₀ : List Addr} {I : Addr} {x : List Nat} {t : Tok} : IterOk C d target (charsOf x) [] (.ref I) [I] (fun i h => h.IsStrIter I (strIterType ⟨x.toArray⟩) ⟨x.toArray⟩ t i) ρ₀ [] [] where
  frame := fun i h h' hp hk => let ⟨o, h1, h2⟩ := hp; ⟨o, hk I (by simp) _ h1, h2⟩
  there := fun i h hp b hb => by
    cases mem_one hb
    obtain ⟨o, ho, hc, hd⟩ := hp
    exact ⟨o, _, ho, hd, iterObj hd hc (strIter_ne _).1 (strIter_ne _).2.1⟩
  next := fun f i A s ρ obs Q R E v hA hInv hK hpre hchk hp hn hv hR hQ => by
    obtain ⟨c, hc, rfl⟩ := chars_get hv
    have hc' : (⟨x.toArray⟩ : Str).cps[i]? = some c := by simpa using hc
    have fin : ∀ h', h'.IsStrIter I (strIterType ⟨x.toArray⟩) ⟨x.toArray⟩ t (i + 1) → Heap.SameBut I s.heap h' → R (some (.str ⟨#[c]⟩ s.toks)) { s with heap := h', toks := s.toks + 1 } := fun h' hp' hs => hR _ _ (by
      obtain ⟨o', ho', hc', hd'⟩ := id hp'
      refine owned_skip ho' hc' (strIter_ne _).2.2 (hQ _ h' (s.toks + 1) (by simp only [vR0, vR1, vR2, vR3, vR4, vR5, vR6, vR7, vR8, vR9, vR10, vR11, vR12, vR13]; exact ⟨_, rfl⟩) hp' fun b o hb e => (hs.2 b (fun q => hb (by simp [q]))).trans e))
    unfold strIterType at hp fin
    split at hp
    · rename_i ha; rw [if_pos ha] at fin; exact wpAny_pyNext_ascii_item hp hc' fin
    · rename_i ha; rw [if_neg ha] at fin; exact wpAny_pyNext_wide_item hp hc' fin
  done := fun f i A s ρ obs Q E hA hInv hK hpre hchk hp hn hv hQ => by
    have hc' : (⟨x.toArray⟩ : Str).cps[i]? = none := by simpa using chars_none hv
    unfold strIterType at hp
    split at hp
    · exact wpAny_pyNext_ascii_end hA.handled hp hc' fun h' hx => hQ h' s.toks fun b o hb e => hx b o (fun q => hb (by simp [q])) e
    · exact wpAny_pyNext_wide_end hA.handled hp hc' fun h' hx => hQ h' s.toks fun b o hb e => hx b o (fun q => hb (by simp [q])) e
  self := fun i A s Q E hp hQ => by
    unfold strIterType at hp
    split at hp
    · exact wpAny_pyIter_striter_ascii hp hQ
    · exact wpAny_pyIter_striter_wide hp hQ
end
end Mine
set_option autoImplicit false
set_option linter.unusedVariables false
namespace Mine
open PySem PyProof.Rows

theorem compLoop_any {prog : Program} {w : World} {A : Around} {R : Result → Shared → Prop} {s : Shared} {elt target iter : Expr} {ifs : List Expr} {scope : Scope} {pos : Pos} {it acc : Value} {env : Env} (I : Nat → Shared → Prop)
    (turn : ∀ n s, I n s → wpAny (model prog w) A (pyNext it) (fun r s₁ => match r with
      | none => R (.ok .next) s₁
      | some v => wpAny (model prog w) A (letOwnedTupleGo target it v) (fun _ s₁' => wpAny (model prog w) A (assign target env v) (fun _ s₂ =>
          wpAny (model prog w) A (forIn ifs true fun c r => if r = true then do let ok ← isTrue c env (eval c env); pure (ForInStep.yield ok) else pure (ForInStep.yield r)) (fun ok s₃ =>
            if ok = true then wpAny (model prog w) A (eval elt env) (fun x s₄ =>
              wpAny (model prog w) A (call (.builtin "list.append") [acc, x]) (fun _ s₅ => ∃ m, m < n ∧ I m s₅) (notedBy (model prog w) A env fun e s' => R (.error e) s') s₄) (notedBy (model prog w) A env fun e s' => R (.error e) s') s₃
            else ∃ m, m < n ∧ I m s₃) (notedBy (model prog w) A env fun e s' => R (.error e) s') s₂) (notedBy (model prog w) A env fun e s' => R (.error e) s') s₁') (notedBy (model prog w) A env fun e s' => R (.error e) s') s₁) (notedBy (model prog w) A env fun e s' => R (.error e) s') s)
    (n : Nat) (h : I n s) :
    codeAny (model prog w) A (.compLoop (.ListComp elt [⟨target, iter, ifs, 0⟩] scope pos) 0 it acc env) R s := by
  refine codeAny_loop rfl I (fun n s hI => ?_) n h
  show wpAny _ A ((compTurn (.ListComp elt [⟨target, iter, ifs, 0⟩] scope pos) 0 it acc env).onRaise (fun x => do noteFrame x env; theTreesLotGoes x)) _ _ s
  refine wpAny_noted ?_
  rw [compTurn_list]
  refine wpAny_bind (wpAny_standAt (wpAny_bind (wpAny_mono (turn n s hI) (fun r s₁ h₁ => ?_) fun _ _ h' => h')))
  cases r with
  | none => exact wpAny_pure h₁
  | some v =>
    refine wpAny_bind (wpAny_mono h₁ (fun _ s₁' h₁' => ?_) fun _ _ h' => h')
    refine wpAny_bind (wpAny_mono h₁' (fun _ s₂ h₂ => wpAny_bind (wpAny_mono h₂ (fun ok s₃ h₃ => ?_) fun _ _ h' => h')) fun _ _ h' => h')
    cases ok with
    | false => exact wpAny_pure ⟨rfl, h₃⟩
    | true =>
      exact wpAny_bind (wpAny_bind (wpAny_mono h₃ (fun x s₄ h₄ => wpAny_bind (wpAny_mono h₄ (fun _ s₅ h₅ => wpAny_pure (wpAny_pure ⟨rfl, h₅⟩)) fun _ _ h' => h')) fun _ _ h' => h'))
/- the tests of a comprehension: none or one -/
theorem snd_tests {C : Cx} {d : Nat} {env : Env} {sc : Scope} {ns : List Str} : ∀ {ifs : List Expr} {ms : List (M Bool)}, ifs.length ≤ 1 → All2 (SndB C d env sc ns) ifs ms →
    Snd C d env sc ns Bl Nil (forIn ifs true fun c r => if r = true then do let ok ← isTrue c env (eval c env); pure (ForInStep.yield ok) else pure (ForInStep.yield r)) (andM ms)
  | [], [], _, _ => .of fun A s ρ st Q E X hA hS hw => wpAny_pure (hw.1 _ _ _ rfl hS (.refl ..))
  | [e], [m], _, h => .of fun A s ρ st Q E X hA hS hw => wpAny_tests_one (h.1.then hA hS hw fun b b' s₁ ρ₁ st₁ r₁ S₁ e₁ hw₁ => by
      cases r₁
      cases b
      · exact hw₁.1 _ _ _ rfl S₁ (.refl ..)
      · exact hw₁.1 _ _ _ rfl S₁ (.refl ..))
  | _ :: _ :: _, _, h, _ => by simp at h
  | [], _ :: _, _, h => h.elim
  | [_], [], _, h => h.elim
  | [_], _ :: _ :: _, _, h => h.2.elim

/- the cells that a block takes over -/
noncomputable def freeCells (env : Env) : List (Str × NameKind) → List (Str × Addr) → List (Str × Addr)
  | [], acc => acc
  | (n, k) :: r, acc => freeCells env r (if k == .free then (n, (env.cells.lookup n).getD 0) :: acc else acc)
theorem closure_go {env : Env} (f : Str × NameKind → List (Str × Addr) → Sem (ForInStep (List (Str × Addr))))
    (hf : ∀ n k acc, f (n, k) acc = if k == .free then (do let c ← cellOf env n; pure (.yield ((n, c) :: acc))) else pure (.yield acc)) :
    ∀ (l : List (Str × NameKind)) (acc : List (Str × Addr)), (∀ p ∈ l, p.2 = .free → (env.cells.lookup p.1).isSome = true) → forIn l acc f = (pure (freeCells env l acc) : Sem _)
  | [], acc, _ => rfl
  | (n, k) :: r, acc, h => by
    rw [List.forIn_cons, hf]
    have ih := closure_go f hf r
    by_cases hk : (k == NameKind.free) = true
    · rw [if_pos hk]
      obtain ⟨c, hc⟩ := Option.isSome_iff_exists.mp (h (n, k) (.head _) (eq_of_beq hk))
      have hc' : cellOf env n = pure c := by unfold cellOf; rw [hc]
      rw [hc']
      show forIn r ((n, c) :: acc) f = _
      rw [ih _ fun p hp => h p (.tail _ hp)]
      have e : freeCells env ((n, k) :: r) acc = freeCells env r ((n, c) :: acc) := by
        show freeCells env r (if (k == NameKind.free) = true then (n, (env.cells.lookup n).getD 0) :: acc else acc) = _
        rw [if_pos hk, show env.cells.lookup n = some c from hc]; rfl
      rw [e]
    · rw [if_neg hk]
      show forIn r acc f = _
      rw [ih _ fun p hp => h p (.tail _ hp)]
      have e : freeCells env ((n, k) :: r) acc = freeCells env r acc := by
        show freeCells env r (if (k == NameKind.free) = true then (n, (env.cells.lookup n).getD 0) :: acc else acc) = _
        rw [if_neg hk]
      rw [e]
theorem closure_eq {env : Env} {scope : Scope} (h : ∀ p ∈ scope.names, p.2 = .free → (env.cells.lookup p.1).isSome = true) : closureFor scope env = pure (freeCells env scope.names []) := by
  unfold closureFor
  dsimp only
  rw [closure_go (env := env) _ (fun n k acc => ?_) scope.names [] h]
  · rfl
  · cases hk : k == NameKind.free <;> simp
theorem freeCells_lookup {env : Env} {x : Str} : ∀ {l : List (Str × NameKind)} {acc : List (Str × Addr)}, (l.map (·.1)).Nodup → (∀ p ∈ l, p.2 = .free → (env.cells.lookup p.1).isSome = true) →
    ((x, NameKind.free) ∈ l → (freeCells env l acc).lookup x = env.cells.lookup x) ∧ (x ∉ l.map (·.1) → (freeCells env l acc).lookup x = acc.lookup x)
  | [], acc, _, _ => ⟨fun h => (nomatch h), fun _ => rfl⟩
  | (n, k) :: r, acc, hn, h => by
    have hn' := List.nodup_cons.mp hn
    have ih := @freeCells_lookup env x r (if k == .free then (n, (env.cells.lookup n).getD 0) :: acc else acc) hn'.2 (fun p hp => h p (.tail _ hp))
    refine ⟨fun hm => ?_, fun hx => ?_⟩
    · show (freeCells env r (if k == .free then (n, (env.cells.lookup n).getD 0) :: acc else acc)).lookup x = _
      cases hm with
      | head =>
        rw [ih.2 hn'.1]
        obtain ⟨c, hc⟩ := Option.isSome_iff_exists.mp (h (x, NameKind.free) (.head _) rfl)
        have hc' : env.cells.lookup x = some c := hc
        rw [if_pos (by rfl), List.lookup_cons, hc']; simp
      | tail _ hm => exact ih.1 hm
    · show (freeCells env r (if k == .free then (n, (env.cells.lookup n).getD 0) :: acc else acc)).lookup x = _
      have hx1 : x ≠ n := fun q => hx (by rw [q]; exact .head _)
      rw [ih.2 fun q => hx (.tail _ q)]
      by_cases hk : (k == NameKind.free) = true
      · rw [if_pos hk, List.lookup_cons]
        have : (x == n) = false := by simpa using hx1
        rw [this]
      · rw [if_neg hk]

/- a comprehension's block, as seen from the frame -/
structure CompGood (sc : Scope) (ns : List Str) (cs : Scope) (xs : List Str) : Prop where
  kind : cs.kind = .function
  nodup : (cs.names.map (·.1)).Nodup
  cellx : ∀ p ∈ cs.names, p.2 = .cell → p.1 ∈ xs
  dbg : ∀ p ∈ cs.names, (p.1 == ("__debug__" : Str)) = false
  loc : ∀ p ∈ cs.names, p.2 = .local → p.1 ∈ xs ∨ p.1 ∉ ns
  free : ∀ p ∈ cs.names, p.2 = .free → sc.names.lookup p.1 = some .cell ∨ sc.names.lookup p.1 = some .free
  own : ∀ x ∈ xs, cs.names.lookup x = some .local ∨ cs.names.lookup x = some .cell
theorem comp_good {sc : Scope} {ns : List Str} {cs : Scope} {xs : List Str} (h : compOk sc ns cs xs = true) : CompGood sc ns cs xs := by
  simp only [compOk, Bool.and_eq_true, beq_iff_eq, decide_eq_true_eq, List.all_eq_true, bne_iff_ne, ne_eq, Bool.not_eq_true', Bool.or_eq_true, List.contains_iff_mem] at h
  obtain ⟨⟨⟨h1, h2⟩, h3⟩, h4⟩ := h
  refine ⟨h1, h2, fun p hp hc => (h3 p hp).1.1.1.resolve_left fun q => q hc, fun p hp => (h3 p hp).1.1.2, fun p hp hl => ?_, fun p hp hf => ?_, h4⟩
  · rcases (h3 p hp).1.2 with (q | q) | q
    · exact absurd hl q
    · exact .inl q
    · exact .inr (by simpa using q)
  · rcases (h3 p hp).2 with q | q
    · exact absurd hf q
    · exact q
theorem lookup_map_snd {α β γ : Type} [BEq α] [LawfulBEq α] {g : α → β → γ} {x : α} : ∀ {l : List (α × β)}, (l.map fun p => (p.1, g p.1 p.2)).lookup x = (l.lookup x).map (g x)
  | [] => rfl
  | (y, b) :: r => by
    rw [List.map_cons, List.lookup_cons, List.lookup_cons]
    cases q : x == y with
    | true => have := eq_of_beq q; subst this; rfl
    | false => exact lookup_map_snd
theorem relabel_lookup {scope : Scope} {env : Env} (x : Str) : (relabel scope env).names.lookup x = (scope.names.lookup x).map fun k => if (k == .free && env.scope.kind == .function && env.kindOf x == some .cell) = true then .cell else k := by
  have e : (relabel scope env).names = scope.names.map fun p => (p.1, if (p.2 == .free && env.scope.kind == .function && env.kindOf p.1 == some .cell) = true then NameKind.cell else p.2) := by
    unfold relabel
    dsimp only
    refine List.map_congr_left fun p _ => ?_
    obtain ⟨n, k⟩ := p
    dsimp only
    split <;> rfl
  rw [e, lookup_map_snd (g := fun n k => if (k == .free && env.scope.kind == .function && env.kindOf n == some .cell) = true then NameKind.cell else k)]
section
variable {env : Env} {sc cs : Scope} {ns xs : List Str}
theorem compEnv_ok (hE : EnvOk env sc) (hg : CompGood sc ns cs xs) {cl : List (Str × Addr)} {L : Addr} : EnvOk (compEnvC cs cl L env) cs where
  kind := hg.kind
  glob := hE.glob
  blt := hE.blt
  gl := fun x hx => by
    show (relabel cs env).names.lookup x = _
    rw [relabel_lookup, eq_of_beq hx]; rfl
  lo := fun x hx => by
    show (relabel cs env).names.lookup x = _
    rw [relabel_lookup, hx]; rfl
  ce := fun x hx => by
    show (relabel cs env).names.lookup x = _
    rw [relabel_lookup]
    rcases hx with hx | hx
    · rw [hx]; rfl
    · rw [hx]
      have := hE.ce x (hg.free _ (lookup_mem hx) rfl)
      simp [hE.kind, this]
  dbg := fun x hx => by
    have : ∃ k, cs.names.lookup x = some k := by
      rcases hx with hx | hx
      · exact ⟨_, eq_of_beq hx⟩
      · unfold isVar at hx
        split at hx <;> first | exact ⟨_, by assumption⟩ | cases hx
    obtain ⟨k, hk⟩ := this
    exact hg.dbg _ (lookup_mem hk)
theorem compEnv_cell (hE : EnvOk env sc) (hg : CompGood sc ns cs xs) {cl : List (Str × Addr)} {L : Addr} {x : Str} (h : (compEnvC cs cl L env).kindOf x = some .cell) : ((x, NameKind.free) ∈ cs.names ∧ env.kindOf x = some .cell) ∨ (x, NameKind.cell) ∈ cs.names := by
  have h' : (relabel cs env).names.lookup x = some .cell := h
  rw [relabel_lookup] at h'
  cases q : cs.names.lookup x with
  | none => rw [q] at h'; cases h'
  | some k =>
    rw [q] at h'
    have hm := lookup_mem q
    cases k with
    | free => exact .inl ⟨hm, hE.ce x (hg.free _ hm rfl)⟩
    | cell => exact .inr hm
    | «local» => simp at h'
    | globalExplicit => simp at h'
    | globalImplicit => simp at h'
end
theorem idxLast_append_not : ∀ {ns xs : List Str} {x : Str}, x ∉ xs → idxLast (ns ++ xs) x = idxLast ns x
  | [], xs, x, h => by
    show idxLast xs x = none
    induction xs with
    | nil => rfl
    | cons y r ih =>
      unfold idxLast
      rw [ih fun q => h (.tail _ q)]
      dsimp only
      rw [if_neg (by intro q; exact h (by rw [eq_of_beq q]; exact .head _))]
  | y :: r, xs, x, h => by
    rw [List.cons_append]
    unfold idxLast
    rw [idxLast_append_not h]
theorem idxLast_append_mem : ∀ {ns xs : List Str} {x : Str} {i : Nat}, x ∈ xs → idxLast (ns ++ xs) x = some i → ns.length ≤ i
  | [], _, _, _, _, _ => Nat.zero_le _
  | y :: r, xs, x, i, h, hi => by
    rw [List.cons_append] at hi
    unfold idxLast at hi
    cases q : idxLast (r ++ xs) x with
    | some k => rw [q] at hi; cases hi; have := idxLast_append_mem h q; simp; omega
    | none =>
      exfalso
      have : ∀ {l : List Str}, x ∈ l → idxLast l x ≠ none := by
        intro l hl
        induction l with
        | nil => cases hl
        | cons z l ih =>
          unfold idxLast
          cases q : idxLast l x with
          | some k => simp
          | none =>
            cases hl with
            | head => simp
            | tail _ hl => exact absurd q (ih hl)
      exact this (List.mem_append_right r h) q
end Mine
set_option autoImplicit false
set_option linter.unusedVariables false
namespace Mine
open PySem PyProof.Rows

/- what holds between the turns of a comprehension -/
structure CK (C : Cx) (ks : List V) (kx : List Value) (fp : List Addr) (P : Nat → Heap → Prop) (s₁ : Shared) (ρ₁ : List Addr) (D : Addr) (j : Nat) (done : List V) (s : Shared) (ρ : List Addr) : Prop where
  p : P j s.heap
  fpn : ∀ b : Addr, b ∈ fp → b ∉ ρ
  ext : Ext (fun b => b ∈ fp) s₁ ρ₁ s ρ
  dobj : ∃ ys n, s.heap.get? D = some { cls := .type "list", data := .seq ys n } ∧ VRs C s.heap ρ done ys.toList
  dn : D ∉ ρ
  k : VRs C s.heap ρ ks kx
section
variable {C : Cx} {d : Nat} {env cenv : Env} {sc cs : Scope} {ns xs ns' : List Str}
theorem CK.step {C₀ : Cx} {g : Addr → Prop} {target : Expr} {items : List V} {chk : List (Nat × Ob)} {itv : Value} {ks : List V} {kx : List Value} {fp : List Addr} {P : Nat → Heap → Prop} {s₁ : Shared} {ρ₁ : List Addr} {D : Addr} {j : Nat} {done : List V} {s s' : Shared} {ρ ρ' : List Addr} {st : St} {T : Addr → Prop}
    (hI : IterOk C₀ d target items chk itv fp P ρ₁ ks kx) (K : CK C ks kx fp P s₁ ρ₁ D j done s ρ) (hS : State C cenv cs ns' s ρ st) (y : Ext T s ρ s' ρ') (hT : ∀ b, T b → Own cenv b ∧ s₁.heap.get? b = none ∧ b ≠ D) :
    CK C ks kx fp P s₁ ρ₁ D j done s' ρ' := by
  have eV : ExtV C s.heap ρ s'.heap ρ' := y.extV fun b q => own_aside hS.frm b (hT b q).1
  refine ⟨hI.frame j _ _ K.p fun b hb o ho => ?_, fun b hb => ?_, K.ext.over y fun b q => (hT b q).2.1, ?_, ?_, K.k.ext eV⟩
  · obtain ⟨o', vs, h1, h2, h3, _⟩ := hI.there j _ K.p b hb
    rw [ho] at h1; cases h1
    exact (y.keep b o ho (K.fpn b hb) fun q => Own.notFields hS.frm ho h2 (hT b q).1).val h3
  · obtain ⟨o', vs, h1, _⟩ := hI.there j _ K.p b hb
    exact y.apart h1 (K.fpn b hb)
  · obtain ⟨ys, n, h1, h2⟩ := K.dobj
    exact ⟨ys, n, (y.keep D _ h1 K.dn fun q => (hT D q).2.2 rfl).val (show Value.type "list" ≠ Value.type "frame" by decide), h2.ext eV⟩
  · obtain ⟨ys, n, h1, _⟩ := K.dobj
    exact y.apart h1 K.dn
theorem VRs.append {h : Heap} {ρ : List Addr} : ∀ {vs ws : List V} {xs ys : List Value}, VRs C h ρ vs xs → VRs C h ρ ws ys → VRs C h ρ (vs ++ ws) (xs ++ ys)
  | [], _, _, _, h1, h2 => by simp only [vS0, vS1] at h1; subst h1; exact h2
  | v :: vs, ws, _, ys, h1, h2 => by
    simp only [vS0, vS1] at h1
    obtain ⟨x, xs, rfl, q1, q2⟩ := h1
    show VRs C h ρ (v :: (vs ++ ws)) (x :: (xs ++ ys))
    simp only [vS0, vS1]
    exact ⟨x, xs ++ ys, rfl, q1, VRs.append q2 h2⟩
theorem VRs.one {h : Heap} {ρ : List Addr} {v : V} {x : Value} (r : VR C h ρ v x) : VRs C h ρ [v] [x] := by
  simp only [vS0, vS1]
  exact ⟨x, [], rfl, r, rfl⟩

/- a new list at D that nothing refers to yet -/
structure Fresh (C : Cx) (env : Env) (sc : Scope) (ns : List Str) (s₀ : Shared) (ρ₀ : List Addr) (xs : List V) (D : Addr) (s : Shared) (ρ : List Addr) (st : St) : Prop where
  obj : ∃ items n, s.heap.get? D = some { cls := .type "list", data := .seq items n } ∧ VRs (C.hide (· = D)) s.heap ρ xs items.toList
  st : State (C.hide (· = D)) env sc ns s ρ st
  nin : D ∉ ρ
  nb : C.base.get? D = none
  noff : ¬ C.off D
  ext : Ext Nil s₀ ρ₀ s ρ
  new : s₀.heap.get? D = none
theorem Frm.hide {N : Addr → Prop} {h h' : Heap} {ρ : List Addr} {vars : List (Option V)} (F : Frm C h ρ env sc ns vars) (g : Grows h h') (hN : ∀ b, N b → h.get? b = none) : Frm (C.hide N) h' ρ env sc ns vars := by
  have cells : ∀ (c : Addr) (v : Option Value), h.IsCell c v → h'.IsCell c v := fun c v ⟨oc, h1, h2⟩ => ⟨oc, g c oc h1, h2⟩
  have nsK : ∀ {m}, h.Ns env.locals m → h'.Ns env.locals m := fun ⟨o, es, ep, h1, h2⟩ => ⟨o, es, ep, g _ o h1, h2⟩
  refine ⟨F.len, F.loc.imp fun m hm => nsK hm, fun b q => .inl (F.off b q), F.locN, F.locB, fun x hx => ?_, F.inj, fun x i v h1 h2 h3 => ?_⟩
  · obtain ⟨c, v₀, q1, q2, q3⟩ := F.cell x hx
    exact ⟨c, v₀, q1, cells c v₀ q2, q3⟩
  · obtain ⟨val, hl, hv⟩ := F.vals x i v h1 h2 h3
    refine ⟨val, ?_, hv.move (.hide g hN) hv.lt⟩
    rcases hl with ⟨k, m, hm, hx⟩ | ⟨k, c, q1, q2⟩
    · exact .inl ⟨k, m, nsK hm, hx⟩
    · exact .inr ⟨k, c, q1, cells c _ q2⟩
/- less is hidden, and what was hidden may have changed -/
theorem State.leave {N : Addr → Prop} {s : Shared} {ρ : List Addr} {st : St} {h' : Heap} (hS : State (C.hide N) env sc ns s ρ st) (hk : ∀ b o, ¬ N b → s.heap.get? b = some o → h'.get? b = some o) (hN : ∀ b, N b → b ∉ ρ ∧ C.base.get? b = none ∧ ¬ C.off b)
    (ho : ∀ b, Own env b → C.off b) : State C env sc ns { s with heap := h' } ρ st ∧ Mv ρ.length (C.hide N) s.heap ρ C h' ρ := by
  have mv : Mv ρ.length (C.hide N) s.heap ρ C h' ρ := ⟨⟨C.off, rfl⟩, fun _ _ _ q => q, fun b o hb hf _ => ⟨hk b o (fun q => hf.2 (.inr q)) hb, hf.1, fun q => hf.2 (.inl q)⟩⟩
  have loc : ∀ b, Own env b → ¬ N b := fun b q q' => (hN b q').2.2 (ho b q)
  have cells : ∀ (x : Str) (c : Addr) (v : Option Value), env.kindOf x = some .cell → env.cells.lookup x = some c → s.heap.IsCell c v → h'.IsCell c v := fun x c v hkx hc ⟨oc, h1, h2⟩ => ⟨oc, hk c oc (loc c (.inr ⟨x, hkx, hc⟩)) h1, h2⟩
  have nsK : ∀ {m}, s.heap.Ns env.locals m → h'.Ns env.locals m := fun ⟨o, es, ep, h1, h2⟩ => ⟨o, es, ep, hk _ o (loc _ (.inl rfl)) h1, h2⟩
  have same : ∀ a : Addr, a ∈ ρ → h'.get? a = s.heap.get? a := fun a ha => by
    obtain ⟨o, ho⟩ := hS.inv.mem ha
    rw [ho]; exact hk a o (fun q => (hN a q).1 ha) ho
  refine ⟨⟨⟨fun b o hb => hk b o (fun q => by rw [(hN b q).2.1] at hb; cases hb) (hS.inv.base b o hb), hS.inv.len, hS.inv.nodup, fun a ha => ⟨(hS.inv.new a ha).1, fun q => (hS.inv.new a ha).2 (.inl q)⟩, fun a q => ?_, fun i o ho => let ⟨a, h1, h2⟩ := hS.inv.ob i o ho; ⟨a, h1, h2.move mv h2.lt (same a (List.mem_of_getElem? h1))⟩⟩, hS.frm.len, hS.frm.loc.imp fun m hm => nsK hm, ho, hS.frm.locN, hS.frm.locB, fun x hx => ?_, hS.frm.inj, fun x i v h1 h2 h3 => ?_⟩, mv⟩
  · obtain ⟨o, h1⟩ := hS.inv.hid a (.inl q)
    exact ⟨o, hk a o (fun q' => (hN a q').2.2 q) h1⟩
  · obtain ⟨c, v₀, q1, q2, q3⟩ := hS.frm.cell x hx
    exact ⟨c, v₀, q1, cells x c v₀ hx q1 q2, q3⟩
  · obtain ⟨val, hl, hv⟩ := hS.frm.vals x i v h1 h2 h3
    refine ⟨val, ?_, hv.move mv hv.lt⟩
    rcases hl with ⟨k, m, hm, hx⟩ | ⟨k, c, q1, q2⟩
    · exact .inl ⟨k, m, nsK hm, hx⟩
    · exact .inr ⟨k, c, q1, cells x c _ k q1 q2⟩
/- it is frozen -/
theorem Fresh.val {s₀ s : Shared} {ρ₀ ρ : List Addr} {xs : List V} {D : Addr} {st : St} (F : Fresh C env sc ns s₀ ρ₀ xs D s ρ st) (ho : ∀ b, Own env b → C.off b) : State C env sc ns s ρ st ∧ VR C s.heap ρ (.flist xs) (.ref D) := by
  obtain ⟨items, n, h1, h2⟩ := F.obj
  refine ⟨(F.st.leave (h' := s.heap) (fun b o _ q => q) (fun b q => by subst q; exact ⟨F.nin, F.nb, F.noff⟩) ho).1, ?_⟩
  simp only [vR0, vR1, vR2, vR3, vR4, vR5, vR6, vR7, vR8, vR9, vR10, vR11, vR12, vR13]
  exact ⟨D, items, n, rfl, h1, ⟨F.nin, F.noff⟩, h2.move .show h2.lt⟩
/- a hidden thing is taken into the ledger -/
theorem State.adopt {s : Shared} {ρ : List Addr} {D : Addr} {st : St} {h' : Heap} {tk : Nat} {o : Ob} (hS : State (C.hide (· = D)) env sc ns s ρ st) (hn : D ∉ ρ) (hb : C.base.get? D = none) (hno : ¬ C.off D) (hs : ∀ b, b ≠ D → h'.get? b = s.heap.get? b)
    (hO : ∀ mv : Mv ρ.length (C.hide (· = D)) s.heap ρ C h' (ρ ++ [D]), OR C h' (ρ ++ [D]) o D) (ho : ∀ b, Own env b → C.off b) : State C env sc ns { s with heap := h', toks := tk } (ρ ++ [D]) { st with obs := st.obs ++ [o] } ∧ VR C h' (ρ ++ [D]) (.ref st.obs.length) (.ref D) := by
  have nin : ∀ {b : Addr}, b ∉ ρ → b ≠ D → b ∉ ρ ++ [D] := fun h1 h2 q => by
    rcases List.mem_append.mp q with q | q
    · exact h1 q
    · exact h2 (List.mem_singleton.mp q)
  have mv : Mv ρ.length (C.hide (· = D)) s.heap ρ C h' (ρ ++ [D]) := ⟨⟨C.off, rfl⟩, fun i a hi q => by rw [List.getElem?_append_left hi]; exact q, fun b o hb hf _ => ⟨(hs b fun q => hf.2 (.inr q)).trans hb, nin hf.1 fun q => hf.2 (.inr q), fun q => hf.2 (.inl q)⟩⟩
  have I := hS.inv
  have Fr := hS.frm
  have nD : ∀ b, Own env b → b ≠ D := fun b q q' => hno (q' ▸ ho b q)
  have cells : ∀ (x : Str) (c : Addr) (v : Option Value), env.kindOf x = some .cell → env.cells.lookup x = some c → s.heap.IsCell c v → h'.IsCell c v := fun x c v hkx hc ⟨oc, h1, h2⟩ => ⟨oc, (hs c (nD c (.inr ⟨x, hkx, hc⟩))).trans h1, h2⟩
  have nsK : ∀ {m}, s.heap.Ns env.locals m → h'.Ns env.locals m := fun ⟨o, es, ep, h1, h2⟩ => ⟨o, es, ep, (hs _ (nD _ (.inl rfl))).trans h1, h2⟩
  refine ⟨⟨I.adopt mv rfl (fun b o q => (hs b fun z => by
    have q' : C.base.get? b = some o := q
    rw [z, hb] at q'; cases q').trans (I.base b o q)) (fun a ha => ⟨hs a fun z => hn (z ▸ ha), fun q => (I.new a ha).2 (.inl q)⟩) hn hb hno (fun a q => let ⟨o, h1⟩ := I.hid a (.inl q); ⟨o, (hs a fun z => hno (z ▸ q)).trans h1⟩) (hO mv), Fr.len, Fr.loc.imp fun m hm => nsK hm, ho, nin Fr.locN (nD _ (.inl rfl)), Fr.locB, fun x hx => ?_, Fr.inj, fun x i v q1 q2 q3 => ?_⟩, ?_⟩
  · obtain ⟨c, v₀, q1, q2, q3, q4⟩ := Fr.cell x hx
    exact ⟨c, v₀, q1, cells x c v₀ hx q1 q2, nin q3 (nD c (.inr ⟨x, hx, q1⟩)), q4⟩
  · obtain ⟨val, hl, hv⟩ := Fr.vals x i v q1 q2 q3
    refine ⟨val, ?_, hv.move mv hv.lt⟩
    rcases hl with ⟨k, m, hm, hx⟩ | ⟨k, c, p1, p2⟩
    · exact .inl ⟨k, m, nsK hm, hx⟩
    · exact .inr ⟨k, c, p1, cells x c _ k p1 p2⟩
  · simp only [vR0, vR1, vR2, vR3, vR4, vR5, vR6, vR7, vR8, vR9, vR10, vR11, vR12, vR13]
    exact ⟨D, rfl, by rw [← I.len]; simp⟩
/- it is taken into the ledger -/
theorem Fresh.own {s₀ s : Shared} {ρ₀ ρ : List Addr} {xs : List V} {D : Addr} {st : St} (F : Fresh C env sc ns s₀ ρ₀ xs D s ρ st) (ho : ∀ b, Own env b → C.off b) : State C env sc ns s (ρ ++ [D]) { st with obs := st.obs ++ [.list xs] } ∧ VR C s.heap (ρ ++ [D]) (.ref st.obs.length) (.ref D) := by
  obtain ⟨items, n, h1, h2⟩ := F.obj
  exact F.st.adopt (tk := s.toks) F.nin F.nb F.noff (fun _ _ => rfl) (fun mv => ⟨items, n, h1, h2.move mv h2.lt⟩) ho
theorem Ext.taken {S : Addr → Prop} {s₀ s : Shared} {ρ₀ ρ : List Addr} {D : Addr} (x : Ext S s₀ ρ₀ s ρ) (h : s₀.heap.get? D = none) : Ext S s₀ ρ₀ s (ρ ++ [D]) :=
  ⟨by obtain ⟨t, rfl⟩ := x.pre; exact ⟨t ++ [D], by rw [List.append_assoc]⟩, fun a ha => by
    rcases List.mem_append.mp ha with q | q
    · exact x.fresh a q
    · cases List.mem_singleton.mp q; exact .inr h, x.keep, x.alive, x.gens, x.drawn, x.os⟩

/- the block's own cells -/
theorem cellsFrom_app : ∀ (names : List (Str × NameKind)) (n : Nat) (acc : List (Str × Addr)), cellsFrom n names acc = cellsFrom n names [] ++ acc
  | [], _, _ => rfl
  | (x, k) :: r, n, acc => by
    unfold cellsFrom
    split
    · rw [cellsFrom_app r (n + 1) ((x, n) :: acc), cellsFrom_app r (n + 1) [(x, n)], List.append_assoc]; rfl
    · exact cellsFrom_app r n acc
theorem cellsFrom_mem : ∀ {names : List (Str × NameKind)} {n : Nat} {acc : List (Str × Addr)} {x : Str} {c : Addr}, (x, c) ∈ cellsFrom n names acc → (x, NameKind.cell) ∈ names ∨ (x, c) ∈ acc
  | [], _, _, _, _, h => .inr h
  | (y, k) :: r, n, acc, x, c, h => by
    unfold cellsFrom at h
    split at h
    · rename_i hk
      rcases cellsFrom_mem h with q | q
      · exact .inl (.tail _ q)
      · cases q with
        | head => rw [eq_of_beq hk]; exact .inl (.head _)
        | tail _ q => exact .inr q
    · rcases cellsFrom_mem h with q | q
      · exact .inl (.tail _ q)
      · exact .inr q
theorem lookup_app {x : Str} : ∀ {l r : List (Str × Addr)}, (l ++ r).lookup x = (l.lookup x).or (r.lookup x)
  | [], r => by simp
  | (y, c) :: l, r => by
    rw [List.cons_append, List.lookup_cons, List.lookup_cons]
    cases x == y with
    | true => rfl
    | false => exact lookup_app
theorem newEnv_own {M : Model} {A : Around} {E : Value → Shared → Prop} {s : Shared} {scope : Scope} {g : Addr} {cl : List (Str × Addr)} {q : Str} {env : Env} {Q : Env → Shared → Prop}
    (h : Q { scope := scope, locals := s.heap.objs.size, globals := g, cells := cellsFrom (s.heap.objs.size + 1) scope.names cl, qual := q, func := none, code := env.code, frame := env.frame, builtins := env.builtins } { s with heap := pushCells (s.heap.push { cls := .type "dict", data := .dict #[] }) scope.names }) :
    wpAny M A (newFunctionEnv scope g cl [] q none .none (some env)) Q E s := by
  simp only [newFunctionEnv, Option.isSome_some, if_true]
  refine wpAny_bind (wpAny_alloc ?_)
  refine wpAny_bind (wpAny_layCells _ (fun name kind cells => by cases hkc : kind == NameKind.cell <;> simp [hkc]) _ _ _ _ ?_)
  rw [show ({ s with heap := s.heap.push { cls := .type "dict", data := .dict #[] } } : Shared).heap.objs.size = s.heap.objs.size + 1 from Heap.size_push ..]
  rw [List.forIn_nil]
  exact wpAny_bind (wpAny_pure (wpAny_pure h))
noncomputable def CompI (C : Cx) (ks : List V) (kx : List Value) (cenv : Env) (cs : Scope) (ns' : List Str) (items : List V) (fp : List Addr) (P : Nat → Heap → Prop) (s₁ : Shared) (ρ₁ : List Addr) (D : Addr) (W : List V → List V → St → Prop) (n : Nat) (s : Shared) : Prop :=
  ∃ i ρ st done, n = items.length - i ∧ done.length ≤ i ∧ State C cenv cs ns' s ρ st ∧ CK C ks kx fp P s₁ ρ₁ D i done s ρ ∧ W done (items.drop i) st

theorem comp_core (hE : EnvOk env sc) (hg : CompGood sc ns cs xs) {t it elt : Expr} {ifs : List Expr} {pos pos' : Pos} {tg : Tg} {src : M Src} {mc : List (M Bool)} {me : M V}
    (ht : TgtR cs (ns ++ xs) t tg) (htn : ∀ x ∈ tname t, x ∈ xs) (hs : SrcSnd C d env sc ns t it src) (hset : ∀ x, foldedSetIterable it env x = pure x) (hifs : ifs.length ≤ 1)
    (hc : ∀ g cenv, EnvOk cenv cs → All2 (SndB (C.at g) d cenv cs (ns ++ xs)) ifs mc) (he : ∀ g cenv, EnvOk cenv cs → SndE (C.at g) d cenv cs (ns ++ xs) elt me)
    {use : Option (Value → Sem Unit)} {A : Around} {s₀ : Shared} {ρ₀ : List Addr} {st₀ : St} {Q : Value → Shared → Prop} {E : Value → Shared → Prop} {X : Str → St → Prop} {FIN : V → St → Prop}
    (hA : AOk d A) (hS₀ : State C env sc ns s₀ ρ₀ st₀) (hw : wpM (compM ns.length xs.length src tg (andM mc) me) st₀ FIN X) (hX : ∀ c st' x s' ρ', X c st' → Raised C env s₀ ρ₀ c st' x s' ρ' → E x s')
    (hfin : ∀ vs st' D s' ρ' L N, FIN (.flist vs) st' → Fresh (C.hide N) env sc ns s₀ ρ₀ vs D s' ρ' st' → N L → (∃ m, s'.heap.Ns L m) → (∀ b, N b → b ∉ ρ' ∧ C.base.get? b = none ∧ ¬ C.off b ∧ s₀.heap.get? b = none) →
      compPost (model C.prog C.w) A E use Q (.ref D) L (.ok .next) s') :
    wpAny (model C.prog C.w) A (comprehension (.ListComp elt [⟨t, it, ifs, 0⟩] cs pos) cs env pos' (newList []) false (eval it env) use) Q E s₀ := by
  have hfree : ∀ p ∈ cs.names, p.2 = .free → (env.cells.lookup p.1).isSome = true := fun p hp hk => by
    obtain ⟨c, v₀, h1, _⟩ := hS₀.frm.cell p.1 (hE.ce p.1 (hg.free p hp hk))
    rw [h1]; rfl
  refine wpAny_comprehension_free (g := ⟨t, it, ifs, 0⟩) (gs := []) rfl hset (closure_eq hfree) hg.kind (fun p hp hl => lookup_of_nodup hg.nodup (by rw [← hl]; exact hp)) ?_
  generalize hcl : freeCells env cs.names [] = cl
  refine hs A s₀ ρ₀ st₀ _ E X hA hS₀ (wpM_mono (wpM_bind.mp hw) (fun sr st₁ hw₁ itv s₁ ρ₁ fp P ks kx hI hK hP hfp S₁ e₁ => ?_) fun _ _ h => h) hX
  by_cases hlen : sr.items.length ≤ lim
  case neg => rw [if_neg hlen] at hw₁; exact hw₁.elim
  rw [if_pos hlen] at hw₁
  have hw₂ := wpM_innerM.mp (wpM_bind.mp hw₁)
  refine wpAny_newList ?_ (by decide)
  refine newEnv_own ?_
  obtain ⟨D, hD⟩ : ∃ D : Nat, D = s₁.heap.objs.size := ⟨_, rfl⟩
  have sD : s₁.heap.objs.size ≤ D := Nat.le_of_eq hD.symm
  have sL : s₁.heap.objs.size ≤ D + 1 := Nat.le_succ_of_le sD
  have hDL : D ≠ D + 1 := Nat.ne_of_lt (Nat.lt_succ_self D)
  generalize hH : s₁.heap.push { cls := .type "list", data := .seq ([] : List Value).toArray } = H
  have hL : H.objs.size = D + 1 := by rw [← hH, Heap.size_push, hD]
  dsimp only
  rw [hL]
  generalize hh' : pushCells (H.push { cls := .type "dict", data := .dict #[] }) cs.names = h'
  have kH : ∀ b o, H.get? b = some o → h'.get? b = some o := fun b o e => by rw [← hh']; exact pushCells_keeps _ _ b o (Heap.get?_push_of_some _ e)
  have hns' : h'.Ns (D + 1) (fun _ => none) := by
    have := (Heap.Ns.new H (.type "dict")).keeps (pushCells_keeps cs.names _)
    rw [hh', hL] at this
    exact this
  have g : Grows s₁.heap h' := fun b o hb => kH b o (by rw [← hH]; exact Heap.get?_push_of_some _ hb)
  have hDobj : h'.get? D = some { cls := .type "list", data := .seq ([] : List Value).toArray 0 } := kH D _ (by rw [← hH, hD]; exact Heap.get?_push_size _ rfl)
  have hO : CellsOk h' (D + 1 + 1) (cellsFrom (D + 1 + 1) cs.names []) := by
    have ok := cellsFrom_ok cs.names (H.push { cls := .type "dict", data := .dict #[] }) (D + 1 + 1) [] ⟨fun _ _ hm => (nomatch hm), List.Pairwise.nil⟩ (by rw [Heap.size_push, hL]; exact Nat.le_refl _)
    rw [Heap.size_push, hL, hh'] at ok
    exact ok
  generalize hO' : cellsFrom (D + 1 + 1) cs.names [] = O at hO
  have hcells : cellsFrom (D + 1 + 1) cs.names cl = O ++ cl := by rw [cellsFrom_app, hO']
  rw [hcells]
  have oLook : ∀ {x : Str}, (x, NameKind.cell) ∈ cs.names → ∃ c, (O ++ cl).lookup x = some c ∧ (x, c) ∈ O := fun {x} hx => by
    have : (O.lookup x).isSome = true := by rw [← hO']; exact cells_lookup (.inl hx)
    obtain ⟨c, hc⟩ := Option.isSome_iff_exists.mp this
    exact ⟨c, by rw [lookup_app, hc]; rfl, lookup_mem hc⟩
  have oNone : ∀ {x : Str}, (x, NameKind.free) ∈ cs.names → (O ++ cl).lookup x = cl.lookup x := fun {x} hx => by
    rw [lookup_app]
    cases q : O.lookup x with
    | none => rfl
    | some c =>
      have hm := lookup_mem q
      rw [← hO'] at hm
      rcases cellsFrom_mem hm with hc | hc
      · have h1 := lookup_of_nodup hg.nodup hx
        rw [lookup_of_nodup hg.nodup hc] at h1
        cases h1
      · cases hc
  show codeAny _ _ (.compStart _ 0 itv (.ref s₁.heap.objs.size) (compEnvC cs (O ++ cl) (D + 1) env)) (compPost _ _ E use Q (.ref s₁.heap.objs.size) (D + 1)) { s₁ with heap := h' }
  have n₁ : ∀ {b : Addr}, s₁.heap.objs.size ≤ b → s₁.heap.get? b = none := fun hb => Heap.get?_none_of_le hb
  have notIn : ∀ {b : Addr}, s₁.heap.objs.size ≤ b → b ∉ ρ₁ := fun hb hm => by
    obtain ⟨o', ho'⟩ := S₁.inv.mem hm
    rw [n₁ hb] at ho'; cases ho'
  have notB : ∀ {b : Addr}, s₁.heap.objs.size ≤ b → C.base.get? b = none := fun {b} hb => by
    cases q : C.base.get? b with
    | none => rfl
    | some o' => have := S₁.inv.base b o' q; rw [n₁ hb] at this; cases this
  have fpNot : ∀ {b : Addr}, b ∈ fp → b < s₁.heap.objs.size := fun {b} hb => by
    obtain ⟨o, vs, h1, _⟩ := hI.there 0 _ hP b hb
    exact Heap.lt_size h1
  have hcE : EnvOk (compEnvC cs (O ++ cl) (D + 1) env) cs := compEnv_ok hE hg
  have hlk : ∀ {x : Str}, (x, NameKind.free) ∈ cs.names → (O ++ cl).lookup x = env.cells.lookup x := fun {x} hx => by rw [oNone hx, ← hcl]; exact (freeCells_lookup hg.nodup hfree).1 hx
  rw [← hD]
  generalize hcv : compEnvC cs (O ++ cl) (D + 1) env = cenv at hcE ⊢
  have cvl : cenv.locals = D + 1 := by rw [← hcv]; rfl
  have cvc : cenv.cells = O ++ cl := by rw [← hcv]; rfl
  obtain ⟨N, hNd⟩ : ∃ N : Addr → Prop, N = fun b => D + 1 ≤ b ∧ Own cenv b := ⟨_, rfl⟩
  have hNi : ∀ b, N b ↔ (D + 1 ≤ b ∧ Own cenv b) := fun b => by rw [hNd]
  have hN1 : ∀ b, N b → s₁.heap.get? b = none := fun b q => n₁ (Nat.le_trans sL ((hNi b).mp q).1)
  have hCC : (C.hide fun b => N b ∨ b = D) = (C.hide N).hide (· = D) := congrArg C.at (funext fun b => propext or_assoc.symm)
  have hN2 : ∀ b, (N b ∨ b = D) → s₁.heap.get? b = none := fun b q => q.elim (hN1 b) fun q => q ▸ n₁ sD
  obtain ⟨C₂, hC₂⟩ : ∃ C₂ : Cx, C₂ = (C.hide N).hide (· = D) := ⟨_, rfl⟩
  have mv₁ : ∀ {h'' : Heap}, Grows s₁.heap h'' → Mv ρ₁.length C s₁.heap ρ₁ C₂ h'' ρ₁ := fun g => by rw [hC₂, ← hCC]; exact .hide g hN2
  have off₂ : ∀ b, C.off b → C₂.off b := fun b q => by rw [hC₂]; exact .inl (.inl q)
  have offN : ∀ b, N b → C₂.off b := fun b q => by rw [hC₂]; exact .inl (.inr q)
  have offD : C₂.off D := by rw [hC₂]; exact .inr rfl
  have hat : ∃ f, C₂ = C.at f := ⟨_, hC₂⟩
  obtain ⟨f₂, hf₂⟩ := hat
  have base₂ : C₂.base = C.base := by rw [hf₂]; rfl
  have own : ∀ {x : Str} {b : Addr}, (compEnvC cs (O ++ cl) (D + 1) env).kindOf x = some .cell → (O ++ cl).lookup x = some b → (env.kindOf x = some .cell ∧ env.cells.lookup x = some b) ∨ (x, b) ∈ O := fun {x b} h1 h2 => by
    rcases compEnv_cell hE hg h1 with a1 | a1
    · exact .inl ⟨a1.2, (hlk a1.1).symm.trans h2⟩
    · obtain ⟨c, p1, p2⟩ := oLook a1
      exact .inr (Option.some.inj (p1.symm.trans h2) ▸ p2)
  have ownC : ∀ {b : Addr}, Own cenv b → b = D + 1 ∨ ∃ x, (env.kindOf x = some .cell ∧ env.cells.lookup x = some b) ∨ (x, b) ∈ O := fun {b} q => by
    rcases q with q | ⟨x, hx, hl⟩
    · exact .inl (q.trans cvl)
    · rw [← hcv] at hx
      rw [cvc] at hl
      exact .inr ⟨x, own hx hl⟩
  have ownOff : ∀ b, Own cenv b → C₂.off b := fun b q => by
    rcases ownC q with q' | ⟨x, h1 | h1⟩
    · exact offN b ((hNi b).mpr ⟨Nat.le_of_eq q'.symm, q⟩)
    · exact off₂ b (S₁.frm.off b (.inr ⟨x, h1⟩))
    · exact offN b ((hNi b).mpr ⟨Nat.le_trans (Nat.le_succ _) (hO.empty x b h1).2, q⟩)
  have hNal : ∀ b, N b → ∃ o, h'.get? b = some o := fun b q => by
    rcases ownC ((hNi b).mp q).2 with q' | ⟨x, h1 | h1⟩
    · rw [q']; obtain ⟨o, _, _, ho, _⟩ := hns'; exact ⟨o, ho⟩
    · obtain ⟨c, v₀, p1, ⟨o, p2, _⟩, _⟩ := S₁.frm.cell x h1.1
      exact ⟨o, g _ _ (Option.some.inj (p1.symm.trans h1.2) ▸ p2)⟩
    · obtain ⟨o, ho, _⟩ := (hO.empty x b h1).1
      exact ⟨o, ho⟩
  have I₂ : Inv C₂ h' ρ₁ st₁.obs := by
    rw [hC₂, ← hCC]
    exact S₁.inv.hide g fun b q => ⟨hN2 b q, q.elim (hNal b) fun q => q ▸ ⟨_, hDobj⟩⟩
  have S₃ : State C₂ cenv cs (ns ++ xs) { s₁ with heap := h' } ρ₁ { st₁ with vars := st₁.vars.take ns.length ++ List.replicate xs.length none } := by
    have hx : Ext Nil s₁ ρ₁ { s₁ with heap := h' } ρ₁ := Ext.grows (t := s₁.toks) g
    have F := S₁.frm.ext hx
    have hv : st₁.vars.take ns.length = st₁.vars := List.take_of_length_le (by rw [S₁.frm.len]; exact Nat.le_refl _)
    subst hcv
    refine ⟨I₂, ?_, ⟨_, hns'⟩, ownOff, notIn sL, by rw [base₂]; exact notB sL, fun x hx => ?_, fun x y c h1 h2 h3 h4 => ?_, fun x i v h1 h2 h3 => ?_⟩
    · simp [hv, S₁.frm.len]
    · rcases compEnv_cell hE hg hx with ⟨h1, h2⟩ | h1
      · obtain ⟨c, v₀, q1, q2, q3, q4⟩ := F.cell x h2
        exact ⟨c, v₀, (hlk h1).trans q1, q2, q3, by rw [base₂]; exact q4⟩
      · obtain ⟨c, q1, q2⟩ := oLook h1
        obtain ⟨q3, q4⟩ := hO.empty x c q2
        have hc' : s₁.heap.objs.size ≤ c := Nat.le_trans sL (Nat.le_trans (Nat.le_succ _) q4)
        exact ⟨c, none, q1, q3, notIn hc', by rw [base₂]; exact notB hc'⟩
    · have old : ∀ {z : Str}, env.kindOf z = some .cell → env.cells.lookup z = some c → c < s₁.heap.objs.size := fun {z} z1 z2 => by
        obtain ⟨c', v₀, p1, ⟨o, p2, _⟩, _⟩ := S₁.frm.cell z z1
        exact Option.some.inj (p1.symm.trans z2) ▸ Heap.lt_size p2
      have new : ∀ {z : Str}, (z, c) ∈ O → ¬ c < s₁.heap.objs.size := fun {z} z1 => Nat.not_lt.mpr (Nat.le_trans sL (Nat.le_trans (Nat.le_succ _) (hO.empty z c z1).2))
      rcases own h1 h3 with a | a
      · rcases own h2 h4 with b | b
        · exact F.inj x y c a.1 b.1 a.2 b.2
        · exact absurd (old a.1 a.2) (new b)
      · rcases own h2 h4 with b | b
        · exact absurd (old b.1 b.2) (new a)
        · exact cells_inj hO.apart a b
    · dsimp only at h3
      rw [hv] at h3
      have hi : i < st₁.vars.length := by
        refine Nat.lt_of_not_le fun hle => ?_
        rw [List.getElem?_append_right hle, List.getElem?_replicate] at h3
        split at h3 <;> cases h3
      rw [List.getElem?_append_left hi] at h3
      have hxx : x ∉ xs := fun q => by have := idxLast_append_mem q h2; have := S₁.frm.len; omega
      rw [idxLast_append_not hxx] at h2
      have hmem : x ∈ ns := List.mem_of_getElem? (idxLast_get h2)
      have hfr : (x, NameKind.free) ∈ cs.names := by
        unfold isVar at h1
        split at h1
        · rename_i e; rcases hg.loc _ (lookup_mem e) rfl with q | q
          · exact absurd q hxx
          · exact absurd hmem q
        · rename_i e; exact absurd (hg.cellx _ (lookup_mem e) rfl) hxx
        · rename_i e; exact lookup_mem e
        · cases h1
      have hsc := hg.free _ hfr rfl
      have hk := hE.ce x hsc
      have hvar : isVar sc x = true := by unfold isVar; rcases hsc with q | q <;> (dsimp only at q; rw [q])
      obtain ⟨val, hl, hr⟩ := S₁.frm.vals x i v hvar h2 h3
      refine ⟨val, ?_, hr.move (mv₁ g) hr.lt⟩
      rcases hl with ⟨k, _⟩ | ⟨k, c, q1, oc, q2, q3⟩
      · rw [hk] at k; cases k
      · exact .inr ⟨hcE.ce x (.inr (lookup_of_nodup hg.nodup hfr)), c, (hlk hfr).trans q1, oc, g _ _ q2, q3⟩
  have K₃ : CK C₂ ks kx fp P s₁ ρ₁ D 0 [] { s₁ with heap := h' } ρ₁ := by
    refine ⟨hI.frame 0 _ _ hP fun b hb o ho => g b o ho, fun b hb => (hfp b hb).1, Ext.grows g, ⟨_, 0, hDobj, ?_⟩, notIn sD, hK.move (mv₁ g) hK.lt⟩
    simp [vS0, vS1]
  have loop : codeAny (model C.prog C.w) A (.compLoop (.ListComp elt [⟨t, it, ifs, 0⟩] cs pos) 0 itv (.ref D) (cenv)) (compPost (model C.prog C.w) A E use Q (.ref D) (D + 1)) { s₁ with heap := h' } := by
    refine compLoop_any (CompI C₂ ks kx cenv cs (ns ++ xs) sr.items fp P s₁ ρ₁ D fun done rest st => wpM (compItems tg (andM mc) me sr.chk rest) st (fun vs st' => wpM (M.pure (.flist (done ++ vs))) { st₁ with obs := st'.obs } FIN X) (fun c st' => X c { st₁ with obs := st'.obs })) ?_ _
      ⟨0, ρ₁, _, [], rfl, Nat.le_refl _, S₃, K₃, by simpa using hw₂⟩
    intro n s hJ
    refine shut fun PP kk => ?_
    obtain ⟨i, ρ, st, done, hn, hdl, hS, K, hwi⟩ := hJ
    have fpOff : ∀ b : Addr, b ∈ fp → ¬ C₂.off b := fun b hb q => by
      rw [hC₂] at q
      rcases q with (q | q) | q
      · exact S₁.inv.notOff (a := b) (by
          obtain ⟨o, ho⟩ := hS₀.inv.hid b q
          rw [(hfp b hb).2.1] at ho; cases ho) q
      · exact absurd (fpNot hb) (Nat.not_lt.mpr (Nat.le_trans sL ((hNi b).mp q).1))
      · exact absurd (fpNot hb) (Nat.not_lt.mpr (by rw [q]; exact sD))
    have fpOk : ∀ b : Addr, b ∈ fp → (b ∉ ρ ∧ ¬ C₂.off b) ∧ C₂.base.get? b = none ∧ ∃ o vs, s.heap.get? b = some o ∧ o.data = .fields vs ∧ o.cls ≠ .type "frame" ∧ isVal o = false :=
      fun b hb => ⟨⟨K.fpn b hb, fpOff b hb⟩, by rw [base₂]; exact (hfp b hb).2.2, hI.there i _ K.p b hb⟩
    have ownT : ∀ b, N b → Own cenv b ∧ s₁.heap.get? b = none ∧ b ≠ D := fun b hb => ⟨((hNi b).mp hb).2, hN1 b hb, fun q => Nat.not_succ_le_self D (q ▸ ((hNi b).mp hb).1)⟩
    have eFp : ∀ {h₂ : Heap}, (∀ b o, b ∉ fp → s.heap.get? b = some o → h₂.get? b = some o) → ExtV C₂ s.heap ρ h₂ ρ := fun {h₂} hk => ⟨⟨[], by simp⟩, fun b o hb hn' hv => ⟨hk b o (fun q => by
        obtain ⟨_, _, o', vs, h1, _, _, h4⟩ := fpOk b q
        rw [hb] at h1; cases h1; rw [h4] at hv; cases hv) hb, hn'.1⟩⟩
    /- only the iterator moves -/
    have iter : ∀ {h₂ : Heap} {tk₂ : Nat} {j : Nat}, (∀ b o, b ∉ fp → s.heap.get? b = some o → h₂.get? b = some o) → (∀ b : Addr, b ∈ fp → ∃ o', h₂.get? b = some o') → P j h₂ → CK C₂ ks kx fp P s₁ ρ₁ D j done { s with heap := h₂, toks := tk₂ } ρ := fun {h₂ tk₂ j} hk hal hp => by
      refine ⟨hp, K.fpn, K.ext.trans (Ext.fp' hk hal), ?_, K.dn, K.k.ext (eFp hk)⟩
      obtain ⟨ys, n', h1, h2⟩ := K.dobj
      exact ⟨ys, n', hk D _ (fun q => absurd (fpNot q) (Nat.not_lt.mpr sD)) h1, h2.ext (eFp hk)⟩
    have Kk : VRs (C.at f₂) s.heap ρ ks kx := by rw [← hf₂]; exact K.k
    have Ii : Inv (C.at f₂) s.heap ρ st.obs := by rw [← hf₂]; exact hS.inv
    have pm : model C.prog C.w = model C₂.prog C₂.w := by rw [hf₂]; rfl
    cases hit : sr.items[i]? with
    | none =>
      rw [drop_of_none hit] at hwi
      have hcq := wpM_chkObs (wpM_bind.mp hwi)
      have hq := hcq.2
      refine kk (hI.done f₂ i A s ρ st.obs _ _ hA Ii Kk K.ext.pre hcq.1 K.p K.fpn hit fun h₂ tk₂ hk => shut fun PP kk => ?_)
      have E₀ : Ext Nil s₀ ρ₀ { s with heap := h₂, toks := tk₂ } ρ := (e₁.over K.ext fun b hb => (hfp b hb).2.1).fp hk fun b hb => (hfp b hb).2.1
      have F₀ : Frm C₂ s₁.heap ρ₁ env sc ns st₁.vars := by rw [hC₂, ← hCC]; exact S₁.frm.hide (.refl _) hN2
      have F₁ : Frm C₂ s.heap ρ env sc ns st₁.vars := F₀.extS K.ext (fun b hb => by obtain ⟨o, vs, h1, h2, _⟩ := hI.there 0 _ hP b hb; exact Own.notFields S₁.frm h1 h2)
        (fun b hb => .inr fun o ho => by obtain ⟨o', vs, h1, _, _, h4⟩ := hI.there 0 _ hP b hb; rw [ho] at h1; cases h1; exact h4)
      have SA : State C₂ env sc ns s ρ { st₁ with obs := st.obs } := ⟨hS.inv, F₁⟩
      have SB := SA.fp (tk := tk₂) hk fpOk
      obtain ⟨ys, n', hDo, hvs⟩ := K.dobj
      have hDo₂ : h₂.get? D = some { cls := .type "list", data := .seq ys n' } := hk D _ (fun q => absurd (fpNot q) (Nat.not_lt.mpr sD)) hDo
      have hq' : FIN (.flist done) { st₁ with obs := st.obs } := by simpa [wpM_pure] using hq
      rw [hC₂] at SB
      refine kk (hfin done _ D _ ρ (D + 1) N hq' ⟨⟨ys, n', hDo₂, by rw [← hC₂]; exact hvs.ext (eFp hk)⟩, SB, K.dn, notB sD, fun q => ?_, E₀, e₁.was (n₁ sD)⟩ ((hNi _).mpr ⟨Nat.le_refl _, .inl cvl.symm⟩) ?_ (fun b hb => ?_))
      · rcases q with q | q
        · exact S₁.inv.notOff (n₁ sD) q
        · exact Nat.not_succ_le_self D ((hNi D).mp q).1
      · obtain ⟨m, o, es, ep, ho, hd⟩ := hS.frm.loc
        rw [cvl] at ho
        exact ⟨m, o, es, ep, hk _ o (fun q => absurd (fpNot q) (Nat.not_lt.mpr sL)) ho, hd⟩
      · have hb' : s₁.heap.objs.size ≤ b := Nat.le_trans sL ((hNi b).mp hb).1
        refine ⟨fun hm => (hS.inv.new b hm).2 (offN b hb), notB hb', S₁.inv.notOff (n₁ hb'), e₁.was (n₁ hb')⟩
    | some v =>
      have hlt : i < sr.items.length := (List.getElem?_eq_some_iff.mp hit).1
      rw [drop_of_some hit] at hwi
      have hcq := wpM_chkObs (wpM_bind.mp hwi)
      have hq := hcq.2
      refine kk (hI.next f₂ i A s ρ st.obs _ _ _ v hA Ii Kk K.ext.pre hcq.1 K.p K.fpn hit (fun val s₁ h => h) fun val h₂ tk₂ hv hP' hk => ?_)
      rw [← hf₂] at hv
      have S₂ := hS.fp (tk := tk₂) hk fpOk
      have K₂ := iter (tk₂ := tk₂) hk (fun b hb => let ⟨o, _, h1, _⟩ := hI.there _ _ hP' b hb; ⟨o, h1⟩) hP'
      rw [pm]
      refine at_asg (S := N) hcE (fun b q => ((hNi b).mp q).2) ht hv (fun x b _ h2 h3 => (hNi b).mpr ?_) A _ _ (fun c st' => X c { st₁ with obs := st'.obs }) hA S₂ (wpM_mono (wpM_bind.mp hq) (fun _ st₃ h₃ _ s₃ ρ₃ _ S₃ e₃ => ?_) fun _ _ h => h) (fun _ _ _ _ _ _ r => r.elim)
      · refine ⟨?_, h3.own⟩
        rcases h3 with ⟨_, q⟩ | ⟨q, q'⟩
        · exact Nat.le_of_eq (by rw [q, cvl])
        · rcases hg.own x (htn x h2) with hl | hl
          · have hk' := hcE.lo x hl
            rw [hk'] at q; cases q
          · obtain ⟨c, p1, p2⟩ := oLook (lookup_mem hl)
            have q'' : (O ++ cl).lookup x = some b := by rw [← cvc]; exact q'
            rw [p1] at q''
            cases q''
            exact Nat.le_trans (Nat.le_succ _) (hO.empty x _ p2).2
      have K₃ := K₂.step (g := f₂) hI S₂ e₃ ownT
      refine (snd_tests hifs (by rw [hf₂]; exact hc f₂ _ hcE)) A s₃ ρ₃ st₃ _ _ (fun c st' => X c { st₁ with obs := st'.obs }) hA S₃ (wpM_mono (wpM_bind.mp h₃) (fun b st₄ h₄ b' s₄ ρ₄ r₄ S₄ e₄ => ?_) fun _ _ h => h) (fun _ _ _ _ _ _ r => r.elim)
      cases r₄
      have K₄ := K₃.step (g := f₂) hI S₃ e₄ (fun b q => q.elim)
      cases b with
      | false => exact ⟨sr.items.length - (i + 1), by omega, i + 1, ρ₄, st₄, done, rfl, by omega, S₄, K₄, h₄⟩
      | true =>
        refine (show SndE C₂ d cenv cs (ns ++ xs) elt me by rw [hf₂]; exact he f₂ _ hcE) A s₄ ρ₄ st₄ _ _ (fun c st' => X c { st₁ with obs := st'.obs }) hA S₄ (wpM_mono (wpM_bind.mp h₄) (fun w st₅ h₅ val₅ s₅ ρ₅ r₅ S₅ e₅ => ?_) fun _ _ h => h) (fun _ _ _ _ _ _ r => r.elim)
        have K₅ := K₄.step (g := f₂) hI S₄ e₅ (fun b q => q.elim)
        obtain ⟨ys, n', hDo, hvs⟩ := K₅.dobj
        have hys : ys.size = done.length := by have := hvs.len; simp at this; exact this.symm
        refine wpAny_list_append_plain ⟨n', hDo⟩ (fun h₆ hpl hs₆ => ?_) (by rw [hys]; exact Nat.le_trans hdl (Nat.le_trans (Nat.le_of_lt hlt) hlen))
        obtain ⟨n₆, hD₆⟩ := hpl
        have keep₆ : ∀ b o, ¬ b = D → s₅.heap.get? b = some o → h₆.get? b = some o := fun b o hb e => (hs₆.2 b hb).trans e
        have S₆ := S₅.off1 (tk := s₅.toks) keep₆ K₅.dn (by rw [base₂]; exact notB sD) (Own.notData S₅.frm hDo (.inr ⟨_, _, rfl⟩)) offD ⟨_, hD₆⟩
        have eV : ExtV C₂ s₅.heap ρ₅ h₆ ρ₅ := ⟨⟨[], by simp⟩, fun b o hb hn' _ => ⟨keep₆ b o (fun q => hn'.2 (q ▸ offD)) hb, hn'.1⟩⟩
        have K₆ : CK C₂ ks kx fp P s₁ ρ₁ D (i + 1) (done ++ [w]) { s₅ with heap := h₆, toks := s₅.toks } ρ₅ := by
          refine ⟨hI.frame _ _ _ K₅.p fun b hb o ho => keep₆ b o (fun q => absurd (fpNot hb) (by rw [q]; exact Nat.not_lt.mpr sD)) ho, K₅.fpn, K₅.ext.over (Ext.one keep₆ hD₆) fun b q => q ▸ n₁ sD, ⟨_, n₆, hD₆, ?_⟩, K₅.dn, K₅.k.ext eV⟩
          rw [Array.toList_push]
          exact (hvs.ext eV).append (.one (r₅.ext eV))
        refine ⟨sr.items.length - (i + 1), by omega, i + 1, ρ₅, st₅, done ++ [w], rfl, by simp; omega, S₆, K₆, ?_⟩
        refine wpM_mono (wpM_bind.mp h₅) (fun vs st' hv' => ?_) fun _ _ h => h
        have hv'' := wpM_pure.mp hv'
        rw [List.append_assoc]; exact hv''
  exact codeAny_compStart_list loop (hI.self 0 A _ _ _ K₃.p loop)
end
end Mine
set_option autoImplicit false
set_option linter.unusedVariables false
namespace Mine
open PySem PyProof.Rows
theorem hide_comm (C : Cx) (N M : Addr → Prop) : (C.hide N).hide M = (C.hide M).hide N := congrArg C.at (funext fun b => propext or_right_comm)
section
variable {C : Cx} {d : Nat} {env : Env} {sc cs : Scope} {ns xs : List Str}
theorem Ext.letGo {S : Addr → Prop} {s₀ s : Shared} {ρ₀ ρ : List Addr} (x : Ext S s₀ ρ₀ s ρ) {L : Addr} {h' : Heap} (hs : Heap.SameBut L s.heap h') (h0 : s₀.heap.get? L = none) : Ext S s₀ ρ₀ { s with heap := h' } ρ := by
  have nl : ∀ b o, s₀.heap.get? b = some o → b ≠ L := fun b o hb q => by rw [q, h0] at hb; cases hb
  refine ⟨x.pre, x.fresh, fun b o hb hn hS => ?_, fun b o hb => ?_, x.gens, x.drawn, x.os⟩
  · rcases x.keep b o hb hn hS with q | ⟨hc, sl, q⟩
    · exact .inl ((hs.2 b (nl b o hb)).trans q)
    · exact .inr ⟨hc, sl, (hs.2 b (nl b o hb)).trans q⟩
  · obtain ⟨o', ho'⟩ := x.alive b o hb
    exact ⟨o', (hs.2 b (nl b o hb)).trans ho'⟩
/- a block's own names go -/
theorem State.letGo {N : Addr → Prop} {L : Addr} {s : Shared} {ρ : List Addr} {st : St} {h' : Heap} (hS : State (C.hide N) env sc ns s ρ st) (hL : N L) (hs : Heap.SameBut L s.heap h') (hN : ∀ b, N b → b ∉ ρ ∧ C.base.get? b = none ∧ ¬ C.off b) (ho : ∀ b, Own env b → C.off b) : State C env sc ns { s with heap := h' } ρ st ∧ Mv ρ.length (C.hide N) s.heap ρ C h' ρ :=
  hS.leave (fun b o hb e => (hs.2 b fun q => hb (q ▸ hL)).trans e) hN ho
theorem Fresh.letGo {N : Addr → Prop} {L : Addr} {s₀ s : Shared} {ρ₀ ρ : List Addr} {vs : List V} {D : Addr} {st : St} {h' : Heap} (F : Fresh (C.hide N) env sc ns s₀ ρ₀ vs D s ρ st) (hL : N L) (hs : Heap.SameBut L s.heap h') (hN : ∀ b, N b → b ∉ ρ ∧ C.base.get? b = none ∧ ¬ C.off b ∧ s₀.heap.get? b = none) (ho : ∀ b, Own env b → C.off b) : Fresh C env sc ns s₀ ρ₀ vs D { s with heap := h' } ρ st := by
  have nD : ¬ N D := fun q => F.noff (.inr q)
  have dl : D ≠ L := fun q => nD (q ▸ hL)
  have S := F.st
  rw [hide_comm] at S
  obtain ⟨S', mv⟩ := S.letGo hL hs (fun b q => ⟨(hN b q).1, (hN b q).2.1, fun q' => q'.elim (hN b q).2.2.1 fun q' => nD (q' ▸ q)⟩) (fun b q => .inl (ho b q))
  obtain ⟨items, n, h1, h2⟩ := F.obj
  rw [hide_comm] at h2
  exact ⟨⟨items, n, (hs.2 D dl).trans h1, h2.move mv h2.lt⟩, S', F.nin, F.nb, fun q => F.noff (.inl q), F.ext.letGo hs (hN L hL).2.2.2, F.new⟩
/- an expression that makes a new list -/
noncomputable def SndF (C : Cx) (d : Nat) (env : Env) (sc : Scope) (ns : List Str) (t : Sem Value) (m : M V) : Prop :=
  ∀ (A : Around) (s : Shared) (ρ : List Addr) (st : St) (Q : Value → Shared → Prop) (E : Value → Shared → Prop) (X : Str → St → Prop), AOk d A → State C env sc ns s ρ st →
    wpM m st (fun v st' => ∀ vs D s' ρ', v = .flist vs → Fresh C env sc ns s ρ vs D s' ρ' st' → Q (.ref D) s') X →
    (∀ c st' x s' ρ', X c st' → Raised C env s ρ c st' x s' ρ' → E x s') → wpAny (model C.prog C.w) A t Q E s
theorem SndF.val {t : Sem Value} {m : M V} (h : SndF C d env sc ns t m) : Snd C d env sc ns (VR C) Nil t m := fun A s ρ st Q E X hA hS hw hX =>
  h A s ρ st Q E X hA hS (wpM_mono hw (fun v st' hq vs D s' ρ' hv F => by subst hv; obtain ⟨S, r⟩ := F.val hS.frm.off; exact hq _ _ _ r S F.ext) fun _ _ q => q) hX
theorem SndF.own {t : Sem Value} {m : M V} (h : SndF C d env sc ns t m) : Snd C d env sc ns (VR C) Nil t (m.bind ownL) := fun A s ρ st Q E X hA hS hw hX =>
  h A s ρ st Q E X hA hS (wpM_mono (wpM_bind.mp hw) (fun v st' hq vs D s' ρ' hv F => by subst hv; obtain ⟨S, r⟩ := F.own hS.frm.off; exact hq _ _ _ r S (F.ext.taken F.new)) fun _ _ q => q) hX
theorem SndF.mode {t : Sem Value} {m : M V} (h : SndF C d env sc ns t m) (b : Bool) : Snd C d env sc ns (VR C) Nil t (ownM b m) := by
  cases b with
  | true => exact h.own
  | false => exact h.val
/- a new list on top of the heap -/
theorem State.fresh {s : Shared} {ρ : List Addr} {st : St} (hS : State C env sc ns s ρ st) {vs : List V} {items : Array Value} {n : Nat} {h' : Heap} {tk : Nat} {D : Addr} (g : Grows s.heap h') (hD : s.heap.get? D = none) (ho : h'.get? D = some { cls := .type "list", data := .seq items n }) (hv : VRs C s.heap ρ vs items.toList) :
    Fresh C env sc ns s ρ vs D { s with heap := h', toks := tk } ρ st :=
  have hN : ∀ b, b = D → s.heap.get? b = none := fun b q => q ▸ hD
  ⟨⟨items, n, ho, hv.move (.hide g hN) hv.lt⟩, ⟨hS.inv.hide g fun b q => ⟨hN b q, q ▸ ⟨_, ho⟩⟩, hS.frm.hide g hN⟩, hS.inv.notIn hD, hS.inv.notB hD, hS.inv.notOff hD, Ext.grows g, hD⟩
theorem Fresh.from {s₀ s₁ s : Shared} {ρ₀ ρ₁ ρ : List Addr} {vs : List V} {D : Addr} {st : St} (F : Fresh C env sc ns s₁ ρ₁ vs D s ρ st) (e : Ext Nil s₀ ρ₀ s₁ ρ₁) : Fresh C env sc ns s₀ ρ₀ vs D s ρ st := ⟨F.obj, F.st, F.nin, F.nb, F.noff, e.trans F.ext, e.was F.new⟩
theorem snd_comp (hE : EnvOk env sc) (hg : CompGood sc ns cs xs) {t it elt : Expr} {ifs : List Expr} {pos : Pos} {tg : Tg} {src : M Src} {mc : List (M Bool)} {me : M V}
    (ht : TgtR cs (ns ++ xs) t tg) (htn : ∀ x ∈ tname t, x ∈ xs) (hs : SrcSnd C d env sc ns t it src) (hset : ∀ x, foldedSetIterable it env x = pure x) (hifs : ifs.length ≤ 1)
    (hc : ∀ g cenv, EnvOk cenv cs → All2 (SndB (C.at g) d cenv cs (ns ++ xs)) ifs mc) (he : ∀ g cenv, EnvOk cenv cs → SndE (C.at g) d cenv cs (ns ++ xs) elt me) :
    SndF C d env sc ns (eval (.ListComp elt [⟨t, it, ifs, 0⟩] cs pos) env) (compM ns.length xs.length src tg (andM mc) me) := fun A s ρ st Q E X hA hS hw hX => by
  rw [eval_ListComp]
  refine comp_core (use := none) hE hg ht htn hs hset hifs hc he hA hS hw hX fun vs st' D s' ρ' L N hf F hL hns hN => ?_
  obtain ⟨m, hm⟩ := id hns
  exact ⟨m, hm, fun h' hsb => hf vs D _ ρ' rfl (F.letGo hL hsb hN hS.frm.off)⟩
theorem snd_assignComp (hE : EnvOk env sc) (hg : CompGood sc ns cs xs) {x : Str} {p pos pos' : Pos} {i : Nat} {t it elt : Expr} {ifs : List Expr} {tg : Tg} {src : M Src} {mc : List (M Bool)} {me : M V}
    (hx : isVar sc x = true) (hi : idxLast ns x = some i)
    (ht : TgtR cs (ns ++ xs) t tg) (htn : ∀ x ∈ tname t, x ∈ xs) (hs : SrcSnd C d env sc ns t it src) (hset : ∀ x, foldedSetIterable it env x = pure x) (hifs : ifs.length ≤ 1)
    (hc : ∀ g cenv, EnvOk cenv cs → All2 (SndB (C.at g) d cenv cs (ns ++ xs)) ifs mc) (he : ∀ g cenv, EnvOk cenv cs → SndE (C.at g) d cenv cs (ns ++ xs) elt me) (own : Bool) :
    SndX C d env sc ns (.Assign [.Name x p] (.ListComp elt [⟨t, it, ifs, 0⟩] cs pos) pos') (assignM (.var i) (ownM own (compM ns.length xs.length src tg (andM mc) me))) := by
  obtain ⟨b, hb⟩ : ∃ b, swapsWith (.ListComp elt [⟨t, it, ifs, 0⟩] cs pos) (some (.Name x p)) pos'.line env = pure b := ⟨_, rfl⟩
  cases b with
  | false => exact snd_assignName hE ((snd_comp hE hg ht htn hs hset hifs hc he).mode own) hx hi hb
  | true =>
    refine .of fun A s ρ st Q E X hA hS hw => ?_
    rw [exec_Assign_arm]
    refine wpAny_bind (wpAny_standAt ?_)
    have hb2 : swapsWithSole [.Name x p] (.ListComp elt [⟨t, it, ifs, 0⟩] cs pos) pos'.line env = pure true := hb
    rw [hb2]
    refine wpAny_bind (wpAny_pure ?_)
    rw [if_pos rfl]
    refine wpAny_bind ?_
    rw [arm_evalThenUse_ListComp]
    refine wpAny_bind ?_
    have hw1 : wpM (compM ns.length xs.length src tg (andM mc) me) st (fun v st' => ∀ vs, v = .flist vs → wpM (if own then ownL v else M.pure v) st' (fun v st' => wpM ((asg (.var i) v).bind fun _ => M.pure .next) st' (fun v st' => ∀ val s' ρ', FlR C s'.heap ρ' v val → State C env sc ns s' ρ' st' → Ext (Own env) s ρ s' ρ' → Q val s') X) X) X := by
      have h0 := wpM_bind.mp hw.1
      cases own with
      | true => exact wpM_mono (wpM_bind.mp h0) (fun v st' q vs _ => q) fun _ _ q => q
      | false => exact wpM_mono h0 (fun v st' q vs _ => q) fun _ _ q => q
    refine comp_core (Q := fun _ s' => wpAny _ A (pure ()) (fun _ s'' => wpAny _ A (pure PySem.Flow.next) Q E s'') E s') hE hg ht htn hs hset hifs hc he hA hS hw1 hw.2 fun vs st' D s' ρ' L N hf F hL hns hN => ?_
    have ho := hS.frm.off
    have ho' : ∀ b, Own env b → (C.hide N).off b := fun b q => .inl (ho b q)
    obtain ⟨v', st₁, ρ₁, hf₁, S₁, r₁, e₁, hρ⟩ : ∃ v' st₁ ρ₁, wpM ((asg (.var i) v').bind fun _ => M.pure .next) st₁ (fun v st' => ∀ val s' ρ', FlR C s'.heap ρ' v val → State C env sc ns s' ρ' st' → Ext (Own env) s ρ s' ρ' → Q val s') X ∧ State (C.hide N) env sc ns s' ρ₁ st₁ ∧ VR (C.hide N) s'.heap ρ₁ v' (.ref D) ∧ Ext Nil s ρ s' ρ₁ ∧ ∀ a, a ∈ ρ₁ → a ∈ ρ' ∨ a = D := by
      have hf' := hf vs rfl
      cases own with
      | true =>
        obtain ⟨S, r⟩ := F.own ho'
        refine ⟨_, _, _, hf', S, r, F.ext.taken F.new, fun a ha => ?_⟩
        rcases List.mem_append.mp ha with q | q
        · exact .inl q
        · exact .inr (List.mem_singleton.mp q)
      | false =>
        obtain ⟨S, r⟩ := F.val ho'
        exact ⟨_, _, _, hf', S, r, F.ext, fun a ha => .inl ha⟩
    have hN₁ : ∀ b, N b → b ∉ ρ₁ := fun b q hm => by
      rcases hρ b hm with z | z
      · exact (hN b q).1 z
      · exact F.noff (.inr (z ▸ q))
    show wpAny _ A (assign (.Name x p) env (.ref D)) _ E s'
    show wpAny _ A (do standAt p; bindName env x (.ref D)) _ E s'
    refine wpAny_bind (wpAny_standAt (wpAny_bindName ?_))
    refine at_store (C := C.hide N) (S := Own env) hE hx hi r₁ (fun _ q => q.own) A _ E X hA S₁ (wpM_mono (wpM_bind.mp hf₁) (fun _ st₂ h₂ _ s₂ ρ₂ _ S₂ e₂ => ?_) fun _ _ h => h) (fun _ _ _ _ _ _ r => r.elim)
    obtain ⟨m, o, es, ep, hob, hd⟩ := id hns
    have nO : ¬ Own env L := fun q => (hN L hL).2.2.1 (ho L q)
    have hL₂ : ∃ m, s₂.heap.Ns L m := by
      obtain ⟨o', h1, _, h2, _⟩ := (e₂.keep L o hob (hN₁ L hL) nO).data
      exact ⟨m, o', es, ep, h1, h2.trans hd.1, hd.2⟩
    obtain ⟨m₂, hm₂⟩ := id hL₂
    refine ⟨m₂, hm₂, fun h' hsb => ?_⟩
    obtain ⟨S₃, _⟩ := S₂.letGo hL hsb (fun b q => ⟨fun hm => (S₂.inv.new b hm).2 (.inr q), (hN b q).2.1, (hN b q).2.2.1⟩) ho
    exact wpAny_pure (wpAny_pure (h₂ _ _ _ rfl S₃ ((e₁.nil.trans e₂).letGo hsb (hN L hL).2.2.2)))
end
end Mine
set_option autoImplicit false
set_option linter.unusedVariables false
namespace Mine
open PySem PyProof.Rows
/- the numbers of ranges that the laws use fit -/
theorem small_range {lo hi : Int} (h : smallR lo hi = true) : Builtin.Range.small lo hi 1 = true ∧ Builtin.Range.rangeSize lo hi 1 = max (hi - lo) 0 := by
  simp only [smallR, Bool.and_eq_true, decide_eq_true_eq] at h
  obtain ⟨⟨⟨h1, h2⟩, h3⟩, h4⟩ := h
  have hs : Builtin.Range.rangeSize lo hi 1 = max (hi - lo) 0 := by
    unfold Builtin.Range.rangeSize
    simp only [show (1 : Int) > 0 from by decide, if_true]
    split
    · rw [Int.ediv_one]; omega
    · omega
  refine ⟨?_, hs⟩
  unfold Builtin.Range.small
  rw [hs]
  unfold Builtin.Range.rangeFitsLong
  simp only [show (1 : Int) > 0 from by decide, if_true, Bool.and_eq_true, Bool.or_eq_true, decide_eq_true_eq]
  refine ⟨⟨⟨⟨⟨?_, ?_⟩, ?_, ?_⟩, ?_, ?_⟩, ?_, ?_⟩, .inr ⟨?_, ?_⟩⟩ <;> omega
section
variable {C : Cx} {d : Nat} {env : Env} {sc : Scope} {ns : List Str}
theorem src_value {target e : Expr} {m : M V} (h : SndE C d env sc ns e m) : SrcSnd C d env sc ns target e (m.bind toSrc) := by
  intro A s₀ ρ₀ st₀ Q E X hA hS₀ hw hX
  refine h A s₀ ρ₀ st₀ _ E X hA hS₀ (wpM_mono (wpM_bind.mp hw) (fun v st₁ hw₁ val s₁ ρ₁ r₁ S₁ e₁ => ?_) fun _ _ h => h) hX
  obtain ⟨src, hsrc, hq⟩ := wpM_withObs.mp hw₁
  /- a new iterator I on top of the heap -/
  have new : ∀ (o : Obj) (P : Nat → Heap → Prop) (ks : List V) (kx : List Value), VRs C s₁.heap ρ₁ ks kx → IterOk C d target src.items src.chk (.ref s₁.heap.objs.size) [s₁.heap.objs.size] P ρ₁ ks kx → P 0 (s₁.heap.push o) → Q (.ref s₁.heap.objs.size) { s₁ with heap := s₁.heap.push o } := fun o P ks kx hK hI hP => by
    have g := Grows.push s₁.heap o
    refine hq _ _ ρ₁ [s₁.heap.objs.size] P ks kx hI (hK.ext (g.extV ρ₁)) hP (fun b hb => ?_) (S₁.grows g s₁.toks) (e₁.trans (Ext.grows (t := s₁.toks) g))
    cases mem_one hb
    have hn : s₁.heap.get? s₁.heap.objs.size = none := Heap.get?_none_of_le (Nat.le_refl _)
    exact ⟨S₁.inv.notIn hn, e₁.was hn, S₁.inv.notB hn⟩
  have nil : VRs C s₁.heap ρ₁ [] [] := by simp only [vS0, vS1]
  cases v <;> first | cases hsrc | skip
  · /- str -/
    rename_i x
    obtain ⟨t, rfl⟩ := r₁
    exact wpAny_pyIter_strU (new _ _ _ _ nil (iter_str (t := t)) ⟨_, Heap.get?_push_size _ rfl, rfl, rfl⟩)
  · /- range -/
    rename_i lo hi
    dsimp only at hsrc
    split at hsrc
    case isFalse => cases hsrc
    case isTrue hsm =>
      cases hsrc
      simp only [vR0, vR1, vR2, vR3, vR4, vR5, vR6, vR7, vR8, vR9, vR10, vR11, vR12, vR13] at r₁
      obtain ⟨a, t, u, k, rfl, hn, hr⟩ := r₁
      obtain ⟨h1, h2⟩ := small_range hsm
      refine wpAny_pyIter_range hr h1 (new _ _ _ _ nil iter_range ⟨max (hi - lo) 0, by omega, ?_⟩)
      have e0 : lo + ((0 : Nat) : Int) = lo := by simp
      rw [e0, ← h2]
      exact Heap.get?_push_size _ rfl
  · /- a frozen list -/
    rename_i xs
    have hk : ∃ a, val = .ref a := by simp only [vR0, vR1, vR2, vR3, vR4, vR5, vR6, vR7, vR8, vR9, vR10, vR11, vR12, vR13] at r₁; obtain ⟨a, _, _, rfl, _⟩ := r₁; exact ⟨a, rfl⟩
    obtain ⟨a, rfl⟩ := hk
    obtain ⟨items, hl, hvs⟩ := vr_flist r₁
    exact wpAny_pyIter_list hl (new _ _ _ _ (by simp only [vS0, vS1]; exact ⟨_, _, rfl, r₁, rfl⟩) iter_flist ⟨_, Heap.get?_push_size _ rfl, rfl, rfl⟩)
  · /- a list of the ledger -/
    rename_i r
    simp only [vR0, vR1, vR2, vR3, vR4, vR5, vR6, vR7, vR8, vR9, vR10, vR11, vR12, vR13] at r₁
    obtain ⟨a, rfl, ha⟩ := r₁
    dsimp only at hsrc
    split at hsrc
    case h_2 => cases hsrc
    rename_i xs hxs
    cases hsrc
    obtain ⟨items, n, hl, hvs⟩ := S₁.inv.list hxs ha
    exact wpAny_pyIter_list ⟨_, hl, rfl, n, rfl⟩ (new _ _ _ _ nil (iter_list ha) ⟨_, Heap.get?_push_size _ rfl, rfl, rfl⟩)
end
/- a call that hands out a new list -/
theorem settleO_some {o o' : List Ob} {v v' : V} {o'' : List Ob} (h : settleO o o' v = some (v', o'')) : ∃ i xs, v = .ref i ∧ o'[i]? = some (.list xs) ∧ o.length ≤ i ∧ (∀ x ∈ o'.take o.length, ltO o.length x = true) ∧ ltVs o.length xs = true ∧ v' = .flist xs ∧ o'' = o'.take o.length := by
  unfold settleO at h
  split at h
  · rename_i i
    split at h
    · rename_i xs hx
      split at h
      · rename_i q
        cases h
        exact ⟨i, xs, rfl, hx, q.1.1, q.2.1, q.2.2, rfl, rfl⟩
      · cases h
    · cases h
  · cases h
noncomputable def FSndF (C : Cx) (d : Nat) (a : Addr) (g : List V → M V) : Prop :=
  ∀ (env : Env) (sc : Scope) (ns : List Str) (vs : List V) (vals : List Value) (s : Shared) (ρ : List Addr) (st : St), VRs C s.heap ρ vs vals →
    ∀ (A : Around) (Q : Value → Shared → Prop) (E : Value → Shared → Prop) (X : Str → St → Prop), AOk2 d A → State C env sc ns s ρ st →
    wpM (g vs) st (fun v st' => ∀ ws D s' ρ', v = .flist ws → Fresh C env sc ns s ρ ws D s' ρ' st' → Q (.ref D) s') X → codeAny (model C.prog C.w) A (.call (.ref a) ⟨vals, []⟩) (Back Q E) s
theorem call_fresh {C : Cx} {d : Nat} {f : FnD} {a : Addr} {mb : M Flow} (hlim : C.base.NoLimit) (hf : FnOk C f a) (hg : FnGood f)
    (hbody : ∀ env g, EnvOk env f.scope → SndXs (C.at g) d env f.scope (slotsOf f.scope) f.body mb) : FSndF C d a (runFnS settleO f.params.length (slotsOf f.scope).length mb) := by
  intro env sc ns vs vals s ρ st hv A Q E X hA hS hw
  obtain ⟨hlen, hw1⟩ := wpM_runFn hw
  refine call_core hlim hf hg hbody hv hA hS.inv hlen (wpM_mono hw1 (fun fl st₂ hq val s₂ ρ₂ hv2 I₂ e₂ => ?_) fun _ _ q => q)
  obtain ⟨v, o', hse, hq⟩ := hq
  obtain ⟨i, xs, h1, h2, h3, h4, h5, rfl, rfl⟩ := settleO_some hse
  rw [h1] at hv2
  obtain ⟨D, rfl, hD⟩ := hv2
  obtain ⟨D', hD', items, n, h6, h7⟩ := I₂.ob i _ h2
  rw [hD] at hD'
  cases hD'
  obtain ⟨t, rfl⟩ := e₂.pre
  have hlen' := hS.inv.len
  rw [← hlen'] at h3 h4 h5 hq
  have hDm : D ∈ ρ ++ t := List.mem_of_getElem? hD
  have hDn : D ∉ ρ := fun q => by
    obtain ⟨j, hj, e⟩ := List.getElem_of_mem q
    have hj' : (ρ ++ t)[j]? = some D := by rw [List.getElem?_append_left hj, List.getElem?_eq_getElem hj, e]
    have := (List.getElem?_inj (by simp; omega) I₂.nodup).mp (hj'.trans hD.symm)
    omega
  have hnew : s.heap.get? D = none := (e₂.fresh D hDm).resolve_left hDn
  have mv : Mv ρ.length C s₂.heap (ρ ++ t) (C.hide (· = D)) s₂.heap ρ := ⟨⟨_, rfl⟩, fun j b hj q => by rw [List.getElem?_append_left hj] at q; exact q, fun b o hb hfr _ => ⟨hb, fun q => hfr.1 (List.mem_append_left t q), fun q => q.elim hfr.2 fun q => hfr.1 (q ▸ hDm)⟩⟩
  have hx : Ext Nil s ρ s₂ ρ := ⟨⟨[], by simp⟩, fun b hb => .inl hb, e₂.keep, e₂.alive, e₂.gens, e₂.drawn, e₂.os⟩
  refine hq xs D s₂ ρ rfl ⟨⟨items, n, h6, h7.move mv h5⟩, ⟨⟨I₂.base, ?_, hS.inv.nodup, fun b hb => ?_, fun b hb => ?_, fun j o hj => ?_⟩, (hS.frm.hide (N := (· = D)) (Grows.refl _) fun b q => q ▸ hnew).ext hx⟩, hDn, (I₂.new D hDm).1, (I₂.new D hDm).2, hx, hnew⟩
  · have := I₂.len
    simp only [List.length_append, List.length_take] at this ⊢
    omega
  · have q := I₂.new b (List.mem_append_left t hb)
    exact ⟨q.1, fun z => z.elim q.2 fun z => hDn (z ▸ hb)⟩
  · exact hb.elim (I₂.hid b) fun z => z ▸ ⟨_, h6⟩
  · rw [List.getElem?_take] at hj
    split at hj
    · rename_i hjl
      obtain ⟨b, q1, q2⟩ := I₂.ob j o hj
      refine ⟨b, mv.idx j b hjl q1, q2.move mv (h4 o ?_) rfl⟩
      exact List.mem_of_getElem? (i := j) (by rw [List.getElem?_take, if_pos hjl]; exact hj)
    · cases hj
end Mine
set_option autoImplicit false
set_option linter.unusedVariables false
namespace Mine
open PySem PyProof.Rows
theorem str_draws {prog : Program} {w : World} {A : Around} (hh : A.handled = none) (it : Addr) (x : Str) (t : Tok) : Draws prog w A it [it] x.cps.size (fun i v => ∃ c u, x.cps[i]? = some c ∧ v = .str ⟨#[c]⟩ u) (fun i h => h.IsStrIter it (strIterType x) x t i) := by
  unfold strIterType
  split
  · exact Draws.strAscii hh it x t
  · exact Draws.strWide hh it x t
theorem adr_ne {n a b : Nat} (h : a ≠ b) : n + a ≠ n + b := fun q => h (Nat.add_left_cancel q)
end Mine
set_option autoImplicit false
set_option linter.unusedVariables false
namespace Mine
open PySem PyProof.Rows
/- zip of three -/
theorem typeCall_zip3 (a b c : Value) : checkTypeCall "zip" ⟨[a, b, c], []⟩ = pure () := by kernel_rfl
theorem newCall_zip3 (a b c : Value) : checkBuiltinCall "zip.__new__" ⟨[.type "zip", a, b, c], []⟩ = pure () := by kernel_rfl
theorem args_init4 (a b c d : Value) : argsOk "object.__init__" ⟨[a, b, c, d], []⟩ := by
  unfold argsOk; kernel_rfl
abbrev IsTri (h : Heap) (T : Addr) (a b c : Value) : Prop := h.get? T = some { cls := .type "tuple", data := .seq #[a, b, c] }
section
variable {prog : Program} {w : World} {A : Around} {E : Value → Shared → Prop} {s : Shared}
theorem update_tri {T : Addr} {a b c x : Value} {k : Nat} {Q : Unit → Shared → Prop} (hT : IsTri s.heap T a b c)
    (h : ∀ h', h'.get? T = some { cls := .type "tuple", data := .seq ((#[a, b, c] : Array Value).setIfInBounds k x) } → Heap.SameBut T s.heap h' → Q () { s with heap := h' }) :
    wpAny (model prog w) A (updateSeq T (·.setIfInBounds k x)) Q E s := by
  refine wpAny_updateSeq hT rfl (h _ ?_ (Heap.SameBut.update ..))
  rw [Heap.get?_update_self _ hT rfl]
  simp [Obj.mapSeq]
end
abbrev yH1 (h : Heap) (x : Str) (t : Tok) : Heap := h.push { cls := .type (strIterType x), data := .fields #[.str x t, .int 0 0] }
abbrev yH2 (h : Heap) (x : Str) (t : Tok) (l : Addr) : Heap := (yH1 h x t).push { cls := .type "list_iterator", data := .fields #[.ref l, .int 0 0] }
abbrev yH3 (h : Heap) (x : Str) (t : Tok) (l m : Addr) : Heap := (yH2 h x t l).push { cls := .type "list_iterator", data := .fields #[.ref m, .int 0 0] }
abbrev yH4 (h : Heap) (x : Str) (t : Tok) (l m : Addr) : Heap := (yH3 h x t l m).push { cls := .type "tuple", data := .seq #[.ref h.objs.size, .ref (yH1 h x t).objs.size, .ref (yH2 h x t l).objs.size] }
abbrev yH5 (h : Heap) (x : Str) (t : Tok) (l m : Addr) : Heap := (yH4 h x t l m).push { cls := .type "tuple", data := .seq #[.none, .none, .none] }
abbrev yH6 (h : Heap) (x : Str) (t : Tok) (l m : Addr) : Heap := (yH5 h x t l m).push { cls := .type "zip", data := .fields #[.none, .bool false, .bool false, .ref (yH3 h x t l m).objs.size, .ref (yH4 h x t l m).objs.size] }
set_option maxHeartbeats 4000000 in
set_option maxRecDepth 100000 in
theorem meets_zipS3 (x : Str) (t : Tok) (l m : Addr) (ys zs : Array Value) :
    Meets (Builtin.«zip.__new__» ⟨[.type "zip", .str x t, .ref l, .ref m], []⟩) (fun _ R s => (s.heap.IsList l ys ∧ s.heap.IsList m zs) ∧
      R (.ok (.ret (.ref (yH5 s.heap x t l m).objs.size))) { s with heap := yH6 s.heap x t l m }) :=
  .of_wp fun prog w A R s h => by
    obtain ⟨hp, g, d, tk, os⟩ := s; obtain ⟨⟨hl2, hl3⟩, h⟩ := h
    have hsub := sub_zip
    have hL2 : Heap.IsList (Shared.heap ⟨hp.push { cls := .type (strIterType x), data := .fields #[.str x t, .int 0 0] }, g, d, tk, os⟩) l ys := Heap.IsList.push hl2 _
    have hL3 : Heap.IsList (Shared.heap ⟨(hp.push { cls := .type (strIterType x), data := .fields #[.str x t, .int 0 0] }).push { cls := .type "list_iterator", data := .fields #[.ref l, .int 0 0] }, g, d, tk, os⟩) m zs := Heap.IsList.push (Heap.IsList.push hl3 _) _
    wp_walk using wpAny_pyIter_strU, wpAny_pyIter_list hL2, wpAny_pyIter_list hL3
    exact ⟨_, rfl, h⟩
structure ZA3 (z TI TO i1 i2 i3 : Addr) (f1 f2 f3 : List Addr) : Prop where
  TIz : TI ≠ z
  TOz : TO ≠ z
  i1z : i1 ≠ z
  i2z : i2 ≠ z
  i3z : i3 ≠ z
  TOi1 : TO ≠ i1
  TOi2 : TO ≠ i2
  TOi3 : TO ≠ i3
  z1 : z ∉ f1
  z2 : z ∉ f2
  z3 : z ∉ f3
  T1 : TO ∉ f1
  T2 : TO ∉ f2
  T3 : TO ∉ f3
  x12 : i1 ∉ f2
  x13 : i1 ∉ f3
  x21 : i2 ∉ f1
  x23 : i2 ∉ f3
  x31 : i3 ∉ f1
  x32 : i3 ∉ f2
theorem nmem {f : List Addr} {z b : Addr} (h : z ∉ f) (hb : b ∈ f) : b ≠ z := fun q => h (q ▸ hb)
section
variable {prog : Program} {w : World} {A : Around} {E : Value → Shared → Prop} {s : Shared} {z TI TO i1 i2 i3 : Addr} {f1 f2 f3 : List Addr} {n1 n2 n3 : Nat} {P1 P2 P3 : Nat → Value → Prop} {S1 S2 S3 : Nat → Heap → Prop}
theorem zipT_item {k : Nat} {a b c : Value} {Q : Value → Shared → Prop} (D : ZA3 z TI TO i1 i2 i3 f1 f2 f3) (D1 : Draws prog w A i1 f1 n1 P1 S1) (D2 : Draws prog w A i2 f2 n2 P2 S2) (D3 : Draws prog w A i3 f3 n3 P3 S3)
    (hz : IsZip s.heap z TI TO .none) (hTI : IsTri s.heap TI (.ref i1) (.ref i2) (.ref i3)) (hTO : IsTri s.heap TO a b c) (h1 : S1 k s.heap) (h2 : S2 k s.heap) (h3 : S3 k s.heap) (k1 : k < n1) (k2 : k < n2) (k3 : k < n3)
    (hQ : ∀ h' tk x y v, P1 k x → P2 k y → P3 k v → IsZip h' z TI TO (rawInt s.heap.objs.size) → IsTri h' TO x y v → S1 (k + 1) h' → S2 (k + 1) h' → S3 (k + 1) h' → IsTri h' s.heap.objs.size x y v →
      (∀ c o, c ≠ z → c ≠ TO → c ≠ i1 → c ≠ i2 → c ≠ i3 → s.heap.get? c = some o → h'.get? c = some o) → Q (.ref s.heap.objs.size) { s with heap := h', toks := tk }) :
    wpAny (model prog w) A (Builtin.«zip.__next__» ⟨[.ref z], []⟩) (fun fin s' => ∃ v, fin = .done (.ret v) ∧ Q v s') E s := by
  show wpAny _ _ (field (.ref z) 2 >>= _) _ _ _
  refine wpAny_bind (wpAny_field hz rfl (x := .bool false) rfl ?_)
  show wpAny _ _ (field (.ref z) 3 >>= _) _ _ _
  refine wpAny_bind (wpAny_field hz rfl (x := .ref TI) rfl ?_)
  refine wpAny_bind (wpAny_seqItems hTI rfl ?_)
  show wpAny _ _ (Builtin.SmallTypes.ownedTupleIsFree (.ref z) >>= _) _ _ _
  refine wpAny_bind ?_
  unfold Builtin.SmallTypes.ownedTupleIsFree
  refine wpAny_bind (wpAny_field hz rfl (x := .none) rfl (wpAny_pure ?_))
  simp only [if_true]
  refine wpAny_bind (wpAny_rule ?_)
  refine wpAny_bind (wpAny_field hz rfl (x := .ref TO) rfl ?_)
  refine wpAny_bind (wpAny_setField_rec hz (by simp) fun h₁ hz₁ hs₁ => ?_)
  replace hz₁ : IsZip h₁ z TI TO .ellipsis := hz₁
  refine wpAny_bind ?_
  simp only [List.zipIdx_cons, List.zipIdx_nil, List.forIn_cons, List.forIn_nil]
  refine wpAny_bind (wpAny_bind (wpAny_onRaise ?_))
  show wpAny _ _ (Builtin.SmallTypes.nextOf (.ref i1) >>= _) _ _ _
  refine wpAny_bind (D1.item k _ _ _ k1 (D1.frame k _ _ h1 fun b hb o e => hs₁.extBut _ _ (nmem D.z1 hb) e) fun x h₂ tk₂ px h1₂ hs₂ => wpAny_pure ?_)
  have hTO₂ : IsTri h₂ TO a b c := hs₂.extBut _ _ D.TOi1 (hs₁.extBut _ _ D.TOz hTO)
  refine wpAny_bind (wpAny_seqItems hTO₂ rfl ?_)
  refine wpAny_bind (update_tri hTO₂ fun h₃ hTO₃ hs₃ => ?_)
  replace hTO₃ : IsTri h₃ TO x b c := hTO₃
  refine wpAny_bind (wpAny_letGo (wpAny_pure ?_))
  refine wpAny_bind (wpAny_bind (wpAny_onRaise ?_))
  show wpAny _ _ (Builtin.SmallTypes.nextOf (.ref i2) >>= _) _ _ _
  refine wpAny_bind (D2.item k _ _ _ k2 (D2.frame k _ _ h2 fun b hb o e => hs₃.extBut _ _ (nmem D.T2 hb) (hs₂.extBut _ _ (nmem D.x12 hb) (hs₁.extBut _ _ (nmem D.z2 hb) e))) fun y h₄ tk₄ py h2₄ hs₄ => wpAny_pure ?_)
  have hTO₄ : IsTri h₄ TO x b c := hs₄.extBut _ _ D.TOi2 hTO₃
  refine wpAny_bind (wpAny_seqItems hTO₄ rfl ?_)
  refine wpAny_bind (update_tri hTO₄ fun h₅ hTO₅ hs₅ => ?_)
  replace hTO₅ : IsTri h₅ TO x y c := hTO₅
  refine wpAny_bind (wpAny_letGo (wpAny_pure ?_))
  refine wpAny_bind (wpAny_bind (wpAny_onRaise ?_))
  show wpAny _ _ (Builtin.SmallTypes.nextOf (.ref i3) >>= _) _ _ _
  refine wpAny_bind (D3.item k _ _ _ k3 (D3.frame k _ _ h3 fun b hb o e => hs₅.extBut _ _ (nmem D.T3 hb) (hs₄.extBut _ _ (nmem D.x23 hb) (hs₃.extBut _ _ (nmem D.T3 hb) (hs₂.extBut _ _ (nmem D.x13 hb) (hs₁.extBut _ _ (nmem D.z3 hb) e))))) fun v h₆ tk₆ pv h3₆ hs₆ => wpAny_pure ?_)
  have hTO₆ : IsTri h₆ TO x y c := hs₆.extBut _ _ D.TOi3 hTO₅
  refine wpAny_bind (wpAny_seqItems hTO₆ rfl ?_)
  refine wpAny_bind (update_tri hTO₆ fun h₇ hTO₇ hs₇ => ?_)
  replace hTO₇ : IsTri h₇ TO x y v := hTO₇
  refine wpAny_bind (wpAny_letGo (wpAny_pure (wpAny_pure ?_)))
  refine wpAny_bind (wpAny_seqItems hTO₇ rfl ?_)
  refine wpAny_bind (wpAny_newTuple ?_)
  have hsz : h₇.objs.size = s.heap.objs.size := by rw [hs₇.1, hs₆.1, hs₅.1, hs₄.1, hs₃.1, hs₂.1, hs₁.1]
  have hz₇ : IsZip h₇ z TI TO .ellipsis := hs₇.extBut _ _ D.TOz.symm (hs₆.extBut _ _ D.i3z.symm (hs₅.extBut _ _ D.TOz.symm (hs₄.extBut _ _ D.i2z.symm (hs₃.extBut _ _ D.TOz.symm (hs₂.extBut _ _ D.i1z.symm hz₁)))))
  have hk₇ : ∀ c o, c ≠ z → c ≠ TO → c ≠ i1 → c ≠ i2 → c ≠ i3 → s.heap.get? c = some o → h₇.get? c = some o := fun c o c1 c2 c3 c4 c5 e =>
    hs₇.extBut _ _ c2 (hs₆.extBut _ _ c5 (hs₅.extBut _ _ c2 (hs₄.extBut _ _ c4 (hs₃.extBut _ _ c2 (hs₂.extBut _ _ c3 (hs₁.extBut _ _ c1 e))))))
  have h1₇ : S1 (k + 1) h₇ := D1.frame _ _ _ h1₂ fun b hb o e => hs₇.extBut _ _ (nmem D.T1 hb) (hs₆.extBut _ _ (nmem D.x31 hb) (hs₅.extBut _ _ (nmem D.T1 hb) (hs₄.extBut _ _ (nmem D.x21 hb) (hs₃.extBut _ _ (nmem D.T1 hb) e))))
  have h2₇ : S2 (k + 1) h₇ := D2.frame _ _ _ h2₄ fun b hb o e => hs₇.extBut _ _ (nmem D.T2 hb) (hs₆.extBut _ _ (nmem D.x32 hb) (hs₅.extBut _ _ (nmem D.T2 hb) e))
  have h3₇ : S3 (k + 1) h₇ := D3.frame _ _ _ h3₆ fun b hb o e => hs₇.extBut _ _ (nmem D.T3 hb) e
  have hzlt : z < h₇.objs.size := Heap.lt_size hz₇
  show wpAny _ _ (Builtin.SmallTypes.ownedTupleHandOut (.ref z) (.ref h₇.objs.size) >>= _) _ _ _
  refine wpAny_bind ?_
  unfold Builtin.SmallTypes.ownedTupleHandOut
  have hz₈ : IsZip (h₇.push { cls := .type "tuple", data := .seq #[x, y, v] }) z TI TO .ellipsis := Heap.get?_push_of_some _ hz₇
  refine wpAny_bind (wpAny_setField_rec hz₈ (by simp) fun h₉ hz₉ hs₉ => ?_)
  replace hz₉ : IsZip h₉ z TI TO (rawInt h₇.objs.size) := hz₉
  refine wpAny_setField_rec hz₉ (by simp) fun hA hzA hsA => ?_
  replace hzA : IsZip hA z TI TO (rawInt h₇.objs.size) := hzA
  have up : ∀ c o, c ≠ z → h₇.get? c = some o → hA.get? c = some o := fun c o c1 e => hsA.extBut _ _ c1 (hs₉.extBut _ _ c1 (Heap.get?_push_of_some _ e))
  have hTA : IsTri hA h₇.objs.size x y v := hsA.extBut _ _ (Nat.ne_of_gt hzlt) (hs₉.extBut _ _ (Nat.ne_of_gt hzlt) (Heap.get?_push_size _ rfl))
  rw [hsz] at hzA hTA
  refine wpAny_pure ⟨_, rfl, ?_⟩
  show Q (.ref h₇.objs.size) _
  rw [hsz]
  exact hQ hA _ x y v px py pv hzA (up _ _ D.TOz hTO₇) (D1.frame _ _ _ h1₇ fun b hb o e => up _ _ (nmem D.z1 hb) e) (D2.frame _ _ _ h2₇ fun b hb o e => up _ _ (nmem D.z2 hb) e) (D3.frame _ _ _ h3₇ fun b hb o e => up _ _ (nmem D.z3 hb) e) hTA fun c o c1 c2 c3 c4 c5 e => up c o c1 (hk₇ c o c1 c2 c3 c4 c5 e)
/- it ends where the first ends: the three are of one length -/
theorem zipT_end {k : Nat} {a b c : Value} {Q : PySem.Fin → Shared → Prop} (D : ZA3 z TI TO i1 i2 i3 f1 f2 f3) (D1 : Draws prog w A i1 f1 n1 P1 S1)
    (hz : IsZip s.heap z TI TO .none) (hTI : IsTri s.heap TI (.ref i1) (.ref i2) (.ref i3)) (hTO : IsTri s.heap TO a b c) (h1 : S1 n1 s.heap)
    (hE : ∀ h' tk e, (∀ c o, c ≠ z → c ≠ i1 → s.heap.get? c = some o → h'.get? c = some o) → (∃ o, h'.get? e = some o ∧ o.cls = .type "StopIteration") → E (.ref e) { s with heap := h', toks := tk }) :
    wpAny (model prog w) A (Builtin.«zip.__next__» ⟨[.ref z], []⟩) Q E s := by
  show wpAny _ _ (field (.ref z) 2 >>= _) _ _ _
  refine wpAny_bind (wpAny_field hz rfl (x := .bool false) rfl ?_)
  show wpAny _ _ (field (.ref z) 3 >>= _) _ _ _
  refine wpAny_bind (wpAny_field hz rfl (x := .ref TI) rfl ?_)
  refine wpAny_bind (wpAny_seqItems hTI rfl ?_)
  show wpAny _ _ (Builtin.SmallTypes.ownedTupleIsFree (.ref z) >>= _) _ _ _
  refine wpAny_bind ?_
  unfold Builtin.SmallTypes.ownedTupleIsFree
  refine wpAny_bind (wpAny_field hz rfl (x := .none) rfl (wpAny_pure ?_))
  simp only [if_true]
  refine wpAny_bind (wpAny_rule ?_)
  refine wpAny_bind (wpAny_field hz rfl (x := .ref TO) rfl ?_)
  refine wpAny_bind (wpAny_setField_rec hz (by simp) fun h₁ hz₁ hs₁ => ?_)
  replace hz₁ : IsZip h₁ z TI TO .ellipsis := hz₁
  refine wpAny_bind ?_
  simp only [List.zipIdx_cons, List.zipIdx_nil, List.forIn_cons, List.forIn_nil]
  refine wpAny_bind (wpAny_bind (wpAny_onRaise ?_))
  show wpAny _ _ (Builtin.SmallTypes.nextOf (.ref i1) >>= _) _ _ _
  refine wpAny_bind (D1.done _ _ _ (D1.frame _ _ _ h1 fun b hb o e => hs₁.extBut _ _ (nmem D.z1 hb) e) fun h₂ e hs₂ he => ?_)
  obtain ⟨oe, hoe, hce⟩ := he
  have hz₂ : IsZip h₂ z TI TO .ellipsis := hs₂ _ _ D.i1z.symm hz₁
  have hez : e ≠ z := fun x => by subst x; rw [hz₂] at hoe; cases hoe; simp at hce
  exact wpAny_setField_rec hz₂ (by simp) fun h₃ _ hs₃ => hE h₃ _ e (fun c o c1 c3 x => hs₃.extBut _ _ c1 (hs₂ _ _ c3 (hs₁.extBut _ _ c1 x))) ⟨oe, hs₃.extBut _ _ hez hoe, hce⟩
theorem zipT_next {k : Nat} {a b c : Value} {Q : Option Value → Shared → Prop} (D : ZA3 z TI TO i1 i2 i3 f1 f2 f3) (D1 : Draws prog w A.in1 i1 f1 n1 P1 S1) (D2 : Draws prog w A.in1 i2 f2 n2 P2 S2) (D3 : Draws prog w A.in1 i3 f3 n3 P3 S3)
    (hz : IsZip s.heap z TI TO .none) (hTI : IsTri s.heap TI (.ref i1) (.ref i2) (.ref i3)) (hTO : IsTri s.heap TO a b c) (h1 : S1 k s.heap) (h2 : S2 k s.heap) (h3 : S3 k s.heap) (k1 : k < n1) (k2 : k < n2) (k3 : k < n3)
    (hQ : ∀ h' tk x y v, P1 k x → P2 k y → P3 k v → IsZip h' z TI TO (rawInt s.heap.objs.size) → IsTri h' TO x y v → S1 (k + 1) h' → S2 (k + 1) h' → S3 (k + 1) h' → IsTri h' s.heap.objs.size x y v →
      (∀ c o, c ≠ z → c ≠ TO → c ≠ i1 → c ≠ i2 → c ≠ i3 → s.heap.get? c = some o → h'.get? c = some o) → Q (some (.ref s.heap.objs.size)) { s with heap := h', toks := tk }) :
    wpAny (model prog w) A (pyNext (.ref z)) Q E s := by
  have hT : s.TypeIs (.ref z) "zip" := ⟨_, hz, rfl⟩
  unfold pyNext
  exact wpAny_bind (wpAny_attempt (wpAny_callSpecial?_slot (name := Str.ofString "__next__") hT F.slot_zip_next
    (wpAny_call_entry F.slot_zip_next hT F.entry_zip_next
      (zipT_item D D1 D2 D3 hz hTI hTO h1 h2 h3 k1 k2 k3 fun h' tk x y v p1 p2 p3 a1 a2 a3 a4 a5 a6 a7 => wpAny_pure (hQ h' tk x y v p1 p2 p3 a1 a2 a3 a4 a5 a6 a7)) (F.args_zip_next_1 _))))
theorem zipT_stop {a b c : Value} {Q : Option Value → Shared → Prop} (D : ZA3 z TI TO i1 i2 i3 f1 f2 f3) (D1 : Draws prog w A.in1 i1 f1 n1 P1 S1)
    (hz : IsZip s.heap z TI TO .none) (hTI : IsTri s.heap TI (.ref i1) (.ref i2) (.ref i3)) (hTO : IsTri s.heap TO a b c) (h1 : S1 n1 s.heap)
    (hQ : ∀ h' tk, (∀ c o, c ≠ z → c ≠ i1 → s.heap.get? c = some o → h'.get? c = some o) → Q none { s with heap := h', toks := tk }) : wpAny (model prog w) A (pyNext (.ref z)) Q E s := by
  have hT : s.TypeIs (.ref z) "zip" := ⟨_, hz, rfl⟩
  unfold pyNext
  refine wpAny_bind (wpAny_attempt (wpAny_callSpecial?_slot (name := Str.ofString "__next__") hT F.slot_zip_next
    (wpAny_call_entry F.slot_zip_next hT F.entry_zip_next (zipT_end (k := 0) D D1 hz hTI hTO h1 fun h' tk e hk he => ?_) (F.args_zip_next_1 _))))
  obtain ⟨o, ho, hc⟩ := he
  refine wpAny_bind (wpAny_isInstance (T := "StopIteration") (b := true) ⟨o, ho, hc⟩ isSubtype_stop ?_)
  exact wpAny_pure (hQ _ _ hk)
theorem call_zipS3 {x : Str} {t : Tok} {l m : Addr} {ys zs : Array Value} {Q : Value → Shared → Prop} (hl : s.heap.IsList l ys) (hm : s.heap.IsList m zs)
    (h : ∀ h', IsZip h' (s.heap.objs.size + 5) (s.heap.objs.size + 3) (s.heap.objs.size + 4) .none → IsTri h' (s.heap.objs.size + 3) (.ref s.heap.objs.size) (.ref (s.heap.objs.size + 1)) (.ref (s.heap.objs.size + 2)) →
      IsTri h' (s.heap.objs.size + 4) .none .none .none → h'.IsStrIter s.heap.objs.size (strIterType x) x t 0 → h'.IsListIter (s.heap.objs.size + 1) l 0 → h'.IsListIter (s.heap.objs.size + 2) m 0 →
      (∀ c o, s.heap.get? c = some o → h'.get? c = some o) → Q (.ref (s.heap.objs.size + 5)) { s with heap := h' }) :
    wpAny (model prog w) A (call (.type "zip") [.str x t, .ref l, .ref m]) Q E s := by
  refine callType_new F.called_zip (by decide) (typeCall_zip3 _ _ _) (newCall_zip3 _ _ _) (fun obj => args_init4 obj _ _ _) F.entry_zip_new
    (meets_zipS3 x t l m ys zs) ⟨⟨hl, hm⟩, ?_⟩
  have z1 : (yH1 s.heap x t).objs.size = s.heap.objs.size + 1 := Heap.size_push ..
  have z2 : (yH2 s.heap x t l).objs.size = s.heap.objs.size + 2 := by rw [Heap.size_push, z1]
  have z3 : (yH3 s.heap x t l m).objs.size = s.heap.objs.size + 3 := by rw [Heap.size_push, z2]
  have z4 : (yH4 s.heap x t l m).objs.size = s.heap.objs.size + 4 := by rw [Heap.size_push, z3]
  have z5 : (yH5 s.heap x t l m).objs.size = s.heap.objs.size + 5 := by rw [Heap.size_push, z4]
  have p : ∀ {h : Heap} {o : Obj} {b : Addr} {v : Obj}, h.get? b = some v → (h.push o).get? b = some v := fun e => Heap.get?_push_of_some _ e
  have g6 : (yH6 s.heap x t l m).get? (yH5 s.heap x t l m).objs.size = some _ := Heap.get?_push_size _ rfl
  have g5 : (yH6 s.heap x t l m).get? (yH4 s.heap x t l m).objs.size = some _ := p (Heap.get?_push_size _ rfl)
  have g4 : (yH6 s.heap x t l m).get? (yH3 s.heap x t l m).objs.size = some _ := p (p (Heap.get?_push_size _ rfl))
  have g3 : (yH6 s.heap x t l m).get? (yH2 s.heap x t l).objs.size = some _ := p (p (p (Heap.get?_push_size _ rfl)))
  have g2 : (yH6 s.heap x t l m).get? (yH1 s.heap x t).objs.size = some _ := p (p (p (p (Heap.get?_push_size _ rfl))))
  have g1 : (yH6 s.heap x t l m).get? s.heap.objs.size = some _ := p (p (p (p (p (Heap.get?_push_size _ rfl)))))
  show _ ∧ _
  rw [z3, z4, z5] at g6
  rw [z1, z2, z3] at g4
  rw [z4] at g5
  rw [z2] at g3
  rw [z1] at g2
  rw [z5]
  exact ⟨⟨_, g6, rfl⟩, h _ g6 g4 g5 ⟨_, g1, rfl, rfl⟩ ⟨_, g2, rfl, rfl⟩ ⟨_, g3, rfl, rfl⟩ fun c o e => p (p (p (p (p (p e)))))⟩
end
noncomputable def zfp3 (n : Addr) : List Addr := [n + 5, n + 3, n + 4, n, n + 1, n + 2]
theorem zfp3_mem {n b : Addr} (h : b ∈ zfp3 n) : b = n + 5 ∨ b = n + 3 ∨ b = n + 4 ∨ b = n ∨ b = n + 1 ∨ b = n + 2 := by simpa [zfp3] using h
theorem zfp3_ge {n b : Nat} (h : b ∈ zfp3 n) : n ≤ b := by
  rcases zfp3_mem h with q | q | q | q | q | q <;> (rw [q]; omega)
theorem zfp3_not {n b : Addr} (h : b ∉ zfp3 n) : b ≠ n + 5 ∧ b ≠ n + 3 ∧ b ≠ n + 4 ∧ b ≠ n ∧ b ≠ n + 1 ∧ b ≠ n + 2 := by simpa [zfp3] using h
noncomputable def zoff3 (C : Cx) (n : Addr) (b : Addr) : Prop := C.off b ∨ (b = n + 3 ∨ b = n + 4)
theorem no1 {n a : Nat} (h : a ≠ 0) : n + a ∉ [n] := fun q => adr_ne (b := 0) h (List.mem_singleton.mp q)
theorem no2 {n a b l : Nat} (h : a ≠ b) (hl : l < n) : n + a ∉ [n + b, l] := fun q => (List.mem_cons.mp q).elim (adr_ne h) fun q => Nat.ne_of_gt (Nat.lt_add_right a hl) (List.mem_singleton.mp q)
theorem zip_ZA3 {n l m : Nat} (h : l < n) (h' : m < n) : ZA3 (n + 5) (n + 3) (n + 4) n (n + 1) (n + 2) [n] [n + 1, l] [n + 2, m] where
  TIz := adr_ne (by decide)
  TOz := adr_ne (by decide)
  i1z := adr_ne (a := 0) (by decide)
  i2z := adr_ne (by decide)
  i3z := adr_ne (by decide)
  TOi1 := adr_ne (b := 0) (by decide)
  TOi2 := adr_ne (by decide)
  TOi3 := adr_ne (by decide)
  z1 := no1 (by decide)
  z2 := no2 (by decide) h
  z3 := no2 (by decide) h'
  T1 := no1 (by decide)
  T2 := no2 (by decide) h
  T3 := no2 (by decide) h'
  x12 := no2 (a := 0) (by decide) h
  x13 := no2 (a := 0) (by decide) h'
  x21 := no1 (by decide)
  x23 := no2 (by decide) h'
  x31 := no1 (by decide)
  x32 := no2 (by decide) h
noncomputable def ZipT (n l m : Addr) (x : Str) (t : Tok) (i : Nat) (h : Heap) : Prop :=
  IsZip h (n + 5) (n + 3) (n + 4) .none ∧ IsTri h (n + 3) (.ref n) (.ref (n + 1)) (.ref (n + 2)) ∧ (∃ a b c, IsTri h (n + 4) a b c) ∧ h.IsStrIter n (strIterType x) x t i ∧ h.IsListIter (n + 1) l i ∧ h.IsListIter (n + 2) m i ∧ i ≤ x.cps.size
theorem zipT_there {C : Cx} {n l m : Addr} {x : Str} {t : Tok} {i : Nat} {h : Heap} (hp : ZipT n l m x t i h) (b : Addr) (hb : b ∈ zfp3 n) : ∃ o, h.get? b = some o ∧ ((∃ vs, o.data = .fields vs) ∨ ∃ vs n, o.data = .seq vs n) ∧ o.cls ≠ .type "frame" ∧ (zoff3 C n b ∨ isVal o = false) := by
  obtain ⟨hz, hTI, ⟨a, c, e, hTO⟩, ⟨o1, h1, h2, h3⟩, hi, hj, _⟩ := hp
  have tf : Value.type "tuple" ≠ Value.type "frame" := by decide
  rcases zfp3_mem hb with rfl | rfl | rfl | rfl | rfl | rfl
  · exact ⟨_, hz, .inl ⟨_, rfl⟩, (iterObj (n := "zip") rfl rfl (by decide) (by decide)).1, .inr (iterObj (n := "zip") rfl rfl (by decide) (by decide)).2⟩
  · exact ⟨_, hTI, .inr ⟨_, _, rfl⟩, tf, .inl (.inr (.inl rfl))⟩
  · exact ⟨_, hTO, .inr ⟨_, _, rfl⟩, tf, .inl (.inr (.inr rfl))⟩
  · have q := iterObj h3 h2 (strIter_ne x).1 (strIter_ne x).2.1
    exact ⟨o1, h1, .inl ⟨_, h3⟩, q.1, .inr q.2⟩
  · obtain ⟨o, vs, q1, q2, q3, q4⟩ := li_obj hi
    exact ⟨o, q1, .inl ⟨vs, q2⟩, q3, .inr q4⟩
  · obtain ⟨o, vs, q1, q2, q3, q4⟩ := li_obj hj
    exact ⟨o, q1, .inl ⟨vs, q2⟩, q3, .inr q4⟩
theorem zipL3_get {a b c : List V} {i : Nat} {v : V} (h : (zipL3 a b c)[i]? = some v) : ∃ x y z, a[i]? = some x ∧ b[i]? = some y ∧ c[i]? = some z ∧ v = .tuple [x, y, z] := by
  unfold zipL3 at h
  rw [List.getElem?_zipWith] at h
  split at h
  · rename_i x p h1 h2
    cases h
    obtain ⟨h3, h4⟩ := List.getElem?_zip_eq_some.mp h2
    exact ⟨x, p.1, p.2, h1, h3, h4, rfl⟩
  · cases h
theorem iter_zip3 {C : Cx} {d : Nat} {elts : List Expr} {k0 : Nat} {tp : Pos} {ρ₀ : List Addr} {n l m : Addr} {x : List Nat} {t : Tok} {xs ys : List V} (hl : l < n) (hm : m < n) (hx1 : x.length ≤ xs.length) (hx2 : x.length ≤ ys.length) (hno : ∀ b, b ∈ zfp3 n → ¬ C.off b) :
    IterZ C d (zoff3 C n) (.Tuple elts k0 tp) (zipL3 (charsOf x) xs ys) [] (.ref (n + 5)) (zfp3 n) (ZipT n l m ⟨x.toArray⟩ t) ρ₀ [.flist xs, .flist ys] [.ref l, .ref m] where
  frame := fun i h h' hp hk => by
    obtain ⟨hz, hTI, ⟨a, c, e, hTO⟩, ⟨o1, h1, h2⟩, hi, hj, hle⟩ := hp
    have k := fun b hb o e => hk b hb o e
    exact ⟨k _ (by simp [zfp3]) _ hz, k _ (by simp [zfp3]) _ hTI, ⟨a, c, e, k _ (by simp [zfp3]) _ hTO⟩, ⟨o1, k _ (by simp [zfp3]) _ h1, h2⟩, hi.at fun o e => k _ (by simp [zfp3]) o e, hj.at fun o e => k _ (by simp [zfp3]) o e, hle⟩
  there := fun i h hp b hb => zipT_there hp b hb
  next := fun i A s ρ obs Q R E v hA hInv hK hpre hchk hp hn hv hR hQ => by
    have hK2 := vrs_head hK
    obtain ⟨is1, hl1, hv1⟩ := vr_flist hK2.1
    obtain ⟨is2, hl2, hv2⟩ := vr_flist (vrs_head hK2.2).1
    obtain ⟨ch, y, u, h1, h2, h3, rfl⟩ := zipL3_get hv
    obtain ⟨c, hc, rfl⟩ := chars_get h1
    obtain ⟨yv, hy, hyv⟩ := hv1.getA h2
    obtain ⟨uv, hu, huv⟩ := hv2.getA h3
    obtain ⟨hz, hTI, ⟨a, b, e, hTO⟩, hi1, hi2, hi3, le1⟩ := id hp
    have hxs : (⟨x.toArray⟩ : Str).cps[i]? = some c := by simpa using hc
    have hh : A.in1.handled = none := hA.handled
    refine zipT_next (zip_ZA3 hl hm) (str_draws hh n ⟨x.toArray⟩ t) (Draws.list hh (n + 1) l (Nat.ne_of_lt (Nat.lt_succ_of_lt hl)) is1) (Draws.list hh (n + 2) m (Nat.ne_of_lt (Nat.lt_add_right 2 hm)) is2) hz hTI hTO hi1 ⟨hi2, hl1⟩ ⟨hi3, hl2⟩ (Array.getElem?_eq_some_iff.mp hxs).1 (Array.getElem?_eq_some_iff.mp hy).1 (Array.getElem?_eq_some_iff.mp hu).1 fun h' tk xv yv' uv' p1 p2 p3 hz' hTO' h1' h2' h3' hT hk => hR _ _ ?_
    obtain ⟨c', tk', q1, rfl⟩ := p1
    rw [hxs] at q1; cases q1
    have e2 : yv' = yv := by have : is1[i]? = some yv' := p2; rw [hy] at this; exact (Option.some.inj this).symm
    have e3 : uv' = uv := by have : is2[i]? = some uv' := p3; rw [hu] at this; exact (Option.some.inj this).symm
    subst e2 e3
    refine wpAny_letOwnedTupleGo_zip hz' fun h'' hz'' hs'' => ?_
    have keep : ∀ b o, b ∉ zfp3 n → s.heap.get? b = some o → h''.get? b = some o := fun b o hb q => by
      obtain ⟨n1, n2, n3, n4, n5, n6⟩ := zfp3_not hb
      exact (hs''.2 b n1).trans (hk b o n1 n3 n4 n5 n6 q)
    have eV : ExtV (C.at (zoff3 C n)) s.heap ρ h'' ρ := ⟨⟨[], by simp⟩, fun b o hb hn' hv' => ⟨keep b o (fun q => by
      obtain ⟨o', q1, _, _, q2⟩ := zipT_there (C := C) hp b q
      rw [hb] at q1; cases q1
      exact q2.elim (fun z => hn'.2 z) fun z => by rw [z] at hv'; cases hv') hb, hn'.1⟩⟩
    have hnew : s.heap.get? s.heap.objs.size = none := Heap.get?_none_of_le (Nat.le_refl _)
    have hane : s.heap.objs.size ≠ n + 5 := Nat.ne_of_gt (Heap.lt_size hz)
    have up : ∀ {b : Addr} {o : Obj}, b ≠ n + 5 → h'.get? b = some o → h''.get? b = some o := fun hb q => (hs''.2 _ hb).trans q
    obtain ⟨o1, g1, g2⟩ := h1'
    refine hQ _ h'' _ ?_ ⟨hz'', up (adr_ne (by decide)) (hk _ _ (adr_ne (by decide)) (adr_ne (by decide)) (adr_ne (b := 0) (by decide)) (adr_ne (by decide)) (adr_ne (by decide)) hTI), ⟨_, _, _, up (adr_ne (by decide)) hTO'⟩, ⟨o1, up (adr_ne (a := 0) (by decide)) g1, g2⟩, h2'.1.at fun o e => up (adr_ne (by decide)) e, h3'.1.at fun o e => up (adr_ne (by decide)) e, (Array.getElem?_eq_some_iff.mp hxs).1⟩ keep
    simp only [vR0, vR1, vR2, vR3, vR4, vR5, vR6, vR7, vR8, vR9, vR10, vR11, vR12, vR13, vS0, vS1]
    exact ⟨_, #[.str ⟨#[c]⟩ tk', yv', uv'], rfl, ⟨_, up hane hT, rfl, 0, rfl⟩, ⟨hInv.notIn hnew, hInv.notOff hnew⟩, _, _, rfl, ⟨tk', by simp⟩, _, _, rfl, hyv.ext eV, _, _, rfl, huv.ext eV, rfl⟩
  done := fun i A s ρ obs Q E hA hInv hK hpre hchk hp hn hv hQ => by
    obtain ⟨hz, hTI, ⟨a, b, e, hTO⟩, hi1, hi2, hi3, le1⟩ := id hp
    have hi : i = (⟨x.toArray⟩ : Str).cps.size := by
      have e1 : (⟨x.toArray⟩ : Str).cps.size = x.length := by simp
      unfold zipL3 at hv
      rw [List.getElem?_eq_none_iff, List.length_zipWith, List.length_zip] at hv
      have e2 : (charsOf x).length = x.length := by simp [charsOf]
      rw [e1] at le1 ⊢
      omega
    rw [hi] at hi1
    refine zipT_stop (zip_ZA3 hl hm) (str_draws (show A.in1.handled = none from hA.handled) n ⟨x.toArray⟩ t) hz hTI hTO hi1 fun h' tk hk => hQ h' tk (fun b o hb q => ?_) fun b hb q => ?_
    · obtain ⟨n1, n2, n3, n4, n5, n6⟩ := zfp3_not hb
      exact hk b o n1 n4 q
    · rcases q with q | rfl | rfl
      · exact absurd q (hno b hb)
      · exact ⟨_, hk _ _ (adr_ne (by decide)) (adr_ne (b := 0) (by decide)) hTI⟩
      · exact ⟨_, hk _ _ (adr_ne (by decide)) (adr_ne (b := 0) (by decide)) hTO⟩
end Mine
set_option autoImplicit false
set_option linter.unusedVariables false
namespace Mine
open PySem PyProof.Rows

/- names of the built-ins that the laws call -/
noncomputable def bltTab : List (Str × Value) := [(nm "len", .builtin "len"), (nm "isinstance", .builtin "isinstance"), (nm "sorted", .builtin "sorted"), (nm "max", .builtin "max"), (nm "list", .type "list"), (nm "tuple", .type "tuple"), (nm "int", .type "int"), (nm "str", .type "str"),
  (nm "set", .type "set"), (nm "dict", .type "dict"), (nm "range", .type "range"), (nm "enumerate", .type "enumerate"), (nm "zip", .type "zip"), (nm "bool", .type "bool"), (nm "ValueError", .type "ValueError")]
structure CxOk (C : Cx) (G : GI) : Prop where
  g : C.base.Ns mainGlobals C.mg
  b : C.base.Ns builtinsNs C.mb
  lim : C.base.NoLimit
  sys : ∃ o, C.base.get? sysModules = some o
  blt : ∀ x v, bltTab.lookup x = some v → G.fns.contains x = false → G.clss.contains x = false → (G.consts.lookup x).isNone = true → C.mg x = none ∧ C.mb x = some v
  const : ∀ x v, G.consts.lookup x = some v → ∃ val, C.mg x = some val ∧ ∀ h ρ, VR C h ρ v val
  cls : ∀ x, G.clss.contains x = true → ∃ a, C.mg x = some (.ref a)
section
variable {C : Cx} {d : Nat} {env : Env} {sc : Scope} {ns : List Str} {G : GI}
theorem Heap.Ns.grow {h h' : Heap} {a : Addr} {m : Str → Option Value} (x : h.Ns a m) (k : h.StaysIn h') : h'.Ns a m := let ⟨o, es, ep, h1, h2⟩ := x; ⟨o, es, ep, k _ _ h1, h2⟩
/- a global name of the text -/
theorem load_own (hC : CxOk C G) (hE : EnvOk env sc) {A : Around} {x : Str} {pos : Pos} {v : Value} {s : Shared} {ρ : List Addr} {st : St} {Q : Value → Shared → Prop} {E : Value → Shared → Prop} (hS : State C env sc ns s ρ st) (hx : isGlob sc x = true) (hv : C.mg x = some v) (h : Q v s) :
    wpAny (model C.prog C.w) A (eval (.Name x pos) env) Q E s :=
  Calls.Name_function_global hE.kind (hE.gl x hx) (Calls.loadGlobal_global (by rw [hE.glob]; exact Heap.Ns.grow hC.g hS.inv.base) hv h) (hE.dbg x (.inl hx))
theorem load_blt (hC : CxOk C G) (hE : EnvOk env sc) {A : Around} {x : Str} {pos : Pos} {v : Value} {s : Shared} {ρ : List Addr} {st : St} {Q : Value → Shared → Prop} {E : Value → Shared → Prop} (hS : State C env sc ns s ρ st) (hx : isGlob sc x = true) (h1 : C.mg x = none) (h2 : C.mb x = some v) (h : Q v s) :
    wpAny (model C.prog C.w) A (eval (.Name x pos) env) Q E s :=
  Calls.Name_function_global hE.kind (hE.gl x hx) (Calls.loadGlobal_builtin (by rw [hE.glob]; exact Heap.Ns.grow hC.g hS.inv.base) h1 (by rw [hE.blt]; exact Heap.Ns.grow hC.b hS.inv.base) h2 h) (hE.dbg x (.inl hx))

/- arguments -/
noncomputable def starE : Expr → Bool
  | .Starred .. => true
  | _ => false
noncomputable def ArgR (C : Cx) (d : Nat) (env : Env) (sc : Scope) (ns : List Str) (e : Expr) (m : M V) : Prop := starE e = false ∧ SndE C d env sc ns e m
theorem star_cons {e : Expr} {r : List Expr} (h : starE e = false) : starEach (e :: r) env = (false, eval e env) :: starEach r env := by
  cases e <;> first | rfl | cases h
theorem snd_args {pos : Pos} : ∀ {es : List Expr} {ms : List (M V)}, All2 (ArgR C d env sc ns) es ms → Snd C d env sc ns (VRs C) Nil (spliced (backTo pos (starEach es env))) (seqM ms)
  | [], [], _ => .of fun A s ρ st Q E X hA hS hw => wpAny_items_nil (hw.1 _ _ _ (by simp only [vS0, vS1]) hS (.refl ..))
  | e :: es, m :: ms, h => .of fun A s ρ st Q E X hA hS hw => by
    refine wpAny_items_cons ?_ (star_cons h.1.1)
    refine h.1.2.then hA hS hw fun v val s₁ ρ₁ st₁ r₁ S₁ e₁ hw₁ => ?_
    refine (snd_args h.2).then hA S₁ hw₁ fun vs vals s₂ ρ₂ st₂ r₂ S₂ e₂ hw₂ => ?_
    exact hw₂.1 _ _ _ (by simp only [vS0, vS1]; exact ⟨val, vals, rfl, r₁.ext e₂.extN, r₂⟩) S₂ (.refl ..)
  | [], _ :: _, h => h.elim
  | _ :: _, [], h => h.elim
theorem args_plain {pos : Pos} : ∀ {es : List Expr} {ms : List (M V)}, All2 (ArgR C d env sc ns) es ms → (backTo pos (starEach es env)).any (·.1) = false
  | [], [], _ => rfl
  | e :: es, m :: ms, h => by rw [star_cons h.1.1]; exact args_plain h.2
  | [], _ :: _, h => h.elim
  | _ :: _, [], h => h.elim
theorem evalArgs_any {M : Model} {A : Around} {E : Value → Shared → Prop} {s : Shared} {pos : Pos} {f : Value} {es : List Expr} {ms : List (Mine.M V)} {Q : Args → Shared → Prop} (ha : All2 (ArgR C d env sc ns) es ms)
    (h : wpAny M A (spliced (backTo pos (starEach es env))) (fun vs s' => Q ⟨vs, []⟩ s') E s) : wpAny M A (evalArgs f true (backTo pos (starEach es env)) []) Q E s := by
  cases es with
  | nil =>
    unfold evalArgs
    show wpAny M A (spliced [] >>= _) Q E s
    refine wpAny_bind (wpAny_mono h (fun vs s' h' => ?_) fun _ _ x => x)
    refine wpAny_holding ?_
    exact wpAny_bind (wpAny_pure (wpAny_bind (wpAny_pure (wpAny_pure h'))))
  | cons e es =>
    cases ms with
    | nil => exact ha.elim
    | cons m ms =>
      rw [star_cons ha.1.1] at h ⊢
      exact Calls.evalArgs_plain h

/- a call of a built-in function, of a type, of a def: the arguments, then the call -/
/- enumerate -/
theorem enum_get {xs : List V} {k i : Nat} {v : V} (h : (enumFrom k xs)[i]? = some v) : ∃ x, xs[i]? = some x ∧ v = .tuple [.int ((k + i : Nat) : Int), x] := by
  induction xs generalizing k i with
  | nil => simp [enumFrom] at h
  | cons x xs ih =>
    cases i with
    | zero => simp [enumFrom] at h; exact ⟨x, rfl, by rw [← h]; simp⟩
    | succ i =>
      simp [enumFrom] at h
      obtain ⟨y, h1, h2⟩ := ih h
      exact ⟨y, by simpa using h1, by rw [h2]; congr 3; omega⟩
theorem enum_none {xs : List V} {k i : Nat} (h : (enumFrom k xs)[i]? = none) : xs[i]? = none := by
  induction xs generalizing k i with
  | nil => simp
  | cons x xs ih =>
    cases i with
    | zero => simp [enumFrom] at h
    | succ i => simp [enumFrom] at h; simpa using ih (k := k + 1) (by simpa using h)
noncomputable def EnumP (e I ax : Addr) (i : Nat) (h : Heap) : Prop := (∃ old, IsEnum h e I i old) ∧ h.IsListIter I ax i
theorem en_there {e I ax : Addr} {i : Nat} {h : Heap} (hp : EnumP e I ax i h) (b : Addr) (hb : b ∈ [e, I]) : ∃ o vs, h.get? b = some o ∧ o.data = .fields vs ∧ o.cls ≠ .type "frame" ∧ isVal o = false := by
  rcases List.mem_cons.mp hb with rfl | hb
  · obtain ⟨old, q⟩ := hp.1
    exact ⟨_, _, q, rfl, iterObj (n := "enumerate") rfl rfl (by decide) (by decide)⟩
  · cases mem_one hb
    exact li_obj hp.2
theorem en_next {f : Addr → Prop} {elts : List Expr} {k0 : Nat} {tp : Pos} {A : Around} {s : Shared} {ρ : List Addr} {obs : List Ob} {e I ax : Addr} {i : Nat} {xs : List V} {items : Array Value} {v : V} {Q : Value → Shared → Prop} {R : Option Value → Shared → Prop} {E : Value → Shared → Prop}
    (hA : AOk d A) (hInv : Inv (C.at f) s.heap ρ obs) (heI : e ≠ I) (hax : ax ≠ I) (hae : ax ≠ e) (hl : s.heap.IsList ax items) (hvs : VRs (C.at f) s.heap ρ xs items.toList) (hp : EnumP e I ax i s.heap) (hv : (enumFrom 0 xs)[i]? = some v)
    (hR : ∀ val s₁, wpAny (model C.prog C.w) A (letOwnedTupleGo (.Tuple elts k0 tp) (.ref e) val) (fun _ s₂ => Q val s₂) E s₁ → R (some val) s₁)
    (hQ : ∀ val h' tk, VR (C.at f) h' ρ v val → EnumP e I ax (i + 1) h' → (∀ b o, b ∉ [e, I] → s.heap.get? b = some o → h'.get? b = some o) → Q val { s with heap := h', toks := tk }) : wpAny (model C.prog C.w) A (pyNext (.ref e)) R E s := by
  obtain ⟨x, hx, rfl⟩ := enum_get hv
  obtain ⟨y, hy, hyv⟩ := hvs.getA hx
  obtain ⟨⟨old, he⟩, hit⟩ := id hp
  have hi : i < items.size := (Array.getElem?_eq_some_iff.mp hy).1
  refine wpAny_pyNext_enum_itemD (Draws.list (show A.in1.handled = none from hA.handled) I ax hax items) he ⟨hit, hl⟩ hi heI (by simp [heI, Ne.symm hae]) fun z h' tk hz hout hst htup hsz hk => hR _ _ ?_
  have hzy : z = y := by have : items[i]? = some z := hz; rw [hy] at this; exact (Option.some.inj this).symm
  subst hzy
  refine wpAny_letOwnedTupleGo_enum hout fun h'' he'' hs'' => ?_
  have hane : s.heap.objs.size ≠ e := Nat.ne_of_gt (Heap.lt_size he)
  have keep : ∀ b o, b ∉ [e, I] → s.heap.get? b = some o → h''.get? b = some o := fun b o hb q => (hs''.2 b fun z => hb (by simp [z])).trans (hk b o (fun z => hb (by simp [z])) (fun z => hb (by simp [z])) q)
  have eV : ExtV (C.at f) s.heap ρ h'' ρ := ⟨⟨[], by simp⟩, fun b o hb hn' hv' => ⟨keep b o (fun q => by
    obtain ⟨o', _, q1, _, _, q2⟩ := en_there hp b q
    rw [hb] at q1; cases q1; rw [q2] at hv'; cases hv') hb, hn'.1⟩⟩
  have hnew : s.heap.get? s.heap.objs.size = none := Heap.get?_none_of_le (Nat.le_refl _)
  refine hQ _ h'' _ ?_ ⟨⟨_, by have := he''; rw [show ((i : Int) + 1) = ((i + 1 : Nat) : Int) from by omega] at this; exact this⟩, ?_⟩ keep
  · simp only [vR0, vR1, vR2, vR3, vR4, vR5, vR6, vR7, vR8, vR9, vR10, vR11, vR12, vR13, vS0, vS1]
    exact ⟨_, #[.int i tk, z], rfl, ⟨_, (hs''.2 _ hane).trans htup, rfl, 0, rfl⟩, ⟨hInv.notIn hnew, hInv.notOff hnew⟩, _, _, rfl, ⟨tk, by simp⟩, _, _, rfl, hyv.ext eV, rfl⟩
  · obtain ⟨o', q1, q2⟩ := hst.1
    exact ⟨o', (hs''.2 I (Ne.symm heI)).trans q1, q2⟩
theorem en_frame {e I ax : Addr} {i : Nat} {h h' : Heap} (hp : EnumP e I ax i h) (hk : ∀ b : Addr, b ∈ [e, I] → ∀ o, h.get? b = some o → h'.get? b = some o) : EnumP e I ax i h' :=
  ⟨let ⟨o, q⟩ := hp.1; ⟨o, hk e (by simp) _ q⟩, hp.2.at fun o q => hk I (by simp) o q⟩
theorem en_done {A : Around} {s : Shared} {e I ax : Addr} {i : Nat} {items : Array Value} {Q : Option Value → Shared → Prop} {E : Value → Shared → Prop} (hA : AOk d A) (hl : s.heap.IsList ax items) (hp : EnumP e I ax i s.heap) (hx : items[i]? = none)
    (hQ : ∀ h' tk, (∀ b o, b ∉ [e, I] → s.heap.get? b = some o → h'.get? b = some o) → Q none { s with heap := h', toks := tk }) : wpAny (model C.prog C.w) A (pyNext (.ref e)) Q E s := by
  obtain ⟨⟨old, he⟩, hit⟩ := hp
  exact wpAny_pyNext_enum_end hA.handled he hit hl hx fun h' hx => hQ h' s.toks fun b o hb q => hx b o (fun z => hb (by simp [z])) q
theorem iter_enum_list {elts : List Expr} {k0 : Nat} {tp : Pos} {ρ₀ : List Addr} {e I ax : Addr} {r : Nat} {xs : List V} (hr : ρ₀[r]? = some ax) (heI : e ≠ I) (hax : ax ≠ I) (hae : ax ≠ e) :
    IterOk C d (.Tuple elts k0 tp) (enumFrom 0 xs) [(r, .list xs)] (.ref e) [e, I] (EnumP e I ax) ρ₀ [] [] where
  frame := fun i h h' hp hk => en_frame hp hk
  there := fun i h hp b hb => en_there hp b hb
  next := fun f i A s ρ obs Q R E v hA hInv hK hpre hchk hp hn hv hR hQ => by
    obtain ⟨t, rfl⟩ := hpre
    have hax' : (ρ₀ ++ t)[r]? = some ax := by rw [List.getElem?_append_left (List.getElem?_eq_some_iff.mp hr).1]; exact hr
    obtain ⟨items, n, hl, hvs⟩ := hInv.list (hchk (r, .list xs) (by simp)) hax'
    exact en_next hA hInv heI hax hae ⟨_, hl, rfl, n, rfl⟩ hvs hp hv hR hQ
  done := fun f i A s ρ obs Q E hA hInv hK hpre hchk hp hn hv hQ => by
    obtain ⟨t, rfl⟩ := hpre
    have hax' : (ρ₀ ++ t)[r]? = some ax := by rw [List.getElem?_append_left (List.getElem?_eq_some_iff.mp hr).1]; exact hr
    obtain ⟨items, n, hl, hvs⟩ := hInv.list (hchk (r, .list xs) (by simp)) hax'
    exact en_done hA ⟨_, hl, rfl, n, rfl⟩ hp (hvs.noneA (enum_none hv)) hQ
  self := fun i A s Q E hp hQ => let ⟨⟨old, he⟩, _⟩ := hp; wpAny_pyIter_enum he hQ
theorem iter_enum_flist {elts : List Expr} {k0 : Nat} {tp : Pos} {ρ₀ : List Addr} {e I ax : Addr} {xs : List V} (heI : e ≠ I) (hax : ax ≠ I) (hae : ax ≠ e) :
    IterOk C d (.Tuple elts k0 tp) (enumFrom 0 xs) [] (.ref e) [e, I] (EnumP e I ax) ρ₀ [.flist xs] [.ref ax] where
  frame := fun i h h' hp hk => en_frame hp hk
  there := fun i h hp b hb => en_there hp b hb
  next := fun f i A s ρ obs Q R E v hA hInv hK hpre hchk hp hn hv hR hQ => by
    obtain ⟨items, hl, hvs⟩ := vr_flist (vrs_head hK).1
    exact en_next hA hInv heI hax hae hl hvs hp hv hR hQ
  done := fun f i A s ρ obs Q E hA hInv hK hpre hchk hp hn hv hQ => by
    obtain ⟨items, hl, hvs⟩ := vr_flist (vrs_head hK).1
    exact en_done hA hl hp (hvs.noneA (enum_none hv)) hQ
  self := fun i A s Q E hp hQ => let ⟨⟨old, he⟩, _⟩ := hp; wpAny_pyIter_enum he hQ
end
end Mine
set_option autoImplicit false
set_option linter.unusedVariables false
namespace Mine
open PySem PyProof.Rows
section
variable {C : Cx} {d : Nat} {env : Env} {sc : Scope} {ns : List Str}
theorem fresh_none {s : Shared} : s.heap.get? s.heap.objs.size = none := Heap.get?_none_of_le (Nat.le_refl _)
theorem State.notIn {s : Shared} {ρ : List Addr} {st : St} (hS : State C env sc ns s ρ st) {a : Addr} (h : s.heap.get? a = none) : a ∉ ρ := hS.inv.notIn h
theorem State.notB {s : Shared} {ρ : List Addr} {st : St} (hS : State C env sc ns s ρ st) {a : Addr} (h : s.heap.get? a = none) : C.base.get? a = none := hS.inv.notB h
theorem State.free {s : Shared} {ρ : List Addr} {st : St} (hS : State C env sc ns s ρ st) {a : Addr} (h : s.heap.get? a = none) : Free C ρ a := ⟨hS.inv.notIn h, hS.inv.notOff h⟩
/- a new thing of the ledger -/
theorem State.made {s : Shared} {ρ : List Addr} {st : St} (hS : State C env sc ns s ρ st) {h' : Heap} {tk : Nat} {D : Addr} {o : Ob} (g : Grows s.heap h') (hD : s.heap.get? D = none) (r : OR C h' (ρ ++ [D]) o D) :
    State C env sc ns { s with heap := h', toks := tk } (ρ ++ [D]) { st with obs := st.obs ++ [o] } ∧ Ext Nil s ρ { s with heap := h', toks := tk } (ρ ++ [D]) ∧ VR C h' (ρ ++ [D]) (.ref st.obs.length) (.ref D) := by
  have ex : Ext Nil s ρ { s with heap := h', toks := tk } (ρ ++ [D]) := Ext.take g hD
  refine ⟨⟨hS.inv.made g hD r, hS.frm.ext ex⟩, ex, ?_⟩
  simp only [vR0, vR1, vR2, vR3, vR4, vR5, vR6, vR7, vR8, vR9, vR10, vR11, vR12, vR13]
  exact ⟨D, rfl, by rw [← hS.inv.len]; simp⟩
/- a new list -/
theorem Rest.list {S : Addr → Prop} {s : Shared} {ρ : List Addr} {st : St} {Q : Value → Shared → Prop} {E : Value → Shared → Prop} {X : Str → St → Prop} {xs : List V} {items : Array Value} {n : Nat} {h' : Heap} {tk : Nat} {D : Addr} (hS : State C env sc ns s ρ st) (hr : Rest C env sc ns (VR C) S Q E X (M.pure (.flist xs)) s ρ st)
    (g : Grows s.heap h') (hD : s.heap.get? D = none) (ho : h'.get? D = some { cls := .type "list", data := .seq items n }) (hv : VRs C s.heap ρ xs items.toList) : Q (.ref D) { s with heap := h', toks := tk } := by
  refine hr.1 _ _ ρ ?_ (hS.grows g tk) (Ext.grows g)
  simp only [vR0, vR1, vR2, vR3, vR4, vR5, vR6, vR7, vR8, vR9, vR10, vR11, vR12, vR13]
  exact ⟨D, items, n, rfl, ho, hS.free hD, hv.ext (g.extV ρ)⟩
theorem str_app (a b : List Nat) : (⟨a.toArray⟩ : Str) ++ (⟨b.toArray⟩ : Str) = ⟨(a ++ b).toArray⟩ := by
  show (⟨a.toArray ++ b.toArray⟩ : Str) = _
  simp
theorem str_len (a : List Nat) : (⟨a.toArray⟩ : Str).length = a.length := by show a.toArray.size = _; simp
theorem lim_line : lim = sizeLine := rfl

theorem mulOk {a b : Int} (h : a.natAbs.log2 + b.natAbs.log2 < 67108864) : IntMulOk a b := by
  unfold IntMulOk Builtin.Int.intTooBig
  have h1 : Builtin.Int.intBits a ≤ a.natAbs.log2 + 1 := by unfold Builtin.Int.intBits; split <;> omega
  have h2 : Builtin.Int.intBits b ≤ b.natAbs.log2 + 1 := by unfold Builtin.Int.intBits; split <;> omega
  simp only [Bool.and_eq_true, decide_eq_true_eq, not_and]
  intro _ q
  have : bitsLine ≥ 67108866 := by decide
  omega

theorem Rest.ite' {α : Type} {c : Prop} [Decidable c] {m : M α} {st : St} {Q : α → St → Prop} {X : Str → St → Prop} (h : wpM (if c then m else stuck) st Q X) : c ∧ wpM m st Q X := by
  by_cases hc : c
  · rw [if_pos hc] at h; exact ⟨hc, h⟩
  · rw [if_neg hc] at h; exact h.elim
theorem Rest.ite2 {α : Type} {c : Prop} [Decidable c] {m : M α} {st : St} {Q : α → St → Prop} {X : Str → St → Prop} (h : wpM (if c then stuck else m) st Q X) : ¬ c ∧ wpM m st Q X := by
  by_cases hc : c
  · rw [if_pos hc] at h; exact h.elim
  · rw [if_neg hc] at h; exact ⟨hc, h⟩
theorem Inv.isList {h : Heap} {ρ : List Addr} {obs : List Ob} (I : Inv C h ρ obs) {r : Nat} {xs : List V} {a : Addr} (ho : obs[r]? = some (.list xs)) (ha : ρ[r]? = some a) : ∃ items, h.IsList a items ∧ VRs C h ρ xs items.toList := by
  obtain ⟨items, n, h1, h2⟩ := I.list ho ha
  exact ⟨items, ⟨_, h1, rfl, n, rfl⟩, h2⟩

/- the list behind a value -/
theorem list_at {h : Heap} {ρ : List Addr} {st : St} (I : Inv C h ρ st.obs) {v : V} {x : Value} (r : VR C h ρ v x) {Q : List V → St → Prop} {X : Str → St → Prop} (hw : wpM (listOf v) st Q X) : ∃ a items o n xs, x = .ref a ∧ h.get? a = some o ∧ o.cls = .type "list" ∧ o.data = .seq items n ∧ VRs C h ρ xs items.toList ∧ xs.length = items.size ∧ Q xs st := by
  rcases wpM_listOf hw with ⟨xs, rfl | rfl, hq⟩ | ⟨i, xs, rfl, ho, hq⟩
  · simp only [vR0, vR1, vR2, vR3, vR4, vR5, vR6, vR7, vR8, vR9, vR10, vR11, vR12, vR13] at r
    obtain ⟨a, items, n, rfl, h1, _, hv⟩ := r
    exact ⟨a, items, _, n, xs, rfl, h1, rfl, rfl, hv, by have := hv.len; simpa using this, hq⟩
  · simp only [vR0, vR1, vR2, vR3, vR4, vR5, vR6, vR7, vR8, vR9, vR10, vR11, vR12, vR13] at r
    obtain ⟨a, items, rfl, ⟨o, h1, h2, n, h3⟩, _, hv⟩ := r
    exact ⟨a, items, o, n, xs, rfl, h1, h2, h3, hv, by have := hv.len; simpa using this, hq⟩
  · simp only [vR0, vR1, vR2, vR3, vR4, vR5, vR6, vR7, vR8, vR9, vR10, vR11, vR12, vR13] at r
    obtain ⟨a, rfl, ha⟩ := r
    obtain ⟨items, n, h1, hv⟩ := I.list ho ha
    exact ⟨a, items, _, n, xs, rfl, h1, rfl, rfl, hv, by have := hv.len; simpa using this, hq⟩
theorem at_concat {x y : V} {vx vy : Value} {s : Shared} {ρ : List Addr} {st : St} {A : Around} {Q : Value → Shared → Prop} {E : Value → Shared → Prop} {X : Str → St → Prop} (hx : VR C s.heap ρ x vx) (hy : VR C s.heap ρ y vy) (hA : AOk d A) (hS : State C env sc ns s ρ st) (hw : Rest C env sc ns (VR C) Nil Q E X ((listOf x).bind fun a => (listOf y).bind fun b => allocL (a ++ b)) s ρ st) : wpAny (model C.prog C.w) A (binaryOp .Add vx vy) Q E s := by
  obtain ⟨la, i1, o1, n1, xs, rfl, g1, c1, d1, v1, e1, h1⟩ := list_at hS.inv hx (wpM_bind.mp hw.1)
  obtain ⟨lb, i2, o2, n2, ys, rfl, g2, c2, d2, v2, e2, h2⟩ := list_at hS.inv hy (wpM_bind.mp h1)
  obtain ⟨hl, h2⟩ := Rest.ite' h2
  obtain ⟨_, dd1, _, sl1⟩ := o1
  obtain ⟨_, dd2, _, sl2⟩ := o2
  cases c1; cases d1; cases c2; cases d2
  refine concat_meets ⟨_, g1, rfl⟩ ⟨_, g2, rfl⟩ noFill_list_add seq_list_add PySem.F.slot_list_add PySem.F.entry_list_add (PySem.F.args_list_add_2 _ _) (list_addW la lb i1 i2 n1 n2 dd1 dd2 sl1 sl2 (by rw [← e1, ← e2, ← lim_line]; simpa using hl)) ⟨g1, g2, ?_⟩
  exact (Rest.list (tk := s.toks) hS ⟨h2, hw.2⟩ (Grows.push s.heap _) fresh_none (Heap.get?_push_size _ rfl) (by simpa using v1.append v2))
theorem at_add {x y : V} {vx vy : Value} {s : Shared} {ρ : List Addr} {st : St} (hx : VR C s.heap ρ x vx) (hy : VR C s.heap ρ y vy) : At C d env sc ns (VR C) Nil (binaryOp .Add vx vy) (addV x y) s ρ st := .of fun A Q E X hA hS hw => by
  cases x <;> first | exact hw.1.elim | skip
  · obtain ⟨j, rfl, h1⟩ := wpM_asInt.mp (wpM_bind.mp hw.1)
    obtain ⟨t, rfl⟩ := hx; obtain ⟨u, rfl⟩ := hy
    exact P.add_int (h1 _ _ _ ⟨_, rfl⟩ (hS.toks _) (.toks _))
  · obtain ⟨b, rfl, h1⟩ := wpM_asStr.mp (wpM_bind.mp hw.1)
    obtain ⟨t, rfl⟩ := hx; obtain ⟨u, rfl⟩ := hy
    obtain ⟨hl, h2⟩ := Rest.ite' h1
    refine add_str (fun t' tk => ?_) (by rw [str_len, str_len]; simpa [lim_line] using hl)
    rw [str_app]
    exact h2 _ _ _ ⟨_, rfl⟩ (hS.toks _) (.toks _)
  all_goals exact at_concat hx hy hA hS hw
theorem at_mulI {x y : V} {vx vy : Value} {s : Shared} {ρ : List Addr} {st : St} (hx : VR C s.heap ρ x vx) (hy : VR C s.heap ρ y vy) : At C d env sc ns (VR C) Nil (binaryOp .Mult vx vy) (int2 mulI x y) s ρ st := .of fun A Q E X hA hS hw => by
  obtain ⟨i, j, rfl, rfl, h⟩ := wpM_int2 hw.1
  obtain ⟨t, rfl⟩ := hx; obtain ⟨u, rfl⟩ := hy
  obtain ⟨hl, h1⟩ := Rest.ite' h
  exact P.mul_int (h1 _ _ _ ⟨_, rfl⟩ (hS.toks _) (.toks _)) (mulOk hl)
theorem at_mul {x y : V} {vx vy : Value} {s : Shared} {ρ : List Addr} {st : St} (hx : VR C s.heap ρ x vx) (hy : VR C s.heap ρ y vy) : At C d env sc ns (VR C) Nil (binaryOp .Mult vx vy) (mulV x y) s ρ st := by
  cases x <;> first | exact at_mulI hx hy | skip
theorem at_bin {op : Operator} {x y : V} {vx vy : Value} {s : Shared} {ρ : List Addr} {st : St} (hx : VR C s.heap ρ x vx) (hy : VR C s.heap ρ y vy) : At C d env sc ns (VR C) Nil (binaryOp op vx vy) (binV op x y) s ρ st := by
  cases op
  case Add => exact at_add hx hy
  case Mult => exact at_mul hx hy
  case Sub =>
    refine .of fun A Q E X hA hS hw => ?_
    obtain ⟨i, j, rfl, rfl, h⟩ := wpM_int2 hw.1
    obtain ⟨t, rfl⟩ := hx; obtain ⟨u, rfl⟩ := hy
    exact P.sub_int (h _ _ _ ⟨_, rfl⟩ (hS.toks _) (.toks _))
  case Mod =>
    refine .of fun A Q E X hA hS hw => ?_
    obtain ⟨i, j, rfl, rfl, h⟩ := wpM_int2 hw.1
    obtain ⟨t, rfl⟩ := hx; obtain ⟨u, rfl⟩ := hy
    obtain ⟨hb, h1⟩ := Rest.ite2 h
    exact mod_int' hb (h1 _ _ _ ⟨_, rfl⟩ (hS.toks _) (.toks _))
  case FloorDiv =>
    refine .of fun A Q E X hA hS hw => ?_
    obtain ⟨i, j, rfl, rfl, h⟩ := wpM_int2 hw.1
    obtain ⟨t, rfl⟩ := hx; obtain ⟨u, rfl⟩ := hy
    obtain ⟨hb, h1⟩ := Rest.ite2 h
    rw [not_or] at hb
    exact floordiv_int hb.1 (h1 _ _ _ ⟨_, rfl⟩ (hS.toks _) (.toks _)) (.inl (PyProof.noPylong_small (by omega)))
  all_goals exact .of fun A Q E X hA hS hw => hw.1.elim

/- plain data -/
mutual
theorem datV_reads {h : Heap} {ρ : List Addr} {obs : List Ob} {f : V → Option PyData} (hf : ∀ a x dd, f (.ref a) = some dd → VR C h ρ (.ref a) x → ∃ as, Reads h x dd as) : ∀ {v : V} {x : Value} {dd : PyData}, datV obs f v = some dd → VR C h ρ v x → ∃ as, Reads h x dd as
  | .none, x, dd, e, r => by simp only [dR0, dR1, dR2, dR3, dR4, dR5, dR6, dR7, dR8, dR9, dR10, dR11, dR12, dR13] at e; cases e; simp only [vR0, vR1, vR2, vR3, vR4, vR5, vR6, vR7, vR8, vR9, vR10, vR11, vR12, vR13] at r; subst r; exact ⟨_, .none⟩
  | .bool b, x, dd, e, r => by simp only [dR0, dR1, dR2, dR3, dR4, dR5, dR6, dR7, dR8, dR9, dR10, dR11, dR12, dR13] at e; cases e; simp only [vR0, vR1, vR2, vR3, vR4, vR5, vR6, vR7, vR8, vR9, vR10, vR11, vR12, vR13] at r; subst r; exact ⟨_, .bool _⟩
  | .int i, x, dd, e, r => by simp only [dR0, dR1, dR2, dR3, dR4, dR5, dR6, dR7, dR8, dR9, dR10, dR11, dR12, dR13] at e; cases e; simp only [vR0, vR1, vR2, vR3, vR4, vR5, vR6, vR7, vR8, vR9, vR10, vR11, vR12, vR13] at r; obtain ⟨t, rfl⟩ := r; exact ⟨_, .int _ _⟩
  | .str s, x, dd, e, r => by simp only [dR0, dR1, dR2, dR3, dR4, dR5, dR6, dR7, dR8, dR9, dR10, dR11, dR12, dR13] at e; cases e; simp only [vR0, vR1, vR2, vR3, vR4, vR5, vR6, vR7, vR8, vR9, vR10, vR11, vR12, vR13] at r; obtain ⟨t, rfl⟩ := r; exact ⟨_, .str _ _⟩
  | .tuple vs, x, dd, e, r => by
    simp only [dR0, dR1, dR2, dR3, dR4, dR5, dR6, dR7, dR8, dR9, dR10, dR11, dR12, dR13, Option.map_eq_some_iff] at e
    obtain ⟨l, e1, rfl⟩ := e
    simp only [vR0, vR1, vR2, vR3, vR4, vR5, vR6, vR7, vR8, vR9, vR10, vR11, vR12, vR13] at r
    obtain ⟨a, items, rfl, ⟨o, ho, hc, n, hd⟩, _, hr⟩ := r
    obtain ⟨as, hq⟩ := datVs_reads hf e1 hr
    exact ⟨_, .tuple ho hc hd hq⟩
  | .ref a, x, dd, e, r => by simp only [dR0, dR1, dR2, dR3, dR4, dR5, dR6, dR7, dR8, dR9, dR10, dR11, dR12, dR13] at e; exact hf a x dd e r
  | .flist vs, x, dd, e, r => by
    simp only [dR0, dR1, dR2, dR3, dR4, dR5, dR6, dR7, dR8, dR9, dR10, dR11, dR12, dR13, Option.map_eq_some_iff] at e
    obtain ⟨l, e1, rfl⟩ := e
    simp only [vR0, vR1, vR2, vR3, vR4, vR5, vR6, vR7, vR8, vR9, vR10, vR11, vR12, vR13] at r
    obtain ⟨a, items, n, rfl, ho, _, hr⟩ := r
    obtain ⟨as, hq⟩ := datVs_reads hf e1 hr
    exact ⟨_, .list ho rfl rfl hq⟩
  | .alist _, _, _, e, _ => by simp [dR0, dR1, dR2, dR3, dR4, dR5, dR6, dR7, dR8, dR9, dR10, dR11, dR12, dR13] at e
  | .finst _ _ _, _, _, e, _ => by simp [dR0, dR1, dR2, dR3, dR4, dR5, dR6, dR7, dR8, dR9, dR10, dR11, dR12, dR13] at e
  | .range _ _, _, _, e, _ => by simp [dR0, dR1, dR2, dR3, dR4, dR5, dR6, dR7, dR8, dR9, dR10, dR11, dR12, dR13] at e
  | .set _, _, _, e, _ => by simp [dR0, dR1, dR2, dR3, dR4, dR5, dR6, dR7, dR8, dR9, dR10, dR11, dR12, dR13] at e
  | .exc _, _, _, e, _ => by simp [dR0, dR1, dR2, dR3, dR4, dR5, dR6, dR7, dR8, dR9, dR10, dR11, dR12, dR13] at e
  | .own _, _, _, e, _ => by simp [dR0, dR1, dR2, dR3, dR4, dR5, dR6, dR7, dR8, dR9, dR10, dR11, dR12, dR13] at e
  | .type _, _, _, e, _ => by simp [dR0, dR1, dR2, dR3, dR4, dR5, dR6, dR7, dR8, dR9, dR10, dR11, dR12, dR13] at e
theorem datVs_reads {h : Heap} {ρ : List Addr} {obs : List Ob} {f : V → Option PyData} (hf : ∀ a x dd, f (.ref a) = some dd → VR C h ρ (.ref a) x → ∃ as, Reads h x dd as) : ∀ {vs : List V} {xs : List Value} {ds : List PyData}, datVs obs f vs = some ds → VRs C h ρ vs xs → ∃ as, ReadsAll h xs ds as
  | [], xs, ds, e, r => by simp only [dT0, dT1] at e; cases e; simp only [vS0, vS1] at r; subst r; exact ⟨_, .nil⟩
  | v :: vs, l, ds, e, r => by
    simp only [vS0, vS1] at r
    obtain ⟨x, xs, rfl, r1, r2⟩ := r
    simp only [dT0, dT1] at e
    split at e
    · rename_i dd l' e1 e2
      cases e
      obtain ⟨as, q1⟩ := datV_reads hf e1 r1
      obtain ⟨bs, q2⟩ := datVs_reads hf e2 r2
      exact ⟨_, .cons q1 q2⟩
    · cases e
end
theorem datR_reads {h : Heap} {ρ : List Addr} {obs : List Ob} (I : Inv C h ρ obs) : ∀ (n : Nat) (a : Nat) (x : Value) (dd : PyData), datR obs n (.ref a) = some dd → VR C h ρ (.ref a) x → ∃ as, Reads h x dd as
  | 0, _, _, _, e, _ => by cases e
  | n + 1, a, x, dd, e, r => by
    replace e : (match obs[a]? with
      | some (.list xs) => (datVs obs (datR obs n) xs).map .list
      | _ => none) = some dd := e
    split at e
    · rename_i xs hxs
      simp only [Option.map_eq_some_iff] at e
      obtain ⟨l, e1, rfl⟩ := e
      simp only [vR0, vR1, vR2, vR3, vR4, vR5, vR6, vR7, vR8, vR9, vR10, vR11, vR12, vR13] at r
      obtain ⟨ad, rfl, ha⟩ := r
      obtain ⟨items, k, ho, hv⟩ := I.list hxs ha
      obtain ⟨as, q⟩ := datVs_reads (fun a x dd => datR_reads I n a x dd) e1 hv
      exact ⟨_, .list ho rfl rfl q⟩
    · cases e
theorem dat_reads {h : Heap} {ρ : List Addr} {obs : List Ob} (I : Inv C h ρ obs) {v : V} {x : Value} {dd : PyData} (e : dat obs v = some dd) (r : VR C h ρ v x) : ∃ as, Reads h x dd as :=
  datV_reads (fun a x dd => datR_reads I 8 a x dd) e r
theorem eqO_some {obs : List Ob} {a b : V} {r : Bool} (h : eqO obs a b = some r) : ∃ x y, dat obs a = some x ∧ dat obs b = some y ∧ SeqAt.shaped x = true ∧ SeqAt.shaped y = true ∧ r = PyData.eqv x y := by
  unfold eqO at h
  split at h
  · rename_i x y h1 h2
    split at h
    · rename_i h3
      rw [Bool.and_eq_true] at h3
      cases h
      exact ⟨x, y, h1, h2, h3.1, h3.2, rfl⟩
    · cases h
  · cases h
theorem AOk.room {A : Around} (hA : AOk d A) : A.units + 64 < cLine := by have := hA.units; show A.units + 64 < 9900; omega
theorem at_eq {x y : V} {vx vy : Value} {s : Shared} {ρ : List Addr} {st : St} (hx : VR C s.heap ρ x vx) (hy : VR C s.heap ρ y vy) : At C d env sc ns RB Nil (compareOp .Eq vx vy) (pyEq x y) s ρ st := .of fun A Q E X hA hS hw => by
  obtain ⟨r, h1, h2⟩ := wpM_withObs.mp hw.1
  obtain ⟨a, b, q1, q2, q3, q4, rfl⟩ := eqO_some h1
  obtain ⟨as, r1⟩ := dat_reads hS.inv q1 hx
  obtain ⟨bs, r2⟩ := dat_reads hS.inv q2 hy
  exact eq_dataH r1 r2 q3 q4 hA.room (h2 _ _ _ rfl hS (.refl ..))
theorem at_ne {x y : V} {vx vy : Value} {s : Shared} {ρ : List Addr} {st : St} (hx : VR C s.heap ρ x vx) (hy : VR C s.heap ρ y vy) : At C d env sc ns RB Nil (compareOp .NotEq vx vy) ((pyEq x y).bind fun r => M.pure !r) s ρ st := .of fun A Q E X hA hS hw => by
  obtain ⟨r, h1, h2⟩ := wpM_withObs.mp (wpM_bind.mp hw.1)
  obtain ⟨a, b, q1, q2, q3, q4, rfl⟩ := eqO_some h1
  obtain ⟨as, r1⟩ := dat_reads hS.inv q1 hx
  obtain ⟨bs, r2⟩ := dat_reads hS.inv q2 hy
  exact ne_dataH r1 r2 q3 q4 hA.room (h2 _ _ _ rfl hS (.refl ..))
theorem VR.notNone {h : Heap} {ρ : List Addr} {v : V} {x : Value} (r : VR C h ρ v x) (hv : v ≠ .none) : x ≠ .none := by
  cases v <;> simp only [vR0, vR1, vR2, vR3, vR4, vR5, vR6, vR7, vR8, vR9, vR10, vR11, vR12, vR13] at r
  · exact absurd rfl hv
  · subst r; simp
  · obtain ⟨t, rfl⟩ := r; simp
  · obtain ⟨t, rfl⟩ := r; simp
  · obtain ⟨a, i, rfl, _⟩ := r; simp
  · obtain ⟨a, t, u, k, rfl, _⟩ := r; simp
  · obtain ⟨a, rfl, _⟩ := r; simp
  · obtain ⟨a, i, n, rfl, _⟩ := r; simp
  · obtain ⟨a, i, rfl, _⟩ := r; simp
  · obtain ⟨a, da, en, rfl, _⟩ := r; simp
  · obtain ⟨a, rfl, _⟩ := r; simp
  · obtain ⟨a, rfl, _⟩ := r; simp
  · subst r; simp
theorem isNone_inv {v : V} {st : St} {Q : Bool → St → Prop} {X : Str → St → Prop} (h : wpM (isNoneM v) st Q X) : (v = .none ∧ Q true st) ∨ (v ≠ .none ∧ Q false st) := by
  cases v <;> first | exact h.elim | exact .inl ⟨rfl, h⟩ | exact .inr ⟨by simp, h⟩
theorem at_is {x y : V} {vx vy : Value} {s : Shared} {ρ : List Addr} {st : St} (hx : VR C s.heap ρ x vx) (hy : VR C s.heap ρ y vy) : At C d env sc ns RB Nil (compareOp .Is vx vy) (isV x y) s ρ st := .of fun A Q E X hA hS hw => by
  cases y <;> first | exact hw.1.elim | skip
  · cases hy
    rcases isNone_inv (show wpM (isNoneM x) st _ X from hw.1) with ⟨rfl, h⟩ | ⟨hn, h⟩
    · cases hx
      exact wpAny_is_self rfl (h _ _ _ rfl hS (.refl ..))
    · exact is_none_ne (hx.notNone hn) (h _ _ _ rfl hS (.refl ..))
  · obtain ⟨b, rfl, h⟩ := wpM_asBool.mp (wpM_bind.mp hw.1)
    cases hx; cases hy
    exact wpAny_is_plain rfl (h _ _ _ (by simp [RB, BEq.beq]) hS (.refl ..))
theorem at_isnot {x y : V} {vx vy : Value} {s : Shared} {ρ : List Addr} {st : St} (hx : VR C s.heap ρ x vx) (hy : VR C s.heap ρ y vy) : At C d env sc ns RB Nil (compareOp .IsNot vx vy) ((isV x y).bind fun r => M.pure !r) s ρ st := .of fun A Q E X hA hS hw => by
  have h0 := wpM_bind.mp hw.1
  cases y <;> first | exact h0.elim | skip
  · cases hy
    rcases isNone_inv (show wpM (isNoneM x) st _ X from h0) with ⟨rfl, h⟩ | ⟨hn, h⟩
    · cases hx
      exact wpAny_isNot_self rfl (h _ _ _ rfl hS (.refl ..))
    · exact isnot_none_ne (hx.notNone hn) (h _ _ _ rfl hS (.refl ..))
  · obtain ⟨b, rfl, h⟩ := wpM_asBool.mp (wpM_bind.mp h0)
    cases hx; cases hy
    exact wpAny_isNot_plain rfl (h _ _ _ (by simp [RB, BEq.beq]) hS (.refl ..))
theorem datL_some {obs : List Ob} {a : V} {xs : List V} {p : PyData × List PyData} (h : datL obs a xs = some p) : dat obs a = some p.1 ∧ datVs obs (datR obs 8) xs = some p.2 ∧ SeqAt.shaped p.1 = true ∧ PyData.canLayAll0 p.2 = true := by
  unfold datL at h
  split at h
  · rename_i x y h1 h2
    split at h
    · rename_i h3
      rw [Bool.and_eq_true] at h3
      cases h
      exact ⟨h1, h2, h3.1, h3.2⟩
    · cases h
  · cases h
theorem AOk.room2 {A : Around} (hA : AOk d A) {x : PyData} {ds : List PyData} (h : SeqAt.shaped x = true) : A.units + 1 + min (PyData.depthAll ds) x.depth < cLine := by
  have h1 := SeqAt.depth_of_shaped h
  have h2 : min (PyData.depthAll ds) x.depth ≤ x.depth := Nat.min_le_right _ _
  have := hA.units
  show A.units + 1 + min (PyData.depthAll ds) x.depth < 9900
  omega
/- in, not in -/
noncomputable def InOk (C : Cx) (A : Around) (vx vy : Value) (s : Shared) (b : Bool) : Prop := ∃ tk, ∀ (E : Value → Shared → Prop), (∀ Q : Value → Shared → Prop, Q (.bool b) { s with toks := tk } → wpAny (model C.prog C.w) A (compareOp .In vx vy) Q E s) ∧ (∀ Q : Value → Shared → Prop, Q (.bool !b) { s with toks := tk } → wpAny (model C.prog C.w) A (compareOp .NotIn vx vy) Q E s)
theorem in_list {x : V} {vx : Value} {xs : List V} {s : Shared} {ρ : List Addr} {st : St} {A : Around} {QQ : Bool → St → Prop} {X : Str → St → Prop} {a : Addr} {items : Array Value} {o : Obj} {n : Nat} {T : String} (hT : T = "list" ∨ T = "tuple") (hx : VR C s.heap ρ x vx) (hA : AOk d A) (hS : State C env sc ns s ρ st) (hv : VRs C s.heap ρ xs items.toList)
    (ho : s.heap.get? a = some o) (hc : o.cls = .type T) (hd : o.data = .seq items n) (h : wpM (inL x xs) st QQ X) : ∃ b, QQ b st ∧ InOk C A vx (.ref a) s b := by
  obtain ⟨b, h1, h2⟩ := wpM_withObs.mp h
  obtain ⟨p, h3, rfl⟩ := Option.map_eq_some_iff.mp h1
  obtain ⟨q1, q2, q3, q4⟩ := datL_some h3
  obtain ⟨bs, rx⟩ := dat_reads hS.inv q1 hx
  obtain ⟨as, rs⟩ := datVs_reads (fun a x dd => datR_reads hS.inv 8 a x dd) q2 hv
  refine ⟨_, h2, s.toks, fun E => ?_⟩
  rcases hT with rfl | rfl
  · exact ⟨fun Q hq => SeqAt.in_list_reads (.list ho hc hd rs) rx q4 (SeqAt.canLay_of_shaped q3) (hA.room2 q3) hq, fun Q hq => SeqAt.notIn_list_reads (.list ho hc hd rs) rx q4 (SeqAt.canLay_of_shaped q3) (hA.room2 q3) hq⟩
  · exact ⟨fun Q hq => SeqAt.in_tuple_reads (.tuple ho hc hd rs) rx q4 (SeqAt.canLay_of_shaped q3) (hA.room2 q3) hq, fun Q hq => SeqAt.notIn_tuple_reads (.tuple ho hc hd rs) rx q4 (SeqAt.canLay_of_shaped q3) (hA.room2 q3) hq⟩
theorem Inv.notSys {h : Heap} {ρ : List Addr} {obs : List Ob} (I : Inv C h ρ obs) (hsys : ∃ o, C.base.get? sysModules = some o) {a : Addr} (ha : a ∈ ρ) : (a == sysModules) = false := by
  cases q : a == sysModules with
  | false => rfl
  | true =>
    obtain ⟨o, ho⟩ := hsys
    have := (I.new a ha).1
    rw [eq_of_beq q, ho] at this; cases this
/- rows of whole numbers as keys -/
theorem items_are {h : Heap} {ρ : List Addr} : ∀ {vs : List V} {xs : List Value} {l : List Int}, intsOf vs = some l → VRs C h ρ vs xs → ItemsAre (intKind C.prog C.w) l xs
  | [], xs, l, e, r => by cases e; simp only [vS0, vS1] at r; subst r; exact .nil
  | v :: vs, xs, l, e, r => by
    simp only [vS0, vS1] at r
    obtain ⟨x, xs, rfl, r1, r2⟩ := r
    cases v <;> first | cases e | skip
    rename_i i
    obtain ⟨m, h1, rfl⟩ := Option.map_eq_some_iff.mp (show (intsOf vs).map (i :: ·) = some l from e)
    obtain ⟨t, rfl⟩ := r1
    exact .cons (by simp [intKind, Value.isInt]) (items_are h1 r2)
theorem key_at {h : Heap} {ρ : List Addr} {v : V} {x : Value} {k : List Int} (e : keyP v = some k) (r : VR C h ρ v x) : ∃ b, x = .ref b ∧ IsTupleKey (intKind C.prog C.w) h k b ∧ Free C ρ b := by
  cases v <;> first | cases e | skip
  simp only [vR0, vR1, vR2, vR3, vR4, vR5, vR6, vR7, vR8, vR9, vR10, vR11, vR12, vR13] at r
  obtain ⟨a, items, rfl, ⟨o, h1, h2, n, h3⟩, hf, hr⟩ := r
  exact ⟨a, rfl, ⟨o, items, n, h1, h2, h3, items_are e hr⟩, hf⟩
theorem isTrue_val {h : Heap} {ρ : List Addr} {v : V} {x : Value} (e : isTrueV v = true) (r : VR C h ρ v x) : x = .bool true := by
  cases v <;> first | (cases e; done) | skip
  cases e
  exact r
theorem atKey_mem {xs : List (List Int × Addr × Value)} {k : List Int} : (atKey xs k).isSome = decide (k ∈ xs.map (·.1)) := by
  unfold atKey
  rw [Option.isSome_map, Bool.eq_iff_iff, List.find?_isSome]
  simp
theorem in_all (hsys : ∃ o, C.base.get? sysModules = some o) {x y : V} {vx vy : Value} {s : Shared} {ρ : List Addr} {st : St} {A : Around} {QQ : Bool → St → Prop} {X : Str → St → Prop} (hx : VR C s.heap ρ x vx) (hy : VR C s.heap ρ y vy) (hA : AOk d A) (hS : State C env sc ns s ρ st) (h : wpM (inV x y) st QQ X) : ∃ b, QQ b st ∧ InOk C A vx vy s b := by
  unfold inV at h
  split at h
  · obtain ⟨a, rfl, h1⟩ := wpM_asStr.mp (wpM_bind.mp h)
    obtain ⟨t, rfl⟩ := hx; obtain ⟨u, rfl⟩ := hy
    refine ⟨_, h1, s.toks, fun E => ⟨fun Q hq => P.in_str ?_, fun Q hq => P.notIn_str ?_⟩⟩
    · simpa only [occ, str_len] using hq
    · simpa only [occ, str_len] using hq
  · simp only [vR0, vR1, vR2, vR3, vR4, vR5, vR6, vR7, vR8, vR9, vR10, vR11, vR12, vR13] at hy
    obtain ⟨a, items, n, rfl, ho, _, hv⟩ := hy
    exact in_list (.inl rfl) hx hA hS hv ho rfl rfl h
  · simp only [vR0, vR1, vR2, vR3, vR4, vR5, vR6, vR7, vR8, vR9, vR10, vR11, vR12, vR13] at hy
    obtain ⟨a, items, rfl, ⟨o, ho, hc, n, hd⟩, _, hv⟩ := hy
    exact in_list (.inr rfl) hx hA hS hv ho hc hd h
  · rename_i r
    simp only [vR0, vR1, vR2, vR3, vR4, vR5, vR6, vR7, vR8, vR9, vR10, vR11, vR12, vR13] at hy
    obtain ⟨a, rfl, ha⟩ := hy
    obtain ⟨o, ho, h1⟩ := wpM_getOb.mp (wpM_bind.mp h)
    unfold inO at h1
    split at h1
    · rename_i xs
      obtain ⟨items, n, hl, hv⟩ := hS.inv.list ho ha
      exact in_list (.inl rfl) hx hA hS hv hl rfl rfl h1
    · rename_i ks
      obtain ⟨k, h2, h3⟩ := wpM_ofOpt.mp (wpM_bind.mp h1)
      obtain ⟨a', ha', xs, hD, hf, he⟩ := hS.inv.ob r _ ho
      rw [ha] at ha'; cases ha'
      obtain ⟨b, rfl, hk, _⟩ := key_at h2 hx
      have hd := hS.inv.notSys hsys (List.mem_of_getElem? ha)
      have hu : A.in1.units < cLine := by have := hA.units; show A.units + 1 < 9900; omega
      have e : (atKey xs k).isSome = decide (k ∈ ks) := by rw [atKey_mem, he]
      exact ⟨_, h3, _, fun E => ⟨fun Q hq => wpAny_in_heap (knd := tupleKind (intKind C.prog C.w)) hu hk hd hD (by rw [e]; exact hq), fun Q hq => wpAny_notIn_heap (knd := tupleKind (intKind C.prog C.w)) hu hk hd hD (by rw [e]; exact hq)⟩⟩
    · exact h1.elim
  · exact h.elim
theorem cmp_snd (hsys : ∃ o, C.base.get? sysModules = some o) : CmpSnd C d env sc ns := by
  intro op x y vx vy s ρ st hx hy
  cases op
  case Eq => exact at_eq hx hy
  case NotEq => exact at_ne hx hy
  case Is => exact at_is hx hy
  case IsNot => exact at_isnot hx hy
  case In =>
    refine .of fun A Q E X hA hS hw => ?_
    obtain ⟨b, h1, tk, h2⟩ := in_all hsys hx hy hA hS (show wpM (inV x y) st _ X from hw.1)
    exact (h2 E).1 Q (h1 _ _ _ rfl (hS.toks _) (.toks _))
  case NotIn =>
    refine .of fun A Q E X hA hS hw => ?_
    obtain ⟨b, h1, tk, h2⟩ := in_all hsys hx hy hA hS (show wpM (inV x y) st _ X from wpM_bind.mp hw.1)
    exact (h2 E).2 Q (h1 _ _ _ rfl (hS.toks _) (.toks _))
  case Lt =>
    refine .of fun A Q E X hA hS hw => ?_
    obtain ⟨i, j, rfl, rfl, h⟩ := wpM_int2 (f := fun a b => M.pure (decide (a < b))) hw.1
    obtain ⟨t, rfl⟩ := hx; obtain ⟨u, rfl⟩ := hy
    exact P.lt_int (h _ _ _ rfl hS (.refl ..))
  case LtE =>
    refine .of fun A Q E X hA hS hw => ?_
    obtain ⟨i, j, rfl, rfl, h⟩ := wpM_int2 (f := fun a b => M.pure (decide (a ≤ b))) hw.1
    obtain ⟨t, rfl⟩ := hx; obtain ⟨u, rfl⟩ := hy
    exact P.le_int (h _ _ _ rfl hS (.refl ..))
  case Gt =>
    refine .of fun A Q E X hA hS hw => ?_
    obtain ⟨i, j, rfl, rfl, h⟩ := wpM_int2 (f := fun a b => M.pure (decide (a > b))) hw.1
    obtain ⟨t, rfl⟩ := hx; obtain ⟨u, rfl⟩ := hy
    exact P.gt_int (h _ _ _ rfl hS (.refl ..))
  case GtE =>
    refine .of fun A Q E X hA hS hw => ?_
    obtain ⟨i, j, rfl, rfl, h⟩ := wpM_int2 (f := fun a b => M.pure (decide (a ≥ b))) hw.1
    obtain ⟨t, rfl⟩ := hx; obtain ⟨u, rfl⟩ := hy
    exact P.ge_int (h _ _ _ rfl hS (.refl ..))
end
end Mine
set_option autoImplicit false
set_option linter.unusedVariables false
namespace Mine
open PySem PyProof.Rows
section
variable {C : Cx} {d : Nat} {env : Env} {sc : Scope} {ns : List Str}
theorem Rest.ite {α β : Type} {R : Heap → List Addr → α → β → Prop} {S : Addr → Prop} {Q : β → Shared → Prop} {E : Value → Shared → Prop} {X : Str → St → Prop} {c : Prop} [Decidable c] {m : M α} {s : Shared} {ρ : List Addr} {st : St} (h : Rest C env sc ns R S Q E X (if c then m else stuck) s ρ st) : c ∧ Rest C env sc ns R S Q E X m s ρ st := by
  by_cases hc : c
  · rw [if_pos hc] at h; exact ⟨hc, h⟩
  · rw [if_neg hc] at h; exact h.1.elim
/- a new tuple -/
theorem Rest.tuple {S : Addr → Prop} {s : Shared} {ρ : List Addr} {st : St} {Q : Value → Shared → Prop} {E : Value → Shared → Prop} {X : Str → St → Prop} {xs : List V} {items : Array Value} {n : Nat} {h' : Heap} {tk : Nat} {D : Addr} (hS : State C env sc ns s ρ st) (hr : Rest C env sc ns (VR C) S Q E X (M.pure (.tuple xs)) s ρ st)
    (g : Grows s.heap h') (hD : s.heap.get? D = none) (ho : h'.get? D = some { cls := .type "tuple", data := .seq items n }) (hv : VRs C s.heap ρ xs items.toList) : Q (.ref D) { s with heap := h', toks := tk } := by
  refine hr.1 _ _ ρ ?_ (hS.grows g tk) (Ext.grows g)
  simp only [vR0, vR1, vR2, vR3, vR4, vR5, vR6, vR7, vR8, vR9, vR10, vR11, vR12, vR13]
  exact ⟨D, items, rfl, ⟨_, ho, rfl, n, rfl⟩, hS.free hD, hv.ext (g.extV ρ)⟩
/- displays -/
theorem snd_list {es : List Expr} {pos : Pos} {ms : List (M V)} (ha : All2 (ArgR C d env sc ns) es ms) : SndF C d env sc ns (eval (.List es pos) env) (listM ms) := fun A s ρ st Q E X hA hS hw hX => by
  refine wpAny_List ((snd_args ha) A s ρ st _ E X hA hS (wpM_mono (wpM_bind.mp hw) (fun vs st₁ h₁ vals s₁ ρ₁ r₁ S₁ e₁ => ?_) fun _ _ q => q) hX)
  obtain ⟨hl, hq⟩ := Rest.ite' h₁
  exact ⟨by rw [← r₁.len]; exact hl, hq vs _ _ ρ₁ rfl ((S₁.fresh (tk := s₁.toks) (Grows.push s₁.heap _) fresh_none (Heap.get?_push_size _ rfl) (by simpa using r₁)).from e₁)⟩
theorem snd_tuple {es : List Expr} {k : Nat} {pos : Pos} {ms : List (M V)} (ha : All2 (ArgR C d env sc ns) es ms) : SndE C d env sc ns (.Tuple es k pos) (tupM ms) := .of fun A s ρ st Q E X hA hS hw => by
  refine wpAny_Tuple ((snd_args ha).then hA hS hw fun vs vals s₁ ρ₁ st₁ r₁ S₁ e₁ hw₁ => ?_)
  obtain ⟨hl, hw₂⟩ := Rest.ite hw₁
  exact ⟨by rw [← r₁.len]; exact hl, Rest.tuple (tk := s₁.toks) S₁ hw₂ (Grows.push s₁.heap _) fresh_none (Heap.get?_push_size _ rfl) (by simpa using r₁)⟩

/- built-in functions -/
theorem len_ok {n : Nat} (h : n ≤ lim) : (n : Int) < 2 ^ 63 := by
  have : lim = 16777216 := rfl
  omega
theorem at_len {vs : List V} {vals : List Value} {s : Shared} {ρ : List Addr} {st : St} (hv : VRs C s.heap ρ vs vals) : At C d env sc ns (VR C) Nil (call (.builtin "len") vals) (fLen vs) s ρ st := .of fun A Q E X hA hS hw => by
  obtain ⟨hw1, hX⟩ := hw
  have two : ∀ {n : Nat}, wpM (lenM n) st (fun v st' => ∀ val s' ρ', VR C s'.heap ρ' v val → State C env sc ns s' ρ' st' → Ext Nil s ρ s' ρ' → Q val s') X → n ≤ lim ∧ Q (.int n (s.toks + 1)) { s with toks := s.toks + 1 + 1 } := fun h => by
    obtain ⟨h1, h2⟩ := Rest.ite' h
    exact ⟨h1, h2 _ _ _ ⟨_, rfl⟩ (hS.toks _) (.toks _)⟩
  unfold fLen at hw1
  split at hw1
  case h_2 => exact hw1.elim
  simp only [vS0, vS1] at hv
  obtain ⟨_, _, rfl, hx, rfl⟩ := hv
  unfold lenV at hw1
  split at hw1
  · obtain ⟨hl, hq⟩ := two hw1
    obtain ⟨t, rfl⟩ := hx
    exact P.len_str (by have := len_ok hl; rw [str_len]; omega) (by rw [str_len]; exact hq)
  · obtain ⟨hl, hq⟩ := two hw1
    simp only [vR0, vR1, vR2, vR3, vR4, vR5, vR6, vR7, vR8, vR9, vR10, vR11, vR12, vR13] at hx
    obtain ⟨a, items, rfl, ht, _, hx⟩ := hx
    have e := hx.len
    simp at e
    exact len_tuple ht (by rw [← e]; exact len_ok hl) (by rw [← e]; exact hq)
  · obtain ⟨a, items, o, n, xs, rfl, g1, c1, d1, v1, e1, h1⟩ := list_at hS.inv hx (wpM_bind.mp hw1)
    obtain ⟨hl, hq⟩ := two h1
    exact Calls.call_len_list ⟨o, g1, c1, n, d1⟩ (by rw [← e1]; exact len_ok hl) (by rw [← e1]; exact hq)
theorem isi_mem {t : String} (h : isiTypes.contains t = true) : t = "int" ∨ t = "str" ∨ t = "bool" ∨ t = "list" ∨ t = "tuple" ∨ t = "dict" := by
  simpa [isiTypes] using h
theorem isi_bool {b : Bool} {prog : Program} {w : World} {A : Around} {Q E : Value → Shared → Prop} {s : Shared} {t : String} (hc : isiTypes.contains t = true) (hq : ∀ b, isiK "bool" t = some b → Q (.bool b) s ∧ Q (.bool b) { s with toks := s.toks + 1 }) : wpAny (model prog w) A (call (.builtin "isinstance") [.bool b, .type t]) Q E s := by
  rcases isi_mem hc with rfl | rfl | rfl | rfl | rfl | rfl
  · exact IsiPair.bool_int (hq _ rfl).1
  · exact IsiPair.bool_str (hq _ rfl).2
  · exact IsiPair.bool_bool (hq _ rfl).1
  · exact IsiPair.bool_list (hq _ rfl).2
  · exact IsiPair.bool_tuple (hq _ rfl).2
  · exact IsiPair.bool_dict (hq _ rfl).2
theorem isi_int {i : Int} {u : Tok} {prog : Program} {w : World} {A : Around} {Q E : Value → Shared → Prop} {s : Shared} {t : String} (hc : isiTypes.contains t = true) (hq : ∀ b, isiK "int" t = some b → Q (.bool b) s ∧ Q (.bool b) { s with toks := s.toks + 1 }) : wpAny (model prog w) A (call (.builtin "isinstance") [.int i u, .type t]) Q E s := by
  rcases isi_mem hc with rfl | rfl | rfl | rfl | rfl | rfl
  · exact IsiPair.int_int (hq _ rfl).1
  · exact IsiPair.int_str (hq _ rfl).2
  · exact IsiPair.int_bool (hq _ rfl).2
  · exact IsiPair.int_list (hq _ rfl).2
  · exact IsiPair.int_tuple (hq _ rfl).2
  · exact IsiPair.int_dict (hq _ rfl).2
theorem isi_str {x : Str} {u : Tok} {prog : Program} {w : World} {A : Around} {Q E : Value → Shared → Prop} {s : Shared} {t : String} (hc : isiTypes.contains t = true) (hq : ∀ b, isiK "str" t = some b → Q (.bool b) s ∧ Q (.bool b) { s with toks := s.toks + 1 }) : wpAny (model prog w) A (call (.builtin "isinstance") [.str x u, .type t]) Q E s := by
  rcases isi_mem hc with rfl | rfl | rfl | rfl | rfl | rfl
  · exact IsiPair.str_int (hq _ rfl).2
  · exact IsiPair.str_str (hq _ rfl).1
  · exact IsiPair.str_bool (hq _ rfl).2
  · exact IsiPair.str_list (hq _ rfl).2
  · exact IsiPair.str_tuple (hq _ rfl).2
  · exact IsiPair.str_dict (hq _ rfl).2
theorem isi_list {a : Addr} {o : Obj} {prog : Program} {w : World} {A : Around} {Q E : Value → Shared → Prop} {s : Shared} {t : String} (ho : s.heap.get? a = some o) (hcl : o.cls = .type "list") (hc : isiTypes.contains t = true) (hq : ∀ b, isiK "list" t = some b → Q (.bool b) s ∧ Q (.bool b) { s with toks := s.toks + 1 }) : wpAny (model prog w) A (call (.builtin "isinstance") [.ref a, .type t]) Q E s := by
  rcases isi_mem hc with rfl | rfl | rfl | rfl | rfl | rfl
  · exact IsiPair.list_int ho hcl (hq _ rfl).2
  · exact IsiPair.list_str ho hcl (hq _ rfl).2
  · exact IsiPair.list_bool ho hcl (hq _ rfl).2
  · exact IsiPair.list_list ho hcl (hq _ rfl).1
  · exact IsiPair.list_tuple ho hcl (hq _ rfl).2
  · exact IsiPair.list_dict ho hcl (hq _ rfl).2
theorem isi_tup {a : Addr} {o : Obj} {prog : Program} {w : World} {A : Around} {Q E : Value → Shared → Prop} {s : Shared} {t : String} (ho : s.heap.get? a = some o) (hcl : o.cls = .type "tuple") (hc : isiTypes.contains t = true) (hq : ∀ b, isiK "tuple" t = some b → Q (.bool b) s ∧ Q (.bool b) { s with toks := s.toks + 1 }) : wpAny (model prog w) A (call (.builtin "isinstance") [.ref a, .type t]) Q E s := by
  rcases isi_mem hc with rfl | rfl | rfl | rfl | rfl | rfl
  · exact IsiPair.tuple_int ho hcl (hq _ rfl).2
  · exact IsiPair.tuple_str ho hcl (hq _ rfl).2
  · exact IsiPair.tuple_bool ho hcl (hq _ rfl).2
  · exact IsiPair.tuple_list ho hcl (hq _ rfl).2
  · exact IsiPair.tuple_tuple ho hcl (hq _ rfl).1
  · exact IsiPair.tuple_dict ho hcl (hq _ rfl).2
theorem isi_none {prog : Program} {w : World} {A : Around} {Q E : Value → Shared → Prop} {s : Shared} {t : String} (hc : isiTypes.contains t = true) (hq : ∀ b, isiK "NoneType" t = some b → Q (.bool b) s ∧ Q (.bool b) { s with toks := s.toks + 1 }) : wpAny (model prog w) A (call (.builtin "isinstance") [.none, .type t]) Q E s := by
  rcases isi_mem hc with rfl | rfl | rfl | rfl | rfl | rfl
  · exact IsiPair.NoneType_int (hq _ rfl).2
  · exact IsiPair.NoneType_str (hq _ rfl).2
  · exact IsiPair.NoneType_bool (hq _ rfl).2
  · exact IsiPair.NoneType_list (hq _ rfl).2
  · exact IsiPair.NoneType_tuple (hq _ rfl).2
  · exact IsiPair.NoneType_dict (hq _ rfl).2
theorem at_isinstance {vs : List V} {vals : List Value} {s : Shared} {ρ : List Addr} {st : St} (hv : VRs C s.heap ρ vs vals) : At C d env sc ns (VR C) Nil (call (.builtin "isinstance") vals) (fIsinstance vs) s ρ st := .of fun A Q E X hA hS hw => by
  obtain ⟨hw1, hX⟩ := hw
  unfold fIsinstance at hw1
  split at hw1
  · rename_i v t
    have hw := (⟨hw1, hX⟩ : Rest C env sc ns (VR C) Nil Q E X _ s ρ st)
    simp only [vS0, vS1] at hv
    obtain ⟨x, _, rfl, hx, _, _, rfl, ht, rfl⟩ := hv
    simp only [vR0, vR1, vR2, vR3, vR4, vR5, vR6, vR7, vR8, vR9, vR10, vR11, vR12, vR13] at ht
    subst ht
    obtain ⟨bv, h1, h2⟩ := wpM_withObs.mp hw.1
    obtain ⟨k, hk, h3⟩ := Option.bind_eq_some_iff.mp h1
    obtain ⟨b, h4, rfl⟩ := Option.map_eq_some_iff.mp h3
    have hc : isiTypes.contains t = true := by
      unfold isiK at h4
      split at h4
      · assumption
      · cases h4
    have hq : ∀ b', isiK k t = some b' → Q (.bool b') s ∧ Q (.bool b') { s with toks := s.toks + 1 } := fun b' q => by
      rw [h4] at q
      cases q
      exact ⟨h2 _ _ _ rfl hS (.refl ..), h2 _ _ _ rfl (hS.toks _) (.toks _)⟩
    clear h1 h2 h3 h4 hw hw1 hX
    cases v with
    | bool _ => cases hx; cases hk; exact isi_bool hc hq
    | int _ => obtain ⟨t, rfl⟩ := hx; cases hk; exact isi_int hc hq
    | str _ => obtain ⟨t, rfl⟩ := hx; cases hk; exact isi_str hc hq
    | none => cases hx; cases hk; exact isi_none hc hq
    | tuple xs =>
      cases hk
      simp only [vR0, vR1, vR2, vR3, vR4, vR5, vR6, vR7, vR8, vR9, vR10, vR11, vR12, vR13] at hx
      obtain ⟨a, items, rfl, ⟨o, ho, hcl, hd⟩, _⟩ := hx
      exact isi_tup ho hcl hc hq
    | flist xs =>
      cases hk
      have hk' : ∃ a, x = .ref a := by simp only [vR0, vR1, vR2, vR3, vR4, vR5, vR6, vR7, vR8, vR9, vR10, vR11, vR12, vR13] at hx; obtain ⟨a, _, _, rfl, _⟩ := hx; exact ⟨a, rfl⟩
      obtain ⟨a, rfl⟩ := hk'
      obtain ⟨items, ⟨o, ho, hcl, n, hd⟩, _⟩ := vr_flist hx
      exact isi_list ho hcl hc hq
    | ref r =>
      simp only [vR0, vR1, vR2, vR3, vR4, vR5, vR6, vR7, vR8, vR9, vR10, vR11, vR12, vR13] at hx
      obtain ⟨a, rfl, ha⟩ := hx
      replace hk : (match st.obs[r]? with
        | some (.list _) => some "list"
        | _ => none) = some _ := hk
      split at hk
      · rename_i xs hxs
        cases hk
        obtain ⟨items, n, ho, _⟩ := hS.inv.list hxs ha
        exact isi_list ho rfl hc hq
      · cases hk
    | _ => cases hk
  · exact hw1.elim
/- at a state: a new list -/
noncomputable def AtF (C : Cx) (d : Nat) (env : Env) (sc : Scope) (ns : List Str) (t : Sem Value) (m : M V) (s : Shared) (ρ : List Addr) (st : St) : Prop :=
  ∀ (A : Around) (Q : Value → Shared → Prop) (E : Value → Shared → Prop) (X : Str → St → Prop), AOk d A → State C env sc ns s ρ st →
    wpM m st (fun v st' => ∀ vs D s' ρ', v = .flist vs → Fresh C env sc ns s ρ vs D s' ρ' st' → Q (.ref D) s') X → wpAny (model C.prog C.w) A t Q E s
theorem AtF.val {t : Sem Value} {m : M V} {s : Shared} {ρ : List Addr} {st : St} (h : AtF C d env sc ns t m s ρ st) : At C d env sc ns (VR C) Nil t m s ρ st := fun A Q E X hA hS hw hX =>
  h A Q E X hA hS (wpM_mono hw (fun v st' hq vs D s' ρ' hv F => by subst hv; obtain ⟨S, r⟩ := F.val hS.frm.off; exact hq _ _ _ r S F.ext) fun _ _ q => q)
theorem at_listF {vs : List V} {vals : List Value} {s : Shared} {ρ : List Addr} {st : St} (hv : VRs C s.heap ρ vs vals) : AtF C d env sc ns (call (.type "list") vals) (fList vs) s ρ st := fun A Q E X hA hS hw1 => by
  have key : ∀ {a : Addr} {T : String} {o : Obj} {items : Array Value} {n : Nat} {xs : List V}, (T = "list" ∨ T = "tuple") → s.heap.get? a = some o → o.cls = .type T → o.data = .seq items n → VRs C s.heap ρ xs items.toList → wpM (allocL xs) st (fun v st' => ∀ vs D s' ρ', v = .flist vs → Fresh C env sc ns s ρ vs D s' ρ' st' → Q (.ref D) s') X → wpAny (model C.prog C.w) A (call (.type "list") [.ref a]) Q E s := fun hT ho hc hd hx hw => by
    obtain ⟨hl, hq⟩ := Rest.ite' hw
    refine call_list_seq _ hT ho hc hd (fun h' c' g ho' => hq _ _ _ ρ rfl (hS.fresh (tk := s.toks) g fresh_none ho' hx)) ?_
    have e := hx.len
    simp at e
    rw [← e]; exact hl
  unfold fList at hw1
  split at hw1
  · simp only [vS0, vS1, vR0, vR1, vR2, vR3, vR4, vR5, vR6, vR7, vR8, vR9, vR10, vR11, vR12, vR13] at hv
    obtain ⟨_, _, rfl, ⟨a, items, rfl, ⟨o, ho, hc, n, hd⟩, _, hx⟩, rfl⟩ := hv
    exact key (.inr rfl) ho hc hd hx hw1
  · simp only [vS0, vS1] at hv
    obtain ⟨_, _, rfl, hx, rfl⟩ := hv
    obtain ⟨a, items, o, n, xs, rfl, g1, c1, d1, v1, e1, h1⟩ := list_at hS.inv hx (wpM_bind.mp hw1)
    exact key (.inl rfl) g1 c1 d1 v1 h1
  · exact hw1.elim
theorem at_list {vs : List V} {vals : List Value} {s : Shared} {ρ : List Addr} {st : St} (hv : VRs C s.heap ρ vs vals) : At C d env sc ns (VR C) Nil (call (.type "list") vals) (fList vs) s ρ st := (at_listF hv).val
theorem at_range {vs : List V} {vals : List Value} {s : Shared} {ρ : List Addr} {st : St} (hv : VRs C s.heap ρ vs vals) : At C d env sc ns (VR C) Nil (call (.type "range") vals) (fRange vs) s ρ st := .of fun A Q E X hA hS hw => by
  obtain ⟨hw1, hX⟩ := hw
  unfold fRange at hw1
  split at hw1
  · rename_i n
    have hw := (⟨hw1, hX⟩ : Rest C env sc ns (VR C) Nil Q E X _ s ρ st)
    simp only [vS0, vS1, vR0, vR1, vR2, vR3, vR4, vR5, vR6, vR7, vR8, vR9, vR10, vR11, vR12, vR13] at hv
    obtain ⟨_, _, rfl, ⟨t, rfl⟩, rfl⟩ := hv
    obtain ⟨hl, hw⟩ := Rest.ite hw
    refine call_range_1 (hw.1 _ _ ρ ?_ (hS.grows (Grows.push _ _) _) (Ext.grows (Grows.push _ _)))
    simp only [vR0, vR1, vR2, vR3, vR4, vR5, vR6, vR7, vR8, vR9, vR10, vR11, vR12, vR13]
    exact ⟨_, _, _, _, rfl, hS.free fresh_none, IsRange.new ..⟩
  · rename_i a b
    have hw := (⟨hw1, hX⟩ : Rest C env sc ns (VR C) Nil Q E X _ s ρ st)
    simp only [vS0, vS1, vR0, vR1, vR2, vR3, vR4, vR5, vR6, vR7, vR8, vR9, vR10, vR11, vR12, vR13] at hv
    obtain ⟨_, _, rfl, ⟨t, rfl⟩, _, _, rfl, ⟨u, rfl⟩, rfl⟩ := hv
    obtain ⟨hl, hw⟩ := Rest.ite hw
    refine call_range_2 (hw.1 _ _ ρ ?_ (hS.grows (Grows.push _ _) _) (Ext.grows (Grows.push _ _)))
    simp only [vR0, vR1, vR2, vR3, vR4, vR5, vR6, vR7, vR8, vR9, vR10, vR11, vR12, vR13]
    exact ⟨_, _, _, _, rfl, hS.free fresh_none, IsRange.new ..⟩
  · exact hw1.elim
end
end Mine
set_option autoImplicit false
set_option linter.unusedVariables false
namespace Mine
open PySem PyProof.Rows
section
variable {C : Cx} {d : Nat} {env : Env} {sc : Scope} {ns : List Str}
theorem idxL_some {α : Type} {xs : List α} {i : Int} {v : α} (h : idxL xs i = some v) : (-(2 ^ 63) ≤ i ∧ i < 2 ^ 63) ∧ ((0 ≤ i ∧ xs[i.toNat]? = some v) ∨ (i < 0 ∧ -(xs.length : Int) ≤ i ∧ xs[(i + (xs.length : Int)).toNat]? = some v)) ∧ ∃ j, seqIndex? i xs.length = some j ∧ xs[j]? = some v := by
  have hb : big = 2 ^ 63 := by decide
  unfold idxL at h
  rw [hb] at h
  split at h
  · rename_i h0
    split at h
    · rename_i h1
      have hlt : i.toNat < xs.length := (List.getElem?_eq_some_iff.mp h).1
      refine ⟨⟨by omega, h1⟩, .inl ⟨h0, h⟩, i.toNat, ?_, h⟩
      unfold seqIndex?
      simp only [show ¬ i < 0 by omega, if_false]
      rw [if_pos (by simp; omega)]
    · cases h
  · rename_i h0
    split at h
    · rename_i h1
      have hlt : (i + (xs.length : Int)).toNat < xs.length := (List.getElem?_eq_some_iff.mp h).1
      refine ⟨⟨by omega, by omega⟩, .inr ⟨by omega, h1.1, h⟩, (i + (xs.length : Int)).toNat, ?_, h⟩
      unfold seqIndex?
      simp only [show i < 0 by omega, if_true]
      rw [if_pos (by simp; omega)]
    · cases h
theorem at_item_list {a : Addr} {items : Array Value} {xs : List V} {k : Int} {t : Tok} {v : V} {s : Shared} {ρ : List Addr} {A : Around} {Q : Value → Shared → Prop} {E : Value → Shared → Prop} (hl : s.heap.IsList a items) (hx : VRs C s.heap ρ xs items.toList) (hi : idxL xs k = some v) (h : ∀ x, VR C s.heap ρ v x → Q x s) :
    wpAny (model C.prog C.w) A (getItem (.ref a) (.int k t)) Q E s := by
  obtain ⟨⟨h1, h2⟩, h3, _⟩ := idxL_some hi
  have e := hx.len
  simp at e
  rcases h3 with ⟨h0, hg⟩ | ⟨h0, h4, hg⟩
  · obtain ⟨x, hx1, hx2⟩ := hx.getA hg
    exact wpAny_getItem_list hl h0 h2 hx1 (h x hx2)
  · obtain ⟨x, hx1, hx2⟩ := hx.getA hg
    exact wpAny_getItem_list_neg hl h0 (by rw [← e]; exact h4) h1 (by rw [← e]; exact hx1) (h x hx2)
noncomputable def sliceE : Expr → Bool
  | .Slice .. => true
  | _ => false
theorem subscripted_plain {slice : Expr} (h : sliceE slice = false) (o i : Value) : subscripted slice false o i = operate [o, i] (getItem o i) := by
  cases slice <;> first | rfl | cases h
theorem at_sub {value slice : Expr} (hs : sliceE slice = false) {x y : V} {vx vy : Value} {s : Shared} {ρ : List Addr} {st : St} (hx : VR C s.heap ρ x vx) (hy : VR C s.heap ρ y vy) : At C d env sc ns (VR C) Nil (subscriptTail value slice vx vy) (subV x y) s ρ st := .of fun A Q E X hA hS hw => by
  obtain ⟨hw1, hX⟩ := hw
  unfold subV at hw1
  split at hw1
  · rename_i x
    obtain ⟨i, rfl, hw1⟩ := wpM_asInt.mp (wpM_bind.mp hw1)
    obtain ⟨t, rfl⟩ := hx; obtain ⟨u, rfl⟩ := hy
    obtain ⟨r, h1, h2⟩ := wpM_ofOpt.mp hw1
    obtain ⟨c, h3, rfl⟩ := Option.map_eq_some_iff.mp h1
    obtain ⟨⟨b1, b2⟩, _, j, h4, h5⟩ := idxL_some h3
    refine tail_any (typeIs_str _ _ _) PySem.F.slot_str_getitem.lookup (PySem.P.getItem_str (c := c) (by simp; omega) ?_ (h2 _ _ _ ⟨_, rfl⟩ (hS.toks _) (.toks _))) (subscripted_plain hs _ _)
    rw [str_len, h4]
    show x.toArray[j]? = some c
    simpa using h5
  · obtain ⟨i, rfl, hw1⟩ := wpM_asInt.mp (wpM_bind.mp hw1)
    simp only [vR0, vR1, vR2, vR3, vR4, vR5, vR6, vR7, vR8, vR9, vR10, vR11, vR12, vR13] at hx
    obtain ⟨a, items, rfl, ht, _, hx⟩ := hx; obtain ⟨u, rfl⟩ := hy
    obtain ⟨r, h1, h2⟩ := wpM_ofOpt.mp hw1
    obtain ⟨⟨b1, b2⟩, _, j, h4, h5⟩ := idxL_some h1
    obtain ⟨z, h6, h7⟩ := hx.getA h5
    have e := hx.len
    simp at e
    exact tail_any ht.typeIs slot_tuple_getitem.lookup (getItem_tuple ht b1 b2 (by rw [← e]; exact h4) h6 (h2 _ _ _ h7 hS (.refl ..))) (subscripted_plain hs _ _)
  · obtain ⟨i, rfl, hw1⟩ := wpM_asInt.mp (wpM_bind.mp hw1)
    simp only [vR0, vR1, vR2, vR3, vR4, vR5, vR6, vR7, vR8, vR9, vR10, vR11, vR12, vR13] at hx
    obtain ⟨a, items, n, rfl, hl, _, hx⟩ := hx; obtain ⟨u, rfl⟩ := hy
    have hl : s.heap.IsList a items := ⟨_, hl, rfl, n, rfl⟩
    obtain ⟨r, h1, h2⟩ := wpM_ofOpt.mp hw1
    exact tail_any hl.typeIs slot_list_getitem.lookup (at_item_list hl hx h1 fun z hz => h2 _ _ _ hz hS (.refl ..)) (subscripted_plain hs _ _)
  · obtain ⟨i, rfl, hw1⟩ := wpM_asInt.mp (wpM_bind.mp hw1)
    simp only [vR0, vR1, vR2, vR3, vR4, vR5, vR6, vR7, vR8, vR9, vR10, vR11, vR12, vR13] at hx
    obtain ⟨a, items, rfl, hl, _, hx⟩ := hx; obtain ⟨u, rfl⟩ := hy
    obtain ⟨r, h1, h2⟩ := wpM_ofOpt.mp hw1
    exact tail_any hl.typeIs slot_list_getitem.lookup (at_item_list hl hx h1 fun z hz => h2 _ _ _ hz hS (.refl ..)) (subscripted_plain hs _ _)
  · rename_i r
    simp only [vR0, vR1, vR2, vR3, vR4, vR5, vR6, vR7, vR8, vR9, vR10, vR11, vR12, vR13] at hx
    obtain ⟨a, rfl, ha⟩ := hx
    obtain ⟨o, ho, h1⟩ := wpM_getOb.mp (wpM_bind.mp hw1)
    unfold subO at h1
    split at h1
    · rename_i xs
      obtain ⟨i, rfl, h2⟩ := wpM_asInt.mp (wpM_bind.mp h1)
      obtain ⟨u, rfl⟩ := hy
      obtain ⟨r, h3, h4⟩ := wpM_ofOpt.mp h2
      obtain ⟨items, hl, hx⟩ := hS.inv.isList ho ha
      exact tail_any hl.typeIs slot_list_getitem.lookup (at_item_list hl hx h3 fun z hz => h4 _ _ _ hz hS (.refl ..)) (subscripted_plain hs _ _)
    · exact h1.elim
  · exact hw1.elim
theorem snd_sub {o i : Expr} {pos : Pos} {m k : M V} (hs : sliceE i = false) (ho : SndE C d env sc ns o m) (hi : SndE C d env sc ns i k) : SndE C d env sc ns (.Subscript o i pos) (subM m k) := .of fun A s ρ st Q E X hA hS hw =>
  Subscript_ (ho.then hA hS hw fun x vx s₁ ρ₁ st₁ r₁ S₁ e₁ hw₁ => hi.then hA S₁ hw₁ fun y vy s₂ ρ₂ st₂ r₂ S₂ e₂ hw₂ => (at_sub hs (r₁.ext e₂.extN) r₂).go hA S₂ hw₂)

/- slices -/
noncomputable def PartR (_ : Heap) (_ : List Addr) (i : Option Int) (v : Value) : Prop := IsPart v i
noncomputable def OptR (C : Cx) (d : Nat) (env : Env) (sc : Scope) (ns : List Str) : Option Expr → Option (M V) → Prop
  | none, none => True
  | some e, some m => SndE C d env sc ns e m
  | _, _ => False
theorem snd_part {e : Option Expr} {m : Option (M V)} (h : OptR C d env sc ns e m) : Snd C d env sc ns PartR Nil (evalPart e env) (optI m) := .of fun A s ρ st Q E X hA hS hw => by
  match e, m, h with
  | none, none, _ => rw [evalPart_none]; exact wpAny_pure (hw.1 _ _ _ .none hS (.refl ..))
  | some e, some m, h =>
    rw [evalPart_some]
    refine Snd.then h hA hS hw fun v val s₁ ρ₁ st₁ r₁ S₁ e₁ hw₁ => ?_
    obtain ⟨i, rfl, h2⟩ := wpM_asInt.mp (wpM_bind.mp hw₁.1)
    obtain ⟨t, rfl⟩ := r₁
    exact h2 _ _ _ (.int i t) S₁ (.refl ..)
theorem VRs.drop {h : Heap} {ρ : List Addr} : ∀ {vs : List V} {xs : List Value} (k : Nat), VRs C h ρ vs xs → VRs C h ρ (vs.drop k) (xs.drop k)
  | _, _, 0, r => r
  | [], _, k + 1, r => by simp only [vS0, vS1] at r; subst r; simp only [List.drop_nil, vS0, vS1]
  | v :: vs, _, k + 1, r => by
    simp only [vS0, vS1] at r
    obtain ⟨x, xs, rfl, _, h2⟩ := r
    exact VRs.drop k h2
theorem VRs.take {h : Heap} {ρ : List Addr} : ∀ {vs : List V} {xs : List Value} (k : Nat), VRs C h ρ vs xs → VRs C h ρ (vs.take k) (xs.take k)
  | _, _, 0, r => by simp only [List.take_zero, vS0, vS1]
  | [], _, k + 1, r => by simp only [vS0, vS1] at r; subst r; simp only [List.take_nil, vS0, vS1]
  | v :: vs, _, k + 1, r => by
    simp only [vS0, vS1] at r
    obtain ⟨x, xs, rfl, h1, h2⟩ := r
    simp only [List.take_succ_cons, vS0, vS1]
    exact ⟨x, _, rfl, h1, VRs.take k h2⟩
theorem VRs.slice {h : Heap} {ρ : List Addr} {vs : List V} {items : Array Value} (r : VRs C h ρ vs items.toList) (lo hi : Option Int) : VRs C h ρ (sliceL vs lo hi) (slicePick items lo hi none).toList := by
  have e := r.len
  simp at e
  rw [slicePick_plain]
  unfold sliceL
  rw [e]
  simpa using (r.drop _).take _
theorem snd_slice {o : Expr} {lo hi : Option Expr} {p pos : Pos} {m : M V} {ml mh : Option (M V)} (ho : SndE C d env sc ns o m) (hl : OptR C d env sc ns lo ml) (hh : OptR C d env sc ns hi mh) :
    SndE C d env sc ns (.Subscript o (.Slice lo hi none p) pos) (sliceM m ml mh) := .of fun A s ρ st Q E X hA hS hw => by
  refine Subscript_ (ho.then hA hS hw fun x vx s₁ ρ₁ st₁ r₁ S₁ e₁ hw₁ => ?_)
  refine wpAny_Slice ((snd_part hl).then hA S₁ hw₁ fun l vl s₂ ρ₂ st₂ r₂ S₂ e₂ hw₂ => (snd_part hh).then hA S₂ hw₂ fun u vu s₃ ρ₃ st₃ r₃ S₃ e₃ hw₃ => ?_)
  rw [evalPart_none]
  refine wpAny_pure ?_
  have hx := (r₁.ext e₂.extN).ext e₃.extN
  have g := Grows.push s₃.heap { cls := .type "slice", data := .fields #[vl, vu, .none] }
  have key : ∀ {a : Addr} {items : Array Value} {xs : List V}, s₃.heap.IsList a items → VRs C s₃.heap ρ₃ xs items.toList → Rest C env sc ns (VR C) Nil Q E X (if xs.length ≤ lim then M.pure (.flist (sliceL xs l u)) else stuck) s₃ ρ₃ st₃ → wpAny (model C.prog C.w) A (subscriptTail o (.Slice lo hi none p) (.ref a) (.ref s₃.heap.objs.size)) Q E { s₃ with heap := s₃.heap.push { cls := .type "slice", data := .fields #[vl, vu, .none] } } := fun {a items xs} hl hx hw => by
    obtain ⟨hle, hw⟩ := Rest.ite hw
    have hl' := Heap.IsList.push hl { cls := .type "slice", data := .fields #[vl, vu, .none] }
    refine tail_any hl'.typeIs slot_list_getitem.lookup ?_ rfl
    have e := hx.len
    simp at e
    refine wpAny_getItem_list_slice hl' (Heap.IsSliceOf.new ..) r₂ r₃ .none (by simp) ?_ (by rw [← e]; exact hle)
    have hw' : Rest C env sc ns (VR C) Nil Q E X (M.pure (.flist (sliceL xs l u))) { s₃ with heap := s₃.heap.push { cls := .type "slice", data := .fields #[vl, vu, .none] } } ρ₃ st₃ := Rest.mono (Ext.grows (t := s₃.toks) g) hw.1 hw.2
    exact Rest.list (tk := s₃.toks) (S₃.grows g s₃.toks) hw' (Grows.push _ _) fresh_none (Heap.get?_push_size _ rfl) ((hx.slice l u).ext (g.extV ρ₃))
  obtain ⟨hw1, hX⟩ := hw₃
  unfold sliceV at hw1
  split at hw1
  · rename_i x
    obtain ⟨hle, h1⟩ := Rest.ite' hw1
    obtain ⟨t, rfl⟩ := hx
    refine tail_any (typeIs_str _ _ _) PySem.F.slot_str_getitem.lookup ?_ rfl
    have hl : ∃ p : Option (Int × Tok), partValue p = vl ∧ p.map (·.1) = l := by cases r₂ with | none => exact ⟨none, rfl, rfl⟩ | int i t => exact ⟨some (i, t), rfl, rfl⟩
    have hu : ∃ p : Option (Int × Tok), partValue p = vu ∧ p.map (·.1) = u := by cases r₃ with | none => exact ⟨none, rfl, rfl⟩ | int i t => exact ⟨some (i, t), rfl, rfl⟩
    obtain ⟨pl, rfl, el⟩ := hl
    obtain ⟨pu, rfl, eu⟩ := hu
    subst el
    subst eu
    refine wpAny_getItem_str_slice (l := pl) (u := pu) (st := none) ⟨_, Heap.get?_push_size _ rfl, rfl, rfl⟩ rfl ?_
    refine post_val_or_str ⟨Nat.le_trans (Txt.slice_le _ _ _) (by rw [str_len]; exact hle), fun t' k => ?_⟩
    refine h1 _ _ ρ₃ ?_ (S₃.grows g k) (Ext.grows g)
    simp only [vR0, vR1, vR2, vR3, vR4, vR5, vR6, vR7, vR8, vR9, vR10, vR11, vR12, vR13]
    exact ⟨t', rfl⟩
  · obtain ⟨a, items, o, n, xs, rfl, g1, c1, d1, v1, e1, h1⟩ := list_at S₃.inv hx (wpM_bind.mp hw1)
    exact key ⟨o, g1, c1, n, d1⟩ v1 ⟨h1, hX⟩
end
end Mine
set_option autoImplicit false
set_option linter.unusedVariables false
namespace Mine
open PySem PyProof.Rows PySem.W
/- what is known of the heap that the run starts in: calls of level d are sound -/
structure Ok (C : Cx) (K : Frag) (G : GI) (W : Wd) (d : Nat) : Prop where
  cx : CxOk C G
  inK : K.In C.base
  fn : ∀ x, G.fns.contains x = true → ∃ a, C.mg x = some (.ref a) ∧ keepIn K (.ref a) = true ∧ FSnd C d a (W.cf (.fn x)) ∧ FSndF C d a (W.cf (.fnO x)) ∧ FSnd C d a (W.cf (.fnR x))
  meth : ∀ c k x, C.mg c = some (.ref k) → W.has c x = true → plainGet K k x = true ∧ ∃ f, findIn K (.ref k) x = some (some (.ref f)) ∧ isFn K (.ref f) = true ∧ keepIn K (.ref f) = true ∧ FSnd C d f (W.cf (.meth c x))
  fld : ∀ c k x, C.mg c = some (.ref k) → W.fld c x = true → plainGet K k x = true ∧ hasDictIn K k = true ∧ (∃ attr, findIn K (.ref k) x = some attr ∧ noGet K attr = true) ∧
    findIn K (.ref k) "__setattr__" = some (some (.builtin "object.__setattr__")) ∧ plainOver K k = true ∧ takerIn K k x = some none
  new : ∀ c k, C.mg c = some (.ref k) → W.has c (nm "__init__") = true → keepIn K (.ref k) = true ∧ makesIn K k = true ∧ ∃ f, findIn K (.ref k) "__init__" = some (some (.ref f)) ∧ isFn K (.ref f) = true ∧ FSnd C d f (W.cf (.meth c (nm "__init__")))
section
variable {C : Cx} {d : Nat} {env : Env} {sc : Scope} {ns : List Str} {K : Frag} {G : GI} {W : Wd}
theorem base_pure {o : Expr} {x : Str} (h : supE o = false) : attributeBase o x env (eval o env) = eval o env := by
  cases o with
  | Call f as ks p =>
    cases f with
    | Name i q =>
      cases as with
      | nil =>
        cases ks with
        | nil => cases h
        | cons _ _ => rfl
      | cons _ _ => rfl
    | _ => rfl
  | _ => rfl
/- a method call: the thing, the method, the arguments, the call -/
theorem Call_meth {prog : Program} {w : World} {A : Around} {E : Value → Shared → Prop} {s : Shared} {o : Expr} {name : Str} {apos pos : Pos} {args : List Expr} {Q : Value → Shared → Prop} (hs : supE o = false) (hplain : (backTo pos (starEach args env)).all (fun x => !x.1) = true) (hlen : args.length < 29) (hline : (apos.endLine == pos.line) = true)
    (h : wpAny (model prog w) A (eval o env) (fun ov s₁ => ∀ pl, wpAny (model prog w) A (getMethod ov name pl) (fun f s₂ => wpAny (model prog w) A (callWith pos f.1 f.2 (backTo pos (starEach args env)) []) Q E s₂) E s₁) E s) :
    wpAny (model prog w) A (eval (.Call (.Attribute o name apos) args [] pos) env) Q E s := by
  rw [arm_eval_Call, base_pure hs]
  refine wpAny_bind (wpAny_mono h (fun ov s₁ h₁ => wpAny_bind (wpAny_standAt ?_)) fun _ _ x => x)
  have hform : methodCallForm (args.length + ([] : List Keyword).length) (backTo pos (starEach args env)) (backToKw pos (keywordEach [] env)) = true := by
    unfold methodCallForm
    rw [hplain]
    show (true && true && decide (args.length + 0 + (if _ then 0 else 1) < 30)) = true
    rw [Bool.true_and, Bool.true_and, decide_eq_true_eq]
    split <;> omega
  have hpos : methodCallPos true o env apos pos = pure pos := by unfold methodCallPos; simp [hline]
  unfold methodCall
  rw [hform]
  unfold calleeOf
  rw [if_pos rfl]
  refine wpAny_bind (wpAny_holding (wpAny_mono (h₁ _) (fun f s₂ h₂ => ?_) fun _ _ x => x))
  obtain ⟨f, first⟩ := f
  exact wpAny_bind (wpAny_of_eq hpos h₂)
theorem args_all {pos : Pos} : ∀ {es : List Expr} {ms : List (M V)}, All2 (ArgR C d env sc ns) es ms → (backTo pos (starEach es env)).all (fun x => !x.1) = true
  | [], [], _ => rfl
  | e :: es, m :: ms, h => by rw [star_cons h.1.1]; exact args_all h.2
  | [], _ :: _, h => h.elim
  | _ :: _, [], h => h.elim
/- a split, whatever the frame -/
/- methods of built-in types -/
theorem strs_of {h : Heap} {ρ : List Addr} : ∀ {xs : List V} {vals : List Value} {ws : List (List Nat)}, strsOf xs = some ws → VRs C h ρ xs vals → ∃ l, vals = strValues l ∧ l.map (·.1) = ws.map mkS
  | [], vals, ws, e, r => by cases e; simp only [vS0, vS1] at r; subst r; exact ⟨[], rfl, rfl⟩
  | v :: xs, vals, ws, e, r => by
    simp only [vS0, vS1] at r
    obtain ⟨x, vals, rfl, r1, r2⟩ := r
    cases v <;> first | (cases e; done) | skip
    rename_i s
    obtain ⟨ws, e1, rfl⟩ := Option.map_eq_some_iff.mp (show (strsOf xs).map (s :: ·) = some ws from e)
    obtain ⟨t, rfl⟩ := r1
    obtain ⟨l, rfl, q⟩ := strs_of e1 r2
    exact ⟨(⟨s.toArray⟩, t) :: l, rfl, by simp [q, mkS]⟩
theorem at_join {vs : List V} {vals : List Value} {s : Shared} {ρ : List Addr} {st : St} (hv : VRs C s.heap ρ vs vals) : At C d env sc ns (VR C) Nil (call (.builtin "str.join") vals) (mJoin vs) s ρ st := .of fun A Q E X hA hS hw => by
  obtain ⟨hw1, hX⟩ := hw
  unfold mJoin at hw1
  split at hw1
  · rename_i sep a
    simp only [vS0, vS1] at hv
    obtain ⟨_, _, rfl, ⟨t, rfl⟩, _, _, rfl, hx, rfl⟩ := hv
    obtain ⟨D, items, o, n, xs, rfl, g1, c1, d1, hx, e1, h1⟩ := list_at hS.inv hx (wpM_bind.mp hw1)
    obtain ⟨ws, q2, h2⟩ := wpM_ofOpt.mp (wpM_bind.mp h1)
    obtain ⟨hok, hw⟩ := Rest.ite (⟨h2, hX⟩ : Rest C env sc ns (VR C) Nil Q E X _ s ρ st)
    have hl : s.heap.IsList D items := ⟨o, g1, c1, n, d1⟩
    obtain ⟨l, q3, q4⟩ := strs_of q2 hx
    refine SC.join (l := l) (by rw [← q3]; simpa using hl) q4 hok fun t' k => hw.1 _ _ _ ?_ (hS.toks _) (.toks _)
    simp only [vR0, vR1, vR2, vR3, vR4, vR5, vR6, vR7, vR8, vR9, vR10, vR11, vR12, vR13]
    exact ⟨t', by simp [mkS]⟩
  · exact hw1.elim
theorem at_index {vs : List V} {vals : List Value} {s : Shared} {ρ : List Addr} {st : St} (hv : VRs C s.heap ρ vs vals) : At C d env sc ns (VR C) Nil (call (.builtin "str.index") vals) (mIndex vs) s ρ st := .of fun A Q E X hA hS hw => by
  obtain ⟨hw1, hX⟩ := hw
  unfold mIndex at hw1
  split at hw1
  · rename_i x y
    simp only [vS0, vS1, vR0, vR1, vR2, vR3, vR4, vR5, vR6, vR7, vR8, vR9, vR10, vR11, vR12, vR13] at hv
    obtain ⟨_, _, rfl, ⟨t, rfl⟩, _, _, rfl, ⟨u, rfl⟩, rfl⟩ := hv
    split at hw1
    · rename_i i r ho
      refine SC.index (i := i) (rest := r) (by rw [str_len]; exact ho) (hw1 _ _ _ ⟨_, rfl⟩ (hS.toks _) (.toks _))
    · exact hw1.elim
  · exact hw1.elim
theorem at_count {vs : List V} {vals : List Value} {s : Shared} {ρ : List Addr} {st : St} (hv : VRs C s.heap ρ vs vals) : At C d env sc ns (VR C) Nil (call (.builtin "str.count") vals) (mCount vs) s ρ st := .of fun A Q E X hA hS hw => by
  obtain ⟨hw1, hX⟩ := hw
  unfold mCount at hw1
  split at hw1
  · rename_i x y
    simp only [vS0, vS1, vR0, vR1, vR2, vR3, vR4, vR5, vR6, vR7, vR8, vR9, vR10, vR11, vR12, vR13] at hv
    obtain ⟨_, _, rfl, ⟨t, rfl⟩, _, _, rfl, ⟨u, rfl⟩, rfl⟩ := hv
    refine SC.count (hw1 _ _ _ ⟨s.toks, ?_⟩ (hS.toks _) (.toks _))
    unfold Txt.count occ
    rw [str_len]
  · exact hw1.elim
theorem at_append {vs : List V} {vals : List Value} {s : Shared} {ρ : List Addr} {st : St} (hv : VRs C s.heap ρ vs vals) : At C d env sc ns (VR C) Nil (call (.builtin "list.append") vals) (mAppend vs) s ρ st := .of fun A Q E X hA hS hw => by
  obtain ⟨hw1, hX⟩ := hw
  unfold mAppend at hw1
  split at hw1
  · rename_i a v
    simp only [vS0, vS1] at hv
    obtain ⟨_, _, rfl, hD, x, _, rfl, hx, rfl⟩ := hv
    simp only [vR0, vR1, vR2, vR3, vR4, vR5, vR6, vR7, vR8, vR9, vR10, vR11, vR12, vR13] at hD
    obtain ⟨D, rfl, hD⟩ := hD
    obtain ⟨xs, q1, h1⟩ := wpM_getList.mp (wpM_bind.mp hw1)
    obtain ⟨hle, hw⟩ := Rest.ite (⟨h1, hX⟩ : Rest C env sc ns (VR C) Nil Q E X _ s ρ st)
    obtain ⟨hlt, h2⟩ := wpM_setOb.mp (wpM_bind.mp hw.1)
    obtain ⟨items, n, ho, hxs⟩ := hS.inv.list q1 hD
    have e := hxs.len
    simp at e
    refine wpAny_list_append_plain ⟨n, ho⟩ (fun h' hp hs => ?_) (by rw [← e]; exact hle)
    obtain ⟨n', ho'⟩ := hp
    have k : ∀ b o, b ≠ D → s.heap.get? b = some o → h'.get? b = some o := fun b o hb q => (hs.2 b hb).trans q
    have hm : D ∈ ρ := List.mem_of_getElem? hD
    have eV : ExtV C s.heap ρ h' ρ := .put hm k
    have ex : Ext Nil s ρ { s with heap := h', toks := s.toks } ρ := Ext.put hm k ho'
    refine h2 _ _ ρ rfl ⟨hS.inv.put hD k ⟨_, n', ho', ?_⟩, hS.frm.ext ex⟩ ex
    simpa using (hxs.append (.one hx)).ext eV
  · exact hw1.elim
end
end Mine
set_option autoImplicit false
set_option linter.unusedVariables false
namespace Mine
open PySem PyProof.Rows PySem.W
section
variable {C : Cx} {d : Nat} {env : Env} {sc : Scope} {ns : List Str} {K : Frag} {G : GI} {W : Wd}
noncomputable def Callable (K : Frag) (f : Value) : Prop := (∃ id, f = .builtin id) ∨ (∃ T, f = .type T) ∨ keepIn K f = true
theorem callWith_any {M : Model} {A : Around} {E : Value → Shared → Prop} {s : Shared} {pos : Pos} {f : Value} {first : List Value} {args : List (Bool × Sem Value)} {Q : Value → Shared → Prop} (hf : Callable K f) (hplain : args.any (·.1) = false)
    (h : wpAny M A (evalArgs f true args []) (fun a s₁ => K.In s₁.heap ∧ wpAny M A (call f (first ++ a.pos) a.kw) Q E s₁) E s) : wpAny M A (callWith pos f first args []) Q E s := by
  rcases hf with ⟨id, rfl⟩ | ⟨T, rfl⟩ | hk
  · exact Calls.callWith_builtin hplain (wpAny_mono h (fun _ _ q => q.2) fun _ _ q => q)
  · exact PyProof.Rows.callWith_type hplain (wpAny_mono h (fun _ _ q => q.2) fun _ _ q => q)
  · exact callWith_of (by rw [hplain]; rfl) (keeps_K hk) h
theorem Ok.inH (hO : Ok C K G W d) {s : Shared} {ρ : List Addr} {st : St} (hS : State C env sc ns s ρ st) : K.In s.heap := hO.inK.keeps hS.inv.base
/- a call: arguments, then what the thing called does -/
theorem snd_callAny (hK : K.In C.base) {pos : Pos} {es : List Expr} {ms : List (M V)} {fv : Value} {first : List Value} {fs : List V} {g : List V → M V} (hf : Callable K fv) (ha : All2 (ArgR C d env sc ns) es ms) {s : Shared} {ρ : List Addr} {st : St} (hfirst : VRs C s.heap ρ fs first)
    (h : ∀ vs vals s ρ st, VRs C s.heap ρ vs vals → At C d env sc ns (VR C) Nil (call fv vals) (g vs) s ρ st) :
    At C d env sc ns (VR C) Nil (callWith pos fv first (backTo pos (starEach es env)) []) ((seqM ms).bind fun vs => g (fs ++ vs)) s ρ st := .of fun A Q E X hA hS hw =>
  callWith_any hf (args_plain ha) (evalArgs_any ha ((snd_args ha).then hA hS hw fun vs vals s₁ ρ₁ st₁ r₁ S₁ e₁ hw₁ =>
    ⟨hK.keeps S₁.inv.base, (h (fs ++ vs) (first ++ vals) s₁ ρ₁ st₁ ((hfirst.ext e₁.extN).append r₁)).go hA S₁ hw₁⟩))

/- the method that is meant -/
noncomputable def PickOk (C : Cx) (K : Frag) (d : Nat) (env : Env) (sc : Scope) (ns : List Str) (x : Str) (pick : V → M (List V → M V)) : Prop :=
  ∀ v ov s ρ st (Q' : (List V → M V) → St → Prop) (X : Str → St → Prop), VR C s.heap ρ v ov → State C env sc ns s ρ st → wpM (pick v) st Q' X →
    ∃ f fv, Q' f st ∧ Callable K fv ∧ (∀ (A : Around) (Q : Value × List Value → Shared → Prop) (E : Value → Shared → Prop) (pl : Sem Bool), Q (fv, [ov]) s → wpAny (model C.prog C.w) A (getMethod ov x pl) Q E s) ∧
      ∀ vs vals s ρ st, VRs C s.heap ρ vs vals → At C d env sc ns (VR C) Nil (call fv vals) (f vs) s ρ st
theorem snd_methodCall (hK : K.In C.base) {o : Expr} {x : Str} {ap pos : Pos} {es : List Expr} {m : M V} {ms : List (M V)} {pick : V → M (List V → M V)} (hs : supE o = false) (hlen : es.length < 29) (hline : (ap.endLine == pos.line) = true) (ho : SndE C d env sc ns o m) (ha : All2 (ArgR C d env sc ns) es ms)
    (h : PickOk C K d env sc ns x pick) : SndE C d env sc ns (.Call (.Attribute o x ap) es [] pos) (methM pick m ms) := .of fun A s ρ st Q E X hA hS hw =>
  Call_meth hs (args_all ha) hlen hline (ho.then hA hS hw fun v ov s₁ ρ₁ st₁ r₁ S₁ e₁ hw₁ pl => by
    obtain ⟨f, fv, hq, hc, hg, hf⟩ := h v ov s₁ ρ₁ st₁ _ X r₁ S₁ (wpM_bind.mp hw₁.1)
    refine hg A _ E pl ?_
    exact (snd_callAny hK hc ha (VRs.one r₁) hf).go hA S₁ ⟨hq, hw₁.2⟩)
set_option maxRecDepth 100000 in
theorem pick_str {x : Str} {id : String} {f : List V → M V} (slot : Slot "str" x id) (hty : typeOf (.builtin id) = pure (.type "method_descriptor"))
    (hf : ∀ vs vals s ρ st, VRs C s.heap ρ vs vals → At C d env sc ns (VR C) Nil (call (.builtin id) vals) (f vs) s ρ st) : PickOk C K d env sc ns x (pickS f) := by
  intro v ov s ρ st Q' X hv hS hw
  cases v <;> first | exact hw.elim | skip
  obtain ⟨t, rfl⟩ := hv
  refine ⟨f, .builtin id, hw, .inl ⟨id, rfl⟩, fun A Q E pl hq => ?_, hf⟩
  have hT := typeIs_str s ⟨List.toArray ‹List Nat›⟩ t
  refine getMethod_builtin (id := id) hT PySem.F.plainAttrs_str slot hty (fun a q => ?_) hq
  cases q
theorem pick_list {x : Str} {id : String} {f : List V → M V} (slot : Slot "list" x id) (hty : typeOf (.builtin id) = pure (.type "method_descriptor"))
    (hf : ∀ vs vals s ρ st, VRs C s.heap ρ vs vals → At C d env sc ns (VR C) Nil (call (.builtin id) vals) (f vs) s ρ st) : PickOk C K d env sc ns x (pickL f) := by
  intro v ov s ρ st Q' X hv hS hw
  cases v <;> first | exact hw.elim | skip
  simp only [vR0, vR1, vR2, vR3, vR4, vR5, vR6, vR7, vR8, vR9, vR10, vR11, vR12, vR13] at hv
  obtain ⟨a, rfl, ha⟩ := hv
  obtain ⟨xs, q1, h1⟩ := wpM_getList.mp (wpM_bind.mp hw)
  obtain ⟨items, n, ho, _⟩ := hS.inv.list q1 ha
  exact ⟨f, _, h1, .inl ⟨id, rfl⟩, fun A Q E pl hq => getMethod_builtin ⟨_, ho, rfl⟩ PySem.F.plainAttrs_list slot hty (fun a' q => by cases q; exact ⟨_, ho, rfl⟩) hq, hf⟩

/- index: of a text, of a list -/
theorem pick_index : PickOk C K d env sc ns (nm "index") pickI := by
  intro v ov s ρ st Q' X hv hS hw
  cases v <;> first | exact hw.elim | skip
  · exact pick_str PySem.F.slot_str_index rfl (fun vs vals s ρ st hv => at_index hv) (.str ‹_›) ov s ρ st Q' X hv hS hw
/- the names that an instance bears -/
theorem ns_look {h : Heap} {ρ : List Addr} {x : Str} : ∀ {fs : List (Str × V)} {es : List DictEntry}, NsR C h ρ fs es → match fs.lookup x with
    | some v => ∃ val, getL x es = some (some val) ∧ VR C h ρ v val
    | none => getL x es = some none
  | [], es, r => by cases r; rfl
  | (y, v) :: fs, es, r => by
    obtain ⟨e, es, t, rfl, hk, hv, hr⟩ := r
    have ih := ns_look (x := x) hr
    have hs : e.key.isStr x = (y == x) := by rw [hk]; rfl
    have hrk : e.refKey = false := by unfold DictEntry.refKey; rw [hk]
    rw [List.lookup_cons]
    cases q : y == x with
    | true =>
      have : (x == y) = true := by rw [eq_of_beq q]; exact beq_self_eq_true _
      rw [this]
      refine ⟨e.val, ?_, hv⟩
      unfold getL
      rw [List.find?_cons, hs, q]
    | false =>
      have : (x == y) = false := by
        cases z : x == y with
        | false => rfl
        | true => rw [eq_of_beq z] at q; rw [beq_self_eq_true] at q; cases q
      rw [this]
      have e1 : getL x (e :: es) = getL x es := by
        unfold getL
        rw [List.find?_cons, hs, q, List.any_cons, hrk, Bool.false_or]
      dsimp only
      rw [e1]
      exact ih
/- an instance of the ledger -/
theorem Inv.inst {h : Heap} {ρ : List Addr} {obs : List Ob} (I : Inv C h ρ obs) {r dn : Nat} {c : Str} {fs : List (Str × V)} {a : Addr} (ho : obs[r]? = some (.inst c dn)) (hd : obs[dn]? = some (.ns fs)) (ha : ρ[r]? = some a) :
    ∃ k dx es n, C.mg c = some (.ref k) ∧ ρ[dn]? = some dx ∧ InstAt h a { cls := .ref k, dict := some dx } k (some (dictOf es n)) ∧ h.get? dx = some (dictOf es n) ∧ NsR C h ρ fs es := by
  obtain ⟨a', q1, da, k, q2, q3, q4⟩ := I.ob r _ ho
  rw [ha] at q1; cases q1
  obtain ⟨dx, q5, ents, n, q6, q7⟩ := I.ob dn _ hd
  rw [q2] at q5; cases q5
  exact ⟨k, da, ents.toList, n, q3, q2, ⟨q4, rfl, rfl, by simpa using q6⟩, by simpa using q6, q7⟩
/- ... and a frozen one -/
theorem vr_inst {h : Heap} {ρ : List Addr} {c : Str} {nms : List Str} {vs : List V} {x : Value} (r : VR C h ρ (.finst c nms vs) x) : ∃ a k dx es n, x = .ref a ∧ C.mg c = some (.ref k) ∧ InstAt h a { cls := .ref k, dict := some dx } k (some (dictOf es n)) ∧ NsR C h ρ (nms.zip vs) es := by
  simp only [vR0, vR1, vR2, vR3, vR4, vR5, vR6, vR7, vR8, vR9, vR10, vR11, vR12, vR13] at r
  obtain ⟨a, da, ents, rfl, ⟨k, n, hk, ha, hd⟩, _, hks, hv⟩ := r
  exact ⟨a, k, da, ents.toList, n, rfl, hk, ⟨ha, rfl, rfl, by simpa using hd⟩, keys_ns hks hv⟩
theorem pick_own (hO : Ok C K G W d) {x : Str} : PickOk C K (d + 1) env sc ns x (pickO W x) := by
  intro v ov s ρ st Q' X hv hS hw
  have key : ∀ {a k dx : Addr} {es : List DictEntry} {n : Nat} {c : Str} {fs : List (Str × V)}, ov = .ref a → C.mg c = some (.ref k) → InstAt s.heap a { cls := .ref k, dict := some dx } k (some (dictOf es n)) → NsR C s.heap ρ fs es → ((fs.lookup x).isNone && W.has c x) = true → Q' (W.cf (.meth c x)) st →
      ∃ f fv, Q' f st ∧ Callable K fv ∧ (∀ (A : Around) (Q : Value × List Value → Shared → Prop) (E : Value → Shared → Prop) (pl : Sem Bool), Q (fv, [ov]) s → wpAny (model C.prog C.w) A (getMethod ov x pl) Q E s) ∧
        ∀ vs vals s ρ st, VRs C s.heap ρ vs vals → At C (d + 1) env sc ns (VR C) Nil (call fv vals) (f vs) s ρ st := fun {a k dx es n c fs} ha hk hI hn hl h2 => by
    subst ha
    rw [Bool.and_eq_true] at hl
    obtain ⟨hg, f, hf, hfn, hkp, hs⟩ := hO.meth c k x hk hl.2
    refine ⟨_, .ref f, h2, .inr (.inr hkp), fun A Q E pl hq => ?_, fun vs vals s ρ st hv => hs.at hv⟩
    have hnl := ns_look (x := x) hn
    rw [Option.isNone_iff_eq_none.mp hl.1] at hnl
    refine method_fn (hO.inH hS) hI (plainGet_of hg).1 (plainGet_of hg).2 hf (beq_iff_eq.mp hfn) ?_ hq
    show (lookIn x (dictOf es n)).map _ = _
    rw [lookIn_dict, hnl]; rfl
  cases v <;> first | exact hw.elim | skip
  · obtain ⟨a, k, dx, es, n, rfl, hk, hI, hn⟩ := vr_inst hv
    obtain ⟨hl, h2⟩ := Rest.ite' hw
    exact key rfl hk hI hn hl h2
  simp only [vR0, vR1, vR2, vR3, vR4, vR5, vR6, vR7, vR8, vR9, vR10, vR11, vR12, vR13] at hv
  obtain ⟨a, rfl, ha⟩ := hv
  obtain ⟨o, ho, h1⟩ := wpM_getOb.mp (wpM_bind.mp hw)
  cases o <;> first | exact h1.elim | skip
  rename_i c dn
  obtain ⟨o2, ho2, h2⟩ := wpM_getOb.mp (wpM_bind.mp h1)
  cases o2 <;> first | exact h2.elim | skip
  rename_i fs
  obtain ⟨hl, h2⟩ := Rest.ite' h2
  obtain ⟨k, dx, es, n, hk, hdx, hI, _, hn⟩ := hS.inv.inst ho ho2 ha
  exact key rfl hk hI hn hl h2
end
end Mine
set_option autoImplicit false
set_option linter.unusedVariables false
namespace Mine
open PySem PyProof.Rows PySem.W
section
variable {C : Cx} {d : Nat} {env : Env} {sc : Scope} {ns : List Str} {K : Frag} {G : GI} {W : Wd}
theorem VR.handed {h : Heap} {ρ : List Addr} {v : V} {x : Value} (r : VR C h ρ v x) : handedIn x = true := by
  cases v <;> simp only [vR0, vR1, vR2, vR3, vR4, vR5, vR6, vR7, vR8, vR9, vR10, vR11, vR12, vR13] at r
  · subst r; rfl
  · subst r; rfl
  · obtain ⟨t, rfl⟩ := r; rfl
  · obtain ⟨t, rfl⟩ := r; rfl
  · obtain ⟨a, i, rfl, _⟩ := r; rfl
  · obtain ⟨a, t, u, k, rfl, _⟩ := r; rfl
  · obtain ⟨a, rfl, _⟩ := r; rfl
  · obtain ⟨a, i, n, rfl, _⟩ := r; rfl
  · obtain ⟨a, i, rfl, _⟩ := r; rfl
  · obtain ⟨a, da, en, rfl, _⟩ := r; rfl
  · obtain ⟨a, rfl, _⟩ := r; rfl
  · obtain ⟨a, rfl, _⟩ := r; rfl
  · subst r; rfl
theorem at_attr (hO : Ok C K G W d) {e : Nat} {x : Str} {v : V} {ov : Value} {s : Shared} {ρ : List Addr} {st : St} (hv : VR C s.heap ρ v ov) : At C e env sc ns (VR C) Nil (getAttr ov x true) (attrV W x v) s ρ st := .of fun A Q E X hA hS hw => by
  have key : ∀ {a k dx : Addr} {es : List DictEntry} {n : Nat} {c : Str} {fs : List (Str × V)}, ov = .ref a → C.mg c = some (.ref k) → InstAt s.heap a { cls := .ref k, dict := some dx } k (some (dictOf es n)) → NsR C s.heap ρ fs es → W.fld c x = true → Rest C env sc ns (VR C) Nil Q E X (ofOpt (fs.lookup x)) s ρ st → wpAny (model C.prog C.w) A (getAttr ov x true) Q E s := fun {a k dx es n c fs} ha hk hI hn hfl h2 => by
    subst ha
    obtain ⟨v, hl, h3⟩ := wpM_ofOpt.mp h2.1
    obtain ⟨hg, hh, ⟨attr, hat, hng⟩, _⟩ := hO.fld c k x hk hfl
    have hnl := ns_look (x := x) hn
    rw [hl] at hnl
    obtain ⟨val, q1, q2⟩ := hnl
    exact get_value (hO.inH hS) hI (plainGet_of hg).1 (findObj_own hh hat hng (by rw [lookIn_dict]; exact q1)) q2.handed (h3 _ _ _ q2 (hS.toks _) (.toks _))
  cases v <;> first | exact hw.1.elim | skip
  · obtain ⟨a, k, dx, es, n, rfl, hk, hI, hn⟩ := vr_inst hv
    obtain ⟨hfl, hw2⟩ := Rest.ite hw
    exact key rfl hk hI hn hfl hw2
  simp only [vR0, vR1, vR2, vR3, vR4, vR5, vR6, vR7, vR8, vR9, vR10, vR11, vR12, vR13] at hv
  obtain ⟨a, rfl, ha⟩ := hv
  obtain ⟨o, ho, h1⟩ := wpM_getOb.mp (wpM_bind.mp hw.1)
  cases o <;> first | exact h1.elim | skip
  rename_i c dn
  obtain ⟨hfl, hw2⟩ := Rest.ite (⟨h1, hw.2⟩ : Rest C env sc ns (VR C) Nil Q E X _ s ρ st)
  obtain ⟨o2, ho2, h2⟩ := wpM_getOb.mp (wpM_bind.mp hw2.1)
  cases o2 <;> first | exact h2.elim | skip
  rename_i fs
  obtain ⟨k, dx, es, n, hk, hdx, hI, _, hn⟩ := hS.inv.inst ho ho2 ha
  exact key rfl hk hI hn hfl ⟨h2, hw.2⟩
theorem snd_attr (hO : Ok C K G W d) {e : Nat} {o : Expr} {x : Str} {pos : Pos} {m : M V} (hs : supE o = false) (ho : SndE C e env sc ns o m) : SndE C e env sc ns (.Attribute o x pos) (attrM W m x) := .of fun A s ρ st Q E X hA hS hw => by
  rw [arm_eval_Attribute, base_pure hs]
  refine wpAny_bind (ho.then hA hS hw fun v ov s₁ ρ₁ st₁ r₁ S₁ e₁ hw₁ => wpAny_bind (wpAny_standAt (wpAny_bind (wpAny_holding ?_))))
  refine (at_attr hO r₁) A _ E X hA S₁ (wpM_mono hw₁.1 (fun v' st' h val s' ρ' r' S' e' => ?_) fun _ _ h => h) hw₁.2
  exact wpAny_bind (wpAny_letTemporaryGo (wpAny_pure (h val s' ρ' r' S' e')))

/- a field is set -/
theorem ns_put {h : Heap} {ρ : List Addr} {x : Str} {v : V} {val key : Value} {t : Tok} {hsh : Int} (hkey : key = .str x t) (hv : VR C h ρ v val) : ∀ {fs : List (Str × V)} {es : List DictEntry}, NsR C h ρ fs es → NsR C h ρ (setField x v fs) (PySem.W.putL x hsh key val es)
  | [], es, r => by cases r; exact ⟨_, _, t, rfl, hkey, hv, rfl⟩
  | (y, w) :: fs, es, r => by
    obtain ⟨e, es, u, rfl, hk, hw, hr⟩ := r
    have hs : e.key.isStr x = (y == x) := by rw [hk]; rfl
    unfold setField PySem.W.putL
    rw [hs]
    cases q : y == x with
    | true => exact ⟨_, _, u, rfl, by rw [← eq_of_beq q]; exact hk, hv, hr⟩
    | false => exact ⟨_, _, u, rfl, hk, hw, ns_put hkey hv hr⟩
theorem ns_len {h : Heap} {ρ : List Addr} : ∀ {fs : List (Str × V)} {es : List DictEntry}, NsR C h ρ fs es → es.length = fs.length
  | [], es, r => by cases r; rfl
  | _ :: fs, es, r => by obtain ⟨e, es, u, rfl, _, _, hr⟩ := r; simp [ns_len hr]
theorem setField_len (x : Str) (v : V) : ∀ fs : List (Str × V), (setField x v fs).length ≤ fs.length + 1
  | [] => by simp [setField]
  | e :: r => by
    unfold setField
    split
    · simp
    · have := setField_len x v r; simp; omega
noncomputable def others (h : Heap) (L dx : Addr) : List (Addr × Obj) := (List.range h.objs.size).filterMap fun b => if b = L ∨ b = dx then none else (h.get? b).map (b, ·)
theorem others_mem {h : Heap} {L dx b : Addr} {o : Obj} : (b, o) ∈ others h L dx ↔ b ≠ L ∧ b ≠ dx ∧ h.get? b = some o := by
  unfold others
  rw [List.mem_filterMap]
  constructor
  · rintro ⟨c, _, hc⟩
    split at hc
    · cases hc
    · rename_i hn
      rw [not_or] at hn
      obtain ⟨o', h1, h2⟩ := Option.map_eq_some_iff.mp hc
      cases h2
      exact ⟨hn.1, hn.2, h1⟩
  · rintro ⟨h1, h2, h3⟩
    refine ⟨b, List.mem_range.mpr (Heap.lt_size h3), ?_⟩
    rw [if_neg (by rw [not_or]; exact ⟨h1, h2⟩), h3]; rfl
noncomputable def noHeap (h : Heap) : Heap := { h with objs := #[] }
theorem noHeap_get {h : Heap} {b : Addr} : (noHeap h).get? b = none := Heap.get?_none_of_le (Nat.zero_le _)
theorem at_setattr (hO : Ok C K G W d) {e : Nat} {x : Str} {o v : V} {ov val : Value} {s : Shared} {ρ : List Addr} {st : St} (ho : VR C s.heap ρ o ov) (hv : VR C s.heap ρ v val) : At C e env sc ns Un (Own env) (setAttr ov x val) (setAttrV W o x v) s ρ st := .of fun A Q E X hA hS hw => by
  cases o <;> first | exact hw.1.elim | skip
  simp only [vR0, vR1, vR2, vR3, vR4, vR5, vR6, vR7, vR8, vR9, vR10, vR11, vR12, vR13] at ho
  obtain ⟨a, rfl, ha⟩ := ho
  obtain ⟨o, ho, h1⟩ := wpM_getOb.mp (wpM_bind.mp hw.1)
  cases o <;> first | exact h1.elim | skip
  rename_i c dn
  obtain ⟨hfl, hw2⟩ := Rest.ite (⟨h1, hw.2⟩ : Rest C env sc ns Un (Own env) Q E X _ s ρ st)
  obtain ⟨o2, ho2, h2⟩ := wpM_getOb.mp (wpM_bind.mp hw2.1)
  cases o2 <;> first | exact h2.elim | skip
  rename_i fs
  obtain ⟨hlen, hw3⟩ := Rest.ite (⟨h2, hw.2⟩ : Rest C env sc ns Un (Own env) Q E X _ s ρ st)
  obtain ⟨hlt, hq⟩ := wpM_setOb.mp hw3.1
  obtain ⟨k, dx, es, n, hk, hdx, hI, hod, hn⟩ := hS.inv.inst ho ho2 ha
  obtain ⟨hg, hh, _, hsa, hpo, htk⟩ := hO.fld c k x hk hfl
  obtain ⟨m, hm⟩ := hS.frm.loc
  have hdm : dx ∈ ρ := List.mem_of_getElem? hdx
  have hne : dx ≠ env.locals := fun q => hS.frm.locN (q ▸ hdm)
  have F : Fr (noHeap s.heap) env.locals s.heap m := ⟨hm, fun b o q => (by rw [noHeap_get] at q; cases q), Nat.zero_le _⟩
  have N : News (noHeap s.heap) env.locals s.heap ([] ++ (dx, dictOf es n) :: others s.heap env.locals dx) := fun p hp => by
    rcases List.mem_cons.mp hp with rfl | hp
    · exact ⟨hod, hne, noHeap_get⟩
    · obtain ⟨q1, q2, q3⟩ := others_mem.mp hp
      exact ⟨q3, q1, noHeap_get⟩
  have hnl := ns_look (x := x) hn
  have hsome : (lookIn x (dictOf es n)).isSome = true := by
    rw [lookIn_dict]
    cases q : fs.lookup x with
    | none => rw [q] at hnl; rw [hnl]; rfl
    | some v' => rw [q] at hnl; obtain ⟨val', q1, _⟩ := hnl; rw [q1]; rfl
  have hput := ns_put (hsh := PyData.keyHash C.w.params x) (key := .str x (s.toks + 1)) rfl hv hn
  have hsz : (PySem.W.putL x (PyData.keyHash C.w.params x) (.str x (s.toks + 1)) val es).length ≤ 1000 := by
    rw [ns_len hput]
    have := setField_len x v fs
    omega
  refine set_plain (hO.inH hS) hI hsa (osa_dict (s := { s with toks := s.toks + 1 }) F N (hO.inH (hS.toks _)) hI rfl hpo htk hh hsome (by simp) (fun p hp => (others_mem.mp hp).2.1) (by rw [putName_dict]) rfl hsz fun h' F' N' => ?_)
  show Q () { s with heap := h', toks := s.toks + 1 + 1 }
  have keep : ∀ b o, b ≠ env.locals → b ≠ dx → s.heap.get? b = some o → h'.get? b = some o := fun b o q1 q2 q3 => (N' (b, o) (by simp [others_mem, q1, q2, q3])).1
  have hod' := (N' (dx, _) (List.mem_append.mpr (.inr (.head _)))).1
  obtain ⟨oL, esL, epL, hoL, hdL, hkL⟩ := id hm
  have hL : C.off env.locals := hS.frm.off _ (.inl rfl)
  have eV : ExtV C s.heap ρ h' ρ := .put2 hdm hL keep
  obtain ⟨oL', esL', epL', hoL', hdL', hkL'⟩ := id F'.ns
  have cells : ∀ (y : Str) (c : Addr) (v : Option Value), env.kindOf y = some .cell → env.cells.lookup y = some c → s.heap.IsCell c v → h'.IsCell c v := fun y c v hy hc ⟨oc, q1, q2⟩ => by
    refine ⟨oc, keep c oc (fun q => ?_) (fun q => ?_) q1, q2⟩
    · subst q; rw [hoL] at q1; cases q1; rw [q2] at hdL; cases hdL
    · obtain ⟨c', _, r1, _, r3, _⟩ := hS.frm.cell y hy
      rw [hc] at r1; cases r1; exact r3 (q ▸ hdm)
  have alive : ∀ b o, s.heap.get? b = some o → ∃ o', h'.get? b = some o' := fun b o q1 => by
    by_cases z1 : b = env.locals
    · subst z1; exact ⟨_, hoL'⟩
    · by_cases z2 : b = dx
      · subst z2; exact ⟨_, hod'⟩
      · exact ⟨o, keep b o z1 z2 q1⟩
  have S' : State C env sc ns { s with heap := h', toks := s.toks + 1 + 1 } ρ { st with obs := st.obs.set dn (.ns (setField x v fs)) } := by
    refine ⟨hS.inv.put' hdx eV (fun b o hb hne q => keep b o (fun z => hS.frm.locN (z ▸ hb)) hne q) (fun b o q => keep b o (fun z => by rw [z, hS.frm.locB] at q; cases q) (fun z => by rw [z, (hS.inv.new dx hdm).1] at q; cases q) (hS.inv.base b o q)) alive ⟨_, _, hod', ?_⟩, hS.frm.len, ⟨m, F'.ns⟩, hS.frm.off, hS.frm.locN, hS.frm.locB, fun y hy => ?_, hS.frm.inj, fun y i w h1 h2 h3 => ?_⟩
    · simpa using hput.ext eV
    · obtain ⟨c, v₀, q1, q2, q3⟩ := hS.frm.cell y hy
      exact ⟨c, v₀, q1, cells y c v₀ hy q1 q2, q3⟩
    · obtain ⟨val', hl, hv'⟩ := hS.frm.vals y i w h1 h2 h3
      refine ⟨val', ?_, hv'.ext eV⟩
      rcases hl with ⟨k', m', ⟨o1, es1, ep1, q1, q2, q3, q4⟩, hmy⟩ | ⟨k', c, q1, q2⟩
      · rw [hoL] at q1; cases q1; rw [hdL] at q2; cases q2
        have hmm : m y = m' y := by rw [← q4, ← hkL.2]
        exact .inl ⟨k', m, F'.ns, by rw [hmm]; exact hmy⟩
      · exact .inr ⟨k', c, q1, cells y c _ k' q1 q2⟩
  refine hq _ _ ρ trivial S' ⟨⟨[], by simp⟩, fun _ q => .inl q, fun b o q1 q2 q3 => .inl (keep b o (fun z => q3 (.inl z)) (fun z => q2 (z ▸ hdm)) q1), alive, rfl, rfl, rfl⟩
end
end Mine
set_option autoImplicit false
set_option linter.unusedVariables false
namespace Mine
open PySem PyProof.Rows PySem.W
section
variable {C : Cx} {d : Nat} {env : Env} {sc : Scope} {ns : List Str} {K : Frag} {G : GI} {W : Wd}
noncomputable def compE : Expr → Bool
  | .ListComp .. => true
  | .SetComp .. => true
  | .DictComp .. => true
  | _ => false
theorem swaps_plain {e : Expr} {t : Option Expr} {n : Nat} (h : compE e = false) : swapsWith e t n env = pure false := by
  cases e <;> first | rfl | cases h
theorem swaps_attr {e o : Expr} {x : Str} {p : Pos} {n : Nat} : swapsWith e (some (.Attribute o x p)) n env = pure false := by
  cases e <;> rfl
theorem swaps_sub {e o i : Expr} {p : Pos} {n : Nat} : swapsWith e (some (.Subscript o i p)) n env = pure false := by
  cases e <;> rfl
theorem swaps_tup {e : Expr} {ts : List Expr} {k : Nat} {p : Pos} {n : Nat} : swapsWith e (some (.Tuple ts k p)) n env = pure false := by
  cases e <;> rfl
theorem stores_tup {e : Expr} {ts : List Expr} {k : Nat} {p : Pos} (h : isTupT e = false) : swappedStores [.Tuple ts k p] e env = pure none := by
  cases e <;> first | rfl | cases h
theorem snd_assignAttr (hO : Ok C K G W d) {e : Nat} {o v : Expr} {x : Str} {p pos : Pos} {m mo : M V} (hv : SndE C e env sc ns v m) (ho : SndE C e env sc ns o mo) : SndX C e env sc ns (.Assign [.Attribute o x p] v pos) (setAttrM W mo x m) := .of fun A s ρ st Q E X hA hS hw =>
  plainObj_wpAny_Assign_Attribute (hv.then hA hS hw fun w val s₁ ρ₁ st₁ r₁ S₁ e₁ hw₁ => ho.then hA S₁ hw₁ fun ov oval s₂ ρ₂ st₂ r₂ S₂ e₂ hw₂ =>
    (at_setattr hO r₂ (r₁.ext e₂.extN)).thenS hA S₂ hw₂ fun _ _ s₃ ρ₃ st₃ _ S₃ e₃ hw₃ => hw₃.1 _ _ _ rfl S₃ (.refl ..)) swaps_attr
theorem VRs.set {h : Heap} {ρ : List Addr} {v : V} {x : Value} (hv : VR C h ρ v x) : ∀ {vs : List V} {xs : List Value} (k : Nat), VRs C h ρ vs xs → VRs C h ρ (vs.set k v) (xs.set k x)
  | [], _, k, r => by simp only [vS0, vS1] at r; subst r; simp only [List.set_nil, vS0, vS1]
  | w :: vs, _, 0, r => by
    simp only [vS0, vS1] at r
    obtain ⟨y, xs, rfl, h1, h2⟩ := r
    simp only [List.set_cons_zero, vS0, vS1]
    exact ⟨x, xs, rfl, hv, h2⟩
  | w :: vs, _, k + 1, r => by
    simp only [vS0, vS1] at r
    obtain ⟨y, xs, rfl, h1, h2⟩ := r
    simp only [List.set_cons_succ, vS0, vS1]
    exact ⟨y, _, rfl, h1, VRs.set hv k h2⟩
theorem at_setitem {e : Nat} {o k v : V} {ov kv val : Value} {s : Shared} {ρ : List Addr} {st : St} (ho : VR C s.heap ρ o ov) (hk : VR C s.heap ρ k kv) (hv : VR C s.heap ρ v val) : At C e env sc ns Un (Own env) (setItem ov kv val) (setSubV o k v) s ρ st := .of fun A Q E X hA hS hw => by
  cases o <;> first | exact hw.1.elim | skip
  simp only [vR0, vR1, vR2, vR3, vR4, vR5, vR6, vR7, vR8, vR9, vR10, vR11, vR12, vR13] at ho
  obtain ⟨a, rfl, ha⟩ := ho
  obtain ⟨ob, q1, h1⟩ := wpM_getOb.mp (wpM_bind.mp hw.1)
  obtain ⟨ob', q2, h2⟩ := wpM_ofOpt.mp (wpM_bind.mp h1)
  obtain ⟨hlt, hq⟩ := wpM_setOb.mp h2
  have hm : a ∈ ρ := List.mem_of_getElem? ha
  /- what is left once the thing at a has changed -/
  have fin : ∀ {h' : Heap} {tk : Nat}, (∀ b o, b ≠ a → s.heap.get? b = some o → h'.get? b = some o) → (ExtV C s.heap ρ h' ρ → OR C h' ρ ob' a) → Q () { s with heap := h', toks := tk } := fun {h' tk} k r => by
    have eV : ExtV C s.heap ρ h' ρ := .put hm k
    have r' := r eV
    obtain ⟨o', ho'⟩ := r'.there
    have ex : Ext Nil s ρ { s with heap := h', toks := tk } ρ := Ext.put hm k ho'
    exact hq _ _ ρ trivial ⟨hS.inv.put ha k r', hS.frm.ext ex⟩ ex.nil
  unfold setSubO at q2
  split at q2
  · rename_i xs
    split at q2
    case h_2 => cases q2
    rename_i i
    obtain ⟨ys, q3, rfl⟩ := Option.map_eq_some_iff.mp q2
    obtain ⟨t, rfl⟩ := hk
    unfold setIdx at q3
    split at q3
    case isFalse => cases q3
    rename_i hi
    cases q3
    obtain ⟨items, n, hod, hx⟩ := hS.inv.list q1 ha
    have e' := hx.len
    simp at e'
    have hb : big = 2 ^ 63 := by decide
    rw [hb] at hi
    refine ki_setAt hod hi.1 hi.2.1 (by rw [← e']; exact hi.2.2) (fin (fun b o hb q => (Heap.get?_update_other _ _ (Ne.symm hb)).trans q) fun eV => ⟨items.setIfInBounds i.toNat val, n, ?_, ?_⟩)
    · have := PySem.IsL.update (n := n) hod (·.setIfInBounds i.toNat val)
      simpa using this
    · have := (hx.set hv i.toNat).ext eV
      simpa using this
  · rename_i ks
    obtain ⟨kk, q3, q4⟩ := Option.bind_eq_some_iff.mp q2
    split at q4
    case isFalse => cases q4
    rename_i hc
    cases q4
    obtain ⟨b, rfl, hkb, hfb⟩ := key_at q3 hk
    cases isTrue_val hc.1 hv
    obtain ⟨a', ha', xs, hD, hf, he⟩ := hS.inv.ob _ _ q1
    rw [ha] at ha'; cases ha'
    have hu : A.in1.units < cLine := by have := hA.units; show A.units + 1 < 9900; omega
    have hlen : xs.length = ks.length := by have := congrArg List.length he; simpa using this
    refine wpAny_setItem_heap (knd := tupleKind (intKind C.prog C.w)) hu hkb hD (fun h' hD' hs => fin (fun b o hb q => (hs.2 b hb).trans q) fun eV => ⟨_, hD', ?_, ?_⟩) (by have := hc.2; unfold lim at this; rw [hlen, sizeLine_eq]; omega)
    · intro x hx
      unfold storedH at hx
      split at hx
      · obtain ⟨y, hy, rfl⟩ := List.mem_map.mp hx
        unfold putAt
        split
        · exact ⟨(hf y hy).1, rfl⟩
        · exact hf y hy
      · rcases List.mem_append.mp hx with hx | hx
        · exact hf x hx
        · cases List.mem_singleton.mp hx
          exact ⟨hfb, rfl⟩
    · unfold storedH putP
      rw [atKey_mem, he]
      by_cases hm : kk ∈ ks
      · rw [if_pos (decide_eq_true hm), if_pos hm, keys_map_putAt, he]
      · rw [if_neg (by simpa using hm), if_neg hm, List.map_append, he]; rfl
  · cases q2
theorem snd_assignSub {e : Nat} {o i v : Expr} {p pos : Pos} {m mo mi : M V} (hv : SndE C e env sc ns v m) (ho : SndE C e env sc ns o mo) (hi : SndE C e env sc ns i mi) : SndX C e env sc ns (.Assign [.Subscript o i p] v pos) (setSubM mo mi m) := .of fun A s ρ st Q E X hA hS hw =>
  wpAny_Assign_Subscript (hv.then hA hS hw fun w val s₁ ρ₁ st₁ r₁ S₁ e₁ hw₁ => ho.then hA S₁ hw₁ fun ov oval s₂ ρ₂ st₂ r₂ S₂ e₂ hw₂ => hi.then hA S₂ hw₂ fun iv ival s₃ ρ₃ st₃ r₃ S₃ e₃ hw₃ =>
    (at_setitem (r₂.ext e₃.extN) r₃ ((r₁.ext e₂.extN).ext e₃.extN)).thenS hA S₃ hw₃ fun _ _ s₄ ρ₄ st₄ _ S₄ e₄ hw₄ => hw₄.1 _ _ _ rfl S₄ (.refl ..)) swaps_sub
theorem snd_assignTuple (hE : EnvOk env sc) {e : Nat} {v : Expr} {ts : List Expr} {k : Nat} {p pos : Pos} {m : M V} {tg : Tg} (ht : TgtR sc ns (.Tuple ts k p) tg) (hn : isTupT v = false) (hv : SndE C e env sc ns v m) : SndX C e env sc ns (.Assign [.Tuple ts k p] v pos) (assignM tg m) := .of fun A s ρ st Q E X hA hS hw =>
  Assign_Tuple (hv.then hA hS hw fun w val s₁ ρ₁ st₁ r₁ S₁ e₁ hw₁ =>
    (at_asg hE (fun _ q => q) ht r₁ fun _ _ _ _ q => q.own).thenS hA S₁ hw₁ fun _ _ s₂ ρ₂ st₂ _ S₂ e₂ hw₂ => hw₂.1 _ _ _ rfl S₂ (.refl ..)) (swaps_tup (env := env) (e := v) (ts := ts) (k := k) (p := p) (n := pos.line)) (stores_tup hn)

/- calls of names -/
theorem AOk.create {A : Around} (h : AOk (d + 1) A) (k : Addr) (vals : List Value) : AOk2 d (A.under (.builtin "type.__call__" ⟨.ref k :: vals, []⟩)) where
  depth := by
    show A.depth + (Code.builtin "type.__call__" ⟨.ref k :: vals, []⟩).weight + 3 * d + 4 ≤ 990
    have e : (Code.builtin "type.__call__" ⟨.ref k :: vals, []⟩).weight = 1 := rfl
    rw [e]; have := h.depth; omega
  units := by
    show A.units + (Code.builtin "type.__call__" ⟨.ref k :: vals, []⟩).cUnits + 100 * d + 250 ≤ 9900
    have e : (Code.builtin "type.__call__" ⟨.ref k :: vals, []⟩).cUnits = 1 := rfl
    rw [e]; have := h.units; omega
  handled := h.handled
  guards := by
    show pushGuards (Code.builtin "type.__call__" ⟨.ref k :: vals, []⟩).guards A.guards = _
    rw [h.guards]; rfl
theorem wpM_newR {c : Str} {vs : List V} {st : St} {Q : V → St → Prop} {X : Str → St → Prop} (h : wpM (newR W c vs) st Q X) :
    wpM (W.cf (.meth c (nm "__init__")) (.ref (st.obs.length + 1) :: vs)) { st with obs := st.obs ++ [.ns []] ++ [.inst c st.obs.length] } (fun r st' => r = .none ∧ Q (.ref (st.obs.length + 1)) st') X := by
  unfold newR at h
  rw [wpM_bind, wpM_alloc] at h
  dsimp only at h
  rw [wpM_bind, wpM_alloc, wpM_bind] at h
  simp only [List.length_append, List.length_singleton] at h
  refine wpM_mono h (fun r st' q => ?_) fun _ _ q => q
  cases r <;> first | exact q.elim | exact ⟨rfl, q⟩
theorem at_newR (hO : Ok C K G W d) {c : Str} {k : Addr} (hk : C.mg c = some (.ref k)) (hi : W.has c (nm "__init__") = true) {vs : List V} {vals : List Value} {s : Shared} {ρ : List Addr} {st : St} (hv : VRs C s.heap ρ vs vals) : At C (d + 1) env sc ns (VR C) Nil (call (.ref k) vals) (newR W c vs) s ρ st := .of fun A Q E X hA hS hw => by
  have h1 := wpM_newR hw.1
  obtain ⟨hkp, hmk, f, hf, hfn, hs⟩ := hO.new c k hk hi
  have g1 := Grows.push s.heap emptyDict
  have hD : s.heap.get? s.heap.objs.size = none := fresh_none
  obtain ⟨S₁, e₁, r₁⟩ := hS.made (tk := s.toks) (o := .ns []) g1 hD ⟨#[], 0, Heap.get?_push_size _ rfl, rfl⟩
  have g2 := Grows.push (s.heap.push emptyDict) (instObj k s.heap.objs.size)
  have hD2 : (s.heap.push emptyDict).get? (s.heap.objs.size + 1) = none := Heap.get?_none_of_le (by rw [Heap.size_push]; exact Nat.le_refl _)
  have hget : ((s.heap.push emptyDict).push (instObj k s.heap.objs.size)).get? (s.heap.objs.size + 1) = some (instObj k s.heap.objs.size) := by
    have := Heap.get?_push_size (s.heap.push emptyDict) (o := instObj k s.heap.objs.size) rfl
    rw [Heap.size_push] at this; exact this
  obtain ⟨S₂, e₂, r₂⟩ := S₁.made (tk := s.toks) (o := .inst c st.obs.length) (D := s.heap.objs.size + 1) g2 hD2 ⟨s.heap.objs.size, k, by
    have hl := hS.inv.len
    rw [← hl]; simp, hk, hget⟩
  obtain ⟨hh, gg, dd, tt, oo⟩ := s
  refine wpAny_call (make_core (makes_of (hO.inK.keeps hS.inv.base) hmk) (looks_findIn (hO.inK.keeps hS.inv.base) hf) (fun self => bind_fn (hO.inK.keeps hS.inv.base) self (beq_iff_eq.mp hfn)) (.inl rfl) ?_)
  have hall := e₁.trans e₂
  refine codeAny_mono (hs env sc ns (.ref (st.obs.length + 1) :: vs) (.ref (hh.objs.size + 1) :: vals) _ _ _ ?_ _ (fun r s' => r = .none ∧ Q (.ref (hh.objs.size + 1)) s') E X (hA.create k vals) S₂ ⟨wpM_mono h1 (fun r st' q val s' ρ' hr hS' he => ?_) fun _ _ q => q, fun c' st' x s' ρ' hx hr => hw.2 c' st' x s' ρ' hx (hr.trans hall)⟩) fun r s' z => ?_
  · simp only [vS0, vS1]
    refine ⟨_, _, rfl, ?_, (hv.ext e₁.extN).ext e₂.extN⟩
    simpa using r₂
  · obtain ⟨rfl, q⟩ := q
    refine ⟨hr, q _ s' ρ' ?_ hS' (hall.trans he)⟩
    have r₃ := r₂.ext he.extN
    simpa using r₃
  · rcases r with e | (v | _ | _ | _) <;> first | exact z | exact z.elim
theorem newR_ref {c : Str} {vs : List V} {st st' : St} {v : V} (h : newR W c vs st = .ok v st') : v = .ref (st.obs.length + 1) := by
  have h1 : wpM (newR W c vs) st (fun v' _ => v' = v) (fun _ _ => False) := by unfold wpM; rw [h]
  have h2 := wpM_newR h1
  unfold wpM at h2
  split at h2
  · exact h2.2.symm
  · exact h2.elim
  · exact h2.elim
theorem wpM_newF {c : Str} {vs : List V} {st : St} {Q : V → St → Prop} {X : Str → St → Prop} (hz : W.frz c = true) (h : wpM (newC W c vs) st Q X) :
    wpM (newR W c vs) st (fun r st' => r = .ref (st.obs.length + 1) ∧ ∃ v o, frzI c st.obs.length st'.obs = some v ∧ dropTo st.obs st'.obs = some o ∧ Q v { st with obs := o }) (fun c' st' => ∃ o, dropTo st.obs st'.obs = some o ∧ X c' { st with obs := o }) := by
  unfold newC at h
  rw [if_pos hz] at h
  unfold wpM newF at h
  unfold wpM
  cases hr : newR W c vs st with
  | ok r st' =>
    rw [hr] at h
    dsimp only at h ⊢
    refine ⟨newR_ref hr, ?_⟩
    cases h1 : frzI c st.obs.length st'.obs with
    | none => rw [h1] at h; exact h.elim
    | some v =>
      cases h2 : dropTo st.obs st'.obs with
      | none => rw [h1, h2] at h; exact h.elim
      | some o => rw [h1, h2] at h; exact ⟨v, o, rfl, rfl, h⟩
  | exc c' st' =>
    rw [hr] at h
    dsimp only at h ⊢
    cases h2 : dropTo st.obs st'.obs with
    | none => rw [h2] at h; exact h.elim
    | some o => rw [h2] at h; exact ⟨o, rfl, h⟩
  | stuck => rw [hr] at h; exact h
theorem frzI_some {c : Str} {n : Nat} {o : List Ob} {v : V} (h : frzI c n o = some v) : ∃ fs, o[n]? = some (.ns fs) ∧ o[n + 1]? = some (.inst c n) ∧ ltVs n (fs.map (·.2)) = true ∧ v = .finst c (fs.map (·.1)) (fs.map (·.2)) := by
  unfold frzI at h
  split at h
  · rename_i fs c' d h1 h2
    split at h
    · rename_i hc
      obtain ⟨rfl, rfl, hl⟩ := hc
      cases h
      exact ⟨fs, h1, h2, hl, rfl⟩
    · cases h
  · cases h
theorem dropTo_some {o o' o'' : List Ob} (h : dropTo o o' = some o'') : Mine.keeps o o' ∧ o'' = o'.take o.length := by
  unfold dropTo at h
  split at h
  · rename_i hk; cases h; exact ⟨hk, rfl⟩
  · cases h
theorem Ext.drop {S : Addr → Prop} {s s' : Shared} {ρ ρ' : List Addr} (x : Ext S s ρ s' ρ') : Ext S s ρ s' ρ := ⟨⟨[], by simp⟩, fun b hb => .inl hb, x.keep, x.alive, x.gens, x.drawn, x.os⟩
theorem Inv.above {h : Heap} {ρ t : List Addr} {obs : List Ob} (I : Inv C h (ρ ++ t) obs) {i : Nat} {a : Addr} (hi : ρ.length ≤ i) (ha : (ρ ++ t)[i]? = some a) : Free C ρ a := by
  refine ⟨fun q => ?_, (I.new a (List.mem_of_getElem? ha)).2⟩
  rw [List.getElem?_append_right hi] at ha
  exact (List.nodup_append.mp I.nodup).2.2 a q a (List.mem_of_getElem? ha) rfl
theorem at_new (hO : Ok C K G W d) {c : Str} {k : Addr} (hk : C.mg c = some (.ref k)) (hi : W.has c (nm "__init__") = true) {vs : List V} {vals : List Value} {s : Shared} {ρ : List Addr} {st : St} (hv : VRs C s.heap ρ vs vals) : At C (d + 1) env sc ns (VR C) Nil (call (.ref k) vals) (newC W c vs) s ρ st := .of fun A Q E X hA hS hw => by
  cases hz : W.frz c with
  | false =>
    have e : newC W c vs = newR W c vs := by unfold newC; rw [hz]; rfl
    rw [e] at hw
    exact (at_newR hO hk hi hv).go hA hS hw
  | true =>
    refine (at_newR hO hk hi hv) A Q E _ hA hS (wpM_mono (wpM_newF hz hw.1) (fun r st' h val s' ρ' hr hS' he => ?_) fun _ _ q => q) (fun _ _ _ _ _ _ r => r.elim)
    obtain ⟨rfl, v, o, h1, h2, hq⟩ := h
    obtain ⟨fs, o1, o2, hl, rfl⟩ := frzI_some h1
    obtain ⟨hkp, rfl⟩ := dropTo_some h2
    obtain ⟨t, rfl⟩ := he.pre
    have I := hS'.inv
    have hx := he.drop
    simp only [vR0, vR1, vR2, vR3, vR4, vR5, vR6, vR7, vR8, vR9, vR10, vR11, vR12, vR13] at hr
    obtain ⟨a, rfl, ha⟩ := hr
    obtain ⟨a', ha', da, k', q1, q2, q3⟩ := I.ob _ _ o2
    rw [ha] at ha'; cases ha'
    obtain ⟨dx, q4, ents, n, q5, q6⟩ := I.ob _ _ o1
    rw [q1] at q4; cases q4
    have hn := hS.inv.len
    obtain ⟨w1, w2⟩ := ns_keys q6
    refine hq _ s' ρ ?_ ⟨hS.inv.keeps I hkp, hS.frm.ext hx⟩ hx
    simp only [vR0, vR1, vR2, vR3, vR4, vR5, vR6, vR7, vR8, vR9, vR10, vR11, vR12, vR13]
    exact ⟨a, da, ents, rfl, ⟨k', n, q2, q3, q5⟩, ⟨I.above (by omega) ha, I.above (by omega) q1⟩, w1, w2.move .drop (by rw [hn]; exact hl)⟩
/- {rows: True} -/
theorem snd_pset1 {e : Nat} {k v : Expr} {pos : Pos} {mk mv : M V} (hk : ∀ f, SndE (C.at f) e env sc ns k mk) (hv : ∀ f, SndE (C.at f) e env sc ns v mv) : SndE C e env sc ns (.Dict [some k] [v] pos) (pset1M mk mv) := .of fun A s ρ st Q E X hA hS hw => by
  have ho := hS.frm.off
  obtain ⟨D, hD⟩ : ∃ D, D = s.heap.objs.size := ⟨_, rfl⟩
  have hDn : s.heap.get? D = none := by rw [hD]; exact fresh_none
  have g := Grows.push s.heap { cls := .type "dict", data := .dict #[] }
  have hob : (s.heap.push { cls := .type "dict", data := .dict #[] }).get? D = some { cls := .type "dict", data := .dict #[] } := by rw [hD]; exact Heap.get?_push_size _ rfl
  have hN : ∀ b, b = D → s.heap.get? b = none := fun b q => q ▸ hDn
  have S₁ : State (C.hide (· = D)) env sc ns { s with heap := s.heap.push { cls := .type "dict", data := .dict #[] } } ρ st := ⟨hS.inv.hide g fun b q => ⟨hN b q, q ▸ ⟨_, hob⟩⟩, hS.frm.hide g hN⟩
  refine wpAny_Dict_any rfl rfl (by simp) (by simp) (pairTrees_cons_walk ?_)
  refine (hk _ : SndE (C.hide (· = D)) e env sc ns k mk) A _ ρ st _ E X hA S₁ (wpM_mono (wpM_bind.mp hw.1) (fun kv st₁ h₁ kx s₁ ρ₁ r₁ S₁' e₁ => ?_) fun _ _ q => q) (fun _ _ _ _ _ _ r => r.elim)
  refine (hv _ : SndE (C.hide (· = D)) e env sc ns v mv) A _ ρ₁ st₁ _ E X hA S₁' (wpM_mono (wpM_bind.mp h₁) (fun vv st₂ h₂ vx s₂ ρ₂ r₂ S₂ e₂ => ?_) fun _ _ q => q) (fun _ _ _ _ _ _ r => r.elim)
  refine pairTrees_nil_walk ?_
  have ex : Ext Nil s ρ s₂ ρ₂ := (Ext.grows (t := s.toks) g).trans (e₁.trans e₂)
  have ho₂ : s₂.heap.get? D = some { cls := .type "dict", data := .dict #[] } := ((e₁.trans e₂).keep D _ hob (hS.inv.notIn hDn) id).val (by decide)
  obtain ⟨kk, q1, h3⟩ := wpM_ofOpt.mp (wpM_bind.mp h₂)
  obtain ⟨hvv, h4⟩ := Rest.ite' h3
  cases isTrue_val hvv r₂
  obtain ⟨b, rfl, hkb, hfb⟩ := key_at q1 (r₁.ext e₂.extN)
  rw [← hD]
  have hDD : s₂.heap.DictOfH (tupleKind (intKind C.prog C.w)) D [] := ⟨_, #[], 0, ho₂, ⟨rfl, rfl, rfl⟩, rfl, rfl, fun _ hx => by simp at hx, List.nodup_nil⟩
  unfold storeAll
  rw [List.forIn_cons]
  have hu : A.units < cLine := by have := hA.units; show A.units < 9900; omega
  refine wpAny_bind (wpAny_bind (wpAny_dictSet_heap (knd := tupleKind (intKind C.prog C.w)) hu hkb hDD (fun h' hD' hs => wpAny_pure ?_) (by simp)))
  dsimp only
  rw [List.forIn_nil]
  refine wpAny_pure ?_
  have hn : D ∉ ρ₂ := fun hm => (S₂.inv.new D hm).2 (.inr rfl)
  have hbD : b ≠ D := fun q => hfb.2 (.inr q)
  obtain ⟨S₃, r₃⟩ := S₂.adopt (tk := s₂.toks + (tupleKind (intKind C.prog C.w)).draws kk) (o := .pset [kk]) hn (hS.inv.notB hDn) (hS.inv.notOff hDn) (fun b hb => hs.2 b hb) (fun mv => ⟨[(kk, b, .bool true)], hD', fun x hx => by
    cases List.mem_singleton.mp hx
    refine ⟨⟨fun q => ?_, fun q => hfb.2 (.inl q)⟩, rfl⟩
    rcases List.mem_append.mp q with q | q
    · exact hfb.1 q
    · exact hbD (List.mem_singleton.mp q), rfl⟩) ho
  have ex' : Ext Nil s ρ { s₂ with heap := h', toks := s₂.toks + (tupleKind (intKind C.prog C.w)).draws kk } ρ₂ := ⟨ex.pre, ex.fresh, fun b o hb hn hS => by
    have hne : b ≠ D := fun z => by rw [z, hDn] at hb; cases hb
    rcases ex.keep b o hb hn hS with q | ⟨hc, sl, q⟩
    · exact .inl ((hs.2 b hne).trans q)
    · exact .inr ⟨hc, sl, (hs.2 b hne).trans q⟩, fun b o hb => by
    have hne : b ≠ D := fun z => by rw [z, hDn] at hb; cases hb
    obtain ⟨o', ho'⟩ := ex.alive b o hb
    exact ⟨o', (hs.2 b hne).trans ho'⟩, ex.gens, ex.drawn, ex.os⟩
  exact h4 _ _ _ r₃ S₃ (ex'.taken hDn)
end
end Mine
set_option autoImplicit false
set_option linter.unusedVariables false
namespace Mine
open PySem PyProof.Rows PySem.W
section
variable {C : Cx} {d : Nat} {env : Env} {sc : Scope} {ns : List Str} {K : Frag} {G : GI} {W : Wd}
/- enumerate -/
theorem wpM_enumV {v : V} {st : St} {Q : Src → St → Prop} {X : Str → St → Prop} (h : wpM (enumV v) st Q X) : (∃ xs, v = .flist xs ∧ Q ⟨enumFrom 0 xs, []⟩ st) ∨ ∃ r xs, v = .ref r ∧ st.obs[r]? = some (.list xs) ∧ Q ⟨enumFrom 0 xs, [(r, .list xs)]⟩ st := by
  obtain ⟨src, q0, h1⟩ := wpM_withObs.mp (wpM_bind.mp h)
  cases v <;> first | exact h1.elim | skip
  · cases q0
    exact .inl ⟨_, rfl, h1⟩
  · dsimp only at q0
    split at q0
    case h_2 => cases q0
    rename_i xs hxs
    cases q0
    exact .inr ⟨_, xs, rfl, hxs, h1⟩
theorem src_enum (hO : Ok C K G W d) (hE : EnvOk env sc) {e : Nat} {t x : Expr} {p pos : Pos} {m : M V} (ht : isTupT t = true) (hb : isBuiltin G sc (nm "enumerate") "enumerate" = true) (hx : starE x = false) (h : SndE C e env sc ns x m) :
    SrcSnd C e env sc ns t (.Call (.Name (nm "enumerate") p) [x] [] pos) (m.bind enumV) := by
  intro A s₀ ρ₀ st₀ Q E X hA hS₀ hw hX
  cases t <;> first | cases ht | skip
  rename_i elts k0 tp
  simp only [isBuiltin, Bool.and_eq_true, Bool.not_eq_true'] at hb
  obtain ⟨⟨⟨⟨_, hgl⟩, hf⟩, hc⟩, hk⟩ := hb
  obtain ⟨h1, h2⟩ := hO.cx.blt (nm "enumerate") (.type "enumerate") (by decide +kernel) hf hc hk
  refine wpAny_Call_Name_kw (load_blt hO.cx hE hS₀ hgl h1 h2 ?_)
  have ha : All2 (ArgR C e env sc ns) [x] [m] := ⟨⟨hx, h⟩, trivial⟩
  show wpAny _ _ (callWith pos (.type "enumerate") [] (backTo pos (starEach [x] env)) []) _ _ _
  rw [star_cons hx]
  refine callWith_type1 (h A s₀ ρ₀ st₀ _ E X hA hS₀ (wpM_mono (wpM_bind.mp hw) (fun v st₁ hw₁ val s₁ ρ₁ r₁ S₁ e₁ => ?_) fun _ _ h => h) hX)
  have hv := wpM_enumV hw₁
  clear hw₁
  have key : ∀ {a : Addr} {items : Array Value} {xs : List V} {chk : List (Nat × Ob)} {ks : List V} {kx : List Value}, s₁.heap.IsList a items → val = .ref a → VRs C s₁.heap ρ₁ ks kx → (a ≠ s₁.heap.objs.size → a ≠ s₁.heap.objs.size + 1 → IterOk C e (.Tuple elts k0 tp) (enumFrom 0 xs) chk (.ref (s₁.heap.objs.size + 1)) [s₁.heap.objs.size + 1, s₁.heap.objs.size] (EnumP (s₁.heap.objs.size + 1) s₁.heap.objs.size a) ρ₁ ks kx) →
      (∀ it s' ρ' fp P ks kx, IterOk C e (.Tuple elts k0 tp) (enumFrom 0 xs) chk it fp P ρ' ks kx → VRs C s'.heap ρ' ks kx → P 0 s'.heap → (∀ b : Addr, b ∈ fp → b ∉ ρ' ∧ s₀.heap.get? b = none ∧ C.base.get? b = none) → State C env sc ns s' ρ' st₁ → Ext Nil s₀ ρ₀ s' ρ' → Q it s') →
      wpAny (model C.prog C.w) A (call (.type "enumerate") [val]) (fun x s₁ => wpAny (model C.prog C.w) A (pyIter x) Q E s₁) E s₁ := fun {a items xs chk ks kx} hl hv hK hI h1 => by
    subst hv
    refine call_enumerate_list hl fun h' he hit hsz g => ?_
    refine wpAny_pyIter_enum he ?_
    have hal : s₁.heap.get? a ≠ none := by obtain ⟨o, ho, _⟩ := hl; rw [ho]; simp
    have hn1 : s₁.heap.get? s₁.heap.objs.size = none := fresh_none
    have hn2 : s₁.heap.get? (s₁.heap.objs.size + 1) = none := Heap.get?_none_of_le (Nat.le_succ _)
    have ne1 : a ≠ s₁.heap.objs.size := fun q => hal (q ▸ hn1)
    have ne2 : a ≠ s₁.heap.objs.size + 1 := fun q => hal (q ▸ hn2)
    refine h1 _ { s₁ with heap := h' } ρ₁ _ _ _ _ (hI ne1 ne2) (hK.ext (Grows.extV g ρ₁)) ⟨⟨_, he⟩, hit⟩ (fun b hb => ?_) (S₁.grows g s₁.toks) (e₁.trans (Ext.grows (t := s₁.toks) g))
    have hb' : s₁.heap.get? b = none := by
      rcases List.mem_cons.mp hb with rfl | hb
      · exact hn2
      · cases mem_one hb; exact hn1
    exact ⟨S₁.notIn hb', e₁.was hb', S₁.notB hb'⟩
  have ne3 : s₁.heap.objs.size + 1 ≠ s₁.heap.objs.size := Nat.succ_ne_self _
  have nil : VRs C s₁.heap ρ₁ [] [] := by simp only [vS0, vS1]
  rcases hv with ⟨xs, rfl, h1⟩ | ⟨r, xs, rfl, hxs, h1⟩
  · have hk : ∃ a, val = .ref a := by simp only [vR5] at r₁; obtain ⟨a, _, _, rfl, _⟩ := r₁; exact ⟨a, rfl⟩
    obtain ⟨a, rfl⟩ := hk
    obtain ⟨items, hl, hvs⟩ := vr_flist r₁
    exact key hl rfl (by simp only [vS0, vS1]; exact ⟨_, _, rfl, r₁, rfl⟩) (fun n1 n2 => iter_enum_flist ne3 n1 n2) h1
  · simp only [vR11] at r₁
    obtain ⟨a, rfl, ha⟩ := r₁
    obtain ⟨items, hl, hvs⟩ := S₁.inv.isList hxs ha
    exact key hl rfl nil (fun n1 n2 => iter_enum_list ha ne3 n1 n2) h1
theorem wpM_zipA3 {vs : List V} {st : St} {Q : Src → St → Prop} {X : Str → St → Prop} (h : wpM (zipA3 vs) st Q X) : ∃ s ys zs, vs = [.str s, .flist ys, .flist zs] ∧ (s.length ≤ ys.length ∧ s.length ≤ zs.length) ∧ Q ⟨zipL3 (charsOf s) ys zs, []⟩ st := by
  unfold zipA3 at h
  split at h
  case h_2 => exact h.elim
  split at h
  case h_2 => exact h.elim
  split at h
  case h_2 => exact h.elim
  split at h
  case h_2 => exact h.elim
  obtain ⟨h1, h2⟩ := Rest.ite' h
  exact ⟨_, _, _, rfl, h1, h2⟩
theorem src_zip3 (hO : Ok C K G W d) (hE : EnvOk env sc) {e : Nat} {t a b c : Expr} {x : Str} {p pos : Pos} {ma mb mc : M V} (ht : isTupT t = true) (hb : isBuiltin G sc x "zip" = true) (ha : All2 (ArgR C e env sc ns) [a, b, c] [ma, mb, mc]) :
    SrcZ C e env sc ns t (.Call (.Name x p) [a, b, c] [] pos) (zipM3 ma mb mc) := by
  intro A s₀ ρ₀ st₀ Q E X hA hS₀ hw hX
  cases t <;> first | cases ht | skip
  rename_i elts k0 tp
  simp only [isBuiltin, Bool.and_eq_true, Bool.not_eq_true'] at hb
  obtain ⟨⟨⟨⟨hx, hgl⟩, hf⟩, hc⟩, hk⟩ := hb
  cases eq_of_beq hx
  obtain ⟨h1, h2⟩ := hO.cx.blt (nm "zip") (.type "zip") (by decide +kernel) hf hc hk
  refine wpAny_Call_Name_kw (load_blt hO.cx hE hS₀ hgl h1 h2 (callWith_any (K := K) (.inr (.inl ⟨_, rfl⟩)) (args_plain ha) (evalArgs_any ha ((snd_args ha) A s₀ ρ₀ st₀ _ E X hA hS₀ (wpM_mono (wpM_bind.mp hw) (fun vs st₁ h₁ vals s₁ ρ₁ r₁ S₁ e₁ => ⟨hO.inK.keeps S₁.inv.base, ?_⟩) fun _ _ q => q) hX))))
  rw [List.nil_append]
  obtain ⟨xs, ys, zs, rfl, ⟨hl1, hl2⟩, hq⟩ := wpM_zipA3 h₁
  simp only [vS0, vS1] at r₁
  obtain ⟨v1, _, rfl, r1, v2, _, rfl, r2, v3, _, rfl, r3, rfl⟩ := r₁
  obtain ⟨tk, rfl⟩ := r1
  have rf : ∀ {v : Value} {l : List V}, VR C s₁.heap ρ₁ (.flist l) v → ∃ a, v = .ref a := fun r => by simp only [vR0, vR1, vR2, vR3, vR4, vR5, vR6, vR7, vR8, vR9, vR10, vR11, vR12, vR13] at r; obtain ⟨l, _, _, rfl, _⟩ := r; exact ⟨l, rfl⟩
  obtain ⟨l, rfl⟩ := rf r2
  obtain ⟨m, rfl⟩ := rf r3
  obtain ⟨items, hl, _⟩ := vr_flist r2
  obtain ⟨items', hm, _⟩ := vr_flist r3
  have lt : ∀ {l : Addr} {items : Array Value}, s₁.heap.IsList l items → l < s₁.heap.objs.size := fun h => by obtain ⟨o, ho, _⟩ := h; exact Heap.lt_size ho
  refine call_zipS3 hl hm fun h' hz hTI hTO hi1 hi2 hi3 g => wpAny_pyIter_zip hz ?_
  have hge : ∀ b, b ∈ zfp3 s₁.heap.objs.size → s₁.heap.get? b = none := fun b hb => Heap.get?_none_of_le (zfp3_ge hb)
  have hN : ∀ b, (b = s₁.heap.objs.size + 3 ∨ b = s₁.heap.objs.size + 4) → s₁.heap.get? b = none ∧ ∃ o, h'.get? b = some o := fun b q => by
    rcases q with rfl | rfl
    · exact ⟨hge _ (by simp [zfp3]), _, hTI⟩
    · exact ⟨hge _ (by simp [zfp3]), _, hTO⟩
  have hK : VRs C s₁.heap ρ₁ [.flist ys, .flist zs] [.ref l, .ref m] := by simp only [vS0, vS1]; exact ⟨_, _, rfl, r2, _, _, rfl, r3, rfl⟩
  exact hq _ { s₁ with heap := h' } ρ₁ _ _ _ _ (zoff3 C s₁.heap.objs.size) (iter_zip3 (lt hl) (lt hm) hl1 hl2 fun b hb => S₁.inv.notOff (hge b hb)) (fun b q => .inl q) (hK.move (.hide (N := fun b => b = s₁.heap.objs.size + 3 ∨ b = s₁.heap.objs.size + 4) g fun b q => (hN b q).1) hK.lt)
    ⟨hz, hTI, ⟨_, _, _, hTO⟩, hi1, hi2, hi3, Nat.zero_le _⟩ (fun b hb => ⟨S₁.inv.notIn (hge b hb), e₁.was (hge b hb), S₁.inv.notB (hge b hb)⟩)
    ⟨S₁.inv.hide (N := fun b => b = s₁.heap.objs.size + 3 ∨ b = s₁.heap.objs.size + 4) g hN, S₁.frm.hide g fun b q => (hN b q).1⟩ (e₁.trans (Ext.grows (t := s₁.toks) g))
/- names of the text -/
theorem snd_glob (hO : Ok C K G W d) (hE : EnvOk env sc) {e : Nat} {x : Str} {pos : Pos} {v : V} (hg : isGlob sc x = true) (h : dGlob G x = some v) : SndE C e env sc ns (.Name x pos) (constM v) := .of fun A s ρ st Q E X hA hS hw => by
  unfold dGlob at h
  split at h
  · rename_i w hw'
    cases h
    obtain ⟨val, q1, q2⟩ := hO.cx.const x v hw'
    exact load_own hO.cx hE hS hg q1 (hw.1 _ _ _ (q2 _ _) hS (.refl ..))
  · rename_i hn
    split at h
    · rename_i hc
      cases h
      obtain ⟨a, q⟩ := hO.cx.cls x hc
      exact load_own hO.cx hE hS hg q (hw.1 _ _ _ (by simp only [vR0, vR1, vR2, vR3, vR4, vR5, vR6, vR7, vR8, vR9, vR10, vR11, vR12, vR13]; exact ⟨a, rfl, q⟩) hS (.refl ..))
    · rename_i hc
      split at h
      · cases h
      · rename_i hf
        obtain ⟨t, ht, rfl⟩ := Option.map_eq_some_iff.mp h
        have hb : bltTab.lookup x = some (.type t) := by
          have hm := lookup_mem ht
          simp only [typeNames, List.mem_cons, List.not_mem_nil, or_false, Prod.mk.injEq] at hm
          rcases hm with ⟨rfl, rfl⟩ | ⟨rfl, rfl⟩ | ⟨rfl, rfl⟩ | ⟨rfl, rfl⟩ | ⟨rfl, rfl⟩ | ⟨rfl, rfl⟩ <;> decide +kernel
        obtain ⟨h1, h2⟩ := hO.cx.blt x (.type t) hb (by simpa using hf) (by simpa using hc) (by rw [hn]; rfl)
        exact load_blt hO.cx hE hS hg h1 h2 (hw.1 _ _ _ (by simp only [vR0, vR1, vR2, vR3, vR4, vR5, vR6, vR7, vR8, vR9, vR10, vR11, vR12, vR13]) hS (.refl ..))
/- calls of names -/
theorem at_isi (hK : K.In C.base) {e : Nat} {vs : List V} {vals : List Value} {s : Shared} {ρ : List Addr} {st : St} (hv : VRs C s.heap ρ vs vals) : At C e env sc ns (VR C) Nil (call (.builtin "isinstance") vals) (fIsi vs) s ρ st := by
  unfold fIsi
  split
  · rename_i v w
    unfold isi2
    exact at_isinstance hv
  · exact .of fun A Q E X hA hS hw => hw.1.elim
theorem at_max {e : Nat} {vs : List V} {vals : List Value} {s : Shared} {ρ : List Addr} {st : St} (hv : VRs C s.heap ρ vs vals) : At C e env sc ns (VR C) Nil (call (.builtin "max") vals) (fMax vs) s ρ st := .of fun A Q E X hA hS hw => by
  obtain ⟨hw1, hX⟩ := hw
  unfold fMax at hw1
  split at hw1
  case h_2 => exact hw1.elim
  obtain ⟨i, rfl, h1⟩ := wpM_asInt.mp (wpM_bind.mp hw1)
  obtain ⟨j, rfl, h2⟩ := wpM_asInt.mp (wpM_bind.mp h1)
  simp only [vS0, vS1, vR0, vR1, vR2, vR3, vR4, vR5, vR6, vR7, vR8, vR9, vR10, vR11, vR12, vR13] at hv
  obtain ⟨_, _, rfl, ⟨t, rfl⟩, _, _, rfl, ⟨u, rfl⟩, rfl⟩ := hv
  refine max_two_ints hA.handled fun h' tk g => h2 _ _ ρ ?_ (hS.grows g tk) (Ext.grows g)
  by_cases q : j > i
  · rw [if_pos q, if_pos q]; exact ⟨_, rfl⟩
  · rw [if_neg q, if_neg q]; exact ⟨_, rfl⟩
theorem bfun_ok (hK : K.In C.base) {x : Str} {f : List V → M V} (h : bfun x = some f) : ∃ fv, bltTab.lookup x = some fv ∧ Callable K fv ∧ ∀ {e : Nat} vs vals s ρ st, VRs C s.heap ρ vs vals → At C e env sc ns (VR C) Nil (call fv vals) (f vs) s ρ st := by
  unfold bfun at h
  split at h
  · rename_i q; rw [eq_of_beq q]; cases h
    exact ⟨.builtin "len", by decide +kernel, .inl ⟨_, rfl⟩, fun vs vals s ρ st hv => at_len hv⟩
  split at h
  · rename_i q; rw [eq_of_beq q]; cases h
    exact ⟨.builtin "isinstance", by decide +kernel, .inl ⟨_, rfl⟩, fun vs vals s ρ st hv => at_isi hK hv⟩
  split at h
  · rename_i q; rw [eq_of_beq q]; cases h
    exact ⟨.type "list", by decide +kernel, .inr (.inl ⟨_, rfl⟩), fun vs vals s ρ st hv => at_list hv⟩
  split at h
  · rename_i q; rw [eq_of_beq q]; cases h
    exact ⟨.type "range", by decide +kernel, .inr (.inl ⟨_, rfl⟩), fun vs vals s ρ st hv => at_range hv⟩
  split at h
  · rename_i q; rw [eq_of_beq q]; cases h
    exact ⟨.builtin "max", by decide +kernel, .inl ⟨_, rfl⟩, fun vs vals s ρ st hv => at_max hv⟩
  cases h
theorem snd_callName (hO : Ok C K G W d) (hE : EnvOk env sc) {x : Str} {p pos : Pos} {es : List Expr} {ms : List (M V)} {m : M V} (ha : All2 (ArgR C (d + 1) env sc ns) es ms) (h : dCall W G sc x ms = some m) : SndE C (d + 1) env sc ns (.Call (.Name x p) es [] pos) m := .of fun A s ρ st Q E X hA hS hw => by
  unfold dCall at h
  split at h
  case isFalse => cases h
  rename_i hg
  refine wpAny_Call_Name_kw ?_
  split at h
  · rename_i hf
    cases h
    obtain ⟨a, q1, q2, q3, _⟩ := hO.fn x hf
    exact load_own hO.cx hE hS hg q1 ((snd_callAny (fs := []) hO.inK (.inr (.inr q2)) ha (by simp only [vS0, vS1]) fun vs vals s ρ st hv => q3.at hv).go hA hS hw)
  split at h
  · rename_i hf hc
    split at h
    case isFalse => cases h
    rename_i hi
    cases h
    obtain ⟨a, q⟩ := hO.cx.cls x hc
    obtain ⟨hkp, _⟩ := hO.new x a q hi
    exact load_own hO.cx hE hS hg q ((snd_callAny (fs := []) hO.inK (.inr (.inr hkp)) ha (by simp only [vS0, vS1]) fun vs vals s ρ st hv => at_new hO q hi hv).go hA hS hw)
  split at h
  · cases h
  · rename_i hf hc hk
    obtain ⟨f, h1, rfl⟩ := Option.map_eq_some_iff.mp h
    obtain ⟨fv, q1, q2, q3⟩ := bfun_ok (K := K) (C := C) (env := env) (sc := sc) (ns := ns) hO.inK h1
    obtain ⟨h2, h3⟩ := hO.cx.blt x fv q1 (by simpa using hf) (by simpa using hc) (by cases z : List.lookup x G.consts with | none => rfl | some w => rw [z] at hk; exact absurd rfl hk)
    exact load_blt hO.cx hE hS hg h2 h3 ((snd_callAny (fs := []) hO.inK q2 ha (by simp only [vS0, vS1]) fun vs vals s ρ st hv => q3 vs vals s ρ st hv).go hA hS hw)
/- list(..), as a new list -/
theorem isB_inv {x : Str} {n : String} (h : isBuiltin G sc x n = true) : x = nm n ∧ isGlob sc x = true ∧ G.fns.contains x = false ∧ G.clss.contains x = false ∧ (G.consts.lookup x).isNone = true := by
  simp only [isBuiltin, Bool.and_eq_true, Bool.not_eq_true'] at h
  exact ⟨eq_of_beq h.1.1.1.1, h.1.1.1.2, h.1.1.2, h.1.2, h.2⟩
theorem dCall_list {x : Str} {l : List (M V)} {m : M V} (hb : isBuiltin G sc x "list" = true) (h : dCall W G sc x l = some m) : m = appM fList l := by
  obtain ⟨rfl, h1, h2, h3, h4⟩ := isB_inv hb
  unfold dCall at h
  have e : bfun (nm "list") = some fList := by
    unfold bfun
    rw [if_neg (by decide +kernel), if_neg (by decide +kernel), if_pos (by decide +kernel)]
  rw [if_pos h1, if_neg (by rw [h2]; decide), if_neg (by rw [h3]; decide), if_neg (by rw [Option.isNone_iff_eq_none.mp h4]; decide), e] at h
  exact (Option.some.inj h).symm
theorem snd_callList (hO : Ok C K G W d) (hE : EnvOk env sc) {x : Str} {p pos : Pos} {es : List Expr} {ms : List (M V)} (ha : All2 (ArgR C (d + 1) env sc ns) es ms) (hb : isBuiltin G sc x "list" = true) : SndF C (d + 1) env sc ns (eval (.Call (.Name x p) es [] pos) env) (appM fList ms) := fun A s ρ st Q E X hA hS hw hX => by
  obtain ⟨rfl, h1, h2, h3, h4⟩ := isB_inv hb
  obtain ⟨q1, q2⟩ := hO.cx.blt (nm "list") (.type "list") (by decide +kernel) h2 h3 h4
  refine wpAny_Call_Name_kw (load_blt hO.cx hE hS h1 q1 q2 (callWith_any (K := K) (.inr (.inl ⟨_, rfl⟩)) (args_plain ha) (evalArgs_any ha ((snd_args ha) A s ρ st _ E X hA hS (wpM_mono (wpM_bind.mp hw) (fun vs st₁ h₁ vals s₁ ρ₁ r₁ S₁ e₁ => ⟨hO.inK.keeps S₁.inv.base, ?_⟩) fun _ _ q => q) hX))))
  rw [List.nil_append]
  exact (at_listF r₁) A Q E X hA S₁ (wpM_mono h₁ (fun v st' hq vs D s' ρ' hv F => hq vs D s' ρ' hv (F.from e₁)) fun _ _ q => q)
/- a call whose new list is changed later on -/
theorem snd_callOwn (hO : Ok C K G W d) (hE : EnvOk env sc) {x : Str} {p pos : Pos} {es : List Expr} {ms : List (M V)} (ha : All2 (ArgR C (d + 1) env sc ns) es ms) (hg : isGlob sc x = true) (hf : G.fns.contains x = true) : SndF C (d + 1) env sc ns (eval (.Call (.Name x p) es [] pos) env) (appM (W.cf (.fnO x)) ms) := fun A s ρ st Q E X hA hS hw hX => by
  obtain ⟨a, q1, q2, _, q3, _⟩ := hO.fn x hf
  refine wpAny_Call_Name_kw (load_own hO.cx hE hS hg q1 (callWith_any (K := K) (.inr (.inr q2)) (args_plain ha) (evalArgs_any ha ((snd_args ha) A s ρ st _ E X hA hS (wpM_mono (wpM_bind.mp hw) (fun vs st₁ h₁ vals s₁ ρ₁ r₁ S₁ e₁ => ⟨hO.inK.keeps S₁.inv.base, ?_⟩) fun _ _ q => q) hX))))
  rw [List.nil_append]
  exact wpAny_call (q3 env sc ns vs vals s₁ ρ₁ st₁ r₁ A Q E X hA.two S₁ (wpM_mono h₁ (fun v st' hq ws D s' ρ' hv F => hq ws D s' ρ' hv (F.from e₁)) fun _ _ q => q))
/- a call that leaves what it made in the ledger -/
theorem snd_callRaw (hO : Ok C K G W d) (hE : EnvOk env sc) {x : Str} {p pos : Pos} {es : List Expr} {ms : List (M V)} (ha : All2 (ArgR C (d + 1) env sc ns) es ms) (hg : isGlob sc x = true) (hf : G.fns.contains x = true) : SndE C (d + 1) env sc ns (.Call (.Name x p) es [] pos) (appM (W.cf (.fnR x)) ms) := .of fun A s ρ st Q E X hA hS hw => by
  obtain ⟨a, q1, q2, _, _, q3⟩ := hO.fn x hf
  exact wpAny_Call_Name_kw (load_own hO.cx hE hS hg q1 ((snd_callAny (fs := []) hO.inK (.inr (.inr q2)) ha (by simp only [vS0, vS1]) fun vs vals s ρ st hv => q3.at hv).go hA hS hw))
end
end Mine
set_option autoImplicit false
set_option linter.unusedVariables false
namespace Mine
open PySem PyProof.Rows PySem.W
/- targets -/
theorem tgs_ok {sc : Scope} {ns : List Str} : ∀ {es : List Expr} {xs : List Str} {is : List Nat}, namesOfT es = some xs → xs.all (isVar sc) = true → idxAll ns xs = some is → TgR sc ns es is
  | [], xs, is, h1, h2, h3 => by cases h1; cases h3; exact trivial
  | e :: es, xs, is, h1, h2, h3 => by
    cases e <;> first | cases h1 | skip
    rename_i x p
    obtain ⟨ys, h4, rfl⟩ := Option.map_eq_some_iff.mp (show (namesOfT es).map (x :: ·) = some xs from h1)
    simp only [List.all_cons, Bool.and_eq_true] at h2
    unfold idxAll at h3
    split at h3
    · rename_i k ks q1 q2
      cases h3
      exact ⟨h2.1, q1, tgs_ok h4 h2.2 q2⟩
    · cases h3
theorem dTg_ok {sc : Scope} {ns : List Str} {t : Expr} {tg : Tg} (h : dTg sc ns t = some tg) : TgtR sc ns t tg := by
  unfold dTg at h
  split at h
  · split at h
    · rename_i x p hv
      obtain ⟨i, h1, rfl⟩ := Option.map_eq_some_iff.mp h
      exact ⟨hv, h1⟩
    · cases h
  · split at h
    · rename_i es k p xs hx
      split at h
      · rename_i hall
        obtain ⟨is, h1, rfl⟩ := Option.map_eq_some_iff.mp h
        exact tgs_ok hx hall h1
      · cases h
    · cases h
  · cases h
theorem tnames_ok : ∀ {es : List Expr} {xs : List Str}, namesOfT es = some xs → tnames es = xs
  | [], xs, h => by cases h; rfl
  | e :: es, xs, h => by
    cases e <;> first | cases h | skip
    rename_i x p
    obtain ⟨ys, h4, rfl⟩ := Option.map_eq_some_iff.mp (show (namesOfT es).map (x :: ·) = some xs from h)
    show x :: tnames es = _
    rw [tnames_ok h4]
theorem tname_ok {t : Expr} {xs : List Str} (h : tgNames t = some xs) : ∀ x ∈ tname t, x ∈ xs := by
  cases t <;> first | cases h | skip
  · exact fun x hx => hx
  · intro x hx
    show x ∈ xs
    rw [← tnames_ok h]; exact hx
theorem set_plain' {e : Expr} (h : isSetE e = false) (env : Env) : ∀ x, foldedSetIterable e env x = pure x := by
  intro x
  cases e <;> first | rfl | cases h
/- the methods -/
section
variable {C : Cx} {d : Nat} {env : Env} {sc : Scope} {ns : List Str} {K : Frag} {G : GI} {W : Wd}
theorem pickM_ok (hO : Ok C K G W d) (x : Str) : PickOk C K (d + 1) env sc ns x (pickM W x) := by
  unfold pickM
  split
  · rename_i h; rw [eq_of_beq h]; exact pick_list PySem.F.slot_list_append rfl fun vs vals s ρ st hv => at_append hv
  split
  · rename_i h; rw [eq_of_beq h]; exact pick_index
  split
  · rename_i h; rw [eq_of_beq h]; exact pick_str PySem.F.slot_str_count rfl fun vs vals s ρ st hv => at_count hv
  split
  · rename_i h; rw [eq_of_beq h]; exact pick_str PySem.F.slot_str_join rfl fun vs vals s ρ st hv => at_join hv
  exact pick_own hO
/- an expression and what it means -/
structure DnOk (C : Cx) (G : GI) (d : Nat) (env : Env) (sc : Scope) (ns : List Str) (e : Expr) (D : Dn) : Prop where
  v : ∀ m, D.v = some m → starE e = false ∧ SndE C d env sc ns e m
  b : ∀ m, D.b = some m → SndB C d env sc ns e m
  s : ∀ m, D.s = some m → ∀ t, isTupT t = true → SrcSnd C d env sc ns t e m
  f : ∀ m, D.v = some m → freshE G sc e = true → SndF C d env sc ns (eval e env) m
theorem DnOk.none {e : Expr} : DnOk C G d env sc ns e (.of Option.none) := ⟨(fun m h => by cases h), (fun m h => by cases h), (fun m h => by cases h), (fun m h => by cases h)⟩
theorem DnOk.mk2 {e : Expr} {m : Option (M V)} (he : isTrue e env (eval e env) = (do let v ← eval e env; standAt e.pos; holding [v] (truthy v))) (hs : starE e = false) (h : ∀ m', m = some m' → SndE C d env sc ns e m') (hf : ∀ m', m = some m' → freshE G sc e = true → SndF C d env sc ns (eval e env) m') : DnOk C G d env sc ns e (.of m) := by
  cases m with
  | none => exact .none
  | some m =>
    have h1 := h m rfl
    exact ⟨(fun m' q => by cases q; exact ⟨hs, h1⟩), (fun m' q => by cases q; exact sndB_value h1 he), (fun m' q t _ => by cases q; exact src_value h1), hf⟩
theorem DnOk.mk' {e : Expr} {m : Option (M V)} (he : isTrue e env (eval e env) = (do let v ← eval e env; standAt e.pos; holding [v] (truthy v))) (hs : starE e = false) (hn : freshE G sc e = false) (h : ∀ m', m = some m' → SndE C d env sc ns e m') : DnOk C G d env sc ns e (.of m) :=
  .mk2 he hs h fun _ _ q => by rw [hn] at q; cases q
theorem allV_args : ∀ {es : List Expr} {Ds : List Dn} {l : List (M V)}, All2 (DnOk C G d env sc ns) es Ds → allV Ds = some l → All2 (ArgR C d env sc ns) es l
  | [], [], l, _, h => by cases h; exact trivial
  | e :: es, D :: Ds, l, h, q => by
    unfold allV at q
    split at q
    · rename_i m l' q1 q2
      cases q
      exact ⟨h.1.v m q1, allV_args h.2 q2⟩
    · cases q
  | [], _ :: _, _, h, _ => h.elim
  | _ :: _, [], _, h, _ => h.elim
theorem args_E : ∀ {es : List Expr} {l : List (M V)}, All2 (ArgR C d env sc ns) es l → All2 (SndE C d env sc ns) es l
  | [], [], _ => trivial
  | _ :: _, _ :: _, h => ⟨h.1.2, args_E h.2⟩
  | [], _ :: _, h => h.elim
  | _ :: _, [], h => h.elim
theorem allB_ok : ∀ {es : List Expr} {Ds : List Dn} {l : List (M Bool)}, All2 (DnOk C G d env sc ns) es Ds → allB Ds = some l → All2 (SndB C d env sc ns) es l
  | [], [], l, _, h => by cases h; exact trivial
  | e :: es, D :: Ds, l, h, q => by
    unfold allB at q
    split at q
    · rename_i m l' q1 q2
      cases q
      exact ⟨h.1.b m q1, allB_ok h.2 q2⟩
    · cases q
  | [], _ :: _, _, h, _ => h.elim
  | _ :: _, [], _, h, _ => h.elim
theorem zip_ok : ∀ {ops : List CmpOp} {es : List Expr} {ms : List (M V)} {r : List (CmpOp × M V)}, All2 (ArgR C d env sc ns) es ms → zipOps ops ms = some r → ChainR C d env sc ns ops es r
  | [], [], [], r, _, h => by cases h; exact trivial
  | o :: ops, e :: es, m :: ms, r, ha, h => by
    obtain ⟨r', h4, rfl⟩ := Option.map_eq_some_iff.mp (show (zipOps ops ms).map ((o, m) :: ·) = some r from h)
    exact ⟨rfl, ha.1.2, zip_ok ha.2 h4⟩
  | [], [], _ :: _, _, ha, _ => ha.elim
  | [], _ :: _, [], _, ha, _ => ha.elim
  | [], _ :: _, _ :: _, _, _, h => by cases h
  | _ :: _, [], [], _, _, h => by cases h
  | _ :: _, [], _ :: _, _, ha, _ => ha.elim
  | _ :: _, _ :: _, [], _, ha, _ => ha.elim
theorem marks_ok : ∀ {ops : List CmpOp} {es : List Expr}, es.any isSetE = false → lastMarks ops es = false
  | [], [], _ => rfl
  | [], _ :: _, _ => rfl
  | [o], [], _ => rfl
  | [o], [e], h => by
    simp only [List.any_cons, List.any_nil, Bool.or_false] at h
    show behindInMarks o e = false
    unfold behindInMarks
    cases e <;> first | (cases o <;> rfl) | cases h
  | [o], e :: e' :: es, h => by
    simp only [List.any_cons, Bool.or_eq_false_iff] at h
    show lastMarks [] (e' :: es) = false
    rfl
  | o :: o' :: ops, [], _ => rfl
  | o :: o' :: ops, [e], _ => by
    show lastMarks (o' :: ops) [] = false
    exact marks_ok rfl
  | o :: o' :: ops, e :: e' :: es, h => by
    rw [List.any_cons, Bool.or_eq_false_iff] at h
    show lastMarks (o' :: ops) (e' :: es) = false
    exact marks_ok h.2
/- comprehensions -/
structure CompD (C : Cx) (d : Nat) (env : Env) (sc : Scope) (ns : List Str) (elt t it : Expr) (ifs : List Expr) (cs : Scope) (m : M V) : Prop where
  has : ∃ xs tg src mc me, m = compM ns.length xs.length src tg (andM mc) me ∧ CompGood sc ns cs xs ∧ TgtR cs (ns ++ xs) t tg ∧ (∀ x ∈ tname t, x ∈ xs) ∧ SrcSnd C d env sc ns t it src ∧ (∀ x, foldedSetIterable it env x = pure x) ∧ ifs.length ≤ 1 ∧
    (∀ g cenv, EnvOk cenv cs → All2 (SndB (C.at g) d cenv cs (ns ++ xs)) ifs mc) ∧ ∀ g cenv, EnvOk cenv cs → SndE (C.at g) d cenv cs (ns ++ xs) elt me
noncomputable def dComp (W : Wd) (G : GI) (sc : Scope) (ns : List Str) (elt : Expr) (gens : List Comprehension) (cs : Scope) : Option (M V) := match gens with
    | [⟨t, it, ifs, 0⟩] => match tgNames t with
      | some xs => if !compOk sc ns cs xs || isSetE it || decide (1 < ifs.length) then none else match (if isTupT t then (dn W G sc ns it).s else (dn W G sc ns it).v.map fun m => m.bind toSrc), dTg cs (ns ++ xs) t, allB (dns W G cs (ns ++ xs) ifs), (dn W G cs (ns ++ xs) elt).v with
        | some s, some tg, some cond, some e => some (compM ns.length xs.length s tg (andM cond) e)
        | _, _, _, _ => none
      | none => none
    | _ => none
theorem comp_data {elt t it : Expr} {ifs : List Expr} {cs : Scope} {m : M V} (hit : DnOk C G d env sc ns it (dn W G sc ns it)) (hifs : ∀ g xs cenv, EnvOk cenv cs → All2 (DnOk (C.at g) G d cenv cs (ns ++ xs)) ifs (dns W G cs (ns ++ xs) ifs))
    (helt : ∀ g xs cenv, EnvOk cenv cs → DnOk (C.at g) G d cenv cs (ns ++ xs) elt (dn W G cs (ns ++ xs) elt)) (h : dComp W G sc ns elt [⟨t, it, ifs, 0⟩] cs = some m) : CompD C d env sc ns elt t it ifs cs m := by
  have h' : (match tgNames t with
      | some xs => if !compOk sc ns cs xs || isSetE it || decide (1 < ifs.length) then none else match (if isTupT t then (dn W G sc ns it).s else (dn W G sc ns it).v.map fun m => m.bind toSrc), dTg cs (ns ++ xs) t, allB (dns W G cs (ns ++ xs) ifs), (dn W G cs (ns ++ xs) elt).v with
        | some s, some tg, some cond, some e => some (compM ns.length xs.length s tg (andM cond) e)
        | _, _, _, _ => none
      | none => none) = some m := h
  clear h
  split at h'
  · rename_i xs hxs
    split at h'
    · cases h'
    · rename_i hok
      simp only [Bool.not_eq_true, Bool.or_eq_false_iff, Bool.not_eq_false', decide_eq_false_iff_not, Nat.not_lt] at hok
      obtain ⟨⟨h1, h2⟩, h3⟩ := hok
      split at h'
      · rename_i s tg cond e q1 q2 q3 q4
        cases h'
        refine ⟨xs, tg, s, cond, e, rfl, comp_good h1, dTg_ok q2, tname_ok hxs, ?_, set_plain' h2 env, h3, fun g cenv hc => allB_ok (hifs g xs cenv hc) q3, fun g cenv hc => ((helt g xs cenv hc).v e q4).2⟩
        by_cases ht : isTupT t = true
        · rw [if_pos ht] at q1
          exact hit.s s q1 t ht
        · rw [if_neg ht] at q1
          obtain ⟨m', q5, rfl⟩ := Option.map_eq_some_iff.mp q1
          exact src_value (hit.v m' q5).2
      · cases h'
  · cases h'
theorem CompD.snd {elt t it : Expr} {ifs : List Expr} {cs : Scope} {m : M V} {pos : Pos} (hE : EnvOk env sc) (h : CompD C d env sc ns elt t it ifs cs m) : SndF C d env sc ns (eval (.ListComp elt [⟨t, it, ifs, 0⟩] cs pos) env) m := by
  obtain ⟨xs, tg, src, mc, me, rfl, h1, h2, h3, h4, h5, h6, h7, h8⟩ := h.has
  exact snd_comp hE h1 h2 h3 h4 h5 h6 h7 h8
end
end Mine
set_option autoImplicit false
set_option linter.unusedVariables false
namespace Mine
open PySem PyProof.Rows PySem.W
section
variable {C : Cx} {d : Nat} {K : Frag} {G : GI} {W : Wd}
theorem optV_ok {env : Env} {sc : Scope} {ns : List Str} {e : Option Expr} {m : Option (M V)} (h : ∀ x, e = some x → DnOk C G d env sc ns x (dn W G sc ns x)) (q : optV (dnO W G sc ns e) = some m) : OptR C d env sc ns e m := by
  cases e with
  | none => cases q; exact trivial
  | some x =>
    obtain ⟨m', q1, rfl⟩ := Option.map_eq_some_iff.mp (show (dn W G sc ns x).v.map some = some m from q)
    exact ((h x rfl).v m' q1).2
theorem dn_sub (sc : Scope) (ns : List Str) (o i : Expr) (p : Pos) (hs : dSlice i = false) : dn W G sc ns (.Subscript o i p) = .of (dSu (dn W G sc ns o).v (dn W G sc ns i).v) := by
  cases i <;> first | rfl | cases hs
noncomputable def DnA (C : Cx) (G : GI) (W : Wd) (d : Nat) (e : Expr) : Prop := ∀ f env sc ns, EnvOk env sc → DnOk (C.at f) G (d + 1) env sc ns e (dn W G sc ns e)
noncomputable def DnsA (C : Cx) (G : GI) (W : Wd) (d : Nat) (es : List Expr) : Prop := ∀ f env sc ns, EnvOk env sc → All2 (DnOk (C.at f) G (d + 1) env sc ns) es (dns W G sc ns es)
structure DnI (C : Cx) (G : GI) (W : Wd) (d : Nat) (e : Expr) : Prop where
  ok : DnA C G W d e
  sl : ∀ l u st q, e = .Slice l u st q → (∀ x, l = some x → DnA C G W d x) ∧ ∀ x, u = some x → DnA C G W d x
  ob : ∀ o x p, e = .Attribute o x p → DnA C G W d o
noncomputable def isSA : Expr → Bool
  | .Slice .. => true
  | .Attribute .. => true
  | _ => false
theorem DnI.of {e : Expr} (h : DnA C G W d e) (hs : isSA e = false) : DnI C G W d e := ⟨h, (fun l u st q z => by rw [z] at hs; cases hs), (fun o x p z => by rw [z] at hs; cases hs)⟩
theorem DnA.none {e : Expr} (h : ∀ sc ns, dn W G sc ns e = .of none) : DnA C G W d e := fun f env sc ns hE => by rw [h]; exact .none
theorem DnI.none {e : Expr} (h : ∀ sc ns, dn W G sc ns e = .of none) (hs : isSA e = false) : DnI C G W d e := .of (.none h) hs
theorem dk_const {c : Const} {k : Nat} {p : Pos} : DnA C G W d (.Constant c k p) := fun f env sc ns hE => .mk' rfl rfl rfl fun m' h => by
  obtain ⟨v, h1, rfl⟩ := Option.map_eq_some_iff.mp h
  exact snd_const h1
theorem dk_name (hO : ∀ f, Ok (C.at f) K G W d) {x : Str} {p : Pos} : DnA C G W d (.Name x p) := fun f env sc ns hE => .mk' rfl rfl rfl fun m' h => by
  split at h
  · rename_i hg
    obtain ⟨v, h1, rfl⟩ := Option.map_eq_some_iff.mp h
    exact snd_glob (hO f) hE hg h1
  · split at h
    · rename_i hv
      obtain ⟨i, h1, rfl⟩ := Option.map_eq_some_iff.mp h
      exact snd_var hE hv h1
    · cases h
theorem dk_bool {op : BoolOp} {es : List Expr} {p : Pos} (I : DnsA C G W d es) : DnA C G W d (.BoolOp op es p) := fun f env sc ns hE => by
  have ih := I f env sc ns hE
  cases op with
  | And =>
    refine ⟨(fun m h => ⟨rfl, ?_⟩), (fun m h => ?_), (fun m h => by cases h), (fun m h q => by cases q)⟩
    · have h' : (if es.isEmpty then none else (allV (dns W G sc ns es)).map fun l => boolV (andM (l.map evB))) = some m := h
      split at h'
      · cases h'
      · rename_i hne
        obtain ⟨l, h1, rfl⟩ := Option.map_eq_some_iff.mp h'
        exact snd_and (fun q => hne (by rw [q]; rfl)) (args_E (allV_args ih h1))
    · obtain ⟨l, h1, rfl⟩ := Option.map_eq_some_iff.mp (show (allB (dns W G sc ns es)).map andM = some m from h)
      exact sndB_and (allB_ok ih h1)
  | Or =>
    refine ⟨(fun m h => ⟨rfl, ?_⟩), (fun m h => ?_), (fun m h => by cases h), (fun m h q => by cases q)⟩
    · have h' : (if es.isEmpty then none else (allV (dns W G sc ns es)).map fun l => boolV (orM (l.map evB))) = some m := h
      split at h'
      · cases h'
      · rename_i hne
        obtain ⟨l, h1, rfl⟩ := Option.map_eq_some_iff.mp h'
        exact snd_or (fun q => hne (by rw [q]; rfl)) (args_E (allV_args ih h1))
    · obtain ⟨l, h1, rfl⟩ := Option.map_eq_some_iff.mp (show (allB (dns W G sc ns es)).map orM = some m from h)
      exact sndB_or (allB_ok ih h1)
theorem dk_bin {l r : Expr} {op : Operator} {p : Pos} (I : DnA C G W d l) (J : DnA C G W d r) : DnA C G W d (.BinOp l op r p) := fun f env sc ns hE => .mk2 rfl rfl (fun m' h => by
  split at h
  · rename_i a b h1 h2
    cases h
    exact snd_bin ((I f env sc ns hE).v a h1).2 ((J f env sc ns hE).v b h2).2 fun x y vx vy s ρ st q1 q2 => at_bin q1 q2
  · cases h) fun m' h q => by
  cases q
theorem dk_un {op : UnaryOp} {x : Expr} {p : Pos} (I : DnA C G W d x) : DnA C G W d (.UnaryOp op x p) := fun f env sc ns hE => by
  have ih := I f env sc ns hE
  cases op with
  | Not =>
    refine ⟨(fun m h => ⟨rfl, ?_⟩), (fun m h => ?_), (fun m h => by cases h), (fun m h q => by cases q)⟩
    · obtain ⟨a, h1, rfl⟩ := Option.map_eq_some_iff.mp (show ((dn W G sc ns x).v.map fun m => boolV (notM (evB m))) = some m from h)
      exact snd_not (ih.v a h1).2
    · obtain ⟨a, h1, rfl⟩ := Option.map_eq_some_iff.mp (show (dn W G sc ns x).b.map notM = some m from h)
      exact sndB_not (ih.b a h1)
  | USub =>
    refine .mk' rfl rfl rfl fun m' h => ?_
    obtain ⟨a, h1, rfl⟩ := Option.map_eq_some_iff.mp h
    exact snd_neg (ih.v a h1).2
  | Invert => exact .none
  | UAdd => exact .none
theorem dk_ife {t a b : Expr} {p : Pos} (I : DnA C G W d t) (J : DnA C G W d a) (L : DnA C G W d b) : DnA C G W d (.IfExp t a b p) := fun f env sc ns hE => by
  refine ⟨(fun m h => ⟨rfl, ?_⟩), (fun m h => by cases h), (fun m h => by cases h), (fun m h q => by cases q)⟩
  have h' : (match (dn W G sc ns t).b, (dn W G sc ns a).v, (dn W G sc ns b).v with
    | some t, some a, some b => some (iteM t a b)
    | _, _, _ => none) = some m := h
  split at h'
  · rename_i mt ma mb h1 h2 h3
    cases h'
    exact snd_ife ((I f env sc ns hE).b mt h1) ((J f env sc ns hE).v ma h2).2 ((L f env sc ns hE).v mb h3).2
  · cases h'
theorem dk_list {es : List Expr} {p : Pos} (I : DnsA C G W d es) : DnA C G W d (.List es p) := fun f env sc ns hE => by
  have key : ∀ m', (if es.length ≤ 64 then (allV (dns W G sc ns es)).map listM else none) = some m' → SndF (C.at f) (d + 1) env sc ns (eval (.List es p) env) m' := fun m' h => by
    split at h
    · obtain ⟨l, h1, rfl⟩ := Option.map_eq_some_iff.mp h
      exact snd_list (allV_args (I f env sc ns hE) h1)
    · cases h
  exact .mk2 rfl rfl (fun m' h => (key m' h).val) fun m' h _ => key m' h
theorem dk_tup {es : List Expr} {k : Nat} {p : Pos} (I : DnsA C G W d es) : DnA C G W d (.Tuple es k p) := fun f env sc ns hE => .mk' rfl rfl rfl fun m' h => by
  split at h
  · obtain ⟨l, h1, rfl⟩ := Option.map_eq_some_iff.mp h
    exact snd_tuple (allV_args (I f env sc ns hE) h1)
  · cases h
theorem dk_comp {elt t it : Expr} {ifs : List Expr} {cs : Scope} {p : Pos} (I : DnA C G W d it) (J : DnsA C G W d ifs) (L : DnA C G W d elt) : DnA C G W d (.ListComp elt [⟨t, it, ifs, 0⟩] cs p) := fun f env sc ns hE => by
  have key : ∀ m', dComp W G sc ns elt [⟨t, it, ifs, 0⟩] cs = some m' → SndF (C.at f) (d + 1) env sc ns (eval (.ListComp elt [⟨t, it, ifs, 0⟩] cs p) env) m' := fun m' h =>
    (comp_data (C := C.at f) (I f env sc ns hE) (fun g xs cenv hc => J g cenv _ _ hc) (fun g xs cenv hc => L g cenv _ _ hc) h).snd hE
  exact .mk2 rfl rfl (fun m' h => (key m' h).val) fun m' h _ => key m' h
theorem dk_cmp (hO : ∀ f, Ok (C.at f) K G W d) {l : Expr} {ops : List CmpOp} {cs : List Expr} {p : Pos} (I : DnA C G W d l) (J : DnsA C G W d cs) : DnA C G W d (.Compare l ops cs p) := fun f env sc ns hE => by
  have ih1 := I f env sc ns hE
  have ih2 := J f env sc ns hE
  show DnOk (C.at f) G (d + 1) env sc ns _ (match (dn W G sc ns l).v, allV (dns W G sc ns cs) with
    | some a, some bs => if lastMarks0 ops cs then .of none else match zipOps ops bs with
      | some (r :: rs) => .test (some (cmpM a (r :: rs)))
      | _ => .of none
    | _, _ => .of none)
  split
  · rename_i a bs h1 h2
    split
    · exact .none
    · rename_i hm
      split
      · rename_i r rs h3
        have ha := allV_args ih2 h2
        have hz := zip_ok ha h3
        have hmk : lastMarks ops cs = false := marks_ok (by simpa [lastMarks0] using hm)
        refine ⟨(fun m h => ⟨rfl, ?_⟩), (fun m h => ?_), (fun m h => by cases h), (fun m h q => by cases q)⟩
        · cases h; exact snd_cmp (cmp_snd (hO f).cx.sys) (ih1.v a h1).2 hz (List.cons_ne_nil _ _) hmk
        · cases h; exact sndB_cmp (cmp_snd (hO f).cx.sys) (ih1.v a h1).2 hz (List.cons_ne_nil _ _) hmk
      · exact .none
  · exact .none
theorem dk_meth (hO : ∀ f, Ok (C.at f) K G W d) {o : Expr} {x : Str} {ap p : Pos} {as : List Expr} {ks : List Keyword} (I : DnA C G W d o) (J : DnsA C G W d as) : DnA C G W d (.Call (.Attribute o x ap) as ks p) := fun f env sc ns hE => .mk' rfl rfl rfl fun m' h => by
  have ih1 := I f env sc ns hE
  have ih2 := J f env sc ns hE
  split at h
  · rename_i m l h1 h2
    split at h
    · rename_i hc
      simp only [Bool.and_eq_true, decide_eq_true_eq, Bool.not_eq_true'] at hc
      cases h
      exact snd_methodCall (hO f).inK hc.2 hc.1.2 hc.1.1 (ih1.v m h1).2 (allV_args ih2 h2) (pickM_ok (hO f) x)
    · cases h
  · cases h
theorem dk_call (hO : ∀ f, Ok (C.at f) K G W d) {x : Str} {q p : Pos} {as : List Expr} {ks : List Keyword} (J : DnsA C G W d as) : DnA C G W d (.Call (.Name x q) as ks p) := fun f env sc ns hE => by
  have ih := J f env sc ns hE
  show DnOk (C.at f) G (d + 1) env sc ns _ (match allV (dns W G sc ns as), ks with
    | some l, [] =>
      if isBuiltin G sc x "enumerate" then ⟨none, none, match l with | [m] => some (m.bind enumV) | _ => none⟩
      else .of (dCall W G sc x l)
    | _, _ => .of none)
  split
  · rename_i l h1
    have ha := allV_args ih h1
    clear h1
    split
    · rename_i hb
      refine ⟨(fun m h => by cases h), (fun m h => by cases h), (fun m h t ht => ?_), (fun m h => by cases h)⟩
      dsimp only at h
      split at h
      · rename_i m1
        cases h
        cases as with
        | nil => exact ha.elim
        | cons a r =>
          cases r with
          | cons _ _ => exact ha.2.elim
          | nil =>
            have hx : x = nm "enumerate" := by
              simp only [isBuiltin, Bool.and_eq_true] at hb
              exact eq_of_beq hb.1.1.1.1
            subst hx
            exact src_enum (hO f) hE ht hb ha.1.1 ha.1.2
      · cases h
    · exact .mk2 rfl rfl (fun m' h => snd_callName (hO f) hE ha h) fun m' h q => by rw [dCall_list q h]; exact snd_callList (hO f) hE ha q
  · exact .none
theorem dk_calls (hO : ∀ f, Ok (C.at f) K G W d) {fn : Expr} {as : List Expr} {ks : List Keyword} {p : Pos} (I : DnI C G W d fn) (J : DnsA C G W d as) : DnA C G W d (.Call fn as ks p) := by
  cases fn <;> first
    | exact dk_meth hO (I.ob _ _ _ rfl) J
    | exact dk_call hO J
    | exact .none fun _ _ => rfl
theorem dk_attr (hO : ∀ f, Ok (C.at f) K G W d) {o : Expr} {x : Str} {p : Pos} (I : DnA C G W d o) : DnA C G W d (.Attribute o x p) := fun f env sc ns hE => .mk' rfl rfl rfl fun m' h => by
  split at h
  · cases h
  · rename_i hs
    obtain ⟨a, h1, rfl⟩ := Option.map_eq_some_iff.mp h
    exact snd_attr (hO f) (by simpa using hs) ((I f env sc ns hE).v a h1).2
theorem dk_sub {o i : Expr} {p : Pos} (I : DnA C G W d o) (J : DnI C G W d i) : DnA C G W d (.Subscript o i p) := fun f env sc ns hE => by
  have ih := I f env sc ns hE
  by_cases hs : dSlice i = true
  · cases i <;> first | cases hs | skip
    rename_i l u st q
    obtain ⟨j1, j2⟩ := J.sl l u st q rfl
    refine .mk' rfl rfl rfl fun m' h => ?_
    unfold dSl at h
    split at h
    · rename_i m ml mu h1 h2 h3
      cases h
      exact snd_slice (ih.v m h1).2 (optV_ok (fun x q => j1 x q f env sc ns hE) h2) (optV_ok (fun x q => j2 x q f env sc ns hE) h3)
    · cases h
  · have ih2 := J.ok f env sc ns hE
    rw [dn_sub _ _ _ _ _ (by simpa using hs)]
    refine .mk' rfl rfl rfl fun m' h => ?_
    unfold dSu at h
    split at h
    · rename_i m k h1 h2
      cases h
      refine snd_sub ?_ (ih.v m h1).2 (ih2.v k h2).2
      cases i <;> first | rfl | exact absurd rfl hs
    · cases h
mutual
theorem dn_all (hO : ∀ f, Ok (C.at f) K G W d) : ∀ e : Expr, DnI C G W d e
  | .Constant .. => .of dk_const rfl
  | .Name .. => .of (dk_name hO) rfl
  | .BoolOp _ es _ => .of (dk_bool (dns_all hO es)) rfl
  | .BinOp l _ r _ => .of (dk_bin (dn_all hO l).ok (dn_all hO r).ok) rfl
  | .UnaryOp _ x _ => .of (dk_un (dn_all hO x).ok) rfl
  | .IfExp t a b _ => .of (dk_ife (dn_all hO t).ok (dn_all hO a).ok (dn_all hO b).ok) rfl
  | .List es _ => .of (dk_list (dns_all hO es)) rfl
  | .Tuple es _ _ => .of (dk_tup (dns_all hO es)) rfl
  | .ListComp elt [⟨t, it, ifs, 0⟩] cs p => .of (dk_comp (dn_all hO it).ok (dns_all hO ifs) (dn_all hO elt).ok) rfl
  | .ListComp elt [] cs p => .none (fun _ _ => rfl) rfl
  | .ListComp elt [⟨t, it, ifs, .ofNat (n + 1)⟩] cs p => .none (fun _ _ => rfl) rfl
  | .ListComp elt [⟨t, it, ifs, .negSucc n⟩] cs p => .none (fun _ _ => rfl) rfl
  | .ListComp elt (⟨_, _, _, .ofNat 0⟩ :: _ :: _) cs p => .none (fun _ _ => rfl) rfl
  | .ListComp elt (⟨_, _, _, .ofNat (n + 1)⟩ :: _ :: _) cs p => .none (fun _ _ => rfl) rfl
  | .ListComp elt (⟨_, _, _, .negSucc n⟩ :: _ :: _) cs p => .none (fun _ _ => rfl) rfl
  | .Compare l _ cs _ => .of (dk_cmp hO (dn_all hO l).ok (dns_all hO cs)) rfl
  | .Call fn as _ _ => .of (dk_calls hO (dn_all hO fn) (dns_all hO as)) rfl
  | .Attribute o _ _ => ⟨dk_attr hO (dn_all hO o).ok, fun _ _ _ _ h => (nomatch h), (fun _ _ _ h => by cases h; exact (dn_all hO o).ok)⟩
  | .Subscript o i _ => .of (dk_sub (dn_all hO o).ok (dn_all hO i)) rfl
  | .Slice l u st q => ⟨.none fun _ _ => rfl, (fun _ _ _ _ h => by cases h; exact ⟨fun x q => (dnO_all hO l x q).ok, fun x q => (dnO_all hO u x q).ok⟩), fun _ _ _ h => (nomatch h)⟩
  | .NamedExpr .. => .none (fun _ _ => rfl) rfl
  | .Lambda .. => .none (fun _ _ => rfl) rfl
  | .Dict .. => .none (fun _ _ => rfl) rfl
  | .Set .. => .none (fun _ _ => rfl) rfl
  | .SetComp .. => .none (fun _ _ => rfl) rfl
  | .DictComp .. => .none (fun _ _ => rfl) rfl
  | .GeneratorExp .. => .none (fun _ _ => rfl) rfl
  | .Await .. => .none (fun _ _ => rfl) rfl
  | .Yield .. => .none (fun _ _ => rfl) rfl
  | .YieldFrom .. => .none (fun _ _ => rfl) rfl
  | .FormattedValue .. => .none (fun _ _ => rfl) rfl
  | .JoinedStr .. => .none (fun _ _ => rfl) rfl
  | .Starred .. => .none (fun _ _ => rfl) rfl
termination_by structural e => e
theorem dnO_all (hO : ∀ f, Ok (C.at f) K G W d) : ∀ (e : Option Expr) (x : Expr), e = some x → DnI C G W d x
  | none, x, h => (nomatch h)
  | some e, x, h => (Option.some.inj h) ▸ dn_all hO e
termination_by structural e => e
theorem dns_all (hO : ∀ f, Ok (C.at f) K G W d) : ∀ es : List Expr, DnsA C G W d es
  | [] => fun _ _ _ _ _ => trivial
  | e :: es => fun f env sc ns hE => ⟨(dn_all hO e).ok f env sc ns hE, dns_all hO es f env sc ns hE⟩
termination_by structural es => es
end
theorem dn_ok (hO : ∀ f, Ok (C.at f) K G W d) (e : Expr) {f : Addr → Prop} {env : Env} {sc : Scope} {ns : List Str} (hE : EnvOk env sc) : DnOk (C.at f) G (d + 1) env sc ns e (dn W G sc ns e) := (dn_all hO e).ok f env sc ns hE
theorem dns_ok (hO : ∀ f, Ok (C.at f) K G W d) (es : List Expr) {f : Addr → Prop} {env : Env} {sc : Scope} {ns : List Str} (hE : EnvOk env sc) : All2 (DnOk (C.at f) G (d + 1) env sc ns) es (dns W G sc ns es) := dns_all hO es f env sc ns hE
end
end Mine
set_option autoImplicit false
set_option linter.unusedVariables false
namespace Mine
open PySem PyProof.Rows PySem.W
section
variable {C : Cx} {d : Nat} {K : Frag} {G : GI} {W : Wd}
theorem comp_gens {sc : Scope} {ns : List Str} {elt : Expr} {cs : Scope} {p : Pos} {m : M V} : ∀ {gens : List Comprehension}, (dn W G sc ns (.ListComp elt gens cs p)).v = some m → ∃ t it ifs, gens = [⟨t, it, ifs, 0⟩]
  | [], h => by cases h
  | [⟨t, it, ifs, .ofNat 0⟩], _ => ⟨t, it, ifs, rfl⟩
  | [⟨t, it, ifs, .ofNat (n + 1)⟩], h => by cases h
  | [⟨t, it, ifs, .negSucc n⟩], h => by cases h
  | ⟨_, _, _, a⟩ :: _ :: _, h => by
    cases a with
    | ofNat n => cases n <;> cases h
    | negSucc n => cases h
theorem src_ok (hO : ∀ f, Ok (C.at f) K G W d) {f : Addr → Prop} {env : Env} {sc : Scope} {ns : List Str} (hE : EnvOk env sc) {t it : Expr} {s : M Src} (h : dSrc W G sc ns (isTupT t) it = some s) : SrcSnd (C.at f) (d + 1) env sc ns t it s := by
  unfold dSrc at h
  split at h
  · rename_i ht
    exact (dn_ok hO it hE).s s h t ht
  · obtain ⟨m, h1, rfl⟩ := Option.map_eq_some_iff.mp h
    exact src_value ((dn_ok hO it hE).v m h1).2
theorem src_notSet {sc : Scope} {ns : List Str} {tt : Bool} {it : Expr} {s : M Src} (h : dSrc W G sc ns tt it = some s) : isSetE it = false := by
  cases it <;> first | rfl | skip
  unfold dSrc at h
  split at h <;> cases h
theorem no_some {α : Type} {P : Prop} {m : α} (h : (none : Option α) = some m) : P := by cases h
theorem if_some {α : Type} {c : Bool} {o : Option α} {m : α} (h : (if c then o else none) = some m) : c = true ∧ o = some m := by
  cases c with
  | true => exact ⟨rfl, h⟩
  | false => exact no_some h
theorem callN_some {e : Expr} {x : Str} {as : List Expr} (h : callN e = some (x, as)) : ∃ p pos, e = .Call (.Name x p) as [] pos := by
  cases e with
  | Call f as' ks pos =>
    obtain ⟨hk, h⟩ := if_some (show (if ks.isEmpty then (nameIs f).map fun x => (x, as') else none) = some (x, as) from h)
    cases List.isEmpty_iff.mp hk
    obtain ⟨y, h1, h2⟩ := Option.map_eq_some_iff.mp h
    cases h2
    cases f with
    | Name z p => cases h1; exact ⟨p, pos, rfl⟩
    | _ => exact no_some h1
  | _ => exact no_some h
theorem zip_srcok (hO : ∀ f, Ok (C.at f) K G W d) {f : Addr → Prop} {env : Env} {sc : Scope} {ns : List Str} (hE : EnvOk env sc) {t it : Expr} {s : M Src} (h : dZip W G sc ns (isTupT t) it = some s) : SrcZ (C.at f) (d + 1) env sc ns t it s ∧ isSetE it = false := by
  obtain ⟨⟨x, as⟩, h0, h'⟩ := Option.bind_eq_some_iff.mp h
  clear h
  obtain ⟨p, pos, rfl⟩ := callN_some h0
  clear h0
  obtain ⟨hq, h⟩ := if_some h'
  clear h'
  rw [Bool.and_eq_true] at hq
  match as, h with
  | [], h => exact no_some h
  | [_], h => exact no_some h
  | _ :: _ :: _ :: _ :: _, h => exact no_some h
  | [_, _], h => exact no_some h
  | [a, b, c], h =>
    obtain ⟨ma, h1, h2⟩ := Option.bind_eq_some_iff.mp (show ((dE W G sc ns a).bind fun a => (dE W G sc ns b).bind fun b => (dE W G sc ns c).map fun c => zipM3 a b c) = some s from h)
    obtain ⟨mb, h3, h4⟩ := Option.bind_eq_some_iff.mp h2
    obtain ⟨mc, h5, rfl⟩ := Option.map_eq_some_iff.mp h4
    exact ⟨src_zip3 (hO f) hE hq.1 hq.2 ⟨(dn_ok hO _ (f := f) hE).v ma h1, (dn_ok hO _ (f := f) hE).v mb h3, (dn_ok hO _ (f := f) hE).v mc h5, trivial⟩, rfl⟩
theorem for_ok (hO : ∀ f, Ok (C.at f) K G W d) {f : Addr → Prop} {env : Env} {sc : Scope} {ns : List Str} (hE : EnvOk env sc) {t it : Expr} {s : M Src} (h : dFor W G sc ns (isTupT t) it = some s) : SrcZ (C.at f) (d + 1) env sc ns t it s ∧ isSetE it = false := by
  unfold dFor at h
  split at h
  · rename_i m' hz
    cases h
    exact zip_srcok hO hE hz
  exact ⟨(src_ok hO hE h).z, src_notSet h⟩
theorem assign_ok (hO : ∀ f, Ok (C.at f) K G W d) {f : Addr → Prop} {env : Env} {sc : Scope} {ns : List Str} (hE : EnvOk env sc) {x : Str} {p pos : Pos} {e : Expr} {m : M V} {tg : Tg} {own : Bool} (hown : own = true → freshE G sc e = true) (he : (dn W G sc ns e).v = some m) (ht : dTg sc ns (.Name x p) = some tg) : SndX (C.at f) (d + 1) env sc ns (.Assign [.Name x p] e pos) (assignM tg (ownM own m)) := by
  have htg := dTg_ok ht
  cases tg <;> first | exact htg.elim | skip
  rename_i i
  have ih := dn_ok hO e (f := f) (ns := ns) hE
  by_cases hc : compE e = true
  · cases e <;> first | cases hc | skip
    · rename_i elt gens cs p'
      obtain ⟨t, it, ifs, rfl⟩ := comp_gens he
      obtain ⟨xs, tg, src, mc, me, rfl, h1, h2, h3, h4, h5, h6, h7, h8⟩ := (comp_data (C := C.at f) (dn_ok hO it hE) (fun g xs cenv hc => dns_ok hO ifs (f := g) hc) (fun g xs cenv hc => dn_ok hO elt (f := g) hc) he).has
      exact snd_assignComp hE h1 htg.1 htg.2 h2 h3 h4 h5 h6 h7 h8 own
    · cases he
    · cases he
  · refine snd_assignName hE ?_ htg.1 htg.2 (swaps_plain (env := env) (e := e) (t := some (.Name x p)) (n := pos.line) (by simpa using hc))
    cases own with
    | false => exact (ih.v m he).2
    | true => exact (ih.f m he (hown rfl)).own
theorem dict_ok (hO : ∀ f, Ok (C.at f) K G W d) {f : Addr → Prop} {env : Env} {sc : Scope} {ns : List Str} (hE : EnvOk env sc) {e : Expr} {m : M V} (h : dDict W G sc ns e = some m) : SndE (C.at f) (d + 1) env sc ns e m ∧ compE e = false ∧ isTupT e = false := by
  unfold dDict at h
  split at h
  · rename_i k v p
    split at h
    · obtain ⟨mk, h1, h⟩ := Option.bind_eq_some_iff.mp h
      obtain ⟨mv, h2, rfl⟩ := Option.map_eq_some_iff.mp h
      exact ⟨snd_pset1 (fun g => ((dn_ok hO k (f := g) hE).v mk h1).2) (fun g => ((dn_ok hO v (f := g) hE).v mv h2).2), rfl, rfl⟩
    cases h
  · cases h
theorem own_ok (hO : ∀ f, Ok (C.at f) K G W d) {f : Addr → Prop} {env : Env} {mu : List Str} {sc : Scope} {ns : List Str} (hE : EnvOk env sc) {t e : Expr} {m : M V} (h : dOwn W G mu sc ns t e = some m) : SndE (C.at f) (d + 1) env sc ns e m ∧ compE e = false ∧ isTupT e = false := by
  obtain ⟨⟨x, as⟩, h0, h2⟩ := Option.bind_eq_some_iff.mp h
  clear h
  obtain ⟨p, pos, rfl⟩ := callN_some h0
  clear h0
  obtain ⟨hq, h⟩ := if_some h2
  clear h2
  rw [Bool.and_eq_true] at hq
  obtain ⟨l, h1, h3⟩ := Option.bind_eq_some_iff.mp h
  have ha := allV_args (dns_ok hO as (f := f) (ns := ns) hE) h1
  refine ⟨?_, rfl, rfl⟩
  clear h h1
  cases t with
  | Name y q =>
    obtain ⟨_, h4⟩ := if_some (o := some ((appM (W.cf (.fnO x)) l).bind ownL)) h3
    cases h4
    exact (snd_callOwn (hO f) hE ha hq.1 hq.2).own
  | Tuple ts k q =>
    obtain ⟨_, h4⟩ := if_some (o := some (appM (W.cf (.fnR x)) l)) h3
    cases h4
    exact snd_callRaw (hO f) hE ha hq.1 hq.2
  | _ => exact no_some h3
theorem new_ok (hO : ∀ f, Ok (C.at f) K G W d) {f : Addr → Prop} {env : Env} {mu : List Str} {sc : Scope} {ns : List Str} (hE : EnvOk env sc) {t e : Expr} {m : M V} (h : dNew W G mu sc ns t e = some m) : SndE (C.at f) (d + 1) env sc ns e m ∧ compE e = false ∧ isTupT e = false := by
  unfold dNew at h
  split at h
  · rename_i m' hd
    cases h
    exact dict_ok hO hE hd
  exact own_ok hO hE h
noncomputable def isNameT : Expr → Bool
  | .Name .. => true
  | _ => false
theorem ownM_ok {f : Addr → Prop} {env : Env} {mu : List Str} {sc : Scope} {ns : List Str} {t e : Expr} {me : M V} (ih : DnOk (C.at f) G (d + 1) env sc ns e (dn W G sc ns e)) (h1 : (dn W G sc ns e).v = some me) (h : isNameT t = false) : SndE (C.at f) (d + 1) env sc ns e (ownM (ownE G sc mu t e) me) := by
  cases q : ownE G sc mu t e with
  | false => exact (ih.v me h1).2
  | true =>
    have hf : freshE G sc e = true := by
      cases t <;> first | (cases h; done) | exact q | (cases q; done)
    exact (ih.f me h1 hf).own
theorem asg_rest (hO : ∀ f, Ok (C.at f) K G W d) {f : Addr → Prop} {env : Env} {sc : Scope} {ns : List Str} (hE : EnvOk env sc) {t e : Expr} {pos : Pos} {m : M Flow} {mv : M V}
    (ih : isNameT t = false → SndE (C.at f) (d + 1) env sc ns e mv) (hn : ∀ x p tg, t = .Name x p → dTg sc ns (.Name x p) = some tg → SndX (C.at f) (d + 1) env sc ns (.Assign [.Name x p] e pos) (assignM tg mv)) (h : dAsg W G sc ns t e (some mv) = some m) : SndX (C.at f) (d + 1) env sc ns (.Assign [t] e pos) m := by
  cases t with
  | Attribute o x p =>
    obtain ⟨mo, h2, rfl⟩ := Option.map_eq_some_iff.mp h
    exact snd_assignAttr (hO f) (ih rfl) ((dn_ok hO o hE).v mo h2).2
  | Subscript o k p =>
    obtain ⟨mo, h2, h⟩ := Option.bind_eq_some_iff.mp (show ((dE W G sc ns o).bind fun o => (dE W G sc ns k).bind fun k => some (setSubM o k mv)) = some m from h)
    obtain ⟨mk, h3, h⟩ := Option.bind_eq_some_iff.mp h
    cases h
    exact snd_assignSub (ih rfl) ((dn_ok hO o hE).v mo h2).2 ((dn_ok hO k hE).v mk h3).2
  | Name x p =>
    obtain ⟨tg, h2, rfl⟩ := Option.map_eq_some_iff.mp h
    exact hn x p tg rfl h2
  | Tuple ts k p =>
    have h' : (if isTupT e then none else (dTg sc ns (.Tuple ts k p)).map fun tg => assignM tg mv) = some m := h
    cases ht : isTupT e with
    | true => rw [ht] at h'; exact no_some h'
    | false =>
      rw [ht] at h'
      obtain ⟨tg, h2, rfl⟩ := Option.map_eq_some_iff.mp h'
      exact snd_assignTuple hE (dTg_ok h2) ht (ih rfl)
  | _ => exact no_some h
theorem asg_ok (hO : ∀ f, Ok (C.at f) K G W d) {f : Addr → Prop} {env : Env} {mu : List Str} {sc : Scope} {ns : List Str} (hE : EnvOk env sc) {t e : Expr} {pos : Pos} {m : M Flow} (h : dAsg W G sc ns t e (dVal W G mu sc ns t e) = some m) : SndX (C.at f) (d + 1) env sc ns (.Assign [t] e pos) m := by
  unfold dVal at h
  cases hdd : dNew W G mu sc ns t e with
  | some md =>
    rw [hdd] at h
    obtain ⟨ih, hne, hnt⟩ := new_ok hO (f := f) hE hdd
    refine asg_rest hO hE (fun _ => ih) (fun x p tg q h2 => ?_) h
    have htg := dTg_ok h2
    cases tg <;> first | exact htg.elim | skip
    exact snd_assignName hE ih htg.1 htg.2 (swaps_plain (env := env) (e := e) (t := some (.Name x p)) (n := pos.line) hne)
  | none =>
    rw [hdd] at h
    cases h1 : dE W G sc ns e with
    | none => rw [h1] at h; cases h
    | some me =>
      rw [h1] at h
      refine asg_rest hO hE (fun q => ?_) (fun x p tg q h2 => ?_) h
      · exact ownM_ok (dn_ok hO e (f := f) hE) h1 q
      · subst q
        exact assign_ok hO hE (fun q => by
          have q' : (freshE G sc e && mu.contains x) = true := q
          rw [Bool.and_eq_true] at q'
          exact q'.1) h1 h2
theorem raise_ok {f : Addr → Prop} {env : Env} {sc : Scope} {ns : List Str} {e e' : Option Expr} {pos : Pos} {m : M Flow} (h : (if e'.isNone then dRaise G sc e else none) = some m) : SndX (C.at f) (d + 1) env sc ns (.Raise e e' pos) m := by
  cases e' with
  | some _ => cases h
  | none =>
    have h' : dRaise G sc e = some m := h
    unfold dRaise at h'
    split at h'
    · split at h'
      · cases h'; exact snd_raise
      · cases h'
    · cases h'
theorem one1_ok {α : Type} {l : List α} {t : α} (h : one1 l = some t) : l = [t] := by
  cases l with
  | nil => cases h
  | cons a l =>
    cases l with
    | nil => cases h; rfl
    | cons _ _ => cases h
noncomputable def DsA (C : Cx) (G : GI) (W : Wd) (d : Nat) (s : Stmt) : Prop := ∀ f env mu sc ns m, EnvOk env sc → dS W G mu sc ns s = some m → SndX (C.at f) (d + 1) env sc ns s m
noncomputable def DssA (C : Cx) (G : GI) (W : Wd) (d : Nat) (ss : List Stmt) : Prop := ∀ f env mu sc ns ms, EnvOk env sc → dSs W G mu sc ns ss = some ms → All2 (SndX (C.at f) (d + 1) env sc ns) ss ms
theorem ds_none {s : Stmt} (h : ∀ mu sc ns, dS W G mu sc ns s = none) : DsA C G W d s := fun f env mu sc ns m hE q => by rw [h] at q; cases q
theorem ds_expr (hO : ∀ f, Ok (C.at f) K G W d) {e : Expr} {pos : Pos} : DsA C G W d (.Expr e pos) := fun f env mu sc ns m hE h => by
  obtain ⟨hc, h⟩ := if_some (o := (dE W G sc ns e).map exprM) h
  obtain ⟨a, h1, rfl⟩ := Option.map_eq_some_iff.mp h
  refine snd_expr hE ((dn_ok hO _ hE).v a h1).2 (swaps_plain (env := env) (e := e) (t := none) (n := pos.line) ?_)
  cases e <;> first | rfl | cases hc
theorem ds_pass {pos : Pos} : DsA C G W d (.Pass pos) := fun f env mu sc ns m hE h => by
  have h' : some (M.pure .next) = some m := h
  cases h'
  exact snd_pass
theorem ds_ret (hO : ∀ f, Ok (C.at f) K G W d) {e : Option Expr} {pos : Pos} : DsA C G W d (.Return e pos) := fun f env mu sc ns m hE h => by
  obtain ⟨e, rfl, h⟩ := Option.bind_eq_some_iff.mp (show (e.bind fun e => (dE W G sc ns e).map retM) = some m from h)
  obtain ⟨a, h1, rfl⟩ := Option.map_eq_some_iff.mp h
  exact snd_return ((dn_ok hO e hE).v a h1).2
theorem ds_asg (hO : ∀ f, Ok (C.at f) K G W d) {ts : List Expr} {e : Expr} {pos : Pos} : DsA C G W d (.Assign ts e pos) := fun f env mu sc ns m hE h => by
  obtain ⟨t, h1, h⟩ := Option.bind_eq_some_iff.mp (show ((one1 ts).bind fun t => dAsg W G sc ns t e (dVal W G mu sc ns t e)) = some m from h)
  cases one1_ok h1
  exact asg_ok hO hE h
theorem ds_if (hO : ∀ f, Ok (C.at f) K G W d) {t : Expr} {b o : List Stmt} {pos : Pos} (I : DssA C G W d b) (J : DssA C G W d o) : DsA C G W d (.If t b o pos) := fun f env mu sc ns m hE h => by
  obtain ⟨mt, h1, h⟩ := Option.bind_eq_some_iff.mp (show ((dB W G sc ns t).bind fun t => (dSs W G mu sc ns b).bind fun b => (dSs W G mu sc ns o).bind fun o => some (iteM t (seqS b) (seqS o))) = some m from h)
  obtain ⟨mb, h2, h⟩ := Option.bind_eq_some_iff.mp h
  obtain ⟨mo, h3, h⟩ := Option.bind_eq_some_iff.mp h
  cases h
  exact snd_if ((dn_ok hO t hE).b mt h1) (snd_seq (I f env mu sc ns _ hE h2)) (snd_seq (J f env mu sc ns _ hE h3))
theorem ds_while (hO : ∀ f, Ok (C.at f) K G W d) {t : Expr} {b o : List Stmt} {pos : Pos} (I : DssA C G W d b) : DsA C G W d (.While t b o pos) := fun f env mu sc ns m hE h => by
  obtain ⟨hc, h⟩ := if_some (o := (dB W G sc ns t).bind fun t => (dSs W G mu sc ns b).bind fun b => some (whileM t (seqS b))) h
  cases List.isEmpty_iff.mp hc
  obtain ⟨mt, h1, h⟩ := Option.bind_eq_some_iff.mp h
  obtain ⟨mb, h2, h⟩ := Option.bind_eq_some_iff.mp h
  cases h
  exact snd_while ((dn_ok hO t hE).b mt h1) (snd_seq (I f env mu sc ns _ hE h2))
theorem ds_for (hO : ∀ f, Ok (C.at f) K G W d) {t it : Expr} {b o : List Stmt} {pos : Pos} (I : DssA C G W d b) : DsA C G W d (.For t it b o pos) := fun f env mu sc ns m hE h => by
  obtain ⟨hc, h⟩ := if_some (o := (dTg sc ns t).bind fun tg => (dFor W G sc ns (isTupT t) it).bind fun s => (dSs W G mu sc ns b).bind fun b => some (forM tg s (seqS b))) h
  cases List.isEmpty_iff.mp hc
  obtain ⟨tg, h1, h⟩ := Option.bind_eq_some_iff.mp h
  obtain ⟨ms, h2, h⟩ := Option.bind_eq_some_iff.mp h
  obtain ⟨mb, h3, h⟩ := Option.bind_eq_some_iff.mp h
  cases h
  exact snd_for hE (dTg_ok h1) (for_ok hO hE h2).1 (fun g => snd_seq (I g env mu sc ns _ hE h3)) (set_plain' (for_ok (f := f) hO hE h2).2 env)
theorem ds_cons {s : Stmt} {r : List Stmt} (I : DsA C G W d s) (J : DssA C G W d r) : DssA C G W d (s :: r) := fun f env mu sc ns ms hE h => by
  obtain ⟨m, h1, h⟩ := Option.bind_eq_some_iff.mp (show ((dS W G mu sc ns s).bind fun m => (dSs W G mu sc ns r).bind fun l => some (m :: l)) = some ms from h)
  obtain ⟨l, h2, h⟩ := Option.bind_eq_some_iff.mp h
  cases h
  exact ⟨I f env mu sc ns _ hE h1, J f env mu sc ns _ hE h2⟩
mutual
theorem dS_all (hO : ∀ f, Ok (C.at f) K G W d) : ∀ s : Stmt, DsA C G W d s
  | .Expr .. => ds_expr hO
  | .Pass .. => ds_pass
  | .Return .. => ds_ret hO
  | .Assign .. => ds_asg hO
  | .If _ b o _ => ds_if hO (dSs_all hO b) (dSs_all hO o)
  | .While _ b _ _ => ds_while hO (dSs_all hO b)
  | .For _ _ b _ _ => ds_for hO (dSs_all hO b)
  | .Raise .. => fun f env mu sc ns m hE h => raise_ok h
  | .Try .. => ds_none fun _ _ _ => rfl
  | .FunctionDef .. => ds_none fun _ _ _ => rfl
  | .AsyncFunctionDef .. => ds_none fun _ _ _ => rfl
  | .ClassDef .. => ds_none fun _ _ _ => rfl
  | .Delete .. => ds_none fun _ _ _ => rfl
  | .TypeAlias .. => ds_none fun _ _ _ => rfl
  | .AugAssign .. => ds_none fun _ _ _ => rfl
  | .AnnAssign .. => ds_none fun _ _ _ => rfl
  | .AsyncFor .. => ds_none fun _ _ _ => rfl
  | .With .. => ds_none fun _ _ _ => rfl
  | .AsyncWith .. => ds_none fun _ _ _ => rfl
  | .Match .. => ds_none fun _ _ _ => rfl
  | .TryStar .. => ds_none fun _ _ _ => rfl
  | .Assert .. => ds_none fun _ _ _ => rfl
  | .Import .. => ds_none fun _ _ _ => rfl
  | .ImportFrom .. => ds_none fun _ _ _ => rfl
  | .Global .. => ds_none fun _ _ _ => rfl
  | .Nonlocal .. => ds_none fun _ _ _ => rfl
  | .Break .. => ds_none fun _ _ _ => rfl
  | .Continue .. => ds_none fun _ _ _ => rfl
termination_by structural s => s
theorem dSs_all (hO : ∀ f, Ok (C.at f) K G W d) : ∀ ss : List Stmt, DssA C G W d ss
  | [] => fun f env mu sc ns ms hE h => by
    have h' : some [] = some ms := h
    cases h'; exact trivial
  | s :: r => ds_cons (dS_all hO s) (dSs_all hO r)
termination_by structural ss => ss
end
theorem dSs_ok (hO : ∀ f, Ok (C.at f) K G W d) {f : Addr → Prop} {env : Env} {mu : List Str} {sc : Scope} {ns : List Str} (hE : EnvOk env sc) (ss : List Stmt) {ms : List (M Flow)} (h : dSs W G mu sc ns ss = some ms) : All2 (SndX (C.at f) (d + 1) env sc ns) ss ms := dSs_all hO ss f env mu sc ns ms hE h
end
end Mine
set_option autoImplicit false
set_option linter.unusedVariables false
namespace Mine
open PySem PyProof.Rows PySem.W
/- what the start heap holds, read off the written part of it -/
theorem mg_of {K : Frag} {h : Heap} {mg : Str → Option Value} (hK : K.In h) (hg : h.Ns mainGlobals mg) {x : Str} {r : Option Value} (e : nsIn K mainGlobals x = some r) : mg x = r := by
  unfold nsIn at e
  split at e
  · rename_i c d es n sl ho
    obtain ⟨o, es', ep, h1, h2, h3, h4⟩ := hg
    have h5 := hK _ _ ho
    rw [h1] at h5
    cases h5
    cases h2
    rw [← h4 x]
    unfold nsFind findBy
    rw [← Array.find?_toList]
    split at e
    · rename_i en he; cases e; rw [he]; rfl
    · rename_i he
      rw [he]
      split at e
      · cases e
      · cases e; rfl
  · cases e
noncomputable def gAddr (K : Frag) (x : Str) : Option Addr := match nsIn K mainGlobals x with
  | some (some (.ref a)) => some a
  | _ => none
theorem gAddr_some {K : Frag} {x : Str} {a : Addr} (h : gAddr K x = some a) : nsIn K mainGlobals x = some (some (.ref a)) := by
  unfold gAddr at h
  split at h
  · rename_i b hb; cases h; exact hb
  · cases h
noncomputable def mAddr (K : Frag) (k : Addr) (x : Str) : Option Addr := match findIn K (.ref k) x with
  | some (some (.ref f)) => some f
  | _ => none
theorem mAddr_some {K : Frag} {k : Addr} {x : Str} {a : Addr} (h : mAddr K k x = some a) : findIn K (.ref k) x = some (some (.ref a)) := by
  unfold mAddr at h
  split at h
  · rename_i b hb; cases h; exact hb
  · cases h
noncomputable def adr (K : Frag) : FnKey → Option Addr
  | .fn x => gAddr K x
  | .meth c m => (gAddr K c).bind fun k => mAddr K k m
  | .fnO x => gAddr K x
  | .fnR x => gAddr K x
theorem adr_base {K : Frag} (k : FnKey) : adr K k.base = adr K k := by cases k <;> rfl
noncomputable def fnV (K : Frag) (a : Option Addr) : Option FuncData := match a with
  | some a => (match K.lookup a with
    | some ⟨_, _, .func fd, _⟩ => some fd
    | _ => none)
  | none => none
noncomputable def codeB (K : Frag) (cd : Value) (q : Str) : Bool := match cd with
  | .ref c => (match K.lookup c with
    | some ⟨_, _, .fields vs, _⟩ => (match (vs[1]? : Option Value) with
      | some (Value.str y _) => y == q
      | _ => false)
    | _ => false)
  | _ => false
noncomputable def isNoneV : Value → Bool
  | .none => true
  | _ => false
noncomputable def fnB (K : Frag) (f : FnD) : Bool := f.ok && match fnV K (adr K f.key) with
  | some fd => fd.globals == mainGlobals && fd.closure.isEmpty && fd.builtins == builtinsNs && codeB K fd.code fd.qualname && fd.params.posonlyargs.isEmpty && fd.params.vararg.isNone && fd.params.kwonlyargs.isEmpty && fd.params.kw_defaults.isEmpty && fd.params.kwarg.isNone && fd.params.defaults.isEmpty &&
      (fd.params.args.map (·.arg) == f.params) && isNoneV fd.defaults
  | none => false
noncomputable def fnShape (K : Frag) (f : FnD) : Option (Scope × FuncBody) := (fnV K (adr K f.key)).map fun fd => (fd.scope, fd.body)
noncomputable def wantShape (f : FnD) : Option (Scope × FuncBody) := some (f.scope, .stmts f.body)
theorem map_eq_mem {α β : Type} {f g : α → β} : ∀ {l : List α}, l.map f = l.map g → ∀ x ∈ l, f x = g x
  | [], _, _, h => (nomatch h)
  | y :: l, e, x, h => by
    simp only [List.map_cons, List.cons.injEq] at e
    cases h with
    | head => exact e.1
    | tail _ h => exact map_eq_mem e.2 x h
theorem fnV_some {K : Frag} {a : Option Addr} {fd : FuncData} (h : fnV K a = some fd) : ∃ b o, a = some b ∧ K.lookup b = some o ∧ o.data = .func fd := by
  unfold fnV at h
  split at h
  · rename_i b
    split at h
    · rename_i c d fd' sl q
      cases h
      exact ⟨b, _, rfl, q, rfl⟩
    · cases h
  · cases h
theorem code_ok {K : Frag} {h : Heap} (hK : K.In h) {cd : Value} {q : Str} (e : codeB K cd q = true) : h.CodeRec cd q := by
  cases cd <;> first | cases e | skip
  rename_i c
  unfold codeB at e
  dsimp only at e
  split at e
  · rename_i ho
    split at e
    · rename_i y t hv
      refine ⟨c, _, _, t, rfl, hK _ _ ho, rfl, ?_⟩
      rw [hv, eq_of_beq e]
    · cases e
  · cases e
theorem isNone_ok {v : Value} (h : isNoneV v = true) : v = .none := by
  cases v <;> first | rfl | cases h
theorem fn_ok {C : Cx} {K : Frag} (hK : K.In C.base) {f : FnD} (hs : fnShape K f = wantShape f) (hb : fnB K f = true) : ∃ a, adr K f.key = some a ∧ FnOk C f a ∧ FnGood f := by
  unfold fnShape wantShape at hs
  obtain ⟨fd, h1, h2⟩ := Option.map_eq_some_iff.mp hs
  obtain ⟨a, o, h3, h4, h5⟩ := fnV_some h1
  unfold fnB at hb
  rw [h1] at hb
  simp only [Bool.and_eq_true, beq_iff_eq, List.isEmpty_iff, Option.isNone_iff_eq_none] at hb
  obtain ⟨hok, ⟨⟨⟨⟨⟨⟨⟨⟨⟨⟨⟨b1, b2⟩, b3⟩, b4⟩, b5⟩, b6⟩, b7⟩, b8⟩, b9⟩, b10⟩, b11⟩, b12⟩⟩ := hb
  simp only [Prod.mk.injEq] at h2
  refine ⟨a, h3, ⟨o, fd, fd.params.args, hK _ _ h4, h5, h2.1, h2.2, b1, b2, b3, code_ok hK b4, ?_, b11, isNone_ok b12⟩, FnD.good hok⟩
  rcases hp : fd.params with ⟨c1, c2, c3, c4, c5, c6, c7⟩
  rw [hp] at b5 b6 b7 b8 b9 b10
  simp only at b5 b6 b7 b8 b9 b10 ⊢
  rw [b5, b6, b7, b8, b9, b10]
theorem FnKey.beq_eq {a b : FnKey} (h : a.beq b = true) : a = b := by
  cases a with
  | fn x => cases b <;> first | cases h | (rw [eq_of_beq (show (_ == _) = true from h)])
  | meth a b' =>
    cases b <;> first | cases h | skip
    rename_i c d
    have h' : (a == c && b' == d) = true := h
    rw [Bool.and_eq_true] at h'
    rw [eq_of_beq h'.1, eq_of_beq h'.2]
  | fnO x => cases h
  | fnR x => cases h
/- the checks -/
noncomputable def fldB (K : Frag) (k : Addr) (x : Str) : Bool := plainGet K k x && hasDictIn K k && (match findIn K (.ref k) x with | some attr => noGet K attr | none => false) &&
  (findIn K (.ref k) "__setattr__" == some (some (.builtin "object.__setattr__"))) && plainOver K k && (takerIn K k x == some none)
noncomputable def keyB (K : Frag) (f : FnD) : Bool := match f.key with
  | .fn x => (match gAddr K x with
    | some a => keepIn K (.ref a)
    | none => false)
  | .meth c m => (match gAddr K c with
    | some k => plainGet K k m && (match mAddr K k m with
        | some a => isFn K (.ref a) && keepIn K (.ref a)
        | none => false) && (!(m == nm "__init__") || (keepIn K (.ref k) && makesIn K k)) && (fieldsIn f.body).all (fldB K k)
    | none => false)
  | .fnO _ => false
  | .fnR _ => false
noncomputable def intIs (b : Int) : Option (Option Value) → Bool
  | some (some (.int c _)) => b == c
  | _ => false
noncomputable def strIs (b : List Nat) : Option (Option Value) → Bool
  | some (some (.str c _)) => (⟨b.toArray⟩ : Str) == c
  | _ => false
noncomputable def constV (x : Option (Option Value)) : V → Bool
  | .int b => intIs b x
  | .str b => strIs b x
  | _ => false
noncomputable def constB (K : Frag) (p : Str × V) : Bool := constV (nsIn K mainGlobals p.1) p.2
theorem intIs_ok {b : Int} {x : Option (Option Value)} (h : intIs b x = true) : ∃ t, x = some (some (.int b t)) := by
  unfold intIs at h
  split at h
  · rename_i c t; exact ⟨t, by rw [eq_of_beq h]⟩
  · cases h
theorem strIs_ok {b : List Nat} {x : Option (Option Value)} (h : strIs b x = true) : ∃ t, x = some (some (.str ⟨b.toArray⟩ t)) := by
  unfold strIs at h
  split at h
  · rename_i c t; exact ⟨t, by rw [eq_of_beq h]⟩
  · cases h
noncomputable def bltB (K : Frag) (G : GI) (p : Str × Value) : Bool := G.fns.contains p.1 || G.clss.contains p.1 || (G.consts.lookup p.1).isSome || nsIn K mainGlobals p.1 == some none
structure TopOk (K : Frag) (p : List Stmt) : Prop where
  shape : (fnsOf p).map (fnShape K) = (fnsOf p).map wantShape
  fns : (fnsOf p).all (fnB K) = true
  keys : (fnsOf p).all (keyB K) = true
  consts : (giOf p).consts.all (constB K) = true
  clss : (giOf p).clss.all (fun x => (gAddr K x).isSome) = true
  blt : bltTab.all (bltB K (giOf p)) = true
  sys : (K.lookup sysModules).isSome = true
theorem blt_boot : (bltTab.all fun q => bootBuiltins q.1 == some q.2 && !(q.1 == ("__name__" : Str))) = true := by decide +kernel
/- the facts that do not hang on the depth of calls -/
noncomputable def FnAt (C : Cx) (p : List Stmt) (a : Addr) (key : FnKey) : Prop := ∀ f, (fnsOf p).find? (fun f => f.key.beq key.base) = some f → FnOk C f a ∧ FnGood f
section
variable {C : Cx} {K : Frag} {p : List Stmt}
theorem TopOk.fnAt (T : TopOk K p) (hK : K.In C.base) {key : FnKey} {a : Addr} (ha : adr K key = some a) : FnAt C p a key := fun f hf => by
  have hm := List.mem_of_find?_eq_some hf
  have hk := FnKey.beq_eq (List.find?_some (p := fun f : FnD => f.key.beq key.base) hf)
  obtain ⟨b, h1, h2, h3⟩ := fn_ok hK (map_eq_mem T.shape f hm) (List.all_eq_true.mp T.fns f hm)
  rw [hk, adr_base, ha] at h1
  cases h1
  exact ⟨h2, h3⟩
theorem cxOk (T : TopOk K p) (hK : K.In C.base) (hg : C.base.Ns mainGlobals C.mg) (hb : C.base.Ns builtinsNs C.mb) (hl : C.base.NoLimit) (hbt : ∀ x : Str, x ≠ "__name__" → C.mb x = bootBuiltins x) : CxOk C (giOf p) where
  g := hg
  b := hb
  lim := hl
  sys := by obtain ⟨o, ho⟩ := Option.isSome_iff_exists.mp T.sys; exact ⟨o, hK _ _ ho⟩
  blt := fun x v h1 h2 h3 h4 => by
    have hm := lookup_mem h1
    have q := List.all_eq_true.mp T.blt _ hm
    have q2 := List.all_eq_true.mp blt_boot _ hm
    simp only [bltB, Bool.or_eq_true, h2, h3, Bool.false_eq_true, false_or, beq_iff_eq] at q
    simp only [Bool.and_eq_true, beq_iff_eq, Bool.not_eq_true', beq_eq_false_iff_ne, ne_eq] at q2
    refine ⟨?_, (hbt x q2.2).trans q2.1⟩
    rcases q with q | q
    · rw [Option.isNone_iff_eq_none.mp h4] at q; cases q
    · exact mg_of hK hg q
  const := fun x v h => by
    have q := List.all_eq_true.mp T.consts _ (lookup_mem h)
    unfold constB at q
    dsimp only at q
    cases v <;> first | cases q | skip
    · obtain ⟨t, e⟩ := intIs_ok q
      exact ⟨_, mg_of hK hg e, fun _ _ => by simp only [vR0, vR1, vR2, vR3, vR4, vR5, vR6, vR7, vR8, vR9, vR10, vR11, vR12, vR13]; exact ⟨t, rfl⟩⟩
    · obtain ⟨t, e⟩ := strIs_ok q
      exact ⟨_, mg_of hK hg e, fun _ _ => by simp only [vR0, vR1, vR2, vR3, vR4, vR5, vR6, vR7, vR8, vR9, vR10, vR11, vR12, vR13]; exact ⟨t, rfl⟩⟩
  cls := fun x h => by
    have q := List.all_eq_true.mp T.clss x (by simpa using h)
    obtain ⟨a, ha⟩ := Option.isSome_iff_exists.mp q
    exact ⟨a, mg_of hK hg (gAddr_some ha)⟩
theorem has_mem {c x : Str} (h : hasOf p c x = true) : ∃ f ∈ fnsOf p, f.key = .meth c x := by
  unfold hasOf at h
  obtain ⟨f, h1, h2⟩ := List.any_eq_true.mp h
  exact ⟨f, h1, FnKey.beq_eq h2⟩
theorem fns_mem {x : Str} (h : (giOf p).fns.contains x = true) : ∃ f ∈ fnsOf p, f.key = .fn x := by
  have h' : x ∈ (giOf p).fns := by simpa using h
  obtain ⟨f, h1, h2⟩ := List.mem_filterMap.mp (show x ∈ List.filterMap _ (fnsOf p) from h')
  refine ⟨f, h1, ?_⟩
  split at h2
  · rename_i y hy; cases h2; exact hy
  · cases h2
theorem fld_mem {c x : Str} (h : fldOf p c x = true) : ∃ f ∈ fnsOf p, ∃ m, f.key = .meth c m ∧ x ∈ fieldsIn f.body := by
  unfold fldOf at h
  obtain ⟨f, h1, h2⟩ := List.any_eq_true.mp h
  split at h2
  · rename_i c' m hk
    simp only [Bool.and_eq_true, List.contains_iff_mem] at h2
    exact ⟨f, h1, m, by rw [hk, eq_of_beq h2.1], h2.2⟩
  · cases h2
/- what is known of a call, by its key -/
noncomputable def FK (C : Cx) (d : Nat) (a : Addr) (key : FnKey) (g : List V → M V) : Prop := match key with
  | .fnO _ => FSndF C d a g
  | _ => FSnd C d a g
theorem FK.of {d : Nat} {a : Addr} {key : FnKey} {g : List V → M V} (h1 : key.own = false → FSnd C d a g) (h2 : key.own = true → FSndF C d a g) : FK C d a key g := by
  cases key
  · exact h1 rfl
  · exact h1 rfl
  · exact h2 rfl
  · exact h1 rfl
theorem stuck_snd (C : Cx) (d : Nat) (a : Addr) (key : FnKey) : FK C d a key (fun _ => stuck) := .of (fun _ env sc ns vs vals s ρ st hv A Q E X hA hS hw => hw.1.elim) (fun _ env sc ns vs vals s ρ st hv A Q E X hA hS hw => hw.elim)
theorem FnAt.at {f : Addr → Prop} {a : Addr} {key : FnKey} (h : FnAt C p a key) : FnAt (C.at f) p a key := fun g hg => ⟨⟨(h g hg).1.fn⟩, (h g hg).2⟩
theorem FK.of_fn (hl : C.base.NoLimit) {d : Nat} {a : Addr} {key : FnKey} (hO : ∀ f, Ok (C.at f) K (giOf p) (wdOf p (cfOf p d)) d) (h : FnAt C p a key) (f : Addr → Prop) : FK (C.at f) (d + 1) a key (cfOf p (d + 1) key) := by
  unfold cfOf
  split
  · rename_i g hf
    obtain ⟨h1, h2⟩ := h.at (f := f) g hf
    refine .of (fun q => ?_) fun q => ?_
    · rw [if_neg (by rw [q]; decide)]
      unfold FnD.sem
      split
      · rename_i l hl'
        exact call_snd hl h1 h2 fun env f' hE => snd_seq (dSs_ok hO (f := f') hE g.body hl')
      · exact fun env sc ns vs vals s ρ st hv A Q E X hA hS hw => hw.1.elim
    · rw [if_pos q]
      unfold FnD.semO
      split
      · rename_i l hl'
        exact call_fresh hl h1 h2 fun env f' hE => snd_seq (dSs_ok hO (f := f') hE g.body hl')
      · exact fun env sc ns vs vals s ρ st hv A Q E X hA hS hw => hw.elim
  · exact stuck_snd (C.at f) _ _ _
theorem ok_of (T : TopOk K p) (hK : K.In C.base) (cx : CxOk C (giOf p)) {d : Nat} (hf : ∀ key a, FnAt C p a key → FK C d a key (cfOf p d key)) : Ok C K (giOf p) (wdOf p (cfOf p d)) d where
  cx := cx
  inK := hK
  fn := fun x h => by
    obtain ⟨f, hm, hk⟩ := fns_mem h
    have q := List.all_eq_true.mp T.keys f hm
    unfold keyB at q
    rw [hk] at q
    dsimp only at q
    split at q
    · rename_i a ha
      exact ⟨a, mg_of hK cx.g (gAddr_some ha), q, hf (.fn x) _ (T.fnAt hK (key := .fn x) ha), hf (.fnO x) _ (T.fnAt hK (key := .fnO x) ha), hf (.fnR x) _ (T.fnAt hK (key := .fnR x) ha)⟩
    · cases q
  meth := fun c k x hc h => by
    obtain ⟨f, hm, hk⟩ := has_mem h
    have q := List.all_eq_true.mp T.keys f hm
    unfold keyB at q
    rw [hk] at q
    dsimp only at q
    split at q
    · rename_i k' hk'
      have e := mg_of hK cx.g (gAddr_some hk')
      rw [hc] at e
      cases e
      simp only [Bool.and_eq_true] at q
      obtain ⟨⟨⟨q1, q2⟩, q3⟩, q4⟩ := q
      split at q2
      · rename_i a ha
        rw [Bool.and_eq_true] at q2
        exact ⟨q1, a, mAddr_some ha, q2.1, q2.2, hf (.meth c x) _ (T.fnAt hK (key := .meth c x) (by show (gAddr K c).bind _ = _; rw [hk']; exact ha))⟩
      · cases q2
    · cases q
  fld := fun c k x hc h => by
    obtain ⟨f, hm, m, hk, hx⟩ := fld_mem h
    have q := List.all_eq_true.mp T.keys f hm
    unfold keyB at q
    rw [hk] at q
    dsimp only at q
    split at q
    · rename_i k' hk'
      have e := mg_of hK cx.g (gAddr_some hk')
      rw [hc] at e
      cases e
      simp only [Bool.and_eq_true] at q
      have q4 := List.all_eq_true.mp q.2 x hx
      unfold fldB at q4
      simp only [Bool.and_eq_true, beq_iff_eq] at q4
      obtain ⟨⟨⟨⟨⟨b1, b2⟩, b3⟩, b4⟩, b5⟩, b6⟩ := q4
      split at b3
      · rename_i attr ha
        exact ⟨b1, b2, ⟨attr, ha, b3⟩, b4, b5, b6⟩
      · cases b3
    · cases q
  new := fun c k hc h => by
    obtain ⟨f, hm, hk⟩ := has_mem h
    have q := List.all_eq_true.mp T.keys f hm
    unfold keyB at q
    rw [hk] at q
    dsimp only at q
    split at q
    · rename_i k' hk'
      have e := mg_of hK cx.g (gAddr_some hk')
      rw [hc] at e
      cases e
      simp only [Bool.and_eq_true] at q
      obtain ⟨⟨⟨q1, q2⟩, q3⟩, q4⟩ := q
      rw [beq_self_eq_true, Bool.not_true, Bool.false_or, Bool.and_eq_true] at q3
      split at q2
      · rename_i a ha
        rw [Bool.and_eq_true] at q2
        exact ⟨q3.1, q3.2, a, mAddr_some ha, q2.1, hf (.meth c (nm "__init__")) _ (T.fnAt hK (key := .meth c (nm "__init__")) (by show (gAddr K c).bind _ = _; rw [hk']; exact ha))⟩
      · cases q2
    · cases q
theorem all_ok (T : TopOk K p) (hK : K.In C.base) (cx : ∀ f, CxOk (C.at f) (giOf p)) : ∀ d, (∀ f key a, FnAt C p a key → FK (C.at f) d a key (cfOf p d key))
  | 0, f, key, a, _ => stuck_snd (C.at f) 0 a key
  | d + 1, f, key, a, h => .of_fn (cx C.off).lim (fun g => ok_of (C := C.at g) T hK (cx g) fun key a h => all_ok T hK cx d g key a ((show FnAt C p a key from fun z hz => ⟨⟨(h z hz).1.fn⟩, (h z hz).2⟩))) h f
end
end Mine
set_option autoImplicit false
set_option linter.unusedVariables false
namespace Mine
open PySem PyProof.Rows PySem.W
theorem inv_start (C : Cx) (h : ∀ a, ¬ C.off a) : Inv C C.base [] [] :=
  ⟨fun _ _ e => e, rfl, List.nodup_nil, fun a ha => (nomatch ha), fun a q => absurd q (h a), fun i o ho => by simp at ho⟩
/- a run of the whole -/
theorem run_law {C : Cx} {K : Frag} {p : List Stmt} (T : TopOk K p) (hK : K.In C.base) (cx : ∀ f, CxOk (C.at f) (giOf p)) (hoff : ∀ a, ¬ C.off a) {d : Nat} {x : Str} {a : Addr} (hfa : FnAt C p a (.fn x)) {s : Shared} (hs : s.heap = C.base) {vs : List V} {vals : List Value} (hv : VRs C s.heap [] vs vals)
    {v : V} {obs' : List Ob} (hrun : cfOf p (d + 1) (.fn x) vs ⟨[], []⟩ = .ok v ⟨[], obs'⟩) {A : Around} (hA : AOk2 (d + 1) A) {Q : Value → Shared → Prop} {E : Value → Shared → Prop}
    (hQ : ∀ val s' ρ', VR C s'.heap ρ' v val → Inv C s'.heap ρ' obs' → Ext Nil s [] s' ρ' → Q val s') : codeAny (model C.prog C.w) A (.call (.ref a) ⟨vals, []⟩) (Back Q E) s := by
  have hO : ∀ f, Ok (C.at f) K (giOf p) (wdOf p (cfOf p d)) d := fun f => ok_of (C := C.at f) T hK (cx f) fun key a h => all_ok T hK cx d f key a ((show FnAt C p a key from fun z hz => ⟨⟨(h z hz).1.fn⟩, (h z hz).2⟩))
  have e : cfOf p (d + 1) (.fn x) = (match (fnsOf p).find? (fun f => f.key.beq (.fn x)) with
    | some f => f.sem (wdOf p (cfOf p d)) (giOf p) false
    | none => fun _ => stuck) := rfl
  rw [e] at hrun
  cases hf : (fnsOf p).find? (fun f => f.key.beq (.fn x)) with
  | none => rw [hf] at hrun; cases hrun
  | some f =>
    rw [hf] at hrun
    obtain ⟨h1, h2⟩ := hfa f hf
    have e2 : f.sem (wdOf p (cfOf p d)) (giOf p) false = (match dSs (wdOf p (cfOf p d)) (giOf p) (mutSs f.body) f.scope (slotsOf f.scope) f.body with
      | some l => runFn f.key.raw f.params.length (slotsOf f.scope).length (seqS l)
      | none => fun _ => stuck) := rfl
    dsimp only at hrun
    rw [e2] at hrun
    cases hl : dSs (wdOf p (cfOf p d)) (giOf p) (mutSs f.body) f.scope (slotsOf f.scope) f.body with
    | none => rw [hl] at hrun; cases hrun
    | some l =>
      rw [hl] at hrun
      dsimp only at hrun
      refine call_gen (Φ := fun s ρ st => Inv C s.heap ρ st.obs) (fun _ _ _ h => h) (fun s ρ st s' ρ' obs' h e I => I) (cx C.off).lim h1 h2 (fun env g hE => snd_seq (dSs_ok hO (f := g) hE f.body hl)) (raw := f.key.raw) default vs vals s [] ⟨[], []⟩ hv A Q E (fun _ _ => False) hA ?_ ?_ (fun _ _ _ _ _ h _ => h.elim)
      · show Inv C s.heap [] []
        rw [hs]; exact inv_start C hoff
      · unfold wpM
        rw [hrun]
        exact fun val s' ρ' r I e => hQ val s' ρ' r I e
theorem ints_vr {C : Cx} {h : Heap} {ρ : List Addr} : ∀ {vs : List Value} {xs : List Int}, IntsAre vs xs → VRs C h ρ (xs.map .int) vs
  | _, _, .nil => by simp only [List.map, vS0, vS1]
  | _, _, .cons n t r => by
    simp only [List.map, vS0, vS1]
    exact ⟨_, _, rfl, ⟨t, rfl⟩, ints_vr r⟩
theorem script_vr {C : Cx} (hoff : ∀ a, ¬ C.off a) {L : Addr} {vs : List Value} {xs : List Int} {h : Heap} (hL : h.IsList L vs.toArray) (hi : IntsAre vs xs) : VRs C h [] [.alist (xs.map .int)] [.ref L] := by
  simp only [vS0, vS1, vR0, vR1, vR2, vR3, vR4, vR5, vR6, vR7, vR8, vR9, vR10, vR11, vR12, vR13]
  exact ⟨_, _, rfl, ⟨L, _, rfl, hL, ⟨by simp, hoff L⟩, by simpa using ints_vr hi⟩, rfl⟩
theorem weight_int {i : Int} : PyData.weight (.int i) ≤ i.natAbs.log2 + 1 ∧ i.natAbs.log2 ≤ PyData.weight (.int i) := by
  unfold PyData.weight
  by_cases h : i = 0
  · subst h; simp
  · have : (i == 0) = false := by simpa using h
    rw [this]; simp
theorem weight_mem : ∀ {xs : List Int} {x : Int}, x ∈ xs → PyData.weight (.int x) ≤ PyData.weightAll (xs.map .int)
  | y :: xs, x, h => by
    simp only [List.map, PyData.weightAll]
    cases h with
    | head => omega
    | tail _ h => have := weight_mem h; omega
theorem lay_log {xs : List Int} (h : (PyData.list (xs.map .int)).layable0 = true) : ∀ x ∈ xs, x.natAbs.log2 < 1048577 := by
  intro x hx
  unfold PyData.layable0 at h
  rw [Bool.and_eq_true, decide_eq_true_eq] at h
  have h1 := weight_mem hx
  have h2 := (weight_int (i := x)).2
  have h4 : PyData.weightAll (xs.map .int) ≤ 1048576 := h.2
  omega
theorem caller_ok {d : Nat} (h : d ≤ 60) : AOk2 d callerA := ⟨by show 1 + claimMargin + 3 * d + 4 ≤ 990; unfold claimMargin; omega, by show 4 + 100 * d + 250 ≤ 9900; omega, rfl, rfl⟩
/- a law: what is left of its statement once its text is run -/
theorem close_law {p : List Stmt} {K : Frag} (hT : TopOk K p) (hadr : (gAddr K (nm "law")).isSome = true) {w : World} {s₁ : Shared} {mg mb : Str → Option Value} {loose : List Str} {view : Program} {mean : ExcName → Option Value} {fa L : Addr} {vs : List Value} {xs : List Int} (KX : K.In s₁.heap) (T : Top view loose mean mg mb s₁.heap) (hmg : mg (nm "law") = some (.ref fa)) (hg : s₁.gens = #[])
    (hL : s₁.heap.IsList L vs.toArray) (hI : IntsAre vs xs) {d : Nat} (hd : d ≤ 50) (hrun : ∃ obs', cfOf p (d + 1) (.fn (nm "law")) [.alist (xs.map .int)] ⟨[], []⟩ = .ok (.bool true) ⟨[], obs'⟩) {prog : Program} {Z : Result → Shared → Prop}
    (hZ : ∀ s', (∀ b o, s₁.heap.get? b = some o → s'.heap.get? b = some o) → s'.os = s₁.os → s'.gens = #[] → Z (.ok (.ret (.bool true))) s') :
    codeAny (model prog w) callerA (.call (.ref fa) ⟨[.ref L], []⟩) Z s₁ := by
  let C : Cx := ⟨prog, w, s₁.heap, mg, mb, fun _ => False⟩
  have cx : ∀ f, CxOk (C.at f) (giOf p) := fun f => cxOk (C := C.at f) hT KX T.g T.b T.nolimit T.builtins
  obtain ⟨a, ha⟩ := Option.isSome_iff_exists.mp hadr
  have e := mg_of KX T.g (gAddr_some ha)
  rw [hmg] at e
  cases e
  obtain ⟨obs', hrun⟩ := hrun
  refine codeAny_mono (run_law (C := C) hT KX cx (fun _ q => q) (d := d) (hT.fnAt KX (key := .fn (nm "law")) ha) (s := s₁) rfl (script_vr (C := C) (fun _ q => q) hL hI) hrun (caller_ok (by omega)) (Q := fun v s' => Z (.ok (.ret v)) s') (E := fun _ _ => False) fun val s' ρ' hv I e => ?_) fun r s' z => ?_
  · simp only [vR0, vR1, vR2, vR3, vR4, vR5, vR6, vR7, vR8, vR9, vR10, vR11, vR12, vR13] at hv
    subst hv
    exact hZ s' I.base e.os (e.gens.trans hg)
  · rcases r with e | (v | _ | _ | _) <;> first | exact z | exact z.elim
noncomputable def nameLine : Stmt → Bool
  | .Assign [.Name x _] _ _ => x == nm "__name__"
  | _ => false
noncomputable def viewOf (p : Program) : Program := { p with main := { p.main with body := p.main.body.filter fun s => !nameLine s } }
/- the part of a heap that is looked at: all of it -/
noncomputable def fragAll (h : Heap) : Frag := (List.range h.objs.size).filterMap fun a => (h.get? a).map fun o => (a, o)
theorem fragAll_in (h : Heap) : (fragAll h).In h := by
  intro a o e
  have hm := lookup_mem e
  unfold fragAll at hm
  obtain ⟨b, _, hb⟩ := List.mem_filterMap.mp hm
  obtain ⟨o', h1, h2⟩ := Option.map_eq_some_iff.mp hb
  cases h2
  exact h1
/- what is read off the heap at the top's end -/
noncomputable def topB (p : List Stmt) (K : Frag) : Bool := (fnsOf p).all (fnB K) && (fnsOf p).all (keyB K) && (giOf p).consts.all (constB K) && (giOf p).clss.all (fun x => (gAddr K x).isSome) && bltTab.all (bltB K (giOf p)) && (K.lookup sysModules).isSome && (gAddr K (nm "law")).isSome
noncomputable def topHook (p : List Stmt) : Hook where
  α := Bool × List (Option (Scope × FuncBody))
  obs := fun s => (topB p (fragAll s.heap), (fnsOf p).map (fnShape (fragAll s.heap)))
  val := fun _ => (true, (fnsOf p).map wantShape)
  says := fun _ h => ∃ K : Frag, K.In h ∧ TopOk K p ∧ (gAddr K (nm "law")).isSome = true
  of := fun w s e => by
    have e1 := congrArg Prod.fst e
    have e2 := congrArg Prod.snd e
    dsimp only at e1 e2
    unfold topB at e1
    simp only [Bool.and_eq_true] at e1
    obtain ⟨⟨⟨⟨⟨⟨b1, b2⟩, b3⟩, b4⟩, b5⟩, b7⟩, b6⟩ := e1
    exact ⟨fragAll s.heap, fragAll_in _, ⟨e2, b1, b2, b3, b4, b5, b7⟩, b6⟩
  keeps := fun w h h' ⟨K, h1, h2⟩ hk => ⟨K, h1.keeps hk, h2⟩
end Mine
set_option autoImplicit false
set_option linter.unusedVariables false
namespace Mine
open PySem

/- evaluation, step by step -/
noncomputable def Out.bind {α β : Type} : Out α → (α → M β) → Out β
  | .ok a s, f => f a s
  | .exc c s, _ => .exc c s
  | .stuck, _ => .stuck
section
variable {α β : Type}
@[simp] theorem Out.bind_ok (a : α) (s : St) (f : α → M β) : (Out.ok a s).bind f = f a s := id rfl
@[simp] theorem ev_bind (m : M α) (f : α → M β) (st : St) : M.bind m f st = (m st).bind f := by unfold M.bind Out.bind; cases m st <;> rfl
@[simp] theorem ev_pure (a : α) (st : St) : M.pure a st = .ok a st := id rfl
@[simp] theorem ev_const (v : V) (st : St) : constM v st = .ok v st := id rfl
@[simp] theorem ev_var (i : Nat) (vars : List (Option V)) (obs : List Ob) : varM i ⟨vars, obs⟩ = match vars[i]? with
  | some (some v) => .ok v ⟨vars, obs⟩
  | _ => .stuck := id rfl
@[simp] theorem ev_ite (c : Prop) [Decidable c] (m n : M α) (st : St) : (if c then m else n) st = if c then m st else n st := by split <;> rfl
@[simp] theorem ev_bin (op : Operator) (a b : M V) (st : St) : (binM op a b) st = (a.bind fun x => b.bind fun y => binV op x y) st := rfl
@[simp] theorem ev_setVar (i : Nat) (v : V) (vars : List (Option V)) (obs : List Ob) : setVar i v ⟨vars, obs⟩ = if i < vars.length then .ok () ⟨vars.set i (some v), obs⟩ else .stuck := id rfl
@[simp] theorem ev_seqS_nil (st : St) : seqS [] st = .ok .next st := rfl
noncomputable def seqK (r : List (M Flow)) : Flow → M Flow
  | .next => seqS r
  | .ret v => M.pure (.ret v)
@[simp] theorem seqK_next (r : List (M Flow)) : seqK r .next = seqS r := rfl
@[simp] theorem seqK_ret (r : List (M Flow)) (v : V) : seqK r (.ret v) = M.pure (.ret v) := rfl
@[simp] theorem ev_seqS_cons (m : M Flow) (r : List (M Flow)) (st : St) : (seqS (m :: r)) st = (m.bind (seqK r)) st := rfl
@[simp] theorem ev_assign (t : Tg) (m : M V) (st : St) : (assignM t m) st = (m.bind fun v => (asg t v).bind fun _ => M.pure .next) st := rfl
@[simp] theorem ev_asg_var (i : Nat) (v : V) (st : St) : (asg (.var i) v) st = (setVar i v) st := rfl
@[simp] theorem ev_asg_tup (is : List Nat) (vs : List V) (st : St) : (asg (.tup is) (.tuple vs)) st = (setVars is vs) st := rfl
@[simp] theorem ev_setVars_cons (i : Nat) (is : List Nat) (v : V) (vs : List V) (st : St) : (setVars (i :: is) (v :: vs)) st = ((setVar i v).bind fun _ => setVars is vs) st := rfl
@[simp] theorem ev_setVars_nil   (st : St) : (setVars [] []) st = (M.pure ()) st := rfl
@[simp] theorem ev_ret (m : M V) (st : St) : (retM m) st = (m.bind fun v => M.pure (.ret v)) st := rfl
@[simp] theorem ev_expr (m : M V) (st : St) : (exprM m) st = (m.bind fun _ => M.pure .next) st := rfl
@[simp] theorem ev_app (f : List V → M V) (args : List (M V)) (st : St) : (appM f args) st = ((seqM args).bind f) st := rfl
@[simp] theorem ev_seqM_nil (st : St) : seqM ([] : List (M α)) st = .ok [] st := rfl
@[simp] theorem ev_seqM_cons (m : M α) (r : List (M α)) (st : St) : (seqM (m :: r)) st = (m.bind fun v => (seqM r).bind fun vs => M.pure (v :: vs)) st := rfl
@[simp] theorem ev_meth (pick : V → M (List V → M V)) (o : M V) (args : List (M V)) (st : St) : (methM pick o args) st = (o.bind fun v => (pick v).bind fun f => (seqM args).bind fun vs => f (v :: vs)) st := rfl
@[simp] theorem ev_listM (es : List (M V)) (st : St) : (listM es) st = ((seqM es).bind allocL) st := rfl
@[simp] theorem ev_tupM (es : List (M V)) (st : St) : (tupM es) st = ((seqM es).bind tupL) st := rfl
@[simp] theorem ev_evB (m : M V) (st : St) : (evB m) st = (m.bind asBool) st := rfl
@[simp] theorem ev_boolV (m : M Bool) (st : St) : (boolV m) st = (m.bind fun b => M.pure (.bool b)) st := rfl
@[simp] theorem ev_and_nil   (st : St) : (andM []) st = (M.pure true) st := rfl
@[simp] theorem ev_and_cons (m : M Bool) (r : List (M Bool)) (st : St) : (andM (m :: r)) st = (m.bind fun b => if b then andM r else M.pure false) st := rfl
@[simp] theorem ev_or_nil   (st : St) : (orM []) st = (M.pure false) st := rfl
@[simp] theorem ev_or_cons (m : M Bool) (r : List (M Bool)) (st : St) : (orM (m :: r)) st = (m.bind fun b => if b then M.pure true else orM r) st := rfl
@[simp] theorem ev_not (m : M Bool) (st : St) : (notM m) st = (m.bind fun b => M.pure !b) st := rfl
@[simp] theorem ev_iteM (t : M Bool) (a b : M α) (st : St) : (iteM t a b) st = (t.bind fun x => if x then a else b) st := rfl
@[simp] theorem ev_asBool (b : Bool) (st : St) : (asBool (.bool b)) st = (M.pure b) st := id rfl
@[simp] theorem ev_asInt (b : Int) (st : St) : (asInt (.int b)) st = (M.pure b) st := id rfl
@[simp] theorem ev_add_int (a b : Int) (st : St) : (binV .Add (.int a) (.int b)) st = (M.pure (.int (a + b))) st := id rfl
@[simp] theorem ev_add_flist (a b : List V) (st : St) : (binV .Add (.flist a) (.flist b)) st = (allocL (a ++ b)) st := id rfl
@[simp] theorem ev_sub_int (a b : Int) (st : St) : (binV .Sub (.int a) (.int b)) st = (M.pure (.int (a - b))) st := id rfl
noncomputable def mulG (a b : Int) : Prop := a.natAbs.log2 + b.natAbs.log2 < 67108864
@[simp] theorem ev_mul_int {a b : Int} (h : mulG a b) (st : St) : (binV .Mult (.int a) (.int b)) st = (M.pure (.int (a * b))) st := by rw [show binV .Mult (.int a) (.int b) = M.pure (.int (a * b)) from if_pos h]
noncomputable def heavy (n : Nat) (c : Int) : Prop := c.natAbs.log2 < n
theorem log2_of_lt {n : Nat} {k : Nat} (hk : 0 < k) (h : n < 2 ^ k) : n.log2 < k := by
  by_cases hn : n = 0
  · subst hn; simpa using hk
  · exact (Nat.log2_lt hn).mpr h
theorem lt_of_log2 {n k : Nat} (h : n.log2 < k) : n < 2 ^ k := by
  by_cases hn : n = 0
  · subst hn; exact Nat.pow_pos (by decide)
  · exact (Nat.log2_lt hn).mp h
theorem heavy_add {n : Nat} {a b : Int} (ha : heavy n a) (hb : heavy n b) : heavy (n + 1) (a + b) := by
  have h1 := lt_of_log2 ha
  have h2 := lt_of_log2 hb
  refine log2_of_lt (Nat.succ_pos n) ?_
  rw [Nat.pow_succ]
  omega
theorem heavy_mono {n m : Nat} {a : Int} (h : heavy n a) (hm : n ≤ m) : heavy m a := Nat.lt_of_lt_of_le h hm
theorem heavy_31 {a : Int} (h : -2147483648 < a ∧ a < 2147483648) : heavy 31 a := log2_of_lt (by decide) (by
  have : (2 : Nat) ^ 31 = 2147483648 := by decide
  omega)
theorem mulG_of {n m : Nat} {a b : Int} (ha : heavy n a) (hb : heavy m b) (h : n + m < 67108864) : mulG a b := by
  unfold mulG heavy at *; omega
theorem mulG_nat {a b : Nat} (ha : a ≤ 1000) (hb : b ≤ 1000) : mulG (a : Int) (b : Int) := mulG_of (n := 31) (m := 31) (heavy_31 (by omega)) (heavy_31 (by omega)) (by decide)
theorem fmod_pos {a b : Int} (h : 0 < b) : Int.fmod a b = a % b := Int.fmod_eq_emod_of_nonneg a (Int.le_of_lt h)
theorem fdiv_pos {a b : Int} (h : 0 < b) : Int.fdiv a b = a / b := Int.fdiv_eq_ediv_of_nonneg a (Int.le_of_lt h)
theorem mod_pos' {a b : Int} (h : 0 < b) : binV .Mod (.int a) (.int b) = M.pure (.int (a % b)) := by
  rw [← fmod_pos h]
  exact if_neg (by omega)
@[simp] theorem ev_mod_pos {a b : Int} (h : 0 < b) (st : St) : binV .Mod (.int a) (.int b) st = .ok (.int (a % b)) st := by rw [mod_pos' h]; rfl
theorem div_pos' {a b : Int} (h : 0 < b ∧ b < 1073741824) : binV .FloorDiv (.int a) (.int b) = M.pure (.int (a / b)) := by
  rw [← fdiv_pos h.1]
  exact if_neg (by omega)
@[simp] theorem ev_div_pos {a b : Int} (h : 0 < b ∧ b < 1073741824) (st : St) : binV .FloorDiv (.int a) (.int b) st = .ok (.int (a / b)) st := by rw [div_pos' h]; rfl
@[simp] theorem ev_cmp (a : M V) (r : List (CmpOp × M V)) (st : St) : (cmpM a r) st = (a.bind fun x => chainM x r) st := rfl
@[simp] theorem ev_chain1 (x : V) (op : CmpOp) (m : M V) (st : St) : (chainM x [(op, m)]) st = (m.bind fun y => cmpV op x y) st := rfl
@[simp] theorem ev_chain2 (x : V) (op : CmpOp) (m : M V) (q : CmpOp × M V) (r : List (CmpOp × M V)) (st : St) : (chainM x ((op, m) :: q :: r)) st = (m.bind fun y => (cmpV op x y).bind fun b => if b then chainM y (q :: r) else M.pure false) st := rfl
@[simp] theorem ev_lt (a b : Int) (st : St) : (cmpV .Lt (.int a) (.int b)) st = (M.pure (decide (a < b))) st := id rfl
@[simp] theorem ev_le (a b : Int) (st : St) : (cmpV .LtE (.int a) (.int b)) st = (M.pure (decide (a ≤ b))) st := id rfl
@[simp] theorem ev_gt (a b : Int) (st : St) : (cmpV .Gt (.int a) (.int b)) st = (M.pure (decide (a > b))) st := id rfl
@[simp] theorem ev_ge (a b : Int) (st : St) : (cmpV .GtE (.int a) (.int b)) st = (M.pure (decide (a ≥ b))) st := id rfl
@[simp] theorem ev_eq (a b : V) (st : St) : (cmpV .Eq a b) st = (pyEq a b) st := id rfl
@[simp] theorem ev_ne (a b : V) (st : St) : (cmpV .NotEq a b) st = ((pyEq a b).bind fun x => M.pure !x) st := id rfl
@[simp] theorem ev_in (a b : List Nat) (st : St) : (cmpV .In (.str a) (.str b)) st = (M.pure !(occ b a 1).isEmpty) st := id rfl
@[simp] theorem ev_notin (a b : List Nat) (st : St) : (cmpV .NotIn (.str a) (.str b)) st = ((M.pure (!(occ b a 1).isEmpty)).bind fun x => M.pure !x) st := id rfl
theorem shaped_int (i : Int) : SeqAt.shaped (.int i) = true := rfl
theorem shaped_bool (i : Bool) : SeqAt.shaped (.bool i) = true := rfl
@[simp] theorem ev_eq_int (a b : Int) (st : St) : pyEq (.int a) (.int b) st = .ok (a == b) st := id rfl
@[simp] theorem ev_eq_bool (a b : Bool) (st : St) : pyEq (.bool a) (.bool b) st = .ok (a == b) st := id rfl
@[simp] theorem ev_getOb (a : Nat) (vars : List (Option V)) (obs : List Ob) : getOb a ⟨vars, obs⟩ = match obs[a]? with
  | some o => .ok o ⟨vars, obs⟩
  | none => .stuck := id rfl
@[simp] theorem ev_getList (a : Nat) (vars : List (Option V)) (obs : List Ob) : getList a ⟨vars, obs⟩ = match obs[a]? with
  | some (.list xs) => .ok xs ⟨vars, obs⟩
  | _ => .stuck := by
  unfold getList
  rw [ev_bind, ev_getOb]
  cases obs[a]? with
  | none => rfl
  | some o => cases o <;> rfl
theorem le_lim {n : Nat} (h : n ≤ 1000) : n ≤ lim := by unfold lim; omega
@[simp] theorem ev_allocL {xs : List V} (h : xs.length ≤ 1000) (st : St) : allocL xs st = .ok (.flist xs) st := by
  unfold allocL; rw [if_pos (le_lim h)]; rfl
@[simp] theorem ev_ownL (xs : List V) (st : St) : ownL (.flist xs) st = alloc (.list xs) st := id rfl
@[simp] theorem ev_alloc (o : Ob) (vars : List (Option V)) (obs : List Ob) : alloc o ⟨vars, obs⟩ = .ok (.ref obs.length) ⟨vars, obs ++ [o]⟩ := id rfl
@[simp] theorem ev_tupL {xs : List V} (h : xs.length ≤ 1000) (vars : List (Option V)) (obs : List Ob) : tupL xs ⟨vars, obs⟩ = .ok (.tuple xs) ⟨vars, obs⟩ := by
  unfold tupL; rw [if_pos (le_lim h)]; rfl
@[simp] theorem ev_setOb (a : Nat) (o : Ob) (vars : List (Option V)) (obs : List Ob) : setOb a o ⟨vars, obs⟩ = if a < obs.length then .ok () ⟨vars, obs.set a o⟩ else .stuck := id rfl
@[simp] theorem ev_withObs (f : List Ob → Option α) (vars : List (Option V)) (obs : List Ob) : withObs f ⟨vars, obs⟩ = match f obs with
  | some a => .ok a ⟨vars, obs⟩
  | none => .stuck := id rfl
@[simp] theorem ev_ofOpt (a : α) (st : St) : (ofOpt (some a)) st = (M.pure a) st := id rfl
@[simp] theorem ev_subM (m i : M V) (st : St) : (subM m i) st = (m.bind fun v => i.bind fun k => subV v k) st := rfl
@[simp] theorem ev_sub_str (s : List Nat) (i : Int) (st : St) : (subV (.str s) (.int i)) st = (ofOpt ((idxL s i).map fun c => .str [c])) st := id rfl
@[simp] theorem ev_sub_tuple (s : List V) (i : Int) (st : St) : (subV (.tuple s) (.int i)) st = (ofOpt (idxL s i)) st := id rfl
@[simp] theorem ev_sub_flist (s : List V) (i : Int) (st : St) : (subV (.flist s) (.int i)) st = (ofOpt (idxL s i)) st := id rfl
@[simp] theorem ev_sub_alist (s : List V) (i : Int) (st : St) : (subV (.alist s) (.int i)) st = (ofOpt (idxL s i)) st := id rfl
@[simp] theorem ev_sub_ref (a : Nat) (k : V) (st : St) : (subV (.ref a) k) st = ((getOb a).bind (subO k)) st := id rfl
@[simp] theorem ev_subO_list (xs : List V) (i : Int) (st : St) : subO (.int i) (.list xs) st = (ofOpt (idxL xs i)) st := id rfl
@[simp] theorem ev_len_str (s : List Nat) (st : St) : (fLen [.str s]) st = (lenM s.length) st := id rfl
@[simp] theorem ev_len_flist (s : List V) (st : St) : (fLen [.flist s]) st = (lenM s.length) st := id rfl
@[simp] theorem ev_len_alist (s : List V) (st : St) : (fLen [.alist s]) st = (lenM s.length) st := id rfl
@[simp] theorem ev_len_tuple (s : List V) (st : St) : (fLen [.tuple s]) st = (lenM s.length) st := id rfl
@[simp] theorem ev_len_ref (a : Nat) (st : St) : (fLen [.ref a]) st = ((getList a).bind fun xs => lenM xs.length) st := id rfl
@[simp] theorem ev_lenM {n : Nat} (h : n ≤ 1000) (st : St) : lenM n st = .ok (.int n) st := by unfold lenM; rw [if_pos (le_lim h)]; rfl
@[simp] theorem ev_range1 (n : Int) (st : St) : (fRange [.int n]) st = (if -1000000 ≤ n ∧ n ≤ 1000000 then M.pure (.range 0 n) else stuck) st := id rfl
@[simp] theorem ev_toSrc_range (lo hi : Int) (st : St) : toSrc (.range lo hi) st = if smallR lo hi = true then .ok ⟨(rangeL lo hi).map .int, []⟩ st else .stuck := by
  have e : toSrc (.range lo hi) = withObs fun _ => if smallR lo hi = true then some ⟨(rangeL lo hi).map .int, []⟩ else none := rfl
  rw [e]
  obtain ⟨vars, obs⟩ := st
  unfold withObs
  by_cases h : smallR lo hi = true
  · rw [if_pos h]; simp only [h, if_true]
  · rw [if_neg h, if_neg h]
@[simp] theorem ev_toSrc_str (s : List Nat) (st : St) : toSrc (.str s) st = .ok ⟨charsOf s, []⟩ st := id rfl
@[simp] theorem ev_toSrc_flist (s : List V) (st : St) : toSrc (.flist s) st = .ok ⟨s, []⟩ st := id rfl
@[simp] theorem ev_toSrc_ref (a : Nat) (vars : List (Option V)) (obs : List Ob) : toSrc (.ref a) ⟨vars, obs⟩ = match obs[a]? with
  | some (.list xs) => .ok ⟨xs, [(a, .list xs)]⟩ ⟨vars, obs⟩
  | _ => .stuck := by
  unfold toSrc withObs
  dsimp only
  cases q : obs[a]? with
  | none => rfl
  | some o => cases o <;> rfl
@[simp] theorem ev_enumV (xs : List V) (st : St) : (enumV (.flist xs)) st = .ok ⟨enumFrom 0 xs, []⟩ st := id rfl
@[simp] theorem ev_list_flist (xs : List V) (st : St) : (fList [.flist xs]) st = (allocL xs) st := id rfl
@[simp] theorem ev_list_ref (a : Nat) (st : St) : (fList [.ref a]) st = ((getList a).bind fun xs => allocL xs) st := id rfl
@[simp] theorem ev_pickI_str (s : List Nat) (st : St) : (pickI (.str s)) st = (M.pure mIndex) st := id rfl
@[simp] theorem ev_pickL (f : List V → M V) (a : Nat) (st : St) : (pickL f (.ref a)) st = ((getList a).bind fun _ => M.pure f) st := id rfl
@[simp] theorem ev_pickS (f : List V → M V) (s : List Nat) (st : St) : (pickS f (.str s)) st = (M.pure f) st := id rfl
noncomputable def appS (a : Nat) (v : V) (xs : List V) : M V := if xs.length ≤ lim then (setOb a (.list (xs ++ [v]))).bind fun _ => M.pure .none else stuck
@[simp] theorem ev_appS (a : Nat) (v : V) {xs : List V} (h : xs.length ≤ 1000) (st : St) : (appS a v xs) st = ((setOb a (.list (xs ++ [v]))).bind fun _ => M.pure .none) st := by rw [show appS a v xs = (setOb a (.list (xs ++ [v]))).bind fun _ => M.pure .none from if_pos (le_lim h)]
@[simp] theorem ev_append (a : Nat) (v : V) (st : St) : (mAppend [.ref a, v]) st = ((getList a).bind (appS a v)) st := id rfl
@[simp] theorem ev_isi (v : V) (t : String) (st : St) : (fIsinstance [v, .type t]) st = (withObs fun obs => (kindV obs v).bind fun k => (isiK k t).map .bool) st := id rfl
@[simp] theorem ev_fIsi (v : V) (t : String) (st : St) : fIsi [v, .type t] st = fIsinstance [v, .type t] st := id rfl
@[simp] theorem kind_int (obs : List Ob) (i : Int) : kindV obs (.int i) = some "int" := id rfl
@[simp] theorem kind_bool (obs : List Ob) (i : Bool) : kindV obs (.bool i) = some "bool" := id rfl
@[simp] theorem kind_str (obs : List Ob) (i : List Nat) : kindV obs (.str i) = some "str" := id rfl
@[simp] theorem isi_ii : isiK "int" "int" = some true := id rfl
@[simp] theorem isi_ib : isiK "int" "bool" = some false := id rfl
@[simp] theorem isi_bb : isiK "bool" "bool" = some true := id rfl
@[simp] theorem isi_ss : isiK "str" "str" = some true := id rfl
@[simp] theorem isi_ll : isiK "list" "list" = some true := id rfl
@[simp] theorem kind_flist (obs : List Ob) (xs : List V) : kindV obs (.flist xs) = some "list" := id rfl
theorem kind_list {obs : List Ob} {a : Nat} {xs : List V} (h : obs[a]? = some (.list xs)) : kindV obs (.ref a) = some "list" := by
  show (match obs[a]? with
    | some (.list _) => some "list"
    | _ => none) = _
  rw [h]
@[simp] theorem ev_attrM (W : Wd) (m : M V) (x : Str) (st : St) : (attrM W m x) st = (m.bind (attrV W x)) st := rfl
@[simp] theorem ev_sliceM (m : M V) (lo hi : Option (M V)) (st : St) : (sliceM m lo hi) st = (m.bind fun v => (optI lo).bind fun l => (optI hi).bind fun h => sliceV v l h) st := rfl
@[simp] theorem ev_optI_none   (st : St) : (optI none) st = (M.pure none) st := rfl
@[simp] theorem ev_optI_some (m : M V) (st : St) : (optI (some m)) st = (m.bind fun v => (asInt v).bind fun i => M.pure (some i)) st := rfl
noncomputable def sliS (lo hi : Option Int) (xs : List V) : M V := if xs.length ≤ lim then M.pure (.flist (sliceL xs lo hi)) else stuck
@[simp] theorem ev_sliS (lo hi : Option Int) {xs : List V} (h : xs.length ≤ 1000) (st : St) : (sliS lo hi xs) st = .ok (.flist (sliceL xs lo hi)) st := by rw [show sliS lo hi xs = M.pure (.flist (sliceL xs lo hi)) from if_pos (le_lim h)]; rfl
@[simp] theorem ev_slice_flist (s : List V) (lo hi : Option Int) (st : St) : (sliceV (.flist s) lo hi) st = (sliS lo hi s) st := id rfl
@[simp] theorem ev_slice_alist (s : List V) (lo hi : Option Int) (st : St) : (sliceV (.alist s) lo hi) st = (sliS lo hi s) st := id rfl
@[simp] theorem ev_slice_ref (a : Nat) (lo hi : Option Int) (st : St) : (sliceV (.ref a) lo hi) st = ((getList a).bind (sliS lo hi)) st := id rfl
/- fields of a frozen instance -/
@[simp] theorem ev_attr_inst {W : Wd} {x c : Str} {ns : List Str} {vs : List V} {v : V} (h1 : W.fld c x = true) (h2 : (ns.zip vs).lookup x = some v) (st : St) : attrV W x (.finst c ns vs) st = .ok v st := by
  show (if W.fld c x then ofOpt ((ns.zip vs).lookup x) else stuck) st = _
  rw [if_pos h1, h2]; rfl
@[simp] theorem ev_pick_inst {W : Wd} {x c : Str} {ns : List Str} {vs : List V} (h : (((ns.zip vs).lookup x).isNone && W.has c x) = true) (st : St) : pickO W x (.finst c ns vs) st = .ok (W.cf (.meth c x)) st := by
  show (if ((ns.zip vs).lookup x).isNone && W.has c x then M.pure (W.cf (.meth c x)) else stuck) st = _
  rw [if_pos h]; rfl
/- the end of the ledger -/
@[simp] theorem tl0 (o t : List Ob) (a : Ob) : (o ++ a :: t)[o.length]? = some a := by simp
@[simp] theorem tl1 (o t : List Ob) (a b : Ob) : (o ++ a :: b :: t)[o.length + 1]? = some b := by rw [List.getElem?_append_right (by omega)]; simp
@[simp] theorem tl2 (o t : List Ob) (a b c : Ob) : (o ++ a :: b :: c :: t)[o.length + 2]? = some c := by rw [List.getElem?_append_right (by omega)]; simp
@[simp] theorem tl3 (o t : List Ob) (a b c e : Ob) : (o ++ a :: b :: c :: e :: t)[o.length + 3]? = some e := by rw [List.getElem?_append_right (by omega)]; simp
@[simp] theorem ts0 (o t : List Ob) (a x : Ob) : (o ++ a :: t).set o.length x = o ++ x :: t := by simp
@[simp] theorem ts1 (o t : List Ob) (a b x : Ob) : (o ++ a :: b :: t).set (o.length + 1) x = o ++ a :: x :: t := by rw [List.set_append_right _ _ (by omega)]; simp
end
/- values without references -/
mutual
theorem lt_mono (n : Nat) : ∀ {v : V}, ltV 0 v = true → ltV n v = true
  | .ref i, h => by simp [lR0, lR1, lR2, lR3, lR4, lR5, lR6, lR7, lR8, lR9, lR10, lR11, lR12, lR13] at h
  | .tuple vs, h => by simp only [lR0, lR1, lR2, lR3, lR4, lR5, lR6, lR7, lR8, lR9, lR10, lR11, lR12, lR13] at h ⊢; exact lts_mono n h
  | .flist vs, h => by simp only [lR0, lR1, lR2, lR3, lR4, lR5, lR6, lR7, lR8, lR9, lR10, lR11, lR12, lR13] at h ⊢; exact lts_mono n h
  | .alist vs, h => by simp only [lR0, lR1, lR2, lR3, lR4, lR5, lR6, lR7, lR8, lR9, lR10, lR11, lR12, lR13] at h ⊢; exact lts_mono n h
  | .finst _ _ vs, h => by simp only [lR0, lR1, lR2, lR3, lR4, lR5, lR6, lR7, lR8, lR9, lR10, lR11, lR12, lR13] at h ⊢; exact lts_mono n h
  | .none, _ => by simp only [lR0, lR1, lR2, lR3, lR4, lR5, lR6, lR7, lR8, lR9, lR10, lR11, lR12, lR13]
  | .bool _, _ => by simp only [lR0, lR1, lR2, lR3, lR4, lR5, lR6, lR7, lR8, lR9, lR10, lR11, lR12, lR13]
  | .int _, _ => by simp only [lR0, lR1, lR2, lR3, lR4, lR5, lR6, lR7, lR8, lR9, lR10, lR11, lR12, lR13]
  | .str _, _ => by simp only [lR0, lR1, lR2, lR3, lR4, lR5, lR6, lR7, lR8, lR9, lR10, lR11, lR12, lR13]
  | .range _ _, _ => by simp only [lR0, lR1, lR2, lR3, lR4, lR5, lR6, lR7, lR8, lR9, lR10, lR11, lR12, lR13]
  | .set _, _ => by simp only [lR0, lR1, lR2, lR3, lR4, lR5, lR6, lR7, lR8, lR9, lR10, lR11, lR12, lR13]
  | .exc _, _ => by simp only [lR0, lR1, lR2, lR3, lR4, lR5, lR6, lR7, lR8, lR9, lR10, lR11, lR12, lR13]
  | .own _, _ => by simp only [lR0, lR1, lR2, lR3, lR4, lR5, lR6, lR7, lR8, lR9, lR10, lR11, lR12, lR13]
  | .type _, _ => by simp only [lR0, lR1, lR2, lR3, lR4, lR5, lR6, lR7, lR8, lR9, lR10, lR11, lR12, lR13]
theorem lts_mono (n : Nat) : ∀ {vs : List V}, ltVs 0 vs = true → ltVs n vs = true
  | [], _ => by simp only [lS0, lS1]
  | v :: vs, h => by simp only [lS0, lS1, Bool.and_eq_true] at h ⊢; exact ⟨lt_mono n h.1, lts_mono n h.2⟩
end
theorem lts_all {n : Nat} : ∀ {vs : List V}, ltVs n vs = true ↔ ∀ v ∈ vs, ltV n v = true
  | [] => by simp [lS0, lS1]
  | v :: vs => by simp [lS0, lS1, lts_all (vs := vs)]
theorem lts_map {α : Type} {f : α → V} {n : Nat} (xs : List α) (h : ∀ x ∈ xs, ltV n (f x) = true) : ltVs n (xs.map f) = true := lts_all.mpr fun v hv => by
  obtain ⟨x, hx, rfl⟩ := List.mem_map.mp hv
  exact h x hx
theorem res_pure {n k : Nat} {o : List Ob} {v : V} (h : ltV 0 v = true) : res n o (k + 1) v = some v := by
  unfold res; rw [if_pos (lt_mono n h)]
theorem allO_id {α : Type} {f : α → Option α} : ∀ {l : List α}, (∀ a ∈ l, f a = some a) → allO f l = some l
  | [], _ => rfl
  | a :: l, h => by
    unfold allO
    rw [h a (.head _), allO_id fun b hb => h b (.tail _ hb)]
theorem res_list {n k i : Nat} {o : List Ob} {xs : List V} (hi : n ≤ i) (h : o[i]? = some (.list xs)) (hx : ltVs 0 xs = true) : res n o (k + 2) (.ref i) = some (.flist xs) := by
  unfold res
  rw [if_neg (by simp [lR0, lR1, lR2, lR3, lR4, lR5, lR6, lR7, lR8, lR9, lR10, lR11, lR12, lR13]; omega)]
  simp only [h]
  rw [allO_id fun a ha => res_pure (lts_all.mp hx a ha)]; rfl
theorem res_pair {n k : Nat} {o : List Ob} {a b a' b' : V} (ha : res n o (k + 1) a = some a') (hb : res n o (k + 1) b = some b') : res n o (k + 2) (.tuple [a, b]) = some (.tuple [a', b']) := by
  unfold res
  by_cases h : ltV n (.tuple [a, b]) = true
  · rw [if_pos h]
    simp only [lR0, lR1, lR2, lR3, lR4, lR5, lR6, lR7, lR8, lR9, lR10, lR11, lR12, lR13, lS0, lS1, Bool.and_eq_true] at h
    unfold res at ha hb
    rw [if_pos h.1] at ha
    rw [if_pos h.2.1] at hb
    cases ha; cases hb; rfl
  · rw [if_neg h]
    simp only [allO, ha, hb]; rfl
/- a call that leaves nothing behind -/
theorem run_ok {np n : Nat} {body : M Flow} {args : List V} {vars vars' : List (Option V)} {obs t : List Ob} {fl : Flow} {v : V} (hl : args.length = np) (hb : body ⟨args.map some ++ List.replicate (n - np) none, obs⟩ = .ok fl ⟨vars', obs ++ t⟩) (hr : res obs.length (obs ++ t) 4 (flowV fl) = some v) :
    runFn false np n body args ⟨vars, obs⟩ = .ok v ⟨vars, obs⟩ := by
  unfold runFn runFnS
  rw [if_pos hl, hb]
  have hk : keeps obs (obs ++ t) := .inl (by simp)
  have : settleB false obs (obs ++ t) (flowV fl) = some (v, obs) := by
    show settle obs (obs ++ t) (flowV fl) = _
    unfold settle
    rw [if_pos hk, hr]; simp
  simp only [this]
theorem run_pure {np n : Nat} {body : M Flow} {args : List V} {vars vars' : List (Option V)} {obs : List Ob} {fl : Flow} (hl : args.length = np) (hb : body ⟨args.map some ++ List.replicate (n - np) none, obs⟩ = .ok fl ⟨vars', obs⟩) (hr : ltV 0 (flowV fl) = true) :
    runFn false np n body args ⟨vars, obs⟩ = .ok (flowV fl) ⟨vars, obs⟩ := run_ok (t := []) hl (by rw [List.append_nil]; exact hb) (res_pure hr)
theorem run_raw {np n : Nat} {body : M Flow} {args : List V} {vars vars' : List (Option V)} {obs o' : List Ob} {fl : Flow} (hl : args.length = np) (hb : body ⟨args.map some ++ List.replicate (n - np) none, obs⟩ = .ok fl ⟨vars', o'⟩) :
    runFn true np n body args ⟨vars, obs⟩ = .ok (flowV fl) ⟨vars, o'⟩ := by
  unfold runFn runFnS
  rw [if_pos hl, hb]; rfl
end Mine
set_option autoImplicit false
set_option linter.unusedVariables false
namespace Mine
open PySem
/- what a loop runs over has not changed -/
theorem ev_chk {c : List (Nat × Ob)} {vars : List (Option V)} {obs : List Ob} (h : chkOk c obs) : chkObs c ⟨vars, obs⟩ = .ok () ⟨vars, obs⟩ := if_pos h
noncomputable def ChkP (c : List (Nat × Ob)) (obs : List Ob) : Prop := ∀ vars, chkObs c ⟨vars, obs⟩ = .ok () ⟨vars, obs⟩
theorem ChkP.nil (obs : List Ob) : ChkP [] obs := fun _ => ev_chk fun p hp => (nomatch hp)
theorem ChkP.one {a : Nat} {xs : List V} {obs : List Ob} (h : obs[a]? = some (.list xs)) : ChkP [(a, .list xs)] obs := fun _ => ev_chk fun p hp => by cases List.mem_singleton.mp hp; exact h

/- for -/
theorem forItems_ok {t : Tg} {body : M Flow} {c : List (Nat × Ob)} (I : List V → St → Prop) (hc : ∀ l st, I l st → ChkP c st.obs)
    (hs : ∀ x l st, I (x :: l) st → ∃ st1, ((asg t x).bind fun _ => body) st = .ok .next st1 ∧ I l st1) : ∀ l st, I l st → ∃ st1, forItems t body c l st = .ok .next st1 ∧ I [] st1
  | [], st, h => ⟨st, by
      obtain ⟨vars, obs⟩ := st
      unfold forItems
      rw [ev_bind, hc _ _ h vars]; rfl, h⟩
  | x :: l, st, h => by
    obtain ⟨st1, h1, h2⟩ := hs x l st h
    obtain ⟨st2, h3, h4⟩ := forItems_ok I hc hs l st1 h2
    refine ⟨st2, ?_, h4⟩
    obtain ⟨vars, obs⟩ := st
    unfold forItems
    rw [ev_bind, hc _ _ h vars, Out.bind_ok]
    rw [ev_bind] at h1 ⊢
    cases q : asg t x ⟨vars, obs⟩ with
    | ok a s =>
      rw [q] at h1
      rw [Out.bind_ok] at h1 ⊢
      rw [ev_bind, h1, Out.bind_ok]
      exact h3
    | exc _ _ => rw [q] at h1; cases h1
    | stuck => rw [q] at h1; cases h1
@[simp] theorem ev_for (t : Tg) (src : M Src) (body : M Flow) (st : St) : forM t src body st = (src.bind fun s => forItems t body s.chk s.items) st := id rfl
/- while -/
end Mine
set_option autoImplicit false
set_option linter.unusedVariables false
namespace Mine
open PySem
/- plain data as values -/
structure Dt (α : Type) [DecidableEq α] where
  v : α → V
  d : α → PyData
  P : α → Prop
  dep : Nat
  ok : ∀ obs f a, datV obs f (v a) = some (d a)
  eq : ∀ a b, PyData.eqv (d a) (d b) = decide (a = b)
  lay : ∀ a, P a → (d a).canLay0 = true
  depth : ∀ a, (d a).depth ≤ dep
  pure : ∀ a, ltV 0 (v a) = true
section
variable {α β : Type} [DecidableEq α] [DecidableEq β]
end
noncomputable def Dt.str : Dt (List Nat) where
  v := fun s => .str s
  d := fun s => .str ⟨s.toArray⟩
  P := fun s => ∀ c ∈ s, c < 1114112
  dep := 0
  ok := fun _ _ _ => by simp only [dR0, dR1, dR2, dR3, dR4, dR5, dR6, dR7, dR8, dR9, dR10, dR11, dR12, dR13]
  eq := fun a b => by
    simp only [PyData.eqv]
    rw [Bool.eq_iff_iff]
    simp
  lay := fun x hx => by
    simp only [PyData.canLay0, PyData.strOk, List.size_toArray, List.all_toArray', List.all_eq_true, decide_eq_true_eq]
    exact hx
  depth := fun _ => by simp only [PyData.depth]; exact Nat.le_refl _
  pure := fun _ => by simp only [lR0, lR1, lR2, lR3, lR4, lR5, lR6, lR7, lR8, lR9, lR10, lR11, lR12, lR13]
section
variable {α : Type} [DecidableEq α] (e : Dt α)
theorem Dt.shaped (hd : e.dep ≤ 64) {a : α} (ha : e.P a) : SeqAt.shaped (e.d a) = true := by
  unfold SeqAt.shaped
  rw [e.lay a ha, Bool.true_and, decide_eq_true_eq]
  exact Nat.le_trans (e.depth a) hd
theorem ev_eqD (hd : e.dep ≤ 64) {a b : α} (ha : e.P a) (hb : e.P b) (st : St) : pyEq (e.v a) (e.v b) st = .ok (decide (a = b)) st := by
  obtain ⟨vars, obs⟩ := st
  have : eqO obs (e.v a) (e.v b) = some (decide (a = b)) := by
    unfold eqO dat
    simp only [e.ok, e.shaped hd ha, e.shaped hd hb, Bool.and_self, if_true, e.eq]
  unfold pyEq
  rw [ev_withObs, this]
end
end Mine
set_option autoImplicit false
set_option linter.unusedVariables false
set_option linter.unusedSimpArgs false
namespace Mine
open PySem
/- signs and words -/
theorem at_one {s : List Nat} {c i : Nat} (h : StrLaws.At ⟨s.toArray⟩ ⟨[c].toArray⟩ s.length i) : s[i]? = some c := by
  have := (StrLaws.subAt_one ⟨s.toArray⟩ c i).mp (by
    have e : (⟨s.toArray⟩ : Str).length = s.length := by show s.toArray.size = _; simp
    rw [e]; exact h)
  simpa using this
theorem occ_is (s : List Nat) (c n : Nat) : ∃ f, StrLaws.ChainTo ⟨s.toArray⟩ ⟨[c].toArray⟩ s.length 0 (occ s [c] n) f := by
  have e : (⟨s.toArray⟩ : Str).length = s.length := by show s.toArray.size = _; simp
  have := StrLaws.occ_chain ⟨s.toArray⟩ ⟨[c].toArray⟩ n
  rw [e] at this
  exact this
theorem occ_found {s : List Nat} {c : Nat} : (occ s [c] 1).isEmpty = !decide (c ∈ s) := by
  have e : (⟨s.toArray⟩ : Str).length = s.length := by show s.toArray.size = _; simp
  have := StrLaws.found_one ⟨s.toArray⟩ c
  rw [e] at this
  unfold occ
  show (Builtin.Str.occurrences ⟨s.toArray⟩ ⟨#[c]⟩ 0 s.length 1).isEmpty = _
  have h2 : (c ∈ (⟨s.toArray⟩ : Str).cps.toList) ↔ c ∈ s := by simp
  rw [← Bool.not_not (List.isEmpty _), this]
theorem occ_first {s : List Nat} {c : Nat} (h : c ∈ s) : ∃ i r, occ s [c] 1 = i :: r ∧ i < s.length := by
  have h1 : (occ s [c] 1).isEmpty = false := by rw [occ_found]; simp [h]
  cases q : occ s [c] 1 with
  | nil => rw [q] at h1; cases h1
  | cons i r =>
    obtain ⟨f, hf⟩ := occ_is s c 1
    rw [q] at hf
    exact ⟨i, r, rfl, (List.getElem?_eq_some_iff.mp (at_one hf.2.1)).1⟩
theorem occ_once {s : List Nat} {c n : Nat} (h : s.Nodup) : (occ s [c] n).length ≤ 1 := by
  obtain ⟨f, hf⟩ := occ_is s c n
  match q : occ s [c] n with
  | [] => simp
  | [_] => simp
  | i :: j :: r =>
    rw [q] at hf
    have h1 := at_one hf.2.1
    have h2 := at_one hf.2.2.2.1
    have h3 : i + 1 ≤ j := hf.2.2.1
    obtain ⟨l1, e1⟩ := List.getElem?_eq_some_iff.mp h1
    have := (List.getElem?_inj l1 h).mp (h1.trans h2.symm)
    omega
noncomputable def idxC (s : List Nat) (c : Nat) : Nat := (occ s [c] 1).headD 0
theorem idxC_lt {s : List Nat} {c : Nat} (h : c ∈ s) : idxC s c < s.length := by
  obtain ⟨i, r, h1, h2⟩ := occ_first h
  unfold idxC; rw [h1]; exact h2
theorem ev_index {s : List Nat} {c : Nat} (h : c ∈ s) : mIndex [.str s, .str [c]] = M.pure (.int (idxC s c)) := by
  obtain ⟨i, r, h1, h2⟩ := occ_first h
  unfold mIndex idxC
  simp only [h1]; rfl
structure SignsP (s : List Nat) : Prop where
  one : 1 ≤ s.length
  three : s.length ≤ 3
  az : ∀ c ∈ s, 97 ≤ c ∧ c ≤ 122
  nd : s.Nodup
noncomputable def letters : List Nat := [97, 98, 99, 100, 101, 102, 103, 104, 105, 106, 107, 108, 109, 110, 111, 112, 113, 114, 115, 116, 117, 118, 119, 120, 121, 122]
theorem letters_all : ∀ k : Fin 26, letters[k.1]? = some (97 + k.1) := by decide +kernel
theorem in_letters {c : Nat} (h : 97 ≤ c ∧ c ≤ 122) : (occ letters [c] 1).isEmpty = false := by
  rw [occ_found]
  have := letters_all ⟨c - 97, by omega⟩
  have e : 97 + (c - 97) = c := by omega
  rw [e] at this
  simp [List.mem_of_getElem? this]
/- joining signs -/
theorem strs_chars : ∀ s : List Nat, strsOf (s.map fun c => V.str [c]) = some (s.map fun c => [c])
  | [] => rfl
  | c :: s => congrArg (Option.map ([c] :: ·)) (strs_chars s)
theorem fold_chars : ∀ (s : List Nat) (a : Array Nat), ((s.map fun c => mkS [c]).foldl (fun acc p => acc ++ (mkS []).cps ++ p.cps) a).toList = a.toList ++ s
  | [], a => by simp
  | c :: s, a => by
    simp only [List.map, List.foldl, fold_chars s]
    simp [mkS]
theorem join_chars (s : List Nat) : (Txt.join (mkS []) (s.map fun c => mkS [c])).cps.toList = s := by
  cases s with
  | nil => rfl
  | cons c s =>
    show (List.foldl (fun acc p => acc ++ (mkS []).cps ++ p.cps) (mkS [c]).cps (s.map fun c => mkS [c])).toList = _
    rw [fold_chars]; rfl
theorem joinOk_chars {s : List Nat} (h : s.length ≤ 1000) : JoinOk (mkS []) (s.map fun c => mkS [c]) = true := by
  unfold JoinOk
  rw [StrLaws.joinTotal]
  have e1 : ∀ s : List Nat, ((s.map fun c => mkS [c]).map (·.length)).sum = s.length := by
    intro s
    induction s with
    | nil => rfl
    | cons c s ih => simp only [List.map, List.sum_cons, ih]; show 1 + _ = _ + 1; omega
  have e2 : (mkS []).length = 0 := rfl
  rw [e1, e2]
  simp only [Builtin.Str.tooLong, Bool.not_eq_true', decide_eq_false_iff_not, Nat.not_lt, Nat.mul_zero, Nat.add_zero]
  show s.length ≤ 16777216
  omega
theorem ev_join {s : List Nat} (hl : s.length ≤ 1000) (st : St) : mJoin [.str [], .flist (s.map fun c => V.str [c])] st = .ok (.str s) st := by
  show ((listOf (.flist (s.map fun c => V.str [c]))).bind fun xs => (ofOpt (strsOf xs)).bind fun ws => if JoinOk (mkS []) (ws.map mkS) then M.pure (V.str (Txt.join (mkS []) (ws.map mkS)).cps.toList) else stuck) _ = _
  have e : (s.map fun c => [c]).map mkS = s.map fun c => mkS [c] := by simp
  show ((ofOpt (strsOf (s.map fun c => V.str [c]))).bind fun ws => if JoinOk (mkS []) (ws.map mkS) then M.pure (V.str (Txt.join (mkS []) (ws.map mkS)).cps.toList) else stuck) st = _
  rw [strs_chars, ev_bind, ev_ofOpt, ev_pure, Out.bind_ok, e, if_pos (joinOk_chars hl), join_chars]; rfl
theorem range_nat (n : Nat) : (rangeL 0 n).map V.int = (List.range n).map fun (k : Nat) => V.int k := by
  unfold rangeL
  simp only [List.map_map, Int.sub_zero, Int.toNat_natCast]
  apply List.map_congr_left
  intro k _
  simp
theorem small_small {hi : Int} (h1 : -1000 ≤ hi) (h2 : hi ≤ 1000) : smallR 0 hi = true := by
  unfold smallR
  simp only [Bool.and_eq_true, decide_eq_true_eq]
  omega
theorem idx_nat {α : Type} {xs : List α} {k : Nat} {v : α} (h : xs[k]? = some v) (hl : xs.length ≤ 1000) : idxL xs (k : Int) = some v := by
  have hk : k < xs.length := (List.getElem?_eq_some_iff.mp h).1
  unfold idxL big
  rw [if_pos (by omega), if_pos (by omega)]
  simpa using h
theorem idx_letters {m : Int} (h : 0 ≤ m ∧ m < 26) : idxL letters m = some (97 + m.toNat) := by
  have := letters_all ⟨m.toNat, by omega⟩
  have e : idxL letters ((m.toNat : Nat) : Int) = some (97 + m.toNat) := idx_nat this (by decide)
  rw [Int.toNat_of_nonneg h.1] at e
  exact e
end Mine
set_option autoImplicit false
set_option maxRecDepth 100000
set_option linter.unusedVariables false
namespace Mine
open PySem
noncomputable def p1 : List Stmt := PySem.Challenge.pw_uf020027_04.main.body
noncomputable def bd_is_signs_1 (d : Nat) : M Flow := seqS [iteM (orM [cmpM (varM 1) [(.NotIn, constM (.str [97, 98, 99, 100, 101, 102, 103, 104, 105, 106, 107, 108, 109, 110, 111, 112, 113, 114, 115, 116, 117, 118, 119, 120, 121, 122]))], cmpM (methM (pickS mCount) (varM 0) [varM 1]) [(.Gt, constM (.int 1))]]) (seqS [retM (constM (.bool false))]) (seqS [])]
/- 0 thing, 1 sign -/
theorem cf_is_signs (d : Nat) : cfOf p1 (d + 1) (.fn (nm "is_signs")) = runFn false 1 2 (
  seqS [iteM (orM [notM (evB (appM fIsi [varM 0, constM (.type "str")])), notM (cmpM (constM (.int 1)) [(.LtE, appM fLen [varM 0]), (.LtE, constM (.int 3))])]) (seqS [retM (constM (.bool false))]) (seqS []),
    forM (.var 1) ((varM 0).bind toSrc) (bd_is_signs_1 d),
    retM (constM (.bool true))]) := rfl
noncomputable def bd_is_word_1 (d : Nat) : M Flow := seqS [iteM (cmpM (varM 2) [(.NotIn, varM 0)]) (seqS [retM (constM (.bool false))]) (seqS [])]
/- 0 signs, 1 thing, 2 sign -/
/- 0 thing, 1 many -/
theorem cf_is_room (d : Nat) : cfOf p1 (d + 1) (.fn (nm "is_room")) = runFn false 2 2 (
  seqS [retM (boolV (andM [evB (appM fIsi [varM 0, constM (.type "int")]), evB (boolV (notM (evB (appM fIsi [varM 0, constM (.type "bool")])))), evB (boolV (cmpM (constM (.int 0)) [(.LtE, varM 0), (.Lt, varM 1)]))]))]) := rfl
noncomputable def bd_is_row_1 (d : Nat) : M Flow := seqS [iteM (notM (evB (appM (cfOf p1 d (.fn (nm "is_room"))) [varM 3, varM 2]))) (seqS [retM (constM (.bool false))]) (seqS [])]
/- 0 thing, 1 signs, 2 many, 3 room -/
theorem cf_is_row (d : Nat) : cfOf p1 (d + 1) (.fn (nm "is_row")) = runFn false 3 4 (
  seqS [iteM (orM [notM (evB (appM fIsi [varM 0, constM (.type "list")])), cmpM (appM fLen [varM 0]) [(.NotEq, appM fLen [varM 1])]]) (seqS [retM (constM (.bool false))]) (seqS []),
    forM (.var 3) ((varM 0).bind toSrc) (bd_is_row_1 d),
    retM (constM (.bool true))]) := rfl
noncomputable def bd_makes_machine_1 (d : Nat) : M Flow := seqS [iteM (notM (evB (appM (cfOf p1 d (.fn (nm "is_row"))) [varM 3, varM 0, appM fLen [varM 1]]))) (seqS [retM (constM (.bool false))]) (seqS [])]
noncomputable def bd_makes_machine_2 (d : Nat) : M Flow := seqS [iteM (notM (evB (appM fIsi [varM 4, constM (.type "bool")]))) (seqS [retM (constM (.bool false))]) (seqS [])]
/- 0 signs, 1 rows, 2 ends, 3 row, 4 end -/
theorem cf_makes_machine (d : Nat) : cfOf p1 (d + 1) (.fn (nm "makes_machine")) = runFn false 3 5 (
  seqS [iteM (orM [notM (evB (appM (cfOf p1 d (.fn (nm "is_signs"))) [varM 0])), notM (evB (appM fIsi [varM 1, constM (.type "list")])), notM (evB (appM fIsi [varM 2, constM (.type "list")]))]) (seqS [retM (constM (.bool false))]) (seqS []),
    iteM (orM [notM (cmpM (constM (.int 1)) [(.LtE, appM fLen [varM 1]), (.LtE, constM (.int 20))]), cmpM (appM fLen [varM 2]) [(.NotEq, appM fLen [varM 1])]]) (seqS [retM (constM (.bool false))]) (seqS []),
    forM (.var 3) ((varM 1).bind toSrc) (bd_makes_machine_1 d),
    forM (.var 4) ((varM 2).bind toSrc) (bd_makes_machine_2 d),
    retM (constM (.bool true))]) := rfl
noncomputable def bd_Machine___init___1 (d : Nat) : M V := appM fList [varM 4]
/- 0 self, 1 signs, 2 rows, 3 ends -/
theorem cf_Machine___init__ (d : Nat) : cfOf p1 (d + 1) (.meth (nm "Machine") (nm "__init__")) = runFn true 4 4 (
  seqS [iteM (notM (evB (appM (cfOf p1 d (.fn (nm "makes_machine"))) [varM 1, varM 2, varM 3]))) (seqS [raiseM (nm "BadMachine")]) (seqS []),
    setAttrM (wdOf p1 (cfOf p1 d)) (varM 0) (nm "signs") (varM 1),
    setAttrM (wdOf p1 (cfOf p1 d)) (varM 0) (nm "ways") (compM 4 1 ((varM 2).bind toSrc) (.var 4) (andM []) (bd_Machine___init___1 d)),
    setAttrM (wdOf p1 (cfOf p1 d)) (varM 0) (nm "finals") (appM fList [varM 3])]) := rfl
/- 0 self -/
noncomputable def bd_Machine_rows_1 (d : Nat) : M V := appM fList [varM 1]
/- 0 self -/
theorem cf_Machine_rows (d : Nat) : cfOf p1 (d + 1) (.meth (nm "Machine") (nm "rows")) = runFn false 1 1 (
  seqS [retM (compM 1 1 ((attrM (wdOf p1 (cfOf p1 d)) (varM 0) (nm "ways")).bind toSrc) (.var 1) (andM []) (bd_Machine_rows_1 d))]) := rfl
/- 0 self -/
theorem cf_Machine_ends (d : Nat) : cfOf p1 (d + 1) (.meth (nm "Machine") (nm "ends")) = runFn false 1 1 (
  seqS [retM (appM fList [attrM (wdOf p1 (cfOf p1 d)) (varM 0) (nm "finals")])]) := rfl
noncomputable def bd_Machine_goes_1 (d : Nat) : M Flow := seqS [assignM (.var 2) (subM (subM (attrM (wdOf p1 (cfOf p1 d)) (varM 0) (nm "ways")) (varM 2)) (methM pickI (attrM (wdOf p1 (cfOf p1 d)) (varM 0) (nm "signs")) [varM 3]))]
/- 0 self, 1 word, 2 room, 3 sign -/
/- 0 self, 1 word -/
noncomputable def bd_parting_1 (d : Nat) : M Bool := cmpM (varM 6) [(.Lt, appM fLen [varM 4])]
noncomputable def bd_parting_2 (d : Nat) : M Flow := seqS [iteM (cmpM (tupM [varM 11, varM 12]) [(.NotIn, varM 5)]) (seqS [setSubM (varM 5) (tupM [varM 11, varM 12]) (constM (.bool true)),
    exprM (methM (pickL mAppend) (varM 4) [tupM [varM 11, varM 12, binM .Add (varM 9) (varM 10)]])]) (seqS [])]
noncomputable def bd_parting_3 (d : Nat) : M Flow := seqS [assignM (.tup [7, 8, 9]) (subM (varM 4) (varM 6)),
  assignM (.var 6) (binM .Add (varM 6) (constM (.int 1))),
  iteM (cmpM (subM (subM (varM 3) (constM (.int 0))) (varM 7)) [(.NotEq, subM (subM (varM 3) (constM (.int 1))) (varM 8))]) (seqS [retM (varM 9)]) (seqS []),
  forM (.tup [10, 11, 12]) (zipM3 (attrM (wdOf p1 (cfOf p1 d)) (varM 0) (nm "signs")) (subM (subM (varM 2) (constM (.int 0))) (varM 7)) (subM (subM (varM 2) (constM (.int 1))) (varM 8))) (bd_parting_2 d)]
/- 0 one, 1 other, 2 rows, 3 ends, 4 waiting, 5 met, 6 at, 7 first, 8 second, 9 word, 10 sign, 11 left, 12 right -/
theorem cf_parting (d : Nat) : cfOf p1 (d + 1) (.fn (nm "parting")) = runFn false 2 13 (
  seqS [iteM (cmpM (attrM (wdOf p1 (cfOf p1 d)) (varM 0) (nm "signs")) [(.NotEq, attrM (wdOf p1 (cfOf p1 d)) (varM 1) (nm "signs"))]) (seqS [raiseM (nm "BadMachine")]) (seqS []),
    assignM (.var 2) (listM [methM (pickO (wdOf p1 (cfOf p1 d)) (nm "rows")) (varM 0) [], methM (pickO (wdOf p1 (cfOf p1 d)) (nm "rows")) (varM 1) []]),
    assignM (.var 3) (listM [methM (pickO (wdOf p1 (cfOf p1 d)) (nm "ends")) (varM 0) [], methM (pickO (wdOf p1 (cfOf p1 d)) (nm "ends")) (varM 1) []]),
    assignM (.var 4) ((listM [tupM [constM (.int 0), constM (.int 0), constM (.str [])]]).bind ownL),
    assignM (.var 5) (pset1M (tupM [constM (.int 0), constM (.int 0)]) (constM (.bool true))),
    assignM (.var 6) (constM (.int 0)),
    whileM (bd_parting_1 d) (bd_parting_3 d),
    retM (constM .none)]) := rfl
/- 0 _law_script, 1 _law_k -/
theorem cf__law_cell_at (d : Nat) : cfOf p1 (d + 1) (.fn (nm "_law_cell_at")) = runFn false 2 2 (
  seqS [iteM (cmpM (varM 1) [(.Lt, appM fLen [varM 0])]) (seqS [retM (subM (varM 0) (varM 1))]) (seqS []),
    retM (constM (.int 0))]) := rfl
/- 0 _law_cell, 1 _law_k, 2 _law_number -/
theorem cf__law_mixed (d : Nat) : cfOf p1 (d + 1) (.fn (nm "_law_mixed")) = runFn false 2 3 (
  seqS [assignM (.var 2) (binM .Add (binM .Add (varM 0) (binM .Mult (constM (.int 7919)) (varM 1))) (constM (.int 3))),
    retM (binM .Mod (binM .Mult (binM .Mod (binM .Mult (varM 2) (varM 2)) (constM (.int 2147483647))) (constM (.int 48271))) (constM (.int 2147483647)))]) := rfl
noncomputable def bd__law_signs_1 (d : Nat) : M V := subM (varM 1) (binM .Mod (binM .Add (binM .FloorDiv (varM 0) (constM (.int 3))) (binM .Mult (varM 2) (varM 3))) (constM (.int 26)))
/- 0 _law_cell, 1 _law_letters, 2 _law_step -/
theorem cf__law_signs (d : Nat) : cfOf p1 (d + 1) (.fn (nm "_law_signs")) = runFn false 1 3 (
  seqS [assignM (.var 1) (constM (.str [97, 98, 99, 100, 101, 102, 103, 104, 105, 106, 107, 108, 109, 110, 111, 112, 113, 114, 115, 116, 117, 118, 119, 120, 121, 122])),
    assignM (.var 2) (subM (listM [constM (.int 1), constM (.int 3), constM (.int 5), constM (.int 7), constM (.int 9), constM (.int 11)]) (binM .Mod (binM .FloorDiv (varM 0) (constM (.int 78))) (constM (.int 6)))),
    retM (methM (pickS mJoin) (constM (.str [])) [compM 3 1 ((appM fRange [binM .Add (constM (.int 1)) (binM .Mod (varM 0) (constM (.int 3)))]).bind toSrc) (.var 3) (andM []) (bd__law_signs_1 d)])]) := rfl
noncomputable def bd__law_drawn_1 (d : Nat) : M V := binM .Mod (binM .FloorDiv (appM (cfOf p1 d (.fn (nm "_law_mixed"))) [varM 8, varM 9]) (constM (.int 16))) (varM 4)
noncomputable def bd__law_drawn_2 (d : Nat) : M Flow := seqS [assignM (.var 8) (appM (cfOf p1 d (.fn (nm "_law_cell_at"))) [varM 0, binM .Add (binM .Add (varM 1) (constM (.int 1))) (varM 7)]),
  exprM (methM (pickL mAppend) (varM 5) [compM 9 1 ((appM fRange [varM 2]).bind toSrc) (.var 9) (andM []) (bd__law_drawn_1 d)]),
  exprM (methM (pickL mAppend) (varM 6) [boolV (cmpM (binM .Mod (binM .FloorDiv (appM (cfOf p1 d (.fn (nm "_law_mixed"))) [varM 8, constM (.int 5)]) (constM (.int 64))) (constM (.int 2))) [(.Eq, constM (.int 1))])])]
noncomputable def bd__law_drawn_3 (d : Nat) : M V := binM .Add (listM [binM .Mod (binM .Add (varM 9) (constM (.int 1))) (varM 4)]) (sliceM (varM 10) (some (constM (.int 1))) none)
noncomputable def bd__law_drawn_4 (d : Nat) : M V := boolV (cmpM (varM 9) [(.Eq, binM .Sub (varM 4) (constM (.int 1)))])
/- 0 _law_script, 1 _law_start, 2 _law_size, 3 _law_most, 4 _law_rooms, 5 _law_rows, 6 _law_ends, 7 _law_room, 8 _law_cell -/
theorem cf__law_drawn (d : Nat) : cfOf p1 (d + 1) (.fn (nm "_law_drawn")) = runFn false 4 9 (
  seqS [assignM (.var 4) (binM .Add (constM (.int 1)) (binM .Mod (appM (cfOf p1 d (.fn (nm "_law_cell_at"))) [varM 0, varM 1]) (varM 3))),
    assignM (.var 5) ((listM []).bind ownL),
    assignM (.var 6) ((listM []).bind ownL),
    forM (.var 7) ((appM fRange [varM 4]).bind toSrc) (bd__law_drawn_2 d),
    iteM (cmpM (binM .Mod (binM .FloorDiv (appM (cfOf p1 d (.fn (nm "_law_cell_at"))) [varM 0, varM 1]) (constM (.int 32))) (constM (.int 3))) [(.Eq, constM (.int 1))]) (seqS [assignM (.var 5) ((compM 9 2 ((varM 5).bind enumV) (.tup [9, 10]) (andM []) (bd__law_drawn_3 d)).bind ownL),
      assignM (.var 6) ((compM 9 1 ((appM fRange [varM 4]).bind toSrc) (.var 9) (andM []) (bd__law_drawn_4 d)).bind ownL)]) (seqS []),
    retM (tupM [varM 5, varM 6])]) := rfl
noncomputable def bd__law_goes_1 (d : Nat) : M Flow := seqS [assignM (.var 3) (subM (subM (varM 1) (varM 3)) (methM pickI (varM 0) [varM 4]))]
/- 0 _law_signs_here, 1 _law_rows, 2 _law_word, 3 _law_room, 4 _law_sign -/
theorem cf__law_goes (d : Nat) : cfOf p1 (d + 1) (.fn (nm "_law_goes")) = runFn false 3 5 (
  seqS [assignM (.var 3) (constM (.int 0)),
    forM (.var 4) ((varM 2).bind toSrc) (bd__law_goes_1 d),
    retM (varM 3)]) := rfl
noncomputable def bd__law_words_1 (d : Nat) : M V := binM .Add (varM 6) (varM 7)
noncomputable def bd__law_words_2 (d : Nat) : M Flow := seqS [assignM (.var 5) (binM .Add (varM 5) (compM 7 1 ((varM 0).bind toSrc) (.var 7) (andM []) (bd__law_words_1 d)))]
noncomputable def bd__law_words_3 (d : Nat) : M Flow := seqS [assignM (.var 5) (listM []),
  forM (.var 6) ((varM 3).bind toSrc) (bd__law_words_2 d),
  assignM (.var 3) (varM 5),
  assignM (.var 2) (binM .Add (varM 2) (varM 3))]
/- 0 _law_signs_here, 1 _law_longest, 2 _law_found, 3 _law_layer, 4 _law_turn, 5 _law_fresh, 6 _law_word -/
theorem cf__law_words (d : Nat) : cfOf p1 (d + 1) (.fn (nm "_law_words")) = runFn false 2 7 (
  seqS [assignM (.var 2) (listM [constM (.str [])]),
    assignM (.var 3) (listM [constM (.str [])]),
    forM (.var 4) ((appM fRange [varM 1]).bind toSrc) (bd__law_words_3 d),
    retM (varM 2)]) := rfl
noncomputable def bd__law_turned_1 (d : Nat) : M V := binM .Add (constM (.int 1)) (binM .Mod (binM .Add (binM .Sub (varM 8) (constM (.int 1))) (varM 2)) (appM fMax [constM (.int 1), binM .Sub (varM 3) (constM (.int 1))]))
noncomputable def bd__law_turned_2 (d : Nat) : M V := constM .none
noncomputable def bd__law_turned_3 (d : Nat) : M V := subM (varM 5) (varM 8)
noncomputable def bd__law_turned_4 (d : Nat) : M Flow := seqS [setSubM (varM 6) (subM (varM 5) (varM 4)) ((compM 8 1 ((subM (varM 0) (varM 4)).bind toSrc) (.var 8) (andM []) (bd__law_turned_3 d)).bind ownL),
  setSubM (varM 7) (subM (varM 5) (varM 4)) (subM (varM 1) (varM 4))]
noncomputable def body__law_turned (d : Nat) : M Flow := seqS [assignM (.var 3) (appM fLen [varM 0]),
    assignM (.var 5) (binM .Add (listM [constM (.int 0)]) (compM 8 1 ((appM fRange [constM (.int 1), varM 3]).bind toSrc) (.var 8) (andM []) (bd__law_turned_1 d))),
    assignM (.var 6) ((compM 8 1 ((varM 0).bind toSrc) (.var 8) (andM []) (bd__law_turned_2 d)).bind ownL),
    assignM (.var 7) ((appM fList [varM 1]).bind ownL),
    forM (.var 4) ((appM fRange [varM 3]).bind toSrc) (bd__law_turned_4 d),
    retM (tupM [varM 6, varM 7])]
/- 0 _law_rows, 1 _law_ends, 2 _law_turn, 3 _law_many, 4 _law_room, 5 _law_names, 6 _law_found, 7 _law_lasts -/
theorem cfR__law_turned (d : Nat) : cfOf p1 (d + 1) (.fnR (nm "_law_turned")) = runFn true 3 8 (
  body__law_turned d) := rfl
/- 0 _law_rows, 1 _law_ends, 2 _law_cell, 3 _law_more, 4 _law_lasts, 5 _law_room, 6 _law_at -/
theorem cf__law_other (d : Nat) : cfOf p1 (d + 1) (.fn (nm "_law_other")) = runFn false 3 7 (
  seqS [assignM (.tup [3, 4]) (appM (cfOf p1 d (.fnR (nm "_law_turned"))) [varM 0, varM 1, binM .FloorDiv (varM 2) (constM (.int 4))]),
    assignM (.var 5) (binM .Mod (binM .FloorDiv (varM 2) (constM (.int 16))) (appM fLen [varM 0])),
    iteM (cmpM (binM .Mod (varM 2) (constM (.int 4))) [(.Eq, constM (.int 2))]) (seqS [assignM (.var 6) (binM .Mod (binM .FloorDiv (varM 2) (constM (.int 64))) (appM fLen [subM (varM 3) (varM 5)])),
      setSubM (subM (varM 3) (varM 5)) (varM 6) (binM .Mod (binM .FloorDiv (varM 2) (constM (.int 256))) (appM fLen [varM 0]))]) (seqS []),
    iteM (cmpM (binM .Mod (varM 2) (constM (.int 4))) [(.Eq, constM (.int 3))]) (seqS [setSubM (varM 4) (varM 5) (boolV (notM (evB (subM (varM 4) (varM 5)))))]) (seqS []),
    retM (tupM [varM 3, varM 4])]) := rfl
noncomputable def bd__law_due_1 (d : Nat) : M Flow := seqS [iteM (cmpM (subM (subM (varM 1) (constM (.int 1))) (appM (cfOf p1 d (.fn (nm "_law_goes"))) [varM 0, subM (varM 1) (constM (.int 0)), varM 3])) [(.NotEq, subM (subM (varM 2) (constM (.int 1))) (appM (cfOf p1 d (.fn (nm "_law_goes"))) [varM 0, subM (varM 2) (constM (.int 0)), varM 3]))]) (seqS [retM (varM 3)]) (seqS [])]
/- 0 _law_signs_here, 1 _law_one, 2 _law_other_here, 3 _law_word -/
theorem cf__law_due (d : Nat) : cfOf p1 (d + 1) (.fn (nm "_law_due")) = runFn false 3 4 (
  seqS [forM (.var 3) ((appM (cfOf p1 d (.fn (nm "_law_words"))) [varM 0, binM .Sub (binM .Add (appM fLen [subM (varM 1) (constM (.int 0))]) (appM fLen [subM (varM 2) (constM (.int 0))])) (constM (.int 2))]).bind toSrc) (bd__law_due_1 d),
    retM (constM .none)]) := rfl
noncomputable def bd_law_1 (d : Nat) : M Flow := seqS [assignM (.var 9) (appM (cfOf p1 d (.fn (nm "parting"))) [subM (varM 7) (varM 8), subM (varM 7) (binM .Sub (constM (.int 1)) (varM 8))]),
  iteM (orM [andM [cmpM (varM 6) [(.Is, constM .none)], cmpM (varM 9) [(.IsNot, constM .none)]], andM [cmpM (varM 6) [(.IsNot, constM .none)], orM [notM (evB (appM fIsi [varM 9, constM (.type "str")])), cmpM (varM 9) [(.NotEq, varM 6)]]]]) (seqS [retM (constM (.bool false))]) (seqS [])]
/- 0 _law_script, 1 _law_signs_here, 2 _law_most, 3 _law_one, 4 _law_other_here, 5 _law_cell, 6 _law_due_here, 7 _law_machines, 8 _law_k, 9 _law_found -/
theorem cf_law (d : Nat) : cfOf p1 (d + 1) (.fn (nm "law")) = runFn false 1 10 (
  seqS [assignM (.var 1) (appM (cfOf p1 d (.fn (nm "_law_signs"))) [appM (cfOf p1 d (.fn (nm "_law_cell_at"))) [varM 0, constM (.int 0)]]),
    assignM (.var 2) (subM (listM [constM (.int 4), constM (.int 4), constM (.int 3)]) (binM .Sub (appM fLen [varM 1]) (constM (.int 1)))),
    assignM (.var 3) (appM (cfOf p1 d (.fn (nm "_law_drawn"))) [varM 0, constM (.int 1), appM fLen [varM 1], varM 2]),
    assignM (.var 4) (appM (cfOf p1 d (.fn (nm "_law_drawn"))) [varM 0, constM (.int 7), appM fLen [varM 1], varM 2]),
    assignM (.var 5) (appM (cfOf p1 d (.fn (nm "_law_mixed"))) [appM (cfOf p1 d (.fn (nm "_law_cell_at"))) [varM 0, constM (.int 12)], constM (.int 1)]),
    iteM (cmpM (binM .Mod (varM 5) (constM (.int 4))) [(.Gt, constM (.int 0))]) (seqS [assignM (.var 4) (appM (cfOf p1 d (.fn (nm "_law_other"))) [subM (varM 3) (constM (.int 0)), subM (varM 3) (constM (.int 1)), varM 5])]) (seqS []),
    assignM (.var 6) (appM (cfOf p1 d (.fn (nm "_law_due"))) [varM 1, varM 3, varM 4]),
    assignM (.var 7) (listM [appM (newC (wdOf p1 (cfOf p1 d)) (nm "Machine")) [varM 1, subM (varM 3) (constM (.int 0)), subM (varM 3) (constM (.int 1))], appM (newC (wdOf p1 (cfOf p1 d)) (nm "Machine")) [varM 1, subM (varM 4) (constM (.int 0)), subM (varM 4) (constM (.int 1))]]),
    forM (.var 8) ((appM fRange [constM (.int 2)]).bind toSrc) (bd_law_1 d),
    retM (boolV (cmpM (appM (cfOf p1 d (.fn (nm "parting"))) [subM (varM 7) (constM (.int 0)), subM (varM 7) (constM (.int 0))]) [(.Is, constM .none)]))]) := rfl
end Mine
set_option autoImplicit false
set_option linter.unusedVariables false
set_option linter.unusedSimpArgs false
set_option maxRecDepth 100000
namespace Mine
open PySem
/- lists of numbers, of rows, of truths; a machine -/
noncomputable def nl (xs : List Nat) : V := .flist (xs.map fun (n : Nat) => V.int n)
noncomputable def nll (rs : List (List Nat)) : V := .flist (rs.map nl)
noncomputable def bl (bs : List Bool) : V := .flist (bs.map V.bool)
noncomputable def mach (s : List Nat) (rows : List (List Nat)) (ends : List Bool) : V := .finst (nm "Machine") [nm "signs", nm "ways", nm "finals"] [.str s, nll rows, bl ends]
structure Good (s : List Nat) (rows : List (List Nat)) (ends : List Bool) : Prop where
  signs : SignsP s
  one : 1 ≤ rows.length
  most : rows.length ≤ 20
  ends : ends.length = rows.length
  row : ∀ w ∈ rows, w.length = s.length ∧ ∀ i ∈ w, i < rows.length
theorem nl_pure (xs : List Nat) : ltV 0 (nl xs) = true := by unfold nl; simp only [lR0, lR1, lR2, lR3, lR4, lR5, lR6, lR7, lR8, lR9, lR10, lR11, lR12, lR13]; exact lts_map _ fun _ _ => by simp only [lR0, lR1, lR2, lR3, lR4, lR5, lR6, lR7, lR8, lR9, lR10, lR11, lR12, lR13]
theorem nll_pure (xs : List (List Nat)) : ltV 0 (nll xs) = true := by unfold nll; simp only [lR0, lR1, lR2, lR3, lR4, lR5, lR6, lR7, lR8, lR9, lR10, lR11, lR12, lR13]; exact lts_map _ fun _ _ => nl_pure _
theorem bl_pure (xs : List Bool) : ltV 0 (bl xs) = true := by unfold bl; simp only [lR0, lR1, lR2, lR3, lR4, lR5, lR6, lR7, lR8, lR9, lR10, lR11, lR12, lR13]; exact lts_map _ fun _ _ => by simp only [lR0, lR1, lR2, lR3, lR4, lR5, lR6, lR7, lR8, lR9, lR10, lR11, lR12, lR13]
theorem ev_enum_ref {a : Nat} {xs : List V} {vars : List (Option V)} {obs : List Ob} (h : obs[a]? = some (.list xs)) : enumV (.ref a) ⟨vars, obs⟩ = .ok ⟨enumFrom 0 xs, [(a, .list xs)]⟩ ⟨vars, obs⟩ := by
  show ((toSrc (.ref a)).bind fun s => (M.pure ⟨enumFrom 0 s.items, s.chk⟩ : M Src)) ⟨vars, obs⟩ = _
  rw [ev_bind, ev_toSrc_ref, h]; rfl
/- a value that stands for a list -/
structure DL (obs : List Ob) (v : V) (xs : List V) : Prop where
  src : ∃ chk, ChkP chk obs ∧ ∀ vars, toSrc v ⟨vars, obs⟩ = .ok ⟨xs, chk⟩ ⟨vars, obs⟩
  len : ∀ vars, fLen [v] ⟨vars, obs⟩ = lenM xs.length ⟨vars, obs⟩
  cpy : ∀ vars, fList [v] ⟨vars, obs⟩ = allocL xs ⟨vars, obs⟩
  kind : kindV obs v = some "list"
theorem DL.flist (obs : List Ob) (xs : List V) : DL obs (.flist xs) xs := ⟨⟨[], .nil _, fun _ => rfl⟩, fun _ => rfl, fun _ => rfl, rfl⟩
theorem DL.ref {obs : List Ob} {a : Nat} {xs : List V} (h : obs[a]? = some (.list xs)) : DL obs (.ref a) xs :=
  ⟨⟨_, .one h, fun vars => by rw [ev_toSrc_ref, h]⟩, fun vars => by rw [ev_len_ref, ev_bind, ev_getList, h]; rfl, fun vars => by rw [ev_list_ref, ev_bind, ev_getList, h]; rfl, kind_list h⟩
noncomputable def intsV (w : List Nat) : List V := w.map fun (n : Nat) => V.int n
noncomputable def DLs (obs : List Ob) : List V → List (List Nat) → Prop
  | [], [] => True
  | v :: vs, w :: ws => DL obs v (intsV w) ∧ DLs obs vs ws
  | _, _ => False
theorem DLs.nls (obs : List Ob) : ∀ ws : List (List Nat), DLs obs (ws.map nl) ws
  | [] => trivial
  | w :: ws => ⟨.flist _ _, DLs.nls obs ws⟩
theorem DLs.mem {obs : List Ob} : ∀ {vs : List V} {ws : List (List Nat)}, DLs obs vs ws → ∀ v ∈ vs, ∃ w ∈ ws, DL obs v (intsV w)
  | [], [], _, v, h => by cases h
  | v :: vs, w :: ws, h, x, hx => by
    cases hx with
    | head => exact ⟨w, .head _, h.1⟩
    | tail _ hx => obtain ⟨w', h1, h2⟩ := DLs.mem h.2 x hx; exact ⟨w', .tail _ h1, h2⟩
  | [], _ :: _, h, _, _ => h.elim
  | _ :: _, [], h, _, _ => h.elim
theorem DLs.len {obs : List Ob} : ∀ {vs : List V} {ws : List (List Nat)}, DLs obs vs ws → vs.length = ws.length
  | [], [], _ => rfl
  | _ :: _, _ :: _, h => congrArg (· + 1) (DLs.len h.2)
  | [], _ :: _, h => h.elim
  | _ :: _, [], h => h.elim
/- a run over things that leave the rest as it is -/
theorem for_same {t : Nat} {body : M Flow} {pre post : List (Option V)} {obs : List Ob} {items : List V} {c : List (Nat × Ob)} (hc : ChkP c obs) (ht : t = pre.length) (hb : ∀ x ∈ items, body ⟨pre ++ some x :: post, obs⟩ = .ok .next ⟨pre ++ some x :: post, obs⟩) (z : Option V) : ∃ z', forItems (.var t) body c items ⟨pre ++ z :: post, obs⟩ = .ok .next ⟨pre ++ z' :: post, obs⟩ := by
  obtain ⟨st, h1, z', rfl, _⟩ := forItems_ok (t := .var t) (body := body) (c := c) (fun l st => ∃ z, st = ⟨pre ++ z :: post, obs⟩ ∧ ∀ x ∈ l, x ∈ items) (fun _ _ h => by obtain ⟨z, rfl, _⟩ := h; exact hc) (fun x l st hI => by
    obtain ⟨z, rfl, hx⟩ := hI
    refine ⟨⟨pre ++ some x :: post, obs⟩, ?_, some x, rfl, fun y hy => hx y (.tail _ hy)⟩
    rw [ev_bind, ev_asg_var, ev_setVar, if_pos (by simp [ht]), Out.bind_ok]
    have : (pre ++ z :: post).set t (some x) = pre ++ some x :: post := by rw [ht]; simp
    rw [this]; exact hb x (hx x (.head _))) items ⟨pre ++ z :: post, obs⟩ ⟨z, rfl, fun _ q => q⟩
  exact ⟨z', h1⟩
noncomputable def mixed (c k : Int) : Int := ((c + 7919 * k + 3) * (c + 7919 * k + 3)) % 2147483647 * 48271 % 2147483647
theorem mixed_eq (d : Nat) (c k : Int) (st : St) (hc : heavy 1048577 c) (hk : 0 ≤ k ∧ k ≤ 1000) : cfOf p1 (d + 1) (.fn (nm "_law_mixed")) [.int c, .int k] st = .ok (.int (mixed c k)) st := by
  have e1 : mulG 7919 k := mulG_of (n := 31) (m := 31) (heavy_31 (by omega)) (heavy_31 (by omega)) (by decide)
  have h2 : heavy 1048578 (c + (7919 * k + 3)) := heavy_add hc (heavy_mono (heavy_31 (by omega)) (by decide))
  rw [← Int.add_assoc] at h2
  have e2 := mulG_of h2 h2 (by decide)
  have h3 : 0 ≤ (c + 7919 * k + 3) * (c + 7919 * k + 3) % 2147483647 ∧ (c + 7919 * k + 3) * (c + 7919 * k + 3) % 2147483647 < 2147483647 := ⟨Int.emod_nonneg _ (by decide), Int.emod_lt_of_pos _ (by decide)⟩
  have e3 : mulG ((c + 7919 * k + 3) * (c + 7919 * k + 3) % 2147483647) 48271 := mulG_of (n := 31) (m := 31) (heavy_31 (by omega)) (heavy_31 (by decide)) (by decide)
  obtain ⟨vars, obs⟩ := st
  rw [cf__law_mixed]
  exact run_pure (fl := .ret (.int (mixed c k))) (vars' := [some (.int c), some (.int k), some (.int (c + 7919 * k + 3))]) rfl (by simp [e1, e2, e3, mixed]) (by simp only [flowV, lR0, lR1, lR2, lR3, lR4, lR5, lR6, lR7, lR8, lR9, lR10, lR11, lR12, lR13])
theorem cell_eq (d : Nat) (xs : List Int) (k : Nat) (st : St) (hx : xs.length ≤ 63) (hk : k ≤ 1000) : cfOf p1 (d + 1) (.fn (nm "_law_cell_at")) [.alist (xs.map .int), .int k] st = .ok (.int (xs.getD k 0)) st := by
  obtain ⟨vars, obs⟩ := st
  rw [cf__law_cell_at]
  refine run_pure (fl := .ret (.int (xs.getD k 0))) (vars' := [some (.alist (xs.map .int)), some (.int k)]) rfl ?_ (by simp only [flowV, lR0, lR1, lR2, lR3, lR4, lR5, lR6, lR7, lR8, lR9, lR10, lR11, lR12, lR13])
  have hl : xs.length ≤ 1000 := by omega
  by_cases h : k < xs.length
  · have h1 : (k : Int) < xs.length := by omega
    have hi : idxL (xs.map V.int) (k : Int) = some (.int xs[k]) := idx_nat (by simp [h]) (by simp; omega)
    simp [hl, h1, hi, h]
  · have h1 : ¬ (k : Int) < xs.length := by omega
    simp [hl, h1, h]
theorem is_signs_eq (d : Nat) {s : List Nat} (h : SignsP s) (st : St) : cfOf p1 (d + 1) (.fn (nm "is_signs")) [.str s] st = .ok (.bool true) st := by
  obtain ⟨vars, obs⟩ := st
  have h1 := h.one
  have h3 := h.three
  have hl : s.length ≤ 1000 := by omega
  have e1 : (1 : Int) ≤ s.length := by omega
  have e3 : (s.length : Int) ≤ 3 := by omega
  obtain ⟨z, hz⟩ := for_same (t := 1) (pre := [some (.str s)]) (post := []) (obs := obs) (items := charsOf s) (body := bd_is_signs_1 d) (.nil _) rfl (fun x hx => by
    unfold charsOf at hx
    obtain ⟨c, hc, rfl⟩ := List.mem_map.mp hx
    have hin := in_letters (h.az c hc)
    have hcnt : ¬ (1 : Int) < ((occ s [c] (s.length + 1)).length : Int) := by have := occ_once (c := c) (n := s.length + 1) h.nd; omega
    have em : mCount [.str s, .str [c]] = M.pure (.int (occ s [c] (s.length + 1)).length) := rfl
    unfold letters at hin
    simp [bd_is_signs_1, hin, em, hcnt]) none
  simp only [List.cons_append, List.nil_append] at hz
  rw [cf_is_signs]
  exact run_pure (fl := .ret (.bool true)) (vars' := [some (.str s), z]) rfl (by simp [hl, e1, e3, hz]) (by simp only [flowV, lR0, lR1, lR2, lR3, lR4, lR5, lR6, lR7, lR8, lR9, lR10, lR11, lR12, lR13])
theorem is_room_eq (d : Nat) {r n : Nat} (h : r < n) (st : St) : cfOf p1 (d + 1) (.fn (nm "is_room")) [.int r, .int n] st = .ok (.bool true) st := by
  obtain ⟨vars, obs⟩ := st
  have h1 : (r : Int) < n := by omega
  have h2 : (0 : Int) ≤ r := by omega
  rw [cf_is_room]
  exact run_pure (fl := .ret (.bool true)) (vars' := [some (.int r), some (.int n)]) rfl (by simp [h1, h2]) (by simp only [flowV, lR0, lR1, lR2, lR3, lR4, lR5, lR6, lR7, lR8, lR9, lR10, lR11, lR12, lR13])
theorem is_row_eq (d : Nat) {r : List Nat} {s : List Nat} {n : Nat} {v : V} {vars : List (Option V)} {obs : List Ob} (D : DL obs v (intsV r)) (hl : r.length = s.length) (hs : s.length ≤ 3) (h : ∀ i ∈ r, i < n) :
    cfOf p1 (d + 2) (.fn (nm "is_row")) [v, .str s, .int n] ⟨vars, obs⟩ = .ok (.bool true) ⟨vars, obs⟩ := by
  obtain ⟨chk, hc, hsrc⟩ := D.src
  have hl' : s.length ≤ 1000 := by omega
  have hlen : ∀ vars, fLen [v] ⟨vars, obs⟩ = .ok (.int s.length) ⟨vars, obs⟩ := fun vars => by
    rw [D.len]
    unfold intsV
    rw [List.length_map, hl, ev_lenM hl']
  obtain ⟨z, hz⟩ := for_same (t := 3) (pre := [some v, some (.str s), some (.int n)]) (post := []) (obs := obs) (items := intsV r) (body := bd_is_row_1 (d + 1)) hc rfl (fun x hx => by
    obtain ⟨i, hi, rfl⟩ := List.mem_map.mp hx
    simp [bd_is_row_1, is_room_eq d (h i hi)]) none
  simp only [List.cons_append, List.nil_append] at hz
  rw [cf_is_row]
  refine run_pure (fl := .ret (.bool true)) (vars' := [some v, some (.str s), some (.int n), z]) rfl ?_ (by simp only [flowV, lR0, lR1, lR2, lR3, lR4, lR5, lR6, lR7, lR8, lR9, lR10, lR11, lR12, lR13])
  simp [hz, hlen, hl', hsrc, D.kind]
theorem makes_eq' (d : Nat) {s : List Nat} {rows : List (List Nat)} {ends : List Bool} (G : Good s rows ends) {rv ev : V} {its : List V} {vars : List (Option V)} {obs : List Ob} (DR : DL obs rv its) (DI : DLs obs its rows) (DE : DL obs ev (ends.map V.bool)) :
    cfOf p1 (d + 3) (.fn (nm "makes_machine")) [.str s, rv, ev] ⟨vars, obs⟩ = .ok (.bool true) ⟨vars, obs⟩ := by
  have hm := G.most
  have h1 := G.one
  have e1 : rows.length ≤ 1000 := by omega
  have e3 : (1 : Int) ≤ rows.length := by omega
  have e4 : (rows.length : Int) ≤ 20 := by omega
  obtain ⟨c1, hc1, hs1⟩ := DR.src
  obtain ⟨c2, hc2, hs2⟩ := DE.src
  have hl1 : ∀ vars, fLen [rv] ⟨vars, obs⟩ = .ok (.int rows.length) ⟨vars, obs⟩ := fun vars => by rw [DR.len, DI.len, ev_lenM e1]
  have hl2 : ∀ vars, fLen [ev] ⟨vars, obs⟩ = .ok (.int rows.length) ⟨vars, obs⟩ := fun vars => by rw [DE.len, List.length_map, G.ends, ev_lenM e1]
  obtain ⟨z, hz⟩ := for_same (t := 3) (pre := [some (.str s), some rv, some ev]) (post := [none]) (obs := obs) (items := its) (body := bd_makes_machine_1 (d + 2)) hc1 rfl (fun x hx => by
    obtain ⟨w, hw, D⟩ := DI.mem x hx
    obtain ⟨q1, q2⟩ := G.row w hw
    have := fun vars => is_row_eq d (vars := vars) D q1 G.signs.three q2
    simp [bd_makes_machine_1, hl1, this]) none
  obtain ⟨y, hy⟩ := for_same (t := 4) (pre := [some (.str s), some rv, some ev, z]) (post := []) (obs := obs) (items := ends.map V.bool) (body := bd_makes_machine_2 (d + 2)) hc2 rfl (fun x hx => by
    obtain ⟨w, hw, rfl⟩ := List.mem_map.mp hx
    simp [bd_makes_machine_2]) none
  simp only [List.cons_append, List.nil_append] at hz hy
  rw [cf_makes_machine]
  refine run_pure (fl := .ret (.bool true)) (vars' := [some (.str s), some rv, some ev, z, y]) rfl ?_ (by simp only [flowV, lR0, lR1, lR2, lR3, lR4, lR5, lR6, lR7, lR8, lR9, lR10, lR11, lR12, lR13])
  have hs := is_signs_eq (d + 1) G.signs
  simp [hz, hy, hs, hl1, hl2, hs1, hs2, DR.kind, DE.kind, e3, e4]
end Mine
set_option autoImplicit false
set_option linter.unusedVariables false
set_option linter.unusedSimpArgs false
set_option maxRecDepth 100000
namespace Mine
open PySem
theorem fld_signs : fldOf p1 (nm "Machine") (nm "signs") = true := by decide +kernel
theorem fld_ways : fldOf p1 (nm "Machine") (nm "ways") = true := by decide +kernel
theorem fld_finals : fldOf p1 (nm "Machine") (nm "finals") = true := by decide +kernel
theorem ev_setattr {W : Wd} {c x : Str} {v : V} {fs : List (Str × V)} {vars : List (Option V)} {obs : List Ob} (hf : W.fld c x = true) (hl : fs.length ≤ 100) : setAttrV W (.ref (obs.length + 1)) x v ⟨vars, obs ++ [.ns fs, .inst c obs.length]⟩ = .ok () ⟨vars, obs ++ [.ns (setField x v fs), .inst c obs.length]⟩ := by
  unfold setAttrV
  simp [hf, hl]
theorem Good.wl {s : List Nat} {rows : List (List Nat)} {ends : List Bool} (G : Good s rows ends) : ∀ w ∈ rows, w.length ≤ 1000 := fun w hw => by have := (G.row w hw).1; have := G.signs.three; omega
/- a copy of rows, whatever stands for them -/
theorem copy_rows' {b : Nat} {src : M Src} {elt : M V} {vars : List (Option V)} {obs : List Ob} {rows : List (List Nat)} {its : List V} {c : List (Nat × Ob)} (hb : vars.length = b) (hs : src ⟨vars, obs⟩ = .ok ⟨its, c⟩ ⟨vars, obs⟩) (hc : ChkP c obs) (DI : DLs obs its rows) (hl : rows.length ≤ 1000) (hw : ∀ w ∈ rows, w.length ≤ 1000) (he : elt = appM fList [varM b]) :
    compM b 1 src (.var b) (andM []) elt ⟨vars, obs⟩ = .ok (nll rows) ⟨vars, obs⟩ := by
  subst hb
  obtain ⟨v', h⟩ : ∃ v', compItems (.var vars.length) (andM []) elt c its ⟨vars ++ [none], obs⟩ = .ok (rows.map nl) ⟨v', obs⟩ := by
    have key : ∀ (its : List V) (rows : List (List Nat)) (z : Option V), DLs obs its rows → (∀ w ∈ rows, w.length ≤ 1000) → ∃ v', compItems (.var vars.length) (andM []) elt c its ⟨vars ++ [z], obs⟩ = .ok (rows.map nl) ⟨v', obs⟩ := by
      intro its
      induction its with
      | nil =>
        intro rows z D hw
        cases rows with
        | cons _ _ => exact D.elim
        | nil => exact ⟨_, by unfold compItems; rw [ev_bind, hc]; rfl⟩
      | cons x its ih =>
        intro rows z D hw
        cases rows with
        | nil => exact D.elim
        | cons w rows =>
          obtain ⟨v', h'⟩ := ih rows (some x) D.2 fun w hw' => hw w (.tail _ hw')
          refine ⟨v', ?_⟩
          unfold compItems
          rw [ev_bind, hc, Out.bind_ok, ev_bind, ev_asg_var, ev_setVar, if_pos (by simp), Out.bind_ok]
          have e : (vars ++ [z]).set vars.length (some x) = vars ++ [some x] := by simp
          have e' : (vars ++ [some x])[vars.length]? = some (some x) := by simp
          have hx : elt ⟨vars ++ [some x], obs⟩ = .ok (nl w) ⟨vars ++ [some x], obs⟩ := by
            rw [he]
            simp only [ev_app, ev_bind, ev_seqM_cons, ev_var, e', Out.bind_ok, ev_seqM_nil, ev_pure, D.1.cpy]
            rw [ev_allocL (by unfold intsV; rw [List.length_map]; exact hw w (.head _))]; rfl
          rw [e, ev_bind]
          show Out.bind (M.pure true ⟨vars ++ [some x], obs⟩) _ = _
          rw [ev_pure, Out.bind_ok, if_pos rfl, ev_bind, hx, Out.bind_ok, ev_bind, h']; rfl
    exact key its rows none DI hw
  unfold compM
  rw [ev_bind, hs, Out.bind_ok, if_pos (le_lim (by rw [DI.len]; exact hl)), ev_bind]
  have : innerM vars.length 1 (compItems (.var vars.length) (andM []) elt c its) ⟨vars, obs⟩ = .ok (rows.map nl) ⟨vars, obs⟩ := by
    unfold innerM
    have e : ({ vars := List.take vars.length vars ++ List.replicate 1 none, obs := obs } : St) = ⟨vars ++ [none], obs⟩ := by simp
    dsimp only
    rw [e, h]
  dsimp only
  rw [this]; rfl
theorem DL.grow {obs t : List Ob} {v : V} {xs : List V} (h : v = .flist xs ∨ ∃ a, v = .ref a ∧ obs[a]? = some (.list xs)) : DL (obs ++ t) v xs := by
  rcases h with rfl | ⟨a, rfl, h⟩
  · exact .flist _ _
  · exact .ref (by rw [List.getElem?_append_left (List.getElem?_eq_some_iff.mp h).1]; exact h)
/- a value that stands for a list, frozen or in the ledger -/
noncomputable def LV (obs : List Ob) (v : V) (xs : List V) : Prop := v = .flist xs ∨ ∃ a, v = .ref a ∧ obs[a]? = some (.list xs)
noncomputable def LVs (obs : List Ob) : List V → List (List Nat) → Prop
  | [], [] => True
  | v :: vs, w :: ws => LV obs v (intsV w) ∧ LVs obs vs ws
  | _, _ => False
theorem LVs.grow {obs : List Ob} (t : List Ob) : ∀ {vs : List V} {ws : List (List Nat)}, LVs obs vs ws → DLs (obs ++ t) vs ws
  | [], [], _ => trivial
  | _ :: _, _ :: _, h => ⟨DL.grow h.1, LVs.grow t h.2⟩
  | [], _ :: _, h => h.elim
  | _ :: _, [], h => h.elim
theorem LVs.nls (obs : List Ob) : ∀ ws : List (List Nat), LVs obs (ws.map nl) ws
  | [] => trivial
  | w :: ws => ⟨.inl rfl, LVs.nls obs ws⟩
/- a machine is made -/
theorem init_eq (d : Nat) {s : List Nat} {rows : List (List Nat)} {ends : List Bool} (G : Good s rows ends) {rv ev : V} {its : List V} (vars : List (Option V)) (obs : List Ob) (HR : LV obs rv its) (HI : LVs obs its rows) (HE : LV obs ev (ends.map V.bool)) :
    cfOf p1 (d + 4) (.meth (nm "Machine") (nm "__init__")) [.ref (obs.length + 1), .str s, rv, ev] ⟨vars, obs ++ [.ns [], .inst (nm "Machine") obs.length]⟩ =
      .ok .none ⟨vars, obs ++ [.ns [(nm "signs", .str s), (nm "ways", nll rows), (nm "finals", bl ends)], .inst (nm "Machine") obs.length]⟩ := by
  have hm := G.most
  have e1 : rows.length ≤ 1000 := by omega
  have e2 : ends.length ≤ 1000 := by rw [G.ends]; exact e1
  have mk := fun vars => makes_eq' d (vars := vars) (obs := obs ++ [.ns [], .inst (nm "Machine") obs.length]) G (DL.grow HR) (HI.grow _) (DL.grow HE)
  have a1 := fun vars => ev_setattr (W := wdOf p1 (cfOf p1 (d + 3))) (c := nm "Machine") (x := nm "signs") (vars := vars) (obs := obs) (v := .str s) (fs := []) fld_signs (by decide)
  have a2 := fun vars => ev_setattr (W := wdOf p1 (cfOf p1 (d + 3))) (c := nm "Machine") (x := nm "ways") (vars := vars) (obs := obs) (v := nll rows) (fs := [(nm "signs", .str s)]) fld_ways (by simp)
  have a3 := fun vars => ev_setattr (W := wdOf p1 (cfOf p1 (d + 3))) (c := nm "Machine") (x := nm "finals") (vars := vars) (obs := obs) (v := bl ends) (fs := [(nm "signs", .str s), (nm "ways", nll rows)]) fld_finals (by simp)
  have f1 : setField (nm "signs") (.str s) [] = [(nm "signs", .str s)] := rfl
  have f2 : setField (nm "ways") (nll rows) [(nm "signs", .str s)] = [(nm "signs", .str s), (nm "ways", nll rows)] := rfl
  have f3 : setField (nm "finals") (bl ends) [(nm "signs", .str s), (nm "ways", nll rows)] = [(nm "signs", .str s), (nm "ways", nll rows), (nm "finals", bl ends)] := rfl
  rw [f1] at a1
  rw [f2] at a2
  rw [f3] at a3
  have D2 := DL.grow (t := [.ns [(nm "signs", .str s)], .inst (nm "Machine") obs.length]) HR
  obtain ⟨c2, hc2, hs2⟩ := D2.src
  have cp := copy_rows' (b := 4) (vars := [some (.ref (obs.length + 1)), some (.str s), some rv, some ev]) (src := (varM 2).bind toSrc) (obs := obs ++ [.ns [(nm "signs", .str s)], .inst (nm "Machine") obs.length]) rfl (by simp [hs2]) hc2 (HI.grow _) e1 G.wl (elt := bd_Machine___init___1 (d + 3)) rfl
  have l3 := (DL.grow (t := [.ns [(nm "signs", .str s), (nm "ways", nll rows)], .inst (nm "Machine") obs.length]) HE).cpy
  have l4 : ∀ vars, fList [ev] ⟨vars, obs ++ [.ns [(nm "signs", .str s), (nm "ways", nll rows)], .inst (nm "Machine") obs.length]⟩ = .ok (bl ends) ⟨vars, obs ++ [.ns [(nm "signs", .str s), (nm "ways", nll rows)], .inst (nm "Machine") obs.length]⟩ := fun vars => by
    rw [l3, ev_allocL (by simpa using e2)]; rfl
  rw [cf_Machine___init__]
  refine run_raw (fl := .next) (vars' := [some (.ref (obs.length + 1)), some (.str s), some rv, some ev]) rfl ?_
  simp [mk, setAttrM, a1, a2, a3, cp, l4]
theorem wd_cf (p : List Stmt) (cf : FnKey → List V → M V) : (wdOf p cf).cf = cf := id rfl
theorem wd_frz (p : List Stmt) (cf : FnKey → List V → M V) (c : Str) : (wdOf p cf).frz c = (c == nm "Machine") := id rfl
theorem new_eq' (d : Nat) {s : List Nat} {rows : List (List Nat)} {ends : List Bool} (G : Good s rows ends) {rv ev : V} {its : List V} (vars : List (Option V)) (obs : List Ob) (HR : LV obs rv its) (HI : LVs obs its rows) (HE : LV obs ev (ends.map V.bool)) :
    newC (wdOf p1 (cfOf p1 (d + 4))) (nm "Machine") [.str s, rv, ev] ⟨vars, obs⟩ = .ok (mach s rows ends) ⟨vars, obs⟩ := by
  have h := init_eq d G vars obs HR HI HE
  have hz : (wdOf p1 (cfOf p1 (d + 4))).frz (nm "Machine") = true := by rw [wd_frz]; exact beq_self_eq_true _
  have hr : newR (wdOf p1 (cfOf p1 (d + 4))) (nm "Machine") [.str s, rv, ev] ⟨vars, obs⟩ = .ok (.ref (obs.length + 1)) ⟨vars, obs ++ [.ns [(nm "signs", .str s), (nm "ways", nll rows), (nm "finals", bl ends)], .inst (nm "Machine") obs.length]⟩ := by
    unfold newR
    simp only [ev_bind, ev_alloc, Out.bind_ok, List.append_assoc, List.cons_append, List.nil_append, List.length_append, List.length_cons, List.length_nil, wd_cf, Nat.zero_add, h]
    rfl
  unfold newC
  rw [if_pos hz]
  unfold newF
  rw [hr]
  have hp : ltVs obs.length [V.str s, nll rows, bl ends] = true := by simp only [lS0, lS1, lR0, lR1, lR2, lR3, lR4, lR5, lR6, lR7, lR8, lR9, lR10, lR11, lR12, lR13, lt_mono _ (nll_pure rows), lt_mono _ (bl_pure ends), Bool.and_true]
  have h1 : frzI (nm "Machine") obs.length (obs ++ [.ns [(nm "signs", .str s), (nm "ways", nll rows), (nm "finals", bl ends)], .inst (nm "Machine") obs.length]) = some (mach s rows ends) := by
    unfold frzI
    rw [tl0, tl1]
    dsimp only
    rw [if_pos ⟨rfl, rfl, hp⟩]; rfl
  have h2 : dropTo obs (obs ++ [.ns [(nm "signs", .str s), (nm "ways", nll rows), (nm "finals", bl ends)], .inst (nm "Machine") obs.length]) = some obs := by
    unfold dropTo
    rw [if_pos (.inl (by simp))]; simp
  simp only [h1, h2]
theorem new_eq (d : Nat) {s : List Nat} {rows : List (List Nat)} {ends : List Bool} (G : Good s rows ends) (st : St) : newC (wdOf p1 (cfOf p1 (d + 4))) (nm "Machine") [.str s, nll rows, bl ends] st = .ok (mach s rows ends) st := by
  obtain ⟨vars, obs⟩ := st
  exact new_eq' d G vars obs (.inl rfl) (LVs.nls obs rows) (.inl rfl)
section
variable {s : List Nat} {rows : List (List Nat)} {ends : List Bool}
theorem at_ways (d : Nat) (st : St) : attrV (wdOf p1 (cfOf p1 d)) (nm "ways") (mach s rows ends) st = .ok (nll rows) st := ev_attr_inst fld_ways rfl st
theorem at_signs (d : Nat) (st : St) : attrV (wdOf p1 (cfOf p1 d)) (nm "signs") (mach s rows ends) st = .ok (.str s) st := ev_attr_inst fld_signs rfl st
theorem at_finals (d : Nat) (st : St) : attrV (wdOf p1 (cfOf p1 d)) (nm "finals") (mach s rows ends) st = .ok (bl ends) st := ev_attr_inst fld_finals rfl st
theorem has_rows : hasOf p1 (nm "Machine") (nm "rows") = true := by decide +kernel
theorem has_ends : hasOf p1 (nm "Machine") (nm "ends") = true := by decide +kernel
theorem pk_rows (d : Nat) (st : St) : pickO (wdOf p1 (cfOf p1 d)) (nm "rows") (mach s rows ends) st = .ok (cfOf p1 d (.meth (nm "Machine") (nm "rows"))) st := ev_pick_inst (by show (true && hasOf p1 (nm "Machine") (nm "rows")) = true; rw [has_rows]; rfl) st
theorem pk_ends (d : Nat) (st : St) : pickO (wdOf p1 (cfOf p1 d)) (nm "ends") (mach s rows ends) st = .ok (cfOf p1 d (.meth (nm "Machine") (nm "ends"))) st := ev_pick_inst (by show (true && hasOf p1 (nm "Machine") (nm "ends")) = true; rw [has_ends]; rfl) st
theorem rows_eq (d : Nat) (G : Good s rows ends) (st : St) : cfOf p1 (d + 1) (.meth (nm "Machine") (nm "rows")) [mach s rows ends] st = .ok (nll rows) st := by
  obtain ⟨vars, obs⟩ := st
  have h4 := G.most
  rw [cf_Machine_rows]
  have := copy_rows' (b := 1) (vars := [some (mach s rows ends)]) (src := (attrM (wdOf p1 (cfOf p1 d)) (varM 0) (nm "ways")).bind toSrc) (obs := obs) (its := rows.map nl) (c := []) rfl (by simp [at_ways d]; rfl) (.nil _) (DLs.nls obs rows) (by omega) G.wl (elt := bd_Machine_rows_1 d) rfl
  exact run_pure (fl := .ret (nll rows)) (vars' := [some (mach s rows ends)]) rfl (by simp [this]) (nll_pure rows)
theorem ends_eq (d : Nat) (G : Good s rows ends) (st : St) : cfOf p1 (d + 1) (.meth (nm "Machine") (nm "ends")) [mach s rows ends] st = .ok (bl ends) st := by
  obtain ⟨vars, obs⟩ := st
  have h4 := G.most
  have h5 : ends.length ≤ 1000 := by have := G.ends; omega
  rw [cf_Machine_ends]
  have l4 : ∀ st, fList [bl ends] st = .ok (bl ends) st := fun st => by
    show allocL (ends.map V.bool) st = _
    rw [ev_allocL (by simpa using h5)]; rfl
  exact run_pure (fl := .ret (bl ends)) (vars' := [some (mach s rows ends)]) rfl (by simp [at_finals d, l4]) (bl_pure ends)
end
end Mine
set_option autoImplicit false
set_option linter.unusedVariables false
set_option linter.unusedSimpArgs false
namespace Mine
open PySem
/- loops over lists of data -/
theorem for_map {α : Type} {t : Tg} {body : M Flow} {c : List (Nat × Ob)} {f : α → V} {xs : List α} (I : Nat → St → Prop) (hc : ∀ j st, I j st → ChkP c st.obs)
    (hs : ∀ j x st, xs[j]? = some x → I j st → ∃ st', ((asg t (f x)).bind fun _ => body) st = .ok .next st' ∧ I (j + 1) st') {st : St} (h0 : I 0 st) : ∃ st', forItems t body c (xs.map f) st = .ok .next st' ∧ I xs.length st' := by
  obtain ⟨st', h1, j, h2, h3, h4⟩ := forItems_ok (t := t) (body := body) (c := c) (fun l st => ∃ j, l = (xs.drop j).map f ∧ I j st ∧ j ≤ xs.length) (fun l st h => by obtain ⟨j, _, h, _⟩ := h; exact hc j st h) (fun x l st h => by
    obtain ⟨j, hl, hI, hj⟩ := h
    have hj' : j < xs.length := by
      refine Nat.lt_of_not_le fun q => ?_
      rw [List.drop_eq_nil_of_le q] at hl
      cases hl
    rw [List.drop_eq_getElem_cons hj', List.map_cons] at hl
    injection hl with e1 e2
    subst e1
    obtain ⟨st', h1, h2⟩ := hs j xs[j] st (List.getElem?_eq_getElem hj') hI
    exact ⟨st', h1, j + 1, e2, h2, hj'⟩) (xs.map f) st ⟨0, by simp, h0, Nat.zero_le _⟩
  have e : j = xs.length := by
    refine Nat.le_antisymm h4 (Nat.le_of_not_lt fun q => ?_)
    rw [List.drop_eq_getElem_cons q] at h2
    cases h2
  subst e
  exact ⟨st', h1, h3⟩
theorem comp_map {α : Type} {b n : Nat} {src : M Src} {t : Tg} {cond : M Bool} {elt : M V} {vars : List (Option V)} {obs : List Ob} {xs : List α} {f : α → V} {c : List (Nat × Ob)} (hb : vars.length = b) (hs : src ⟨vars, obs⟩ = .ok ⟨xs.map f, c⟩ ⟨vars, obs⟩) (hl : xs.length ≤ 1000) (hc : ChkP c obs)
    (g : α → Option V) (hg : ∀ x ∈ xs, ∀ zs, zs.length = n → ∃ zs', zs'.length = n ∧ asg t (f x) ⟨vars ++ zs, obs⟩ = .ok () ⟨vars ++ zs', obs⟩ ∧ ((g x = none ∧ cond ⟨vars ++ zs', obs⟩ = .ok false ⟨vars ++ zs', obs⟩) ∨ ∃ v, g x = some v ∧ cond ⟨vars ++ zs', obs⟩ = .ok true ⟨vars ++ zs', obs⟩ ∧ elt ⟨vars ++ zs', obs⟩ = .ok v ⟨vars ++ zs', obs⟩)) :
    compM b n src t cond elt ⟨vars, obs⟩ = .ok (.flist (xs.filterMap g)) ⟨vars, obs⟩ := by
  subst hb
  have key : ∀ (l : List α) (zs : List (Option V)), zs.length = n → (∀ x ∈ l, x ∈ xs) → ∃ v', compItems t cond elt c (l.map f) ⟨vars ++ zs, obs⟩ = .ok (l.filterMap g) ⟨v', obs⟩ := by
    intro l
    induction l with
    | nil => intro zs _ _; exact ⟨_, by unfold compItems; rw [List.map_nil]; dsimp only; rw [ev_bind, hc]; rfl⟩
    | cons x l ih =>
      intro zs hz hx
      obtain ⟨zs', h1, h2, h3⟩ := hg x (hx x (.head _)) zs hz
      obtain ⟨v', h4⟩ := ih zs' h1 fun y hy => hx y (.tail _ hy)
      refine ⟨v', ?_⟩
      rw [List.map_cons]
      unfold compItems
      rw [ev_bind, hc, Out.bind_ok, ev_bind, h2, Out.bind_ok, ev_bind]
      rcases h3 with ⟨q1, q2⟩ | ⟨v, q1, q2, q3⟩
      · rw [q2, Out.bind_ok, if_neg (by decide), h4, List.filterMap_cons, q1]
      · rw [q2, Out.bind_ok, if_pos rfl, ev_bind, q3, Out.bind_ok, ev_bind, h4, List.filterMap_cons, q1]; rfl
  obtain ⟨v', h⟩ := key xs (List.replicate n none) (by simp) fun _ q => q
  unfold compM
  rw [ev_bind, hs, Out.bind_ok, if_pos (le_lim (by rw [List.length_map]; exact hl)), ev_bind]
  have : innerM vars.length n (compItems t cond elt c (xs.map f)) ⟨vars, obs⟩ = .ok (xs.filterMap g) ⟨vars, obs⟩ := by
    unfold innerM
    have e : ({ vars := List.take vars.length vars ++ List.replicate n none, obs := obs } : St) = ⟨vars ++ List.replicate n none, obs⟩ := by simp
    dsimp only
    rw [e, h]
  dsimp only
  rw [this]; rfl
theorem comp1_map {α : Type} {b : Nat} {src : M Src} {elt : M V} {vars : List (Option V)} {obs : List Ob} {xs : List α} {f : α → V} {c : List (Nat × Ob)} (hb : vars.length = b) (hs : src ⟨vars, obs⟩ = .ok ⟨xs.map f, c⟩ ⟨vars, obs⟩) (hl : xs.length ≤ 1000) (hc : ChkP c obs)
    (g : α → V) (hg : ∀ x ∈ xs, elt ⟨vars ++ [some (f x)], obs⟩ = .ok (g x) ⟨vars ++ [some (f x)], obs⟩) :
    compM b 1 src (.var b) (andM []) elt ⟨vars, obs⟩ = .ok (.flist (xs.map g)) ⟨vars, obs⟩ := by
  have := comp_map (n := 1) (t := .var b) (cond := andM []) (elt := elt) hb hs hl hc (fun x => some (g x)) (fun x hx zs hz => by
    refine ⟨[some (f x)], rfl, ?_, .inr ⟨g x, rfl, rfl, hg x hx⟩⟩
    match zs, hz with
    | [z], _ =>
      subst hb
      rw [ev_asg_var, ev_setVar, if_pos (by simp)]
      simp)
  rw [List.filterMap_eq_map'] at this
  exact this
/- names -/
theorem nth_pre {vars zs : List (Option V)} {i : Nat} {v : Option V} (h : vars[i]? = some v) : (vars ++ zs)[i]? = some v := by
  rw [List.getElem?_append_left (List.getElem?_eq_some_iff.mp h).1]; exact h
theorem nth_new {vars : List (Option V)} {i : Nat} {v : Option V} (h : vars.length = i) : (vars ++ [v])[i]? = some v := by rw [← h]; simp
theorem asg_one {t i : Nat} {v : V} {vars : List (Option V)} {obs : List Ob} (h : i < vars.length) : asg (.var i) v ⟨vars, obs⟩ = .ok () ⟨vars.set i (some v), obs⟩ := by
  rw [ev_asg_var, ev_setVar, if_pos h]
theorem ev_range {n : Nat} (h : n ≤ 1000) (st : St) : ((fRange [.int n]).bind toSrc) st = .ok ⟨(List.range n).map fun (k : Nat) => V.int k, []⟩ st := by
  rw [ev_bind, ev_range1, if_pos (by omega), ev_pure, Out.bind_ok, ev_toSrc_range, if_pos (small_small (by omega) (by omega)), range_nat]
end Mine
set_option autoImplicit false
set_option linter.unusedVariables false
set_option linter.unusedSimpArgs false
set_option maxRecDepth 100000
namespace Mine
open PySem
noncomputable def signT (m i k : Nat) : Nat := 97 + (m + (2 * i + 1) * k) % 26
noncomputable def signsB (s : List Nat) : Bool := decide (1 ≤ s.length) && decide (s.length ≤ 3) && s.all (fun c => decide (97 ≤ c) && decide (c ≤ 122)) && decide s.Nodup
theorem signsB_ok {s : List Nat} (h : signsB s = true) : SignsP s := by
  unfold signsB at h
  simp only [Bool.and_eq_true, decide_eq_true_eq, List.all_eq_true] at h
  exact ⟨h.1.1.1, h.1.1.2, h.1.2, h.2⟩
theorem signs_all : ∀ (m : Fin 26) (i : Fin 6) (n : Fin 3), signsB ((List.range (n.1 + 1)).map (signT m i)) = true := by decide +kernel
theorem signs_step (i : Fin 6) : idxL [V.int 1, V.int 3, V.int 5, V.int 7, V.int 9, V.int 11] ((i.1 : Nat) : Int) = some (.int ((2 * i.1 + 1 : Nat) : Int)) := by
  have e : [V.int 1, V.int 3, V.int 5, V.int 7, V.int 9, V.int 11] = (List.range 6).map fun i => V.int ((2 * i + 1 : Nat) : Int) := rfl
  rw [e]
  exact idx_nat (by rw [List.getElem?_map, List.getElem?_range i.2]; rfl) (by rw [List.length_map, List.length_range]; decide)
theorem modF (x : Int) {n : Nat} (hn : 0 < n) : ∃ m : Fin n, x % n = ((m.1 : Nat) : Int) := ⟨⟨(x % n).toNat, (Int.toNat_lt (Int.emod_nonneg x (Int.ne_of_gt (Int.ofNat_lt.mpr hn)))).mpr (Int.emod_lt_of_pos x (Int.ofNat_lt.mpr hn))⟩, (Int.toNat_of_nonneg (Int.emod_nonneg x (Int.ne_of_gt (Int.ofNat_lt.mpr hn)))).symm⟩
theorem signs_at {q : Int} {m : Nat} (h : q % 26 = (m : Int)) (i k : Nat) : (q + ((2 * i + 1 : Nat) : Int) * (k : Int)) % 26 = (((m + (2 * i + 1) * k) % 26 : Nat) : Int) := by
  rw [← Int.emod_add_emod, h, Int.natCast_emod, Int.natCast_add, Int.natCast_mul]; rfl
theorem signs_ok (d : Nat) (c : Int) : ∃ s, SignsP s ∧ ∀ st, cfOf p1 (d + 1) (.fn (nm "_law_signs")) [.int c] st = .ok (.str s) st := by
  obtain ⟨i, hi⟩ := modF (c / 78) (n := 6) (by decide)
  obtain ⟨n, hn⟩ := modF c (n := 3) (by decide)
  obtain ⟨m, hm⟩ := modF (c / 3) (n := 26) (by decide)
  have h1 := signs_step i
  have hn' : 1 + c % 3 = ((n.1 + 1 : Nat) : Int) := (congrArg (1 + ·) hn).trans (Int.add_comm _ _)
  have hi' : c / 78 % 6 = ((i.1 : Nat) : Int) := hi
  have nl3 : n.1 + 1 ≤ 3 := n.2
  refine ⟨(List.range (n.1 + 1)).map (signT m i), signsB_ok (signs_all m i n), fun st => ?_⟩
  obtain ⟨vars, obs⟩ := st
  have n1 : n.1 + 1 ≤ 1000 := Nat.le_trans nl3 (by decide)
  have hr := fun st => ev_range n1 st
  simp only [ev_bind] at hr
  have i2 : i.1 < 6 := i.2
  have hc := comp1_map (b := 3) (vars := [some (.int c), some (.str letters), some (.int ((2 * i.1 + 1 : Nat) : Int))]) (obs := obs) (src := (appM fRange [binM .Add (constM (.int 1)) (binM .Mod (varM 0) (constM (.int 3)))]).bind toSrc) (elt := bd__law_signs_1 d) (xs := List.range (n.1 + 1)) (f := fun (k : Nat) => V.int k) (c := []) rfl
    (by simp only [ev_bind, ev_app, ev_seqM_cons, ev_seqM_nil, ev_bin, ev_const, ev_var, List.getElem?_cons_zero, Out.bind_ok, ev_mod_pos (b := 3) (by decide), ev_add_int, ev_pure, hn', hr]) (by rw [List.length_range]; exact n1) (.nil _) (fun k => V.str [signT m i k]) (fun k hk => by
      have hk' : k < 1000 := Nat.lt_of_lt_of_le (List.mem_range.mp hk) n1
      have hm' : mulG ((2 * i.1 + 1 : Nat) : Int) (k : Int) := mulG_nat (by omega) (Nat.le_of_lt hk')
      have e := signs_at hm i.1 k
      have hx := idx_letters (m := (((m.1 + (2 * i.1 + 1) * k) % 26 : Nat) : Int)) ⟨Int.natCast_nonneg _, Int.ofNat_lt.mpr (Nat.mod_lt _ (by decide))⟩
      rw [Int.toNat_natCast] at hx
      simp only [bd__law_signs_1, ev_subM, ev_bind, ev_var, ev_bin, ev_const, List.cons_append, List.nil_append, List.getElem?_cons_succ, List.getElem?_cons_zero, Out.bind_ok, ev_div_pos (b := 3) (by decide), ev_mul_int hm', ev_pure, ev_add_int, ev_mod_pos (b := 26) (by decide), e, ev_sub_str, hx, Option.map_some, ev_ofOpt]
      rfl)
  have hj := ev_join (s := (List.range (n.1 + 1)).map (signT m i)) (by rw [List.length_map, List.length_range]; exact n1)
  rw [List.map_map] at hj
  rw [cf__law_signs]
  refine run_pure (fl := .ret (.str ((List.range (n.1 + 1)).map (signT m i)))) (vars' := [some (.int c), some (.str letters), some (.int ((2 * i.1 + 1 : Nat) : Int))]) rfl ?_ (by simp only [flowV, lR0, lR1, lR2, lR3, lR4, lR5, lR6, lR7, lR8, lR9, lR10, lR11, lR12, lR13])
  have hj' : ∀ st, mJoin [.str [], .flist ((List.range (n.1 + 1)).map fun k => V.str [signT m i k])] st = .ok (.str ((List.range (n.1 + 1)).map (signT m i))) st := hj
  unfold letters at hc
  have l6 : ([V.int 1, V.int 3, V.int 5, V.int 7, V.int 9, V.int 11]).length ≤ 1000 := by decide
  simp only [List.map_cons, List.map_nil, List.cons_append, List.nil_append, List.replicate, Nat.reduceSub, ev_seqS_cons, ev_bind, ev_assign, ev_const, Out.bind_ok, ev_asg_var, ev_setVar, List.length_cons, List.length_nil, Nat.reduceAdd, Nat.reduceLT, if_true, List.set, ev_pure, seqK_next, ev_subM, ev_listM, ev_seqM_cons, ev_seqM_nil, ev_allocL l6, ev_bin, ev_var, List.getElem?_cons_succ, List.getElem?_cons_zero, ev_div_pos (b := 78) (by decide), ev_mod_pos (b := 6) (by decide), hi', ev_sub_flist, h1, ev_ofOpt, ev_ret, ev_meth, ev_pickS, hc, hj', seqK_ret]
  rfl
/- what is drawn -/
theorem getD_heavy {xs : List Int} (hh : ∀ x ∈ xs, heavy 1048577 x) (k : Nat) : heavy 1048577 (xs.getD k 0) := by
  by_cases h : k < xs.length
  · rw [List.getD_eq_getElem?_getD, List.getElem?_eq_getElem h]; exact hh _ (List.getElem_mem h)
  · rw [List.getD_eq_getElem?_getD, List.getElem?_eq_none (by omega)]; exact Nat.lt_of_le_of_lt (Nat.le_of_eq rfl) (by decide : 0 < 1048577)
theorem modN (x : Int) {n : Nat} (hn : 0 < n) : ∃ m : Nat, x % n = (m : Int) ∧ m < n := ⟨(x % n).toNat, by have := Int.emod_nonneg x (b := n) (by omega); omega, by have := Int.emod_lt_of_pos x (b := n) (by omega); have := Int.emod_nonneg x (b := n) (by omega); omega⟩
noncomputable def drawRow (c : Int) (k n : Nat) : List Nat := (List.range k).map fun (p : Nat) => (mixed c p / 16 % (n : Int)).toNat
noncomputable def drawEnd (c : Int) : Bool := mixed c 5 / 64 % 2 == 1
theorem row_comp (d : Nat) {c : Int} (hc : heavy 1048577 c) {k n : Nat} (hk : k ≤ 3) (hn : 0 < n) {vars : List (Option V)} {obs : List Ob} (h9 : vars.length = 9) (h2 : vars[2]? = some (some (.int k))) (h4 : vars[4]? = some (some (.int n))) (h8 : vars[8]? = some (some (.int c))) :
    compM 9 1 ((appM fRange [varM 2]).bind toSrc) (.var 9) (andM []) (bd__law_drawn_1 (d + 1)) ⟨vars, obs⟩ = .ok (nl (drawRow c k n)) ⟨vars, obs⟩ := by
  have k1 : k ≤ 1000 := Nat.le_trans hk (by decide)
  have hr := fun st => ev_range k1 st
  simp only [ev_bind] at hr
  have hnp : (0 : Int) < n := Int.ofNat_lt.mpr hn
  have h := comp1_map (elt := bd__law_drawn_1 (d + 1)) (vars := vars) (obs := obs) (c := []) (src := (appM fRange [varM 2]).bind toSrc) (xs := List.range k) (f := fun (k : Nat) => V.int k) h9 (by simp only [ev_bind, ev_app, ev_seqM_cons, ev_seqM_nil, ev_var, h2, Out.bind_ok, ev_pure, hr]) (by rw [List.length_range]; exact k1) (.nil _) (fun p => V.int ((mixed c p / 16 % (n : Int)).toNat : Nat)) (fun p hp => by
    have hp' : p ≤ 1000 := Nat.le_trans (Nat.le_of_lt (List.mem_range.mp hp)) k1
    have hm := mixed_eq d c p ⟨vars ++ [some (V.int p)], obs⟩ hc ⟨Int.natCast_nonneg _, Int.ofNat_le.mpr hp'⟩
    have e : ((mixed c p / 16 % (n : Int)).toNat : Int) = mixed c p / 16 % (n : Int) := Int.toNat_of_nonneg (Int.emod_nonneg _ (Int.ne_of_gt hnp))
    rw [e]
    simp only [bd__law_drawn_1, ev_bin, ev_bind, ev_app, ev_seqM_cons, ev_seqM_nil, ev_var, ev_const, nth_new h9, nth_pre h8, nth_pre h4, Out.bind_ok, ev_pure, hm, ev_div_pos (b := 16) (by decide), ev_mod_pos hnp])
  rw [h]
  unfold nl drawRow
  rw [List.map_map]; rfl
theorem drawRow_ok (c : Int) (k : Nat) {n : Nat} (hn : 0 < n) : (drawRow c k n).length = k ∧ ∀ i ∈ drawRow c k n, i < n := by
  unfold drawRow
  refine ⟨by simp, fun i hi => ?_⟩
  obtain ⟨p, _, rfl⟩ := List.mem_map.mp hi
  obtain ⟨m, hm, hlt⟩ := modN (mixed c p / 16) hn
  rw [hm]; simpa using hlt
noncomputable def drawRows (xs : List Int) (start k n j : Nat) : List (List Nat) := (List.range j).map fun r => drawRow (xs.getD (start + 1 + r) 0) k n
noncomputable def drawEnds (xs : List Int) (start j : Nat) : List Bool := (List.range j).map fun r => drawEnd (xs.getD (start + 1 + r) 0)
theorem drawn_loop (d : Nat) {xs : List Int} (hx : xs.length ≤ 63) (hh : ∀ x ∈ xs, heavy 1048577 x) {k n start most : Nat} (hk : k ≤ 3) (hn : 0 < n) (hn20 : n ≤ 100) (hst : start ≤ 100) (obs : List Ob) :
    ∃ z y, forItems (.var 7) (bd__law_drawn_2 (d + 1)) [] ((List.range n).map fun (k : Nat) => V.int k) ⟨[some (.alist (xs.map .int)), some (.int start), some (.int k), some (.int most), some (.int n), some (.ref obs.length), some (.ref (obs.length + 1)), none, none], obs ++ [.list [], .list []]⟩ =
        .ok .next ⟨[some (.alist (xs.map .int)), some (.int start), some (.int k), some (.int most), some (.int n), some (.ref obs.length), some (.ref (obs.length + 1)), z, y], obs ++ [.list ((drawRows xs start k n n).map nl), .list ((drawEnds xs start n).map V.bool)]⟩ := by
  obtain ⟨st, h1, z, y, rfl⟩ := for_map (t := .var 7) (body := bd__law_drawn_2 (d + 1)) (c := []) (f := fun (k : Nat) => V.int k) (xs := List.range n)
    (fun j st => ∃ z y, st = ⟨[some (.alist (xs.map .int)), some (.int start), some (.int k), some (.int most), some (.int n), some (.ref obs.length), some (.ref (obs.length + 1)), z, y], obs ++ [.list ((drawRows xs start k n j).map nl), .list ((drawEnds xs start j).map V.bool)]⟩)
    (fun _ _ _ => .nil _) (fun j x st hx' hI => by
      obtain ⟨z, y, rfl⟩ := hI
      have hj : j < n := by simpa using (List.getElem?_eq_some_iff.mp hx').1
      have hxj : x = j := by simpa [hj] using hx'.symm
      subst hxj
      have hc : ∀ st, cfOf p1 (d + 1) (.fn (nm "_law_cell_at")) [.alist (xs.map .int), .int ((start : Int) + 1 + (x : Int))] st = .ok (.int (xs.getD (start + 1 + x) 0)) st := fun st => cell_eq d xs (start + 1 + x) st hx (by omega)
      have e3 : drawRows xs start k n (x + 1) = drawRows xs start k n x ++ [drawRow (xs.getD (start + 1 + x) 0) k n] := by unfold drawRows; rw [List.range_succ, List.map_append]; rfl
      have e4 : drawEnds xs start (x + 1) = drawEnds xs start x ++ [drawEnd (xs.getD (start + 1 + x) 0)] := by unfold drawEnds; rw [List.range_succ, List.map_append]; rfl
      have l1 : ((drawRows xs start k n x).map nl).length ≤ 1000 := by unfold drawRows; rw [List.length_map, List.length_map, List.length_range]; omega
      have l2 : ((drawEnds xs start x).map V.bool).length ≤ 1000 := by unfold drawEnds; rw [List.length_map, List.length_map, List.length_range]; omega
      have hhc : heavy 1048577 (xs.getD (start + 1 + x) 0) := getD_heavy hh _
      generalize xs.getD (start + 1 + x) 0 = c at hc e3 e4 hhc
      generalize drawRows xs start k n x = R at *
      generalize drawEnds xs start x = B at *
      refine ⟨_, ?_, some (.int x), some (.int c), rfl⟩
      rw [e3, e4, List.map_append, List.map_append, List.map_singleton, List.map_singleton]
      have hm := fun st => mixed_eq d c 5 st hhc (by decide)
      have hrow := row_comp d hhc hk hn (vars := [some (.alist (xs.map .int)), some (.int start), some (.int k), some (.int most), some (.int n), some (.ref obs.length), some (.ref (obs.length + 1)), some (.int x), some (.int c)]) (obs := obs ++ [.list (R.map nl), .list (B.map V.bool)]) rfl rfl rfl rfl
      rw [ev_bind, asg_one (t := 7) (by simp), Out.bind_ok]
      simp only [List.set, bd__law_drawn_2, ev_seqS_cons, ev_bind, ev_assign, ev_app, ev_seqM_cons, ev_seqM_nil, ev_bin, ev_var, ev_const, List.getElem?_cons_succ, List.getElem?_cons_zero, Out.bind_ok, ev_pure, ev_add_int, hc, ev_asg_var, ev_setVar, List.length_cons, List.length_nil, Nat.reduceAdd, Nat.reduceLT, if_true, seqK_next, ev_expr, ev_meth, ev_pickL, ev_getList, tl0, hrow, ev_append, ev_appS _ _ l1, ev_setOb, ts0, List.length_append]
      rw [if_pos (by omega)]
      simp only [Out.bind_ok, ev_pure, ev_bind, seqK_next, ev_seqS_cons, ev_expr, ev_meth, ev_var, ev_const, List.getElem?_cons_succ, List.getElem?_cons_zero, ev_pickL, ev_getList, tl1, ev_seqM_cons, ev_seqM_nil, ev_boolV, ev_cmp, ev_bin, ev_app, hm, ev_div_pos (b := 64) (by decide), ev_mod_pos (b := 2) (by decide), ev_chain1, ev_eq, ev_eq_int, ev_append, ev_appS _ _ l2, ev_setOb, ts1, List.length_append, List.length_cons, List.length_nil]
      rw [if_pos (by omega)]
      rfl) (st := ⟨[some (.alist (xs.map .int)), some (.int start), some (.int k), some (.int most), some (.int n), some (.ref obs.length), some (.ref (obs.length + 1)), none, none], obs ++ [.list [], .list []]⟩) ⟨none, none, rfl⟩
  rw [List.length_range] at h1
  exact ⟨z, y, h1⟩
theorem enum_cons (i : Nat) (a : V) (l : List V) : enumFrom i (a :: l) = .tuple [.int i, a] :: enumFrom (i + 1) l := rfl
theorem enum_map {α : Type} (f : α → V) : ∀ (l : List α) (i : Nat), enumFrom i (l.map f) = (l.zipIdx i).map fun p => V.tuple [.int p.2, f p.1]
  | [], _ => rfl
  | a :: l, i => by rw [List.map_cons, enum_cons, enum_map f l (i + 1)]; rfl
theorem slice_tail {α : Type} (xs : List α) : sliceL xs (some 1) none = xs.drop 1 := by
  unfold sliceL clipAt
  cases xs with
  | nil => rfl
  | cons a xs => 
    have e : (max 0 (min (if (1 : Int) < 0 then 1 + ((a :: xs).length : Int) else 1) ((a :: xs).length : Int))).toNat = 1 := by
      rw [if_neg (by decide)]; simp only [List.length_cons]; omega
    simp only [Option.elim, e]
    simp
noncomputable def ringRow (n i : Nat) (w : List Nat) : List Nat := (i + 1) % n :: w.drop 1
noncomputable def ringRows (n : Nat) (rows : List (List Nat)) : List (List Nat) := rows.zipIdx.map fun p => ringRow n p.2 p.1
noncomputable def ringEnds (n : Nat) : List Bool := (List.range n).map fun p => decide (p = n - 1)
theorem ring_comp (d : Nat) {n : Nat} (hn : 0 < n) (hn2 : n ≤ 100) {rows : List (List Nat)} (hr : rows.length ≤ 100) (hw : ∀ w ∈ rows, w.length ≤ 100) {vars : List (Option V)} {obs : List Ob} {a : Nat} (h9 : vars.length = 9) (h4 : vars[4]? = some (some (.int n))) (h5 : vars[5]? = some (some (.ref a))) (ha : obs[a]? = some (.list (rows.map nl))) :
    compM 9 2 ((varM 5).bind enumV) (.tup [9, 10]) (andM []) (bd__law_drawn_3 (d + 1)) ⟨vars, obs⟩ = .ok (nll (ringRows n rows)) ⟨vars, obs⟩ := by
  have hnp : (0 : Int) < n := Int.ofNat_lt.mpr hn
  have h := comp_map (n := 2) (t := .tup [9, 10]) (cond := andM []) (elt := bd__law_drawn_3 (d + 1)) (vars := vars) (obs := obs) (src := (varM 5).bind enumV) (xs := rows.zipIdx) (f := fun p => V.tuple [.int p.2, nl p.1]) h9 (c := [(a, .list (rows.map nl))]) (by simp only [ev_bind, ev_var, h5, Out.bind_ok]; rw [ev_enum_ref ha, enum_map]) (by rw [List.length_zipIdx]; exact Nat.le_trans hr (by decide)) (.one ha)
    (fun p => some (nl (ringRow n p.2 p.1))) (fun p hp zs hz => by
    obtain ⟨w, i⟩ := p
    have hwm : w ∈ rows := List.fst_mem_of_mem_zipIdx hp
    match zs, hz with
    | [z1, z2], _ =>
      refine ⟨[some (.int i), some (nl w)], rfl, ?_, .inr ⟨_, rfl, rfl, ?_⟩⟩
      · have e1 : (vars ++ [z1, z2]).set 9 (some (V.int i)) = vars ++ [some (V.int i), z2] := by rw [← h9]; simp
        have e2 : (vars ++ [some (V.int i), z2]).set 10 (some (nl w)) = vars ++ [some (V.int i), some (nl w)] := by
          have : 10 = vars.length + 1 := by rw [h9]
          rw [this, List.set_append_right _ _ (Nat.le_succ _)]; simp
        rw [ev_asg_tup, ev_setVars_cons, ev_bind, ev_setVar, if_pos (by simp [h9]), Out.bind_ok, e1, ev_setVars_cons, ev_bind, ev_setVar, if_pos (by simp [h9]), Out.bind_ok, e2]
        rfl
      · have e9 : (vars ++ [some (V.int i), some (nl w)])[9]? = some (some (.int i)) := by rw [← h9]; simp
        have e10 : (vars ++ [some (V.int i), some (nl w)])[10]? = some (some (nl w)) := by
          have : 10 = vars.length + 1 := by rw [h9]
          rw [this, List.getElem?_append_right (Nat.le_succ _)]; simp
        have l1 : (w.map fun (n : Nat) => V.int n).length ≤ 1000 := by rw [List.length_map]; exact Nat.le_trans (hw w hwm) (by decide)
        have l2 : ([V.int (((i + 1) % n : Nat) : Int)] ++ (w.map fun (n : Nat) => V.int n).drop 1).length ≤ 1000 := by
          have := hw w hwm
          simp only [List.length_append, List.length_cons, List.length_nil, List.length_drop, List.length_map]; omega
        have e : ((i : Int) + 1) % n = (((i + 1) % n : Nat) : Int) := by rw [Int.natCast_emod]; rfl
        have e3 : nl (ringRow n i w) = .flist ([V.int (((i + 1) % n : Nat) : Int)] ++ (w.map fun (n : Nat) => V.int n).drop 1) := by
          unfold nl ringRow
          rw [List.map_cons, List.map_drop]; rfl
        rw [e3]
        unfold nl at e9 e10 ⊢
        simp only [bd__law_drawn_3, ev_bin, ev_bind, ev_listM, ev_seqM_cons, ev_seqM_nil, ev_var, ev_const, e9, e10, nth_pre h4, Out.bind_ok, ev_pure, ev_add_int, ev_mod_pos hnp, e, ev_allocL (xs := [_]) (by simp), ev_sliceM, ev_optI_none, ev_optI_some, ev_asInt, ev_slice_flist, ev_sliS _ _ l1, slice_tail, ev_add_flist, ev_allocL l2])
  rw [h, List.filterMap_eq_map']
  unfold nll ringRows
  rw [List.map_map]; rfl
theorem endN_comp (d : Nat) {n : Nat} (hn : 0 < n) (hn2 : n ≤ 100) {vars : List (Option V)} {obs : List Ob} (h9 : vars.length = 9) (h4 : vars[4]? = some (some (.int n))) :
    compM 9 1 ((appM fRange [varM 4]).bind toSrc) (.var 9) (andM []) (bd__law_drawn_4 (d + 1)) ⟨vars, obs⟩ = .ok (bl (ringEnds n)) ⟨vars, obs⟩ := by
  have n1 : n ≤ 1000 := Nat.le_trans hn2 (by decide)
  have hr := fun st => ev_range n1 st
  simp only [ev_bind] at hr
  have h := comp1_map (elt := bd__law_drawn_4 (d + 1)) (vars := vars) (obs := obs) (c := []) (src := (appM fRange [varM 4]).bind toSrc) (xs := List.range n) (f := fun (k : Nat) => V.int k) h9 (by simp only [ev_bind, ev_app, ev_seqM_cons, ev_seqM_nil, ev_var, h4, Out.bind_ok, ev_pure, hr]) (by rw [List.length_range]; exact n1) (.nil _) (fun p => V.bool (decide (p = n - 1))) (fun p hp => by
    have e : ((p : Int) == (n : Int) - 1) = decide (p = n - 1) := by
      rw [Bool.eq_iff_iff, beq_iff_eq, decide_eq_true_eq]; omega
    simp only [bd__law_drawn_4, ev_boolV, ev_cmp, ev_bin, ev_bind, ev_var, ev_const, nth_new h9, nth_pre h4, Out.bind_ok, ev_pure, ev_chain1, ev_sub_int, ev_eq, ev_eq_int, e])
  rw [h]
  unfold bl ringEnds
  rw [List.map_map]; rfl
theorem drawn_head (d : Nat) {xs : List Int} (hx : xs.length ≤ 63) (hh : ∀ x ∈ xs, heavy 1048577 x) {k start most n : Nat} {c : Int} (hk : k ≤ 3) (hst : start ≤ 100) (hmp : (0 : Int) < most) (hnn : 1 + c % most = (n : Int)) (hn0 : 0 < n) (hn1 : n ≤ 100)
    (c1 : ∀ st, cfOf p1 (d + 1) (.fn (nm "_law_cell_at")) [.alist (xs.map .int), .int start] st = .ok (.int c) st) (obs : List Ob) :
    ∃ z y, ∀ rest, seqS (assignM (.var 4) (binM .Add (constM (.int 1)) (binM .Mod (appM (cfOf p1 (d + 1) (.fn (nm "_law_cell_at"))) [varM 0, varM 1]) (varM 3))) ::
      assignM (.var 5) ((listM []).bind ownL) :: assignM (.var 6) ((listM []).bind ownL) :: forM (.var 7) ((appM fRange [varM 4]).bind toSrc) (bd__law_drawn_2 (d + 1)) :: rest) ⟨[some (.alist (xs.map .int)), some (.int start), some (.int k), some (.int most), none, none, none, none, none], obs⟩ =
      seqS rest ⟨[some (.alist (xs.map .int)), some (.int start), some (.int k), some (.int most), some (.int n), some (.ref obs.length), some (.ref (obs.length + 1)), z, y], obs ++ [.list ((drawRows xs start k n n).map nl), .list ((drawEnds xs start n).map V.bool)]⟩ := by
  obtain ⟨z, y, hl⟩ := drawn_loop d hx hh (k := k) (most := most) hk hn0 hn1 hst obs
  refine ⟨z, y, fun rest => ?_⟩
  have hr := fun st => ev_range (Nat.le_trans hn1 (by decide : 100 ≤ 1000)) st
  simp only [ev_bind] at hr
  simp only [ev_seqS_cons, ev_bind, ev_assign, ev_bin, ev_const, ev_app, ev_seqM_cons, ev_seqM_nil, ev_var, List.getElem?_cons_succ, List.getElem?_cons_zero, Out.bind_ok, ev_pure, c1, ev_mod_pos hmp, ev_add_int, hnn, ev_asg_var, ev_setVar, List.length_cons, List.length_nil, List.length_append, Nat.zero_add, Nat.reduceAdd, Nat.reduceLT, if_true, List.set, seqK_next, ev_listM, ev_allocL (xs := []) (by decide), ev_ownL, ev_alloc, List.append_assoc, List.cons_append, List.nil_append, ev_for, hr, hl]
theorem drawn_ok (d : Nat) {xs : List Int} (hx : xs.length ≤ 63) (hh : ∀ x ∈ xs, heavy 1048577 x) {k start most : Nat} (hk : 1 ≤ k ∧ k ≤ 3) (hst : start ≤ 100) (hm : 1 ≤ most ∧ most ≤ 100) :
    ∃ (rows : List (List Nat)) (ends : List Bool), 1 ≤ rows.length ∧ rows.length ≤ most ∧ ends.length = rows.length ∧ (∀ w ∈ rows, w.length = k ∧ ∀ i ∈ w, i < rows.length) ∧
      ∀ st, cfOf p1 (d + 2) (.fn (nm "_law_drawn")) [.alist (xs.map .int), .int start, .int k, .int most] st = .ok (.tuple [nll rows, bl ends]) st := by
  have c1 : ∀ st, cfOf p1 (d + 1) (.fn (nm "_law_cell_at")) [.alist (xs.map .int), .int start] st = .ok (.int (xs.getD start 0)) st := fun st => cell_eq d xs start st hx (by omega)
  generalize xs.getD start 0 = c at c1
  have hmp : (0 : Int) < most := by omega
  obtain ⟨n', hn', hlt'⟩ := modN c (n := most) (by omega)
  obtain ⟨n, hn⟩ : ∃ n, n = n' + 1 := ⟨_, rfl⟩
  have hnn : 1 + c % most = (n : Int) := by omega
  have hn0 : 0 < n := by omega
  have hn1 : n ≤ 100 := by omega
  have hrw : ∀ w ∈ drawRows xs start k n n, w.length = k ∧ ∀ i ∈ w, i < n := fun w hw => by
    unfold drawRows at hw
    obtain ⟨j, _, rfl⟩ := List.mem_map.mp hw
    exact drawRow_ok _ k hn0
  have hlr : (drawRows xs start k n n).length = n := by unfold drawRows; rw [List.length_map, List.length_range]
  have hle : (drawEnds xs start n).length = n := by unfold drawEnds; rw [List.length_map, List.length_range]
  have hrl : (ringRows n (drawRows xs start k n n)).length = n := by unfold ringRows; rw [List.length_map, List.length_zipIdx, hlr]
  have hel : (ringEnds n).length = n := by unfold ringEnds; rw [List.length_map, List.length_range]
  have hnm : n ≤ most := by omega
  by_cases hc : c / 32 % 3 = 1
  · refine ⟨ringRows n (drawRows xs start k n n), ringEnds n, ?_, ?_, ?_, ?_, fun st => ?_⟩
    · rw [hrl]; exact hn0
    · rw [hrl]; exact hnm
    · rw [hrl, hel]
    · rw [hrl]
      intro w hw
      unfold ringRows at hw
      obtain ⟨⟨w', i⟩, hp, rfl⟩ := List.mem_map.mp hw
      obtain ⟨q1, q2⟩ := hrw w' (List.fst_mem_of_mem_zipIdx hp)
      unfold ringRow
      refine ⟨by simp; omega, fun j hj => ?_⟩
      rcases List.mem_cons.mp hj with rfl | hj
      · exact Nat.mod_lt _ hn0
      · exact q2 j (List.mem_of_mem_drop hj)
    · obtain ⟨vars, obs⟩ := st
      obtain ⟨z, y, hd⟩ := drawn_head d hx hh hk.2 hst hmp hnn hn0 hn1 c1 obs
      have h1 := ring_comp d hn0 hn1 (rows := drawRows xs start k n n) (by omega) (fun w hw => by have := (hrw w hw).1; omega) (vars := [some (.alist (xs.map .int)), some (.int start), some (.int k), some (.int most), some (.int n), some (.ref obs.length), some (.ref (obs.length + 1)), z, y]) (obs := obs ++ [.list ((drawRows xs start k n n).map nl), .list ((drawEnds xs start n).map V.bool)]) rfl rfl rfl (tl0 _ _ _)
      have h2 := endN_comp d hn0 hn1 (vars := [some (.alist (xs.map .int)), some (.int start), some (.int k), some (.int most), some (.int n), some (.ref (obs.length + 2)), some (.ref (obs.length + 1)), z, y]) (obs := obs ++ [.list ((drawRows xs start k n n).map nl), .list ((drawEnds xs start n).map V.bool), .list ((ringRows n (drawRows xs start k n n)).map nl)]) rfl rfl
      unfold nll at h1
      unfold bl at h2
      rw [cf__law_drawn]
      refine run_ok (fl := .ret (.tuple [.ref (obs.length + 2), .ref (obs.length + 3)])) (vars' := [some (.alist (xs.map .int)), some (.int start), some (.int k), some (.int most), some (.int n), some (.ref (obs.length + 2)), some (.ref (obs.length + 3)), z, y]) (t := [.list ((drawRows xs start k n n).map nl), .list ((drawEnds xs start n).map V.bool), .list ((ringRows n (drawRows xs start k n n)).map nl), .list ((ringEnds n).map V.bool)]) rfl ?_ ?_
      · refine (hd _).trans ?_
        simp [c1, hc, h1, h2, tupL, lim]
      · refine res_pair (res_list (by omega) (tl2 ..) ?_) (res_list (by omega) (tl3 ..) ?_)
        · have := nll_pure (ringRows n (drawRows xs start k n n)); unfold nll at this; simpa only [lR0, lR1, lR2, lR3, lR4, lR5, lR6, lR7, lR8, lR9, lR10, lR11, lR12, lR13] using this
        · have := bl_pure (ringEnds n); unfold bl at this; simpa only [lR0, lR1, lR2, lR3, lR4, lR5, lR6, lR7, lR8, lR9, lR10, lR11, lR12, lR13] using this
  · refine ⟨drawRows xs start k n n, drawEnds xs start n, by rw [hlr]; exact hn0, by rw [hlr]; exact hnm, by rw [hlr, hle], by rw [hlr]; exact hrw, fun st => ?_⟩
    obtain ⟨vars, obs⟩ := st
    obtain ⟨z, y, hd⟩ := drawn_head d hx hh hk.2 hst hmp hnn hn0 hn1 c1 obs
    rw [cf__law_drawn]
    refine run_ok (fl := .ret (.tuple [.ref obs.length, .ref (obs.length + 1)])) (vars' := [some (.alist (xs.map .int)), some (.int start), some (.int k), some (.int most), some (.int n), some (.ref obs.length), some (.ref (obs.length + 1)), z, y]) (t := [.list ((drawRows xs start k n n).map nl), .list ((drawEnds xs start n).map V.bool)]) rfl ?_ ?_
    · refine (hd _).trans ?_
      simp [c1, hc, tupL, lim]
    · refine res_pair (res_list (by omega) (tl0 ..) ?_) (res_list (by omega) (tl1 ..) ?_)
      · have := nll_pure (drawRows xs start k n n); unfold nll at this; simpa only [lR0, lR1, lR2, lR3, lR4, lR5, lR6, lR7, lR8, lR9, lR10, lR11, lR12, lR13] using this
      · have := bl_pure (drawEnds xs start n); unfold bl at this; simpa only [lR0, lR1, lR2, lR3, lR4, lR5, lR6, lR7, lR8, lR9, lR10, lR11, lR12, lR13] using this
end Mine
set_option autoImplicit false
set_option linter.unusedVariables false
set_option linter.unusedSectionVars false
namespace Mine
section
variable {α β : Type} [DecidableEq α] [DecidableEq β]
/- what is new, by κ, is put behind -/
def addBy (κ : α → β) (q l : List α) : List α := l.foldl (fun q x => if κ x ∈ q.map κ then q else q ++ [x]) q
abbrev addAll (q l : List α) : List α := addBy (fun x : α => x) q l
theorem addBy_cons (κ : α → β) (q l : List α) (x : α) : addBy κ q (x :: l) = addBy κ (if κ x ∈ q.map κ then q else q ++ [x]) l := rfl
theorem addBy_append (κ : α → β) (q l l' : List α) : addBy κ q (l ++ l') = addBy κ (addBy κ q l) l' := List.foldl_append
theorem addBy_pre (κ : α → β) : ∀ (l q : List α), ∃ t, addBy κ q l = q ++ t
  | [], q => ⟨[], by simp [addBy]⟩
  | x :: l, q => by
    rw [addBy_cons]
    obtain ⟨t, h⟩ := addBy_pre κ l (if κ x ∈ q.map κ then q else q ++ [x])
    rw [h]
    split
    · exact ⟨t, rfl⟩
    · exact ⟨x :: t, by simp⟩
theorem addBy_mem (κ : α → β) : ∀ (l q : List α) {x : α}, x ∈ addBy κ q l → x ∈ q ∨ x ∈ l
  | [], q, x, h => .inl h
  | y :: l, q, x, h => by
    rw [addBy_cons] at h
    rcases addBy_mem κ l _ h with h | h
    · split at h
      · exact .inl h
      · rcases List.mem_append.mp h with h | h
        · exact .inl h
        · exact .inr (by simp at h; simp [h])
    · exact .inr (.tail _ h)
theorem map_addBy (κ : α → β) : ∀ (l q : List α), (addBy κ q l).map κ = addAll (q.map κ) (l.map κ)
  | [], q => rfl
  | x :: l, q => by
    rw [addBy_cons, map_addBy κ l, List.map_cons]
    show _ = addBy _ _ _
    rw [addBy_cons]
    simp only [List.map_id']
    split
    · rfl
    · simp
theorem mem_addAll : ∀ {l q : List α} {x : α}, x ∈ addAll q l ↔ x ∈ q ∨ x ∈ l
  | [], q, x => by simp [addBy]
  | y :: l, q, x => by
    show x ∈ addBy _ _ _ ↔ _
    rw [addBy_cons]
    simp only [List.map_id']
    rw [show (x ∈ addBy (fun x : α => x) (if y ∈ q then q else q ++ [y]) l ↔ _) from mem_addAll (l := l)]
    split
    · rename_i h
      simp only [List.mem_cons]
      constructor
      · rintro (h | h)
        · exact .inl h
        · exact .inr (.inr h)
      · rintro (h' | rfl | h')
        · exact .inl h'
        · exact .inl h
        · exact .inr h'
    · simp only [List.mem_append, List.mem_cons, List.not_mem_nil, or_false]
      exact or_assoc
theorem addAll_nodup : ∀ {l q : List α}, q.Nodup → (addAll q l).Nodup
  | [], q, h => h
  | y :: l, q, h => by
    show (addBy _ _ _).Nodup
    rw [addBy_cons]
    refine addAll_nodup ?_
    simp only [List.map_id']
    split
    · exact h
    · rename_i hn
      exact List.nodup_append.mpr ⟨h, by simp, fun a ha b hb => by simp at hb; subst hb; exact fun q => hn (q ▸ ha)⟩
/- a search by breadth -/
def bfs (κ : α → β) (succ : α → List α) (x0 : α) : Nat → List α
  | 0 => [x0]
  | a + 1 => match (bfs κ succ x0 a)[a]? with
    | some x => addBy κ (bfs κ succ x0 a) (succ x)
    | none => bfs κ succ x0 a
variable {κ : α → β} {succ : α → List α} {x0 : α}
theorem bfs_some {a : Nat} {x : α} (h : (bfs κ succ x0 a)[a]? = some x) : bfs κ succ x0 (a + 1) = addBy κ (bfs κ succ x0 a) (succ x) := by
  show (match (bfs κ succ x0 a)[a]? with | some x => addBy κ (bfs κ succ x0 a) (succ x) | none => bfs κ succ x0 a) = _
  rw [h]
theorem bfs_none {a : Nat} (h : (bfs κ succ x0 a).length ≤ a) : bfs κ succ x0 (a + 1) = bfs κ succ x0 a := by
  show (match (bfs κ succ x0 a)[a]? with | some x => addBy κ (bfs κ succ x0 a) (succ x) | none => bfs κ succ x0 a) = _
  rw [List.getElem?_eq_none h]
theorem bfs_step (a : Nat) : ∃ t, bfs κ succ x0 (a + 1) = bfs κ succ x0 a ++ t := by
  cases h : (bfs κ succ x0 a)[a]? with
  | some x => rw [bfs_some h]; exact addBy_pre κ _ _
  | none => rw [bfs_none (by simpa using h)]; exact ⟨[], by simp⟩
theorem bfs_pre {a b : Nat} (h : a ≤ b) : ∃ t, bfs κ succ x0 b = bfs κ succ x0 a ++ t := by
  induction h with
  | refl => exact ⟨[], by simp⟩
  | step _ ih =>
    obtain ⟨t, h1⟩ := ih
    obtain ⟨u, h2⟩ := bfs_step (κ := κ) (succ := succ) (x0 := x0) _
    exact ⟨t ++ u, by rw [h2, h1, List.append_assoc]⟩
theorem bfs_done {a b : Nat} (h : a ≤ b) (hl : (bfs κ succ x0 a).length ≤ a) : bfs κ succ x0 b = bfs κ succ x0 a := by
  induction h with
  | refl => rfl
  | step h ih => rw [bfs_none (by rw [ih]; exact Nat.le_trans hl h), ih]
theorem bfs_nodup : ∀ a, ((bfs κ succ x0 a).map κ).Nodup
  | 0 => by simp [bfs]
  | a + 1 => by
    cases h : (bfs κ succ x0 a)[a]? with
    | some x => rw [bfs_some h, map_addBy]; exact addAll_nodup (bfs_nodup a)
    | none => rw [bfs_none (by simpa using h)]; exact bfs_nodup a
theorem bfs_all {P : α → Prop} (h0 : P x0) (hs : ∀ x, P x → ∀ g ∈ succ x, P g) : ∀ a, ∀ x ∈ bfs κ succ x0 a, P x
  | 0, x, hx => by simp [bfs] at hx; rw [hx]; exact h0
  | a + 1, x, hx => by
    cases h : (bfs κ succ x0 a)[a]? with
    | some y =>
      rw [bfs_some h] at hx
      rcases addBy_mem κ _ _ hx with hx | hx
      · exact bfs_all h0 hs a x hx
      · exact hs y (bfs_all h0 hs a y (List.mem_of_getElem? h)) x hx
    | none => rw [bfs_none (by simpa using h)] at hx; exact bfs_all h0 hs a x hx
/- a search over rooms, seen by their kinds, is a search over kinds -/
/- things that hang on their kinds alone -/
end
/- how many there are at most -/
theorem nodup_len {l : List Nat} {n : Nat} (h : l.Nodup) (hl : ∀ x ∈ l, x < n) : l.length ≤ n := by
  have := h.length_le_of_subset (l₂ := List.range n) fun x hx => List.mem_range.mpr (hl x hx)
  simpa using this
/- numbers in the order in which things are met -/
end Mine
set_option autoImplicit false
set_option linter.unusedVariables false
set_option linter.unusedSectionVars false
namespace Mine
/- words in order: by their length, then by their signs -/
def succW (S : List Nat) (w : List Nat) : List (List Nat) := S.map fun s => w ++ [s]
def layW (S : List Nat) : Nat → List (List Nat)
  | 0 => [[]]
  | t + 1 => (layW S t).flatMap (succW S)
def wordsW (S : List Nat) : Nat → List (List Nat)
  | 0 => [[]]
  | t + 1 => wordsW S t ++ layW S (t + 1)
theorem words_succ (S : List Nat) : ∀ t, wordsW S (t + 1) = [] :: (wordsW S t).flatMap (succW S)
  | 0 => rfl
  | t + 1 => by
    have e : wordsW S (t + 1) = wordsW S t ++ layW S (t + 1) := rfl
    show wordsW S (t + 1) ++ layW S (t + 2) = _
    rw [show ([] :: (wordsW S (t + 1)).flatMap (succW S)) = [] :: ((wordsW S t).flatMap (succW S) ++ layW S (t + 2)) by rw [e, List.flatMap_append]; rfl]
    rw [words_succ S t, List.cons_append]
theorem words_pre (S : List Nat) (t : Nat) : ∃ u, wordsW S (t + 1) = wordsW S t ++ u := ⟨_, rfl⟩
theorem succ_len (S w : List Nat) : (succW S w).length = S.length := by simp [succW]
theorem flat_len (S : List Nat) (P : List (List Nat)) : (P.flatMap (succW S)).length = P.length * S.length := by
  induction P with
  | nil => simp
  | cons w P ih => rw [List.flatMap_cons, List.length_append, ih, succ_len, List.length_cons, Nat.succ_mul, Nat.add_comm]
theorem lay_len (S : List Nat) : ∀ t, ∀ w ∈ layW S t, w.length = t
  | 0, w, h => by simp [layW] at h; rw [h]; rfl
  | t + 1, w, h => by
    obtain ⟨v, h1, h2⟩ := List.mem_flatMap.mp h
    obtain ⟨s, _, rfl⟩ := List.mem_map.mp h2
    rw [List.length_append, lay_len S t v h1]; rfl
theorem lay_mem (S : List Nat) : ∀ t, ∀ w ∈ layW S t, ∀ s ∈ w, s ∈ S
  | 0, w, h, s, hs => by simp [layW] at h; rw [h] at hs; cases hs
  | t + 1, w, h, s, hs => by
    obtain ⟨v, h1, h2⟩ := List.mem_flatMap.mp h
    obtain ⟨a, ha, rfl⟩ := List.mem_map.mp h2
    rcases List.mem_append.mp hs with q | q
    · exact lay_mem S t v h1 s q
    · cases List.mem_singleton.mp q; exact ha
theorem words_mem (S : List Nat) : ∀ t, ∀ w ∈ wordsW S t, ∀ s ∈ w, s ∈ S
  | 0, w, h, s, hs => by simp [wordsW] at h; rw [h] at hs; cases hs
  | t + 1, w, h, s, hs => by
    rcases List.mem_append.mp h with h | h
    · exact words_mem S t w h s hs
    · exact lay_mem S _ w h s hs
/- words are found by the rooms to which they lead -/
section
variable {S : List Nat} {κ : List Nat → Nat}
theorem addBy_same : ∀ {l q : List (List Nat)}, (∀ x ∈ l, κ x ∈ q.map κ) → addBy κ q l = q
  | [], q, _ => rfl
  | x :: l, q, h => by
    rw [addBy_cons, if_pos (h x (.head _))]
    exact addBy_same fun y hy => h y (.tail _ hy)
theorem addBy_kinds {l q : List (List Nat)} {b : Nat} : b ∈ (addBy κ q l).map κ ↔ b ∈ q.map κ ∨ b ∈ l.map κ := by
  rw [map_addBy]; exact mem_addAll
/- the first of each room, met in order, are what a search by breadth meets -/
theorem lead_pre (hc : ∀ x y, κ x = κ y → (succW S x).map κ = (succW S y).map κ) (hS : 1 ≤ S.length) (T : Nat) : ∀ (P R : List (List Nat)), wordsW S T = P ++ R →
    addBy κ [[]] (P.flatMap (succW S)) = bfs κ (succW S) [] (addBy κ [] P).length := by
  intro P
  induction hn : P.length generalizing P with
  | zero =>
    intro R _
    cases List.length_eq_zero_iff.mp hn
    rfl
  | succ n ih =>
    intro R hW
    obtain ⟨P', w, rfl⟩ : ∃ P' w, P = P' ++ [w] := ⟨P.dropLast, P.getLast (by intro q; rw [q] at hn; cases hn), (List.dropLast_concat_getLast _).symm⟩
    have hn' : P'.length = n := by simpa using hn
    have hW' : wordsW S T = P' ++ (w :: R) := by rw [hW]; simp
    have h1 := ih P' hn' _ hW'
    rw [List.flatMap_append, addBy_append, addBy_append, h1]
    have e1 : [w].flatMap (succW S) = succW S w := by simp
    rw [e1]
    generalize hD : addBy κ [] P' = D at h1 ⊢
    by_cases hm : κ w ∈ D.map κ
    · have e2 : addBy κ D [w] = D := by rw [addBy_cons, if_pos hm]; rfl
      rw [e2, ← h1]
      refine addBy_same fun g hg => ?_
      rw [← hD, addBy_kinds] at hm
      obtain ⟨w', hw', e⟩ := List.mem_map.mp (hm.resolve_left (by simp))
      rw [addBy_kinds]
      refine .inr ?_
      have : κ g ∈ (succW S w').map κ := by rw [hc w' w e]; exact List.mem_map_of_mem hg
      obtain ⟨g', hg', e'⟩ := List.mem_map.mp this
      exact List.mem_map.mpr ⟨g', List.mem_flatMap.mpr ⟨w', hw', hg'⟩, e'⟩
    · have e2 : addBy κ D [w] = D ++ [w] := by rw [addBy_cons, if_neg hm]; rfl
      rw [e2, List.length_append]
      have hpre : ∃ u, [] :: P'.flatMap (succW S) = (P' ++ [w]) ++ u := by
        obtain ⟨u, hu⟩ := words_pre S T
        rw [words_succ, hW', List.flatMap_append] at hu
        have hl : (P' ++ [w]).length ≤ ([] :: P'.flatMap (succW S)).length := by
          have f := flat_len S P'
          have m := Nat.mul_le_mul_left P'.length hS
          rw [List.length_append, List.length_cons (as := P'.flatMap (succW S)), f]
          simp only [List.length_singleton]
          omega
        have a1 : (P' ++ [w]) <+: ([] :: (P'.flatMap (succW S) ++ (w :: R).flatMap (succW S))) := ⟨R ++ u, by rw [hu]; simp⟩
        have a2 : ([] :: P'.flatMap (succW S)) <+: ([] :: (P'.flatMap (succW S) ++ (w :: R).flatMap (succW S))) := ⟨(w :: R).flatMap (succW S), by simp⟩
        obtain ⟨v, hv⟩ := List.prefix_of_prefix_length_le a1 a2 hl
        exact ⟨v, hv.symm⟩
      have hat : (bfs κ (succW S) [] D.length)[D.length]? = some w := by
        obtain ⟨u, hu⟩ := hpre
        have q0 : addBy κ [[]] (P'.flatMap (succW S)) = addBy κ [] ([] :: P'.flatMap (succW S)) := by rw [addBy_cons]; rfl
        rw [← h1, q0, hu, addBy_append, addBy_append, hD, e2]
        obtain ⟨v, hv⟩ := addBy_pre κ u (D ++ [w])
        rw [hv, List.append_assoc, List.getElem?_append_right (Nat.le_refl _)]
        simp
      show _ = bfs κ (succW S) [] (D.length + 1)
      rw [bfs_some hat]
theorem lead_all (hc : ∀ x y, κ x = κ y → (succW S x).map κ = (succW S y).map κ) (hS : 1 ≤ S.length) (T : Nat) : addBy κ [] (wordsW S (T + 1)) = bfs κ (succW S) [] (addBy κ [] (wordsW S T)).length := by
  rw [words_succ, addBy_cons]
  exact lead_pre hc hS T (wordsW S T) [] (by simp)
end
end Mine
set_option autoImplicit false
set_option linter.unusedVariables false
set_option linter.unusedSectionVars false
namespace Mine
section
variable {α β : Type} [DecidableEq α] [DecidableEq β]
theorem idxOf_at {l : List α} {a : α} (h : a ∈ l) : l[l.idxOf a]? = some a := by
  have := List.idxOf_lt_length_of_mem h
  rw [List.getElem?_eq_getElem this, List.getElem_idxOf this]
/- first places hang on which things are alike alone -/
noncomputable def firsts (l : List α) : List Nat := l.map l.idxOf
end
/- alike in K -/
noncomputable def Al (K : List Nat) (i j : Nat) : Prop := K.getD i 0 = K.getD j 0
noncomputable def cnt (K : List Nat) : Nat := (addAll [] K).length
theorem getD_some {K : List Nat} {i : Nat} (h : i < K.length) : K[i]? = some (K.getD i 0) := by
  rw [List.getD_eq_getElem?_getD, List.getElem?_eq_getElem h]; rfl
theorem cnt_len (K : List Nat) : cnt K ≤ K.length := (addAll_nodup List.nodup_nil).length_le_of_subset fun x hx => (mem_addAll.mp hx).resolve_left (by simp)
theorem cnt_pos {K : List Nat} (h : K ≠ []) : 1 ≤ cnt K := by
  unfold cnt
  cases K with
  | nil => exact absurd rfl h
  | cons a K =>
    have : a ∈ addAll [] (a :: K) := mem_addAll.mpr (.inr (.head _))
    cases q : addAll [] (a :: K) with
    | nil => rw [q] at this; cases this
    | cons _ _ => simp
theorem nodup_of_len {α : Type} {L : List α} : ∀ {D : List α}, D.Nodup → D ⊆ L → L.length ≤ D.length → L.Nodup := by
  classical
  intro D hD hs hl
  induction L generalizing D with
  | nil => simp
  | cons a L ih =>
    have hle := hD.length_le_of_subset hs
    by_cases ha : a ∈ L
    · have : D.length ≤ L.length := hD.length_le_of_subset fun x hx => by
        rcases List.mem_cons.mp (hs hx) with rfl | h
        · exact ha
        · exact h
      simp at hl; omega
    · refine List.nodup_cons.mpr ⟨ha, ih (D := D.erase a) (hD.erase a) (fun x hx => ?_) ?_⟩
      · have h1 := (hD.mem_erase_iff).mp hx
        rcases List.mem_cons.mp (hs h1.2) with h | h
        · exact absurd h h1.1
        · exact h
      · have := List.length_erase (a := a) (l := D)
        simp at hl
        split at this <;> omega
theorem refine_cnt {K K' : List Nat} (hl : K.length = K'.length) (h : ∀ i j, i < K.length → j < K.length → Al K' i j → Al K i j) : cnt K ≤ cnt K' ∧ (cnt K' ≤ cnt K → ∀ i j, i < K.length → j < K.length → Al K i j → Al K' i j) := by
  have hφ : ∀ i, i < K.length → K.getD (K'.idxOf (K'.getD i 0)) 0 = K.getD i 0 := fun i hi => by
    have hm : K'.getD i 0 ∈ K' := List.mem_of_getElem? (getD_some (hl ▸ hi))
    have h1 := idxOf_at hm
    have h2 := List.idxOf_lt_length_of_mem hm
    refine h _ i (by omega) hi ?_
    unfold Al
    rw [List.getD_eq_getElem?_getD, h1]; rfl
  have hsub : addAll [] K ⊆ (addAll [] K').map fun d => K.getD (K'.idxOf d) 0 := fun x hx => by
    have hx' := (mem_addAll.mp hx).resolve_left (by simp)
    obtain ⟨i, hi⟩ := List.getElem?_of_mem hx'
    have hlt := (List.getElem?_eq_some_iff.mp hi).1
    refine List.mem_map.mpr ⟨K'.getD i 0, mem_addAll.mpr (.inr (List.mem_of_getElem? (getD_some (hl ▸ hlt)))), ?_⟩
    rw [hφ i hlt, List.getD_eq_getElem?_getD, hi]; rfl
  have hnd : (addAll [] K).Nodup := addAll_nodup List.nodup_nil
  refine ⟨by have := hnd.length_le_of_subset hsub; rw [List.length_map] at this; exact this, fun hc i j hi hj ha => ?_⟩
  have hN := nodup_of_len hnd hsub (by rw [List.length_map]; exact hc)
  have mi : K'.getD i 0 ∈ addAll [] K' := mem_addAll.mpr (.inr (List.mem_of_getElem? (getD_some (hl ▸ hi))))
  have mj : K'.getD j 0 ∈ addAll [] K' := mem_addAll.mpr (.inr (List.mem_of_getElem? (getD_some (hl ▸ hj))))
  obtain ⟨a, h1⟩ := List.getElem?_of_mem mi
  obtain ⟨b, h2⟩ := List.getElem?_of_mem mj
  have la := (List.getElem?_eq_some_iff.mp h1).1
  have e : ((addAll [] K').map fun d => K.getD (K'.idxOf d) 0)[a]? = ((addAll [] K').map fun d => K.getD (K'.idxOf d) 0)[b]? := by
    rw [List.getElem?_map, List.getElem?_map, h1, h2]
    simp only [Option.map_some, Option.some.injEq]
    rw [hφ i hi, hφ j hj]; exact ha
  have := (List.getElem?_inj (by simpa using la) hN).mp e
  subst this
  rw [h1] at h2
  exact Option.some.inj h2
/- finer and finer -/
section
variable (rows : List (List Nat))
noncomputable def mark (K : List Nat) (r : Nat) : Nat × List Nat := (K.getD r 0, (rows.getD r []).map fun g => K.getD g 0)
noncomputable def marks (K : List Nat) : List (Nat × List Nat) := (List.range rows.length).map (mark rows K)
noncomputable def finer (K : List Nat) : List Nat := firsts (marks rows K)
noncomputable def kinds (K : List Nat) : Nat → List Nat
  | 0 => K
  | t + 1 => finer rows (kinds K t)
end
section
variable {rows : List (List Nat)}
variable {K0 : List Nat}
/- where it stops -/
/- the last kinds -/
end
end Mine
set_option autoImplicit false
set_option linter.unusedVariables false
set_option linter.unusedSectionVars false
namespace Mine
/- a machine without its first room: states below n, ways by signs below k, a mark at each -/
section
variable {n k : Nat} {δ : Nat → Nat → Nat} {o : Nat → Bool}
/- where a row of signs leads from a state -/
def runB (δ : Nat → Nat → Nat) (i : Nat) (w : List Nat) : Nat := w.foldl δ i
/- alike up to words of length t -/
def AlT (S : List Nat) (δ : Nat → Nat → Nat) (o : Nat → Bool) : Nat → Nat → Nat → Prop
  | 0, i, j => o i = o j
  | t + 1, i, j => o i = o j ∧ ∀ c ∈ S, AlT S δ o t (δ i c) (δ j c)
theorem AlT.pre {S : List Nat} : ∀ {t i j : Nat}, AlT S δ o (t + 1) i j → AlT S δ o t i j
  | 0, _, _, h => h.1
  | t + 1, _, _, h => ⟨h.1, fun c hc => AlT.pre (h.2 c hc)⟩
theorem AlT.mono {S : List Nat} {t u i j : Nat} (h : t ≤ u) (a : AlT S δ o u i j) : AlT S δ o t i j := by
  induction h with
  | refl => exact a
  | step _ ih => exact ih a.pre
theorem AlT.rfl' {S : List Nat} : ∀ {t i : Nat}, AlT S δ o t i i
  | 0, _ => rfl
  | t + 1, _ => ⟨rfl, fun _ _ => AlT.rfl'⟩
theorem AlT.symm {S : List Nat} : ∀ {t i j : Nat}, AlT S δ o t i j → AlT S δ o t j i
  | 0, _, _, h => Eq.symm h
  | t + 1, _, _, h => ⟨h.1.symm, fun c hc => AlT.symm (h.2 c hc)⟩
theorem AlT.trans {S : List Nat} : ∀ {t i j l : Nat}, AlT S δ o t i j → AlT S δ o t j l → AlT S δ o t i l
  | 0, _, _, _, h, h' => Eq.trans h h'
  | t + 1, _, _, _, h, h' => ⟨h.1.trans h'.1, fun c hc => AlT.trans (h.2 c hc) (h'.2 c hc)⟩
theorem AlT.word {S : List Nat} : ∀ {w : List Nat} {t i j : Nat}, AlT S δ o t i j → w.length ≤ t → (∀ c ∈ w, c ∈ S) → o (runB δ i w) = o (runB δ j w)
  | [], 0, _, _, h, _, _ => h
  | [], t + 1, _, _, h, _, _ => h.1
  | c :: w, 0, _, _, _, hl, _ => by simp at hl
  | c :: w, t + 1, i, j, h, hl, hw => AlT.word (w := w) (h.2 c (hw c (.head _))) (Nat.le_of_succ_le_succ hl) fun d hd => hw d (.tail _ hd)
theorem AlT.of {S : List Nat} : ∀ {t i j : Nat}, (∀ w : List Nat, w.length ≤ t → (∀ c ∈ w, c ∈ S) → o (runB δ i w) = o (runB δ j w)) → AlT S δ o t i j
  | 0, i, j, h => h [] (Nat.zero_le _) (by simp)
  | t + 1, i, j, h => ⟨h [] (Nat.zero_le _) (by simp), fun c hc => AlT.of fun w hw hs => h (c :: w) (by simpa using hw) fun d hd => by
      rcases List.mem_cons.mp hd with rfl | hd
      · exact hc
      · exact hs d hd⟩
/- once nothing new is told apart, nothing ever is -/
theorem AlT.stop {S : List Nat} {t : Nat} (hn : ∀ i c, i < n → c ∈ S → δ i c < n) (h : ∀ i j, i < n → j < n → AlT S δ o t i j → AlT S δ o (t + 1) i j) : ∀ u i j, i < n → j < n → AlT S δ o t i j → AlT S δ o u i j
  | 0, i, j, _, _, a => a.mono (Nat.zero_le _)
  | u + 1, i, j, hi, hj, a => by
    have b := h i j hi hj a
    exact ⟨(b.mono (Nat.zero_le _) : AlT S δ o 0 i j), fun c hc => AlT.stop hn h u _ _ (hn i c hi hc) (hn j c hj hc) (b.2 c hc)⟩
/- kinds as numbers: the least one that is alike -/
open Classical in
noncomputable def repK (n : Nat) (R : Nat → Nat → Prop) (i : Nat) : Nat := (List.range n).findIdx fun j => decide (R j i)
noncomputable def KL (n : Nat) (R : Nat → Nat → Prop) : List Nat := (List.range n).map (repK n R)
theorem KL_len (R : Nat → Nat → Prop) : (KL n R).length = n := by simp [KL]
theorem KL_at (R : Nat → Nat → Prop) {i : Nat} (h : i < n) : (KL n R).getD i 0 = repK n R i := by
  unfold KL
  rw [List.getD_eq_getElem?_getD, List.getElem?_map, List.getElem?_range h]; rfl
theorem rep_is {R : Nat → Nat → Prop} (hr : ∀ i, R i i) {i : Nat} (h : i < n) : R (repK n R i) i := by
  classical
  have hlt : repK n R i < (List.range n).length := List.findIdx_lt_length_of_exists ⟨i, List.mem_range.mpr h, decide_eq_true (hr i)⟩
  have h1 : decide (R ((List.range n)[repK n R i]'hlt) i) = true := List.findIdx_getElem (w := hlt)
  have h2 := of_decide_eq_true h1
  rw [List.getElem_range] at h2
  exact h2
structure Eqv (R : Nat → Nat → Prop) : Prop where
  r : ∀ i, R i i
  s : ∀ i j, R i j → R j i
  t : ∀ i j l, R i j → R j l → R i l
theorem KL_al {R : Nat → Nat → Prop} (e : Eqv R) {i j : Nat} (hi : i < n) (hj : j < n) : Al (KL n R) i j ↔ R i j := by
  unfold Al
  rw [KL_at R hi, KL_at R hj]
  constructor
  · intro h
    have h1 := rep_is e.r hi
    have h2 := rep_is e.r hj
    rw [h] at h1
    exact e.t _ _ _ (e.s _ _ h1) h2
  · intro h
    unfold repK
    congr 1
    funext x
    exact decide_eq_decide.mpr ⟨fun q => e.t _ _ _ q h, fun q => e.t _ _ _ q (e.s _ _ h)⟩
theorem eqv_alt (S : List Nat) (t : Nat) : Eqv (AlT S δ o t) := ⟨fun _ => AlT.rfl', fun _ _ => AlT.symm, fun _ _ _ => AlT.trans⟩
/- the finer of two -/
theorem KL_ref {R R' : Nat → Nat → Prop} (e : Eqv R) (e' : Eqv R') (h : ∀ i j, R' i j → R i j) : cnt (KL n R) ≤ cnt (KL n R') ∧ (cnt (KL n R') ≤ cnt (KL n R) → ∀ i j, i < n → j < n → R i j → R' i j) := by
  obtain ⟨h1, h2⟩ := refine_cnt (K := KL n R) (K' := KL n R') (by rw [KL_len, KL_len]) (fun i j hi hj a => by
    rw [KL_len] at hi hj
    exact (KL_al e hi hj).mpr (h i j ((KL_al e' hi hj).mp a)))
  refine ⟨h1, fun hc i j hi hj a => ?_⟩
  exact (KL_al e' hi hj).mp (h2 hc i j (by rw [KL_len]; exact hi) (by rw [KL_len]; exact hj) ((KL_al e hi hj).mpr a))
theorem alt_grow (S : List Nat) (hn : 1 ≤ n) (hd : ∀ i c, i < n → c ∈ S → δ i c < n) : ∀ t, (∃ u, u ≤ t ∧ ∀ i j, i < n → j < n → AlT S δ o u i j → AlT S δ o (u + 1) i j) ∨ t + 2 ≤ cnt (KL n (AlT S δ o t))
  | 0 => by
    obtain ⟨h1, h2⟩ := KL_ref (n := n) (R := fun _ _ => True) ⟨fun _ => trivial, fun _ _ _ => trivial, fun _ _ _ _ _ => trivial⟩ (eqv_alt (δ := δ) (o := o) S 0) fun _ _ _ => trivial
    by_cases hc : cnt (KL n (AlT S δ o 0)) ≤ cnt (KL n fun _ _ => True)
    · have hall : ∀ i j, i < n → j < n → o i = o j := fun i j hi hj => h2 hc i j hi hj trivial
      exact .inl ⟨0, Nat.le_refl _, fun i j hi hj a => ⟨a, fun c hc => hall _ _ (hd i c hi hc) (hd j c hj hc)⟩⟩
    · have h3 : 1 ≤ cnt (KL n fun _ _ => True) := cnt_pos fun q => by have := congrArg List.length q; rw [KL_len] at this; simp at this; omega
      exact .inr (by omega)
  | t + 1 => by
    rcases alt_grow S hn hd t with ⟨u, hu, h⟩ | h
    · exact .inl ⟨u, Nat.le_succ_of_le hu, h⟩
    · obtain ⟨h1, h2⟩ := KL_ref (n := n) (eqv_alt (δ := δ) (o := o) S t) (eqv_alt S (t + 1)) fun i j a => a.pre
      by_cases hc : cnt (KL n (AlT S δ o (t + 1))) ≤ cnt (KL n (AlT S δ o t))
      · exact .inl ⟨t, Nat.le_succ _, h2 hc⟩
      · exact .inr (by omega)
/- two states that any word parts are parted by a word that is no longer than n - 2 -/
theorem part_bound (S : List Nat) (hn : 2 ≤ n) (hd : ∀ i c, i < n → c ∈ S → δ i c < n) {i j : Nat} (hi : i < n) (hj : j < n) (h : AlT S δ o (n - 2) i j) (u : Nat) : AlT S δ o u i j := by
  have key : ∃ u, u ≤ n - 2 ∧ ∀ i j, i < n → j < n → AlT S δ o u i j → AlT S δ o (u + 1) i j := by
    rcases alt_grow S (by omega) hd (n - 2) with h | h
    · exact h
    · obtain ⟨h1, h2⟩ := KL_ref (n := n) (eqv_alt (δ := δ) (o := o) S (n - 2)) (eqv_alt S (n - 2 + 1)) fun i j a => a.pre
      have h3 := cnt_len (KL n (AlT S δ o (n - 2 + 1)))
      rw [KL_len] at h3
      exact ⟨n - 2, Nat.le_refl _, h2 (by omega)⟩
  obtain ⟨t, ht, hs⟩ := key
  exact AlT.stop hd hs u i j hi hj (h.mono ht)
end
end Mine
set_option autoImplicit false
set_option linter.unusedVariables false
set_option linter.unusedSectionVars false
namespace Mine
/- all words of some signs -/
theorem lay_all (S : List Nat) : ∀ {w : List Nat}, (∀ c ∈ w, c ∈ S) → w ∈ layW S w.length := by
  intro w
  induction hn : w.length generalizing w with
  | zero => intro _; rw [List.length_eq_zero_iff.mp hn]; exact .head _
  | succ n ih =>
    intro hw
    obtain ⟨v, c, rfl⟩ : ∃ v c, w = v ++ [c] := ⟨w.dropLast, w.getLast (by intro q; rw [q] at hn; cases hn), (List.dropLast_concat_getLast _).symm⟩
    have hv : v.length = n := by simpa using hn
    exact List.mem_flatMap.mpr ⟨v, ih hv fun d hd => hw d (List.mem_append_left _ hd), List.mem_map.mpr ⟨c, hw c (by simp), rfl⟩⟩
theorem words_lay (S : List Nat) : ∀ {t u : Nat}, u ≤ t → ∀ w ∈ layW S u, w ∈ wordsW S t
  | 0, u, h, w, hw => by cases Nat.le_zero.mp h; exact hw
  | t + 1, u, h, w, hw => by
    rcases Nat.lt_or_ge u (t + 1) with q | q
    · exact List.mem_append_left _ (words_lay S (Nat.le_of_lt_succ q) w hw)
    · cases Nat.le_antisymm h q; exact List.mem_append_right _ hw
theorem words_all (S : List Nat) {t : Nat} {w : List Nat} (hl : w.length ≤ t) (hw : ∀ c ∈ w, c ∈ S) : w ∈ wordsW S t := words_lay S hl w (lay_all S hw)
/- what hangs on the kind alone is found by the first of its kind -/
theorem addBy_findP {κ : List Nat → Nat} {p : List Nat → Bool} (hp : ∀ x y, κ x = κ y → p x = p y) : ∀ (l q : List (List Nat)), (addBy κ q l).find? p = (q ++ l).find? p
  | [], q => by simp [addBy]
  | x :: l, q => by
    rw [addBy_cons, addBy_findP hp l]
    by_cases h : κ x ∈ q.map κ
    · rw [if_pos h, List.find?_append, List.find?_append, List.find?_cons]
      cases hq : q.find? p with
      | some w => rfl
      | none =>
        have : p x = false := by
          obtain ⟨y, hy, e⟩ := List.mem_map.mp h
          have := List.find?_eq_none.mp hq y hy
          rw [← hp y x e]; simpa using this
        rw [this]
    · rw [if_neg h, List.append_assoc]; rfl
section
variable {S : List Nat} {κ : List Nat → Nat} {p : List Nat → Bool}
theorem lead_prefix (hc : ∀ x y, κ x = κ y → (succW S x).map κ = (succW S y).map κ) (hS : 1 ≤ S.length) {N : Nat} (hN : ∀ a, (bfs κ (succW S) [] a).length ≤ N) : ∀ T, ∃ t, bfs κ (succW S) [] N = addBy κ [] (wordsW S T) ++ t
  | 0 => bfs_pre (Nat.zero_le N)
  | T + 1 => by
    rw [lead_all hc hS]
    refine bfs_pre ?_
    cases T with
    | zero => have := hN 0; exact this
    | succ T => rw [lead_all hc hS]; exact hN _
theorem bfs_over {a : Nat} : ∀ w ∈ bfs κ (succW S) [] a, ∀ c ∈ w, c ∈ S :=
  bfs_all (P := fun w => ∀ c ∈ w, c ∈ S) (fun c hc => by cases hc) (fun x hx g hg c hc => by
    obtain ⟨s, hs, rfl⟩ := List.mem_map.mp hg
    rcases List.mem_append.mp hc with q | q
    · exact hx c q
    · cases List.mem_singleton.mp q; exact hs) a
/- the first word in order is the first that a search meets, if words up to T tell all -/
theorem lead_find (hc : ∀ x y, κ x = κ y → (succW S x).map κ = (succW S y).map κ) (hp : ∀ x y, κ x = κ y → p x = p y) (hS : 1 ≤ S.length) {N : Nat} (hN : ∀ a, (bfs κ (succW S) [] a).length ≤ N) {T : Nat}
    (hT : (∀ w ∈ wordsW S T, p w = false) → ∀ w, (∀ c ∈ w, c ∈ S) → p w = false) : (bfs κ (succW S) [] N).find? p = (wordsW S T).find? p := by
  obtain ⟨t, e⟩ := lead_prefix hc hS hN T
  have h1 := addBy_findP hp (wordsW S T) []
  rw [List.nil_append] at h1
  rw [e, List.find?_append, h1]
  cases h : (wordsW S T).find? p with
  | some w => rfl
  | none =>
    have hall := hT fun w hw => by simpa using List.find?_eq_none.mp h w hw
    show t.find? p = none
    rw [List.find?_eq_none]
    intro w hw
    have := hall w (bfs_over w (by rw [e]; exact List.mem_append_right _ hw))
    simp [this]
end
/- two machines side by side -/
section
variable {S : List Nat} {n1 n2 : Nat} {f g : Nat → Nat → Nat} {a b : Nat → Bool}
def sumD (n1 : Nat) (f g : Nat → Nat → Nat) (i c : Nat) : Nat := if i < n1 then f i c else n1 + g (i - n1) c
def sumO (n1 : Nat) (a b : Nat → Bool) (i : Nat) : Bool := if i < n1 then a i else b (i - n1)
theorem run_left (hf : ∀ i c, f i c < n1) : ∀ (w : List Nat) (i : Nat), i < n1 → runB (sumD n1 f g) i w = w.foldl f i
  | [], _, _ => rfl
  | c :: w, i, hi => by
    show runB (sumD n1 f g) (sumD n1 f g i c) w = w.foldl f (f i c)
    have e : sumD n1 f g i c = f i c := if_pos hi
    rw [e]
    exact run_left hf w _ (hf i c)
theorem run_right : ∀ (w : List Nat) (i : Nat), runB (sumD n1 f g) (n1 + i) w = n1 + w.foldl g i
  | [], _ => rfl
  | c :: w, i => by
    show runB (sumD n1 f g) (sumD n1 f g (n1 + i) c) w = n1 + w.foldl g (g i c)
    have e : sumD n1 f g (n1 + i) c = n1 + g i c := by
      unfold sumD
      rw [if_neg (by omega), Nat.add_sub_cancel_left]
    rw [e]
    exact run_right w _
theorem part_words (h1 : 1 ≤ n1) (h2 : 1 ≤ n2) (hf : ∀ i c, f i c < n1) (hg : ∀ i c, g i c < n2) (h : ∀ w ∈ wordsW S (n1 + n2 - 2), a (w.foldl f 0) = b (w.foldl g 0)) : ∀ w : List Nat, (∀ c ∈ w, c ∈ S) → a (w.foldl f 0) = b (w.foldl g 0) := by
  have fold_lt : ∀ (w : List Nat) (i : Nat), i < n1 → w.foldl f i < n1 := fun w => by
    induction w with
    | nil => intro i hi; exact hi
    | cons c w ih => intro i _; exact ih _ (hf i c)
  have o1 : ∀ w : List Nat, sumO n1 a b (runB (sumD n1 f g) 0 w) = a (w.foldl f 0) := fun w => by
    rw [run_left hf w 0 h1]
    exact if_pos (fold_lt w 0 h1)
  have o2 : ∀ w : List Nat, sumO n1 a b (runB (sumD n1 f g) n1 w) = b (w.foldl g 0) := fun w => by
    have := run_right (n1 := n1) (f := f) (g := g) w 0
    rw [Nat.add_zero] at this
    rw [this]
    unfold sumO
    rw [if_neg (by omega), Nat.add_sub_cancel_left]
  have hd : ∀ i c, i < n1 + n2 → c ∈ S → sumD n1 f g i c < n1 + n2 := fun i c hi _ => by
    unfold sumD
    split
    · have := hf i c; omega
    · have := hg (i - n1) c; omega
  have key : AlT S (sumD n1 f g) (sumO n1 a b) (n1 + n2 - 2) 0 n1 := AlT.of fun w hl hw => by
    rw [o1, o2]
    exact h w (words_all S hl hw)
  intro w hw
  have := (part_bound (n := n1 + n2) S (by omega) hd (by omega) (by omega) key w.length).word (Nat.le_refl _) hw
  rw [o1, o2] at this
  exact this
end
end Mine
set_option autoImplicit false
set_option linter.unusedVariables false
set_option linter.unusedSimpArgs false
set_option maxRecDepth 100000
namespace Mine
open PySem
/- numbers in lists -/
theorem sub_nl {K : List Nat} {k : Nat} (h : k < K.length) (hl : K.length ≤ 1000) (st : St) : subV (nl K) (.int k) st = .ok (.int (K.getD k 0)) st := by
  unfold nl
  rw [ev_sub_flist, idx_nat (v := V.int (K.getD k 0)) (by rw [List.getElem?_map, List.getD_eq_getElem?_getD, List.getElem?_eq_getElem h]; rfl) (by rw [List.length_map]; exact hl)]; rfl
theorem sub_nll {K : List (List Nat)} {k : Nat} (h : k < K.length) (hl : K.length ≤ 1000) (st : St) : subV (nll K) (.int k) st = .ok (nl (K.getD k [])) st := by
  unfold nll
  rw [ev_sub_flist, idx_nat (v := nl (K.getD k [])) (by rw [List.getElem?_map, List.getD_eq_getElem?_getD, List.getElem?_eq_getElem h]; rfl) (by rw [List.length_map]; exact hl)]; rfl
theorem sub_bl {K : List Bool} {k : Nat} (h : k < K.length) (hl : K.length ≤ 1000) (st : St) : subV (bl K) (.int k) st = .ok (.bool (K.getD k false)) st := by
  unfold bl
  rw [ev_sub_flist, idx_nat (v := V.bool (K.getD k false)) (by rw [List.getElem?_map, List.getD_eq_getElem?_getD, List.getElem?_eq_getElem h]; rfl) (by rw [List.length_map]; exact hl)]; rfl
theorem len_nll {K : List (List Nat)} (hl : K.length ≤ 1000) (st : St) : fLen [nll K] st = .ok (.int K.length) st := by
  unfold nll
  rw [ev_len_flist, List.length_map, ev_lenM hl]
theorem src_nl (K : List Nat) (st : St) : toSrc (nl K) st = .ok ⟨K.map fun (n : Nat) => V.int n, []⟩ st := rfl
theorem src_nll (K : List (List Nat)) (st : St) : toSrc (nll K) st = .ok ⟨K.map nl, []⟩ st := rfl
/- rooms -/
structure Rooms (rows : List (List Nat)) : Prop where
  most : rows.length ≤ 100
  row : ∀ w ∈ rows, w.length ≤ 100 ∧ ∀ g ∈ w, g < rows.length
theorem Rooms.at {rows : List (List Nat)} (R : Rooms rows) (r : Nat) : (rows.getD r []).length ≤ 100 ∧ ∀ g ∈ rows.getD r [], g < rows.length := by
  rw [List.getD_eq_getElem?_getD]
  cases h : rows[r]? with
  | none => simp
  | some w => exact R.row w (List.mem_of_getElem? h)
theorem Good.rooms {s : List Nat} {rows : List (List Nat)} {ends : List Bool} (G : Good s rows ends) : Rooms rows := ⟨by have := G.most; omega, fun w hw => by
  obtain ⟨h1, h2⟩ := G.row w hw
  have := G.signs.three
  exact ⟨by omega, h2⟩⟩
end Mine
set_option autoImplicit false
set_option linter.unusedVariables false
set_option linter.unusedSimpArgs false
set_option maxRecDepth 100000
namespace Mine
open PySem
/- where a sign stands -/
theorem idxC_get {s : List Nat} {c : Nat} (h : c ∈ s) : s[idxC s c]? = some c := by
  obtain ⟨i, r, h1, _⟩ := occ_first h
  obtain ⟨f, hf⟩ := occ_is s c 1
  rw [h1] at hf
  unfold idxC
  rw [h1]
  exact at_one hf.2.1
theorem idxC_at {s : List Nat} (hn : s.Nodup) {i c : Nat} (h : s[i]? = some c) : idxC s c = i := by
  have hm := List.mem_of_getElem? h
  exact (List.getElem?_inj (idxC_lt hm) hn).mp ((idxC_get hm).trans h.symm)
/- where a word leads -/
noncomputable def wayC (s : List Nat) (rows : List (List Nat)) (r c : Nat) : Nat := (rows.getD r []).getD (idxC s c) 0
noncomputable def goW (s : List Nat) (rows : List (List Nat)) (w : List Nat) : Nat := w.foldl (wayC s rows) 0
theorem goW_snoc (s : List Nat) (rows : List (List Nat)) (w : List Nat) (c : Nat) : goW s rows (w ++ [c]) = wayC s rows (goW s rows w) c := by unfold goW; rw [List.foldl_append]; rfl
theorem getD_lt {l : List Nat} {n k : Nat} (hn : 0 < n) (h : ∀ g ∈ l, g < n) : l.getD k 0 < n := by
  rw [List.getD_eq_getElem?_getD]
  cases q : l[k]? with
  | none => exact hn
  | some g => exact h g (List.mem_of_getElem? q)
section
variable {s : List Nat} {rows : List (List Nat)} {ends : List Bool}
theorem wayC_lt (G : Good s rows ends) (r c : Nat) : wayC s rows r c < rows.length := getD_lt G.one (G.rooms.at r).2
theorem goW_lt (G : Good s rows ends) (w : List Nat) : goW s rows w < rows.length := by
  rcases List.eq_nil_or_concat w with rfl | ⟨v, c, rfl⟩
  · exact G.one
  · rw [List.concat_eq_append, goW_snoc]; exact wayC_lt G _ _
theorem goes_eq (d : Nat) (G : Good s rows ends) {w : List Nat} (hw : ∀ c ∈ w, c ∈ s) (st : St) : cfOf p1 (d + 1) (.fn (nm "_law_goes")) [.str s, nll rows, .str w] st = .ok (.int (goW s rows w)) st := by
  obtain ⟨vars, obs⟩ := st
  have hm := G.rooms.most
  obtain ⟨st', h1, z, rfl⟩ := for_map (t := .var 4) (body := bd__law_goes_1 d) (c := []) (f := fun c => V.str [c]) (xs := w)
    (fun j st => ∃ z, st = ⟨[some (.str s), some (nll rows), some (.str w), some (.int (goW s rows (w.take j))), z], obs⟩) (fun _ _ _ => .nil _) (fun j c st hx hI => by
      obtain ⟨z, rfl⟩ := hI
      have hc : c ∈ s := hw c (List.mem_of_getElem? hx)
      have e : w.take (j + 1) = w.take j ++ [c] := by rw [List.take_add_one, hx]; rfl
      have hlt := goW_lt G (w.take j)
      have hrow := (G.row (rows.getD (goW s rows (w.take j)) []) (by rw [List.getD_eq_getElem?_getD, List.getElem?_eq_getElem hlt]; exact List.getElem_mem hlt)).1
      have h3 := G.signs.three
      refine ⟨_, ?_, some (.str [c]), rfl⟩
      rw [e, goW_snoc]
      simp only [bd__law_goes_1, ev_bind, ev_asg_var, ev_setVar, List.length_cons, List.length_nil, Nat.reduceAdd, Nat.reduceLT, if_true, List.set, Out.bind_ok, ev_seqS_cons, ev_assign, ev_subM, ev_var, List.getElem?_cons_succ, List.getElem?_cons_zero, sub_nll hlt (by omega), ev_meth, ev_pickI_str, ev_pure, ev_seqM_cons, ev_seqM_nil, ev_index hc, sub_nl (K := rows.getD (goW s rows (w.take j)) []) (k := idxC s c) (by rw [hrow]; exact idxC_lt hc) (by omega), seqK_next, ev_seqS_nil]
      rfl) (st := ⟨[some (.str s), some (nll rows), some (.str w), some (.int 0), none], obs⟩) ⟨none, rfl⟩
  rw [List.take_length] at h1
  rw [cf__law_goes]
  have h1' : forItems (.var 4) (bd__law_goes_1 d) [] (charsOf w) ⟨[some (.str s), some (nll rows), some (.str w), some (.int 0), none], obs⟩ = _ := h1
  refine run_pure (vars' := [some (.str s), some (nll rows), some (.str w), some (.int (goW s rows w)), z]) rfl (fl := .ret (.int (goW s rows w))) ?_ (by simp only [flowV, lR0, lR1, lR2, lR3, lR4, lR5, lR6, lR7, lR8, lR9, lR10, lR11, lR12, lR13])
  simp only [List.map, List.replicate, List.cons_append, List.nil_append, ev_seqS_cons, ev_bind, ev_assign, ev_const, Out.bind_ok, ev_asg_var, ev_setVar, List.length_cons, List.length_nil, Nat.reduceAdd, Nat.reduceSub, Nat.reduceLT, if_true, List.set, ev_pure, seqK_next, ev_for, ev_var, List.getElem?_cons_succ, List.getElem?_cons_zero, ev_toSrc_str, h1', ev_ret, seqK_ret]
end
/- texts -/
noncomputable def sl (ws : List (List Nat)) : V := .flist (ws.map V.str)
theorem sl_pure (ws : List (List Nat)) : ltV 0 (sl ws) = true := by unfold sl; simp only [lR0, lR1, lR2, lR3, lR4, lR5, lR6, lR7, lR8, lR9, lR10, lR11, lR12, lR13]; exact lts_map _ fun _ _ => by simp only [lR0, lR1, lR2, lR3, lR4, lR5, lR6, lR7, lR8, lR9, lR10, lR11, lR12, lR13]
theorem ev_add_str {a b : List Nat} (h : (a ++ b).length ≤ 1000) (st : St) : binV .Add (.str a) (.str b) st = .ok (.str (a ++ b)) st := by
  show (strM (a ++ b)) st = _
  unfold strM
  rw [if_pos (le_lim h)]; rfl
theorem ev_add_sl {a b : List (List Nat)} (h : (a ++ b).length ≤ 1000) (st : St) : binV .Add (sl a) (sl b) st = .ok (sl (a ++ b)) st := by
  unfold sl
  rw [ev_add_flist, ← List.map_append, ev_allocL (by rw [List.length_map]; exact h)]
theorem words_count {s : List Nat} {T : Nat} (h : ∀ u, u ≤ T → (layW s u).length ≤ 81) : ∀ t, t ≤ T → (wordsW s t).length ≤ 81 * (t + 1)
  | 0, _ => by simp [wordsW]
  | t + 1, ht => by
    show (wordsW s t ++ layW s (t + 1)).length ≤ _
    rw [List.length_append]
    exact Nat.add_le_add (words_count h t (Nat.le_of_succ_le ht)) (h _ ht)
theorem take_flat (s : List Nat) (l : List (List Nat)) {j : Nat} {w : List Nat} (h : l[j]? = some w) : (l.take (j + 1)).flatMap (succW s) = (l.take j).flatMap (succW s) ++ succW s w := by
  rw [List.take_add_one, h, List.flatMap_append]; simp
theorem fresh_step (d : Nat) {s w : List Nat} {fr : List (List Nat)} (h3 : s.length ≤ 3) (hw : w.length ≤ 100) (hl : fr.length ≤ 900) {v1 v2 v3 v4 : Option V} {obs : List Ob} :
    bd__law_words_2 d ⟨[some (.str s), v1, v2, v3, v4, some (sl fr), some (.str w)], obs⟩ = .ok .next ⟨[some (.str s), v1, v2, v3, v4, some (sl (fr ++ succW s w)), some (.str w)], obs⟩ := by
  have hc : compM 7 1 ((varM 0).bind toSrc) (.var 7) (andM []) (bd__law_words_1 d) ⟨[some (.str s), v1, v2, v3, v4, some (sl fr), some (.str w)], obs⟩ = .ok (sl (succW s w)) ⟨[some (.str s), v1, v2, v3, v4, some (sl fr), some (.str w)], obs⟩ := by
    have := comp1_map (b := 7) (src := (varM 0).bind toSrc) (elt := bd__law_words_1 d) (vars := [some (.str s), v1, v2, v3, v4, some (sl fr), some (.str w)]) (obs := obs) (xs := s) (f := fun c => V.str [c]) (c := []) rfl (by
      rw [ev_bind, ev_var]; simp only [List.getElem?_cons_zero, Out.bind_ok, ev_toSrc_str]; rfl) (by omega) (.nil _) (fun c => V.str (w ++ [c])) (fun c _ => by
      simp only [bd__law_words_1, ev_bin, ev_bind, ev_var, List.cons_append, List.nil_append, List.getElem?_cons_succ, List.getElem?_cons_zero, Out.bind_ok]
      rw [ev_add_str (by simp; omega)])
    rw [this]
    unfold sl succW
    rw [List.map_map]; rfl
  have hlen : (fr ++ succW s w).length ≤ 1000 := by rw [List.length_append, succ_len]; omega
  simp only [bd__law_words_2, ev_seqS_cons, ev_bind, ev_assign, ev_bin, ev_var, List.getElem?_cons_succ, List.getElem?_cons_zero, Out.bind_ok, hc, ev_add_sl hlen, ev_asg_var, ev_setVar, List.length_cons, List.length_nil, Nat.reduceAdd, Nat.reduceLT, if_true, List.set, ev_pure, seqK_next, ev_seqS_nil]
theorem words_turn (d : Nat) {s : List Nat} (h3 : s.length ≤ 3) {T : Nat} (hT : T ≤ 6) (hlay : ∀ u, u ≤ T → (layW s u).length ≤ 81) {t : Nat} (ht : t < T) {v1 v4 : Option V} {z5 z6 : Option V} {obs : List Ob} : ∃ z5' z6',
    bd__law_words_3 d ⟨[some (.str s), v1, some (sl (wordsW s t)), some (sl (layW s t)), v4, z5, z6], obs⟩ = .ok .next ⟨[some (.str s), v1, some (sl (wordsW s (t + 1))), some (sl (layW s (t + 1))), v4, z5', z6'], obs⟩ := by
  obtain ⟨st', h1, z, rfl⟩ := for_map (t := .var 6) (body := bd__law_words_2 d) (c := []) (f := V.str) (xs := layW s t)
    (fun j st => ∃ z, st = ⟨[some (.str s), v1, some (sl (wordsW s t)), some (sl (layW s t)), v4, some (sl (((layW s t).take j).flatMap (succW s))), z], obs⟩) (fun _ _ _ => .nil _) (fun j w st hx hI => by
      obtain ⟨z, rfl⟩ := hI
      refine ⟨_, ?_, some (.str w), rfl⟩
      rw [take_flat s _ hx, ev_bind, ev_asg_var, ev_setVar, if_pos (by simp), Out.bind_ok]
      simp only [List.set]
      have hw := lay_len s t w (List.mem_of_getElem? hx)
      refine fresh_step d h3 (by omega) ?_
      rw [flat_len, List.length_take]
      have h2 := hlay t (by omega)
      have : min j (layW s t).length * s.length ≤ 81 * 3 := Nat.mul_le_mul (Nat.le_trans (Nat.min_le_right _ _) h2) h3
      omega) (st := ⟨[some (.str s), v1, some (sl (wordsW s t)), some (sl (layW s t)), v4, some (sl []), z6], obs⟩) ⟨z6, by simp⟩
  rw [List.take_length] at h1
  have h1' : forItems (.var 6) (bd__law_words_2 d) [] ((layW s t).map V.str) ⟨[some (.str s), v1, some (sl (wordsW s t)), some (sl (layW s t)), v4, some (.flist []), z6], obs⟩ = .ok .next ⟨[some (.str s), v1, some (sl (wordsW s t)), some (sl (layW s t)), v4, some (sl (layW s (t + 1))), z], obs⟩ := h1
  have hlen : (wordsW s t ++ layW s (t + 1)).length ≤ 1000 := Nat.le_trans (words_count hlay (t + 1) ht) (by omega)
  refine ⟨some (sl (layW s (t + 1))), z, ?_⟩
  have src : ∀ st, toSrc (sl (layW s t)) st = .ok ⟨(layW s t).map V.str, []⟩ st := fun _ => rfl
  simp only [bd__law_words_3, ev_seqS_cons, ev_bind, ev_assign, ev_listM, ev_seqM_nil, Out.bind_ok, ev_allocL (xs := []) (by simp), ev_asg_var, ev_setVar, List.length_cons, List.length_nil, Nat.reduceAdd, Nat.reduceLT, if_true, List.set, ev_pure, seqK_next, ev_for, ev_var, List.getElem?_cons_succ, List.getElem?_cons_zero, src, h1', ev_bin, ev_add_sl hlen, ev_seqS_nil]
  rfl
theorem words_eq (d : Nat) {s : List Nat} (h3 : s.length ≤ 3) {T : Nat} (hT : T ≤ 6) (hlay : ∀ u, u ≤ T → (layW s u).length ≤ 81) (st : St) : cfOf p1 (d + 1) (.fn (nm "_law_words")) [.str s, .int T] st = .ok (sl (wordsW s T)) st := by
  obtain ⟨vars, obs⟩ := st
  obtain ⟨st', h1, z4, z5, z6, rfl⟩ := for_map (t := .var 4) (body := bd__law_words_3 d) (c := []) (f := fun (k : Nat) => V.int k) (xs := List.range T)
    (fun j st => ∃ z4 z5 z6, st = ⟨[some (.str s), some (.int T), some (sl (wordsW s j)), some (sl (layW s j)), z4, z5, z6], obs⟩) (fun _ _ _ => .nil _) (fun j k st hx hI => by
      obtain ⟨z4, z5, z6, rfl⟩ := hI
      have hj : j < T := by simpa using (List.getElem?_eq_some_iff.mp hx).1
      obtain ⟨z5', z6', h⟩ := words_turn d h3 hT hlay hj (v1 := some (.int T)) (v4 := some (.int k)) (z5 := z5) (z6 := z6) (obs := obs)
      refine ⟨_, ?_, some (.int k), z5', z6', rfl⟩
      rw [ev_bind, ev_asg_var, ev_setVar, if_pos (by simp), Out.bind_ok]
      exact h) (st := ⟨[some (.str s), some (.int T), some (sl [[]]), some (sl [[]]), none, none, none], obs⟩) ⟨none, none, none, rfl⟩
  rw [List.length_range] at h1
  have h1' : forItems (.var 4) (bd__law_words_3 d) [] ((List.range T).map fun (k : Nat) => V.int k) ⟨[some (.str s), some (.int T), some (.flist [.str []]), some (.flist [.str []]), none, none, none], obs⟩ = .ok .next ⟨[some (.str s), some (.int T), some (sl (wordsW s T)), some (sl (layW s T)), z4, z5, z6], obs⟩ := h1
  rw [cf__law_words]
  have er := fun st => ev_range (n := T) (by omega) st
  simp only [ev_bind] at er
  refine run_pure (vars' := [some (.str s), some (.int T), some (sl (wordsW s T)), some (sl (layW s T)), z4, z5, z6]) rfl (fl := .ret (sl (wordsW s T))) ?_ (sl_pure _)
  simp only [List.map, List.replicate, List.cons_append, List.nil_append, ev_seqS_cons, ev_bind, ev_assign, ev_const, ev_listM, ev_seqM_cons, ev_seqM_nil, Out.bind_ok, ev_pure, ev_allocL (xs := [_]) (by simp), ev_asg_var, ev_setVar, List.length_cons, List.length_nil, Nat.reduceAdd, Nat.reduceSub, Nat.reduceLT, if_true, List.set, seqK_next, ev_for, ev_app, ev_var, List.getElem?_cons_succ, List.getElem?_cons_zero, er, h1', ev_ret, seqK_ret]
end Mine
set_option autoImplicit false
set_option linter.unusedVariables false
set_option linter.unusedSimpArgs false
set_option maxRecDepth 100000
namespace Mine
open PySem
/- loops that may hand out a value -/
theorem whileN_fl {t : M Bool} {body : M Flow} (I : Nat → St → Prop) (R : Flow → St → Prop) (h : ∀ m st, I m st → (∃ st', t st = .ok false st' ∧ R .next st') ∨ (∃ st1 v st2, t st = .ok true st1 ∧ body st1 = .ok (.ret v) st2 ∧ R (.ret v) st2) ∨ ∃ m' st1 st2, m' < m ∧ t st = .ok true st1 ∧ body st1 = .ok .next st2 ∧ I m' st2) :
    ∀ (n m : Nat) (st : St), m < n → I m st → ∃ fl st', whileN t body n st = .ok fl st' ∧ R fl st'
  | 0, m, st, hm, _ => by omega
  | n + 1, m, st, hm, hI => by
    unfold whileN
    rw [ev_bind]
    rcases h m st hI with ⟨st', h1, h2⟩ | ⟨st1, v, st2, h1, h2, h3⟩ | ⟨m', st1, st2, h0, h1, h2, h3⟩
    · rw [h1, Out.bind_ok, if_neg (by decide)]; exact ⟨.next, st', rfl, h2⟩
    · rw [h1, Out.bind_ok, if_pos rfl, ev_bind, h2, Out.bind_ok]; exact ⟨.ret v, st2, rfl, h3⟩
    · rw [h1, Out.bind_ok, if_pos rfl, ev_bind, h2, Out.bind_ok]; exact whileN_fl I R h n m' st2 (by omega) h3
noncomputable def flF {α : Type} (g : α → V) : Option α → Flow
  | some x => .ret (g x)
  | none => .next
theorem for_find {α : Type} {t : Tg} {body : M Flow} {f : α → V} {p : α → Bool} {g : α → V} (I : St → Prop) :
    ∀ {xs : List α}, (∀ x ∈ xs, ∀ st, I st → ∃ st', ((asg t (f x)).bind fun _ => body) st = .ok (if p x then .ret (g x) else .next) st' ∧ I st') → ∀ {st : St}, I st → ∃ st', forItems t body [] (xs.map f) st = .ok (flF g (xs.find? p)) st' ∧ I st'
  | [], _, st, hI => by
    refine ⟨st, ?_, hI⟩
    unfold forItems
    rw [List.map_nil]
    dsimp only
    rw [ev_bind, show chkObs [] st = .ok () st from ev_chk fun p hp => (nomatch hp)]; rfl
  | x :: xs, hs, st, hI => by
    obtain ⟨st', h1, h2⟩ := hs x (.head _) st hI
    rw [List.map_cons]
    unfold forItems
    rw [ev_bind, show chkObs [] st = .ok () st from ev_chk fun p hp => (nomatch hp), Out.bind_ok, ev_bind]
    rw [ev_bind] at h1
    have e : ∀ (r : Out Unit) (k : Flow → M Flow), (r.bind fun _ => body.bind k) = (r.bind fun _ => body).bind k := fun r k => by
      cases r with
      | ok a s => show (body.bind k) s = _; rw [ev_bind]; rfl
      | exc c s => rfl
      | stuck => rfl
    rw [e, h1, Out.bind_ok, List.find?_cons]
    cases q : p x with
    | true => exact ⟨st', rfl, h2⟩
    | false => exact for_find I (fun y hy => hs y (.tail _ hy)) h2
theorem bfs_wlen {κ : List Nat → Nat} {s : List Nat} : ∀ a, ∀ w ∈ bfs κ (succW s) [] a, w.length ≤ a
  | 0, w, h => by
    have : w ∈ [([] : List Nat)] := h
    rw [List.mem_singleton.mp this]; exact Nat.le_refl _
  | a + 1, w, h => by
    cases e : (bfs κ (succW s) [] a)[a]? with
    | none => rw [bfs_none (by simpa using e)] at h; exact Nat.le_succ_of_le (bfs_wlen a w h)
    | some x =>
      rw [bfs_some e] at h
      rcases addBy_mem κ _ _ h with h | h
      · exact Nat.le_succ_of_le (bfs_wlen a w h)
      · obtain ⟨c, _, rfl⟩ := List.mem_map.mp h
        have := bfs_wlen a x (List.mem_of_getElem? e)
        rw [List.length_append]
        exact Nat.succ_le_succ this
/- texts, or None -/
noncomputable def wordO : Option (List Nat) → V
  | none => .none
  | some w => .str w
/- words that part two machines -/
noncomputable def dist (s : List Nat) (r1 : List (List Nat)) (e1 : List Bool) (r2 : List (List Nat)) (e2 : List Bool) (w : List Nat) : Bool := e1.getD (goW s r1 w) false != e2.getD (goW s r2 w) false
noncomputable def pairK (s : List Nat) (r1 r2 : List (List Nat)) (w : List Nat) : Nat := goW s r1 w * r2.length + goW s r2 w
section
variable {s : List Nat} {r1 r2 : List (List Nat)} {e1 e2 : List Bool}
theorem pairK_eq (G2 : Good s r2 e2) {x y : List Nat} : pairK s r1 r2 x = pairK s r1 r2 y ↔ goW s r1 x = goW s r1 y ∧ goW s r2 x = goW s r2 y := by
  have hx := goW_lt G2 x
  have hy := goW_lt G2 y
  unfold pairK
  constructor
  · intro h
    have h1 : (goW s r1 x * r2.length + goW s r2 x) / r2.length = (goW s r1 y * r2.length + goW s r2 y) / r2.length := by rw [h]
    have hp : 0 < r2.length := G2.one
    rw [Nat.mul_comm (goW s r1 x), Nat.mul_comm (goW s r1 y), Nat.mul_add_div hp, Nat.mul_add_div hp, Nat.div_eq_of_lt hx, Nat.div_eq_of_lt hy] at h1
    have h2 : goW s r1 x = goW s r1 y := by omega
    rw [h2] at h
    exact ⟨h2, by omega⟩
  · rintro ⟨h1, h2⟩
    rw [h1, h2]
theorem pairK_lt (G1 : Good s r1 e1) (G2 : Good s r2 e2) (w : List Nat) : pairK s r1 r2 w < r1.length * r2.length := by
  have h1 := goW_lt G1 w
  have h2 := goW_lt G2 w
  unfold pairK
  have : goW s r1 w * r2.length + r2.length ≤ r1.length * r2.length := by
    rw [← Nat.succ_mul]
    exact Nat.mul_le_mul_right _ h1
  omega
theorem pairK_succ (G2 : Good s r2 e2) {x y : List Nat} (h : pairK s r1 r2 x = pairK s r1 r2 y) : (succW s x).map (pairK s r1 r2) = (succW s y).map (pairK s r1 r2) := by
  obtain ⟨h1, h2⟩ := (pairK_eq G2).mp h
  unfold succW
  rw [List.map_map, List.map_map]
  refine List.map_congr_left fun c _ => ?_
  show pairK s r1 r2 (x ++ [c]) = pairK s r1 r2 (y ++ [c])
  unfold pairK
  rw [goW_snoc, goW_snoc, goW_snoc, goW_snoc, h1, h2]
theorem dist_eq (G2 : Good s r2 e2) {x y : List Nat} (h : pairK s r1 r2 x = pairK s r1 r2 y) : dist s r1 e1 r2 e2 x = dist s r1 e1 r2 e2 y := by
  obtain ⟨h1, h2⟩ := (pairK_eq G2).mp h
  unfold dist
  rw [h1, h2]
noncomputable def partQ (s : List Nat) (r1 r2 : List (List Nat)) (a : Nat) : List (List Nat) := bfs (pairK s r1 r2) (succW s) [] a
theorem partQ_len (G1 : Good s r1 e1) (G2 : Good s r2 e2) (a : Nat) : (partQ s r1 r2 a).length ≤ r1.length * r2.length := by
  have := nodup_len (n := r1.length * r2.length) (bfs_nodup (κ := pairK s r1 r2) (succ := succW s) (x0 := []) a) fun r hr => by obtain ⟨w, _, rfl⟩ := List.mem_map.mp hr; exact pairK_lt G1 G2 w
  rw [List.length_map] at this
  exact this
/- what the law tries out is what is found -/
theorem part_law (G1 : Good s r1 e1) (G2 : Good s r2 e2) {N : Nat} (hN : r1.length * r2.length ≤ N) : (partQ s r1 r2 N).find? (dist s r1 e1 r2 e2) = (wordsW s (r1.length + r2.length - 2)).find? (dist s r1 e1 r2 e2) := by
  refine lead_find (fun x y h => pairK_succ G2 h) (fun x y h => dist_eq G2 h) G1.signs.one (fun a => Nat.le_trans (partQ_len G1 G2 a) hN) fun h w hw => ?_
  have key := part_words (S := s) (n1 := r1.length) (n2 := r2.length) (f := wayC s r1) (g := wayC s r2) (a := fun i => e1.getD i false) (b := fun i => e2.getD i false) G1.one G2.one (fun i c => wayC_lt G1 i c) (fun i c => wayC_lt G2 i c) (fun w hw => by
    have h1 := h w hw
    unfold dist at h1
    exact (show e1.getD (goW s r1 w) false = e2.getD (goW s r2 w) false by simpa using h1)) w hw
  unfold dist
  have k2 : e1.getD (goW s r1 w) false = e2.getD (goW s r2 w) false := key
  rw [k2]; simp
end
end Mine
set_option autoImplicit false
set_option linter.unusedVariables false
set_option linter.unusedSimpArgs false
set_option maxRecDepth 100000
namespace Mine
open PySem
section
variable {s : List Nat} {r1 r2 : List (List Nat)} {e1 e2 : List Bool}
noncomputable def tripV (s : List Nat) (r1 r2 : List (List Nat)) (w : List Nat) : V := .tuple [.int (goW s r1 w), .int (goW s r2 w), .str w]
noncomputable def keyW (s : List Nat) (r1 r2 : List (List Nat)) (w : List Nat) : List Int := [((goW s r1 w : Nat) : Int), ((goW s r2 w : Nat) : Int)]
/- the ledger of the search: what waits, what was met -/
noncomputable def LP (obs : List Ob) (s : List Nat) (r1 r2 : List (List Nat)) (q : List (List Nat)) : List Ob := obs ++ [.list (q.map (tripV s r1 r2)), .pset (q.map (keyW s r1 r2))]
theorem LP0 {obs : List Ob} {q : List (List Nat)} : (LP obs s r1 r2 q)[obs.length]? = some (.list (q.map (tripV s r1 r2))) := tl0 ..
theorem LP1 {obs : List Ob} {q : List (List Nat)} : (LP obs s r1 r2 q)[obs.length + 1]? = some (.pset (q.map (keyW s r1 r2))) := tl1 ..
theorem keyW_mem (G2 : Good s r2 e2) {q : List (List Nat)} {w : List Nat} : keyW s r1 r2 w ∈ q.map (keyW s r1 r2) ↔ pairK s r1 r2 w ∈ q.map (pairK s r1 r2) := by
  simp only [List.mem_map]
  constructor
  · rintro ⟨y, hy, e⟩
    refine ⟨y, hy, (pairK_eq G2).mpr ?_⟩
    simp only [keyW, List.cons.injEq] at e
    exact ⟨by omega, by omega⟩
  · rintro ⟨y, hy, e⟩
    obtain ⟨h1, h2⟩ := (pairK_eq G2).mp e
    exact ⟨y, hy, by simp only [keyW, h1, h2]⟩
theorem keyP_pair (a b : Nat) : keyP (.tuple [.int a, .int b]) = some [((a : Nat) : Int), ((b : Nat) : Int)] := rfl
/- one way out of the rooms of x -/
theorem part_step (d : Nat) (G2 : Good s r2 e2) {q : List (List Nat)} (hq : q.length ≤ 900) {x : List Nat} (hxl : x.length ≤ 900) {c : Nat} {v0 v1 v2 v3 v6 v7 v8 : Option V} {obs : List Ob} :
    bd_parting_2 d ⟨[v0, v1, v2, v3, some (.ref obs.length), some (.ref (obs.length + 1)), v6, v7, v8, some (.str x), some (.str [c]), some (.int (goW s r1 (x ++ [c]))), some (.int (goW s r2 (x ++ [c])))], LP obs s r1 r2 q⟩ =
      .ok .next ⟨[v0, v1, v2, v3, some (.ref obs.length), some (.ref (obs.length + 1)), v6, v7, v8, some (.str x), some (.str [c]), some (.int (goW s r1 (x ++ [c]))), some (.int (goW s r2 (x ++ [c])))], LP obs s r1 r2 (if pairK s r1 r2 (x ++ [c]) ∈ q.map (pairK s r1 r2) then q else q ++ [x ++ [c]])⟩ := by
  have ni : ∀ vars, cmpV .NotIn (.tuple [.int (goW s r1 (x ++ [c])), .int (goW s r2 (x ++ [c]))]) (.ref (obs.length + 1)) ⟨vars, LP obs s r1 r2 q⟩ = .ok (!decide (keyW s r1 r2 (x ++ [c]) ∈ q.map (keyW s r1 r2))) ⟨vars, LP obs s r1 r2 q⟩ := fun vars => by
    show (((getOb (obs.length + 1)).bind (inO (.tuple [.int (goW s r1 (x ++ [c])), .int (goW s r2 (x ++ [c]))]))).bind fun x => M.pure !x) _ = _
    rw [ev_bind, ev_bind, ev_getOb, LP1]
    dsimp only
    rw [Out.bind_ok]
    show (((ofOpt (keyP (.tuple [.int (goW s r1 (x ++ [c])), .int (goW s r2 (x ++ [c]))]))).bind fun k => M.pure (decide (k ∈ q.map (keyW s r1 r2)))) _).bind _ = _
    rw [keyP_pair, ev_bind, ev_ofOpt, ev_pure, Out.bind_ok, ev_pure, Out.bind_ok]; rfl
  simp only [bd_parting_2, ev_seqS_cons, ev_bind, ev_iteM, ev_cmp, ev_tupM, ev_seqM_cons, ev_seqM_nil, ev_var, List.getElem?_cons_succ, List.getElem?_cons_zero, Out.bind_ok, ev_pure, ev_tupL (xs := [_, _]) (by simp), ev_chain1, ni]
  by_cases h : pairK s r1 r2 (x ++ [c]) ∈ q.map (pairK s r1 r2)
  · rw [if_pos h, decide_eq_true ((keyW_mem G2).mpr h)]
    simp only [Bool.not_true, Bool.false_eq_true, if_false, ev_seqS_nil, Out.bind_ok, seqK_next]
  · have hk : keyW s r1 r2 (x ++ [c]) ∉ q.map (keyW s r1 r2) := fun z => h ((keyW_mem G2).mp z)
    rw [if_neg h, decide_eq_false hk]
    have ss : ∀ vars, setSubV (.ref (obs.length + 1)) (.tuple [.int (goW s r1 (x ++ [c])), .int (goW s r2 (x ++ [c]))]) (.bool true) ⟨vars, LP obs s r1 r2 q⟩ = .ok () ⟨vars, obs ++ [.list (q.map (tripV s r1 r2)), .pset (q.map (keyW s r1 r2) ++ [keyW s r1 r2 (x ++ [c])])]⟩ := fun vars => by
      show ((getOb (obs.length + 1)).bind fun o => (ofOpt (setSubO (.tuple [.int (goW s r1 (x ++ [c])), .int (goW s r2 (x ++ [c]))]) (.bool true) o)).bind fun o' => setOb (obs.length + 1) o') _ = _
      rw [ev_bind, ev_getOb, LP1]
      dsimp only
      rw [Out.bind_ok]
      have e : setSubO (.tuple [.int (goW s r1 (x ++ [c])), .int (goW s r2 (x ++ [c]))]) (.bool true) (.pset (q.map (keyW s r1 r2))) = some (.pset (q.map (keyW s r1 r2) ++ [keyW s r1 r2 (x ++ [c])])) := by
        show ((keyP (.tuple [.int (goW s r1 (x ++ [c])), .int (goW s r2 (x ++ [c]))])).bind fun k => if isTrueV (.bool true) = true ∧ (q.map (keyW s r1 r2)).length ≤ lim then some (Ob.pset (putP (q.map (keyW s r1 r2)) k)) else none) = _
        rw [keyP_pair, Option.bind_some, if_pos ⟨rfl, le_lim (by rw [List.length_map]; omega)⟩]
        exact congrArg (fun z => some (Ob.pset z)) (if_neg hk)
      rw [e, ev_bind, ev_ofOpt, ev_pure, Out.bind_ok, ev_setOb, if_pos (by simp [LP])]
      unfold LP
      rw [ts1]
    have wl : (q.map (tripV s r1 r2)).length ≤ 1000 := by rw [List.length_map]; omega
    have add : ∀ st, binV .Add (.str x) (.str [c]) st = .ok (.str (x ++ [c])) st := fun st => ev_add_str (by simp; omega) st
    simp only [Bool.not_false, if_true, setSubM, ev_seqS_cons, ev_bind, ev_const, ev_var, List.getElem?_cons_succ, List.getElem?_cons_zero, Out.bind_ok, ev_tupM, ev_seqM_cons, ev_seqM_nil, ev_pure, ev_tupL (xs := [_, _]) (by simp), ss, seqK_next, ev_expr, ev_meth, ev_pickL, ev_getList, tl0, ev_bin, add, ev_tupL (xs := [_, _, _]) (by simp), ev_append, ev_appS _ _ wl, ev_setOb, List.length_append, List.length_cons, List.length_nil]
    rw [if_pos (by omega), ts0]
    simp only [Out.bind_ok, seqK_next, ev_seqS_nil, ev_pure]
    unfold LP
    rw [List.map_append, List.map_append]; rfl
theorem zip_ways3 (G1 : Good s r1 e1) (G2 : Good s r2 e2) {x : List Nat} : zipL3 (charsOf s) ((r1.getD (goW s r1 x) []).map fun (n : Nat) => V.int n) ((r2.getD (goW s r2 x) []).map fun (n : Nat) => V.int n) = s.map fun c => V.tuple [.str [c], .int (goW s r1 (x ++ [c])), .int (goW s r2 (x ++ [c]))] := by
  have row : ∀ {rows : List (List Nat)} {ends : List Bool}, Good s rows ends → (rows.getD (goW s rows x) []).length = s.length := fun G => (G.row _ (by rw [List.getD_eq_getElem?_getD, List.getElem?_eq_getElem (goW_lt G x)]; exact List.getElem_mem _)).1
  have h1 := row G1
  have h2 := row G2
  unfold zipL3 charsOf
  refine List.ext_getElem (by rw [List.length_zipWith, List.length_zip, List.length_map, List.length_map, List.length_map, List.length_map, h1, h2, Nat.min_self, Nat.min_self]) fun i q1 q2 => ?_
  have hi : i < s.length := by simpa using q2
  rw [List.getElem_zipWith, List.getElem_zip, List.getElem_map, List.getElem_map, List.getElem_map, List.getElem_map, goW_snoc, goW_snoc]
  unfold wayC
  rw [idxC_at G1.signs.nd (List.getElem?_eq_getElem hi), List.getD_eq_getElem?_getD (l := r1.getD (goW s r1 x) []), List.getD_eq_getElem?_getD (l := r2.getD (goW s r2 x) []), List.getElem?_eq_getElem (by rw [h1]; exact hi), List.getElem?_eq_getElem (by rw [h2]; exact hi)]
  rfl
end
end Mine
set_option autoImplicit false
set_option linter.unusedVariables false
set_option linter.unusedSimpArgs false
set_option maxRecDepth 100000
namespace Mine
open PySem
section
variable {s : List Nat} {r1 r2 : List (List Nat)} {e1 e2 : List Bool}
noncomputable def two2 (a b : V) : V := .flist [a, b]
theorem sub_20 (a b : V) (st : St) : subV (two2 a b) (.int 0) st = .ok a st := rfl
theorem sub_21 (a b : V) (st : St) : subV (two2 a b) (.int 1) st = .ok b st := rfl
noncomputable def tail3 (d : Nat) : List (M Flow) := [forM (.tup [10, 11, 12]) (zipM3 (attrM (wdOf p1 (cfOf p1 d)) (varM 0) (nm "signs")) (subM (subM (varM 2) (constM (.int 0))) (varM 7)) (subM (subM (varM 2) (constM (.int 1))) (varM 8))) (bd_parting_2 d)]
theorem part_head (d : Nat) (G1 : Good s r1 e1) (G2 : Good s r2 e2) {q : List (List Nat)} {a : Nat} {x : List Nat} (hx : q[a]? = some x) (hq : q.length ≤ 900) {z7 z8 z9 z10 z11 z12 : Option V} {obs : List Ob} :
    bd_parting_3 d ⟨[some (mach s r1 e1), some (mach s r2 e2), some (two2 (nll r1) (nll r2)), some (two2 (bl e1) (bl e2)), some (.ref obs.length), some (.ref (obs.length + 1)), some (.int a), z7, z8, z9, z10, z11, z12], LP obs s r1 r2 q⟩ =
      if dist s r1 e1 r2 e2 x then .ok (.ret (.str x)) ⟨[some (mach s r1 e1), some (mach s r2 e2), some (two2 (nll r1) (nll r2)), some (two2 (bl e1) (bl e2)), some (.ref obs.length), some (.ref (obs.length + 1)), some (.int ((a + 1 : Nat) : Int)), some (.int (goW s r1 x)), some (.int (goW s r2 x)), some (.str x), z10, z11, z12], LP obs s r1 r2 q⟩
      else seqS (tail3 d) ⟨[some (mach s r1 e1), some (mach s r2 e2), some (two2 (nll r1) (nll r2)), some (two2 (bl e1) (bl e2)), some (.ref obs.length), some (.ref (obs.length + 1)), some (.int ((a + 1 : Nat) : Int)), some (.int (goW s r1 x)), some (.int (goW s r2 x)), some (.str x), z10, z11, z12], LP obs s r1 r2 q⟩ := by
  have hm1 := G1.rooms.most
  have hm2 := G2.rooms.most
  have sw : ∀ vars, subV (.ref obs.length) (.int (a : Nat)) ⟨vars, LP obs s r1 r2 q⟩ = .ok (tripV s r1 r2 x) ⟨vars, LP obs s r1 r2 q⟩ := fun vars => by
    rw [ev_sub_ref, ev_bind, ev_getOb, LP0]
    dsimp only
    rw [Out.bind_ok, ev_subO_list, idx_nat (v := tripV s r1 r2 x) (by rw [List.getElem?_map, hx]; rfl) (by rw [List.length_map]; omega), ev_ofOpt, ev_pure]
  have ea : ((a : Int) + 1) = ((a + 1 : Nat) : Int) := by omega
  have b1 := fun st => sub_bl (K := e1) (k := goW s r1 x) (by rw [G1.ends]; exact goW_lt G1 x) (by rw [G1.ends]; omega) st
  have b2 := fun st => sub_bl (K := e2) (k := goW s r2 x) (by rw [G2.ends]; exact goW_lt G2 x) (by rw [G2.ends]; omega) st
  unfold bd_parting_3
  simp only [ev_seqS_cons, ev_bind, ev_assign, ev_subM, ev_var, List.getElem?_cons_succ, List.getElem?_cons_zero, Out.bind_ok, sw, tripV, ev_asg_tup, ev_setVars_cons, ev_setVars_nil, ev_asg_var, ev_setVar, List.length_cons, List.length_nil, Nat.reduceAdd, Nat.reduceLT, if_true, List.set, ev_pure, seqK_next, ev_bin, ev_const, ev_add_int, ea, ev_iteM, ev_cmp, sub_20, sub_21, b1, ev_chain1, b2, ev_ne, ev_eq_bool]
  show ((if dist s r1 e1 r2 e2 x = true then seqS [retM (varM 9)] else seqS []) _).bind _ = _
  cases dist s r1 e1 r2 e2 x with
  | true =>
    rw [if_pos rfl, if_pos rfl]
    simp only [ev_seqS_cons, ev_bind, ev_ret, ev_var, List.getElem?_cons_succ, List.getElem?_cons_zero, Out.bind_ok, ev_pure, seqK_ret]
  | false =>
    rw [if_neg (by decide), if_neg (by decide)]
    simp only [ev_seqS_nil, Out.bind_ok, seqK_next, tail3]
theorem part_next (d : Nat) (G1 : Good s r1 e1) (G2 : Good s r2 e2) {q : List (List Nat)} {x : List Nat} (hxl : x.length ≤ 900) (hq : ∀ t, (addBy (pairK s r1 r2) q t).length ≤ 900) {z6 z10 z11 z12 : Option V} {obs : List Ob} : ∃ z10' z11' z12',
    seqS (tail3 d) ⟨[some (mach s r1 e1), some (mach s r2 e2), some (two2 (nll r1) (nll r2)), some (two2 (bl e1) (bl e2)), some (.ref obs.length), some (.ref (obs.length + 1)), z6, some (.int (goW s r1 x)), some (.int (goW s r2 x)), some (.str x), z10, z11, z12], LP obs s r1 r2 q⟩ =
      .ok .next ⟨[some (mach s r1 e1), some (mach s r2 e2), some (two2 (nll r1) (nll r2)), some (two2 (bl e1) (bl e2)), some (.ref obs.length), some (.ref (obs.length + 1)), z6, some (.int (goW s r1 x)), some (.int (goW s r2 x)), some (.str x), z10', z11', z12'], LP obs s r1 r2 (addBy (pairK s r1 r2) q (succW s x))⟩ := by
  have hm1 := G1.rooms.most
  have hm2 := G2.rooms.most
  obtain ⟨st', h1, w10, w11, w12, rfl⟩ := for_map (t := .tup [10, 11, 12]) (body := bd_parting_2 d) (c := []) (f := fun c => V.tuple [.str [c], .int (goW s r1 (x ++ [c])), .int (goW s r2 (x ++ [c]))]) (xs := s)
    (fun j st => ∃ z10 z11 z12, st = ⟨[some (mach s r1 e1), some (mach s r2 e2), some (two2 (nll r1) (nll r2)), some (two2 (bl e1) (bl e2)), some (.ref obs.length), some (.ref (obs.length + 1)), z6, some (.int (goW s r1 x)), some (.int (goW s r2 x)), some (.str x), z10, z11, z12], LP obs s r1 r2 (addBy (pairK s r1 r2) q ((s.take j).map fun c => x ++ [c]))⟩) (fun _ _ _ => .nil _) (fun j c st hc hI => by
      obtain ⟨z10, z11, z12, rfl⟩ := hI
      have e : (s.take (j + 1)).map (fun c => x ++ [c]) = ((s.take j).map fun c => x ++ [c]) ++ [x ++ [c]] := by rw [List.take_add_one, hc]; simp
      refine ⟨_, ?_, some (.str [c]), some (.int (goW s r1 (x ++ [c]))), some (.int (goW s r2 (x ++ [c]))), rfl⟩
      rw [e, addBy_append]
      simp only [ev_bind, ev_asg_tup, ev_setVars_cons, ev_setVars_nil, ev_setVar, List.length_cons, List.length_nil, Nat.reduceAdd, Nat.reduceLT, if_true, List.set, Out.bind_ok, ev_pure]
      exact part_step d G2 (hq _) hxl) (st := ⟨[some (mach s r1 e1), some (mach s r2 e2), some (two2 (nll r1) (nll r2)), some (two2 (bl e1) (bl e2)), some (.ref obs.length), some (.ref (obs.length + 1)), z6, some (.int (goW s r1 x)), some (.int (goW s r2 x)), some (.str x), z10, z11, z12], LP obs s r1 r2 q⟩) ⟨z10, z11, z12, rfl⟩
  rw [List.take_length] at h1
  have row : ∀ {rows : List (List Nat)} {ends : List Bool}, Good s rows ends → (rows.getD (goW s rows x) []).length = s.length := fun G => (G.row _ (by rw [List.getD_eq_getElem?_getD, List.getElem?_eq_getElem (goW_lt G x)]; exact List.getElem_mem _)).1
  have ez : ∀ st, zipA3 [.str s, nl (r1.getD (goW s r1 x) []), nl (r2.getD (goW s r2 x) [])] st = .ok ⟨s.map fun c => V.tuple [.str [c], .int (goW s r1 (x ++ [c])), .int (goW s r2 (x ++ [c]))], []⟩ st := fun st => by
    show (if s.length ≤ ((r1.getD (goW s r1 x) []).map fun (n : Nat) => V.int n).length ∧ s.length ≤ ((r2.getD (goW s r2 x) []).map fun (n : Nat) => V.int n).length then M.pure (Src.mk (zipL3 (charsOf s) ((r1.getD (goW s r1 x) []).map fun (n : Nat) => V.int n) ((r2.getD (goW s r2 x) []).map fun (n : Nat) => V.int n)) []) else stuck) st = _
    rw [if_pos ⟨by rw [List.length_map, row G1]; exact Nat.le_refl _, by rw [List.length_map, row G2]; exact Nat.le_refl _⟩, zip_ways3 G1 G2]; rfl
  refine ⟨w10, w11, w12, ?_⟩
  have h1' : forItems (.tup [10, 11, 12]) (bd_parting_2 d) [] (s.map fun c => V.tuple [.str [c], .int (goW s r1 (x ++ [c])), .int (goW s r2 (x ++ [c]))]) _ = .ok .next ⟨_, LP obs s r1 r2 (addBy (pairK s r1 r2) q (succW s x))⟩ := h1
  simp only [tail3, zipM3, ev_seqS_cons, ev_bind, ev_for, ev_seqM_cons, ev_seqM_nil, ev_attrM, ev_var, List.getElem?_cons_succ, List.getElem?_cons_zero, Out.bind_ok, at_signs, ev_subM, ev_const, sub_20, sub_21, sub_nll (goW_lt G1 x) (by omega), sub_nll (goW_lt G2 x) (by omega), ev_pure, ez, h1', seqK_next, ev_seqS_nil]
theorem part_loop (d : Nat) (G1 : Good s r1 e1) (G2 : Good s r2 e2) (hN : r1.length * r2.length ≤ 400) (obs : List Ob) : ∃ fl st', whileM (bd_parting_1 d) (bd_parting_3 d) ⟨[some (mach s r1 e1), some (mach s r2 e2), some (two2 (nll r1) (nll r2)), some (two2 (bl e1) (bl e2)), some (.ref obs.length), some (.ref (obs.length + 1)), some (.int 0), none, none, none, none, none, none], LP obs s r1 r2 [[]]⟩ = .ok fl st' ∧
    (∃ t, st'.obs = obs ++ t) ∧ fl = flF V.str ((partQ s r1 r2 400).find? (dist s r1 e1 r2 e2)) := by
  refine whileN_fl (t := bd_parting_1 d) (body := bd_parting_3 d)
    (fun m st => ∃ a z7 z8 z9 z10 z11 z12, m = 1000 - a ∧ a ≤ (partQ s r1 r2 a).length ∧ (∀ w ∈ (partQ s r1 r2 a).take a, dist s r1 e1 r2 e2 w = false) ∧ st = ⟨[some (mach s r1 e1), some (mach s r2 e2), some (two2 (nll r1) (nll r2)), some (two2 (bl e1) (bl e2)), some (.ref obs.length), some (.ref (obs.length + 1)), some (.int (a : Nat)), z7, z8, z9, z10, z11, z12], LP obs s r1 r2 (partQ s r1 r2 a)⟩)
    (fun fl st' => (∃ t, st'.obs = obs ++ t) ∧ fl = flF V.str ((partQ s r1 r2 400).find? (dist s r1 e1 r2 e2)))
    (fun m st hI => ?_) fuelW 1000 _ (by decide) ⟨0, none, none, none, none, none, none, rfl, Nat.zero_le _, by simp, rfl⟩
  obtain ⟨a, z7, z8, z9, z10, z11, z12, rfl, hle, hnd, rfl⟩ := hI
  have hql := Nat.le_trans (partQ_len G1 G2 a) hN
  have ht : bd_parting_1 d ⟨[some (mach s r1 e1), some (mach s r2 e2), some (two2 (nll r1) (nll r2)), some (two2 (bl e1) (bl e2)), some (.ref obs.length), some (.ref (obs.length + 1)), some (.int (a : Nat)), z7, z8, z9, z10, z11, z12], LP obs s r1 r2 (partQ s r1 r2 a)⟩ = .ok (decide (((a : Nat) : Int) < ((partQ s r1 r2 a).length : Int))) ⟨[some (mach s r1 e1), some (mach s r2 e2), some (two2 (nll r1) (nll r2)), some (two2 (bl e1) (bl e2)), some (.ref obs.length), some (.ref (obs.length + 1)), some (.int (a : Nat)), z7, z8, z9, z10, z11, z12], LP obs s r1 r2 (partQ s r1 r2 a)⟩ := by
    have wl : ((partQ s r1 r2 a).map (tripV s r1 r2)).length = (partQ s r1 r2 a).length := List.length_map ..
    simp only [bd_parting_1, ev_cmp, ev_bind, ev_var, List.getElem?_cons_succ, List.getElem?_cons_zero, Out.bind_ok, ev_chain1, ev_app, ev_seqM_cons, ev_seqM_nil, ev_pure, ev_len_ref, ev_getList, LP0, wl, ev_lenM (n := (partQ s r1 r2 a).length) (by omega), ev_lt]
  by_cases h : a < (partQ s r1 r2 a).length
  · obtain ⟨x, hx⟩ : ∃ x, (partQ s r1 r2 a)[a]? = some x := ⟨_, List.getElem?_eq_getElem h⟩
    have hb := part_head d G1 G2 hx (by omega) (z7 := z7) (z8 := z8) (z9 := z9) (z10 := z10) (z11 := z11) (z12 := z12) (obs := obs)
    have htk : (partQ s r1 r2 a).take (a + 1) = (partQ s r1 r2 a).take a ++ [x] := by rw [List.take_add_one, hx]; rfl
    cases hdx : dist s r1 e1 r2 e2 x with
    | true =>
      rw [hdx, if_pos rfl] at hb
      refine .inr (.inl ⟨_, .str x, _, ht.trans (by rw [decide_eq_true (by omega)]), hb, ⟨_, rfl⟩, ?_⟩)
      have ha4 : a ≤ 400 := by omega
      obtain ⟨t, ep⟩ := bfs_pre (κ := pairK s r1 r2) (succ := succW s) (x0 := []) ha4
      have e : (partQ s r1 r2 400).find? (dist s r1 e1 r2 e2) = some x := by
        have e1' : partQ s r1 r2 400 = partQ s r1 r2 a ++ t := ep
        have e2' : partQ s r1 r2 a = (partQ s r1 r2 a).take a ++ ([x] ++ (partQ s r1 r2 a).drop (a + 1)) := by
          rw [← List.append_assoc, ← htk, List.take_append_drop]
        rw [e1', e2', List.append_assoc, List.find?_append, List.find?_eq_none.mpr (fun w hw => by rw [hnd w hw]; decide), Option.none_or, List.append_assoc, List.singleton_append, List.find?_cons, hdx]
      rw [e]; rfl
    | false =>
      rw [hdx, if_neg (by decide)] at hb
      have hxl := bfs_wlen (κ := pairK s r1 r2) (s := s) a x (List.mem_of_getElem? hx)
      have hstep : partQ s r1 r2 (a + 1) = addBy (pairK s r1 r2) (partQ s r1 r2 a) (succW s x) := bfs_some hx
      obtain ⟨w10, w11, w12, hn⟩ := part_next d G1 G2 (q := partQ s r1 r2 a) (x := x) (by omega) (fun t => by
        have hnd := nodup_len (n := r1.length * r2.length) (l := (addBy (pairK s r1 r2) (partQ s r1 r2 a) t).map (pairK s r1 r2)) (by rw [map_addBy]; exact addAll_nodup (bfs_nodup (κ := pairK s r1 r2) (succ := succW s) (x0 := []) a)) fun r hr => by obtain ⟨w, _, rfl⟩ := List.mem_map.mp hr; exact pairK_lt G1 G2 w
        rw [List.length_map] at hnd
        omega) (z6 := some (.int ((a + 1 : Nat) : Int))) (z10 := z10) (z11 := z11) (z12 := z12) (obs := obs)
      obtain ⟨t, ep⟩ := bfs_step (κ := pairK s r1 r2) (succ := succW s) (x0 := []) a
      have ep' : partQ s r1 r2 (a + 1) = partQ s r1 r2 a ++ t := ep
      refine .inr (.inr ⟨1000 - (a + 1), _, _, by omega, ht.trans (by rw [decide_eq_true (by omega)]), hb.trans hn, a + 1, some (.int (goW s r1 x)), some (.int (goW s r2 x)), some (.str x), w10, w11, w12, rfl, ?_, ?_, ?_⟩)
      · rw [ep', List.length_append]; omega
      · intro w hw
        rw [ep', List.take_append_of_le_length (by omega), htk] at hw
        rcases List.mem_append.mp hw with hw | hw
        · exact hnd w hw
        · cases List.mem_singleton.mp hw; exact hdx
      · rw [hstep]
  · have e : partQ s r1 r2 400 = partQ s r1 r2 a := bfs_done (by omega) (by
      show (partQ s r1 r2 a).length ≤ a
      omega)
    refine .inl ⟨_, ht.trans (by rw [decide_eq_false (by omega)]), ⟨_, rfl⟩, ?_⟩
    rw [e, List.find?_eq_none.mpr (fun w hw => by rw [hnd w (by rw [List.take_of_length_le (by omega)]; exact hw)]; decide)]
    rfl
end
end Mine
set_option autoImplicit false
set_option linter.unusedVariables false
set_option linter.unusedSimpArgs false
set_option maxRecDepth 100000
namespace Mine
open PySem
section
variable {s : List Nat} {r1 r2 : List (List Nat)} {e1 e2 : List Bool}
theorem eq_same {w : List Nat} (h : Dt.str.P w) (st : St) : pyEq (.str w) (.str w) st = .ok true st := by
  have := ev_eqD Dt.str (by decide) (a := w) (b := w) h h st
  rw [decide_eq_true rfl] at this
  exact this
theorem signs_P (S : SignsP s) : Dt.str.P s := fun c hc => by have := S.az c hc; omega
theorem parting_eq (d : Nat) (G1 : Good s r1 e1) (G2 : Good s r2 e2) (hN : r1.length * r2.length ≤ 400) (st : St) : cfOf p1 (d + 2) (.fn (nm "parting")) [mach s r1 e1, mach s r2 e2] st = .ok (wordO ((partQ s r1 r2 400).find? (dist s r1 e1 r2 e2))) st := by
  obtain ⟨vars, obs⟩ := st
  obtain ⟨fl, st', hw, ⟨t, ht⟩, hfl⟩ := part_loop (d + 1) G1 G2 hN obs
  obtain ⟨vars', obs'⟩ := st'
  have ht' : obs' = obs ++ t := ht
  subst ht'
  have ra := fun st => rows_eq d G1 st
  have rb := fun st => rows_eq d G2 st
  have ea := fun st => ends_eq d G1 st
  have eb := fun st => ends_eq d G2 st
  have es := fun st => eq_same (signs_P G1.signs) st
  have l2 : ∀ (a b : V) st, allocL [a, b] st = .ok (two2 a b) st := fun a b st => ev_allocL (by simp) st
  have ps : ∀ vars obs, mkP (.tuple [.int 0, .int 0]) (.bool true) ⟨vars, obs⟩ = .ok (.ref obs.length) ⟨vars, obs ++ [.pset [[0, 0]]]⟩ := fun _ _ => rfl
  have hw' : whileM (bd_parting_1 (d + 1)) (bd_parting_3 (d + 1)) ⟨[some (mach s r1 e1), some (mach s r2 e2), some (two2 (nll r1) (nll r2)), some (two2 (bl e1) (bl e2)), some (.ref obs.length), some (.ref (obs.length + 1)), some (.int 0), none, none, none, none, none, none], obs ++ [.list [.tuple [.int 0, .int 0, .str []]]] ++ [.pset [[0, 0]]]⟩ = .ok fl ⟨vars', obs ++ t⟩ := by
    rw [List.append_assoc]; exact hw
  rw [cf_parting]
  have body : ∀ (k : Flow), fl = k → seqS [iteM (cmpM (attrM (wdOf p1 (cfOf p1 (d + 1))) (varM 0) (nm "signs")) [(.NotEq, attrM (wdOf p1 (cfOf p1 (d + 1))) (varM 1) (nm "signs"))]) (seqS [raiseM (nm "BadMachine")]) (seqS []),
    assignM (.var 2) (listM [methM (pickO (wdOf p1 (cfOf p1 (d + 1))) (nm "rows")) (varM 0) [], methM (pickO (wdOf p1 (cfOf p1 (d + 1))) (nm "rows")) (varM 1) []]),
    assignM (.var 3) (listM [methM (pickO (wdOf p1 (cfOf p1 (d + 1))) (nm "ends")) (varM 0) [], methM (pickO (wdOf p1 (cfOf p1 (d + 1))) (nm "ends")) (varM 1) []]),
    assignM (.var 4) ((listM [tupM [constM (.int 0), constM (.int 0), constM (.str [])]]).bind ownL),
    assignM (.var 5) (pset1M (tupM [constM (.int 0), constM (.int 0)]) (constM (.bool true))),
    assignM (.var 6) (constM (.int 0)),
    whileM (bd_parting_1 (d + 1)) (bd_parting_3 (d + 1)),
    retM (constM .none)] ⟨[some (mach s r1 e1), some (mach s r2 e2), none, none, none, none, none, none, none, none, none, none, none], obs⟩ = (seqK [retM (constM .none)] k) ⟨vars', obs ++ t⟩ := fun k hk => by
    subst hk
    simp only [pset1M, ev_seqS_cons, ev_bind, ev_iteM, ev_cmp, ev_attrM, ev_var, List.getElem?_cons_succ, List.getElem?_cons_zero, Out.bind_ok, at_signs, ev_chain1, ev_ne, es, ev_pure, Bool.not_true, Bool.false_eq_true, if_false, ev_seqS_nil, seqK_next, ev_assign, ev_listM, ev_seqM_cons, ev_seqM_nil, ev_meth, pk_rows, pk_ends, ra, rb, ea, eb, l2, ev_asg_var, ev_setVar, List.length_cons, List.length_nil, Nat.reduceAdd, Nat.reduceLT, if_true, List.set, ev_tupM, ev_const, ev_tupL (xs := [_, _, _]) (by simp), ev_tupL (xs := [_, _]) (by simp), ev_allocL (xs := [_]) (by simp), ev_ownL, ev_alloc, ps, List.length_append]
    rw [hw', Out.bind_ok]
  cases hf : (partQ s r1 r2 400).find? (dist s r1 e1 r2 e2) with
  | none =>
    rw [hf] at hfl
    exact run_ok (vars' := vars') (t := t) rfl (fl := .ret .none) ((body .next hfl).trans rfl) (res_pure (by simp only [flowV, lR0, lR1, lR2, lR3, lR4, lR5, lR6, lR7, lR8, lR9, lR10, lR11, lR12, lR13]))
  | some w =>
    rw [hf] at hfl
    exact run_ok (vars' := vars') (t := t) rfl (fl := .ret (.str w)) ((body (.ret (.str w)) hfl).trans rfl) (res_pure (by simp only [flowV, lR0, lR1, lR2, lR3, lR4, lR5, lR6, lR7, lR8, lR9, lR10, lR11, lR12, lR13]))
noncomputable def mv (r : List (List Nat)) (e : List Bool) : V := .tuple [nll r, bl e]
theorem sub_m0 (r : List (List Nat)) (e : List Bool) (st : St) : subV (mv r e) (.int 0) st = .ok (nll r) st := rfl
theorem sub_m1 (r : List (List Nat)) (e : List Bool) (st : St) : subV (mv r e) (.int 1) st = .ok (bl e) st := rfl
theorem due_eq (d : Nat) (G1 : Good s r1 e1) (G2 : Good s r2 e2) (hT : r1.length + r2.length - 2 ≤ 6) (hlay : ∀ u, u ≤ r1.length + r2.length - 2 → (layW s u).length ≤ 81) (st : St) :
    cfOf p1 (d + 2) (.fn (nm "_law_due")) [.str s, mv r1 e1, mv r2 e2] st = .ok (wordO ((wordsW s (r1.length + r2.length - 2)).find? (dist s r1 e1 r2 e2))) st := by
  obtain ⟨vars, obs⟩ := st
  have hm1 := G1.rooms.most
  have hm2 := G2.rooms.most
  have h1 := G1.one
  have h2 := G2.one
  obtain ⟨st', hf, z, rfl⟩ := for_find (t := .var 3) (body := bd__law_due_1 (d + 1)) (f := V.str) (p := dist s r1 e1 r2 e2) (g := V.str) (fun st => ∃ z, st = ⟨[some (.str s), some (mv r1 e1), some (mv r2 e2), z], obs⟩) (xs := wordsW s (r1.length + r2.length - 2)) (fun w hw st hI => by
    obtain ⟨z, rfl⟩ := hI
    have hwm := words_mem s _ w hw
    have g1 := fun st => goes_eq d G1 hwm st
    have g2 := fun st => goes_eq d G2 hwm st
    have b1 := fun st => sub_bl (K := e1) (k := goW s r1 w) (by rw [G1.ends]; exact goW_lt G1 w) (by rw [G1.ends]; omega) st
    have b2 := fun st => sub_bl (K := e2) (k := goW s r2 w) (by rw [G2.ends]; exact goW_lt G2 w) (by rw [G2.ends]; omega) st
    refine ⟨⟨[some (.str s), some (mv r1 e1), some (mv r2 e2), some (.str w)], obs⟩, ?_, some (.str w), rfl⟩
    simp only [bd__law_due_1, ev_bind, ev_asg_var, ev_setVar, List.length_cons, List.length_nil, Nat.reduceAdd, Nat.reduceLT, if_true, List.set, Out.bind_ok, ev_seqS_cons, ev_iteM, ev_cmp, ev_subM, ev_var, List.getElem?_cons_succ, List.getElem?_cons_zero, ev_const, sub_m0, sub_m1, ev_app, ev_seqM_cons, ev_seqM_nil, ev_pure, g1, g2, b1, b2, ev_chain1, ev_ne, ev_eq_bool]
    show ((if dist s r1 e1 r2 e2 w = true then seqS [retM (varM 3)] else seqS []) _).bind _ = _
    cases dist s r1 e1 r2 e2 w with
    | true =>
      rw [if_pos rfl, if_pos rfl]
      simp only [ev_seqS_cons, ev_bind, ev_ret, ev_var, List.getElem?_cons_succ, List.getElem?_cons_zero, Out.bind_ok, ev_pure, seqK_ret]
    | false =>
      rw [if_neg (by decide), if_neg (by decide)]
      simp only [ev_seqS_nil, Out.bind_ok, seqK_next]) (st := ⟨[some (.str s), some (mv r1 e1), some (mv r2 e2), none], obs⟩) ⟨none, rfl⟩
  have hw := fun st => words_eq d G1.signs.three hT hlay st
  have eT : ((r1.length : Int) + (r2.length : Int) - 2) = ((r1.length + r2.length - 2 : Nat) : Int) := by omega
  have src : ∀ st, toSrc (sl (wordsW s (r1.length + r2.length - 2))) st = .ok ⟨(wordsW s (r1.length + r2.length - 2)).map V.str, []⟩ st := fun _ => rfl
  rw [cf__law_due]
  have body : ∀ k, flF V.str ((wordsW s (r1.length + r2.length - 2)).find? (dist s r1 e1 r2 e2)) = k → seqS [forM (.var 3) ((appM (cfOf p1 (d + 1) (.fn (nm "_law_words"))) [varM 0, binM .Sub (binM .Add (appM fLen [subM (varM 1) (constM (.int 0))]) (appM fLen [subM (varM 2) (constM (.int 0))])) (constM (.int 2))]).bind toSrc) (bd__law_due_1 (d + 1)),
    retM (constM .none)] ⟨[some (.str s), some (mv r1 e1), some (mv r2 e2), none], obs⟩ = (seqK [retM (constM .none)] k) ⟨[some (.str s), some (mv r1 e1), some (mv r2 e2), z], obs⟩ := fun k hk => by
    rw [hk] at hf
    simp only [ev_seqS_cons, ev_bind, ev_for, ev_app, ev_seqM_cons, ev_seqM_nil, ev_var, List.getElem?_cons_succ, List.getElem?_cons_zero, Out.bind_ok, ev_bin, ev_subM, ev_const, sub_m0, ev_pure, len_nll (K := r1) (by omega), len_nll (K := r2) (by omega), ev_add_int, ev_sub_int, eT, hw, src, hf]
  cases hq : (wordsW s (r1.length + r2.length - 2)).find? (dist s r1 e1 r2 e2) with
  | none =>
    exact run_pure (vars' := [some (.str s), some (mv r1 e1), some (mv r2 e2), z]) rfl (fl := .ret .none) ((body .next (by rw [hq]; rfl)).trans rfl) (by simp only [flowV, lR0, lR1, lR2, lR3, lR4, lR5, lR6, lR7, lR8, lR9, lR10, lR11, lR12, lR13])
  | some w =>
    exact run_pure (vars' := [some (.str s), some (mv r1 e1), some (mv r2 e2), z]) rfl (fl := .ret (.str w)) ((body (.ret (.str w)) (by rw [hq]; rfl)).trans rfl) (by simp only [flowV, lR0, lR1, lR2, lR3, lR4, lR5, lR6, lR7, lR8, lR9, lR10, lR11, lR12, lR13])
end
end Mine
set_option autoImplicit false
set_option linter.unusedVariables false
set_option linter.unusedSimpArgs false
set_option maxRecDepth 100000
namespace Mine
open PySem
/- names: a row that bears every room's number -/
noncomputable def nameL (n : Nat) (m t : Int) : List Nat := 0 :: (List.range (n - 1)).map fun (i : Nat) => 1 + ((i + t) % m).toNat
theorem emod_nat {x m : Int} (hm : 0 < m) : ((x % m).toNat : Int) = x % m := Int.toNat_of_nonneg (Int.emod_nonneg x (Int.ne_of_gt hm))
theorem name_ok {n : Nat} (hn : 1 ≤ n) {m t : Int} (hm : 0 < m) (hmn : 2 ≤ n → m = (n : Int) - 1) : (nameL n m t).length = n ∧ (∀ g ∈ nameL n m t, g < n) ∧ ∀ r, r < n → r ∈ nameL n m t := by
  refine ⟨by simp [nameL]; omega, fun g hg => ?_, fun r hr => ?_⟩
  · rcases List.mem_cons.mp hg with rfl | hg
    · exact hn
    · obtain ⟨i, hi, rfl⟩ := List.mem_map.mp hg
      have hi' := List.mem_range.mp hi
      have h1 := emod_nat (x := i + t) hm
      have h2 := Int.emod_lt_of_pos (i + t : Int) hm
      have := hmn (by omega)
      omega
  · cases r with
    | zero => exact .head _
    | succ r =>
      have e := hmn (by omega)
      refine List.mem_cons_of_mem _ (List.mem_map.mpr ⟨(((r : Int) - t) % m).toNat, List.mem_range.mpr ?_, ?_⟩)
      · have h1 := emod_nat (x := (r : Int) - t) hm
        have h2 := Int.emod_lt_of_pos ((r : Int) - t) hm
        omega
      · have h1 := emod_nat (x := (r : Int) - t) hm
        rw [h1, Int.emod_add_emod, Int.sub_add_cancel, Int.emod_eq_of_lt (by omega) (by omega)]
        omega
theorem ev_range2 {n : Nat} (h : n ≤ 1000) (st : St) : ((fRange [.int 1, .int n]).bind toSrc) st = .ok ⟨(List.range (n - 1)).map fun (k : Nat) => V.int (1 + (k : Int)), []⟩ st := by
  show ((if (-1000000 ≤ (1 : Int) ∧ (1 : Int) ≤ 1000000) ∧ -1000000 ≤ (n : Int) ∧ (n : Int) ≤ 1000000 then M.pure (.range 1 n) else stuck).bind toSrc) st = _
  rw [if_pos ⟨by decide, by omega, by omega⟩, ev_bind, ev_pure, Out.bind_ok, ev_toSrc_range, if_pos (by unfold smallR; simp only [Bool.and_eq_true, decide_eq_true_eq]; omega)]
  have e : (((n : Int) - 1).toNat) = n - 1 := by omega
  unfold rangeL
  rw [e, List.map_map]; rfl
/- what lies in the ledger: rows that are lists of their own -/
noncomputable def RowAt (base k n : Nat) (R : List Ob) (v : V) : Prop := ∃ i w, v = .ref (base + i) ∧ R[i]? = some (.list (intsV w)) ∧ w.length = k ∧ ∀ g ∈ w, g < n
theorem RowAt.more {base k n : Nat} {R : List Ob} {v : V} (h : RowAt base k n R v) (o : Ob) : RowAt base k n (R ++ [o]) v := by
  obtain ⟨i, w, h1, h2, h3⟩ := h
  exact ⟨i, w, h1, by rw [List.getElem?_append_left (List.getElem?_eq_some_iff.mp h2).1]; exact h2, h3⟩
structure TurnI (base k n : Nat) (K : List Nat) (j : Nat) (fs : List V) (bs : List Bool) (R : List Ob) : Prop where
  len : fs.length = n
  at' : ∀ (r : Nat) (v : V), fs[r]? = some v → v = .none ∨ RowAt base k n R v
  got : ∀ r : Nat, r ∈ K.take j → ∃ v, fs[r]? = some v ∧ RowAt base k n R v
  bl : bs.length = n
theorem TurnI.next {base k n : Nat} {K : List Nat} {j : Nat} {fs : List V} {bs : List Bool} {R : List Ob} (h : TurnI base k n K j fs bs R) {g : Nat} (hg : K[j]? = some g) (hgn : g < n) {w : List Nat} (hw : w.length = k ∧ ∀ x ∈ w, x < n) (b : Bool) :
    TurnI base k n K (j + 1) (fs.set g (.ref (base + R.length))) (bs.set g b) (R ++ [.list (intsV w)]) := by
  have new : RowAt base k n (R ++ [.list (intsV w)]) (.ref (base + R.length)) := ⟨R.length, w, rfl, by simp, hw⟩
  refine ⟨by rw [List.length_set]; exact h.len, fun r v hv => ?_, fun r hr => ?_, by rw [List.length_set]; exact h.bl⟩
  · rw [List.getElem?_set] at hv
    split at hv
    · split at hv
      · cases hv; exact .inr new
      · cases hv
    · exact (h.at' r v hv).imp id fun q => q.more _
  · rw [List.take_add_one, hg] at hr
    by_cases e : g = r
    · subst e
      exact ⟨_, by rw [List.getElem?_set_self (by rw [h.len]; exact hgn)], new⟩
    · rcases List.mem_append.mp hr with hr | hr
      · obtain ⟨v, h1, h2⟩ := h.got r hr
        exact ⟨v, by rw [List.getElem?_set_ne e]; exact h1, h2.more _⟩
      · simp at hr; exact absurd hr.symm e
noncomputable def LT (obs : List Ob) (fs : List V) (bs : List Bool) (R : List Ob) : List Ob := obs ++ (.list fs :: .list (bs.map V.bool) :: R)
section
variable {obs : List Ob} {fs : List V} {bs : List Bool} {R : List Ob}
theorem LT0 : (LT obs fs bs R)[obs.length]? = some (.list fs) := tl0 ..
theorem LT1 : (LT obs fs bs R)[obs.length + 1]? = some (.list (bs.map V.bool)) := tl1 ..
theorem LT2 {i : Nat} {o : Ob} (h : R[i]? = some o) : (LT obs fs bs R)[obs.length + 2 + i]? = some o := by
  unfold LT
  rw [List.getElem?_append_right (by omega)]
  have : obs.length + 2 + i - obs.length = i + 2 := by omega
  rw [this]; exact h
theorem LT_len : (LT obs fs bs R).length = obs.length + 2 + R.length := by simp [LT]; omega
theorem LT_add (o : Ob) : LT obs fs bs R ++ [o] = LT obs fs bs (R ++ [o]) := by simp [LT]
theorem LT_s0 (fs' : List V) : (LT obs fs bs R).set obs.length (.list fs') = LT obs fs' bs R := ts0 ..
theorem LT_s1 (bs' : List Bool) : (LT obs fs bs R).set (obs.length + 1) (.list (bs'.map V.bool)) = LT obs fs bs' R := ts1 ..
theorem LT_s2 {i : Nat} (o : Ob) : (LT obs fs bs R).set (obs.length + 2 + i) o = LT obs fs bs (R.set i o) := by
  unfold LT
  rw [List.set_append_right _ _ (by omega)]
  have : obs.length + 2 + i - obs.length = i + 2 := by omega
  rw [this]; rfl
end
theorem setIdx_nat {xs : List V} {i : Nat} {v : V} (h : i < xs.length) (hl : xs.length ≤ 1000) : setIdx xs (i : Int) v = some (xs.set i v) := by
  unfold setIdx
  rw [if_pos ⟨by omega, by unfold big; omega, by omega⟩, Int.toNat_natCast]
theorem ev_setsubL {a : Nat} {xs : List V} {i : Nat} {v : V} {vars : List (Option V)} {obs : List Ob} (h : obs[a]? = some (.list xs)) (hi : i < xs.length) (hl : xs.length ≤ 1000) : setSubV (.ref a) (.int i) v ⟨vars, obs⟩ = .ok () ⟨vars, obs.set a (.list (xs.set i v))⟩ := by
  show ((getOb a).bind fun o => (ofOpt (setSubO (.int i) v o)).bind fun o' => setOb a o') _ = _
  rw [ev_bind, ev_getOb, h]
  dsimp only
  rw [Out.bind_ok, ev_bind]
  have e : setSubO (.int i) v (.list xs) = some (.list (xs.set i v)) := by show (setIdx xs (i : Int) v).map Ob.list = _; rw [setIdx_nat hi hl]; rfl
  rw [e, ev_ofOpt, ev_pure, Out.bind_ok, ev_setOb, if_pos (List.getElem?_eq_some_iff.mp h).1]
theorem ev_subL {a : Nat} {xs : List V} {i : Nat} {v : V} {vars : List (Option V)} {obs : List Ob} (h : obs[a]? = some (.list xs)) (hv : xs[i]? = some v) (hl : xs.length ≤ 1000) : subV (.ref a) (.int i) ⟨vars, obs⟩ = .ok v ⟨vars, obs⟩ := by
  rw [ev_sub_ref, ev_bind, ev_getOb, h]
  dsimp only
  rw [Out.bind_ok, ev_subO_list, idx_nat hv hl, ev_ofOpt, ev_pure]
section
variable {s : List Nat} {rows : List (List Nat)} {ends : List Bool}
theorem turn_step (d : Nat) (G : Good s rows ends) {K : List Nat} (hK : K.length = rows.length) (hKn : ∀ g ∈ K, g < rows.length) {j : Nat} (hj : j < rows.length) {v2 v3 : Option V} {obs : List Ob} {fs : List V} {bs : List Bool} {R : List Ob} (h : TurnI (obs.length + 2) s.length rows.length K j fs bs R) :
    ∃ fs' bs' R', bd__law_turned_4 d ⟨[some (nll rows), some (bl ends), v2, v3, some (.int j), some (nl K), some (.ref obs.length), some (.ref (obs.length + 1))], LT obs fs bs R⟩ = .ok .next ⟨[some (nll rows), some (bl ends), v2, v3, some (.int j), some (nl K), some (.ref obs.length), some (.ref (obs.length + 1))], LT obs fs' bs' R'⟩ ∧ TurnI (obs.length + 2) s.length rows.length K (j + 1) fs' bs' R' := by
  have hm := G.rooms.most
  have h3 := G.signs.three
  have hjK : j < K.length := by omega
  have hrow := G.row (rows.getD j []) (by rw [List.getD_eq_getElem?_getD, List.getElem?_eq_getElem hj]; exact List.getElem_mem hj)
  have hg : K[j]? = some (K.getD j 0) := by rw [List.getD_eq_getElem?_getD, List.getElem?_eq_getElem hjK]; rfl
  have hgn : K.getD j 0 < rows.length := hKn _ (List.mem_of_getElem? hg)
  have hw : ((rows.getD j []).map fun g => K.getD g 0).length = s.length ∧ ∀ x ∈ (rows.getD j []).map (fun g => K.getD g 0), x < rows.length := ⟨by rw [List.length_map]; exact hrow.1, fun x hx => by
    obtain ⟨g, hg, rfl⟩ := List.mem_map.mp hx
    have := hrow.2 g hg
    exact hKn _ (by rw [List.getD_eq_getElem?_getD, List.getElem?_eq_getElem (by omega)]; exact List.getElem_mem _)⟩
  refine ⟨_, _, _, ?_, h.next hg hgn hw (ends.getD j false)⟩
  have hc : compM 8 1 ((subM (varM 0) (varM 4)).bind toSrc) (.var 8) (andM []) (bd__law_turned_3 d) ⟨[some (nll rows), some (bl ends), v2, v3, some (.int j), some (nl K), some (.ref obs.length), some (.ref (obs.length + 1))], LT obs fs bs R⟩ = .ok (.flist (intsV ((rows.getD j []).map fun g => K.getD g 0))) ⟨[some (nll rows), some (bl ends), v2, v3, some (.int j), some (nl K), some (.ref obs.length), some (.ref (obs.length + 1))], LT obs fs bs R⟩ := by
    have := comp1_map (b := 8) (src := (subM (varM 0) (varM 4)).bind toSrc) (elt := bd__law_turned_3 d) (vars := [some (nll rows), some (bl ends), v2, v3, some (.int j), some (nl K), some (.ref obs.length), some (.ref (obs.length + 1))]) (obs := LT obs fs bs R) (xs := rows.getD j []) (f := fun (n : Nat) => V.int n) (c := []) rfl (by
      simp only [ev_bind, ev_subM, ev_var, List.getElem?_cons_succ, List.getElem?_cons_zero, Out.bind_ok, sub_nll hj (by omega), src_nl]) (by rw [hrow.1]; omega) (.nil _) (fun g => V.int (K.getD g 0)) (fun g hgm => by
      have := hrow.2 g hgm
      simp only [bd__law_turned_3, ev_subM, ev_bind, ev_var, List.cons_append, List.nil_append, List.getElem?_cons_succ, List.getElem?_cons_zero, Out.bind_ok, sub_nl (K := K) (k := g) (by omega) (by omega)])
    rw [this]
    unfold intsV
    rw [List.map_map]; rfl
  have hl := h.len
  have hb := h.bl
  have sk := fun st => sub_nl (K := K) (k := j) hjK (by omega) st
  have e0 : (LT obs fs bs R).length = obs.length + 2 + R.length := LT_len
  have s1 : ∀ vars, setSubV (.ref obs.length) (.int (K.getD j 0)) (.ref (obs.length + 2 + R.length)) ⟨vars, LT obs fs bs (R ++ [.list (intsV ((rows.getD j []).map fun g => K.getD g 0))])⟩ = .ok () ⟨vars, LT obs (fs.set (K.getD j 0) (.ref (obs.length + 2 + R.length))) bs (R ++ [.list (intsV ((rows.getD j []).map fun g => K.getD g 0))])⟩ := fun vars => by
    rw [ev_setsubL LT0 (by omega) (by omega), LT_s0]
  have s2 : ∀ vars fs R, setSubV (.ref (obs.length + 1)) (.int (K.getD j 0)) (.bool (ends.getD j false)) ⟨vars, LT obs fs bs R⟩ = .ok () ⟨vars, LT obs fs (bs.set (K.getD j 0) (ends.getD j false)) R⟩ := fun vars fs R => by
    rw [ev_setsubL LT1 (by rw [List.length_map]; omega) (by rw [List.length_map]; omega), ← List.map_set, LT_s1]
  have b1 := fun st => sub_bl (K := ends) (k := j) (by rw [G.ends]; exact hj) (by rw [G.ends]; omega) st
  simp only [bd__law_turned_4, setSubM, ev_seqS_cons, ev_bind, hc, Out.bind_ok, ev_ownL, ev_alloc, e0, LT_add, ev_var, List.getElem?_cons_succ, List.getElem?_cons_zero, ev_subM, sk, s1, ev_pure, seqK_next, b1, s2, ev_seqS_nil]
theorem turned_eq (d : Nat) (G : Good s rows ends) (t : Int) (obs : List Ob) : ∃ fs bs R, (fs.length = rows.length ∧ bs.length = rows.length ∧ ∀ v ∈ fs, RowAt (obs.length + 2) s.length rows.length R v) ∧
    ∀ vars, cfOf p1 (d + 1) (.fnR (nm "_law_turned")) [nll rows, bl ends, .int t] ⟨vars, obs⟩ = .ok (.tuple [.ref obs.length, .ref (obs.length + 1)]) ⟨vars, LT obs fs bs R⟩ := by
  have hm := G.rooms.most
  have h1 := G.one
  obtain ⟨m, hmd⟩ : ∃ m : Int, m = if (rows.length : Int) - 1 > 1 then (rows.length : Int) - 1 else 1 := ⟨_, rfl⟩
  have hm0 : 0 < m := by rw [hmd]; split <;> omega
  have hmn : 2 ≤ rows.length → m = (rows.length : Int) - 1 := fun h => by rw [hmd]; split <;> omega
  obtain ⟨k1, k2, k3⟩ := name_ok h1 (t := t) hm0 hmn
  generalize hKd : nameL rows.length m t = K at k1 k2 k3
  obtain ⟨st', hf, fs, bs, R, z, hI, rfl⟩ := for_map (t := .var 4) (body := bd__law_turned_4 d) (c := []) (f := fun (k : Nat) => V.int k) (xs := List.range rows.length)
    (fun j st => ∃ fs bs R z, TurnI (obs.length + 2) s.length rows.length K j fs bs R ∧ st = ⟨[some (nll rows), some (bl ends), some (.int t), some (.int rows.length), z, some (nl K), some (.ref obs.length), some (.ref (obs.length + 1))], LT obs fs bs R⟩) (fun _ _ _ => .nil _) (fun j x st hx hI => by
      obtain ⟨fs, bs, R, z, hI, rfl⟩ := hI
      have hj : j < rows.length := by simpa using (List.getElem?_eq_some_iff.mp hx).1
      have hxj : x = j := by simpa [hj] using hx.symm
      subst hxj
      obtain ⟨fs', bs', R', hs, hI'⟩ := turn_step d G k1 k2 hj (v2 := some (.int t)) (v3 := some (.int rows.length)) hI
      refine ⟨_, ?_, fs', bs', R', some (.int x), hI', rfl⟩
      rw [ev_bind, ev_asg_var, ev_setVar, if_pos (by simp), Out.bind_ok]
      exact hs) (st := ⟨[some (nll rows), some (bl ends), some (.int t), some (.int rows.length), none, some (nl K), some (.ref obs.length), some (.ref (obs.length + 1))], LT obs (rows.map fun _ => V.none) ends []⟩) ⟨_, _, _, none, ⟨by simp, fun r v hv => .inl (by
        rw [List.getElem?_map] at hv
        cases e : rows[r]? with
        | none => rw [e] at hv; cases hv
        | some _ => rw [e] at hv; cases hv; rfl), fun r hr => by simp at hr, G.ends⟩, rfl⟩
  rw [List.length_range] at hI
  refine ⟨fs, bs, R, ⟨hI.len, hI.bl, fun v hv => ?_⟩, fun vars => ?_⟩
  · obtain ⟨r, hr⟩ := List.getElem?_of_mem hv
    have hrn : r < rows.length := by rw [← hI.len]; exact (List.getElem?_eq_some_iff.mp hr).1
    obtain ⟨v', q1, q2⟩ := hI.got r (by rw [← k1, List.take_length]; exact k3 r hrn)
    rw [hr] at q1; cases q1
    exact q2
  · have c1 : compM 8 1 ((appM fRange [constM (.int 1), varM 3]).bind toSrc) (.var 8) (andM []) (bd__law_turned_1 d) ⟨[some (nll rows), some (bl ends), some (.int t), some (.int rows.length), none, none, none, none], obs⟩ = .ok (.flist ((List.range (rows.length - 1)).map fun (i : Nat) => V.int ((1 + ((i + t) % m).toNat : Nat) : Int))) ⟨[some (nll rows), some (bl ends), some (.int t), some (.int rows.length), none, none, none, none], obs⟩ := by
      have er := fun st => ev_range2 (n := rows.length) (by omega) st
      simp only [ev_bind] at er
      refine comp1_map (b := 8) (src := (appM fRange [constM (.int 1), varM 3]).bind toSrc) (elt := bd__law_turned_1 d) (vars := [some (nll rows), some (bl ends), some (.int t), some (.int rows.length), none, none, none, none]) (obs := obs) (xs := List.range (rows.length - 1)) (f := fun (k : Nat) => V.int (1 + (k : Int))) (c := []) rfl (by
        simp only [ev_bind, ev_app, ev_seqM_cons, ev_seqM_nil, ev_const, ev_var, List.getElem?_cons_succ, List.getElem?_cons_zero, Out.bind_ok, ev_pure, er]) (by rw [List.length_range]; omega) (.nil _) (fun (i : Nat) => V.int ((1 + ((i + t) % m).toNat : Nat) : Int)) (fun i _ => ?_)
      have em : ∀ st, fMax [.int 1, .int ((rows.length : Int) - 1)] st = .ok (.int m) st := fun st => by
        rw [hmd]; rfl
      have e1 : (1 + (i : Int) - 1 + t) = (i : Int) + t := by omega
      have e2 : ((1 + ((i + t) % m).toNat : Nat) : Int) = 1 + ((i : Int) + t) % m := by
        have := emod_nat (x := (i : Int) + t) hm0
        omega
      simp only [bd__law_turned_1, ev_bin, ev_bind, ev_const, ev_var, List.cons_append, List.nil_append, List.getElem?_cons_succ, List.getElem?_cons_zero, Out.bind_ok, ev_sub_int, ev_pure, ev_add_int, e1, ev_app, ev_seqM_cons, ev_seqM_nil, em, ev_mod_pos (a := (i : Int) + t) (b := m) hm0, e2]
    have c2 : ∀ z5, compM 8 1 ((varM 0).bind toSrc) (.var 8) (andM []) (bd__law_turned_2 d) ⟨[some (nll rows), some (bl ends), some (.int t), some (.int rows.length), none, z5, none, none], obs⟩ = .ok (.flist (rows.map fun _ => V.none)) ⟨[some (nll rows), some (bl ends), some (.int t), some (.int rows.length), none, z5, none, none], obs⟩ := fun z5 =>
      comp1_map (b := 8) (src := (varM 0).bind toSrc) (elt := bd__law_turned_2 d) (vars := [some (nll rows), some (bl ends), some (.int t), some (.int rows.length), none, z5, none, none]) (obs := obs) (xs := rows) (f := nl) (c := []) rfl (by
        rw [ev_bind, ev_var]; simp only [List.getElem?_cons_zero, Out.bind_ok, src_nll]) (by omega) (.nil _) (fun _ => V.none) (fun c _ => by simp only [bd__law_turned_2, ev_const])
    have add : ∀ st, binV .Add (.flist [.int 0]) (.flist ((List.range (rows.length - 1)).map fun (i : Nat) => V.int ((1 + ((i + t) % m).toNat : Nat) : Int))) st = .ok (nl K) st := fun st => by
      rw [ev_add_flist, ev_allocL (by simp; omega), ← hKd]
      unfold nl nameL
      rw [List.map_cons, List.map_map]; rfl
    have er := fun st => ev_range (n := rows.length) (by omega) st
    simp only [ev_bind] at er
    have le : ∀ st, fList [bl ends] st = .ok (.flist (ends.map V.bool)) st := fun st => by
      unfold bl
      rw [ev_list_flist, ev_allocL (by rw [List.length_map, G.ends]; omega)]
    have o2 : obs ++ [Ob.list (rows.map fun _ => V.none)] ++ [.list (ends.map V.bool)] = LT obs (rows.map fun _ => V.none) ends [] := by unfold LT; rw [List.append_assoc]; rfl
    rw [cfR__law_turned]
    refine run_raw (vars' := [some (nll rows), some (bl ends), some (.int t), some (.int rows.length), z, some (nl K), some (.ref obs.length), some (.ref (obs.length + 1))]) rfl (fl := .ret (.tuple [.ref obs.length, .ref (obs.length + 1)])) ?_
    simp only [body__law_turned, List.map, List.replicate, List.cons_append, List.nil_append, Nat.reduceSub, ev_seqS_cons, ev_bind, ev_assign, ev_app, ev_seqM_cons, ev_seqM_nil, ev_var, List.getElem?_cons_succ, List.getElem?_cons_zero, Out.bind_ok, ev_pure, len_nll (K := rows) (by omega), ev_asg_var, ev_setVar, List.length_cons, List.length_nil, Nat.reduceAdd, Nat.reduceLT, if_true, List.set, seqK_next, ev_bin, ev_listM, ev_const, ev_allocL (xs := [_]) (by simp), c1, add, c2, ev_ownL, ev_alloc, le, List.length_append, o2, ev_for, er, hf, ev_ret, ev_tupM, ev_tupL (xs := [_, _]) (by simp), seqK_ret]
end
end Mine
set_option autoImplicit false
set_option linter.unusedVariables false
set_option linter.unusedSimpArgs false
set_option maxRecDepth 100000
namespace Mine
open PySem
theorem intsV_pure (w : List Nat) : ltVs 0 (intsV w) = true := lts_map _ fun _ _ => by simp only [lR0, lR1, lR2, lR3, lR4, lR5, lR6, lR7, lR8, lR9, lR10, lR11, lR12, lR13]
theorem intsV_len (w : List Nat) : (intsV w).length = w.length := List.length_map ..
theorem RowAt.put {base k n i a g : Nat} {R : List Ob} {w : List Nat} (hR : R[i]? = some (.list (intsV w))) (hw : w.length = k ∧ ∀ x ∈ w, x < n) (hg : g < n) {v : V} (h : RowAt base k n R v) : RowAt base k n (R.set i (.list (intsV (w.set a g)))) v := by
  obtain ⟨j, u, h1, h2, h3⟩ := h
  by_cases e : i = j
  · subst e
    refine ⟨i, w.set a g, h1, by rw [List.getElem?_set_self (List.getElem?_eq_some_iff.mp hR).1], by rw [List.length_set]; exact hw.1, fun x hx => ?_⟩
    rcases List.mem_or_eq_of_mem_set hx with q | q
    · exact hw.2 x q
    · rw [q]; exact hg
  · exact ⟨j, u, h1, by rw [List.getElem?_set_ne e]; exact h2, h3⟩
theorem res_rows {obs : List Ob} {fs0 : List V} {bs : List Bool} {R : List Ob} {k n : Nat} : ∀ {fs : List V}, (∀ v ∈ fs, RowAt (obs.length + 2) k n R v) → ∃ rows : List (List Nat), rows.length = fs.length ∧ (∀ w ∈ rows, w.length = k ∧ ∀ g ∈ w, g < n) ∧ allO (res obs.length (LT obs fs0 bs R) 2) fs = some (rows.map nl)
  | [], _ => ⟨[], rfl, fun w hw => (nomatch hw), rfl⟩
  | v :: fs, h => by
    obtain ⟨i, w, rfl, h2, h3⟩ := h v (.head _)
    obtain ⟨rows, q1, q2, q3⟩ := res_rows (obs := obs) (fs0 := fs0) (bs := bs) fun v hv => h v (.tail _ hv)
    have e : res obs.length (LT obs fs0 bs R) 2 (.ref (obs.length + 2 + i)) = some (nl w) := res_list (k := 0) (by omega) (LT2 h2) (intsV_pure w)
    refine ⟨w :: rows, by simp [q1], fun u hu => ?_, by simp only [allO, e, q3, List.map_cons]⟩
    rcases List.mem_cons.mp hu with rfl | hu
    · exact h3
    · exact q2 u hu
theorem res_mach {obs : List Ob} {fs : List V} {bs : List Bool} {R : List Ob} {rows : List (List Nat)} (h : allO (res obs.length (LT obs fs bs R) 2) fs = some (rows.map nl)) : res obs.length (LT obs fs bs R) 4 (.tuple [.ref obs.length, .ref (obs.length + 1)]) = some (mv rows bs) := by
  have h1 : res obs.length (LT obs fs bs R) 3 (.ref obs.length) = some (nll rows) := by
    unfold res
    rw [if_neg (by simp [lR0, lR1, lR2, lR3, lR4, lR5, lR6, lR7, lR8, lR9, lR10, lR11, lR12, lR13])]
    dsimp only
    rw [LT0]
    dsimp only
    rw [h]; rfl
  have h2 : res obs.length (LT obs fs bs R) 3 (.ref (obs.length + 1)) = some (bl bs) := res_list (k := 1) (by omega) LT1 (lts_map _ fun _ _ => by simp only [lR0, lR1, lR2, lR3, lR4, lR5, lR6, lR7, lR8, lR9, lR10, lR11, lR12, lR13])
  exact res_pair (k := 2) h1 h2
section
variable {s : List Nat} {rows : List (List Nat)} {ends : List Bool}
noncomputable def oth (d : Nat) : List (M Flow) := [iteM (cmpM (binM .Mod (varM 2) (constM (.int 4))) [(.Eq, constM (.int 2))]) (seqS [assignM (.var 6) (binM .Mod (binM .FloorDiv (varM 2) (constM (.int 64))) (appM fLen [subM (varM 3) (varM 5)])),
      setSubM (subM (varM 3) (varM 5)) (varM 6) (binM .Mod (binM .FloorDiv (varM 2) (constM (.int 256))) (appM fLen [varM 0]))]) (seqS []),
    iteM (cmpM (binM .Mod (varM 2) (constM (.int 4))) [(.Eq, constM (.int 3))]) (seqS [setSubM (varM 4) (varM 5) (boolV (notM (evB (subM (varM 4) (varM 5)))))]) (seqS []),
    retM (tupM [varM 3, varM 4])]
theorem oth_eq (d : Nat) (G : Good s rows ends) (c : Int) {r : Nat} (hr : r < rows.length) {obs : List Ob} {fs : List V} {bs : List Bool} {R : List Ob} (h : fs.length = rows.length ∧ bs.length = rows.length ∧ ∀ v ∈ fs, RowAt (obs.length + 2) s.length rows.length R v) {v1 : Option V} :
    ∃ bs' R' vars', (bs'.length = rows.length ∧ ∀ v ∈ fs, RowAt (obs.length + 2) s.length rows.length R' v) ∧ seqS (oth d) ⟨[some (nll rows), v1, some (.int c), some (.ref obs.length), some (.ref (obs.length + 1)), some (.int r), none], LT obs fs bs R⟩ = .ok (.ret (.tuple [.ref obs.length, .ref (obs.length + 1)])) ⟨vars', LT obs fs bs' R'⟩ := by
  have hm := G.rooms.most
  have h1 := G.one
  have hs1 := G.signs.one
  have hs3 := G.signs.three
  obtain ⟨hl, hb, hR⟩ := h
  have m4 : ∀ st, binV .Mod (.int c) (.int 4) st = .ok (.int (c % 4)) st := fun st => ev_mod_pos (by decide) st
  have fin : ∀ bs R v6, seqS [retM (tupM [varM 3, varM 4])] ⟨[some (nll rows), v1, some (.int c), some (.ref obs.length), some (.ref (obs.length + 1)), some (.int r), v6], LT obs fs bs R⟩ = .ok (.ret (.tuple [.ref obs.length, .ref (obs.length + 1)])) ⟨[some (nll rows), v1, some (.int c), some (.ref obs.length), some (.ref (obs.length + 1)), some (.int r), v6], LT obs fs bs R⟩ := fun bs R v6 => by
    simp only [ev_seqS_cons, ev_bind, ev_ret, ev_tupM, ev_seqM_cons, ev_seqM_nil, ev_var, List.getElem?_cons_succ, List.getElem?_cons_zero, Out.bind_ok, ev_pure, ev_tupL (xs := [_, _]) (by simp), seqK_ret]
  by_cases c2 : c % 4 = 2
  · have e2 : ((c % 4 == 2) : Bool) = true := beq_iff_eq.mpr c2
    have e3 : ((c % 4 == 3) : Bool) = false := beq_false_of_ne (by omega)
    obtain ⟨v, hv⟩ : ∃ v, fs[r]? = some v := ⟨_, List.getElem?_eq_getElem (by omega)⟩
    obtain ⟨i, w, rfl, hi, hw⟩ := hR v (List.mem_of_getElem? hv)
    obtain ⟨a, ha, hak⟩ := modN (c / 64) (n := s.length) (by omega)
    obtain ⟨g, hg, hgn⟩ := modN (c / 256) (n := rows.length) (by omega)
    have hwl : w.length = s.length := hw.1
    have sb := fun vars => ev_subL (vars := vars) (LT0 (obs := obs) (fs := fs) (bs := bs) (R := R)) hv (by omega)
    have ln : ∀ vars, fLen [.ref (obs.length + 2 + i)] ⟨vars, LT obs fs bs R⟩ = .ok (.int s.length) ⟨vars, LT obs fs bs R⟩ := fun vars => by
      rw [ev_len_ref, ev_bind, ev_getList, LT2 hi]
      dsimp only
      rw [Out.bind_ok, intsV_len, hwl, ev_lenM (by omega)]
    have st : ∀ vars, setSubV (.ref (obs.length + 2 + i)) (.int a) (.int g) ⟨vars, LT obs fs bs R⟩ = .ok () ⟨vars, LT obs fs bs (R.set i (.list (intsV (w.set a g))))⟩ := fun vars => by
      rw [ev_setsubL (LT2 hi) (by rw [intsV_len]; omega) (by rw [intsV_len]; omega), LT_s2]
      unfold intsV
      rw [List.map_set]
    have d64 : ∀ st, binV .FloorDiv (.int c) (.int 64) st = .ok (.int (c / 64)) st := fun st => ev_div_pos ⟨by decide, by decide⟩ st
    have d256 : ∀ st, binV .FloorDiv (.int c) (.int 256) st = .ok (.int (c / 256)) st := fun st => ev_div_pos ⟨by decide, by decide⟩ st
    have mk : ∀ st, binV .Mod (.int (c / 64)) (.int s.length) st = .ok (.int a) st := fun st => by rw [ev_mod_pos (by omega), ha]
    have mn : ∀ st, binV .Mod (.int (c / 256)) (.int rows.length) st = .ok (.int g) st := fun st => by rw [ev_mod_pos (by omega), hg]
    refine ⟨bs, R.set i (.list (intsV (w.set a g))), [some (nll rows), v1, some (.int c), some (.ref obs.length), some (.ref (obs.length + 1)), some (.int r), some (.int a)], ⟨hb, fun v hv => (hR v hv).put hi hw hgn⟩, ?_⟩
    have f := fin bs (R.set i (.list (intsV (w.set a g)))) (some (.int a))
    unfold oth
    simp only [setSubM, ev_seqS_cons, ev_bind, ev_iteM, ev_cmp, ev_bin, ev_var, List.getElem?_cons_succ, List.getElem?_cons_zero, Out.bind_ok, ev_const, m4, ev_chain1, ev_eq, ev_eq_int, e2, if_true, ev_assign, d64, ev_app, ev_seqM_cons, ev_seqM_nil, ev_subM, sb, ev_pure, ln, mk, ev_asg_var, ev_setVar, List.length_cons, List.length_nil, Nat.reduceAdd, Nat.reduceLT, List.set, seqK_next, d256, len_nll (K := rows) (by omega), mn, st, ev_seqS_nil, e3, Bool.false_eq_true, if_false] at f ⊢
    exact f
  · have e2 : ((c % 4 == 2) : Bool) = false := beq_false_of_ne c2
    by_cases c3 : c % 4 = 3
    · have e3 : ((c % 4 == 3) : Bool) = true := beq_iff_eq.mpr c3
      have hbv : (bs.map V.bool)[r]? = some (.bool (bs.getD r false)) := by rw [List.getElem?_map, List.getD_eq_getElem?_getD, List.getElem?_eq_getElem (by omega)]; rfl
      have sb := fun vars => ev_subL (vars := vars) (LT1 (obs := obs) (fs := fs) (bs := bs) (R := R)) hbv (by rw [List.length_map]; omega)
      have st : ∀ vars, setSubV (.ref (obs.length + 1)) (.int r) (.bool (!bs.getD r false)) ⟨vars, LT obs fs bs R⟩ = .ok () ⟨vars, LT obs fs (bs.set r (!bs.getD r false)) R⟩ := fun vars => by
        rw [ev_setsubL LT1 (by rw [List.length_map]; omega) (by rw [List.length_map]; omega), ← List.map_set, LT_s1]
      refine ⟨bs.set r (!bs.getD r false), R, [some (nll rows), v1, some (.int c), some (.ref obs.length), some (.ref (obs.length + 1)), some (.int r), none], ⟨by rw [List.length_set]; exact hb, hR⟩, ?_⟩
      have f := fin (bs.set r (!bs.getD r false)) R none
      unfold oth
      simp only [setSubM, ev_seqS_cons, ev_bind, ev_iteM, ev_cmp, ev_bin, ev_var, List.getElem?_cons_succ, List.getElem?_cons_zero, Out.bind_ok, ev_const, m4, ev_chain1, ev_eq, ev_eq_int, e2, if_true, ev_subM, sb, ev_pure, seqK_next, st, ev_seqS_nil, e3, Bool.false_eq_true, if_false, ev_boolV, ev_not, ev_evB, ev_asBool] at f ⊢
      exact f
    · have e3 : ((c % 4 == 3) : Bool) = false := beq_false_of_ne c3
      refine ⟨bs, R, [some (nll rows), v1, some (.int c), some (.ref obs.length), some (.ref (obs.length + 1)), some (.int r), none], ⟨hb, hR⟩, ?_⟩
      have f := fin bs R none
      unfold oth
      simp only [ev_seqS_cons, ev_bind, ev_iteM, ev_cmp, ev_bin, ev_var, List.getElem?_cons_succ, List.getElem?_cons_zero, Out.bind_ok, ev_const, m4, ev_chain1, ev_eq, ev_eq_int, e2, ev_pure, seqK_next, ev_seqS_nil, e3, Bool.false_eq_true, if_false] at f ⊢
      exact f
theorem other_eq (d : Nat) (G : Good s rows ends) (c : Int) (obs : List Ob) : ∃ rows' ends', Good s rows' ends' ∧ rows'.length = rows.length ∧ ∀ vars, cfOf p1 (d + 2) (.fn (nm "_law_other")) [nll rows, bl ends, .int c] ⟨vars, obs⟩ = .ok (mv rows' ends') ⟨vars, obs⟩ := by
  have hm := G.rooms.most
  have h1 := G.one
  obtain ⟨fs, bs, R, hsh, ht⟩ := turned_eq d G (c / 4) obs
  obtain ⟨r, hr, hrn⟩ := modN (c / 16) (n := rows.length) (by omega)
  obtain ⟨bs', R', vars', ⟨hb', hR'⟩, ho⟩ := oth_eq (d + 1) G c hrn hsh (v1 := some (bl ends))
  obtain ⟨rows', q1, q2, q3⟩ := res_rows (obs := obs) (fs0 := fs) (bs := bs') hR'
  have hlen : rows'.length = rows.length := q1.trans hsh.1
  refine ⟨rows', bs', ⟨G.signs, by omega, by have := G.most; omega, by rw [hb', hlen], fun w hw => ⟨(q2 w hw).1, fun i hi => by rw [hlen]; exact (q2 w hw).2 i hi⟩⟩, hlen, fun vars => ?_⟩
  have d4 : ∀ st, binV .FloorDiv (.int c) (.int 4) st = .ok (.int (c / 4)) st := fun st => ev_div_pos ⟨by decide, by decide⟩ st
  have d16 : ∀ st, binV .FloorDiv (.int c) (.int 16) st = .ok (.int (c / 16)) st := fun st => ev_div_pos ⟨by decide, by decide⟩ st
  have mn : ∀ st, binV .Mod (.int (c / 16)) (.int rows.length) st = .ok (.int r) st := fun st => by rw [ev_mod_pos (by omega), hr]
  rw [cf__law_other]
  refine run_ok (vars' := vars') (t := .list fs :: .list (bs'.map V.bool) :: R') rfl (fl := .ret (.tuple [.ref obs.length, .ref (obs.length + 1)])) ?_ (res_mach q3)
  show seqS (assignM (.tup [3, 4]) (appM (cfOf p1 (d + 1) (.fnR (nm "_law_turned"))) [varM 0, varM 1, binM .FloorDiv (varM 2) (constM (.int 4))]) ::
    assignM (.var 5) (binM .Mod (binM .FloorDiv (varM 2) (constM (.int 16))) (appM fLen [varM 0])) :: oth (d + 1)) ⟨[some (nll rows), some (bl ends), some (.int c), none, none, none, none], obs⟩ = .ok _ ⟨vars', LT obs fs bs' R'⟩
  rw [← ho]
  simp only [ev_seqS_cons (assignM _ _), ev_bind, ev_assign, ev_app, ev_seqM_cons, ev_seqM_nil, ev_var, List.getElem?_cons_succ, List.getElem?_cons_zero, Out.bind_ok, ev_bin, ev_const, d4, ev_pure, ht, ev_asg_tup, ev_setVars_cons, ev_setVars_nil, ev_setVar, List.length_cons, List.length_nil, Nat.reduceAdd, Nat.reduceLT, if_true, List.set, seqK_next, d16, len_nll (K := rows) (by omega), mn, ev_asg_var]
end
end Mine
set_option autoImplicit false
set_option linter.unusedVariables false
set_option linter.unusedSimpArgs false
set_option maxRecDepth 100000
namespace Mine
open PySem
theorem lay_cnt (s : List Nat) {k : Nat} (h : s.length ≤ k) : ∀ t, (layW s t).length ≤ k ^ t
  | 0 => by simp [layW]
  | t + 1 => by
    show ((layW s t).flatMap (succW s)).length ≤ _
    rw [flat_len, Nat.pow_succ]
    exact Nat.mul_le_mul (lay_cnt s h t) h
noncomputable def mostR (s : List Nat) : Nat := if s.length = 3 then 3 else 4
theorem most_ok {s : List Nat} (S : SignsP s) : 1 ≤ mostR s ∧ mostR s ≤ 4 ∧ ∀ u, u ≤ 2 * mostR s - 2 → (layW s u).length ≤ 81 := by
  unfold mostR
  by_cases h : s.length = 3
  · rw [if_pos h]
    exact ⟨by decide, by decide, fun u hu => Nat.le_trans (lay_cnt s (k := 3) (by omega) u) (Nat.pow_le_pow_right (n := 3) (j := 4) (by decide) hu)⟩
  · rw [if_neg h]
    have h3 := S.three
    exact ⟨by decide, by decide, fun u hu => Nat.le_trans (lay_cnt s (k := 2) (by omega) u) (Nat.le_trans (Nat.pow_le_pow_right (n := 2) (j := 6) (by decide) hu) (by decide))⟩
theorem most_sub {s : List Nat} (S : SignsP s) (st : St) : subV (.flist [.int 4, .int 4, .int 3]) (.int ((s.length : Int) - 1)) st = .ok (.int (mostR s)) st := by
  have h1 := S.one
  have h3 := S.three
  unfold mostR
  have : s.length = 1 ∨ s.length = 2 ∨ s.length = 3 := by omega
  rcases this with h | h | h <;> rw [h] <;> rfl
section
variable {s : List Nat} {r1 r2 : List (List Nat)} {e1 e2 : List Bool}
theorem dist_comm (w : List Nat) : dist s r2 e2 r1 e1 w = dist s r1 e1 r2 e2 w := by
  unfold dist
  cases e1.getD (goW s r1 w) false <;> cases e2.getD (goW s r2 w) false <;> rfl
theorem dist_self (w : List Nat) : dist s r1 e1 r1 e1 w = false := by
  unfold dist
  cases e1.getD (goW s r1 w) false <;> rfl
noncomputable def dueO (s : List Nat) (r1 : List (List Nat)) (e1 : List Bool) (r2 : List (List Nat)) (e2 : List Bool) : Option (List Nat) := (wordsW s (r1.length + r2.length - 2)).find? (dist s r1 e1 r2 e2)
theorem dueO_comm : dueO s r2 e2 r1 e1 = dueO s r1 e1 r2 e2 := by
  unfold dueO
  rw [Nat.add_comm r2.length, show dist s r2 e2 r1 e1 = dist s r1 e1 r2 e2 from funext dist_comm]
theorem dueO_self : dueO s r1 e1 r1 e1 = none := List.find?_eq_none.mpr fun w _ => by rw [dist_self]; decide
theorem dueO_mem {w : List Nat} (h : dueO s r1 e1 r2 e2 = some w) : ∀ c ∈ w, c ∈ s := words_mem s _ w (List.mem_of_find?_eq_some h)
theorem part_due (d : Nat) (G1 : Good s r1 e1) (G2 : Good s r2 e2) (st : St) : cfOf p1 (d + 2) (.fn (nm "parting")) [mach s r1 e1, mach s r2 e2] st = .ok (wordO (dueO s r1 e1 r2 e2)) st := by
  have h1 := G1.most
  have h2 := G2.most
  have hN : r1.length * r2.length ≤ 400 := Nat.le_trans (Nat.mul_le_mul h1 h2) (by decide)
  rw [parting_eq d G1 G2 hN, part_law G1 G2 hN]; rfl
theorem test_no {o : Option (List Nat)} (h : ∀ w, o = some w → Dt.str.P w) {vars : List (Option V)} {obs : List Ob} (h6 : vars[6]? = some (some (wordO o))) (h9 : vars[9]? = some (some (wordO o))) :
    orM [andM [cmpM (varM 6) [(.Is, constM .none)], cmpM (varM 9) [(.IsNot, constM .none)]], andM [cmpM (varM 6) [(.IsNot, constM .none)], orM [notM (evB (appM fIsi [varM 9, constM (.type "str")])), cmpM (varM 9) [(.NotEq, varM 6)]]]] ⟨vars, obs⟩ = .ok false ⟨vars, obs⟩ := by
  have i1 : ∀ st, cmpV .Is (wordO o) .none st = .ok o.isNone st := fun st => by cases o <;> rfl
  have i2 : ∀ st, cmpV .IsNot (wordO o) .none st = .ok o.isSome st := fun st => by cases o <;> rfl
  cases o with
  | none => simp only [ev_or_cons, ev_or_nil, ev_bind, ev_and_cons, ev_and_nil, ev_cmp, ev_var, h6, h9, Out.bind_ok, ev_chain1, ev_const, i1, i2, Option.isNone_none, Option.isSome_none, if_true, Bool.false_eq_true, if_false, ev_pure]
  | some w =>
    have e := fun st => eq_same (h w rfl) st
    simp only [wordO] at h6 h9 i1 i2
    simp only [ev_or_cons, ev_or_nil, ev_bind, ev_and_cons, ev_and_nil, ev_cmp, ev_var, h6, h9, Out.bind_ok, ev_chain1, ev_const, i1, i2, Option.isNone_some, Option.isSome_some, if_true, Bool.false_eq_true, if_false, ev_pure, ev_not, ev_evB, ev_app, ev_seqM_cons, ev_seqM_nil, ev_fIsi, ev_isi, ev_withObs, kind_str, Option.bind_some, isi_ss, Option.map_some, ev_asBool, Bool.not_true, ev_ne, e]
noncomputable def tail04 (d : Nat) : List (M Flow) := [assignM (.var 6) (appM (cfOf p1 d (.fn (nm "_law_due"))) [varM 1, varM 3, varM 4]),
    assignM (.var 7) (listM [appM (newC (wdOf p1 (cfOf p1 d)) (nm "Machine")) [varM 1, subM (varM 3) (constM (.int 0)), subM (varM 3) (constM (.int 1))], appM (newC (wdOf p1 (cfOf p1 d)) (nm "Machine")) [varM 1, subM (varM 4) (constM (.int 0)), subM (varM 4) (constM (.int 1))]]),
    forM (.var 8) ((appM fRange [constM (.int 2)]).bind toSrc) (bd_law_1 d),
    retM (boolV (cmpM (appM (cfOf p1 d (.fn (nm "parting"))) [subM (varM 7) (constM (.int 0)), subM (varM 7) (constM (.int 0))]) [(.Is, constM .none)]))]
theorem tail_ok (d : Nat) (G1 : Good s r1 e1) (G2 : Good s r2 e2) (hT : r1.length + r2.length - 2 ≤ 6) (hlay : ∀ u, u ≤ r1.length + r2.length - 2 → (layW s u).length ≤ 81) (v0 v2 v5 : Option V) (obs : List Ob) : ∃ vars', seqS (tail04 (d + 5)) ⟨[v0, some (.str s), v2, some (mv r1 e1), some (mv r2 e2), v5, none, none, none, none], obs⟩ = .ok (.ret (.bool true)) ⟨vars', obs⟩ := by
  have hdue := fun st => due_eq (d + 3) G1 G2 hT hlay st
  have n1 : ∀ st, newC (wdOf p1 (cfOf p1 (d + 5))) (nm "Machine") [.str s, nll r1, bl e1] st = .ok (mach s r1 e1) st := fun st => new_eq (d + 1) G1 st
  have n2 : ∀ st, newC (wdOf p1 (cfOf p1 (d + 5))) (nm "Machine") [.str s, nll r2, bl e2] st = .ok (mach s r2 e2) st := fun st => new_eq (d + 1) G2 st
  have pa := fun st => part_due (d + 3) G1 G2 st
  have pb := fun st => part_due (d + 3) G2 G1 st
  have pc := fun st => part_due (d + 3) G1 G1 st
  rw [dueO_comm] at pb
  rw [dueO_self] at pc
  have hdue' : ∀ st, cfOf p1 (d + 5) (.fn (nm "_law_due")) [.str s, mv r1 e1, mv r2 e2] st = .ok (wordO (dueO s r1 e1 r2 e2)) st := hdue
  have hP : ∀ w, dueO s r1 e1 r2 e2 = some w → Dt.str.P w := fun w hw c hc => by have := G1.signs.az c (dueO_mem hw c hc); omega
  generalize dueO s r1 e1 r2 e2 = o at hdue' pa pb hP
  obtain ⟨st', hf, z8, z9, rfl⟩ := for_map (t := .var 8) (body := bd_law_1 (d + 5)) (c := []) (f := fun (k : Nat) => V.int k) (xs := List.range 2)
    (fun j st => ∃ z8 z9, st = ⟨[v0, some (.str s), v2, some (mv r1 e1), some (mv r2 e2), v5, some (wordO o), some (two2 (mach s r1 e1) (mach s r2 e2)), z8, z9], obs⟩) (fun _ _ _ => .nil _) (fun j x st hx hI => by
      obtain ⟨z8, z9, rfl⟩ := hI
      have hj : j < 2 := by simpa using (List.getElem?_eq_some_iff.mp hx).1
      have hxj : x = j := by simpa [hj] using hx.symm
      subst hxj
      have pk : ∀ (k : Nat), k < 2 → ∀ st, ∃ a b, subV (two2 (mach s r1 e1) (mach s r2 e2)) (.int k) st = .ok a st ∧ subV (two2 (mach s r1 e1) (mach s r2 e2)) (.int (1 - (k : Int))) st = .ok b st ∧ ∀ st, cfOf p1 (d + 5) (.fn (nm "parting")) [a, b] st = .ok (wordO o) st := fun k hk st => by
        have : k = 0 ∨ k = 1 := by omega
        rcases this with rfl | rfl
        · exact ⟨_, _, rfl, rfl, pa⟩
        · exact ⟨_, _, rfl, rfl, pb⟩
      obtain ⟨a, b, q1, q2, q3⟩ := pk x hj ⟨[v0, some (.str s), v2, some (mv r1 e1), some (mv r2 e2), v5, some (wordO o), some (two2 (mach s r1 e1) (mach s r2 e2)), some (.int x), z9], obs⟩
      have tn := test_no hP (vars := [v0, some (.str s), v2, some (mv r1 e1), some (mv r2 e2), v5, some (wordO o), some (two2 (mach s r1 e1) (mach s r2 e2)), some (.int x), some (wordO o)]) (obs := obs) rfl rfl
      refine ⟨⟨[v0, some (.str s), v2, some (mv r1 e1), some (mv r2 e2), v5, some (wordO o), some (two2 (mach s r1 e1) (mach s r2 e2)), some (.int x), some (wordO o)], obs⟩, ?_, some (.int x), some (wordO o), rfl⟩
      unfold bd_law_1
      simp only [ev_bind, ev_asg_var, ev_setVar, List.length_cons, List.length_nil, Nat.reduceAdd, Nat.reduceLT, if_true, List.set, Out.bind_ok, ev_seqS_cons, ev_assign, ev_app, ev_seqM_cons, ev_seqM_nil, ev_subM, ev_var, List.getElem?_cons_succ, List.getElem?_cons_zero, q1, ev_bin, ev_const, ev_sub_int, ev_pure, q2, q3, seqK_next, ev_iteM, tn, Bool.false_eq_true, if_false, ev_seqS_nil]) (st := ⟨[v0, some (.str s), v2, some (mv r1 e1), some (mv r2 e2), v5, some (wordO o), some (two2 (mach s r1 e1) (mach s r2 e2)), none, none], obs⟩) ⟨none, none, rfl⟩
  have er0 := fun st => ev_range (n := 2) (by decide) st
  simp only [ev_bind] at er0
  have er : ∀ st, (fRange [.int 2] st).bind toSrc = .ok ⟨(List.range 2).map fun (k : Nat) => V.int k, []⟩ st := er0
  have l2 : ∀ (a b : V) st, allocL [a, b] st = .ok (two2 a b) st := fun a b st => ev_allocL (by simp) st
  have isn : ∀ st, cmpV .Is (wordO none) .none st = .ok true st := fun _ => rfl
  refine ⟨[v0, some (.str s), v2, some (mv r1 e1), some (mv r2 e2), v5, some (wordO o), some (two2 (mach s r1 e1) (mach s r2 e2)), z8, z9], ?_⟩
  unfold tail04
  simp only [ev_seqS_cons, ev_bind, ev_assign, ev_app, ev_seqM_cons, ev_seqM_nil, ev_var, List.getElem?_cons_succ, List.getElem?_cons_zero, Out.bind_ok, ev_pure, hdue', ev_asg_var, ev_setVar, List.length_cons, List.length_nil, Nat.reduceAdd, Nat.reduceLT, if_true, List.set, seqK_next, ev_listM, ev_subM, ev_const, sub_m0, sub_m1, n1, n2, l2, ev_for, er, hf, ev_ret, ev_boolV, ev_cmp, sub_20, pc, ev_chain1, isn, seqK_ret]
end
theorem law04_ok (d : Nat) {xs : List Int} (hx : xs.length ≤ 63) (hh : ∀ x ∈ xs, x.natAbs.log2 < 1048577) (vars : List (Option V)) (obs : List Ob) : cfOf p1 (d + 6) (.fn (nm "law")) [.alist (xs.map .int)] ⟨vars, obs⟩ = .ok (.bool true) ⟨vars, obs⟩ := by
  obtain ⟨s, S, hs⟩ := signs_ok (d + 4) (xs.getD 0 0)
  have h1 := S.one
  have h3 := S.three
  obtain ⟨m1, m4, mlay⟩ := most_ok S
  obtain ⟨r1, e1, q1, q2, q3, q4, hd1⟩ := drawn_ok (d + 3) hx hh (k := s.length) (start := 1) (most := mostR s) ⟨h1, h3⟩ (by decide) ⟨m1, by omega⟩
  obtain ⟨r2, e2, p1', p2, p3, p4, hd2⟩ := drawn_ok (d + 3) hx hh (k := s.length) (start := 7) (most := mostR s) ⟨h1, h3⟩ (by decide) ⟨m1, by omega⟩
  have G1 : Good s r1 e1 := ⟨S, q1, by omega, q3, q4⟩
  have G2 : Good s r2 e2 := ⟨S, p1', by omega, p3, p4⟩
  have c0 : ∀ st, cfOf p1 (d + 5) (.fn (nm "_law_cell_at")) [.alist (xs.map .int), .int 0] st = .ok (.int (xs.getD 0 0)) st := fun st => cell_eq (d + 4) xs 0 st hx (by decide)
  have c12 : ∀ st, cfOf p1 (d + 5) (.fn (nm "_law_cell_at")) [.alist (xs.map .int), .int 12] st = .ok (.int (xs.getD 12 0)) st := fun st => cell_eq (d + 4) xs 12 st hx (by decide)
  have hmx : ∀ st, cfOf p1 (d + 5) (.fn (nm "_law_mixed")) [.int (xs.getD 12 0), .int 1] st = .ok (.int (mixed (xs.getD 12 0) 1)) st := fun st => mixed_eq (d + 4) _ 1 st (getD_heavy hh 12) ⟨by decide, by decide⟩
  have hd1' : ∀ st, cfOf p1 (d + 5) (.fn (nm "_law_drawn")) [.alist (xs.map .int), .int 1, .int s.length, .int (mostR s)] st = .ok (mv r1 e1) st := hd1
  have hd2' : ∀ st, cfOf p1 (d + 5) (.fn (nm "_law_drawn")) [.alist (xs.map .int), .int 7, .int s.length, .int (mostR s)] st = .ok (mv r2 e2) st := hd2
  generalize mixed (xs.getD 12 0) 1 = c at hmx
  have hms := fun st => most_sub S st
  have l3 : ∀ st, allocL [V.int 4, .int 4, .int 3] st = .ok (.flist [.int 4, .int 4, .int 3]) st := fun st => ev_allocL (by simp) st
  have m4c : ∀ st, binV .Mod (.int c) (.int 4) st = .ok (.int (c % 4)) st := fun st => ev_mod_pos (by decide) st
  have hif : ∃ r e, Good s r e ∧ r.length ≤ mostR s ∧ iteM (cmpM (binM .Mod (varM 5) (constM (.int 4))) [(.Gt, constM (.int 0))]) (seqS [assignM (.var 4) (appM (cfOf p1 (d + 5) (.fn (nm "_law_other"))) [subM (varM 3) (constM (.int 0)), subM (varM 3) (constM (.int 1)), varM 5])]) (seqS []) ⟨[some (.alist (xs.map .int)), some (.str s), some (.int (mostR s)), some (mv r1 e1), some (mv r2 e2), some (.int c), none, none, none, none], obs⟩ = .ok .next ⟨[some (.alist (xs.map .int)), some (.str s), some (.int (mostR s)), some (mv r1 e1), some (mv r e), some (.int c), none, none, none, none], obs⟩ := by
    by_cases hc : c % 4 > 0
    · obtain ⟨r, e, G, hl, ho⟩ := other_eq (d + 3) G1 c obs
      refine ⟨r, e, G, by omega, ?_⟩
      simp only [ev_iteM, ev_bind, ev_cmp, ev_bin, ev_var, List.getElem?_cons_succ, List.getElem?_cons_zero, Out.bind_ok, ev_const, m4c, ev_chain1, ev_gt, decide_eq_true hc, ev_pure, if_true, ev_seqS_cons, ev_assign, ev_app, ev_seqM_cons, ev_seqM_nil, ev_subM, sub_m0, sub_m1, ho, ev_asg_var, ev_setVar, List.length_cons, List.length_nil, Nat.reduceAdd, Nat.reduceLT, List.set, seqK_next, ev_seqS_nil]
    · refine ⟨r2, e2, G2, p2, ?_⟩
      simp only [ev_iteM, ev_bind, ev_cmp, ev_bin, ev_var, List.getElem?_cons_succ, List.getElem?_cons_zero, Out.bind_ok, ev_const, m4c, ev_chain1, ev_gt, decide_eq_false hc, ev_pure, Bool.false_eq_true, if_false, ev_seqS_nil]
  obtain ⟨r, e, G, hr, hi⟩ := hif
  have hrT : r1.length + r.length - 2 ≤ 2 * mostR s - 2 := by omega
  obtain ⟨vars', ht⟩ := tail_ok d G1 G (by omega) (fun u hu => mlay u (Nat.le_trans hu hrT)) (some (.alist (xs.map .int))) (some (.int (mostR s))) (some (.int c)) obs
  rw [cf_law]
  refine run_pure (fl := .ret (.bool true)) (vars' := vars') rfl ?_ (by simp only [flowV, lR0, lR1, lR2, lR3, lR4, lR5, lR6, lR7, lR8, lR9, lR10, lR11, lR12, lR13])
  show seqS (assignM (.var 1) (appM (cfOf p1 (d + 5) (.fn (nm "_law_signs"))) [appM (cfOf p1 (d + 5) (.fn (nm "_law_cell_at"))) [varM 0, constM (.int 0)]]) ::
    assignM (.var 2) (subM (listM [constM (.int 4), constM (.int 4), constM (.int 3)]) (binM .Sub (appM fLen [varM 1]) (constM (.int 1)))) ::
    assignM (.var 3) (appM (cfOf p1 (d + 5) (.fn (nm "_law_drawn"))) [varM 0, constM (.int 1), appM fLen [varM 1], varM 2]) ::
    assignM (.var 4) (appM (cfOf p1 (d + 5) (.fn (nm "_law_drawn"))) [varM 0, constM (.int 7), appM fLen [varM 1], varM 2]) ::
    assignM (.var 5) (appM (cfOf p1 (d + 5) (.fn (nm "_law_mixed"))) [appM (cfOf p1 (d + 5) (.fn (nm "_law_cell_at"))) [varM 0, constM (.int 12)], constM (.int 1)]) ::
    iteM (cmpM (binM .Mod (varM 5) (constM (.int 4))) [(.Gt, constM (.int 0))]) (seqS [assignM (.var 4) (appM (cfOf p1 (d + 5) (.fn (nm "_law_other"))) [subM (varM 3) (constM (.int 0)), subM (varM 3) (constM (.int 1)), varM 5])]) (seqS []) :: tail04 (d + 5)) ⟨[some (.alist (xs.map .int)), none, none, none, none, none, none, none, none, none], obs⟩ = _
  rw [← ht]
  simp only [ev_seqS_cons (assignM _ _), ev_seqS_cons (iteM _ _ _), ev_bind, ev_assign, ev_app, ev_seqM_cons, ev_seqM_nil, ev_const, ev_var, List.getElem?_cons_succ, List.getElem?_cons_zero, Out.bind_ok, ev_pure, c0, hs, ev_asg_var, ev_setVar, List.length_cons, List.length_nil, Nat.reduceAdd, Nat.reduceLT, if_true, List.set, seqK_next, ev_subM, ev_listM, l3, ev_bin, ev_len_str, ev_lenM (n := s.length) (by omega), ev_sub_int, hms, hd1', hd2', c12, hmx, hi]
end Mine
namespace Mine
open PySem PySem.W PyProof.Rows
set_option maxRecDepth 100000
set_option maxHeartbeats 8000000
noncomputable def view1 : Program := viewOf PySem.Challenge.pw_uf020027_04
theorem said1 : OpenLaw.wellSaid PySem.Challenge.rw_uf020027_04 = true := by kernel_rfl
theorem ok1 : (chainsOk view1 && opensWell PySem.Challenge.rw_uf020027_04.row.prog && (frees PySem.Challenge.rw_uf020027_04.row.toRowW && PySem.Challenge.rw_uf020027_04.row.within.isEmpty)) = true := by kernel_rfl
theorem left1 : LeftO PySem.Challenge.rw_uf020027_04.row.prog view1 [] (fun s => xlAt view1 [] s && recOk PySem.Challenge.rw_uf020027_04.row.records s) (topHook p1).obs (topHook p1).val 3100 := by
  intro w
  kernel_rfl
end Mine
open PySem PySem.W PyProof.Rows Mine
set_option maxRecDepth 100000 in
set_option maxHeartbeats 8000000 in
theorem PySem.Challenge.cw_uf020027_04_holds : PySem.Challenge.rw_uf020027_04.Holds := by
  w_on
  refine holds_law said1 fun said => ?_
  refine holds_open (r := PySem.Challenge.rw_uf020027_04.row) (q := view1) (loose := []) (Xt := fun s => xlAt view1 [] s && recOk (RowW.records PySem.Challenge.rw_uf020027_04.row.toRowW) s) (XP := XL view1 []) (Yf := Hook.obs (topHook p1)) (Ya := Hook.val (topHook p1)) (YP := Hook.says (topHook p1)) (N := 3100) left1 (Hook.of (topHook p1)) (Hook.keeps (topHook p1)) (fun s e => xl_of s (Bool.and_eq_true_iff.mp e).1) XL.keeps (by rfl) (by rfl) (by rfl) (fun s e => recFacts_of (Bool.and_eq_true_iff.mp e).2) (by rfl) said ok1 ⟨rfl, rfl, rfl, rfl, rfl, by decide +kernel⟩ ?hw ?hc
  case hw => w_witness2
  intro w s₀ s₁ mg mb G Y fa o pm cd doc dV kV ho hd hcd hD hmg hg args vals as hpre hlay hrd hwl hlo
  obtain ⟨K, KX, hT, hadr⟩ := Y
  refine Ground.open G ?_
  intro T B D TE TW
  clear hd hcd hD
  wrow_args hpre hlay hrd hwl hlo
  refine enter_call ?_
  rename_i xs _ _ hlay' _ _ _ _ _ _ _ hL _ _ _ hI _ hc _
  exact close_law hT hadr KX T hmg hg hL hI (d := 5) (by decide) ⟨[], law04_ok 0 (by omega) (lay_log hlay') [] []⟩ fun s' h1 h2 h3 => GoodW.toG ⟨.inl ⟨.bool true, .bool true, [], rfl, fun _ => rfl, .bool true, (by kernel_rfl!), fun _ => ⟨List.nodup_nil, fun a h => (nomatch h)⟩⟩, h1, h2, h3⟩
