import PyProof.Rows.All
import PyProof.P3Statements
import PyProof.Claim2
import PyProof.TableCode
import PyProof.Defs
import PyProof.Rows.Top
import PyProof.Rows.CellsFrame
import PyProof.ListOps
import PyProof.TupleOps
import PyProof.P3In
import PyProof.DictTable
import PyProof.RangeFor
import PyProof.SliceMore
import PyProof.Rows.RuleB_mul
import PyProof.Rows.RuleB_floordiv
import PyProof.Rows.RuleB_mod
import PyProof.Rows.RuleB_sub
import PyProof.Rows.RuleB_small
import PyProof.Rows.RuleU_int
import PyProof.Rows.IntRules
import PyProof.Rows.ListMul
import PyProof.Rows.ListMulArg
import PyProof.NeData
import PyProof.IsiPairs
import PyProof.IsiNone
import PyProof.IsiSeqPairs
import PyProof.IsiTupleAll
import PyProof.IsiTupleOf
import PyProof.ListIndexNeg
import PyProof.DictRoads
import PyProof.ListRange
import PyProof.TupleOfSeq
import PyProof.ListCopy
import PyProof.Rows.IntOr
import PyProof.Rows.RuleC_int
import PyProof.DictStraight
import PyProof.WalkInts
import PyProof.ConsumeWalk
import PyProof.Conv_int_bool
import PyProof.Rows.TupMore
import PyProof.DictCopy
import PyProof.LetGo
import KE.KDictOf
import PyProof.Rows.Chain
import PyProof.Rows.TupSub
import PyProof.Rows.SeqSlice
import PyProof.ExcArgsOwn
import PyProof.ExcAttrAll.ValueError
import PyProof.ExcBaseAll.ValueError
import PyProof.IsInstance
import PyProof.RangeIter
import PyProof.TupleIter
import PyProof.CompFree
import PyProof.EnumMake
import PyProof.EnumStmt
import PyProof.Rows.Exc
import PyProof.StationsW
import OpenK.KCall
import PyProof.ExcClass2
import PyProof.ZipIter
import PyProof.CollectWalk
import PyProof.ListNew
import PyProof.Rows.ZipGen
import Wide.All
import OpenK.AllK
import Wide.FinOn
import PySem.Challenge.RW_uf020017_03
set_option Elab.async false
set_option autoImplicit false
set_option linter.unusedVariables false
namespace Mine
open PySem PyProof.Rows

/-- abstract values: what a Python value is, with lists either frozen (lst) or on the abstract heap (loc) -/
inductive AV where
  | none
  | bool (b : Bool)
  | int (i : Int)
  | str (s : Str)
  | tup (xs : List AV)
  | lst (xs : List AV)
  | loc (l : Nat)
  | range (a b : Int)
  | cdict (es : List (Str × Str))
  | exc (c : Str)

inductive AO where
  | list (xs : List AV)
  | dict (es : List (Str × AV))

abbrev AHeap := List AO

/-- the most items a list may have here -/
noncomputable def LIM : Nat := 2 ^ 20

/-- runs on the abstract heap; .error c: an exception of the text's class c is raised; none: not covered -/
abbrev M := ExceptT Str (StateT AHeap Option)
noncomputable def stuck {α : Type} : M α := fun _ => none

/-- turns that a loop may do here -/
noncomputable def FUEL : Nat := 100000

/-- the pure datum that a value reads as, with n levels -/
noncomputable def rd (H : AHeap) : Nat → AV → Option PyData
  | _, .none => some .none
  | _, .bool b => some (.bool b)
  | _, .int i => some (.int i)
  | _, .str x => if PyData.strOk x then some (.str x) else none
  | n + 1, .tup xs => (xs.mapM (rd H n)).map .tuple
  | n + 1, .lst xs => (xs.mapM (rd H n)).map .list
  | n + 1, .loc l => match H[l]? with
    | some (.list xs) => (xs.mapM (rd H n)).map .list
    | _ => none
  | _, _ => none

/-- the object at l -/
noncomputable def objAt (l : Nat) : M AO := fun H => match H[l]? with
  | some o => some (.ok o, H)
  | none => none
noncomputable def asList : AO → M (List AV)
  | .list xs => pure xs
  | .dict _ => stuck
noncomputable def asDict : AO → M (List (Str × AV))
  | .list _ => stuck
  | .dict es => pure es
noncomputable def setAt (l : Nat) (o : AO) : M Unit := fun H => some (.ok (), H.set l o)
noncomputable def listAt (l : Nat) : M (List AV) := do asList (← objAt l)
noncomputable def dictAt (l : Nat) : M (List (Str × AV)) := do asDict (← objAt l)
noncomputable def listOf : AV → M (List AV)
  | .lst xs => pure xs
  | .loc l => listAt l
  | _ => stuck
noncomputable def seqOf : AV → M (List AV)
  | .tup xs => pure xs
  | .lst xs => pure xs
  | .loc l => listAt l
  | _ => stuck
noncomputable def newO (o : AO) : M AV := fun H => some (.ok (.loc H.length), H ++ [o])
noncomputable def newL (mu : Bool) (xs : List AV) : M AV := if xs.length ≤ LIM then (match mu with
    | true => newO (.list xs)
    | false => pure (.lst xs)) else stuck
noncomputable def newD (es : List (Str × AV)) : M AV := newO (.dict es)

noncomputable def truth : AV → M Bool
  | .bool b => pure b
  | _ => stuck

noncomputable def isL : AV → Bool
  | .lst _ | .loc _ => true
  | _ => false
noncomputable def isTp : AV → Bool
  | .tup _ => true
  | _ => false

noncomputable def asI (v : AV) : Option Int := match v with
  | .int i => some i
  | _ => none
noncomputable def int2 (a b : AV) (f : Int → Int → M AV) : M AV := match asI a with
  | some i => match asI b with
    | some j => f i j
    | none => stuck
  | none => stuck
noncomputable def addTup (xs : List AV) (b : AV) : M AV := match b with
  | .tup ys => if xs.isEmpty || ys.isEmpty || decide (LIM < xs.length + ys.length) then stuck else pure (.tup (xs ++ ys))
  | _ => stuck
noncomputable def addSeq (mu : Bool) (a b : AV) : M AV := match a with
  | .tup xs => addTup xs b
  | a => do
    let xs ← listOf a
    let ys ← listOf b
    newL mu (xs ++ ys)
noncomputable def bAdd (mu : Bool) (a b : AV) : M AV := match asI a with
  | some i => match asI b with
    | some j => pure (.int (i + j))
    | none => stuck
  | none => addSeq mu a b
noncomputable def bMul (mu : Bool) (a b : AV) : M AV := match asI b with
  | some n => match asI a with
    | some i => if n.natAbs < 2 ^ 64 ∨ i.natAbs < 2 ^ 64 then pure (.int (i * n)) else stuck
    | none => do
      let xs ← listOf a
      if n < 0 ∨ 1048576 < n ∨ LIM < n.toNat * xs.length then stuck else newL mu (List.replicate n.toNat xs).flatten
  | none => stuck
noncomputable def pBin (mu : Bool) (op : Operator) (a b : AV) : M AV := match op with
  | .Add => bAdd mu a b
  | .Sub => int2 a b fun i j => pure (.int (i - j))
  | .Mult => bMul mu a b
  | .FloorDiv => int2 a b fun i j => if j = 0 ∨ 1073741824 ≤ j.natAbs then stuck else pure (.int (i.fdiv j))
  | .Mod => int2 a b fun i j => if j = 0 then stuck else pure (.int (i.fmod j))
  | .Pow => int2 a b fun i j => if i = 10 ∧ j = 20 then pure (.int 100000000000000000000) else stuck
  | _ => stuck

noncomputable def pNeg : AV → M AV
  | .int i => pure (.int (-i))
  | _ => stuck

noncomputable def cmpI (op : CmpOp) (i j : Int) : M Bool := match op with
  | .Lt => pure (decide (i < j))
  | .LtE => pure (decide (i ≤ j))
  | .Gt => pure (decide (j < i))
  | .GtE => pure (decide (j ≤ i))
  | _ => stuck
/-- the pure datum that a reads as -/
noncomputable def rdM (a : AV) : M PyData := fun H => match rd H 8 a with
  | some d => some (.ok d, H)
  | none => none
noncomputable def itemsD : PyData → M (List PyData)
  | .list ys => pure ys
  | .tuple ys => pure ys
  | _ => stuck
noncomputable def pEq (a b : AV) : M Bool := do
  let x ← rdM a
  let y ← rdM b
  pure (PyData.eqv x y)
noncomputable def pIn (a b : AV) : M Bool := do
  let x ← rdM a
  let y ← rdM b
  let ys ← itemsD y
  pure (ys.any fun y => PyData.eqv y x)
noncomputable def pIsNone : AV → Bool
  | .none => true
  | _ => false
noncomputable def pCmp (op : CmpOp) (a b : AV) : M Bool := match op with
  | .Eq => pEq a b
  | .NotEq => do let r ← pEq a b; pure (!r)
  | .In => pIn a b
  | .NotIn => do let r ← pIn a b; pure (!r)
  | .Is => match b with
    | .none => pure (pIsNone a)
    | _ => stuck
  | .IsNot => match b with
    | .none => pure (!pIsNone a)
    | _ => stuck
  | op => match asI a with
    | some i => match asI b with
      | some j => cmpI op i j
      | none => stuck
    | none => stuck

/-- the place of an index, from the end if it is below nought -/
noncomputable def idx (k : Int) (n : Nat) : Option Nat := if 0 ≤ k then (if k < n then some k.toNat else none) else (if -k ≤ n then some (k + n).toNat else none)

noncomputable def look {α : Type} (es : List (Str × α)) (k : Str) : Option α := (es.find? fun e => e.1 = k).map (·.2)
noncomputable def put (es : List (Str × AV)) (k : Str) (v : AV) : List (Str × AV) :=
  if es.any (fun e => e.1 = k) then es.map (fun e => if e.1 = k then (e.1, v) else e) else es ++ [(k, v)]

noncomputable def ofOpt {α : Type} : Option α → M α
  | some a => pure a
  | none => stuck

noncomputable def pItem (o i : AV) : M AV := match i with
  | .str k => match o with
    | .cdict es => do let v ← ofOpt (look es k); pure (.str v)
    | .loc l => do
      let es ← dictAt l
      ofOpt (look es k)
    | _ => stuck
  | .int k => do
    let xs ← seqOf o
    ofOpt ((idx k xs.length).bind fun j => xs[j]?)
  | _ => stuck

/-- where an end of a slice falls, in a list of n -/
noncomputable def clipA (n : Nat) (i : Int) : Nat := (max 0 (min (if i < 0 then i + n else i) n)).toNat

/-- xs[lo:hi] -/
noncomputable def cut (xs : List AV) (lo hi : Option Int) : List AV :=
  let n := xs.length
  let a := lo.elim 0 (clipA n)
  let b := hi.elim n (clipA n)
  (xs.drop a).take (b - a)

noncomputable def pSlice (mu : Bool) (o : AV) (lo hi : Option Int) : M AV := match o with
  | .tup xs => match lo, hi with
    | none, some b => if 0 ≤ b ∧ b < xs.length then pure (.tup (xs.take b.toNat)) else stuck
    | _, _ => stuck
  | o => do
    let xs ← listOf o
    newL mu (cut xs lo hi)
noncomputable def storeK (l : Nat) (k : Str) (v : AV) : M Unit := do
  let es ← dictAt l
  if es.length < LIM then setAt l (.dict (put es k v)) else stuck
noncomputable def storeI (l : Nat) (k : Int) (v : AV) : M Unit := do
  let xs ← listAt l
  if 0 ≤ k ∧ k < xs.length then setAt l (.list (xs.set k.toNat v)) else stuck
noncomputable def pStore (o i v : AV) : M Unit := match o with
  | .loc l => (match i with
    | .str k => storeK l k v
    | .int k => storeI l k v
    | _ => stuck)
  | _ => stuck

/-- the types that isinstance is asked of -/
inductive Ty where
  | int | bool | str | tuple | list
  deriving DecidableEq
noncomputable def tyOf (x : Str) : Option Ty :=
  if x = ("int" : Str) then some .int else if x = ("bool" : Str) then some .bool else if x = ("str" : Str) then some .str
  else if x = ("tuple" : Str) then some .tuple else if x = ("list" : Str) then some .list else none

noncomputable def isTy : AV → Option Ty
  | .bool _ => some .bool
  | .int _ => some .int
  | .str _ => some .str
  | .tup _ => some .tuple
  | .lst _ => some .list
  | .loc _ => some .list
  | _ => none
/-- is it of a type below t -/
noncomputable def tyLe (u t : Ty) : Bool := decide (u = t) || (decide (u = .bool) && decide (t = .int))
noncomputable def pIsi (v : AV) (t : Ty) : M Bool := match v with
  | .none => pure false
  | .loc l => do
    let _ ← listAt l
    pure (tyLe .list t)
  | v => match isTy v with
    | some u => pure (tyLe u t)
    | none => stuck

inductive BI where
  | len | list | tuple | dict | int | range | min | max | any | sorted
  deriving DecidableEq
noncomputable def biOf (x : Str) : Option BI :=
  if x = ("len" : Str) then some .len else if x = ("list" : Str) then some .list else if x = ("tuple" : Str) then some .tuple
  else if x = ("dict" : Str) then some .dict else if x = ("int" : Str) then some .int else if x = ("range" : Str) then some .range
  else if x = ("min" : Str) then some .min else if x = ("max" : Str) then some .max else if x = ("any" : Str) then some .any
  else if x = ("sorted" : Str) then some .sorted else none

noncomputable def rangeL (a b : Int) : List AV := (List.range (b - a).toNat).map fun (k : Nat) => .int (a + (k : Int))
noncomputable def small62 (i : Int) : Bool := decide (-(2 ^ 62) ≤ i) && decide (i < 2 ^ 62)
noncomputable def one (vs : List AV) (f : AV → M AV) : M AV := match vs with
  | [v] => f v
  | _ => stuck
noncomputable def bList (mu : Bool) (v : AV) : M AV := match v with
  | .range a b => if small62 a && small62 b then newL mu (rangeL a b) else stuck
  | v => do let xs ← seqOf v; newL mu xs
noncomputable def bInt (v : AV) : M AV := match v with
  | .bool b => pure (.int (if b then 1 else 0))
  | _ => stuck
noncomputable def bRange (vs : List AV) : M AV := match vs with
  | [v] => match asI v with
    | some n => pure (.range 0 n)
    | none => stuck
  | [v, w] => match asI v with
    | some a => match asI w with
      | some b => pure (.range a b)
      | none => stuck
    | none => stuck
  | _ => stuck
noncomputable def bMin (vs : List AV) : M AV := match vs with
  | [v, w] => match asI v with
    | some a => match asI w with
      | some b => pure (.int (if b < a then b else a))
      | none => stuck
    | none => stuck
  | _ => stuck
noncomputable def pBI (mu : Bool) (b : BI) (vs : List AV) : M AV := match b with
  | .len => one vs fun v => do let xs ← seqOf v; pure (.int xs.length)
  | .list => one vs (bList mu)
  | .tuple => one vs fun v => do let xs ← listOf v; pure (.tup xs)
  | .dict => stuck
  | .int => one vs bInt
  | .range => bRange vs
  | .min => bMin vs
  | .max => stuck
  | .any => stuck
  | .sorted => stuck

noncomputable def pZip (mu : Bool) (a b : AV) : M AV := do
  let xs ← seqOf a
  let ys ← seqOf b
  if (isTp a == isTp b) && decide (xs.length = ys.length) then newL mu (List.zipWith (fun x y => .tup [x, y]) xs ys) else stuck

noncomputable def mAppend (l : Nat) (xs : List AV) : List AV → M AV
  | [v] => if xs.length < LIM then do
      setAt l (.list (xs ++ [v]))
      pure .none
    else stuck
  | _ => stuck
noncomputable def popAt (l : Nat) (xs : List AV) (i : Nat) : M AV := match xs[i]? with
  | some v => do
    setAt l (.list (xs.eraseIdx i))
    pure v
  | none => stuck
noncomputable def mPop (l : Nat) (xs : List AV) : List AV → M AV
  | [] => popAt l xs (xs.length - 1)
  | [v] => (match asI v with
    | some k => if 0 ≤ k ∧ k < xs.length then popAt l xs k.toNat else stuck
    | none => stuck)
  | _ => stuck
inductive Mt where
  | append | pop | clear | count
noncomputable def mtOf (m : Str) : Option Mt :=
  if m = ("append" : Str) then some .append else if m = ("pop" : Str) then some .pop else if m = ("clear" : Str) then some .clear
  else if m = ("count" : Str) then some .count else none
noncomputable def methL (l : Nat) (xs vs : List AV) : Mt → M AV
  | .append => mAppend l xs vs
  | .pop => mPop l xs vs
  | .clear => stuck
  | .count => stuck
noncomputable def methF (xs vs : List AV) (k : Mt) : M AV := stuck
noncomputable def pMethK (k : Mt) (o : AV) (vs : List AV) : M AV := match o with
  | .loc l => do
    let xs ← listAt l
    methL l xs vs k
  | .lst xs => methF xs vs k
  | _ => stuck
noncomputable def pMeth (m : Str) (o : AV) (vs : List AV) : M AV := match mtOf m with
  | some k => pMethK k o vs
  | none => stuck

noncomputable def pZipL (mu : Bool) : List AV → M AV
  | [a, b] => pZip mu a b
  | _ => stuck
/-- what is iterated -/
inductive Src where
  | items (xs : List AV)
  | at (l : Nat)
  | enum (s : Src)
noncomputable def Src.get : Src → Nat → M (Option AV)
  | .items xs, i => pure xs[i]?
  | .at l, i => do
    let xs ← listAt l
    pure xs[i]?
  | .enum s, i => do
    let r ← s.get i
    pure (r.map fun v => .tup [.int i, v])

noncomputable def srcOf : AV → M Src
  | .tup xs => pure (.items xs)
  | .lst xs => pure (.items xs)
  | .range a b => if small62 a && small62 b then pure (.items (rangeL a b)) else stuck
  | .loc l => do
    let _ ← listAt l
    pure (.at l)
  | _ => stuck

/-- no starred one, no set, no conditional: what the machine handles apart -/
noncomputable def exOk : Expr → Bool
  | .Starred _ _ => false
  | .Set _ _ _ => false
  | .IfExp _ _ _ _ => false
  | _ => true
noncomputable def evAll (ev : Expr → M AV) : List Expr → M (List AV)
  | [] => pure []
  | e :: r => do
    let v ← ev e
    let vs ← evAll ev r
    pure (v :: vs)
noncomputable def evEach (ev : Expr → M AV) (es : List Expr) : M (List AV) := if es.all exOk then evAll ev es else stuck

noncomputable def bOp (ev : Expr → M AV) (op : BoolOp) : List Expr → M AV
  | [] => stuck
  | [e] => ev e
  | e :: r => do
    let v ← ev e
    let t ← truth v
    match op with
    | .And => (match t with
      | false => pure v
      | true => bOp ev .And r)
    | .Or => (match t with
      | true => pure v
      | false => bOp ev .Or r)

/-- a chain of comparisons; r hands on the last one's answer -/
noncomputable def chain (ev : Expr → M AV) (a : AV) : List CmpOp → List Expr → M Bool
  | [op], [e] => if exOk e then do
      let b ← ev e
      pCmp op a b
    else stuck
  | op :: op' :: ops, e :: e' :: es => do
    let b ← ev e
    let t ← pCmp op a b
    match t with
    | true => chain ev b (op' :: ops) (e' :: es)
    | false => pure false
  | _, _ => stuck

noncomputable def tests (te : Expr → M Bool) (op : BoolOp) : List Expr → M Bool
  | [] => pure (op == .And)
  | e :: r => do
    let t ← te e
    match op with
    | .And => (match t with
      | false => pure false
      | true => tests te .And r)
    | .Or => (match t with
      | true => pure true
      | false => tests te .Or r)

noncomputable def plainT (ev : Expr → M AV) (e : Expr) : M Bool := if exOk e then do
    let v ← ev e
    truth v
  else stuck
noncomputable def denT (ev : Expr → M AV) : Nat → Expr → M Bool
  | 0, _ => stuck
  | n + 1, e => match e with
    | .UnaryOp op x p => match op with
      | .Not => do let b ← denT ev n x; pure (!b)
      | op => plainT ev (.UnaryOp op x p)
    | .BoolOp op vs _ => tests (denT ev n) op vs
    | .Compare l ops cs _ => do let a ← ev l; chain ev a ops cs
    | e => plainT ev e

structure Fn where
  params : List Str
  names : List Str
  body : List Stmt
  scope : Scope

structure Pg where
  fn : Str → Option Fn
  glob : Str → Option AV
  mu : Pos → Bool
  /-- the text's exception classes: those of the text that each is under -/
  cls : Str → Option (List Str) := fun _ => none
  /-- no exception is being handled -/
  free : Bool := true
/-- inside a handler -/
noncomputable def Pg.off (P : Pg) : Pg := ⟨P.fn, P.glob, P.mu, P.cls, false⟩

abbrev Loc := List (Option AV)

noncomputable def nameV (ns : List Str) (x : Str) (σ : Loc) : M AV := match ns.idxOf? x with
  | some i => match σ[i]? with
    | some (some v) => pure v
    | _ => stuck
  | none => stuck

noncomputable def isLocal (sc : Scope) (x : Str) : Bool := match sc.names.lookup x with
  | some .local | some .cell | some .free => true
  | _ => false
noncomputable def isGlob (sc : Scope) (x : Str) : Bool := match sc.names.lookup x with
  | some .globalImplicit => true
  | _ => false

noncomputable def constV : Const → M AV
  | .none => pure .none
  | .bool b => pure (.bool b)
  | .int i => pure (.int i)
  | .str s => pure (.str s)
  | _ => stuck

/-- raises nothing -/
noncomputable def noX {α : Type} (m : M α) : M α := fun H => match m H with
  | some (.ok a, H') => some (.ok a, H')
  | _ => none
noncomputable def compLoop (src : Src) (body : AV → M (Option AV)) : Nat → Nat → List AV → M (List AV)
  | 0, _, _ => stuck
  | f + 1, i, acc => do
    match ← src.get i with
    | none => pure acc
    | some v => do
      match ← noX (body v) with
      | none => compLoop src body f (i + 1) acc
      | some y => if acc.length < LIM then compLoop src body f (i + 1) (acc ++ [y]) else stuck

noncomputable def ifs1 (te : Expr → M Bool) : List Expr → M Bool
  | [] => pure true
  | [e] => te e
  | _ => stuck

noncomputable def strKey1 : Option Expr → Option Str
  | some (.Constant (.str k) _ _) => some k
  | _ => none
noncomputable def strKeys : List (Option Expr) → Option (List Str)
  | [] => some []
  | k :: r => (strKey1 k).bind fun x => (strKeys r).map (x :: ·)

noncomputable def intM (v : AV) : M Int := ofOpt (asI v)
noncomputable def sliceEnd (ev : Expr → M AV) : Option Expr → M (Option Int)
  | none => pure none
  | some e => do
    let v ← ev e
    let i ← intM v
    pure (some i)

/-- what is asked of a comprehension's scope: its own name is local, what is free lies in a cell around -/
noncomputable def compOk (sc : Scope) (ns : List Str) (scope : Scope) (x : Str) : Bool :=
  scope.kind == .function && scope.names.lookup x == some .local && !(ns.contains (".0" : Str)) &&
  scope.names.all fun (y, k) => match k with
    | .local => (y == x || y == (".0" : Str)) && scope.names.lookup y == some .local
    | .free => sc.names.lookup y == some .cell && ns.contains y
    | .globalImplicit => true
    | _ => false
noncomputable def plainBase : Expr → Bool
  | .Name _ _ => true
  | .Subscript _ _ _ => true
  | _ => false

noncomputable def isTL (t u : Str) : Bool := decide (t = ("tuple" : Str)) && decide (u = ("list" : Str))
/-- isinstance(v, (tuple, list)) -/
noncomputable def pIsiTL : AV → M Bool
  | .none => pure false
  | .bool _ => pure false
  | .int _ => pure false
  | .str _ => pure false
  | .tup _ => pure true
  | .lst _ => pure true
  | .loc l => do
    let _ ← listAt l
    pure true
  | _ => stuck

noncomputable def dName (P : Pg) (sc : Scope) (ns : List Str) (σ : Loc) (x : Str) : M AV :=
  if x == ("__debug__" : Str) || x == ("__classdict__" : Str) then stuck else if isLocal sc x then nameV ns x σ else if isGlob sc x then ofOpt (P.glob x) else stuck
noncomputable def dUn (ev : Expr → M AV) (op : UnaryOp) (x : Expr) : M AV := match op with
  | .USub => do let v ← ev x; pNeg v
  | .Not => do let v ← ev x; let b ← truth v; pure (.bool !b)
  | _ => stuck
noncomputable def dDict (ev : Expr → M AV) (keys : List (Option Expr)) (vals : List Expr) : M AV := match strKeys keys with
  | some ks => if ks.length = vals.length ∧ ks.length ≤ 15 ∧ ks ≠ [] ∧ ks.Nodup then do
      let vs ← evEach ev vals
      newD (ks.zip vs)
    else stuck
  | none => stuck
noncomputable def dSlice (ev : Expr → M AV) (mu : Bool) (o : Expr) (lo hi st : Option Expr) : M AV := match st with
  | none => do
    let ov ← ev o
    let a ← sliceEnd ev lo
    let b ← sliceEnd ev hi
    pSlice mu ov a b
  | some _ => stuck
noncomputable def dSub (ev : Expr → M AV) (mu : Bool) (o i : Expr) : M AV := match i with
  | .Slice lo hi st _ => dSlice ev mu o lo hi st
  | i => do
    let ov ← ev o
    let iv ← ev i
    pItem ov iv
noncomputable def nameOf1 : Expr → Option (Str × Pos)
  | .Name x p => some (x, p)
  | _ => none
noncomputable def compGen : List Comprehension → Option (Str × Expr × List Expr)
  | [g] => if g.is_async = 0 then (nameOf1 g.target).map fun x => (x.1, g.iter, g.ifs) else none
  | _ => none
noncomputable def pairN : List Expr → Option ((Str × Pos) × Str × Pos)
  | [a, b] => match nameOf1 a with
    | some x => (nameOf1 b).map fun y => (x, y)
    | none => none
  | _ => none
/-- f(..) with no keyword -/
noncomputable def callOf : Expr → Option (Str × List Expr)
  | .Call f args kws _ => match kws with
    | [] => (nameOf1 f).map fun x => (x.1, args)
    | _ => none
  | _ => none
noncomputable def isZip (sc : Scope) (args : List Expr) : Option (Expr × Expr) := match args with
  | [e] => match callOf e with
    | some (z, [x, y]) => if z = ("zip" : Str) ∧ isGlob sc z then some (x, y) else none
    | _ => none
  | _ => none
/-- isinstance(v, x), x a class of the text's exceptions, or ValueError -/
noncomputable def pIsX (P : Pg) (x : Str) : AV → M AV
  | .exc c => do
    let cs ← ofOpt (P.cls c)
    if x = ("ValueError" : Str) then pure (.bool true) else do
      let _ ← ofOpt (P.cls x)
      pure (.bool (decide (x = c) || cs.contains x))
  | _ => stuck
noncomputable def dIsX (P : Pg) (ev : Expr → M AV) (x : Str) (e : Expr) : M AV := if x = ("ValueError" : Str) ∨ (P.cls x).isSome then do
    let v ← ev e
    pIsX P x v
  else stuck
noncomputable def dIsi1 (P : Pg) (ev : Expr → M AV) (sc : Scope) (e : Expr) (t : Expr) : M AV := match t with
  | .Name t _ => if isGlob sc t then (match tyOf t with
    | some t => do
      let v ← ev e
      let b ← pIsi v t
      pure (.bool b)
    | none => dIsX P ev t e) else stuck
  | .Tuple es _ _ => match pairN es with
    | some (t, u) => if isTL t.1 u.1 && isGlob sc t.1 && isGlob sc u.1 then do
        let v ← ev e
        let b ← pIsiTL v
        pure (.bool b)
      else stuck
    | none => stuck
  | _ => stuck
noncomputable def dIsi (P : Pg) (ev : Expr → M AV) (sc : Scope) (args : List Expr) : M AV := match args with
  | [e, t] => if exOk e then dIsi1 P ev sc e t else stuck
  | _ => stuck
noncomputable def dBI (ev : Expr → M AV) (mu : Bool) (sc : Scope) (b : BI) (args : List Expr) : M AV := match (if b = .list then isZip sc args else none) with
  | some (x, y) => do
    let vs ← evEach ev [x, y]
    pZipL mu vs
  | none => do
    let vs ← evEach ev args
    pBI mu b vs
/-- these look at what is being handled -/
noncomputable def looksH : BI → Bool
  | .list => true
  | .min => true
  | .max => true
  | .any => true
  | _ => false
noncomputable def dCallN (P : Pg) (ev : Expr → M AV) (cf : Str → List AV → M AV) (mu : Bool) (sc : Scope) (f : Str) (args : List Expr) : M AV :=
  if isGlob sc f then (if f = ("isinstance" : Str) then dIsi P ev sc args else match biOf f with
    | some b => if P.free || !looksH b then dBI ev mu sc b args else stuck
    | none => if (P.fn f).isSome then do
        let vs ← evEach ev args
        cf f vs
      else stuck) else stuck
noncomputable def dCall (P : Pg) (ev : Expr → M AV) (cf : Str → List AV → M AV) (mu : Bool) (sc : Scope) (f : Expr) (args : List Expr) (p : Pos) : M AV := match f with
  | .Attribute o m ap => match mtOf m with
    | some k => if plainBase o && ap.endLine == p.line && decide (args.length ≤ 2) && args.all exOk then do
        let ov ← ev o
        let _ ← listOf ov
        let vs ← evAll ev args
        pMethK k ov vs
      else stuck
    | none => stuck
  | .Name f _ => dCallN P ev cf mu sc f args
  | _ => stuck

noncomputable def dComp (ev : Expr → M AV) (ec : Str → AV → Expr → M AV) (n : Nat) (mu : Bool) (sc : Scope) (ns : List Str) (scope : Scope) (elt : Expr) (gens : List Comprehension) : M AV := match compGen gens with
  | some (x, iter, ifs) => if compOk sc ns scope x && exOk iter then do
    let iv ← ev iter
    let src ← srcOf iv
    let ys ← compLoop src (fun v => do
      let t ← ifs1 (denT (ec x v) n) ifs
      if t then do
        let y ← ec x v elt
        pure (some y)
      else pure none) FUEL 0 []
    newL mu ys
    else stuck
  | none => stuck

noncomputable def den (P : Pg) (cf : Str → List AV → M AV) : Nat → Scope → List Str → Loc → Expr → M AV
  | 0, _, _, _, _ => stuck
  | n + 1, sc, ns, σ, e => match e with
    | .Constant c _ _ => constV c
    | .Name x _ => dName P sc ns σ x
    | .BoolOp op vs _ => bOp (den P cf n sc ns σ) op vs
    | .BinOp l op r p => do
      let a ← den P cf n sc ns σ l
      let b ← den P cf n sc ns σ r
      pBin (P.mu p) op a b
    | .UnaryOp op x _ => dUn (den P cf n sc ns σ) op x
    | .Compare l ops cs _ => do
      let a ← den P cf n sc ns σ l
      let b ← chain (den P cf n sc ns σ) a ops cs
      pure (.bool b)
    | .Tuple es _ _ => if es.length ≤ 100 then do let vs ← evEach (den P cf n sc ns σ) es; pure (.tup vs) else stuck
    | .List es p => do let vs ← evEach (den P cf n sc ns σ) es; newL (P.mu p) vs
    | .Dict ks vs _ => dDict (den P cf n sc ns σ) ks vs
    | .Subscript o i p => dSub (den P cf n sc ns σ) (P.mu p) o i
    | .ListComp elt gens scope p => dComp (den P cf n sc ns σ) (fun x v => den P cf n scope (x :: ns) (some v :: σ)) n (P.mu p) sc ns scope elt gens
    | .Call f args kws p => match kws with
      | [] => dCall P (den P cf n sc ns σ) cf (P.mu p) sc f args p
      | _ => stuck
    | _ => stuck

inductive Res where
  | next (σ : Loc)
  | ret (v : AV)

noncomputable def setN (ns : List Str) (x : Str) (v : AV) (σ : Loc) : M Loc := match ns.idxOf? x with
  | some i => pure (σ.set i (some v))
  | none => stuck

noncomputable def assignP (sc : Scope) (ns : List Str) (v : AV) (σ : Loc) (x y : Str) : M Loc := match v with
  | .tup vs => match vs with
    | [a, b] => if isLocal sc x && isLocal sc y then do
        let σ ← setN ns x a σ
        setN ns y b σ
      else stuck
    | _ => stuck
  | _ => stuck
noncomputable def assignTo (ev : Loc → Expr → M AV) (sc : Scope) (ns : List Str) (v : AV) (σ : Loc) : Expr → M Loc
  | .Name x _ => if isLocal sc x then setN ns x v σ else stuck
  | .Subscript o i _ => do
    let ov ← ev σ o
    let iv ← ev σ i
    pStore ov iv v
    pure σ
  | .Tuple es _ _ => match pairN es with
    | some (x, y) => assignP sc ns v σ x.1 y.1
    | none => stuck
  | _ => stuck

noncomputable def forLoop (src : Src) (body : AV → Loc → M Res) : Nat → Nat → Loc → M Res
  | 0, _, _ => stuck
  | f + 1, i, σ => do
    match ← src.get i with
    | none => pure (.next σ)
    | some v => do
      match ← body v σ with
      | .next σ' => forLoop src body f (i + 1) σ'
      | .ret w => pure (.ret w)

noncomputable def whileLoop (test : Loc → M Bool) (body : Loc → M Res) : Nat → Loc → M Res
  | 0, _ => stuck
  | f + 1, σ => do
    match ← test σ with
    | false => pure (.next σ)
    | true => do
      match ← body σ with
      | .next σ' => whileLoop test body f σ'
      | .ret w => pure (.ret w)

noncomputable def noComp : Expr → Bool
  | .ListComp _ _ _ _ => false
  | _ => true
noncomputable def isTupE : Expr → Bool
  | .Tuple _ _ _ => true
  | _ => false
noncomputable def pairOf : AV → M (AV × AV)
  | .tup [a, b] => pure (a, b)
  | _ => stuck

/-- e in enumerate(e) -/
noncomputable def enumArg (sc : Scope) (it : Expr) : Option Expr := match callOf it with
  | some (f, [e]) => if (f = ("enumerate" : Str) ∧ isGlob sc f = true) ∧ exOk e = true then some e else none
  | _ => none
/-- what is left of a block, behind one statement's answer -/
noncomputable def goOn (m : Loc → M Res) : Res → M Res
  | .next σ' => m σ'
  | .ret v => pure (.ret v)
noncomputable def bAssign (ev : Expr → M AV) (sc : Scope) (ns : List Str) (m : Loc → M Res) (σ : Loc) (e : Expr) (t : Expr) : M Res := match t with
  | .Name x _ => if isLocal sc x then do
      let v ← ev e
      let σ' ← setN ns x v σ
      m σ'
    else stuck
  | .Subscript o i _ => do
    let v ← ev e
    let ov ← ev o
    let iv ← ev i
    pStore ov iv v
    m σ
  | .Tuple es _ _ => match pairN es with
    | some (x, y) => if isTupE e || !isLocal sc x.1 || !isLocal sc y.1 then stuck else do
      let v ← ev e
      let p ← pairOf v
      let σ1 ← setN ns x.1 p.1 σ
      let σ2 ← setN ns y.1 p.2 σ1
      m σ2
    | none => stuck
  | _ => stuck
noncomputable def bFor (ev : Loc → Expr → M AV) (sc : Scope) (ns : List Str) (body : Loc → M Res) (m : Loc → M Res) (σ : Loc) (t it : Expr) : M Res := match t with
  | .Name x px => if exOk it then do
      let v ← ev σ it
      let src ← srcOf v
      let r ← forLoop src (fun v σ => do
        let σ' ← assignTo ev sc ns v σ (.Name x px)
        body σ') FUEL 0 σ
      goOn m r
    else stuck
  | .Tuple es k pt => match pairN es with
    | some (x, y) => match enumArg sc it with
      | some e => do
        let v ← ev σ e
        let _ ← listOf v
        let src ← srcOf v
        let r ← forLoop (.enum src) (fun v σ => do
          let σ' ← assignTo ev sc ns v σ (.Tuple [.Name x.1 x.2, .Name y.1 y.2] k pt)
          body σ') FUEL 0 σ
        goOn m r
      | none => stuck
    | none => stuck
  | _ => stuck

noncomputable def isStrC : Expr → Bool
  | .Constant (.str _) _ _ => true
  | _ => false
noncomputable def oneStr : List Expr → Bool
  | [e] => isStrC e
  | _ => false
/-- raise x('..') -/
noncomputable def raiseOf (sc : Scope) (P : Pg) : Option Expr → Option Str
  | some e => match callOf e with
    | some (x, args) => if oneStr args && isGlob sc x && (P.cls x).isSome && P.free then some x else none
    | none => none
  | none => none
noncomputable def throwM {α : Type} (x : Str) : M α := fun H => some (.error x, H)
noncomputable def bRaise (sc : Scope) (P : Pg) (e c : Option Expr) : M Res := match c with
  | none => match raiseOf sc P e with
    | some x => throwM x
    | none => stuck
  | some _ => stuck
noncomputable def denB (P : Pg) (cf : Str → List AV → M AV) (sc : Scope) (ns : List Str) : Nat → List Stmt → Loc → M Res
  | _, [], σ => pure (.next σ)
  | 0, _ :: _, _ => stuck
  | n + 1, s :: rest, σ => match s with
    | .Pass _ => denB P cf sc ns n rest σ
    | .Return v _ => match v with
      | none => pure (.ret .none)
      | some e => do let v ← den P cf n sc ns σ e; pure (.ret v)
    | .Expr e _ => if noComp e then do
        let _ ← den P cf n sc ns σ e
        denB P cf sc ns n rest σ
      else stuck
    | .Assign ts e _ => match ts with
      | [t] => if P.free || !isTupE t then bAssign (den P cf n sc ns σ) sc ns (denB P cf sc ns n rest) σ e t else stuck
      | _ => stuck
    | .If t b o _ => do
      let c ← denT (den P cf n sc ns σ) n t
      match c with
      | true => do
        let r ← denB P cf sc ns n b σ
        goOn (denB P cf sc ns n rest) r
      | false => do
        let r ← denB P cf sc ns n o σ
        goOn (denB P cf sc ns n rest) r
    | .For t it b o _ => match o with
      | [] => if P.free then bFor (fun σ e => den P cf n sc ns σ e) sc ns (denB P cf sc ns n b) (denB P cf sc ns n rest) σ t it else stuck
      | _ => stuck
    | .While t b o _ => match o with
      | [] => do
        let r ← whileLoop (fun σ => denT (den P cf n sc ns σ) n t) (denB P cf sc ns n b) FUEL σ
        goOn (denB P cf sc ns n rest) r
      | _ => stuck
    | .Raise e c _ => bRaise sc P e c
    | _ => stuck

noncomputable def EFUEL : Nat := 40

/-- a block that binds no name -/
noncomputable def tBody (ev : Expr → M AV) : Nat → List Stmt → M Unit
  | _, [] => pure ()
  | 0, _ :: _ => stuck
  | n + 1, s :: rest => match s with
    | .Expr e _ => if noComp e then do
        let _ ← ev e
        tBody ev n rest
      else stuck
    | .If t b o _ => do
      let c ← denT ev n t
      match c with
      | true => do
        tBody ev n b
        tBody ev n rest
      | false => do
        tBody ev n o
        tBody ev n rest
    | _ => stuck
/-- try: body, except ty as nm: hb; rest -/
structure TryF where
  body : List Stmt
  ty : Str
  tp : Pos
  nm : Str
  h0 : Stmt
  hs : List Stmt
  hp : Pos
  pos : Pos
  rest : List Stmt
noncomputable def TryF.st (t : TryF) : List Stmt := .Try t.body [.ExceptHandler (some (.Name t.ty t.tp)) (some t.nm) (t.h0 :: t.hs) t.hp] [] [] t.pos :: t.rest
noncomputable def tryH (body rest : List Stmt) (pos : Pos) : ExceptHandler → Option TryF
  | .ExceptHandler ty nm hb hp => match ty with
    | some e => match nameOf1 e with
      | some x => match nm with
        | some n => match hb with
          | h0 :: hs => some ⟨body, x.1, x.2, n, h0, hs, hp, pos, rest⟩
          | [] => none
        | none => none
      | none => none
    | none => none
noncomputable def tryS (rest : List Stmt) : Stmt → Option TryF
  | .Try body hs o f p => match hs with
    | [h] => match o with
      | [] => match f with
        | [] => tryH body rest p h
        | _ => none
      | _ => none
    | _ => none
  | _ => none
noncomputable def tryOf : List Stmt → Option TryF
  | s :: rest => tryS rest s
  | [] => none
noncomputable def resV : Res → M AV
  | .ret v => pure v
  | .next _ => pure .none
noncomputable def onlyRet : Res → M AV
  | .ret v => pure v
  | .next _ => stuck
/-- the handler's part: x has been raised -/
noncomputable def tryHand (P : Pg) (ch : Str → List AV → M AV) (sc : Scope) (ns : List Str) (t : TryF) (σ : Loc) (x : Str) : M AV := do
  let cs ← ofOpt (P.cls x)
  let _ ← ofOpt (P.cls t.ty)
  if (decide (t.ty = x) || cs.contains t.ty) && isGlob sc t.ty && (decide (sc.names.lookup t.nm = some .local) || decide (sc.names.lookup t.nm = some .cell)) then do
    let σ' ← setN ns t.nm (.exc x) σ
    let r ← noX (denB P.off ch sc ns EFUEL (t.h0 :: t.hs) σ')
    onlyRet r
  else stuck
noncomputable def tryRun (P : Pg) (cf ch : Str → List AV → M AV) (sc : Scope) (ns : List Str) (t : TryF) (σ : Loc) : M AV := fun H => match tBody (den P cf EFUEL sc ns σ) EFUEL t.body H with
  | some (.ok _, H') => (do let r ← denB P cf sc ns EFUEL t.rest σ; resV r : M AV) H'
  | some (.error x, H') => tryHand P ch sc ns t σ x H'
  | none => none
noncomputable def bodyRun (P : Pg) (cf ch : Str → List AV → M AV) (sc : Scope) (ns : List Str) (body : List Stmt) (σ : Loc) : M AV := match tryOf body with
  | some t => tryRun P cf ch sc ns t σ
  | none => do
    let r ← denB P cf sc ns EFUEL body σ
    resV r
/-- a call of one of the text's own defs, n calls deep at most -/
noncomputable def cN : Nat → Pg → Str → List AV → M AV
  | 0, _, _, _ => stuck
  | n + 1, P, f, args => match P.fn f with
    | none => stuck
    | some fn =>
      if args.length = fn.params.length then bodyRun P (cN n P) (cN n P.off) fn.scope fn.names fn.body (args.map some ++ List.replicate (fn.names.length - args.length) none)
      else stuck
noncomputable abbrev callP (P : Pg) (n : Nat) : Str → List AV → M AV := cN n P

noncomputable def fnChk (fn : Fn) : Bool :=
  fn.scope.kind == .function && !fn.scope.isCoroutine && !fn.scope.isGenerator &&
  (fn.scope.names.all fun (_, k) => k == .local || k == .cell || k == .globalImplicit) &&
  decide (fn.params.Nodup) && fn.names.take fn.params.length == fn.params &&
  fn.params.all fun x => fn.scope.names.lookup x == some .local || fn.scope.names.lookup x == some .cell

end Mine


set_option autoImplicit false
set_option linter.unusedVariables false
namespace Mine
open PySem PyProof.Rows

/-- the fixed part of a run: program, world, the heap ahead of the law's call -/
structure Cx where
  prog : Program
  w : World
  h₀ : Heap
  os₀ : OsState
  mg : Str → Option Value
  mb : Str → Option Value
  /-- the outer calls' frames -/
  fr : List Addr
  /-- the exception that is being handled -/
  hd : Option Addr

/-- where a run stands: ι the abstract heap's addresses, π the private objects (frames' dicts, cells, iterators, lists in the making) -/
structure Wl where
  ι : List Addr
  π : List Addr
  s : Shared
def No : Addr → Prop := fun _ => False
/-- what is neither mutable nor private is frozen -/
structure Lv (w w' : Wl) : Prop where
  pre : w.ι <+: w'.ι
  fz : ∀ b o, w.s.heap.get? b = some o → b ∉ w.ι → b ∉ w.π → w'.s.heap.get? b = some o ∧ b ∉ w'.ι ∧ b ∉ w'.π
/-- as it was; but a frame's dict may turn in its slots -/
def UpS (cx : Cx) (b : Addr) (o : Obj) (r : Option Obj) : Prop := ∃ sl, r = some { o with slots := sl } ∧ ((b ∈ cx.fr ∧ ∃ es ep, o.data = .dict es ep) ∨ sl = o.slots)
section
variable {cx : Cx} {b : Addr} {o : Obj} {r r' : Option Obj}
theorem UpS.of (e : r = some o) : UpS cx b o r := ⟨o.slots, e, .inr rfl⟩
theorem UpS.trans (x : UpS cx b o r) (y : ∀ q, r = some q → UpS cx b q r') : UpS cx b o r' := by
  obtain ⟨sl, e, h⟩ := x
  obtain ⟨sl', e', h'⟩ := y _ e
  refine ⟨sl', e', h'.elim (fun z => .inl z) fun z => h.imp id fun z' => ?_⟩
  exact z.trans z'
theorem UpS.nd (x : UpS cx b o r) (h : ∀ es ep, o.data ≠ .dict es ep) : r = some o := by
  obtain ⟨sl, e, h'⟩ := x
  rcases h' with ⟨_, es, ep, z⟩ | z
  · exact (h es ep z).elim
  · rw [e, z]
theorem UpS.nf (x : UpS cx b o r) (h : b ∉ cx.fr) : r = some o := by
  obtain ⟨sl, e, h'⟩ := x
  rcases h' with ⟨z, _⟩ | z
  · exact (h z).elim
  · rw [e, z]
theorem UpS.ns {h h' : Heap} {m : Str → Option Value} (hn : h.Ns b m) (x : ∀ o, h.get? b = some o → UpS cx b o (h'.get? b)) : h'.Ns b m := by
  obtain ⟨o, es, ep, ho, hd, q⟩ := hn
  obtain ⟨sl, e, _⟩ := x o ho
  exact ⟨_, es, ep, e, hd, q⟩
end
/-- what may turn: ι's objects, and of the private ones those of p -/
structure Le (cx : Cx) (p : Addr → Prop) (w w' : Wl) : Prop extends Lv w w' where
  pv : ∀ b, b ∈ w.π → ¬ p b → b ∈ w'.π
  kp : ∀ b o, b ∈ w.π → ¬ p b → w.s.heap.get? b = some o → UpS cx b o (w'.s.heap.get? b)
def Fz (w : Wl) (b : Addr) : Prop := b ∉ w.ι ∧ b ∉ w.π

theorem Le.refl {cx : Cx} {p : Addr → Prop} (w : Wl) : Le cx p w w := ⟨⟨List.prefix_refl _, fun _ _ e h1 h2 => ⟨e, h1, h2⟩⟩, fun _ h _ => h, fun _ _ _ _ e => .of e⟩
theorem Lv.trans {a b c : Wl} (x : Lv a b) (y : Lv b c) : Lv a c := ⟨x.pre.trans y.pre, fun d o e h1 h2 => let q := x.fz d o e h1 h2; y.fz d o q.1 q.2.1 q.2.2⟩
theorem Le.trans {cx : Cx} {p : Addr → Prop} {a b c : Wl} (x : Le cx p a b) (y : Le cx p b c) : Le cx p a c where
  toLv := x.toLv.trans y.toLv
  pv := fun d h q => y.pv d (x.pv d h q) q
  kp := fun d o h1 h2 e => (x.kp d o h1 h2 e).trans fun q e' => y.kp d q (x.pv d h1 h2) h2 e'
theorem Le.weak {cx : Cx} {p q : Addr → Prop} {a b : Wl} (x : Le cx p a b) (h : ∀ d, d ∈ a.π → p d → q d) : Le cx q a b := ⟨x.toLv, fun d h1 h2 => x.pv d h1 fun z => h2 (h d h1 z), fun d o h1 h2 e => x.kp d o h1 (fun z => h2 (h d h1 z)) e⟩
theorem Le.no {cx : Cx} {p : Addr → Prop} {a b : Wl} (x : Le cx No a b) : Le cx p a b := x.weak fun _ _ z => z.elim
/-- the exception that is being handled: it was raised while none was -/
def HdAt (w : Wl) (a : Addr) : Prop := Fz w a ∧ ∃ o vs, w.s.heap.get? a = some o ∧ o.data = .fields vs ∧ vs[2]? = some .none
def HdW (cx : Cx) (w : Wl) : Prop := ∀ a, cx.hd = some a → HdAt w a
theorem HdAt.lv {w w' : Wl} {a : Addr} (x : Lv w w') (h : HdAt w a) : HdAt w' a := let ⟨h1, o, vs, h2, h3⟩ := h; let q := x.fz a o h2 h1.1 h1.2; ⟨q.2, o, vs, q.1, h3⟩
theorem HdW.lv {cx : Cx} {w w' : Wl} (x : Lv w w') (h : HdW cx w) : HdW cx w' := fun a e => (h a e).lv x
/-- every old object stays -/
theorem Lv.keeps {w : Wl} {s' : Shared} (hk : ∀ b o, w.s.heap.get? b = some o → s'.heap.get? b = some o) : Lv w ⟨w.ι, w.π, s'⟩ := ⟨List.prefix_refl _, fun b o e h1 h2 => ⟨hk b o e, h1, h2⟩⟩
theorem Le.keeps {cx : Cx} {p : Addr → Prop} {w : Wl} {s' : Shared} (hk : ∀ b o, w.s.heap.get? b = some o → s'.heap.get? b = some o) : Le cx p w ⟨w.ι, w.π, s'⟩ :=
  ⟨.keeps hk, fun _ h _ => h, fun b o _ _ e => .of (hk b o e)⟩
theorem Le.tok {cx : Cx} {p : Addr → Prop} {w : Wl} (t : Nat) : Le cx p w ⟨w.ι, w.π, { w.s with toks := t }⟩ := .keeps fun _ _ e => e

/-- strs of the text -/
def StrVs : List Str → List Value → Prop
  | [], vs => vs = []
  | x :: r, vs => ∃ t us, vs = .str x t :: us ∧ StrVs r us
mutual
/-- the value that a is, in w -/
noncomputable def VR (cx : Cx) (w : Wl) : AV → Value → Prop
  | .none, v => v = .none
  | .bool b, v => v = .bool b
  | .int i, v => ∃ t, v = .int i t
  | .str x, v => ∃ t, v = .str x t
  | .tup xs, v => ∃ a vs n, v = .ref a ∧ IsT w.s.heap a vs n ∧ Fz w a ∧ xs.length ≤ LIM ∧ VRs cx w xs vs.toList
  | .lst xs, v => ∃ a vs n, v = .ref a ∧ IsL w.s.heap a vs n ∧ Fz w a ∧ xs.length ≤ LIM ∧ VRs cx w xs vs.toList
  | .loc l, v => ∃ a, v = .ref a ∧ w.ι[l]? = some a
  | .range a b, v => ∃ r t u x, v = .ref r ∧ IsRange w.s.heap r a b 1 t u x ∧ Fz w r
  | .cdict es, v => ∃ d kvs, v = .ref d ∧ w.s.heap.DictOf (strKind cx.prog cx.w) d kvs ∧ Fz w d ∧ kvs.map (·.1) = es.map (·.1) ∧ StrVs (es.map (·.2)) (kvs.map (·.2))
  | .exc c, v => ∃ a o C, v = .ref a ∧ w.s.heap.get? a = some o ∧ Fz w a ∧ o.cls = .ref C ∧ cx.mg c = some (.ref C)
noncomputable def VRs (cx : Cx) (w : Wl) : List AV → List Value → Prop
  | [], vs => vs = []
  | a :: r, vs => ∃ v us, vs = v :: us ∧ VR cx w a v ∧ VRs cx w r us
end
section
variable {cx : Cx} {w w' : Wl} {p : Addr → Prop}
theorem VR.none : VR cx w .none .none := rfl
theorem VR.bool {b : Bool} : VR cx w (.bool b) (.bool b) := rfl
theorem VR.int {i : Int} {t : Tok} : VR cx w (.int i) (.int i t) := ⟨t, rfl⟩
theorem VR.str {x : Str} {t : Tok} : VR cx w (.str x) (.str x t) := ⟨t, rfl⟩
theorem VR.tup {a : Addr} {vs : Array Value} {n : Nat} {xs : List AV} (h1 : IsT w.s.heap a vs n) (h2 : Fz w a) (h3 : xs.length ≤ LIM) (h4 : VRs cx w xs vs.toList) : VR cx w (.tup xs) (.ref a) := ⟨a, vs, n, rfl, h1, h2, h3, h4⟩
theorem VR.lst {a : Addr} {vs : Array Value} {n : Nat} {xs : List AV} (h1 : IsL w.s.heap a vs n) (h2 : Fz w a) (h3 : xs.length ≤ LIM) (h4 : VRs cx w xs vs.toList) : VR cx w (.lst xs) (.ref a) := ⟨a, vs, n, rfl, h1, h2, h3, h4⟩
theorem VR.loc {l : Nat} {a : Addr} (h : w.ι[l]? = some a) : VR cx w (.loc l) (.ref a) := ⟨a, rfl, h⟩
theorem VRs.nil : VRs cx w [] [] := rfl
theorem VRs.cons {a : AV} {v : Value} {xs : List AV} {vs : List Value} (h1 : VR cx w a v) (h2 : VRs cx w xs vs) : VRs cx w (a :: xs) (v :: vs) := ⟨v, vs, rfl, h1, h2⟩

-- what a value of a known shape is
@[elab_as_elim] theorem VR.noneE {v : Value} {C : Value → Prop} (r : VR cx w .none v) (k : C .none) : C v := (show v = .none from r) ▸ k
@[elab_as_elim] theorem VR.boolE {b : Bool} {v : Value} {C : Value → Prop} (r : VR cx w (.bool b) v) (k : C (.bool b)) : C v := (show v = .bool b from r) ▸ k
@[elab_as_elim] theorem VR.intE {i : Int} {v : Value} {C : Value → Prop} (r : VR cx w (.int i) v) (k : ∀ t, C (.int i t)) : C v := let ⟨t, e⟩ := r; e ▸ k t
@[elab_as_elim] theorem VR.strE {x : Str} {v : Value} {C : Value → Prop} (r : VR cx w (.str x) v) (k : ∀ t, C (.str x t)) : C v := let ⟨t, e⟩ := r; e ▸ k t
@[elab_as_elim] theorem VR.tupE {xs : List AV} {v : Value} {C : Value → Prop} (r : VR cx w (.tup xs) v) (k : ∀ a vs n, IsT w.s.heap a vs n → Fz w a → xs.length ≤ LIM → VRs cx w xs vs.toList → C (.ref a)) : C v := let ⟨a, vs, n, e, h1, h2, h3, h4⟩ := r; e ▸ k a vs n h1 h2 h3 h4
@[elab_as_elim] theorem VR.lstE {xs : List AV} {v : Value} {C : Value → Prop} (r : VR cx w (.lst xs) v) (k : ∀ a vs n, IsL w.s.heap a vs n → Fz w a → xs.length ≤ LIM → VRs cx w xs vs.toList → C (.ref a)) : C v := let ⟨a, vs, n, e, h1, h2, h3, h4⟩ := r; e ▸ k a vs n h1 h2 h3 h4
@[elab_as_elim] theorem VR.locE {l : Nat} {v : Value} {C : Value → Prop} (r : VR cx w (.loc l) v) (k : ∀ a, w.ι[l]? = some a → C (.ref a)) : C v := let ⟨a, e, h⟩ := r; e ▸ k a h
@[elab_as_elim] theorem VR.rangeE {a b : Int} {v : Value} {C : Value → Prop} (r : VR cx w (.range a b) v) (k : ∀ d t u x, IsRange w.s.heap d a b 1 t u x → Fz w d → C (.ref d)) : C v := let ⟨d, t, u, x, e, h1, h2⟩ := r; e ▸ k d t u x h1 h2
@[elab_as_elim] theorem VRs.nilE {vs : List Value} {C : List Value → Prop} (r : VRs cx w [] vs) (k : C []) : C vs := (show vs = [] from r) ▸ k
@[elab_as_elim] theorem VRs.consE {a : AV} {xs : List AV} {vs : List Value} {C : List Value → Prop} (r : VRs cx w (a :: xs) vs) (k : ∀ v us, VR cx w a v → VRs cx w xs us → C (v :: us)) : C vs := let ⟨v, us, e, h1, h2⟩ := r; e ▸ k v us h1 h2

theorem prefix_get {α : Type} {l l' : List α} (h : l <+: l') {i : Nat} {a : α} (e : l[i]? = some a) : l'[i]? = some a := by
  obtain ⟨t, rfl⟩ := h
  rw [List.getElem?_append_left (List.getElem?_eq_some_iff.mp e).1]; exact e
theorem DictOf.at' {h h' : Heap} {d : Addr} {kvs : List (Str × Value)} (x : h.DictOf (strKind cx.prog cx.w) d kvs) (e : ∀ o, h.get? d = some o → h'.get? d = some o) :
    h'.DictOf (strKind cx.prog cx.w) d kvs := let ⟨o, es, ep, ho, r⟩ := x; ⟨o, es, ep, e o ho, r⟩
theorem DictOf.obj {h : Heap} {d : Addr} {kvs : List (Str × Value)} (x : h.DictOf (strKind cx.prog cx.w) d kvs) : ∃ o, h.get? d = some o := let ⟨o, _, _, ho, _⟩ := x; ⟨o, ho⟩
theorem Lv.fz' (x : Lv w w') {b : Addr} {o : Obj} (e : w.s.heap.get? b = some o) (h : Fz w b) : w'.s.heap.get? b = some o ∧ Fz w' b := x.fz b o e h.1 h.2
mutual
theorem VR.lv (x : Lv w w') : ∀ {a : AV} {v : Value}, VR cx w a v → VR cx w' a v
  | .none, _, h => h
  | .bool _, _, h => h
  | .int _, _, h => h
  | .str _, _, h => h
  | .tup _, _, ⟨a, vs, n, e, h1, h2, h3, h4⟩ => ⟨a, vs, n, e, (x.fz' h1 h2).1, (x.fz' h1 h2).2, h3, VRs.lv x h4⟩
  | .lst _, _, ⟨a, vs, n, e, h1, h2, h3, h4⟩ => ⟨a, vs, n, e, (x.fz' h1 h2).1, (x.fz' h1 h2).2, h3, VRs.lv x h4⟩
  | .loc _, _, ⟨a, e, h⟩ => ⟨a, e, prefix_get x.pre h⟩
  | .range _ _, _, ⟨d, t, u, y, e, h1, h2⟩ => ⟨d, t, u, y, e, (x.fz' h1 h2).1, (x.fz' h1 h2).2⟩
  | .cdict _, _, ⟨d, kvs, e, h1, h2, h3, h4⟩ => ⟨d, kvs, e, DictOf.at' h1 fun o q => (x.fz' q h2).1, let ⟨_, q⟩ := DictOf.obj h1; (x.fz' q h2).2, h3, h4⟩
  | .exc _, _, ⟨a, o, C, e, h1, h2, h3⟩ => ⟨a, o, C, e, (x.fz' h1 h2).1, (x.fz' h1 h2).2, h3⟩
theorem VRs.lv (x : Lv w w') : ∀ {xs : List AV} {vs : List Value}, VRs cx w xs vs → VRs cx w' xs vs
  | [], _, h => h
  | _ :: _, _, ⟨v, us, e, h1, h2⟩ => ⟨v, us, e, VR.lv x h1, VRs.lv x h2⟩
end
theorem VR.mono (x : Le cx p w w') {a : AV} {v : Value} (r : VR cx w a v) : VR cx w' a v := r.lv x.toLv
theorem VRs.mono (x : Le cx p w w') {a : List AV} {v : List Value} (r : VRs cx w a v) : VRs cx w' a v := r.lv x.toLv
namespace VRs
theorem length : ∀ {xs : List AV} {vs : List Value}, VRs cx w xs vs → xs.length = vs.length
  | [], _, h => by rw [show _ = [] from h]; rfl
  | _ :: _, _, ⟨_, _, e, _, h⟩ => by rw [e, List.length_cons, List.length_cons, h.length]
theorem get : ∀ {xs : List AV} {vs : List Value}, VRs cx w xs vs → ∀ {i : Nat} {a : AV}, xs[i]? = some a → ∃ v, vs[i]? = some v ∧ VR cx w a v
  | [], _, _, _, _, e => by cases e
  | _ :: _, _, ⟨v, _, q, h1, _⟩, 0, _, e => by cases e; rw [q]; exact ⟨v, rfl, h1⟩
  | _ :: _, _, ⟨_, _, q, _, h2⟩, i + 1, _, e => by rw [q]; exact h2.get (i := i) e
theorem append : ∀ {xs ys : List AV} {vs ws : List Value}, VRs cx w xs vs → VRs cx w ys ws → VRs cx w (xs ++ ys) (vs ++ ws)
  | [], _, _, _, h, y => by rw [show _ = [] from h]; exact y
  | _ :: _, _, _, _, ⟨v, us, q, h1, h2⟩, y => by rw [q]; exact ⟨v, _, rfl, h1, h2.append y⟩
theorem drop : ∀ {xs : List AV} {vs : List Value} (n : Nat), VRs cx w xs vs → VRs cx w (xs.drop n) (vs.drop n)
  | _, _, 0, x => x
  | [], _, _ + 1, h => by rw [show _ = [] from h]; exact .nil
  | _ :: _, _, n + 1, ⟨_, _, q, _, h2⟩ => by rw [q]; exact h2.drop n
theorem take : ∀ {xs : List AV} {vs : List Value} (n : Nat), VRs cx w xs vs → VRs cx w (xs.take n) (vs.take n)
  | _, _, 0, _ => .nil
  | [], _, _ + 1, h => by rw [show _ = [] from h]; exact .nil
  | _ :: _, _, n + 1, ⟨_, _, q, h1, h2⟩ => by rw [q]; exact .cons h1 (h2.take n)
theorem set : ∀ {xs : List AV} {vs : List Value} (n : Nat) {a : AV} {v : Value}, VRs cx w xs vs → VR cx w a v → VRs cx w (xs.set n a) (vs.set n v)
  | [], _, _, _, _, h, _ => by rw [show _ = [] from h]; exact .nil
  | _ :: _, _, 0, _, _, ⟨_, _, q, _, h2⟩, y => by rw [q]; exact .cons y h2
  | _ :: _, _, n + 1, _, _, ⟨_, _, q, h1, h2⟩, y => by rw [q]; exact .cons h1 (h2.set n y)
theorem eraseIdx : ∀ {xs : List AV} {vs : List Value} (n : Nat), VRs cx w xs vs → VRs cx w (xs.eraseIdx n) (vs.eraseIdx n)
  | [], _, _, h => by rw [show _ = [] from h]; exact .nil
  | _ :: _, _, 0, ⟨_, _, q, _, h2⟩ => by rw [q]; exact h2
  | _ :: _, _, n + 1, ⟨_, _, q, h1, h2⟩ => by rw [q]; exact .cons h1 (h2.eraseIdx n)
theorem rep {xs : List AV} {vs : List Value} (x : VRs cx w xs vs) : ∀ k : Nat, VRs cx w (List.replicate k xs).flatten (List.replicate k vs).flatten
  | 0 => .nil
  | k + 1 => by rw [List.replicate_succ, List.replicate_succ, List.flatten_cons, List.flatten_cons]; exact x.append (rep x k)
theorem size {xs : List AV} {vs : Array Value} (x : VRs cx w xs vs.toList) : vs.size = xs.length := by rw [x.length]; rfl
end VRs

/-- a mutable object of the abstract heap, at its address -/
def OR (cx : Cx) (w : Wl) (a : Addr) : AO → Prop
  | .list xs => ∃ vs n, IsL w.s.heap a vs n ∧ xs.length ≤ LIM ∧ VRs cx w xs vs.toList
  | .dict es => ∃ kvs, w.s.heap.DictOf (strKind cx.prog cx.w) a kvs ∧ ((a == sysModules) = false ∧ es.length ≤ LIM) ∧ kvs.map (·.1) = es.map (·.1) ∧ VRs cx w (es.map (·.2)) (kvs.map (·.2))
theorem OR.keep (x : Lv w w') {a : Addr} (e : ∀ q, w.s.heap.get? a = some q → w'.s.heap.get? a = some q) : ∀ {o : AO}, OR cx w a o → OR cx w' a o
  | .list _, ⟨vs, n, h1, h2, h3⟩ => ⟨vs, n, e _ h1, h2, h3.lv x⟩
  | .dict _, ⟨kvs, h1, h2, h3, h4⟩ => ⟨kvs, DictOf.at' h1 e, h2, h3, h4.lv x⟩
theorem OR.obj {a : Addr} : ∀ {o : AO}, OR cx w a o → ∃ q, w.s.heap.get? a = some q
  | .list _, ⟨_, _, h1, _⟩ => ⟨_, h1⟩
  | .dict _, ⟨_, h1, _⟩ => DictOf.obj h1
structure St (cx : Cx) (w : Wl) (H : AHeap) : Prop where
  base : ∀ b o, cx.h₀.get? b = some o → w.s.heap.get? b = some o ∧ b ∉ w.ι ∧ b ∉ w.π
  len : w.ι.length = H.length
  nodup : w.ι.Nodup
  dj : ∀ a ∈ w.ι, a ∉ w.π
  pvx : ∀ a ∈ w.π, ∃ o, w.s.heap.get? a = some o
  own : ∀ (l : Nat) (a : Addr) (o : AO), w.ι[l]? = some a → H[l]? = some o → OR cx w a o
  gens : w.s.gens = #[]
  os : w.s.os = cx.os₀
  sysm : ∃ o, cx.h₀.get? cStatics = some o
end
end Mine


set_option autoImplicit false
set_option linter.unusedVariables false
namespace Mine
open PySem PyProof.Rows

/-- the exception that x stands for, its object private and new (n), and the entry of its traceback -/
def XF (vs : Array Value) : Prop := vs[1]? = some .none
def XT (n : Addr → Prop) (w : Wl) (a : Addr) (vs : Array Value) : Prop := ∃ T o ts fl, vs[1]? = some (.ref T) ∧ T ∈ w.π ∧ (T ≠ a ∧ n T) ∧ w.s.heap.get? T = some o ∧ o.data = .fields ts ∧ ts[3]? = some fl
structure XA (cx : Cx) (n : Addr → Prop) (w : Wl) (x : Str) (e : Value) (a : Addr) (o : Obj) (vs : Array Value) : Prop where
  ref : e = .ref a
  pv : a ∈ w.π
  new : n a
  at' : w.s.heap.get? a = some o
  data : o.data = .fields vs
  cls : ∃ C, o.cls = .ref C ∧ cx.mg x = some (.ref C)
  zero : ∃ v, vs[0]? = some v
  two : vs[2]? = some .none
/-- a frame's dict -/
def FrAt (w : Wl) (b : Addr) : Prop := b ∈ w.π ∧ ∃ o es ep, w.s.heap.get? b = some o ∧ o.data = .dict es ep
def XR (cx : Cx) (n : Addr → Prop) (w : Wl) (x : Str) (e : Value) : Prop := (∀ b, b ∈ cx.fr → FrAt w b) ∧ ∃ a o vs, XA cx n w x e a o vs ∧ (XF vs ∨ XT n w a vs)
theorem XA.mono {cx : Cx} {n n' : Addr → Prop} {w : Wl} {x : Str} {e : Value} {a : Addr} {o : Obj} {vs : Array Value} (X : XA cx n w x e a o vs) (h : ∀ b, n b → n' b) : XA cx n' w x e a o vs := ⟨X.ref, X.pv, h _ X.new, X.at', X.data, X.cls, X.zero, X.two⟩
theorem XT.mono {n n' : Addr → Prop} {w : Wl} {a : Addr} {vs : Array Value} (X : XT n w a vs) (h : ∀ b, n b → n' b) : XT n' w a vs := let ⟨T, o, ts, fl, h1, h2, h3, h4⟩ := X; ⟨T, o, ts, fl, h1, h2, ⟨h3.1, h _ h3.2⟩, h4⟩
theorem XR.mono {cx : Cx} {n n' : Addr → Prop} {w : Wl} {x : Str} {e : Value} (X : XR cx n w x e) (h : ∀ b, n b → n' b) : XR cx n' w x e := let ⟨h1, a, o, vs, h2, h3⟩ := X; ⟨h1, a, o, vs, h2.mono h, h3.imp id fun z => z.mono h⟩
/-- new since w -/
def Nw (p : Addr → Prop) (w : Wl) (b : Addr) : Prop := b ∉ w.π ∧ ¬ p b
/-- behind a run: the world w', with R between the answers -/
def Post (cx : Cx) (p : Addr → Prop) (w : Wl) {α β : Type} (R : Wl → α → β → Prop) (r : Except Str α) (H' : AHeap) (b : β) (s' : Shared) : Prop :=
  ∃ ι π a, r = .ok a ∧ Le cx p w ⟨ι, π, s'⟩ ∧ St cx ⟨ι, π, s'⟩ H' ∧ R ⟨ι, π, s'⟩ a b
def PostX (cx : Cx) (p : Addr → Prop) (w : Wl) {α : Type} (r : Except Str α) (H' : AHeap) (e : Value) (s' : Shared) : Prop :=
  ∃ ι π x, r = .error x ∧ Le cx p w ⟨ι, π, s'⟩ ∧ St cx ⟨ι, π, s'⟩ H' ∧ XR cx (Nw p w) ⟨ι, π, s'⟩ x e ∧ ∀ b, p b → b ∈ π
/-- t does in w what m does -/
def Rf (cx : Cx) (A : Around) (p : Addr → Prop) (w : Wl) {α β : Type} (R : Wl → α → β → Prop) (m : M α) (t : Sem β) : Prop :=
  ∀ H, St cx w H → ∀ r H', m H = some (r, H') → wpAny (model cx.prog cx.w) A t (Post cx p w R r H') (PostX cx p w r H') w.s

theorem pure_some {α : Type} {a : α} {r : Except Str α} {H H' : AHeap} (h : (pure a : M α) H = some (r, H')) : r = .ok a ∧ H' = H := by
  change some (Except.ok a, H) = some (r, H') at h; cases h; exact ⟨rfl, rfl⟩
theorem bindM {α β : Type} (m : M α) (f : α → M β) (H : AHeap) : (m >>= f) H = (m H).bind fun q => match q.1 with
    | .ok a => f a q.2
    | .error x => some (.error x, q.2) := by
  show Option.bind (m H) _ = _
  congr 1
  funext q
  obtain ⟨r, H1⟩ := q
  cases r <;> rfl
theorem bind_inv {α β : Type} {m : M α} {f : α → M β} {H : AHeap} {r : Except Str β} {H'' : AHeap} {C : Prop} (h : (m >>= f) H = some (r, H'')) (k : ∀ a H', m H = some (.ok a, H') → f a H' = some (r, H'') → C)
    (kx : ∀ x, m H = some (.error x, H'') → r = .error x → C) : C := by
  rw [bindM] at h
  cases hm : m H with
  | none => rw [hm] at h; cases h
  | some q =>
    rw [hm] at h
    obtain ⟨r1, H1⟩ := q
    cases r1 with
    | ok a => exact k a H1 hm h
    | error x => cases h; exact kx x hm rfl

section
variable {cx : Cx} {A : Around} {p : Addr → Prop} {w : Wl} {α β γ δ : Type} {R : Wl → α → β → Prop} {R' : Wl → γ → δ → Prop} {m : M α} {t : Sem β} {f : α → M γ} {k : β → Sem δ}
theorem Rf.stuck : Rf cx A p w R (Mine.stuck : M α) t := fun H S r H' h => nomatch h
theorem Post.here {a : α} {b : β} {H : AHeap} (S : St cx w H) (h : R w a b) : Post cx p w R (.ok a) H b w.s := ⟨w.ι, w.π, a, rfl, .refl _, S, h⟩
theorem Post.le {p : Addr → Prop} {w w' : Wl} {r : Except Str α} {H' : AHeap} {b : β} {s' : Shared} (l : Le cx p w w') (x : Post cx p w' R r H' b s') : Post cx p w R r H' b s' := let ⟨ι, π, c, e, l2, q⟩ := x; ⟨ι, π, c, e, l.trans l2, q⟩
theorem PostX.le {p : Addr → Prop} {w w' : Wl} {r : Except Str α} {H' : AHeap} {b : Value} {s' : Shared} (l : Le cx p w w') (x : PostX cx p w' r H' b s') : PostX cx p w r H' b s' := let ⟨ι, π, c, e, l2, S, X, O⟩ := x; ⟨ι, π, c, e, l.trans l2, S, X.mono fun b h => ⟨fun z => h.1 (l.pv b z h.2), h.2⟩, O⟩
theorem PostX.weak {p q : Addr → Prop} {w : Wl} {r : Except Str α} {H' : AHeap} {b : Value} {s' : Shared} (x : PostX cx p w r H' b s') (h : ∀ d, d ∈ w.π → p d → q d) (hq : ∀ d, q d → p d ∨ d ∈ w.π) : PostX cx q w r H' b s' := let ⟨ι, π, c, e, l, S, X, O⟩ := x; ⟨ι, π, c, e, l.weak h, S, X.mono fun b h => ⟨h.1, fun z => (hq b z).elim h.2 h.1⟩, fun b hb => (hq b hb).elim (O b) fun z => (Classical.em (p b)).elim (O b) (l.pv b z)⟩
theorem PostX.no {p : Addr → Prop} {w : Wl} {r : Except Str α} {H' : AHeap} {b : Value} {s' : Shared} (x : PostX cx No w r H' b s') (hq : ∀ d, p d → d ∈ w.π) : PostX cx p w r H' b s' := x.weak (fun _ _ z => z.elim) fun d h => .inr (hq d h)
/-- t runs as m does, then K is to be shown where f goes on -/
theorem Rf.run (x : Rf cx A p w R m t) {H : AHeap} (S : St cx w H) {r : Except Str γ} {H' : AHeap} (h : (m >>= f) H = some (r, H')) {K : β → Shared → Prop} (k : ∀ w1 a b H1, Le cx p w w1 → St cx w1 H1 → R w1 a b → f a H1 = some (r, H') → K b w1.s) :
    wpAny (model cx.prog cx.w) A t K (PostX cx p w r H') w.s := by
  refine bind_inv h (fun a H1 h1 h2 => ?_) fun e h1 h2 => ?_
  · refine wpAny_mono (x H S _ H1 h1) (fun b s1 ⟨ι, π, a', e, l, S1, r1⟩ => ?_) fun _ _ ⟨_, _, _, e, _⟩ => nomatch e
    cases e
    exact k _ a b H1 l S1 r1 h2
  · subst h2
    exact wpAny_mono (x H S _ H' h1) (fun b s1 ⟨_, _, _, e, _⟩ => nomatch e) fun d s2 ⟨ι2, π2, c, e2, q⟩ => ⟨ι2, π2, c, by cases e2; rfl, q⟩
/-- first t, then k of what it gives, as T runs them -/
theorem Rf.seqw {T : Sem δ} (x : Rf cx A p w R m t) (y : ∀ w' a b, Le cx p w w' → R w' a b → Rf cx A p w' R' (f a) (k b))
    (hT : ∀ {Q : δ → Shared → Prop} {E : Value → Shared → Prop}, wpAny (model cx.prog cx.w) A t (fun b s' => wpAny (model cx.prog cx.w) A (k b) Q E s') E w.s → wpAny (model cx.prog cx.w) A T Q E w.s) : Rf cx A p w R' (m >>= f) T := fun H S r H' h =>
  hT (x.run S h fun w1 a b H1 l S1 r1 h2 => wpAny_mono (y w1 a b l r1 H1 S1 r H' h2) (fun _ _ q => q.le l) fun _ _ q => q.le l)
theorem Rf.bind (x : Rf cx A p w R m t) (y : ∀ w' a b, Le cx p w w' → R w' a b → Rf cx A p w' R' (f a) (k b)) : Rf cx A p w R' (m >>= f) (t >>= k) := x.seqw y wpAny_bind
/-- t' answers g of what t answers -/
theorem Rf.img {R' : Wl → α → δ → Prop} {g : β → δ} {t' : Sem δ} (x : Rf cx A p w R m t) (hR : ∀ w' a b, R w' a b → R' w' a (g b))
    (h : ∀ {Q : δ → Shared → Prop} {E : Value → Shared → Prop}, wpAny (model cx.prog cx.w) A t (fun b s' => Q (g b) s') E w.s → wpAny (model cx.prog cx.w) A t' Q E w.s) : Rf cx A p w R' m t' := fun H S r H' e =>
  h (wpAny_mono (x H S r H' e) (fun b _ ⟨ι, π, a, e, l, s, r⟩ => ⟨ι, π, a, e, l, s, hR _ a b r⟩) fun _ _ z => z)
theorem Rf.pure {a : α} {b : β} (h : R w a b) : Rf cx A p w R (Pure.pure a) (Pure.pure b) := fun H S r H' q => by
  obtain ⟨rfl, rfl⟩ := pure_some q
  exact wpAny_pure (Post.here S h)
theorem Rf.weak {q : Addr → Prop} (x : Rf cx A p w R m t) (h : ∀ d, d ∈ w.π → p d → q d) (hq : ∀ d, q d → p d ∨ d ∈ w.π) : Rf cx A q w R m t := fun H S r H' e =>
  wpAny_mono (x H S r H' e) (fun _ _ ⟨ι, π, a, e, l, s, r⟩ => ⟨ι, π, a, e, l.weak h, s, r⟩) fun _ _ z => z.weak h hq
theorem Rf.no (x : Rf cx A No w R m t) (hq : ∀ d, p d → d ∈ w.π) : Rf cx A p w R m t := x.weak (fun _ _ z => z.elim) fun d h => .inr (hq d h)
theorem Rf.map {δ : Type} {R' : Wl → α → δ → Prop} {k : β → Sem δ} (x : Rf cx A p w R m t) (y : ∀ w' a b, Le cx p w w' → R w' a b → Rf cx A p w' R' (Pure.pure a) (k b)) : Rf cx A p w R' m (t >>= k) := by
  have := Rf.bind (f := Pure.pure) x y
  rwa [bind_pure] at this
theorem Rf.mono {R' : Wl → α → β → Prop} (x : Rf cx A p w R m t) (h : ∀ w' a b, Le cx p w w' → R w' a b → R' w' a b) : Rf cx A p w R' m t := fun H S r H' e =>
  wpAny_mono (x H S r H' e) (fun b _ ⟨ι, π, a, e, l, s, r⟩ => ⟨ι, π, a, e, l, s, h _ a b l r⟩) fun _ _ z => z
theorem Rf.standAt {q : Pos} (x : Rf cx A p w R m t) : Rf cx A p w R m (PySem.standAt q >>= fun _ => t) := fun H S r H' e => wpAny_bind (wpAny_standAt (x H S r H' e))
theorem Rf.holding {vs : List Value} (x : Rf cx A p w R m t) : Rf cx A p w R m (PySem.holding vs t) := fun H S r H' e => wpAny_holding (x H S r H' e)
/-- what a reading at the front tells -/
def Rd (cx : Cx) (w : Wl) {γ : Type} (m : M γ) (K : γ → Prop) : Prop := ∀ H, St cx w H → ∀ r H', m H = some (r, H') → H' = H ∧ ∃ c, r = .ok c ∧ K c
theorem Rf.read {m : M γ} {f : γ → M α} {K : γ → Prop} (x : Rd cx w m K) (y : ∀ c, K c → Rf cx A p w R (f c) t) : Rf cx A p w R (m >>= f) t := fun H S r H' h =>
  bind_inv h (fun a H1 h1 h2 => by obtain ⟨rfl, c, e, hc⟩ := x H S _ H1 h1; cases e; exact y a hc H1 S r H' h2) fun e h1 h2 => by obtain ⟨_, c, e, _⟩ := x H S _ H' h1; cases e
theorem Rd.pure {c : γ} {K : γ → Prop} (h : K c) : Rd cx w (Pure.pure c) K := fun H S r H' e => by obtain ⟨rfl, rfl⟩ := pure_some e; exact ⟨rfl, c, rfl, h⟩
theorem Rd.stuck {K : γ → Prop} : Rd cx w (Mine.stuck : M γ) K := fun H S r H' e => nomatch e
theorem Rd.bind {m : M γ} {f : γ → M δ} {K : γ → Prop} {J : δ → Prop} (x : Rd cx w m K) (y : ∀ c, K c → Rd cx w (f c) J) : Rd cx w (m >>= f) J := fun H S r H' h =>
  bind_inv h (fun a H1 h1 h2 => by obtain ⟨rfl, c, e, hc⟩ := x H S _ H1 h1; cases e; exact y a hc H1 S r H' h2) fun e h1 h2 => by obtain ⟨_, c, e, _⟩ := x H S _ H' h1; cases e
theorem Rd.mono {m : M γ} {K J : γ → Prop} (x : Rd cx w m K) (y : ∀ c, K c → J c) : Rd cx w m J := fun H S r H' h => let ⟨e, c, h1, h2⟩ := x H S r H' h; ⟨e, c, h1, y c h2⟩
theorem Rd.opt {o : Option γ} : Rd cx w (ofOpt o) (fun c => o = some c) := by
  cases o with
  | none => exact .stuck
  | some c => exact .pure rfl
/-- the answer is c at once -/
theorem Rf.leaf {c : α} (x : ∀ H, St cx w H → wpAny (model cx.prog cx.w) A t (Post cx p w R (.ok c) H) (PostX cx p w (.ok c : Except Str α) H) w.s) : Rf cx A p w R (Pure.pure c) t := fun H S r H' h => by
  obtain ⟨rfl, rfl⟩ := pure_some h
  exact x _ S
end

section
variable {cx : Cx} {A : Around} {p : Addr → Prop} {w : Wl} {H : AHeap}
theorem get_size (h : Heap) : h.get? h.objs.size = none := by
  cases e : h.get? h.objs.size with
  | none => rfl
  | some o => exact absurd (Heap.lt_size e) (Nat.lt_irrefl _)
namespace St
theorem obj (S : St cx w H) {a : Addr} (ha : a ∈ w.ι) : ∃ q, w.s.heap.get? a = some q := by
  obtain ⟨l, hl, e⟩ := List.mem_iff_getElem.mp ha
  exact (S.own l a (H[l]'(S.len ▸ hl)) (by rw [List.getElem?_eq_getElem hl, e]) (List.getElem?_eq_getElem _)).obj
/-- a new address is no one's -/
theorem new (S : St cx w H) {a : Addr} (ha : w.s.heap.get? a = none) : Fz w a :=
  ⟨fun h => (S.obj h).elim fun _ e => (nomatch ha.symm.trans e), fun h => (S.pvx a h).elim fun _ e => nomatch ha.symm.trans e⟩
theorem not_sys (S : St cx w H) : (w.s.heap.objs.size == sysModules) = false := by
  obtain ⟨o, e⟩ := S.sysm
  have h1 := Heap.lt_size (S.base _ _ e).1
  exact beq_eq_false_iff_ne.mpr (Nat.ne_of_gt (Nat.lt_trans (by decide) h1))
/-- every old object stays -/
theorem keeps (S : St cx w H) {h' : Heap} {t : Nat} (hk : ∀ b o, w.s.heap.get? b = some o → h'.get? b = some o) : St cx ⟨w.ι, w.π, { w.s with heap := h', toks := t }⟩ H where
  base := fun b o e => let q := S.base b o e; ⟨hk b o q.1, q.2⟩
  len := S.len
  nodup := S.nodup
  dj := S.dj
  pvx := fun a ha => let ⟨o, e⟩ := S.pvx a ha; ⟨o, hk a o e⟩
  own := fun l a o e1 e2 => (S.own l a o e1 e2).keep (w' := ⟨w.ι, w.π, { w.s with heap := h', toks := t }⟩) (Lv.keeps hk) (hk a)
  gens := S.gens
  os := S.os
  sysm := S.sysm
/-- a new mutable object -/
theorem alloc (S : St cx w H) {h' : Heap} {t : Nat} {a : Addr} {o : AO} (hk : ∀ b q, w.s.heap.get? b = some q → h'.get? b = some q) (ha : w.s.heap.get? a = none)
    (r : Le cx No w ⟨w.ι ++ [a], w.π, { w.s with heap := h', toks := t }⟩ → OR cx ⟨w.ι ++ [a], w.π, { w.s with heap := h', toks := t }⟩ a o) :
    Le cx No w ⟨w.ι ++ [a], w.π, { w.s with heap := h', toks := t }⟩ ∧ St cx ⟨w.ι ++ [a], w.π, { w.s with heap := h', toks := t }⟩ (H ++ [o]) := by
  have hf := S.new ha
  have ne : ∀ {b : Addr} {q : Obj}, w.s.heap.get? b = some q → b ∉ w.ι → b ∉ w.ι ++ [a] := fun {b q} e h1 h2 => by
    rcases List.mem_append.mp h2 with h | h
    · exact h1 h
    · rw [List.mem_singleton.mp h, ha] at e; cases e
  have l : Le cx No w ⟨w.ι ++ [a], w.π, { w.s with heap := h', toks := t }⟩ := ⟨⟨List.prefix_append _ _, fun b q e h1 h2 => ⟨hk b q e, ne e h1, h2⟩⟩, fun _ h _ => h, fun b q _ _ e => .of (hk b q e)⟩
  refine ⟨l, ⟨fun b q e => let z := S.base b q e; ⟨hk b q z.1, ne z.1 z.2.1, z.2.2⟩, by rw [List.length_append, List.length_append, S.len]; rfl, ?_, ?_, fun b hb => let ⟨q, e⟩ := S.pvx b hb; ⟨q, hk b q e⟩, ?_, S.gens, S.os, S.sysm⟩⟩
  · exact List.nodup_append.mpr ⟨S.nodup, List.nodup_cons.mpr ⟨List.not_mem_nil, List.nodup_nil⟩, fun x hx y hy e => hf.1 (by rw [List.mem_singleton.mp hy] at e; exact e ▸ hx)⟩
  · intro b hb
    rcases List.mem_append.mp hb with h | h
    · exact S.dj b h
    · rw [List.mem_singleton.mp h]; exact hf.2
  · intro i b q e1 e2
    rcases Nat.lt_trichotomy i w.ι.length with h | h | h
    · rw [List.getElem?_append_left h] at e1
      rw [List.getElem?_append_left (S.len ▸ h)] at e2
      exact (S.own i b q e1 e2).keep l.toLv (hk b)
    · subst h
      rw [List.getElem?_concat_length] at e1
      rw [S.len, List.getElem?_concat_length] at e2
      cases e1; cases e2
      exact r l
    · rw [List.getElem?_eq_none (by rw [List.length_append]; exact h)] at e1; cases e1
/-- one mutable object is turned, all else stays -/
theorem turn (S : St cx w H) {l : Nat} {a : Addr} {h' : Heap} {t : Nat} {o : AO} (hl : w.ι[l]? = some a) (hk : ∀ b q, b ≠ a → w.s.heap.get? b = some q → h'.get? b = some q)
    (r : Le cx No w ⟨w.ι, w.π, { w.s with heap := h', toks := t }⟩ → OR cx ⟨w.ι, w.π, { w.s with heap := h', toks := t }⟩ a o) :
    Le cx No w ⟨w.ι, w.π, { w.s with heap := h', toks := t }⟩ ∧ St cx ⟨w.ι, w.π, { w.s with heap := h', toks := t }⟩ (H.set l o) := by
  have hm : a ∈ w.ι := List.mem_of_getElem? hl
  have hp : ∀ b ∈ w.π, b ≠ a := fun b hb e => S.dj a hm (e ▸ hb)
  have le : Le cx No w ⟨w.ι, w.π, { w.s with heap := h', toks := t }⟩ := ⟨⟨List.prefix_refl _, fun b q e h1 h2 => ⟨hk b q (fun z => h1 (z ▸ hm)) e, h1, h2⟩⟩, fun _ h _ => h, fun b q h _ e => .of (hk b q (hp b h) e)⟩
  refine ⟨le, ⟨fun b q e => let z := S.base b q e; ⟨hk b q (fun y => z.2.1 (y ▸ hm)) z.1, z.2⟩, by rw [List.length_set]; exact S.len, S.nodup, S.dj, fun b hb => let ⟨q, e⟩ := S.pvx b hb; ⟨q, hk b q (hp b hb) e⟩, fun i b q e1 e2 => ?_, S.gens, S.os, S.sysm⟩⟩
  by_cases hi : l = i
  · subst hi
    rw [hl] at e1; cases e1
    rw [List.getElem?_set_self ((S.len ▸ (List.getElem?_eq_some_iff.mp hl).1 :))] at e2
    cases e2
    exact r le
  · rw [List.getElem?_set_ne hi] at e2
    have hba : b ≠ a := fun z => hi (by
      obtain ⟨h1, q1⟩ := List.getElem?_eq_some_iff.mp hl
      obtain ⟨h2, q2⟩ := List.getElem?_eq_some_iff.mp e1
      exact (List.getElem_inj S.nodup).mp (q1.trans (z.symm.trans q2.symm)))
    exact (S.own i b q e1 e2).keep le.toLv fun q' e => hk b q' hba e
end St
section
variable {R : Wl → AV → Value → Prop}
/-- the state stands, but for the tokens -/
theorem Post.tok {α β : Type} {R : Wl → α → β → Prop} {a : α} {b : β} (S : St cx w H) (t : Nat) (h : R ⟨w.ι, w.π, { w.s with toks := t }⟩ a b) : Post cx p w R (.ok a) H b { w.s with toks := t } :=
  ⟨w.ι, w.π, a, rfl, .tok t, S.keeps (t := t) fun _ _ e => e, h⟩
end
/-- a list that is made new, frozen or on the abstract heap -/
theorem newL_post (S : St cx w H) {mu : Bool} {xs : List AV} {vs : Array Value} {r : Except Str AV} {H' : AHeap} {h' : Heap} {t : Nat} {d : Addr} {n : Nat} (he : newL mu xs H = some (r, H'))
    (hk : ∀ b q, w.s.heap.get? b = some q → h'.get? b = some q) (hd : w.s.heap.get? d = none) (hL : IsL h' d vs n) (x : VRs cx w xs vs.toList) : Post cx p w (VR cx) r H' (.ref d) { w.s with heap := h', toks := t } := by
  unfold newL at he
  split at he
  · rename_i hz
    cases mu with
    | true =>
      cases he
      obtain ⟨l, S1⟩ := S.alloc (t := t) hk hd (o := .list xs) (fun l => ⟨vs, n, hL, hz, x.mono l⟩)
      exact ⟨_, _, _, rfl, l.no, S1, .loc (by rw [← S.len]; exact List.getElem?_concat_length)⟩
    | false =>
      obtain ⟨rfl, rfl⟩ := pure_some he
      have l : Le cx No w ⟨w.ι, w.π, { w.s with heap := h', toks := t }⟩ := .keeps hk
      exact ⟨_, _, _, rfl, l.no, S.keeps hk, .lst hL (S.new hd) hz (x.mono l)⟩
  · cases he
theorem newL_len {mu : Bool} {xs : List AV} {q : Except Str AV × AHeap} (he : newL mu xs H = some q) : xs.length ≤ LIM := by
  unfold newL at he
  split at he
  · assumption
  · cases he
theorem LIM_le : LIM ≤ sizeLine := by decide
theorem LIM_is : LIM = 1048576 := by decide
theorem newList_rf {mu : Bool} {xs : List AV} {vs : List Value} (x : VRs cx w xs vs) : Rf cx A p w (VR cx) (newL mu xs) (newList vs) := fun H S r H' he =>
  wpAny_newObj_type (newL_post S he (t := w.s.toks) (fun b q e => Heap.get?_push_of_some _ e) (get_size _) (IsL.new _ _) x) (by
    show vs.toArray.size ≤ sizeLine
    rw [List.size_toArray, ← x.length]; exact Nat.le_trans (newL_len he) LIM_le)
theorem newTuple_rf {xs : List AV} {vs : List Value} (hl : xs.length ≤ LIM) (x : VRs cx w xs vs) : Rf cx A p w (VR cx) (pure (.tup xs)) (newTuple vs) := .leaf fun H S =>
  wpAny_newObj_type ⟨w.ι, w.π, _, rfl, .keeps fun b q e => Heap.get?_push_of_some _ e, S.keeps (t := w.s.toks) fun b q e => Heap.get?_push_of_some _ e, .tup (IsT.new _ _) (S.new (get_size _)) hl (x.mono (p := No) (.keeps fun b q e => Heap.get?_push_of_some _ e))⟩ (by
    show vs.toArray.size ≤ sizeLine
    rw [List.size_toArray, ← x.length]; exact Nat.le_trans hl LIM_le)

/-- what listOf, seqOf read -/
theorem listAt_rd {l : Nat} {a : Addr} (h : w.ι[l]? = some a) : Rd cx w (listAt l) fun xs => ∃ vs n, IsL w.s.heap a vs n ∧ xs.length ≤ LIM ∧ VRs cx w xs vs.toList := fun H S r H' e => by
  refine bind_inv e (fun o H1 h1 h2 => ?_) fun x h1 h2 => ?_
  · unfold objAt at h1
    split at h1
    · rename_i o' ho
      cases h1
      cases o with
      | list xs => obtain ⟨rfl, rfl⟩ := pure_some h2; exact ⟨rfl, xs, rfl, S.own l a _ h ho⟩
      | dict es => cases h2
    · cases h1
  · unfold objAt at h1
    split at h1 <;> cases h1
theorem dictAt_rd {l : Nat} {a : Addr} (h : w.ι[l]? = some a) : Rd cx w (dictAt l) fun es => OR cx w a (.dict es) := fun H S r H' e => by
  refine bind_inv e (fun o H1 h1 h2 => ?_) fun x h1 h2 => ?_
  · unfold objAt at h1
    split at h1
    · rename_i o' ho
      cases h1
      cases o with
      | dict xs => obtain ⟨rfl, rfl⟩ := pure_some h2; exact ⟨rfl, xs, rfl, S.own l a _ h ho⟩
      | list es => cases h2
    · cases h1
  · unfold objAt at h1
    split at h1 <;> cases h1
theorem listOf_rd {a : AV} {v : Value} (x : VR cx w a v) : Rd cx w (listOf a) fun xs => ∃ l vs n, v = .ref l ∧ IsL w.s.heap l vs n ∧ xs.length ≤ LIM ∧ VRs cx w xs vs.toList := by
  cases a with
  | lst xs => obtain ⟨l, vs, n, e, h1, _, h3, h4⟩ := x; exact .pure ⟨l, vs, n, e, h1, h3, h4⟩
  | loc i => obtain ⟨l, e, h⟩ := x; exact (listAt_rd h).mono fun xs ⟨vs, n, q⟩ => ⟨l, vs, n, e, q⟩
  | _ => exact .stuck
inductive IsSeq (h : Heap) (l : Addr) (vs : Array Value) (n : Nat) : Prop
  | list (x : IsL h l vs n)
  | tuple (x : IsT h l vs n)
theorem seqOf_rd {a : AV} {v : Value} (x : VR cx w a v) : Rd cx w (seqOf a) fun xs => ∃ l vs n, v = .ref l ∧ IsSeq w.s.heap l vs n ∧ xs.length ≤ LIM ∧ VRs cx w xs vs.toList := by
  cases a with
  | tup xs => obtain ⟨l, vs, n, e, h1, _, h3, h4⟩ := x; exact .pure ⟨l, vs, n, e, .tuple h1, h3, h4⟩
  | lst xs => obtain ⟨l, vs, n, e, h1, _, h3, h4⟩ := x; exact .pure ⟨l, vs, n, e, .list h1, h3, h4⟩
  | loc i => obtain ⟨l, e, h⟩ := x; exact (listAt_rd h).mono fun xs ⟨vs, n, q1, q⟩ => ⟨l, vs, n, e, .list q1, q⟩
  | _ => exact .stuck
theorem mul_fits_of {i j : Int} (h : j.natAbs < 2 ^ 64 ∨ i.natAbs < 2 ^ 64) : IntMulOk i j := by
  rcases h with h | h
  · exact .of_right (intBits_le_64 (by omega) (by omega))
  · exact .of_left (intBits_le_64 (by omega) (by omega))
/-- both are ints -/
theorem int2_rf {a b : AV} {f : Int → Int → M AV} {op : Operator} {v u : Value} {R : Wl → AV → Value → Prop} (ra : VR cx w a v) (rb : VR cx w b u) (k : ∀ i j t s, Rf cx A p w R (f i j) (binaryOp op (.int i t) (.int j s))) : Rf cx A p w R (int2 a b f) (binaryOp op v u) := by
  cases a with
  | int i =>
    cases b with
    | int j =>
      obtain ⟨t, rfl⟩ := ra
      obtain ⟨s, rfl⟩ := rb
      exact k i j t s
    | _ => exact .stuck
  | _ => exact .stuck
theorem ite_rf {c : Prop} [Decidable c] {α β : Type} {R : Wl → α → β → Prop} {m n : M α} {t : Sem β} (h1 : c → Rf cx A p w R m t) (h2 : ¬ c → Rf cx A p w R n t) : Rf cx A p w R (if c then m else n) t := by
  split
  · exact h1 ‹_›
  · exact h2 ‹_›
theorem addList_rf {mu : Bool} {a b : AV} {v u : Value} (ra : VR cx w a v) (rb : VR cx w b u) : Rf cx A p w (VR cx) (do let xs ← listOf a; let ys ← listOf b; newL mu (xs ++ ys)) (binaryOp .Add v u) := by
  refine .read (listOf_rd ra) fun xs ⟨l, vs, n, e, hl, hz, hvs⟩ => .read (listOf_rd rb) fun ys ⟨l2, ws, n2, e2, hl2, hz2, hws⟩ => ?_
  subst e; subst e2
  refine fun H S r H' he => P.add_list hl hl2 (newL_post S he (t := w.s.toks) (fun b q e => Heap.get?_push_of_some _ e) (get_size _) (IsL.new _ _) (by rw [Array.toList_append]; exact hvs.append hws)) ?_
  have h1 := newL_len he
  rw [List.length_append] at h1
  rw [hvs.size, hws.size]; exact Nat.le_trans h1 LIM_le
theorem addTup_rf {a b : AV} {xs : List AV} {v u : Value} (ra : VR cx w (.tup xs) v) (rb : VR cx w b u) : Rf cx A p w (VR cx) (addTup xs b) (binaryOp .Add v u) := by
  cases b with
  | tup ys =>
    refine ite_rf (fun _ => .stuck) fun hc => ?_
    have hc := Bool.eq_false_iff.mpr hc
    rw [Bool.or_eq_false_iff, Bool.or_eq_false_iff, List.isEmpty_eq_false_iff, List.isEmpty_eq_false_iff, decide_eq_false_iff_not] at hc
    obtain ⟨⟨hx, hy⟩, hlen⟩ := hc
    refine ra.tupE fun a vs n ha hfa hza hsa => rb.tupE fun b ws m hb hfb hzb hsb => .leaf fun H S => ?_
    have ne : ∀ {zs : List AV} {us : Array Value}, VRs cx w zs us.toList → zs ≠ [] → ¬ us.isEmpty = true := fun {zs us} h1 h2 h3 => h2 (List.length_eq_zero_iff.mp (by rw [← h1.size]; exact Array.isEmpty_iff_size_eq_zero.mp h3))
    refine P.add_tuple ha hb (ne hsa hx) (ne hsb hy) ⟨w.ι, w.π, _, rfl, .keeps fun b q e => Heap.get?_push_of_some _ e, S.keeps (t := w.s.toks) fun b q e => Heap.get?_push_of_some _ e, .tup (IsT.new _ _) (S.new (get_size _)) (by rw [List.length_append]; exact Nat.not_lt.mp hlen) ?_⟩ ?_
    · rw [Array.toList_append]; exact (hsa.append hsb).mono (p := No) (.keeps fun b q e => Heap.get?_push_of_some _ e)
    · rw [hsa.size, hsb.size]; exact Nat.le_trans (Nat.not_lt.mp hlen) LIM_le
  | _ => exact .stuck
theorem add_rf {mu : Bool} {a b : AV} {v u : Value} (ra : VR cx w a v) (rb : VR cx w b u) : Rf cx A p w (VR cx) (bAdd mu a b) (binaryOp .Add v u) := by
  cases a with
  | int i =>
    cases b with
    | int j => exact ra.intE fun t => rb.intE fun s => .leaf fun H S => add_int (.tok S _ .int)
    | _ => exact .stuck
  | tup xs => exact addTup_rf (a := .none) ra rb
  | _ => exact addList_rf ra rb
theorem mulList_rf {mu : Bool} {a : AV} {v : Value} {n : Int} {t : Tok} (ra : VR cx w a v) :
    Rf cx A p w (VR cx) (do let xs ← listOf a; if n < 0 ∨ 1048576 < n ∨ LIM < n.toNat * xs.length then stuck else newL mu (List.replicate n.toNat xs).flatten) (binaryOp .Mult v (.int n t)) := by
  refine .read (listOf_rd ra) fun xs ⟨l, vs, k, e, hl, hz, hvs⟩ => ite_rf (fun _ => .stuck) fun hc => fun H S r H' he => ?_
  subst e
  have L := LIM_is
  have h2 : vs.size * n.toNat ≤ 2 ^ 24 := by rw [hvs.size, Nat.mul_comm]; omega
  refine wpAny_binaryOp_repeat_ref (T := "list") (U := "int") (by decide) ⟨_, hl, rfl⟩ (fun s' => typeIs_int s' n t) noFill_list_mul F.fills_int_mul F.slot_int_rmul repeat_list F.slot_int_index.lookup
    (call_meets F.slot_int_rmul (typeIs_int w.s n t) F.entry_int_rmul (F.args_int_rmul_2 _ _) (int___rmul___int_list n t l vs k)
      ⟨hl, rfl, ⟨_, hl, rfl⟩, call_meets F.slot_list_mul ⟨_, hl, rfl⟩ F.entry_list_mul (F.args_list_mul_2 _ _)
        (AutoListH.list___mul___list_int_3 l vs k n t (by simp [Builtin.List.listFitsIndex]; omega) (by omega) (by simp [Builtin.List.listTooLong, sizeLine]; omega))
        ⟨hl, ?_⟩⟩)
  refine newL_post S he (t := w.s.toks) (fun b q e => Heap.get?_push_of_some _ e) (get_size _) (IsL.new _ _) ?_
  rw [listMul_foldl_if]
  simpa using hvs.rep n.toNat
theorem mul_rf {mu : Bool} {a b : AV} {v u : Value} (ra : VR cx w a v) (rb : VR cx w b u) : Rf cx A p w (VR cx) (bMul mu a b) (binaryOp .Mult v u) := by
  cases b with
  | int n =>
    refine rb.intE fun t => ?_
    cases a with
    | int i => exact ra.intE fun t => ite_rf (fun hc => .leaf fun H S => mul_int (.tok S _ .int) (mul_fits_of hc)) fun _ => .stuck
    | _ => exact mulList_rf ra
  | _ => exact .stuck
theorem bin_rf {mu : Bool} {op : Operator} {a b : AV} {v u : Value} (ra : VR cx w a v) (rb : VR cx w b u) : Rf cx A p w (VR cx) (pBin mu op a b) (binaryOp op v u) := by
  cases op with
  | Add => exact add_rf ra rb
  | Sub => exact int2_rf ra rb fun i j t s => .leaf fun H S => sub_int' (.tok S _ .int)
  | Mult => exact mul_rf ra rb
  | FloorDiv => exact int2_rf ra rb fun i j t s => ite_rf (fun _ => .stuck) fun hc => .leaf fun H S => floordiv_int (fun z => hc (.inl z)) (.tok S _ .int) (.inl (PyProof.noPylong_small (by omega)))
  | Mod => exact int2_rf ra rb fun i j t s => ite_rf (fun _ => .stuck) fun hc => .leaf fun H S => mod_int' hc (.tok S _ .int)
  | Pow => exact int2_rf ra rb fun i j t s => ite_rf (fun ⟨h1, h2⟩ => by subst h1; subst h2; exact .leaf fun H S => pow_int_small (by decide) (by decide) (by decide) (.tok S _ .int)) fun _ => .stuck
  | _ => exact .stuck
theorem neg_rf {a : AV} {v : Value} (ra : VR cx w a v) : Rf cx A p w (VR cx) (pNeg a) (unaryOp .USub v) := by
  cases a with
  | int i => exact ra.intE fun t => .leaf fun H S => neg_int (.tok S _ .int)
  | _ => exact .stuck
theorem truth_rf {a : AV} {v : Value} (ra : VR cx w a v) : Rf cx A p w (fun _ x y => x = y ∧ a = .bool x) (truth a) (truthy v) := by
  cases a with
  | bool b => exact ra.boolE (.leaf fun H S => wpAny_truthy_bool (.here S ⟨rfl, rfl⟩))
  | _ => exact .stuck
end
end Mine


set_option autoImplicit false
set_option linter.unusedVariables false
namespace Mine
open PySem PyProof.Rows PySem.SeqAt

section
variable {cx : Cx} {A : Around} {p : Addr → Prop} {w : Wl} {H : AHeap}

/-- what rd reads is what the heap holds -/
theorem mapM_cons_some {α β : Type} {f : α → Option β} {x : α} {xs : List α} {r : List β} (h : (x :: xs).mapM f = some r) : ∃ y ys, f x = some y ∧ xs.mapM f = some ys ∧ r = y :: ys := by
  rw [List.mapM_cons] at h
  obtain ⟨y, h1, h2⟩ := Option.bind_eq_some_iff.mp h
  obtain ⟨ys, h3, h4⟩ := Option.bind_eq_some_iff.mp h2
  cases h4
  exact ⟨y, ys, h1, h3, rfl⟩
def RdOk (w : Wl) (n : Nat) (v : Value) (d : PyData) : Prop := ∃ as, Reads w.s.heap v d as ∧ d.canLay0 = true ∧ d.depth ≤ n
def RdsOk (w : Wl) (n : Nat) (vs : List Value) (ds : List PyData) : Prop := ∃ as, ReadsAll w.s.heap vs ds as ∧ PyData.canLayAll0 ds = true ∧ PyData.depthAll ds ≤ n
theorem rds_sound (n : Nat) (ih : ∀ {a : AV} {v : Value} {d : PyData}, VR cx w a v → rd H n a = some d → RdOk w n v d) : ∀ {xs : List AV} {vs : List Value} {ds : List PyData}, VRs cx w xs vs → xs.mapM (rd H n) = some ds → RdsOk w n vs ds
  | [], vs, ds, x, h => by cases h; rw [show vs = [] from x]; exact ⟨[], .nil, rfl, Nat.zero_le _⟩
  | a :: xs, vs, ds, ⟨v, us, e, r, rs⟩, h => by
    obtain ⟨y, ys, h1, h2, rfl⟩ := mapM_cons_some h
    obtain ⟨as, q1, q2, q3⟩ := ih r h1
    obtain ⟨bs, p1, p2, p3⟩ := rds_sound n ih rs h2
    rw [e]
    exact ⟨as ++ bs, .cons q1 p1, show (y.canLay0 && PyData.canLayAll0 ys) = true by rw [q2, p2]; rfl, Nat.max_le.mpr ⟨q3, p3⟩⟩
theorem rdL {n : Nat} {l : Addr} {vs : Array Value} {k : Nat} {ds : List PyData} (h : IsL w.s.heap l vs k) (x : RdsOk w n vs.toList ds) : RdOk w (n + 1) (.ref l) (.list ds) :=
  let ⟨_, p1, p2, p3⟩ := x; ⟨_, .list h rfl rfl p1, p2, Nat.succ_le_succ p3⟩
theorem rd0 (n : Nat) {a : AV} {v : Value} {d : PyData} (r : VR cx w a v) (h : rd H n a = some d) (h1 : isTp a = false) (h2 : isL a = false) : RdOk w n v d := by
  cases a with
  | none => rw [show v = .none from r]; cases n <;> (cases h; exact ⟨[], .none, rfl, Nat.zero_le _⟩)
  | bool b => rw [show v = .bool b from r]; cases n <;> (cases h; exact ⟨[], .bool b, rfl, Nat.zero_le _⟩)
  | int i => obtain ⟨t, r⟩ := r; rw [r]; cases n <;> (cases h; exact ⟨[], .int i t, rfl, Nat.zero_le _⟩)
  | str x =>
    obtain ⟨t, r⟩ := r
    have h' : (if PyData.strOk x then some (PyData.str x) else none) = some d := by cases n <;> exact h
    split at h'
    · rename_i ho; cases h'; rw [r]; exact ⟨[], .str x t, ho, Nat.zero_le _⟩
    · cases h'
  | range _ _ => cases n <;> cases h
  | cdict _ => cases n <;> cases h
  | exc _ => cases n <;> cases h
  | tup _ => cases h1
  | lst _ => cases h2
  | loc _ => cases h2
theorem rd_sound (S : St cx w H) (n : Nat) : ∀ {a : AV} {v : Value} {d : PyData}, VR cx w a v → rd H n a = some d → RdOk w n v d := by
  induction n with
  | zero =>
    intro a v d r h
    cases a with
    | tup _ => cases h
    | lst _ => cases h
    | loc _ => cases h
    | _ => exact rd0 0 r h rfl rfl
  | succ n ih =>
    intro a v d r h
    cases a with
    | tup xs =>
      obtain ⟨a, vs, k, e, h1, _, _, h4⟩ := r
      obtain ⟨ds, h5, h6⟩ := Option.map_eq_some_iff.mp h
      obtain ⟨as, p1, p2, p3⟩ := rds_sound n ih h4 h5
      rw [e, ← h6]
      exact ⟨as, .tuple h1 rfl rfl p1, p2, Nat.succ_le_succ p3⟩
    | lst xs =>
      obtain ⟨a, vs, k, e, h1, _, _, h4⟩ := r
      obtain ⟨ds, h5, h6⟩ := Option.map_eq_some_iff.mp h
      rw [e, ← h6]
      exact rdL h1 (rds_sound n ih h4 h5)
    | loc l =>
      obtain ⟨a, e, h1⟩ := r
      cases hH : H[l]? with
      | none => rw [show rd H (n + 1) (.loc l) = (match H[l]? with | some (.list xs) => (xs.mapM (rd H n)).map .list | _ => none) from rfl, hH] at h; cases h
      | some o =>
        rw [show rd H (n + 1) (.loc l) = (match H[l]? with | some (.list xs) => (xs.mapM (rd H n)).map .list | _ => none) from rfl, hH] at h
        cases o with
        | dict es => cases h
        | list xs =>
          obtain ⟨ds, h5, h6⟩ := Option.map_eq_some_iff.mp h
          obtain ⟨vs, k, h2, _, h4⟩ := S.own _ _ _ h1 hH
          rw [e, ← h6]
          exact rdL h2 (rds_sound n ih h4 h5)
    | _ => exact rd0 (n + 1) r h rfl rfl
theorem rdM_rd {a : AV} {v : Value} (x : VR cx w a v) : Rd cx w (rdM a) (RdOk w 8 v) := fun H S r H' h => by
  unfold rdM at h
  split at h
  · rename_i d hd; cases h; exact ⟨rfl, d, rfl, rd_sound S 8 x hd⟩
  · cases h
/-- room for a handful of the machine's own calls -/
abbrev Room (A : Around) : Prop := A.units + 100 < cLine
theorem room_min {R : Room A} {a b : Nat} (h : a ≤ 8) : A.units + min a b < cLine := by unfold Room at R; omega
theorem room_min1 {R : Room A} {a b : Nat} (h : b ≤ 8) : A.units + 1 + min a b < cLine := by unfold Room at R; omega
theorem isNone_of {a : AV} {v : Value} (r : VR cx w a v) : (v == .none) = pIsNone a := by
  cases a with
  | none => rw [show v = .none from r]; rfl
  | bool b => rw [show v = .bool b from r]; rfl
  | int i => obtain ⟨t, e⟩ := r; rw [e]; rfl
  | str i => obtain ⟨t, e⟩ := r; rw [e]; rfl
  | tup i => obtain ⟨_, _, _, e, _⟩ := r; rw [e]; rfl
  | lst i => obtain ⟨_, _, _, e, _⟩ := r; rw [e]; rfl
  | loc i => obtain ⟨_, e, _⟩ := r; rw [e]; rfl
  | range i j => obtain ⟨_, _, _, _, e, _⟩ := r; rw [e]; rfl
  | cdict i => obtain ⟨_, _, e, _⟩ := r; rw [e]; rfl
  | exc i => obtain ⟨_, _, _, e, _⟩ := r; rw [e]; rfl
theorem is_not_none {v : Value} {s : Shared} {M : Model} {E : Value → Shared → Prop} {Q : Value → Shared → Prop} (h : Q (.bool (!(v == .none))) s) : wpAny M A (compareOp .IsNot v .none) Q E s := by
  show wpAny M A (do return .bool !(← isSame v .none)) Q E s
  rw [isSame_none]
  exact wpAny_bind (wpAny_pure (wpAny_pure h))
/-- a comparison's answer -/
def Rb (w : Wl) (b : Bool) (v : Value) : Prop := v = .bool b
theorem eq_rf (R : Room A) {a b : AV} {v u : Value} (ra : VR cx w a v) (rb : VR cx w b u) : Rf cx A p w Rb (pEq a b) (compareOp .Eq v u) :=
  .read (rdM_rd ra) fun x ⟨_, p1, p2, p3⟩ => .read (rdM_rd rb) fun y ⟨_, q1, q2, q3⟩ => .leaf fun H S => compareEq_reads p1 q1 p2 q2 (room_min (R := R) p3) (.here S rfl)
theorem in_rf (R : Room A) {a b : AV} {v u : Value} (ra : VR cx w a v) (rb : VR cx w b u) : Rf cx A p w Rb (pIn a b) (compareOp .In v u) :=
  .read (rdM_rd ra) fun x ⟨_, p1, p2, p3⟩ => .read (rdM_rd rb) fun y ⟨_, q1, q2, q3⟩ => by
    cases y with
    | list ys => exact .leaf fun H S => in_list_reads q1 p1 q2 p2 (room_min1 (R := R) p3) (.here S rfl)
    | tuple ys => exact .leaf fun H S => in_tuple_reads q1 p1 q2 p2 (room_min1 (R := R) p3) (.here S rfl)
    | _ => exact .stuck
theorem notIn_rf (R : Room A) {a b : AV} {v u : Value} (ra : VR cx w a v) (rb : VR cx w b u) : Rf cx A p w Rb (do let r ← pIn a b; pure (!r)) (compareOp .NotIn v u) := by
  unfold pIn
  simp only [bind_assoc, pure_bind]
  exact .read (rdM_rd ra) fun x ⟨_, p1, p2, p3⟩ => .read (rdM_rd rb) fun y ⟨_, q1, q2, q3⟩ => by
    cases y with
    | list ys => exact .leaf fun H S => notIn_list_reads q1 p1 q2 p2 (room_min1 (R := R) p3) (.here S rfl)
    | tuple ys => exact .leaf fun H S => notIn_tuple_reads q1 p1 q2 p2 (room_min1 (R := R) p3) (.here S rfl)
    | _ => exact .stuck
theorem ne_rf (R : Room A) {a b : AV} {v u : Value} (ra : VR cx w a v) (rb : VR cx w b u) : Rf cx A p w Rb (do let r ← pEq a b; pure (!r)) (compareOp .NotEq v u) := by
  unfold pEq
  simp only [bind_assoc, pure_bind]
  exact .read (rdM_rd ra) fun x ⟨_, p1, p2, p3⟩ => .read (rdM_rd rb) fun y ⟨_, q1, q2, q3⟩ => .leaf fun H S => compareNe_reads p1 q1 p2 q2 (room_min (R := R) p3) (.here S rfl)
theorem cmp_rf (R : Room A) {op : CmpOp} {a b : AV} {v u : Value} (ra : VR cx w a v) (rb : VR cx w b u) : Rf cx A p w Rb (pCmp op a b) (compareOp op v u) := by
  have two : ∀ {q : CmpOp} {t : Sem Value}, (∀ i j s t', v = .int i s → u = .int j t' → Rf cx A p w Rb (cmpI q i j) t) → Rf cx A p w Rb (match asI a with | some i => (match asI b with | some j => cmpI q i j | none => stuck) | none => stuck : M Bool) t := fun {q t} k => by
    cases a with
    | int i =>
      cases b with
      | int j => obtain ⟨s, e⟩ := ra; obtain ⟨s', e'⟩ := rb; exact k i j s s' e e'
      | _ => exact .stuck
    | _ => exact .stuck
  cases op with
  | Eq => exact eq_rf R ra rb
  | NotEq => exact ne_rf R ra rb
  | In => exact in_rf R ra rb
  | NotIn => exact notIn_rf R ra rb
  | Is =>
    cases b with
    | none => exact rb.noneE (.leaf fun H S => is_none (by rw [isNone_of ra]; exact .here S rfl))
    | _ => exact .stuck
  | IsNot =>
    cases b with
    | none => exact rb.noneE (.leaf fun H S => is_not_none (by rw [isNone_of ra]; exact .here S rfl))
    | _ => exact .stuck
  | Lt => exact two fun i j s t h1 h2 => h1 ▸ h2 ▸ .leaf fun H S => wpAny_lt_int (.here S rfl)
  | LtE => exact two fun i j s t h1 h2 => h1 ▸ h2 ▸ .leaf fun H S => le_int (.here S rfl)
  | Gt => exact two fun i j s t h1 h2 => h1 ▸ h2 ▸ .leaf fun H S => PyProof.Rows.gt_int (.here S rfl)
  | GtE => exact two fun i j s t h1 h2 => h1 ▸ h2 ▸ .leaf fun H S => ge_int (.here S rfl)

theorem idx_some {k : Int} {n j : Nat} (h : idx k n = some j) : j < n ∧ ((0 ≤ k ∧ k < n ∧ j = k.toNat) ∨ (k < 0 ∧ -k ≤ n ∧ j = (k + n).toNat)) := by
  unfold idx at h
  split at h
  · split at h
    · cases h; exact ⟨by omega, .inl ⟨by assumption, by assumption, rfl⟩⟩
    · cases h
  · split at h
    · cases h; exact ⟨by omega, .inr ⟨Int.not_le.mp (by assumption), by assumption, rfl⟩⟩
    · cases h
theorem getItem_seq {l : Addr} {vs : Array Value} {n : Nat} {k : Int} {t : Tok} {j : Nat} {y : Value} {s : Shared} {Q : Value → Shared → Prop} {E : Value → Shared → Prop} (hs : IsSeq s.heap l vs n) (hj : idx k vs.size = some j) (hy : vs[j]? = some y)
    (hb : vs.size < 2 ^ 62) (h : Q y s) : wpAny (model cx.prog cx.w) A (getItem (.ref l) (.int k t)) Q E s := by
  obtain ⟨hlt, hc⟩ := idx_some hj
  cases hs with
  | list hl =>
    rcases hc with ⟨h0, h1, rfl⟩ | ⟨h0, h1, rfl⟩
    · exact wpAny_getItem_list hl.isList h0 (by omega) hy h
    · exact wpAny_getItem_list_neg hl.isList h0 (by omega) (by omega) hy h
  | tuple hl =>
    refine P.getItem_tuple hl (by omega) (by omega) (k := j) ?_ hy h
    rcases hc with ⟨h0, h1, rfl⟩ | ⟨h0, h1, rfl⟩
    · exact seqIndex_of h0 h1
    · exact PySem.seqIndex_neg h0 (by omega)
/-- the value at a key -/
theorem look_valueAt : ∀ {es : List (Str × AV)} {kvs : List (Str × Value)} {k : Str} {a : AV}, kvs.map (·.1) = es.map (·.1) → VRs cx w (es.map (·.2)) (kvs.map (·.2)) → look es k = some a → ∃ v, valueAt kvs k = some v ∧ VR cx w a v
  | [], _, _, _, _, _, h => by cases h
  | _ :: _, [], _, _, h, _, _ => by cases h
  | e :: es, kv :: kvs, k, a, he, ⟨v, us, q, r1, r2⟩, hl => by
    obtain ⟨h1, h2⟩ := List.cons.inj he
    obtain ⟨q1, q2⟩ := List.cons.inj q
    unfold look at hl
    unfold valueAt
    rw [List.find?_cons] at hl ⊢
    rw [show kv.1 = e.1 from h1]
    by_cases hk : e.1 = k
    · rw [decide_eq_true hk] at hl ⊢
      cases hl
      exact ⟨kv.2, rfl, by rw [show kv.2 = v from q1]; exact r1⟩
    · rw [decide_eq_false hk] at hl ⊢
      exact look_valueAt (es := es) h2 (q2 ▸ r2) hl
theorem look_strAt : ∀ {es : List (Str × Str)} {kvs : List (Str × Value)} {k x : Str}, kvs.map (·.1) = es.map (·.1) → StrVs (es.map (·.2)) (kvs.map (·.2)) → look es k = some x → ∃ t, valueAt kvs k = some (.str x t)
  | [], _, _, _, _, _, h => by cases h
  | _ :: _, [], _, _, h, _, _ => by cases h
  | e :: es, kv :: kvs, k, a, he, ⟨t, us, q, r2⟩, hl => by
    obtain ⟨h1, h2⟩ := List.cons.inj he
    obtain ⟨q1, q2⟩ := List.cons.inj q
    unfold look at hl
    unfold valueAt
    rw [List.find?_cons] at hl ⊢
    rw [show kv.1 = e.1 from h1]
    by_cases hk : e.1 = k
    · rw [decide_eq_true hk] at hl ⊢
      cases hl
      exact ⟨t, congrArg some q1⟩
    · rw [decide_eq_false hk] at hl ⊢
      exact look_strAt (es := es) h2 (q2 ▸ r2) hl
theorem getItem_dict {d : Addr} {kvs : List (Str × Value)} {k : Str} {t : Tok} {v : Value} {s : Shared} {Q : Value → Shared → Prop} {E : Value → Shared → Prop} (hd : s.heap.DictOf (strKind cx.prog cx.w) d kvs) (hv : valueAt kvs k = some v)
    (h : Q v { s with toks := s.toks + 1 }) : wpAny (model cx.prog cx.w) A (getItem (.ref d) (.str k t)) Q E s :=
  wpAny_getItem_of (strKind_is _ _ k t) hd.mapOf hv h
/-- whose items are asked for is a list, a tuple or a dict -/
def Subs (s : Shared) (v : Value) : Prop := ∃ T id, s.TypeIs v T ∧ typeLookup (.type T) "__getitem__" = pure (some (.builtin id))
theorem Subs.list {s : Shared} {l : Addr} {vs : Array Value} {n : Nat} (hl : IsL s.heap l vs n) : Subs s (.ref l) := ⟨"list", _, ⟨_, hl, rfl⟩, list_getitem_lookup⟩
theorem Subs.tuple {s : Shared} {l : Addr} {vs : Array Value} {n : Nat} (hl : IsT s.heap l vs n) : Subs s (.ref l) := ⟨"tuple", _, ⟨_, hl, rfl⟩, F.slot_tuple_getitem.lookup⟩
theorem Subs.seq {s : Shared} {l : Addr} {vs : Array Value} {n : Nat} : IsSeq s.heap l vs n → Subs s (.ref l)
  | .list x => .list x
  | .tuple x => .tuple x
theorem Subs.dict {s : Shared} {d : Addr} {kvs : List (Str × Value)} (hd : s.heap.DictOf (strKind cx.prog cx.w) d kvs) : Subs s (.ref d) := ⟨"dict", _, hd.mapOf.typeIs, slot_dict_getitem.lookup⟩
/-- an item is asked for: k is to be shown of the getItem that is known to be one of a list, tuple or dict -/
theorem item_rf {o i : AV} {v u : Value} {t : Sem Value} (ro : VR cx w o v) (ri : VR cx w i u) (ht : ∀ {Q E : Value → Shared → Prop}, Subs w.s v → wpAny (model cx.prog cx.w) A (getItem v u) Q E w.s → wpAny (model cx.prog cx.w) A t Q E w.s) : Rf cx A p w (VR cx) (pItem o i) t := by
  cases i with
  | str k =>
    obtain ⟨tk, rfl⟩ := ri
    cases o with
    | cdict es =>
      obtain ⟨d, kvs, rfl, h1, h2, h3, h4⟩ := ro
      refine .read .opt fun x hx => .leaf fun H S => ?_
      obtain ⟨tx, hv⟩ := look_strAt h3 h4 hx
      exact ht (.dict h1) (getItem_dict h1 hv (.tok S _ .str))
    | loc l =>
      obtain ⟨a, rfl, hl⟩ := ro
      refine .read (dictAt_rd hl) fun es ⟨kvs, h1, h2, h3, h4⟩ => ?_
      cases hk : look es k with
      | none => exact .stuck
      | some x =>
        obtain ⟨v, hv, rv⟩ := look_valueAt h3 h4 hk
        exact .leaf fun H S => ht (.dict h1) (getItem_dict h1 hv (.tok S _ (rv.mono (p := No) (.tok _))))
    | _ => exact .stuck
  | int k =>
    obtain ⟨tk, rfl⟩ := ri
    refine .read (seqOf_rd ro) fun xs ⟨l, vs, n, e, hl, hz, hvs⟩ => ?_
    subst e
    cases hj : idx k xs.length with
    | none => exact .stuck
    | some j =>
      show Rf cx A p w (VR cx) (ofOpt xs[j]?) t
      cases hx : xs[j]? with
      | none => exact .stuck
      | some x =>
        obtain ⟨y, hy, ry⟩ := hvs.get hx
        exact .leaf fun H S => ht (.seq hl) (getItem_seq hl (j := j) (by rw [hvs.size]; exact hj) (by rw [← Array.getElem?_toList]; exact hy) (by rw [hvs.size]; have := LIM_is; omega) (.here S ry))
  | _ => exact .stuck
end
end Mine


set_option autoImplicit false
set_option linter.unusedVariables false
namespace Mine
open PySem PyProof.Rows PySem.SeqAt

section
variable {cx : Cx} {A : Around} {p : Addr → Prop} {w : Wl} {H : AHeap}

theorem pushk {h : Heap} (o : Obj) : ∀ b q, h.get? b = some q → (h.push o).get? b = some q := fun b q e => Heap.get?_push_of_some _ e
theorem cut_vrs {xs : List AV} {vs : Array Value} (r : VRs cx w xs vs.toList) (lo hi : Option Int) : VRs cx w (cut xs lo hi) (slicePick vs lo hi none).toList := by
  rw [slicePick_plain]
  unfold cut
  rw [r.size]
  exact (r.drop _).take _
/-- t[:b] of a tuple -/
theorem sliceApplied_upto {sl : Addr} {b n : Nat} {u : Tok} {s : Shared} {E : Value → Shared → Prop} {Q : Int × Int × Nat → Shared → Prop} (hs : s.heap.IsSliceOf sl .none (.int b u) .none) (hb : b ≤ n) (h : Q (0, 1, b) s) :
    wpAny (model cx.prog cx.w) A (Builtin.Slice.sliceApplied (.ref sl) (pure (n : Int))) Q E s := by
  obtain ⟨os, hos, hcs, hds⟩ := id hs
  unfold Builtin.Slice.sliceApplied Builtin.Slice.sliceFields
  refine wpAny_bind (wpAny_bind (wpAny_field hos hds (x := .none) rfl (wpAny_bind (wpAny_field hos hds (x := .int b u) rfl (wpAny_bind (wpAny_field hos hds (x := .none) rfl (wpAny_pure ?_)))))))
  refine wpAny_bind (slicePart_none ?_)
  show wpAny _ _ (if ((1 : Int) == 0) = true then _ else _) _ _ s
  rw [if_neg (by decide)]
  refine wpAny_bind (slicePart_none (wpAny_bind (slicePart_int (wpAny_bind (wpAny_pure ?_)))))
  have e1 : Builtin.Slice.sliceAdjust none (some (b : Int)) 1 (n : Int) = (0, (b : Int)) := by
    unfold Builtin.Slice.sliceAdjust
    have h2 : ¬ ((b : Int) < 0) := by omega
    have h1 : ¬ ((1 : Int) < 0) := by omega
    simp only [h1, h2, if_false]
    congr 1
    omega
  have e2 : Builtin.Slice.slicePlaces 0 (b : Int) 1 = b := by
    unfold Builtin.Slice.slicePlaces
    have h1 : (1 : Int) > 0 := by omega
    simp only [h1, if_true, Int.ediv_one]
    split <;> omega
  show wpAny _ _ (match Builtin.Slice.sliceAdjust none (some (b : Int)) 1 (n : Int) with | (lo, hi) => pure (lo, (1 : Int), Builtin.Slice.slicePlaces lo hi 1)) _ _ s
  rw [e1]
  show wpAny _ _ (pure (0, (1 : Int), Builtin.Slice.slicePlaces 0 (b : Int) 1)) _ _ s
  rw [e2]
  exact wpAny_pure h
theorem pick_upto (xs : Array Value) (b : Nat) : ((List.range b).filterMap fun (k : Nat) => xs[((0 : Int) + (k : Int) * 1).toNat]?).toArray = (xs.toList.take b).toArray := by
  have e : (fun (k : Nat) => xs[((0 : Int) + (k : Int) * 1).toNat]?) = fun k => xs[0 + k]? := by
    funext k
    rw [Int.mul_one, Int.zero_add, Int.toNat_natCast, Nat.zero_add]
  rw [e]
  have := pick_run xs 0 b
  rw [List.filterMap_map] at this
  rw [show (fun k => xs[0 + k]?) = ((fun x => xs[x]?) ∘ fun x => 0 + x) from rfl, this, List.drop_zero]
theorem getItem_tuple_upto {t sl : Addr} {items : Array Value} {b n : Nat} {u : Tok} {s : Shared} {E : Value → Shared → Prop} {Q : Value → Shared → Prop} (ht : IsT s.heap t items n) (hs : s.heap.IsSliceOf sl .none (.int b u) .none) (hb : b < items.size)
    (h : Q (.ref s.heap.objs.size) { s with heap := s.heap.push { cls := .type "tuple", data := .seq (items.toList.take b).toArray } })
    (hsz : items.size ≤ sizeLine) : wpAny (model cx.prog cx.w) A (getItem (.ref t) (.ref sl)) Q E s := by
  have hdrop : sizeOk (.seq (items.toList.take b).toArray) := by
    show (items.toList.take b).toArray.size ≤ sizeLine
    rw [List.size_toArray, List.length_take, Array.length_toList]
    exact Nat.le_trans (Nat.min_le_right _ _) hsz
  have hT : s.TypeIs (.ref t) "tuple" := ⟨_, ht, rfl⟩
  obtain ⟨os, hos, hcs, hds⟩ := id hs
  have hTs : s.TypeIs (.ref sl) "slice" := ⟨os, hos, hcs⟩
  unfold getItem
  try with_reducible refine wpAny_holding ?_
  first | refine wpAny_bind (wpAny_pure ?_) | skip
  refine wpAny_bind (wpAny_sequenceKey hT (by decide) ?_)
  refine wpAny_bind (wpAny_callSpecial?_slot (name := Str.ofString "__getitem__") hT slot_tuple_getitem
    (wpAny_call_entry slot_tuple_getitem hT entry_tuple_getitem ?_ (args_tuple_getitem _ _)))
  show wpAny _ _ (Builtin.Tuple.tupleItemsOf (.ref t) >>= _) _ _ s
  refine wpAny_bind (tupleItemsOf_ ⟨_, ht, rfl, n, rfl⟩ ?_)
  refine wpAny_bind (wpAny_typeOf hTs ?_)
  rw [if_pos (by decide)]
  refine wpAny_bind (sliceApplied_upto hs (Nat.le_of_lt hb) ?_)
  have hno : ¬ (((0 : Int) == 0 && (1 : Int) == 1 && b == items.size) = true) := by
    rw [show (b == items.size) = false from beq_eq_false_iff_ne.mpr (Nat.ne_of_lt hb)]; decide
  show wpAny _ _ (if ((0 : Int) == 0 && (1 : Int) == 1 && b == items.size) = true then _ else _) _ _ s
  rw [if_neg hno, pick_upto items b]
  first
    | exact wpAny_bind (m := Builtin.Tuple.tupleExact _) (wpAny_newObj_type (wpAny_pure ⟨_, rfl, wpAny_pure h⟩) hdrop)
    | exact wpAny_bind (m := Builtin.Tuple.tupleExact _) (wpAny_newObj_type (wpAny_bind (wpAny_pure (wpAny_pure ⟨_, rfl, wpAny_pure h⟩))) hdrop)
    | exact wpAny_bind (wpAny_bind (m := Builtin.Tuple.tupleExact _) (wpAny_newObj_type (wpAny_pure (wpAny_pure ⟨_, rfl, wpAny_pure h⟩)) hdrop))
    | exact wpAny_bind (wpAny_bind (m := Builtin.Tuple.tupleExact _) (wpAny_newObj_type (wpAny_pure ⟨_, rfl, wpAny_pure h⟩) hdrop))
theorem slice_rf {mu : Bool} {o : AV} {sl : Addr} {v vl vu : Value} {lo hi : Option Int} {t : Sem Value} (ro : VR cx w o v) (hs : w.s.heap.IsSliceOf sl vl vu .none) (pl : IsPart vl lo) (pu : IsPart vu hi)
    (ht : ∀ {Q E : Value → Shared → Prop}, Subs w.s v → wpAny (model cx.prog cx.w) A (getItem v (.ref sl)) Q E w.s → wpAny (model cx.prog cx.w) A t Q E w.s) : Rf cx A p w (VR cx) (pSlice mu o lo hi) t := by
  have lists : Rf cx A p w (VR cx) (do let xs ← listOf o; newL mu (cut xs lo hi)) t := .read (listOf_rd ro) fun xs ⟨a, vs, n, e, hl, hz, hvs⟩ H S r H' he => by
    subst e
    exact ht (.list hl) (wpAny_getItem_list_slice hl.isList hs pl pu .none (by simp) (newL_post S he (t := w.s.toks) (pushk _) (get_size _) (IsL.new _ _) (cut_vrs hvs lo hi)) (by rw [hvs.size]; exact Nat.le_trans hz LIM_le))
  cases o with
  | tup xs =>
    cases lo with
    | some _ => exact .stuck
    | none =>
      cases hi with
      | none => exact .stuck
      | some b =>
        refine ite_rf (fun hb => .leaf fun H S => ?_) fun _ => .stuck
        obtain ⟨a, vs, n, rfl, h1, h2, h3, h4⟩ := ro
        cases pl
        cases pu with | int _ u =>
        obtain ⟨k, rfl⟩ := Int.eq_ofNat_of_zero_le hb.1
        have hk : k < xs.length := Int.ofNat_lt.mp hb.2
        refine ht (.tuple h1) (getItem_tuple_upto h1 hs (by rw [h4.size]; exact hk) ?_ (by rw [h4.size]; exact Nat.le_trans h3 LIM_le))
        exact ⟨w.ι, w.π, _, rfl, .keeps (pushk _), S.keeps (t := w.s.toks) (pushk _), .tup (IsT.new _ _) (S.new (get_size _)) (by rw [List.length_take]; exact Nat.le_trans (Nat.min_le_right _ _) h3) ((h4.take k).mono (p := No) (.keeps (pushk _)))⟩
  | _ => exact lists
/-- a store into a list or a dict -/
theorem stored_map {es : List (Str × AV)} {kvs : List (Str × Value)} {k : Str} {a : AV} {v : Value} (ra : VR cx w a v) (he : kvs.map (·.1) = es.map (·.1)) (r : VRs cx w (es.map (·.2)) (kvs.map (·.2))) :
    (kvs.map fun e => if e.1 = k then (e.1, v) else e).map (·.1) = (es.map fun e => if e.1 = k then (e.1, a) else e).map (·.1) ∧ VRs cx w ((es.map fun e => if e.1 = k then (e.1, a) else e).map (·.2)) ((kvs.map fun e => if e.1 = k then (e.1, v) else e).map (·.2)) := by
  induction es generalizing kvs with
  | nil => cases kvs with | nil => exact ⟨rfl, .nil⟩ | cons _ _ => cases he
  | cons e es ih =>
    cases kvs with
    | nil => cases he
    | cons kv kvs =>
      obtain ⟨h1, h2⟩ := List.cons.inj he
      obtain ⟨x, us, q, r1, r2⟩ := r
      obtain ⟨q1, q2⟩ := List.cons.inj q
      obtain ⟨i1, i2⟩ := ih h2 (q2 ▸ r2)
      have h1 : kv.1 = e.1 := h1
      have q1 : kv.2 = x := q1
      rw [List.map_cons, List.map_cons, List.map_cons, List.map_cons, List.map_cons, List.map_cons, i1]
      by_cases hk : e.1 = k
      · rw [if_pos hk, if_pos (h1.trans hk)]
        exact ⟨by rw [h1], .cons ra i2⟩
      · rw [if_neg hk, if_neg (fun z => hk (h1.symm.trans z))]
        exact ⟨by rw [h1], .cons (q1 ▸ r1) i2⟩
theorem stored_put {es : List (Str × AV)} {kvs : List (Str × Value)} {k : Str} {a : AV} {v : Value} (ra : VR cx w a v) (he : kvs.map (·.1) = es.map (·.1)) (r : VRs cx w (es.map (·.2)) (kvs.map (·.2))) :
    (stored kvs k v).map (·.1) = (put es k a).map (·.1) ∧ VRs cx w ((put es k a).map (·.2)) ((stored kvs k v).map (·.2)) := by
  have hany : kvs.any (fun kv => kv.1 = k) = es.any (fun e => e.1 = k) := by
    have : (kvs.map (·.1)).any (fun x => x = k) = (es.map (·.1)).any (fun x => x = k) := by rw [he]
    rw [List.any_map, List.any_map] at this; exact this
  unfold stored put
  rw [hany]
  split
  · exact stored_map ra he r
  · rw [List.map_append, List.map_append, List.map_append, List.map_append]
    exact ⟨by rw [he]; rfl, r.append (.cons ra .nil)⟩
theorem put_length (es : List (Str × AV)) (k : Str) (v : AV) : (put es k v).length ≤ es.length + 1 := by
  unfold put; split
  · rw [List.length_map]; exact Nat.le_succ _
  · rw [List.length_append]; exact Nat.le_refl _
theorem setItem_isL {l : Addr} {items : Array Value} {n : Nat} {k : Int} {t : Tok} {v : Value} {s : Shared} {E : Value → Shared → Prop} {Q : Unit → Shared → Prop} (hl : IsL s.heap l items n)
    (h0 : 0 ≤ k) (hfit : k < 2 ^ 63) (hn : k < items.size) (hQ : ∀ h' n', IsL h' l (items.setIfInBounds k.toNat v) n' → Heap.SameBut l s.heap h' → Q () { s with heap := h' }) :
    wpAny (model cx.prog cx.w) A (setItem (.ref l) (.int k t) v) Q E s := by
  unfold setItem
  try with_reducible refine wpAny_holding ?_
  first | refine wpAny_bind (wpAny_pure ?_) | skip
  refine wpAny_bind (wpAny_sequenceKey hl.isList.typeIs (by decide) ?_)
  refine wpAny_bind (wpAny_callSpecial?_slot (name := Str.ofString "__setitem__") hl.isList.typeIs slot_list_setitem
    (wpAny_call_entry slot_list_setitem hl.isList.typeIs entry_list_setitem ?_ (args_list_setitem _ _ _)))
  show wpAny _ _ (Builtin.List.listSubscript? (.int k t) >>= _) _ _ s
  refine wpAny_bind (wpAny_listSubscript_int (fitsIndex_of h0 hfit) ?_)
  clear hfit
  obtain ⟨j, rfl⟩ := Int.eq_ofNat_of_zero_le h0
  have hj : j < items.size := by omega
  have hx' : items[j]? = some items[j] := Array.getElem?_eq_getElem hj
  show wpAny _ _ ((seqItemAt l j >>= fun r => pure (r.map (j, ·))) >>= _) _ _ s
  refine wpAny_bind (wpAny_bind (wpAny_seqItemAt hl rfl (wpAny_pure ?_)))
  rw [hx']
  show wpAny _ _ (setSeqItemAt l j v >>= _) _ _ s
  refine wpAny_bind (wpAny_setSeqItemAt hl rfl ?_)
  first
    | exact wpAny_bind (wpAny_pure (wpAny_pure ⟨.none, rfl, wpAny_pure (hQ _ _ (IsL.update hl _) (Heap.SameBut.update ..))⟩))
    | exact wpAny_pure ⟨.none, rfl, wpAny_pure (hQ _ _ (IsL.update hl _) (Heap.SameBut.update ..))⟩
/-- no answer is asked of -/
def Ru {α β : Type} (w : Wl) (a : α) (b : β) : Prop := True
theorem storeK_rf {l : Nat} {a : Addr} {k : Str} {t : Tok} {x : AV} {u : Value} (hl : w.ι[l]? = some a) (rx : VR cx w x u) : Rf cx A p w Ru (storeK l k x) (setItem (.ref a) (.str k t) u) :=
  .read (dictAt_rd hl) fun es ⟨kvs, h1, h2, h3, h4⟩ => ite_rf (fun hlen H S r H' he => by
    cases he
    refine wpAny_setItem_pairs (strKind_is _ _ _ _) h1 (fun h' hd' hsb => ?_) ?_
    · obtain ⟨q1, q2⟩ := stored_put (k := k) rx h3 h4
      obtain ⟨l1, S'⟩ := S.turn (t := w.s.toks + 1) (o := .dict (put es k x)) hl (fun b q hb e => (hsb.2 b hb).trans e) fun l1 => ⟨_, hd', ⟨h2.1, Nat.le_trans (put_length es k x) hlen⟩, q1, q2.mono l1⟩
      exact ⟨_, _, _, rfl, l1.no, S', trivial⟩
    · have := congrArg List.length h3; simp only [List.length_map] at this; have := LIM_le; omega) fun _ => .stuck
theorem storeI_rf {l : Nat} {a : Addr} {k : Int} {t : Tok} {x : AV} {u : Value} (hl : w.ι[l]? = some a) (rx : VR cx w x u) : Rf cx A p w Ru (storeI l k x) (setItem (.ref a) (.int k t) u) :=
  .read (listAt_rd hl) fun xs ⟨vs, n, hL, hz, hs⟩ => ite_rf (fun hk H S r H' he => by
    cases he
    have hsz := hs.size
    have hz' := LIM_is
    refine setItem_isL hL hk.1 (by omega) (by omega) fun h' n' hL' hsb => ?_
    obtain ⟨l1, S'⟩ := S.turn (t := w.s.toks) (o := .list (xs.set k.toNat x)) hl (fun b q hb e => (hsb.2 b hb).trans e) fun l1 => by
      refine ⟨_, n', hL', by rw [List.length_set]; exact hz, ?_⟩
      rw [Array.toList_setIfInBounds]
      exact (hs.set _ rx).mono l1
    exact ⟨_, _, _, rfl, l1.no, S', trivial⟩) fun _ => .stuck
theorem store_rf {o i x : AV} {v u y : Value} (ro : VR cx w o v) (ri : VR cx w i u) (rx : VR cx w x y) : Rf cx A p w Ru (pStore o i x) (setItem v u y) := by
  cases o with
  | loc l =>
    cases i with
    | str k => exact ro.locE fun a hl => ri.strE fun t => storeK_rf hl rx
    | int k => exact ro.locE fun a hl => ri.intE fun t => storeI_rf hl rx
    | _ => exact .stuck
  | _ => exact .stuck

/-- isinstance -/
noncomputable def tyStr : Ty → String
  | .int => "int"
  | .bool => "bool"
  | .str => "str"
  | .tuple => "tuple"
  | .list => "list"
theorem isi_list {l : Addr} {vs : Array Value} {n : Nat} (hl : IsL w.s.heap l vs n) (t : Ty) : Rf cx A p w Rb (pure (tyLe .list t)) (call (.builtin "isinstance") [.ref l, .type (tyStr t)]) := .leaf fun H S => by
  have hL := hl.isList
  cases t with
  | int => exact IsiPair.isList_int hL (fun _ _ e => e) (.tok S _ rfl)
  | bool => exact IsiPair.isList_bool hL (fun _ _ e => e) (.tok S _ rfl)
  | str => exact IsiPair.isList_str hL (fun _ _ e => e) (.tok S _ rfl)
  | tuple => exact IsiPair.isList_tuple hL (fun _ _ e => e) (.tok S _ rfl)
  | list => exact IsiPair.isList_list hL (fun _ _ e => e) (.here S rfl)
theorem isi_rf {a : AV} {t : Ty} {v : Value} (ra : VR cx w a v) : Rf cx A p w Rb (pIsi a t) (call (.builtin "isinstance") [v, .type (tyStr t)]) := by
  cases a with
  | none =>
    refine ra.noneE (.leaf fun H S => ?_)
    cases t with
    | int => exact IsiPair.NoneType_int (.tok S _ rfl)
    | bool => exact IsiPair.NoneType_bool (.tok S _ rfl)
    | str => exact IsiPair.NoneType_str (.tok S _ rfl)
    | tuple => exact IsiPair.NoneType_tuple (.tok S _ rfl)
    | list => exact IsiPair.NoneType_list (.tok S _ rfl)
  | bool b =>
    refine ra.boolE (.leaf fun H S => ?_)
    cases t with
    | int => exact IsiPair.bool_int (.here S rfl)
    | bool => exact IsiPair.bool_bool (.here S rfl)
    | str => exact IsiPair.bool_str (.tok S _ rfl)
    | tuple => exact IsiPair.bool_tuple (.tok S _ rfl)
    | list => exact IsiPair.bool_list (.tok S _ rfl)
  | int i =>
    refine ra.intE fun u => .leaf fun H S => ?_
    cases t with
    | int => exact IsiPair.int_int (.here S rfl)
    | bool => exact IsiPair.int_bool (.tok S _ rfl)
    | str => exact IsiPair.int_str (.tok S _ rfl)
    | tuple => exact IsiPair.int_tuple (.tok S _ rfl)
    | list => exact IsiPair.int_list (.tok S _ rfl)
  | str x =>
    refine ra.strE fun u => .leaf fun H S => ?_
    cases t with
    | int => exact IsiPair.str_int (.tok S _ rfl)
    | bool => exact IsiPair.str_bool (.tok S _ rfl)
    | str => exact IsiPair.str_str (.here S rfl)
    | tuple => exact IsiPair.str_tuple (.tok S _ rfl)
    | list => exact IsiPair.str_list (.tok S _ rfl)
  | tup xs =>
    refine ra.tupE fun l vs n hl _ _ _ => .leaf fun H S => ?_
    have hL : w.s.heap.IsTuple l vs := ⟨_, hl, rfl, _, rfl⟩
    cases t with
    | int => exact IsiPair.isTuple_int hL (fun _ _ e => e) (.tok S _ rfl)
    | bool => exact IsiPair.isTuple_bool hL (fun _ _ e => e) (.tok S _ rfl)
    | str => exact IsiPair.isTuple_str hL (fun _ _ e => e) (.tok S _ rfl)
    | tuple => exact IsiPair.isTuple_tuple hL (fun _ _ e => e) (.here S rfl)
    | list => exact IsiPair.isTuple_list hL (fun _ _ e => e) (.tok S _ rfl)
  | lst xs => exact ra.lstE fun l vs n hl _ _ _ => isi_list hl t
  | loc i => exact ra.locE fun l h => .read (listAt_rd h) fun xs ⟨vs, n, hl, _⟩ => isi_list hl t
  | _ => exact .stuck
end
end Mine


set_option autoImplicit false
set_option linter.unusedVariables false
namespace Mine
open PySem PyProof.Rows PySem.SeqAt

section
variable {cx : Cx} {A : Around} {p : Addr → Prop} {w : Wl} {H : AHeap}
-- methods of lists
theorem toList_eraseIdx (vs : Array Value) (k : Nat) (hk : k < vs.size) : (vs.eraseIdxIfInBounds k).toList = vs.toList.eraseIdx k := by
  rw [Array.eraseIdxIfInBounds, dif_pos hk]; exact Array.toList_eraseIdx
theorem St.listTurn (S : St cx w H) {i : Nat} {a : Addr} {ws : Array Value} {n : Nat} {xs : List AV} (f : Array Value → Array Value) (hl : w.ι[i]? = some a) (hL : IsL w.s.heap a ws n) (hz : xs.length ≤ LIM) (hs : VRs cx w xs (f ws).toList) :
    Le cx No w ⟨w.ι, w.π, { w.s with heap := w.s.heap.update a (Obj.mapSeq f) }⟩ ∧ St cx ⟨w.ι, w.π, { w.s with heap := w.s.heap.update a (Obj.mapSeq f) }⟩ (H.set i (.list xs)) :=
  S.turn (t := w.s.toks) hl (fun b q hb e => (Heap.get?_update_other _ _ (Ne.symm hb)).trans e) fun l => ⟨_, _, IsL.update hL f, hz, hs.mono l⟩
/-- a list is turned, and c answered -/
theorem turn_post (S : St cx w H) {i : Nat} {a : Addr} {ws : Array Value} {n : Nat} {xs : List AV} {c : AV} {v : Value} {r : Except Str AV} {H' : AHeap} (f : Array Value → Array Value) (hl : w.ι[i]? = some a) (hL : IsL w.s.heap a ws n) (hz : xs.length ≤ LIM) (hs : VRs cx w xs (f ws).toList) (rc : VR cx w c v)
    (he : (do setAt i (.list xs); pure c : M AV) H = some (r, H')) : Post cx p w (VR cx) r H' v { w.s with heap := w.s.heap.update a (Obj.mapSeq f) } := by
  cases he
  obtain ⟨l, S'⟩ := S.listTurn f hl hL hz hs
  exact ⟨_, _, _, rfl, l.no, S', rc.mono l⟩
section
variable {i : Nat} {a : Addr} {xs : List AV} {ws : Array Value} {n : Nat} (hl : w.ι[i]? = some a) (hL : IsL w.s.heap a ws n) (hz : xs.length ≤ LIM) (hs : VRs cx w xs ws.toList)
include hl hL hz hs
theorem append_rf : ∀ {as : List AV} {vs : List Value}, VRs cx w as vs → Rf cx A p w (VR cx) (mAppend i xs as) (PySem.call (.builtin "list.append") (.ref a :: vs))
  | [], _, _ => .stuck
  | _ :: _ :: _, _, _ => .stuck
  | [c], vs, r => r.consE fun v us rc r0 => r0.nilE (ite_rf (fun h H S q H' he => call_meets F.slot_list_append ⟨_, hL, rfl⟩ F.entry_list_append (F.args_list_append_2 _ _) (list_append _ ws n v (by rw [hs.size]; exact Nat.le_trans hz LIM_le))
      ⟨hL, turn_post S (fun x1 => x1.push v) hl hL (by rw [List.length_append]; exact h) (by rw [Array.toList_push]; exact hs.append (.cons rc .nil)) .none he⟩) fun _ => .stuck)
theorem popAt_post {j : Nat} {y : AV} {yv : Value} (S : St cx w H) (hy : xs[j]? = some y) (ry : VR cx w y yv) {r : Except Str AV} {H' : AHeap} (he : popAt i xs j H = some (r, H')) : Post cx p w (VR cx) r H' yv { w.s with heap := w.s.heap.update a (Obj.mapSeq fun x1 => x1.eraseIdxIfInBounds j) } := by
  unfold popAt at he
  rw [hy] at he
  exact turn_post S (fun x1 => x1.eraseIdxIfInBounds j) hl hL (Nat.le_trans (List.length_eraseIdx_le xs j) hz) (by rw [toList_eraseIdx _ _ (by rw [hs.size]; exact (List.getElem?_eq_some_iff.mp hy).1)]; exact hs.eraseIdx j) ry he
theorem pop_rf {as : List AV} {vs : List Value} (r : VRs cx w as vs) : Rf cx A p w (VR cx) (mPop i xs as) (PySem.call (.builtin "list.pop") (.ref a :: vs)) := by
  have hLIM := LIM_is
  have hsz := hs.size
  have hw : ws.size ≤ sizeLine := by rw [hsz]; exact Nat.le_trans hz LIM_le
  match as, r with
  | [], r =>
    refine r.nilE ?_
    cases hy : xs[xs.length - 1]? with
    | none => show Rf cx A p w (VR cx) (popAt i xs (xs.length - 1)) _; unfold popAt; rw [hy]; exact .stuck
    | some y =>
      obtain ⟨yv, hyv, ry⟩ := hs.get hy
      exact fun H S q H' he => call_meets F.slot_list_pop ⟨_, hL, rfl⟩ F.entry_list_pop (F.args_list_pop_1 _) (MeetsSeq.list_pop_last _ ws n yv (by rw [← Array.getElem?_toList, hsz]; exact hyv) hw) ⟨hL, by rw [hsz]; exact popAt_post hl hL hz hs S hy ry he⟩
  | [c], r =>
    cases c with
    | int k =>
      refine r.consE fun v us rc r0 => r0.nilE (rc.intE fun t => ite_rf (fun hk => ?_) fun _ => .stuck)
      cases hy : xs[k.toNat]? with
      | none => unfold popAt; rw [hy]; exact .stuck
      | some y =>
        obtain ⟨yv, hyv, ry⟩ := hs.get hy
        exact fun H S q H' he => call_meets F.slot_list_pop ⟨_, hL, rfl⟩ F.entry_list_pop (F.args_list_pop_2 _ _) (MeetsSeq.list_pop_at _ ws n k _ k.toNat yv (fitsIndex_of hk.1 (by omega)) (seqIndex_of hk.1 (by omega)) (by rw [← Array.getElem?_toList]; exact hyv) hw) ⟨hL, popAt_post hl hL hz hs S hy ry he⟩
    | _ => exact .stuck
  | _ :: _ :: _, _ => exact .stuck
end
noncomputable def mtId : Mt → String
  | .append => "list.append"
  | .pop => "list.pop"
  | .clear => "list.clear"
  | .count => "list.count"
theorem methL_rf (R : Room A) {m : Mt} {i : Nat} {a : Addr} {xs as : List AV} {ws : Array Value} {n : Nat} {vs : List Value} (hl : w.ι[i]? = some a) (hL : IsL w.s.heap a ws n) (hz : xs.length ≤ LIM) (hs : VRs cx w xs ws.toList) (r : VRs cx w as vs) :
    Rf cx A p w (VR cx) (methL i xs as m) (PySem.call (.builtin (mtId m)) (.ref a :: vs)) := by
  cases m with
  | append => exact append_rf hl hL hz hs r
  | pop => exact pop_rf hl hL hz hs r
  | clear => exact .stuck
  | count => exact .stuck

-- built-in functions and types
noncomputable def biV : BI → Value
  | .len => .builtin "len"
  | .list => .type "list"
  | .tuple => .type "tuple"
  | .dict => .type "dict"
  | .int => .type "int"
  | .range => .type "range"
  | .min => .builtin "min"
  | .max => .builtin "max"
  | .any => .builtin "any"
  | .sorted => .builtin "sorted"
theorem small_of {a b : Int} (h : (small62 a && small62 b) = true) : Builtin.Range.small a b 1 = true := by
  unfold small62 at h
  simp only [Bool.and_eq_true, decide_eq_true_eq] at h
  exact small_one h.1.1 h.1.2 h.2.1 h.2.2
theorem range_count (a b : Int) : Builtin.Range.rangeSize a b 1 = ((b - a).toNat : Nat) := by
  rw [rangeSize_one]; split <;> omega
theorem VRs.at {xs : List AV} : ∀ {vs : List Value}, xs.length = vs.length → (∀ (j : Nat) a v, xs[j]? = some a → vs[j]? = some v → VR cx w a v) → VRs cx w xs vs := by
  induction xs with
  | nil => intro vs h _; rw [List.eq_nil_of_length_eq_zero h.symm]; exact .nil
  | cons a xs ih =>
    intro vs h k
    cases vs with
    | nil => cases h
    | cons v vs => exact .cons (k 0 a v rfl rfl) (ih (Nat.succ.inj h) fun j b u h1 h2 => k (j + 1) b u h1 h2)
theorem one_rf {as : List AV} {f : AV → M AV} {vs : List Value} {c : Value} (r : VRs cx w as vs) (k : ∀ a v, VR cx w a v → Rf cx A p w (VR cx) (f a) (PySem.call c [v])) : Rf cx A p w (VR cx) (one as f) (PySem.call c vs) := by
  match as, r with
  | [], _ => exact .stuck
  | _ :: _ :: _, _ => exact .stuck
  | [a], r => exact r.consE fun v us ra r0 => r0.nilE (k a v ra)
theorem len_rf {a : AV} {v : Value} (ra : VR cx w a v) : Rf cx A p w (VR cx) (do let xs ← seqOf a; pure (.int xs.length)) (PySem.call (.builtin "len") [v]) := .read (seqOf_rd ra) fun xs ⟨l, ws, n, e, hl, hz, hvs⟩ => by
  subst e
  have hsz := hvs.size
  have hLIM := LIM_is
  cases hl with
  | list hl => exact .leaf fun H S => PySem.Calls.call_len_list hl.isList (by omega) (by rw [hsz]; exact .tok S _ .int)
  | tuple hl => exact .leaf fun H S => P.len_tuple hl (by omega) (by rw [hsz]; exact .tok S _ .int)
theorem list_rf (hh : A.handled = none) {mu : Bool} {a : AV} {v : Value} (ra : VR cx w a v) : Rf cx A p w (VR cx) (bList mu a) (PySem.call (.type "list") [v]) := by
  have seqs : Rf cx A p w (VR cx) (do let xs ← seqOf a; newL mu xs) (PySem.call (.type "list") [v]) := .read (seqOf_rd ra) fun xs ⟨l, ws, n, e, hl, hz, hvs⟩ H S r H' he => by
    subst e
    have hw : ws.size ≤ sizeLine := by rw [hvs.size]; exact Nat.le_trans hz LIM_le
    cases hl with
    | list hl => exact call_list_seq l (.inl rfl) hl rfl rfl (fun h' c' hk hL => newL_post S he (t := w.s.toks) hk (get_size _) hL hvs) hw
    | tuple hl => exact call_list_seq l (.inr rfl) hl rfl rfl (fun h' c' hk hL => newL_post S he (t := w.s.toks) hk (get_size _) hL hvs) hw
  cases a with
  | range a b =>
    refine ra.rangeE fun d t u x hr hf => ite_rf (fun hsm H S r H' he => ?_) fun _ => .stuck
    have hlen := newL_len he
    unfold rangeL at hlen
    rw [List.length_map, List.length_range] at hlen
    refine call_list_range hh hr (small_of hsm) (range_count _ _) (Nat.le_trans hlen LIM_le) fun h' tk acc' c' hk hL hit => newL_post S he hk (get_size _) hL ?_
    unfold rangeL
    refine .at (by rw [List.length_map, List.length_range]; exact hit.1.symm) fun j a v h1 h2 => ?_
    rw [List.getElem?_map] at h1
    obtain ⟨i, h3, rfl⟩ := Option.map_eq_some_iff.mp h1
    obtain ⟨h4, h5⟩ := List.getElem?_eq_some_iff.mp h3
    rw [List.getElem_range] at h5
    subst h5
    obtain ⟨t, rfl⟩ := hit.2 j v (by rw [← Array.getElem?_toList]; exact h2)
    rw [Int.mul_one]; exact .int
  | _ => exact seqs
theorem tuple_rf {a : AV} {v : Value} (ra : VR cx w a v) : Rf cx A p w (VR cx) (do let xs ← listOf a; pure (.tup xs)) (PySem.call (.type "tuple") [v]) := .read (listOf_rd ra) fun xs ⟨l, ws, n, e, hl, hz, hvs⟩ => .leaf fun H S => by
  subst e
  refine call_tuple_list hl.isList (fun h' hk => ?_) (by rw [hvs.size]; exact Nat.le_trans hz LIM_le)
  have l1 : Le cx No w ⟨w.ι, w.π, { w.s with heap := h' }⟩ := .keeps hk
  have S₁ : St cx ⟨w.ι, w.π, { w.s with heap := h' }⟩ H := S.keeps (t := w.s.toks) hk
  exact ⟨w.ι, w.π, _, rfl, .trans (b := ⟨w.ι, w.π, { w.s with heap := h' }⟩) l1.no (.keeps (pushk _)), S₁.keeps (t := w.s.toks) (pushk _), .tup (IsT.new _ _) (S₁.new (get_size _)) hz ((hvs.mono l1).mono (p := No) (.keeps (pushk _)))⟩
theorem int_rf {a : AV} {v : Value} (ra : VR cx w a v) : Rf cx A p w (VR cx) (bInt a) (PySem.call (.type "int") [v]) := by
  cases a with
  | bool b => exact ra.boolE (.leaf fun H S => call_int_bool (.tok S _ .int))
  | _ => exact .stuck
theorem range_rf {as : List AV} {vs : List Value} (r : VRs cx w as vs) : Rf cx A p w (VR cx) (bRange as) (PySem.call (.type "range") vs) := by
  match as, r with
  | [], _ => exact .stuck
  | _ :: _ :: _ :: _, _ => exact .stuck
  | [a], r =>
    refine r.consE fun v us ra r0 => r0.nilE ?_
    cases a with
    | int i => exact ra.intE fun t => .leaf fun H S => call_range_1 ⟨w.ι, w.π, _, rfl, .keeps (pushk _), S.keeps (pushk _), ⟨_, _, _, _, rfl, IsRange.new .., S.new (get_size _)⟩⟩
    | _ => exact .stuck
  | [a, b], r =>
    refine r.consE fun v us ra r0 => r0.consE fun v' us' rb r1 => r1.nilE ?_
    cases a with
    | int i =>
      cases b with
      | int j => exact ra.intE fun t => rb.intE fun u => .leaf fun H S => call_range_2 ⟨w.ι, w.π, _, rfl, .keeps (pushk _), S.keeps (pushk _), ⟨_, _, _, _, rfl, IsRange.new .., S.new (get_size _)⟩⟩
      | _ => exact .stuck
    | _ => exact .stuck
theorem min_rf (hh : A.handled = none) {as : List AV} {vs : List Value} (r : VRs cx w as vs) : Rf cx A p w (VR cx) (bMin as) (PySem.call (.builtin "min") vs) := by
  match as, r with
  | [], _ => exact .stuck
  | [_], _ => exact .stuck
  | _ :: _ :: _ :: _, _ => exact .stuck
  | [a, b], r =>
    refine r.consE fun v us ra r0 => r0.consE fun v' us' rb r1 => r1.nilE ?_
    cases a with
    | int i =>
      cases b with
      | int j =>
        refine ra.intE fun t => rb.intE fun u => .leaf fun H S => min_two_ints hh fun h' tk hk => ⟨w.ι, w.π, _, rfl, .keeps hk, S.keeps hk, ?_⟩
        split <;> exact .int
      | _ => exact .stuck
    | _ => exact .stuck
theorem bi_rf {mu : Bool} {b : BI} (hh : looksH b = true → A.handled = none) {as : List AV} {vs : List Value} (r : VRs cx w as vs) : Rf cx A p w (VR cx) (pBI mu b as) (PySem.call (biV b) vs) := by
  cases b with
  | len => exact one_rf r fun a v ra => len_rf ra
  | list => exact one_rf r fun a v ra => list_rf (hh rfl) ra
  | tuple => exact one_rf r fun a v ra => tuple_rf ra
  | dict => exact .stuck
  | int => exact one_rf r fun a v ra => int_rf ra
  | range => exact range_rf r
  | min => exact min_rf (hh rfl) r
  | max => exact .stuck
  | any => exact .stuck
  | sorted => exact .stuck
end
end Mine


set_option autoImplicit false
set_option linter.unusedVariables false
namespace Mine
open PySem PyProof.Rows PySem.SeqAt

/-- ev does what the machine's eval does, wherever I stands -/
def EvOK (cx : Cx) (A : Around) (env : Env) (I : Wl → Prop) (ev : Expr → M AV) : Prop := ∀ e w, I w → Rf cx A No w (VR cx) (ev e) (eval e env)
def Stable (cx : Cx) (I : Wl → Prop) : Prop := ∀ w w', I w → Le cx No w w' → I w'
section
variable {cx : Cx} {A : Around} {p : Addr → Prop} {w : Wl} {α β γ δ : Type} {R : Wl → α → β → Prop} {m : M α} {t : Sem β}
theorem Rf.pureL {b : γ} {k : γ → Sem β} (x : Rf cx A p w R m (k b)) : Rf cx A p w R m (Pure.pure b >>= k) := fun H S r H' h => wpAny_bind (wpAny_pure (x H S r H' h))
theorem Rf.pureR {a : γ} {f : γ → M α} (x : Rf cx A p w R (f a) t) : Rf cx A p w R (Pure.pure a >>= f) t := by rw [pure_bind]; exact x
theorem Rf.operate {R : Wl → α → Value → Prop} {t : Sem Value} {vs : List Value} (x : Rf cx A p w R m t) : Rf cx A p w R m (PySem.operate vs t) := fun H S r H' h => wpAny_operating (x H S r H' h)
theorem Rf.release {vs ks : List Value} (x : Rf cx A p w R m t) : Rf cx A p w R m (PySem.release vs ks >>= fun _ => t) := fun H S r H' h => wpAny_bind (wpAny_release' (x H S r H' h))
theorem Rf.wp {t' : Sem β} (x : Rf cx A p w R m t) (h : ∀ {Q : β → Shared → Prop} {E : Value → Shared → Prop}, wpAny (model cx.prog cx.w) A t Q E w.s → wpAny (model cx.prog cx.w) A t' Q E w.s) : Rf cx A p w R m t' := fun H S r H' e => h (x H S r H' e)
end
section
variable {cx : Cx} {A : Around} {w : Wl} {env : Env} {I : Wl → Prop} {ev : Expr → M AV}
theorem exOk_star {e : Expr} {r : List Expr} (h : exOk e = true) : starEach (e :: r) env = (false, eval e env) :: starEach r env := by
  cases e <;> first | rfl | (cases h; done)
theorem exOk_behind {op : CmpOp} {e : Expr} {t : Sem Value} (h : exOk e = true) : markedBehindIn op e t = t := by
  cases e <;> first | rfl | (cases h; done)
theorem exOk_set {e : Expr} {v : Value} (h : exOk e = true) : foldedSetIterable e env v = pure v := by
  cases e <;> first | rfl | (cases h; done)
def VRn (cx : Cx) (n : Nat) (w : Wl) (as : List AV) (vs : List Value) : Prop := VRs cx w as vs ∧ as.length = n
theorem all_rf (hst : Stable cx I) (hev : EvOK cx A env I ev) (pos : Pos) : ∀ (es : List Expr) {w : Wl}, es.all exOk = true → I w → Rf cx A No w (VRn cx es.length) (evAll ev es) (spliced (backTo pos (starEach es env)))
  | [], w, _, i => .pure ⟨rfl, rfl⟩
  | e :: r, w, h, i => by
    rw [List.all_cons, Bool.and_eq_true] at h
    rw [exOk_star h.1]
    exact .bind (hev e w i) fun w1 a v l1 r1 => .pureL (.bind (.holding (all_rf hst hev pos r h.2 (hst _ _ i l1))) fun w2 as vs l2 r2 => .pure ⟨.cons (r1.mono l2) r2.1, congrArg Nat.succ r2.2⟩)
theorem each_rf (hst : Stable cx I) (hev : EvOK cx A env I ev) (pos : Pos) (es : List Expr) (i : I w) : Rf cx A No w (VRn cx es.length) (evEach ev es) (spliced (backTo pos (starEach es env))) := ite_rf (fun h => all_rf hst hev pos es h i) fun _ => .stuck
theorem bOp_rf (hst : Stable cx I) (hev : EvOK cx A env I ev) (pos : Pos) (op : BoolOp) : ∀ (es : List Expr) {w : Wl}, I w → Rf cx A No w (VR cx) (bOp ev op es) (boolOp pos op (evalEach es env))
  | [], w, i => .stuck
  | [e], w, i => hev e w i
  | e :: e2 :: r, w, i => by
    show Rf cx A No w (VR cx) _ (boolOp pos op (eval e env :: eval e2 env :: evalEach r env))
    rw [boolOp]
    · refine .bind (hev e w i) fun w1 a v l1 r1 => .standAt (.bind (.holding (truth_rf r1)) fun w2 x y l2 ⟨q1, q2⟩ => ?_)
      subst q1; subst q2
      have hb := r1.mono l2
      have ih := bOp_rf hst hev pos op (e2 :: r) (hst _ _ (hst _ _ i l1) l2)
      cases op <;> cases x
      · exact .pure hb
      · exact ih
      · exact ih
      · exact .pure hb
    · exact fun q => nomatch q
theorem marked_cons {op op' : CmpOp} {ops : List CmpOp} {e e' : Expr} {es : List Expr} : markedEach (op :: op' :: ops) (e :: e' :: es) (evalEach (e :: e' :: es) env) = eval e env :: markedEach (op' :: ops) (e' :: es) (evalEach (e' :: es) env) := rfl
theorem compareChain_two {pos : Pos} {v : Value} {op op' : CmpOp} {ops : List CmpOp} {x : Sem Value} {T : List (Sem Value)} : compareChain pos v (op :: op' :: ops) (x :: T) = (do
    let rv ← holding [v] x
    standAt pos
    let c ← holding [v, rv] (compareOp op v rv)
    release [v, rv] [c]
    if ← holding [c, rv] (truthy c) then compareChain pos rv (op' :: ops) T else pure c) := by
  rw [compareChain]
  intro q
  cases q
theorem testChain_two {pos : Pos} {v : Value} {op op' : CmpOp} {ops : List CmpOp} {x : Sem Value} {T : List (Sem Value)} : testChain pos v (op :: op' :: ops) (x :: T) = (do
    let rv ← holding [v] x
    standAt pos
    let c ← holding [v, rv] (compareOp op v rv)
    release [v, rv] [c]
    if ← holding [c, rv] (truthy c) then testChain pos rv (op' :: ops) T else pure false) := by
  rw [testChain]
  intro q
  cases q
theorem truthB_rf {b : Bool} {p : Addr → Prop} {α β : Type} {R : Wl → α → β → Prop} {m : M α} {vs : List Value} {k : Bool → Sem β} (x : Rf cx A p w R m (k b)) : Rf cx A p w R m (holding vs (truthy (.bool b)) >>= k) := fun H S r H' h => wpAny_bind (wpAny_holding (wpAny_truthy_bool (x H S r H' h)))
/-- a truth -/
def Rt (w : Wl) (a b : Bool) : Prop := a = b
theorem chain_rf (R : Room A) (hst : Stable cx I) (hev : EvOK cx A env I ev) (pos : Pos) : ∀ (ops : List CmpOp) (es : List Expr) {w : Wl} {a : AV} {v : Value}, I w → VR cx w a v →
    Rf cx A No w Rb (chain ev a ops es) (compareChain pos v ops (markedEach ops es (evalEach es env)))
  | [], _, w, a, v, i, r => .stuck
  | [op], [], w, a, v, i, r => .stuck
  | [op], _ :: _ :: _, w, a, v, i, r => .stuck
  | _ :: _ :: _, [], w, a, v, i, r => .stuck
  | op :: op' :: ops, [e], w, a, v, i, r => .stuck
  | [op], [e], w, a, v, i, r => ite_rf (fun hs => by
    show Rf cx A No w Rb (ev e >>= fun b => pCmp op a b) (compareChain pos v [op] [markedBehindIn op e (eval e env)])
    rw [exOk_behind hs, compareChain]
    exact .bind (.holding (hev e w i)) fun w1 b u l1 r1 => .standAt (.operate (cmp_rf R (r.mono l1) r1))) fun _ => .stuck
  | op :: op' :: ops, e :: e' :: es, w, a, v, i, r => by
    rw [marked_cons, compareChain_two]
    refine .bind (.holding (hev e w i)) fun w1 b u l1 r1 => .standAt (.bind (.holding (cmp_rf R (r.mono l1) r1)) fun w2 c x l2 q => .release ?_)
    rw [show x = .bool c from q]
    refine truthB_rf ?_
    cases c with
    | true => exact chain_rf R hst hev pos (op' :: ops) (e' :: es) (hst _ _ (hst _ _ i l1) l2) (r1.mono l2)
    | false => exact .pure rfl
theorem testChain_rf (R : Room A) (hst : Stable cx I) (hev : EvOK cx A env I ev) (pos : Pos) : ∀ (ops : List CmpOp) (es : List Expr) {w : Wl} {a : AV} {v : Value}, I w → VR cx w a v →
    Rf cx A No w Rt (chain ev a ops es) (testChain pos v ops (markedEach ops es (evalEach es env)))
  | [], _, w, a, v, i, r => .stuck
  | [op], [], w, a, v, i, r => .stuck
  | [op], _ :: _ :: _, w, a, v, i, r => .stuck
  | _ :: _ :: _, [], w, a, v, i, r => .stuck
  | op :: op' :: ops, [e], w, a, v, i, r => .stuck
  | [op], [e], w, a, v, i, r => ite_rf (fun hs => by
    show Rf cx A No w Rt (ev e >>= fun b => pCmp op a b) (testChain pos v [op] [markedBehindIn op e (eval e env)])
    rw [exOk_behind hs, testChain]
    refine .bind (.holding (hev e w i)) fun w1 b u l1 r1 => .standAt (.map (.operate (cmp_rf R (r.mono l1) r1)) fun w2 c x l2 q => ?_)
    rw [show x = .bool c from q]
    exact .leaf fun H S => wpAny_holding (wpAny_truthy_bool (.here S rfl))) fun _ => .stuck
  | op :: op' :: ops, e :: e' :: es, w, a, v, i, r => by
    rw [marked_cons, testChain_two]
    refine .bind (.holding (hev e w i)) fun w1 b u l1 r1 => .standAt (.bind (.holding (cmp_rf R (r.mono l1) r1)) fun w2 c x l2 q => .release ?_)
    rw [show x = .bool c from q]
    refine truthB_rf ?_
    cases c with
    | true => exact testChain_rf R hst hev pos (op' :: ops) (e' :: es) (hst _ _ (hst _ _ i l1) l2) (r1.mono l2)
    | false => exact .pure rfl
/-- a test, as if, while and comprehensions ask it -/
def TeOK (cx : Cx) (A : Around) (env : Env) (I : Wl → Prop) (te : Expr → M Bool) : Prop := ∀ e w, I w → Rf cx A No w Rt (te e) (isTrue e env (eval e env))
theorem tests_rf {te : Expr → M Bool} (hst : Stable cx I) (hte : TeOK cx A env I te) (op : BoolOp) : ∀ (es : List Expr) {w : Wl}, I w → Rf cx A No w Rt (tests te op es) (allTrue op es env)
  | [], w, i => by rw [allTrue]; exact .pure rfl
  | e :: r, w, i => by
    rw [allTrue]
    refine .bind (hte e w i) fun w1 x y l1 q => ?_
    rw [← show x = y from q]
    have ih := tests_rf hst hte op r (hst _ _ i l1)
    cases op <;> cases x
    · exact .pure rfl
    · exact ih
    · exact ih
    · exact .pure rfl
theorem denT_rf (R : Room A) (hst : Stable cx I) (hev : EvOK cx A env I ev) : ∀ n : Nat, TeOK cx A env I (denT ev n)
  | 0 => fun e w i => .stuck
  | n + 1 => fun e w i => by
    have ih := denT_rf R hst hev n
    have fin : ∀ e, Rf cx A No w Rt (plainT ev e) (do let v ← eval e env; standAt e.pos; holding [v] (truthy v)) := fun e => ite_rf (fun _ =>
      .bind (hev e w i) fun w1 a v l1 r1 => .standAt (.holding ((truth_rf r1).mono fun _ _ _ _ q => q.1))) fun _ => .stuck
    cases e with
    | UnaryOp op x p =>
      cases op with
      | Not =>
        show Rf cx A No w Rt (denT ev n x >>= fun b => pure (!b)) (PySem.isTrue x env (eval x env) >>= fun b => pure (!b))
        exact .bind (ih x w i) fun w1 b c l q => .pure (congrArg not q)
      | _ => exact fin _
    | BoolOp op vs p => exact (tests_rf hst ih op vs i).wp fun h => wpAny_isTrue_BoolOp h
    | Compare l ops cs p => rw [arm_isTrue_Compare]; exact .bind (hev l w i) fun w1 a v l1 r1 => testChain_rf R hst hev _ ops cs (hst _ _ i l1) r1
    | IfExp t b o p => exact .stuck
    | _ => exact fin _
end
end Mine


set_option autoImplicit false
set_option linter.unusedVariables false
set_option maxRecDepth 100000
namespace Mine
open PySem
open Sem (wp)

abbrev VEm : List Value := [.type "ValueError", .type "Exception", .type "BaseException", .type "object"]
/-- a class of the text, with no __class__ of its own -/
def NoC (h : Heap) (v : Value) : Prop := ∃ a c0 dd cd sl m, v = .ref a ∧ h.get? a = some { cls := c0, dict := dd, data := .cls cd, slots := sl } ∧ h.Ns cd.ns m ∧ m "__class__" = none
/-- an exception's class of the text; cs: the text's own classes that it is under -/
structure ExCls (h : Heap) (C : Addr) (cs : List Value) : Prop where
  obj : ∃ N nm q bs hdct sn sub ab col dd k0 k1 k2 k3 k5 mN, h.get? C = some (excClassObj nm q C N bs (cs ++ VEm) hdct sn sub ab col dd k0 k1 k2 k3 k5 "ValueError.__new__") ∧ h.Ns N mN ∧ (∀ n ∈ quietNames, mN n = none) ∧ mN "__class__" = none
  tail : OwnTailQ h VEm (cs ++ VEm)
  noC : ∀ v ∈ cs, NoC h v
theorem ExCls.keeps {h h' : Heap} {C : Addr} {cs : List Value} (x : ExCls h C cs) (hk : ∀ b o, h.get? b = some o → h'.get? b = some o) : ExCls h' C cs where
  obj := let ⟨N, nm, q, bs, hdct, sn, sub, ab, col, dd, k0, k1, k2, k3, k5, mN, h1, h2, h3⟩ := x.obj; ⟨N, nm, q, bs, hdct, sn, sub, ab, col, dd, k0, k1, k2, k3, k5, mN, hk _ _ h1, h2.keeps hk, h3⟩
  tail := x.tail.keeps hk
  noC := fun v hv => let ⟨a, c0, dd, cd, sl, m, h1, h2, h3, h4⟩ := x.noC v hv; ⟨a, c0, dd, cd, sl, m, h1, hk _ _ h2, h3.keeps hk, h4⟩

theorem lk_ve_class : typeLookup (.type "ValueError") "__class__" = pure (some (.builtin "object.__class__")) := by rw [typeLookup_type, builtinLookup_eq_fast]; kernel_rfl

section
variable {M : Model} {prog : Program} {w : World} {A : Around} {E : Value → Shared → Prop} {h : Heap} {g : Array GenState} {d : Drawn} {t : Nat} {os : OsState} {a C : Addr} {o : Obj} {cs : List Value}
theorem along_class {Q : Option Value → Shared → Prop} (hq : Q (some (.builtin "object.__class__")) ⟨h, g, d, t, os⟩) : ∀ cs : List Value, (∀ v ∈ cs, NoC h v) → wpAny M A (lookupAlong (cs ++ VEm) "__class__") Q E ⟨h, g, d, t, os⟩
  | [], _ => by
    have e := lk_ve_class
    rw [typeLookup_eq, F.attrBase_ValueError.mro] at e
    have e : lookupAlong VEm "__class__" = pure (some (.builtin "object.__class__")) := e
    show wpAny M A (lookupAlong VEm "__class__") _ _ _
    rw [e]
    exact wpAny_pure hq
  | v :: r, hn => by
    obtain ⟨b, c0, dd, cd, sl, m, e, h1, h2, h3⟩ := hn v (List.mem_cons_self ..)
    subst e
    show wpAny M A (lookupAlong (.ref b :: (r ++ VEm)) "__class__") _ _ _
    rw [lookupAlong_cons]
    refine wpAny_bind (wpAny_classOwn_cls h1 h2 ?_)
    rw [h3]
    exact along_class hq r fun v hv => hn v (List.mem_cons_of_mem _ hv)
theorem ExCls.lookClass (X : ExCls h C cs) {Q : Option Value → Shared → Prop} (hq : Q (some (.builtin "object.__class__")) ⟨h, g, d, t, os⟩) : wpAny M A (typeLookup (.ref C) "__class__") Q E ⟨h, g, d, t, os⟩ := by
  obtain ⟨N, nm, q, bs, hdct, sn, sub, ab, col, dd, k0, k1, k2, k3, k5, mN, hC, hN, hq', hc⟩ := X.obj
  rw [typeLookup_eq]
  refine wpAny_bind (wpAny_mroOf_exc hC ?_)
  rw [lookupAlong_cons]
  refine wpAny_bind (wpAny_classOwn_exc hC hN ?_)
  rw [hc]
  exact along_class hq cs X.noC
theorem ExCls.sub (X : ExCls h C cs) {base : Value} {Q : Bool → Shared → Prop} (hq : Q ((Value.ref C :: (cs ++ VEm)).contains base) ⟨h, g, d, t, os⟩) : wpAny M A (isSubtype (.ref C) base) Q E ⟨h, g, d, t, os⟩ :=
  let ⟨_, _, _, _, _, _, _, _, _, _, _, _, _, _, _, _, hC, _⟩ := X.obj
  wpAny_isSubtype_exc hC hq
theorem ExCls.has (X : ExCls h C cs) {T : String} (hT : VEm.contains (.type T) = true) : (Value.ref C :: (cs ++ VEm)).contains (.type T) = true := by
  rw [List.contains_cons, X.tail.tail.hasType hT, Bool.or_true]

theorem exc_class_get (X : ExCls h C cs) {R : Result → Shared → Prop} (hx : h.get? a = some o) (hc : o.cls = .ref C) (hq : R (.ok (.ret (.ref C))) ⟨h, g, d, t, os⟩) :
    codeAny (model prog w) A (.call (.builtin "getset_descriptor.__get__") ⟨[.builtin "object.__class__", .ref a, .ref C], []⟩) R ⟨h, g, d, t, os⟩ := by
  have hT5 : (⟨h, g, d, t, os⟩ : Shared).TypeIs (.builtin "object.__class__") "getset_descriptor" := F.typeOf_object_class
  have hcB : (Value.ref C :: (cs ++ VEm)).contains (.type (".".intercalate ("object.__class__".cutAt '.').dropLast)) = true := by
    rw [F.owner_object_class]; exact X.has (by decide)
  refine codeAny_call_builtin F.slot_gs_get.plain F.entry_gs_get (F.slot_gs_get.check _ _ _ _ _ _ _ _ hT5 (F.args_gs_get _ _ _) ?_)
  repeat (any_goals (first | assumption | (with_reducible refine wpAny_loadPart_at hx ?_; rw [hc]) | (with_reducible refine X.sub ?_; rw [hcB]) | wp_step))
  refine ⟨Code.quiet_builtin _ (by decide +kernel), codeAny_builtin F.entry_object_class ?_⟩
  repeat (any_goals (first | assumption | (with_reducible refine wpAny_loadPart_at hx ?_; rw [hc]) | wp_step))

theorem exc_class_entry (X : ExCls h C cs) {tk : Tok} {Q : Fin → Shared → Prop} (hx : h.get? a = some o) (hc : o.cls = .ref C) (hq : Q (.done (.ret (.ref C))) ⟨h, g, d, t, os⟩) :
    wpAny (model prog w) A (Builtin.«object.__getattribute__» ⟨[.ref a, .str "__class__" tk], []⟩) Q E ⟨h, g, d, t, os⟩ := by
  have hT5 : (⟨h, g, d, t, os⟩ : Shared).TypeIs (.builtin "object.__class__") "getset_descriptor" := F.typeOf_object_class
  have f5 := F.typeOf_object_class
  have f6 := F.slot_gs_get.lookup
  have f7 := F.slot_gs_set.lookup
  repeat (any_goals (first | assumption | (with_reducible refine wpAny_loadPart_at hx ?_; rw [hc]) | with_reducible refine X.lookClass ?_ | wp_step))
  refine exc_class_get X hx hc ?_
  repeat (any_goals (first | assumption | wp_step))
theorem exc_class_call (X : ExCls h C cs) {tk : Tok} {R : Result → Shared → Prop} (hx : h.get? a = some o) (hc : o.cls = .ref C) (hq : R (.ok (.ret (.ref C))) ⟨h, g, d, t, os⟩) :
    codeAny (model prog w) A (.call (.builtin "BaseException.__getattribute__") ⟨[.ref a, .str "__class__" tk], []⟩) R ⟨h, g, d, t, os⟩ :=
  let ⟨_, _, _, _, _, _, _, _, _, _, _, _, _, _, _, _, hC, _⟩ := X.obj
  codeAny_call_builtin F.attrBase_ValueError.ga.plain F.entry_bexc_ga (wpAny_check_ga_own F.attrBase_ValueError hC X.tail hx hc (exc_class_entry X hx hc hq))
theorem exc_class_by (X : ExCls h C cs) {tk : Tok} {Q : Value → Shared → Prop} (hx : h.get? a = some o) (hc : o.cls = .ref C) (hq : Q (.ref C) ⟨h, g, d, t, os⟩) :
    wpAny (model prog w) A (getAttrBy (.ref a) (.str "__class__" tk) false) Q E ⟨h, g, d, t, os⟩ := by
  obtain ⟨N, nm, q, bs, hdct, sn, sub, ab, col, dd, k0, k1, k2, k3, k5, mN, hC, hN, hmN, _⟩ := X.obj
  have f3 := F.attrBase_ValueError.ga.bind (.ref a)
  have hx2 : (Value.builtin "BaseException.__getattribute__" == Value.builtin "object.__getattribute__") = false := by decide +kernel
  have hx1 : (onTheHeap (Value.ref C) && Value.builtin "BaseException.__getattribute__" == Value.builtin "object.__getattribute__") = false := by rw [hx2]; rfl
  have hm1 : ("__getattribute__" : Str) ∈ quietNames := .tail _ (.head _)
  have hm2 : ("__getattr__" : Str) ∈ quietNames := .tail _ (.tail _ (.head _))
  repeat (any_goals (first | assumption | (with_reducible refine wpAny_loadPart_at hx ?_; rw [hc]) | with_reducible refine wpAny_typeLookup_tailQ hm1 hC hN hmN X.tail F.attrBase_ValueError.mro F.attrBase_ValueError.ga.lookup ?_ | with_reducible refine wpAny_typeLookup_tailQ hm2 hC hN hmN X.tail F.attrBase_ValueError.mro F.attrBase_ValueError.noGetattr ?_ | wp_step))
  refine exc_class_call X hx hc ?_
  repeat (any_goals (first | assumption | wp_step))
theorem exc_class_attr (X : ExCls h C cs) {Q : Option Value → Shared → Prop} (hx : h.get? a = some o) (hc : o.cls = .ref C) (hq : Q (some (.ref C)) ⟨h, g, d, t + 1, os⟩) : wpAny (model prog w) A (getAttr? (.ref a) "__class__") Q E ⟨h, g, d, t, os⟩ := by
  unfold getAttr? getAttrBy?
  repeat (any_goals (first | assumption | with_reducible apply exc_class_by X hx hc | wp_step))
end
end Mine


set_option autoImplicit false
set_option linter.unusedVariables false
set_option maxRecDepth 100000
namespace Mine
open PySem
open Sem (wp)
section
variable {M : Model} {prog : Program} {w : World} {A : Around} {E : Value → Shared → Prop} {h : Heap} {g : Array GenState} {d : Drawn} {t : Nat} {os : OsState} {a C D : Addr} {o : Obj} {cs ds : List Value}
theorem isi_nested_ref (X : ExCls h C cs) (Y : ExCls h D ds) {b : Bool} {dep : Int} {tk : Tok} {Q : Fin → Shared → Prop} (hx : h.get? a = some o) (hc : o.cls = .ref C) (hb : (Value.ref C :: (cs ++ VEm)).contains (.ref D) = b)
    (hq : ∀ t, Q (.done (.ret (.bool b))) ⟨h, g, d, t, os⟩) : wpAny (model prog w) A (Builtin.«isinstance.nested» ⟨[.ref a, .ref D, .int dep tk], []⟩) Q E ⟨h, g, d, t, os⟩ := by
  obtain ⟨N, nm, q, bs, hdct, sn, sub, ab, col, dd, k0, k1, k2, k3, k5, mN, hD, _⟩ := Y.obj
  obtain ⟨N', nm', q', bs', hdct', sn', sub', ab', col', dd', k0', k1', k2', k3', k5', mN', hC, _⟩ := X.obj
  by_cases he : (Value.ref C == Value.ref D) = true
  · have e : C = D := Value.ref.inj (beq_iff_eq.mp he)
    have hb' : b = true := by rw [← hb, ← e, List.contains_cons, beq_self_eq_true, Bool.true_or]
    subst hb'
    have hq := hq t
    repeat (any_goals (first | assumption | (with_reducible refine wpAny_loadPart_at hx ?_; rw [hc]) | wp_step))
  · have he' : (Value.ref C == Value.ref D) = false := Bool.eq_false_iff.mpr he
    have hq0 := hq t
    have hq1 := hq (t + 1)
    cases b with
    | true => repeat (any_goals (first | assumption | (with_reducible refine wpAny_loadPart_at hx ?_; rw [hc]) | with_reducible refine wpAny_loadPart_at hD ?_ | (with_reducible refine X.sub ?_; rw [hb]) | wp_step))
    | false => repeat (any_goals (first | assumption | (with_reducible refine wpAny_loadPart_at hx ?_; rw [hc]) | with_reducible refine wpAny_loadPart_at hD ?_ | with_reducible refine wpAny_loadPart_at hC ?_ | (with_reducible refine X.sub ?_; rw [hb]) | with_reducible refine exc_class_attr X hx hc ?_ | wp_step))
theorem isi_nested_ve (X : ExCls h C cs) {dep : Int} {tk : Tok} {Q : Fin → Shared → Prop} (hx : h.get? a = some o) (hc : o.cls = .ref C)
    (hq : Q (.done (.ret (.bool true))) ⟨h, g, d, t, os⟩) : wpAny (model prog w) A (Builtin.«isinstance.nested» ⟨[.ref a, .type "ValueError", .int dep tk], []⟩) Q E ⟨h, g, d, t, os⟩ := by
  have he' : (Value.ref C == Value.type "ValueError") = false := rfl
  have hty : typeOf (.type "ValueError") = pure (.type "type") := by kernel_rfl
  have hb : (Value.ref C :: (cs ++ VEm)).contains (.type "ValueError") = true := X.has (by decide)
  repeat (any_goals (first | assumption | (with_reducible refine wpAny_loadPart_at hx ?_; rw [hc]) | (with_reducible refine X.sub ?_; rw [hb]) | wp_step))
end
section
variable {prog : Program} {w : World} {A : Around} {E : Value → Shared → Prop} {s : Shared} {a C D : Addr} {o : Obj} {cs ds : List Value}
theorem isi_exc (X : ExCls s.heap C cs) (Y : ExCls s.heap D ds) {b : Bool} {Q : Value → Shared → Prop} (hx : s.heap.get? a = some o) (hc : o.cls = .ref C) (hb : (Value.ref C :: (cs ++ VEm)).contains (.ref D) = b) (hq : ∀ t, Q (.bool b) { s with toks := t }) :
    wpAny (model prog w) A (PySem.call (.builtin "isinstance") [.ref a, .ref D]) Q E s :=
  call_isinstance (S := fun _ R s => (s.heap.get? a = some o ∧ ExCls s.heap C cs ∧ ExCls s.heap D ds) ∧ ∀ t, R (.ok (.ret (.bool b))) { s with toks := t })
    (fun _ _ _ _ s hs => by obtain ⟨h, g, d, t, os⟩ := s; exact isinstance_outer (isi_nested_ref hs.1.2.1 hs.1.2.2 hs.1.1 hc hb hs.2) (by intro q; cases q)) ⟨⟨hx, X, Y⟩, hq⟩
theorem isi_exc_ve (X : ExCls s.heap C cs) {Q : Value → Shared → Prop} (hx : s.heap.get? a = some o) (hc : o.cls = .ref C) (hq : Q (.bool true) s) :
    wpAny (model prog w) A (PySem.call (.builtin "isinstance") [.ref a, .type "ValueError"]) Q E s :=
  call_isinstance (S := fun _ R s => (s.heap.get? a = some o ∧ ExCls s.heap C cs) ∧ R (.ok (.ret (.bool true))) s)
    (fun _ _ _ _ s hs => by obtain ⟨h, g, d, t, os⟩ := s; exact isinstance_outer (isi_nested_ve hs.1.2 hs.1.1 hc hs.2) (by intro q; cases q)) ⟨⟨hx, X⟩, hq⟩
/-- an exception of class C is caught by a clause for D -/
theorem matches_exc {h : Heap} {g : Array GenState} {d : Drawn} {t : Nat} {os : OsState} {M : Model} (X : ExCls h C cs) (Y : ExCls h D ds) {Q : Bool → Shared → Prop} (hx : h.get? a = some o) (hc : o.cls = .ref C) (hb : (Value.ref C :: (cs ++ VEm)).contains (.ref D) = true) (hq : Q true ⟨h, g, d, t, os⟩) :
    wpAny M A (excMatches (.ref a) (.ref D)) Q E ⟨h, g, d, t, os⟩ := by
  obtain ⟨N, nm, q, bs, hdct, sn, sub, ab, col, dd, k0, k1, k2, k3, k5, mN, hD, _⟩ := Y.obj
  have hcB : (Value.ref D :: (ds ++ VEm)).contains (.type "BaseException") = true := Y.has (by decide)
  have f := tc_notTuple
  unfold excMatches
  repeat (first | (with_reducible refine wpAny_loadPart_at hx ?_; rw [hc]) | with_reducible refine wpAny_loadPart_at hD ?_ | (with_reducible refine X.sub ?_; rw [hb]) | (with_reducible refine Y.sub ?_; rw [hcB]) | wp_step)
  exact hq
end
end Mine


set_option autoImplicit false
set_option linter.unusedVariables false
set_option maxRecDepth 100000
namespace Mine
open PySem
open Sem (wp)
theorem entry_unchain : entryFor table "proto.unchain" = some Builtin.«proto.unchain» := entryFor_of_fast (by kernel_rfl)
/-- what is being handled: nothing, or an exception that was raised while nothing was -/
def HdOK (A : Around) (h : Heap) : Prop := A.handled = none ∨ ∃ a o vs, A.handled = some (.ref a) ∧ h.get? a = some o ∧ o.data = .fields vs ∧ vs[2]? = some .none
theorem HdOK.keeps {A : Around} {h h' : Heap} (x : HdOK A h) (hk : ∀ b o, A.handled = some (.ref b) → h.get? b = some o → h'.get? b = some o) : HdOK A h' := x.imp id fun ⟨a, o, vs, h1, h2, h3⟩ => ⟨a, o, vs, h1, hk a o h1 h2, h3⟩
section
variable {prog : Program} {w : World} {A : Around} {E : Value → Shared → Prop} {s : Shared} {a : Addr} {o : Obj} {vs : Array Value}
theorem unchain_wp {e : Value} {Q : Value → Shared → Prop} (ha : s.heap.get? a = some o) (hd : o.data = .fields vs) (h2 : vs[2]? = some .none) (h : Q .none s) :
    wpAny (model prog w) A (runValue (.builtin "proto.unchain" ⟨[e, .ref a, .ref a, .bool false], []⟩)) Q E s := by
  refine wpAny_runValue (codeAny_builtin entry_unchain ?_)
  show wpAny _ _ (field (.ref a) 2 >>= _) _ _ s
  refine wpAny_bind (wpAny_field ha hd h2 ?_)
  rw [if_pos (by decide)]
  exact wpAny_pure h
/-- StopIteration is raised -/
theorem stop_wp {α : Type} {it : Addr} {Q : α → Shared → Prop} (hk : HdOK A s.heap) (h : ∀ h' e, Heap.ExtBut it s.heap h' → (⟨h', s.gens, s.drawn, s.toks, s.os⟩ : Shared).TypeIs (.ref e) "StopIteration" → E (.ref e) { s with heap := h' }) :
    wpAny (model prog w) A (newExc (.type "StopIteration") [] >>= fun e => (raiseNew e : Sem α)) Q E s := by
  refine wpAny_bind ?_
  simp only [newExc, newTuple]
  refine wpAny_bind (wpAny_newObj_type ?_ (by size_fits))
  refine wpAny_bind (m := firstArgMember _ _) (wpAny_of_eq (a := Value.none) (by first | rfl | (simp only [firstArgMember]; rfl)) ?_)
  refine wpAny_newObj_type ?_ (by size_fits)
  have x1 : Heap.ExtBut it s.heap _ := ((Heap.ExtBut.refl it s.heap).push { cls := .type "tuple", data := .seq ([] : List Value).toArray }).push { cls := .type "StopIteration", dict := none, data := .fields (#[Value.ref s.heap.objs.size, .none, .none, .none, .bool false, .none] ++ ownMembersOf (.type "StopIteration") []) }
  have k1 : ∀ b o, s.heap.get? b = some o → ((s.heap.push { cls := .type "tuple", data := .seq ([] : List Value).toArray }).push { cls := .type "StopIteration", dict := none, data := .fields (#[Value.ref s.heap.objs.size, .none, .none, .none, .bool false, .none] ++ ownMembersOf (.type "StopIteration") []) }).get? b = some o := fun b o e => Heap.get?_push_of_some _ (Heap.get?_push_of_some _ e)
  have g1 := Heap.get?_push_size (s.heap.push { cls := .type "tuple", data := .seq ([] : List Value).toArray }) (o := { cls := .type "StopIteration", dict := none, data := .fields (#[Value.ref s.heap.objs.size, .none, .none, .none, .bool false, .none] ++ ownMembersOf (.type "StopIteration") []) }) rfl
  simp only [raiseNew]
  refine wpAny_bind (wpAny_handled ?_)
  rcases hk with hh | ⟨a, o, vs, hh, h1, h2, h3⟩
  · first | rw [show A.in1.handled = none from hh] | rw [hh]
    exact wpAny_bind (wpAny_pure (wpAny_throw (h _ _ x1 ⟨_, g1, rfl⟩)))
  · first | rw [show A.in1.handled = some (.ref a) from hh] | rw [hh]
    have hne : a ≠ (s.heap.push { cls := .type "tuple", data := .seq ([] : List Value).toArray }).objs.size := by
      rw [Heap.size_push]; exact Nat.ne_of_lt (Nat.lt_succ_of_lt (Heap.lt_size h1))
    show wpAny _ _ (if (Value.ref a != Value.ref _) = true then _ else _) _ _ _
    rw [if_pos (by simp only [bne_iff_ne, ne_eq, Value.ref.injEq]; exact hne)]
    refine wpAny_bind (wpAny_holding ?_)
    refine unchain_wp (a := a) (o := o) (vs := vs) ?_ h2 h3 ?_
    · exact k1 _ _ h1
    refine wpAny_bind ?_
    simp only [updateField]
    refine wpAny_bind (wpAny_load g1 ?_)
    refine wpAny_update g1 (wpAny_throw (h _ _ (fun b q hb e => ?_) ⟨_, Heap.get?_update_self _ g1 rfl, rfl⟩))
    exact (Heap.get?_update_other _ _ (Ne.symm (Nat.ne_of_lt (by rw [Heap.size_push]; exact Nat.lt_succ_of_lt (Heap.lt_size e))))).trans (k1 b q e)
theorem range_end {it : Addr} {x left step : Int} {Q : Option Value → Shared → Prop} (hk : HdOK A s.heap) (hit : IsRangeIter s.heap it x left step) (hleft : left ≤ 0) (hQ : ∀ h', Heap.ExtBut it s.heap h' → Q none { s with heap := h' }) :
    wpAny (model prog w) A (pyNext (.ref it)) Q E s := by
  have hT : s.TypeIs (.ref it) "range_iterator" := ⟨_, hit, rfl⟩
  unfold pyNext
  refine wpAny_bind (wpAny_attempt (wpAny_callSpecial?_slot (name := Str.ofString "__next__") hT F.slot_range_iterator_next (wpAny_call_entry F.slot_range_iterator_next hT F.entry_range_iterator_next ?_ (F.args_range_iterator_next_1 _))))
  show wpAny _ _ (field (.ref it) 0 >>= _) _ _ s
  refine wpAny_bind (wpAny_field hit rfl (x := rawInt x) rfl ?_)
  show wpAny _ _ (field (.ref it) 1 >>= _) _ _ s
  refine wpAny_bind (wpAny_field hit rfl (x := rawInt left) rfl ?_)
  show wpAny _ _ (field (.ref it) 2 >>= _) _ _ s
  refine wpAny_bind (wpAny_field hit rfl (x := rawInt step) rfl ?_)
  show wpAny _ _ (if left ≤ 0 then _ else _) _ _ s
  rw [if_pos hleft]
  refine wpAny_bind (wpAny_rule (wpAny_bind (stop_wp (it := it) (show HdOK A.in1 _ from hk) fun h' e x t => ?_)))
  exact wpAny_bind (wpAny_isInstance (T := "StopIteration") (b := true) t isSubtype_stop (wpAny_pure (hQ h' x)))
theorem list_end {it l : Addr} {i : Nat} {items : Array Value} {Q : Option Value → Shared → Prop} (hk : HdOK A s.heap) (hne : A.handled ≠ some (.ref it)) (hit : s.heap.IsListIter it l i) (hl : s.heap.IsList l items) (hx : items[i]? = none) (hQ : ∀ h', Heap.ExtBut it s.heap h' → Q none { s with heap := h' }) :
    wpAny (model prog w) A (pyNext (.ref it)) Q E s := by
  obtain ⟨o, ho, hc, hd⟩ := id hit
  obtain ⟨ol, hol, _, nl, hdl⟩ := hl
  unfold pyNext
  refine wpAny_bind (wpAny_attempt (wpAny_callSpecial?_slot (name := Str.ofString "__next__") hit.typeIs slot_listiter_next (wpAny_call_entry slot_listiter_next hit.typeIs entry_listiter_next ?_ (args_listiter_next _))))
  show wpAny _ _ (field (.ref it) 0 >>= _) _ _ s
  refine wpAny_bind (wpAny_field ho hd (x := .ref l) rfl ?_)
  show wpAny _ _ (if (Value.ref l == Value.none) = true then _ else _) _ _ s
  rw [if_neg (show ¬ ((Value.ref l == Value.none) = true) from Bool.false_ne_true)]
  show wpAny _ _ (field (.ref it) 1 >>= _) _ _ s
  refine wpAny_bind (wpAny_field ho hd (x := .int i 0) rfl ?_)
  show wpAny _ _ (seqItems? (.ref l) >>= _) _ _ s
  refine wpAny_bind (wpAny_seqItems hol hdl ?_)
  simp only [Int.toNat_natCast, hx]
  refine wpAny_bind (wpAny_rule (wpAny_bind (wpAny_setField ho hd (by simp) ?_)))
  refine stop_wp (it := it) (show HdOK A.in1 _ from hk.keeps fun b o h e => (Heap.get?_update_other _ _ fun (z : it = b) => hne (by rw [z]; exact h)).trans e) fun h' e x t => ?_
  exact wpAny_bind (wpAny_isInstance (T := "StopIteration") (b := true) t isSubtype_stop (wpAny_pure (hQ h' fun b q hb e => x b q hb ((Heap.get?_update_other _ _ (Ne.symm hb)).trans e))))
theorem tuple_end {it l : Addr} {i : Nat} {items : Array Value} {Q : Option Value → Shared → Prop} (hk : HdOK A s.heap) (hne : A.handled ≠ some (.ref it)) (hit : s.heap.IsTupleIter it l i) (hl : s.heap.IsTuple l items) (hx : items[i]? = none) (hQ : ∀ h', Heap.ExtBut it s.heap h' → Q none { s with heap := h' }) :
    wpAny (model prog w) A (pyNext (.ref it)) Q E s := by
  obtain ⟨o, ho, hc, hd⟩ := id hit
  obtain ⟨ol, hol, _, nl, hdl⟩ := hl
  unfold pyNext
  refine wpAny_bind (wpAny_attempt (wpAny_callSpecial?_slot (name := Str.ofString "__next__") hit.typeIs F.slot_tuple_iterator_next (wpAny_call_entry F.slot_tuple_iterator_next hit.typeIs F.entry_tuple_iterator_next ?_ (F.args_tuple_iterator_next_1 _))))
  show wpAny _ _ (field (.ref it) 0 >>= _) _ _ s
  refine wpAny_bind (wpAny_field ho hd (x := .ref l) rfl ?_)
  show wpAny _ _ (if (Value.ref l == Value.none) = true then _ else _) _ _ s
  rw [if_neg (show ¬ ((Value.ref l == Value.none) = true) from Bool.false_ne_true)]
  show wpAny _ _ (field (.ref it) 1 >>= _) _ _ s
  refine wpAny_bind (wpAny_field ho hd (x := .int i 0) rfl ?_)
  show wpAny _ _ (seqItems? (.ref l) >>= _) _ _ s
  refine wpAny_bind (wpAny_seqItems hol hdl ?_)
  simp only [Int.toNat_natCast, hx]
  refine wpAny_bind (wpAny_rule (wpAny_bind (wpAny_setField ho hd (by simp) ?_)))
  refine stop_wp (it := it) (show HdOK A.in1 _ from hk.keeps fun b o h e => (Heap.get?_update_other _ _ fun (z : it = b) => hne (by rw [z]; exact h)).trans e) fun h' e x t => ?_
  exact wpAny_bind (wpAny_isInstance (T := "StopIteration") (b := true) t isSubtype_stop (wpAny_pure (hQ h' fun b q hb e => x b q hb ((Heap.get?_update_other _ _ (Ne.symm hb)).trans e))))
end
end Mine


set_option autoImplicit false
set_option linter.unusedVariables false
namespace Mine
open PySem PyProof.Rows PySem.SeqAt

/-- the frame's own objects: its names' dict and its cells -/
def Own (env : Env) (b : Addr) : Prop := b = env.locals ∨ ∃ n, env.cells.lookup n = some b
/-- what a call leans on: its own objects, and the outer calls' frames -/
def OwnF (cx : Cx) (env : Env) (b : Addr) : Prop := Own env b ∨ b ∈ cx.fr
theorem FrAt.le {cx : Cx} {p : Addr → Prop} {w w' : Wl} {b : Addr} (x : FrAt w b) (l : Le cx p w w') (h : ¬ p b) : FrAt w' b := let ⟨h1, o, es, ep, h2, h3⟩ := x; let ⟨sl, q, _⟩ := l.kp b o h1 h h2; ⟨l.pv b h1 h, _, es, ep, q, h3⟩
theorem FrAt.ns {w : Wl} {b : Addr} {m : Str → Option Value} (h1 : b ∈ w.π) (h2 : w.s.heap.Ns b m) : FrAt w b := let ⟨o, es, ep, e, d, _⟩ := h2; ⟨h1, o, es, ep, e, d⟩
/-- cx tells what is being handled -/
def HdA (cx : Cx) (A : Around) : Prop := A.handled = cx.hd.map Value.ref
theorem HdA.ok {cx : Cx} {A : Around} {w : Wl} (h : HdA cx A) (x : HdW cx w) : HdOK A w.s.heap := by
  unfold HdA at h
  cases hd : cx.hd with
  | none => rw [hd] at h; exact .inl h
  | some a => rw [hd] at h; obtain ⟨_, o, vs, q⟩ := x a hd; exact .inr ⟨a, o, vs, h, q⟩
theorem HdA.ne {cx : Cx} {A : Around} {w : Wl} {it : Addr} (h : HdA cx A) (x : HdW cx w) (hp : it ∈ w.π) : A.handled ≠ some (.ref it) := fun e => by
  unfold HdA at h
  rw [h] at e
  cases hd : cx.hd with
  | none => rw [hd] at e; cases e
  | some a => rw [hd] at e; cases e; exact (x it hd).1.2 hp
structure EnvK (env : Env) (sc : Scope) : Prop where
  kind : env.scope.kind = .function
  glob : env.globals = mainGlobals
  blt : env.builtins = builtinsNs
  klocal : ∀ x, isLocal sc x = true → env.kindOf x = some .local ∨ env.kindOf x = some .cell ∨ env.kindOf x = some .free
  kcell : ∀ x, sc.names.lookup x = some .cell → env.kindOf x = some .cell
  kglob : ∀ x, isGlob sc x = true → env.kindOf x = some .globalImplicit
/-- the frame holds the names' values σ -/
structure EnvR (cx : Cx) (env : Env) (sc : Scope) (ns : List Str) (σ : Loc) (w : Wl) : Prop where
  k : EnvK env sc
  pl : env.locals ∈ w.π
  nsm : ∃ m, w.s.heap.Ns env.locals m ∧ ∀ (x : Str) (i : Nat) (a : AV), ns.idxOf? x = some i → σ[i]? = some (some a) → env.kindOf x = some .local → ∃ v, m x = some v ∧ VR cx w a v
  cel : ∀ (x : Str) (i : Nat) (a : AV), ns.idxOf? x = some i → σ[i]? = some (some a) → (env.kindOf x = some .cell ∨ env.kindOf x = some .free) → ∃ c v, env.cells.lookup x = some c ∧ c ∈ w.π ∧ w.s.heap.IsCell c (some v) ∧ VR cx w a v
  has : ∀ x, ns.contains x = true → sc.names.lookup x = some .cell → ∃ c v, env.cells.lookup x = some c ∧ c ∈ w.π ∧ w.s.heap.IsCell c v
  cls : ∀ n c, env.cells.lookup n = some c → c ∈ w.π
  fr : ∀ b, b ∈ cx.fr → FrAt w b
  hd : HdW cx w
structure Good (cx : Cx) (P : Pg) : Prop where
  g : cx.h₀.Ns mainGlobals cx.mg
  b : cx.h₀.Ns builtinsNs cx.mb
  nolim : cx.h₀.NoLimit
  glob : ∀ x a, P.glob x = some a → ∃ v, cx.mg x = some v ∧ ∀ w H, St cx w H → VR cx w a v
  bi : ∀ x b, biOf x = some b → cx.mg x = none ∧ cx.mb x = some (biV b)
  isi : cx.mg "isinstance" = none ∧ cx.mb "isinstance" = some (.builtin "isinstance")
  ty : ∀ x t, tyOf x = some t → cx.mg x = none ∧ cx.mb x = some (.type (tyStr t))
  zip : cx.mg "zip" = none ∧ cx.mb "zip" = some (.type "zip")
  enum : cx.mg "enumerate" = none ∧ cx.mb "enumerate" = some (.type "enumerate")
  ve : cx.mg "ValueError" = none ∧ cx.mb "ValueError" = some (.type "ValueError")
  cls : ∀ c cs, P.cls c = some cs → (c == ("__debug__" : Str)) = false ∧ ∃ C vs, cx.mg c = some (.ref C) ∧ ExCls cx.h₀ C vs ∧
    ∀ x xs D, P.cls x = some xs → cx.mg x = some (.ref D) → (Value.ref C :: (vs ++ VEm)).contains (.ref D) = (decide (x = c) || cs.contains x)
/-- what is asked of the calls of the text's own defs -/
def CallOK (cx : Cx) (A : Around) (P : Pg) (cf : Str → List AV → M AV) : Prop := ∀ f, (P.fn f).isSome = true →
  (f == ("__debug__" : Str)) = false ∧ ∃ fa o fd, cx.mg f = some (.ref fa) ∧ cx.h₀.get? fa = some o ∧ o.data = .func fd ∧ ∀ w as vs, (∀ b, b ∈ cx.fr → FrAt w b) → HdW cx w → VRs cx w as vs → Rf cx A No w (VR cx) (cf f as) (PySem.call (.ref fa) vs)
section
variable {cx : Cx} {A : Around} {p : Addr → Prop} {w w' : Wl} {H : AHeap} {env : Env} {sc : Scope} {ns : List Str} {σ : Loc} {P : Pg}
theorem cell_up {h h' : Heap} {c : Addr} {v : Option Value} (x : h.IsCell c v) (e : ∀ o, h.get? c = some o → UpS cx c o (h'.get? c)) : h'.IsCell c v := let ⟨o, h1, h2⟩ := x; ⟨o, (e o h1).nd fun es ep z => by (rw [h2] at z; cases z), h2⟩
theorem EnvR.mono (x : EnvR cx env sc ns σ w) (l : Le cx p w w') (hq : ∀ b, OwnF cx env b → ¬ p b) : EnvR cx env sc ns σ w' := have hp : ∀ b, Own env b → ¬ p b := fun b h => hq b (.inl h)
 ⟨x.k,
  l.pv _ x.pl (hp _ (.inl rfl)),
  let ⟨m, h1, h2⟩ := x.nsm; ⟨m, UpS.ns h1 fun o e => l.kp _ o x.pl (hp _ (.inl rfl)) e, fun y i a q1 q2 q3 => let ⟨v, r1, r2⟩ := h2 y i a q1 q2 q3; ⟨v, r1, r2.mono l⟩⟩,
  fun y i a q1 q2 q3 => let ⟨c, v, r1, r2, r3, r4⟩ := x.cel y i a q1 q2 q3; ⟨c, v, r1, l.pv _ r2 (hp _ (.inr ⟨y, r1⟩)), cell_up r3 fun o e => l.kp _ o r2 (hp _ (.inr ⟨y, r1⟩)) e, r4.mono l⟩,
  fun y q1 q2 => let ⟨c, v, r1, r2, r3⟩ := x.has y q1 q2; ⟨c, v, r1, l.pv _ r2 (hp _ (.inr ⟨y, r1⟩)), cell_up r3 fun o e => l.kp _ o r2 (hp _ (.inr ⟨y, r1⟩)) e⟩,
  fun n c q => l.pv _ (x.cls n c q) (hp _ (.inr ⟨n, q⟩)),
  fun b hb => (x.fr b hb).le l (hq b (.inr hb)), x.hd.lv l.toLv⟩
theorem EnvR.own (x : EnvR cx env sc ns σ w) {b : Addr} (h : Own env b) : b ∈ w.π := h.elim (fun e => e ▸ x.pl) fun ⟨n, q⟩ => x.cls n b q
theorem EnvR.ownF (x : EnvR cx env sc ns σ w) {b : Addr} (h : OwnF cx env b) : b ∈ w.π := h.elim (fun q => x.own q) fun q => (x.fr b q).1
theorem EnvR.stable : Stable cx (EnvR cx env sc ns σ) := fun _ _ x l => x.mono l fun _ _ z => z
theorem St.g (S : St cx w H) (G : Good cx P) : w.s.heap.Ns mainGlobals cx.mg := G.g.keeps fun b o e => (S.base b o e).1
theorem St.b (S : St cx w H) (G : Good cx P) : w.s.heap.Ns builtinsNs cx.mb := G.b.keeps fun b o e => (S.base b o e).1
/-- a name of the text's top, or a built-in one -/
theorem load_glob {x : Str} {pos : Pos} {v : Value} {E : Value → Shared → Prop} {Q : Value → Shared → Prop} (G : Good cx P) (S : St cx w H) (K : EnvK env sc) (hx : isGlob sc x = true) (hd : (x == ("__debug__" : Str)) = false) (hv : cx.mg x = some v) (h : Q v w.s) :
    wpAny (model cx.prog cx.w) A (eval (.Name x pos) env) Q E w.s := Calls.Name_function_global K.kind (K.kglob x hx) (Calls.loadGlobal_global (by rw [K.glob]; exact S.g G) hv h) hd
theorem load_bi {x : Str} {pos : Pos} {v : Value} {E : Value → Shared → Prop} {Q : Value → Shared → Prop} (G : Good cx P) (S : St cx w H) (K : EnvK env sc) (hx : isGlob sc x = true) (hd : (x == ("__debug__" : Str)) = false) (hv : cx.mg x = none ∧ cx.mb x = some v) (h : Q v w.s) :
    wpAny (model cx.prog cx.w) A (eval (.Name x pos) env) Q E w.s := Calls.Name_function_global K.kind (K.kglob x hx) (Calls.loadGlobal_builtin (by rw [K.glob]; exact S.g G) hv.1 (by rw [K.blt]; exact S.b G) hv.2 h) hd
theorem name_rf {x : Str} {pos : Pos} (I : EnvR cx env sc ns σ w) (hl : isLocal sc x = true) (hd : (x == ("__debug__" : Str) || x == ("__classdict__" : Str)) = false) : Rf cx A p w (VR cx) (nameV ns x σ) (eval (.Name x pos) env) := by
  rw [Bool.or_eq_false_iff] at hd
  unfold nameV
  cases hi : ns.idxOf? x with
  | none => exact .stuck
  | some i =>
    show Rf cx A p w (VR cx) (match σ[i]? with | some (some v) => pure v | _ => stuck) _
    cases hv : σ[i]? with
    | none => exact .stuck
    | some ov =>
      cases ov with
      | none => exact .stuck
      | some a =>
        refine .leaf fun H S => wpAny_Name ?_ hd.1
        rcases I.k.klocal x hl with k | k | k
        · obtain ⟨m, hm, hmv⟩ := I.nsm
          obtain ⟨v, q1, q2⟩ := hmv x i a hi hv k
          exact wpAny_loadName_local I.k.kind k hm q1 (.here S q2)
        · obtain ⟨c, v, q1, _, q2, q3⟩ := I.cel x i a hi hv (.inl k)
          exact wpAny_loadName_cell I.k.kind k q1 q2 (.here S q3)
        · obtain ⟨c, v, q1, _, q2, q3⟩ := I.cel x i a hi hv (.inr k)
          exact wpAny_loadName_free I.k.kind k q1 q2 (.here S q3) hd.2
theorem dName_rf {x : Str} {pos : Pos} (G : Good cx P) (I : EnvR cx env sc ns σ w) : Rf cx A p w (VR cx) (dName P sc ns σ x) (eval (.Name x pos) env) :=
  ite_rf (fun _ => .stuck) fun hd => ite_rf (fun hl => name_rf I hl (Bool.eq_false_iff.mpr hd)) fun _ => ite_rf (fun hg => by
    cases hx : P.glob x with
    | none => exact .stuck
    | some a =>
      obtain ⟨v, q1, q2⟩ := G.glob x a hx
      have hd := Bool.eq_false_iff.mpr hd
      rw [Bool.or_eq_false_iff] at hd
      exact .leaf fun H S => load_glob G S I.k hg hd.1 q1 (.here S (q2 w H S))) fun _ => .stuck
end

section
variable {cx : Cx} {A : Around} {w : Wl} {env : Env} {I : Wl → Prop} {ev : Expr → M AV}
theorem const_rf {c : Const} {k : Nat} {q : Pos} : Rf cx A No w (VR cx) (constV c) (eval (.Constant c k q) env) := by
  cases c with
  | none => exact .leaf fun H S => wpAny_Constant_none (.here S .none)
  | bool b => exact .leaf fun H S => wpAny_Constant_bool (.here S .bool)
  | int i => exact .leaf fun H S => wpAny_Constant_int (.tok S _ .int)
  | str x => exact .leaf fun H S => wpAny_Constant_str (.tok S _ .str)
  | _ => exact .stuck
theorem binop_rf {l r : Expr} {op : Operator} {q : Pos} {mu : Bool} (hst : Stable cx I) (hev : EvOK cx A env I ev) (i : I w) : Rf cx A No w (VR cx) (do let a ← ev l; let b ← ev r; pBin mu op a b) (eval (.BinOp l op r q) env) :=
  Rf.bind (hev l w i) fun w1 a v l1 r1 => .bind (.holding (hev r w1 (hst _ _ i l1))) fun w2 b u l2 r2 => .standAt (.operate (bin_rf (r1.mono l2) r2))
theorem not_rf {a : AV} {v : Value} (ra : VR cx w a v) : Rf cx A No w (VR cx) (do let b ← truth a; pure (.bool !b)) (unaryOp .Not v) := by
  cases a with
  | bool b => exact ra.boolE (.pureR (.leaf fun H S => not_value (wpAny_truthy_bool (.here S .bool))))
  | _ => exact .stuck
theorem unop_rf {x : Expr} {op : UnaryOp} {q : Pos} (hev : EvOK cx A env I ev) (i : I w) : Rf cx A No w (VR cx) (dUn ev op x) (eval (.UnaryOp op x q) env) := by
  cases op with
  | USub => exact Rf.bind (hev x w i) fun w1 a v l1 r1 => .standAt (.holding (neg_rf r1))
  | Not => exact Rf.bind (hev x w i) fun w1 a v l1 r1 => .standAt (.holding (not_rf r1))
  | _ => exact .stuck
theorem compare_rf (R : Room A) {l : Expr} {ops : List CmpOp} {cs : List Expr} {q : Pos} (hst : Stable cx I) (hev : EvOK cx A env I ev) (i : I w) : Rf cx A No w (VR cx) (do let a ← ev l; let b ← chain ev a ops cs; pure (.bool b)) (eval (.Compare l ops cs q) env) :=
  Rf.bind (hev l w i) fun w1 a v l1 r1 => by
    have := Rf.bind (k := Pure.pure) (chain_rf R hst hev q ops cs (hst _ _ i l1) r1) fun w2 b x l2 e => Rf.pure (R := VR cx) (a := .bool b) e
    rwa [bind_pure] at this
theorem tuple_lit_rf {es : List Expr} {k : Nat} {q : Pos} (hst : Stable cx I) (hev : EvOK cx A env I ev) (i : I w) : Rf cx A No w (VR cx) (if es.length ≤ 100 then (do let vs ← evEach ev es; pure (.tup vs)) else stuck) (eval (.Tuple es k q) env) :=
  ite_rf (fun hl => .standAt (.bind (each_rf hst hev q es i) fun w1 as vs l1 r1 => newTuple_rf (by rw [r1.2]; exact Nat.le_trans hl (by decide)) r1.1)) fun _ => .stuck
theorem list_lit_rf {es : List Expr} {q : Pos} {mu : Bool} (hst : Stable cx I) (hev : EvOK cx A env I ev) (i : I w) : Rf cx A No w (VR cx) (do let vs ← evEach ev es; newL mu vs) (eval (.List es q) env) :=
  .standAt (.bind (each_rf hst hev q es i) fun w1 as vs l1 r1 => newList_rf r1.1)

/-- the read of an item, once object and index are there -/
theorem sub_tail {value slice : Expr} {o i : Value} {s : Shared} {Q E : Value → Shared → Prop} (hs : Subs s o) (h : wpAny (model cx.prog cx.w) A (getItem o i) Q E s) :
    wpAny (model cx.prog cx.w) A (do let r ← subscripted slice (← getitemInPython o) o i; letTemporaryGo value o r; pure r) Q E s := by
  obtain ⟨T, id, hT, hl⟩ := hs
  rw [getitemInPython_of_ne hT.not_modules]
  have hg : wpAny (model cx.prog cx.w) A (getItem o i) (fun r s₃ => wpAny (model cx.prog cx.w) A (letTemporaryGo value o r >>= fun _ => pure r) Q E s₃) E s :=
    wpAny_mono h (fun r s₃ h₃ => wpAny_bind (wpAny_letTemporaryGo (wpAny_pure h₃))) fun _ _ x => x
  refine wpAny_bind (wpAny_bind (wpAny_specialOf hT hl (wpAny_pure (wpAny_bind ?_))))
  cases slice
  case Slice lo hi st q => cases st <;> exact wpAny_operating hg
  all_goals exact wpAny_operating hg
theorem item_at_rf {o i : Expr} {q : Pos} (hst : Stable cx I) (hev : EvOK cx A env I ev) (j : I w) : Rf cx A No w (VR cx) (do let ov ← ev o; let iv ← ev i; pItem ov iv) (eval (.Subscript o i q) env) :=
  Rf.bind (hev o w j) fun w1 a v l1 r1 => .bind (.holding (hev i w1 (hst _ _ j l1))) fun w2 b u l2 r2 => .standAt (item_rf (r1.mono l2) r2 fun hs h => sub_tail hs h)
def RPart (w : Wl) (k : Option Int) (v : Value) : Prop := IsPart v k
theorem sliceEnd_rf {e : Option Expr} (hev : EvOK cx A env I ev) (j : I w) : Rf cx A No w RPart (sliceEnd ev e) (evalPart e env) := by
  cases e with
  | none => rw [evalPart_none]; exact .pure .none
  | some e =>
    rw [evalPart_some]
    refine Rf.seqw (k := fun v => pure v) (hev e w j) (fun w1 a v l1 r1 => ?_) fun h => by have := wpAny_bind h; rwa [bind_pure] at this
    cases a with
    | int i => exact r1.intE fun t => .pureR (.pure (.int i t))
    | _ => exact .stuck
def RSl (w : Wl) (k : Option Int × Option Int) (v : Value) : Prop := ∃ a vl vu, v = .ref a ∧ w.s.heap.IsSliceOf a vl vu .none ∧ IsPart vl k.1 ∧ IsPart vu k.2
theorem slc_rf {lo hi : Option Expr} {sp : Pos} (hst : Stable cx I) (hev : EvOK cx A env I ev) (j : I w) : Rf cx A No w RSl (do let a ← sliceEnd ev lo; let b ← sliceEnd ev hi; pure (a, b)) (eval (.Slice lo hi none sp) env) :=
  Rf.bind (sliceEnd_rf hev j) fun w1 a vl l1 p1 => .bind (.holding (sliceEnd_rf hev (hst _ _ j l1))) fun w2 b vu l2 p2 => by
    show Rf cx A No w2 RSl (pure (a, b)) (holding [vl, vu] (evalPart none env) >>= fun s => newFields "slice" [vl, vu, s])
    rw [evalPart_none]
    exact fun H S r H' h => wpAny_bind (wpAny_holding (wpAny_pure (wpAny_newObj_type (by
      obtain ⟨rfl, rfl⟩ := pure_some h
      exact ⟨w2.ι, w2.π, _, rfl, .keeps (pushk _), S.keeps (t := w2.s.toks) (pushk _), _, vl, vu, rfl, Heap.IsSliceOf.new .., p1, p2⟩))))
theorem slice_at_rf {o : Expr} {lo hi : Option Expr} {sp q : Pos} {mu : Bool} (hst : Stable cx I) (hev : EvOK cx A env I ev) (j : I w) :
    Rf cx A No w (VR cx) (do let ov ← ev o; let a ← sliceEnd ev lo; let b ← sliceEnd ev hi; pSlice mu ov a b) (eval (.Subscript o (.Slice lo hi none sp) q) env) :=
  Rf.bind (hev o w j) fun w1 a v l1 r1 => by
    have := Rf.bind (f := fun k => pSlice mu a k.1 k.2) (Rf.holding (vs := [v]) (slc_rf (lo := lo) (hi := hi) (sp := sp) hst hev (hst _ _ j l1))) fun w2 k u l2 ⟨sl, vl, vu, e, hs, p1, p2⟩ => Rf.standAt (q := q) (t := (do let r ← subscripted (.Slice lo hi none sp) (← getitemInPython v) v u; letTemporaryGo o v r; pure r)) (slice_rf (A := A) (p := No) (mu := mu) (r1.mono l2) hs p1 p2 fun h1 h2 => e ▸ sub_tail h1 h2)
    simp only [bind_assoc, pure_bind] at this
    exact this
theorem sub_rf {o i : Expr} {q : Pos} {mu : Bool} (hst : Stable cx I) (hev : EvOK cx A env I ev) (j : I w) : Rf cx A No w (VR cx) (dSub ev mu o i) (eval (.Subscript o i q) env) := by
  cases i with
  | Slice lo hi st sp =>
    cases st with
    | none => exact slice_at_rf hst hev j
    | some e => exact .stuck
  | _ => exact item_at_rf hst hev j
end
end Mine


set_option autoImplicit false
set_option linter.unusedVariables false
namespace Mine
open PySem PyProof.Rows PySem.SeqAt

section
variable {cx : Cx} {A : Around} {p : Addr → Prop} {w w' w0 : Wl} {H : AHeap} {d : Addr}
theorem St.old (S : St cx w H) (hd : w.s.heap.get? d = none) {b : Addr} {o : Obj} (e : w.s.heap.get? b = some o) : b ≠ d := fun z => by rw [z, hd] at e; cases e
/-- new private objects -/
theorem St.hides (S : St cx w H) (ds : List Addr) {h' : Heap} {t : Nat} (hk : ∀ b o, w.s.heap.get? b = some o → h'.get? b = some o) (hd : ∀ d, d ∈ ds → w.s.heap.get? d = none) (hx : ∀ d, d ∈ ds → ∃ o, h'.get? d = some o) :
    Le cx No w ⟨w.ι, ds ++ w.π, { w.s with heap := h', toks := t }⟩ ∧ St cx ⟨w.ι, ds ++ w.π, { w.s with heap := h', toks := t }⟩ H := by
  have ne : ∀ {b : Addr} {o : Obj}, w.s.heap.get? b = some o → b ∉ w.π → b ∉ ds ++ w.π := fun e h1 h2 => (List.mem_append.mp h2).elim (fun h => S.old (hd _ h) e rfl) h1
  have l : Le cx No w ⟨w.ι, ds ++ w.π, { w.s with heap := h', toks := t }⟩ := ⟨⟨List.prefix_refl _, fun b o e h1 h2 => ⟨hk b o e, h1, ne e h2⟩⟩, fun _ h _ => List.mem_append_right _ h, fun b o _ _ e => .of (hk b o e)⟩
  refine ⟨l, ⟨fun b o e => let q := S.base b o e; ⟨hk b o q.1, q.2.1, ne q.1 q.2.2⟩, S.len, S.nodup, fun a ha h => ?_, fun a ha => ?_, fun i a o e1 e2 => (S.own i a o e1 e2).keep l.toLv (hk a), S.gens, S.os, S.sysm⟩⟩
  · obtain ⟨o, e⟩ := S.obj ha
    exact ne e (S.dj a ha) h
  · rcases List.mem_append.mp ha with h | h
    · exact hx a h
    · obtain ⟨o, e⟩ := S.pvx a h; exact ⟨o, hk a o e⟩
theorem St.hide (S : St cx w H) {h' : Heap} {t : Nat} (hk : ∀ b o, w.s.heap.get? b = some o → h'.get? b = some o) (hd : w.s.heap.get? d = none) (hx : ∃ o, h'.get? d = some o) :
    Le cx No w ⟨w.ι, d :: w.π, { w.s with heap := h', toks := t }⟩ ∧ St cx ⟨w.ι, d :: w.π, { w.s with heap := h', toks := t }⟩ H :=
  S.hides [d] hk (fun b e => List.mem_singleton.mp e ▸ hd) fun b e => List.mem_singleton.mp e ▸ hx
/-- private objects turn -/
theorem St.privs (S : St cx w H) {h' : Heap} {t : Nat} {p : Addr → Prop} (hd : ∀ b, p b → b ∈ w.π) (hk : ∀ b o, ¬ p b → w.s.heap.get? b = some o → h'.get? b = some o) (hx : ∀ b, p b → ∃ o, h'.get? b = some o) :
    Le cx p w ⟨w.ι, w.π, { w.s with heap := h', toks := t }⟩ ∧ St cx ⟨w.ι, w.π, { w.s with heap := h', toks := t }⟩ H := by
  have l : Le cx p w ⟨w.ι, w.π, { w.s with heap := h', toks := t }⟩ := ⟨⟨List.prefix_refl _, fun b o e h1 h2 => ⟨hk b o (fun z => h2 (hd b z)) e, h1, h2⟩⟩, fun _ h _ => h, fun b o _ h e => .of (hk b o h e)⟩
  refine ⟨l, ⟨fun b o e => let q := S.base b o e; ⟨hk b o (fun z => q.2.2 (hd b z)) q.1, q.2⟩, S.len, S.nodup, S.dj, fun a ha => ?_, fun i a o e1 e2 => (S.own i a o e1 e2).keep l.toLv fun o e => hk a o (fun z => S.dj a (List.mem_of_getElem? e1) (hd a z)) e, S.gens, S.os, S.sysm⟩⟩
  by_cases h : p a
  · exact hx a h
  · obtain ⟨o, e⟩ := S.pvx a ha; exact ⟨o, hk a o h e⟩
theorem St.priv (S : St cx w H) {h' : Heap} {t : Nat} (hd : d ∈ w.π) (hk : ∀ b o, b ≠ d → w.s.heap.get? b = some o → h'.get? b = some o) (hx : ∃ o, h'.get? d = some o) :
    Le cx (fun b => b = d) w ⟨w.ι, w.π, { w.s with heap := h', toks := t }⟩ ∧ St cx ⟨w.ι, w.π, { w.s with heap := h', toks := t }⟩ H := S.privs (fun b e => e ▸ hd) hk fun b e => e ▸ hx
def outP (π : List Addr) (d : Addr) : List Addr := π.filter fun b => decide (b ≠ d)
theorem mem_outP {π : List Addr} {b : Addr} : b ∈ outP π d ↔ b ∈ π ∧ b ≠ d := by unfold outP; rw [List.mem_filter, decide_eq_true_iff]
/-- a private object is let go -/
theorem St.drop (S : St cx w H) {h' : Heap} {t : Nat} (hd : d ∈ w.π) (hk : ∀ b o, b ≠ d → w.s.heap.get? b = some o → h'.get? b = some o) :
    Le cx (fun b => b = d) w ⟨w.ι, outP w.π d, { w.s with heap := h', toks := t }⟩ ∧ St cx ⟨w.ι, outP w.π d, { w.s with heap := h', toks := t }⟩ H := by
  have l : Le cx (fun b => b = d) w ⟨w.ι, outP w.π d, { w.s with heap := h', toks := t }⟩ := ⟨⟨List.prefix_refl _, fun b o e h1 h2 => ⟨hk b o (fun z => h2 (z ▸ hd)) e, h1, fun z => h2 (mem_outP.mp z).1⟩⟩, fun _ h q => mem_outP.mpr ⟨h, q⟩, fun b o _ h e => .of (hk b o h e)⟩
  exact ⟨l, ⟨fun b o e => let q := S.base b o e; ⟨hk b o (fun z => q.2.2 (z ▸ hd)) q.1, q.2.1, fun z => q.2.2 (mem_outP.mp z).1⟩, S.len, S.nodup, fun a ha z => S.dj a ha (mem_outP.mp z).1, fun a ha => let ⟨q1, q2⟩ := mem_outP.mp ha; let ⟨o, e⟩ := S.pvx a q1; ⟨o, hk a o q2 e⟩, fun i a o e1 e2 => (S.own i a o e1 e2).keep l.toLv fun o e => hk a o (fun z => S.dj a (List.mem_of_getElem? e1) (z ▸ hd)) e, S.gens, S.os, S.sysm⟩⟩
/-- a private object becomes one of the abstract heap -/
theorem St.adopt (S : St cx w H) {h' : Heap} {t : Nat} {o : AO} (hd : d ∈ w.π) (hk : ∀ b q, b ≠ d → w.s.heap.get? b = some q → h'.get? b = some q)
    (r : Le cx (fun b => b = d) w ⟨w.ι ++ [d], outP w.π d, { w.s with heap := h', toks := t }⟩ → OR cx ⟨w.ι ++ [d], outP w.π d, { w.s with heap := h', toks := t }⟩ d o) :
    Le cx (fun b => b = d) w ⟨w.ι ++ [d], outP w.π d, { w.s with heap := h', toks := t }⟩ ∧ St cx ⟨w.ι ++ [d], outP w.π d, { w.s with heap := h', toks := t }⟩ (H ++ [o]) := by
  have ne : ∀ {b : Addr}, b ∉ w.ι → b ∉ w.π → b ∉ w.ι ++ [d] := fun h1 h2 h3 => (List.mem_append.mp h3).elim h1 fun h => h2 (List.mem_singleton.mp h ▸ hd)
  have l : Le cx (fun b => b = d) w ⟨w.ι ++ [d], outP w.π d, { w.s with heap := h', toks := t }⟩ := ⟨⟨List.prefix_append _ _, fun b q e h1 h2 => ⟨hk b q (fun z => h2 (z ▸ hd)) e, ne h1 h2, fun z => h2 (mem_outP.mp z).1⟩⟩, fun _ h q => mem_outP.mpr ⟨h, q⟩, fun b o _ h e => .of (hk b o h e)⟩
  refine ⟨l, ⟨fun b q e => let z := S.base b q e; ⟨hk b q (fun y => z.2.2 (y ▸ hd)) z.1, ne z.2.1 z.2.2, fun y => z.2.2 (mem_outP.mp y).1⟩, by rw [List.length_append, List.length_append, S.len]; rfl, ?_, ?_, fun b hb => ?_, ?_, S.gens, S.os, S.sysm⟩⟩
  · exact List.nodup_append.mpr ⟨S.nodup, List.nodup_cons.mpr ⟨List.not_mem_nil, List.nodup_nil⟩, fun x hx y hy e => S.dj x hx (by rw [e, List.mem_singleton.mp hy]; exact hd)⟩
  · intro b hb z
    rcases List.mem_append.mp hb with h | h
    · exact S.dj b h (mem_outP.mp z).1
    · exact (mem_outP.mp z).2 (List.mem_singleton.mp h)
  · obtain ⟨h1, h2⟩ := mem_outP.mp hb
    obtain ⟨q, e⟩ := S.pvx b h1
    exact ⟨q, hk b q h2 e⟩
  · intro i b q e1 e2
    rcases Nat.lt_trichotomy i w.ι.length with h | h | h
    · rw [List.getElem?_append_left h] at e1
      rw [List.getElem?_append_left (S.len ▸ h)] at e2
      exact (S.own i b q e1 e2).keep l.toLv fun q' e => hk b q' (fun z => S.dj b (List.mem_of_getElem? e1) (z ▸ hd)) e
    · subst h
      rw [List.getElem?_concat_length] at e1
      rw [S.len, List.getElem?_concat_length] at e2
      cases e1; cases e2
      exact r l
    · rw [List.getElem?_eq_none (by rw [List.length_append]; exact h)] at e1; cases e1
end

section
variable {cx : Cx} {A : Around} {w : Wl} {env : Env} {I : Wl → Prop} {ev : Expr → M AV}
-- dicts
theorem strKey1_of {k : Option Expr} {x : Str} (h : strKey1 k = some x) : ∃ kd kp, k = some (.Constant (.str x) kd kp) := by
  cases k with
  | none => cases h
  | some e =>
    cases e with
    | Constant c kd kp =>
      cases c with
      | str y => cases h; exact ⟨kd, kp, rfl⟩
      | _ => cases h
    | _ => cases h
theorem strKeys_cons {k : Option Expr} {r : List (Option Expr)} {ks : List Str} (h : strKeys (k :: r) = some ks) : ∃ x kd kp ks', k = some (.Constant (.str x) kd kp) ∧ strKeys r = some ks' ∧ ks = x :: ks' := by
  obtain ⟨x, h1, h2⟩ := Option.bind_eq_some_iff.mp h
  obtain ⟨ks', h3, h4⟩ := Option.map_eq_some_iff.mp h2
  obtain ⟨kd, kp, e⟩ := strKey1_of h1
  exact ⟨x, kd, kp, ks', e, h3, h4.symm⟩
def RPairs (cx : Cx) (ks : List Str) (w : Wl) (as : List AV) (vs : List (Value × Value)) : Prop := allStrKeys vs = true ∧ (strPairs vs).map (·.1) = ks ∧ VRs cx w as ((strPairs vs).map (·.2)) ∧ as.length = ks.length
theorem constS_rf {x : Str} {kd : Nat} {kp : Pos} : Rf cx A No w (fun _ (_ : Unit) v => ∃ t, v = .str x t) (pure ()) (eval (.Constant (.str x) kd kp) env) := .leaf fun H S => wpAny_Constant_str (.tok S _ ⟨_, rfl⟩)
theorem pairs_rf (hst : Stable cx I) (hev : EvOK cx A env I ev) (pos : Pos) : ∀ (keys : List (Option Expr)) (vals : List Expr) {ks : List Str} {w : Wl}, I w → strKeys keys = some ks → ks.length = vals.length → Rf cx A No w (RPairs cx ks) (evAll ev vals) (evalPairs (pairTrees keys vals env pos))
  | [], [], ks, w, i, hk, hl => by cases hk; exact .leaf fun H S => pairTrees_nil_walk (.here S ⟨rfl, rfl, rfl, rfl⟩)
  | [], _ :: _, ks, w, i, hk, hl => by cases hk; cases hl
  | k :: keys, [], ks, w, i, hk, hl => by obtain ⟨x, kd, kp, ks', _, _, rfl⟩ := strKeys_cons hk; cases hl
  | k :: keys, e :: vals, ks, w, i, hk, hl => by
    obtain ⟨x, kd, kp, ks', rfl, hk', rfl⟩ := strKeys_cons hk
    rw [← pure_bind () fun _ => evAll ev (e :: vals)]
    refine Rf.bind constS_rf fun w1 _ kv l1 ⟨tk, hkv⟩ => ?_
    subst hkv
    have i1 := hst _ _ i l1
    refine .bind (t := holding [.str x tk] (do let x ← eval e env; standAt pos; pure x)) (.holding (.map (hev e w1 i1) fun w2 a v l2 r2 => .standAt (.pure r2))) fun w2 a v l2 r2 => ?_
    refine .bind (.holding (pairs_rf hst hev pos keys vals (hst _ _ i1 l2) hk' (Nat.succ.inj hl))) fun w3 as vs l3 ⟨q1, q2, q3, q4⟩ => .pure ⟨q1, congrArg (x :: ·) q2, .cons (r2.mono l3) q3, congrArg Nat.succ q4⟩
theorem zip_fst : ∀ {ks : List Str} {as : List AV}, as.length = ks.length → (ks.zip as).map (·.1) = ks
  | [], [], _ => rfl
  | [], _ :: _, h => by cases h
  | _ :: _, [], h => by cases h
  | k :: ks, a :: as, h => congrArg (k :: ·) (zip_fst (Nat.succ.inj h))
theorem zip_snd : ∀ {ks : List Str} {as : List AV}, as.length = ks.length → (ks.zip as).map (·.2) = as
  | [], [], _ => rfl
  | [], _ :: _, h => by cases h
  | _ :: _, [], h => by cases h
  | k :: ks, a :: as, h => congrArg (a :: ·) (zip_snd (Nat.succ.inj h))
theorem strKeys_all : ∀ {keys : List (Option Expr)} {ks : List Str}, strKeys keys = some ks → keys.all (·.isSome) = true ∧ keys.length = ks.length
  | [], _, h => by cases h; exact ⟨rfl, rfl⟩
  | k :: keys, ks, h => by
    obtain ⟨x, kd, kp, ks', rfl, hk', rfl⟩ := strKeys_cons h
    obtain ⟨q1, q2⟩ := strKeys_all hk'
    exact ⟨q1, congrArg Nat.succ q2⟩
theorem dict_lit_rf {keys : List (Option Expr)} {vals : List Expr} {q : Pos} (hst : Stable cx I) (hev : EvOK cx A env I ev) (i : I w) (hfr : ∀ b, b ∈ cx.fr → FrAt w b) : Rf cx A No w (VR cx) (dDict ev keys vals) (eval (.Dict keys vals q) env) := by
  unfold dDict
  cases hk : strKeys keys with
  | none => exact .stuck
  | some ks =>
    refine ite_rf (fun ⟨hl1, hl2, hl3, hl4⟩ => ?_) fun _ => .stuck
    unfold evEach
    split
    · intro H S r H' h
      obtain ⟨k1, k2⟩ := strKeys_all hk
      have hdn : w.s.heap.get? w.s.heap.objs.size = none := get_size _
      obtain ⟨l0, S0⟩ := S.hide (t := w.s.toks) (pushk { cls := .type "dict", data := .dict #[] }) hdn ⟨_, Heap.get?_push_size _ rfl⟩
      have hnp := (S.new hdn).2
      refine wpAny_Dict_walk (knd := strKind cx.prog cx.w) k1 (k2.trans hl1) (fun z => by subst z; cases hk; exact hl3 rfl) (by rw [k2]; exact hl2) ?_
      refine wpAny_mono ((pairs_rf hst hev q keys vals (hst _ _ i l0) hk hl1).run S0 h fun w1 as vs H1 l1 S1 ⟨q1, q2, q3, q4⟩ h2 => ?_) (fun _ _ z => z) fun _ _ q => q.le l0
      cases h2
      have hd : w.s.heap.objs.size ∈ w1.π := l1.pv _ List.mem_cons_self id
      have hD1 : w1.s.heap.DictOf (strKind cx.prog cx.w) w.s.heap.objs.size [] := DictOf.at' (Heap.DictOf.new _) fun o ho => (l1.kp _ o List.mem_cons_self id ho).nf fun z => by (obtain ⟨_, o, es, ep, e, _⟩ := hfr _ z; rw [hdn] at e; cases e)
      refine display_done_str q1 (by rw [q2]; exact hl4) hD1 fun h' hd' hs' => ?_
      obtain ⟨l2, S2⟩ := S1.adopt (t := w1.s.toks + vs.length) (o := .dict (ks.zip as)) hd hs'.extBut fun l2 => ⟨strPairs vs, hd', ⟨S.not_sys, by rw [List.length_zip]; exact Nat.le_trans (Nat.min_le_left _ _) (Nat.le_trans hl2 (by decide))⟩, by rw [q2, zip_fst q4], by rw [zip_snd q4]; exact q3.mono l2⟩
      exact ⟨_, _, _, rfl, (l0.no.trans (l1.no.trans l2)).weak (fun b hb e => hnp (e ▸ hb)), S2, .loc (by rw [← S1.len]; exact List.getElem?_concat_length)⟩
    · exact .stuck
end
end Mine


set_option autoImplicit false
set_option linter.unusedVariables false
namespace Mine
open PySem PyProof.Rows PySem.SeqAt

section
variable {cx : Cx} {A : Around} {w : Wl} {env : Env} {I : Wl → Prop} {ev : Expr → M AV}
/-- the arguments of a call -/
def RArgs (cx : Cx) (w : Wl) (as : List AV) (a : Args) : Prop := ∃ vs, a = ⟨vs, []⟩ ∧ VRs cx w as vs
theorem any_star (pos : Pos) : ∀ (es : List Expr), es.all exOk = true → (backTo pos (starEach es env)).any (·.1) = false
  | [], _ => rfl
  | e :: r, h => by
    rw [List.all_cons, Bool.and_eq_true] at h
    rw [exOk_star h.1]
    exact any_star pos r h.2
theorem len_star (pos : Pos) : ∀ (es : List Expr), es.all exOk = true → (backTo pos (starEach es env)).length = es.length ∧ (backTo pos (starEach es env)).all (fun x => !x.1) = true
  | [], _ => ⟨rfl, rfl⟩
  | e :: r, h => by
    rw [List.all_cons, Bool.and_eq_true] at h
    rw [exOk_star h.1]
    exact ⟨congrArg Nat.succ (len_star pos r h.2).1, (len_star pos r h.2).2⟩
theorem args_rf {f : Value} {pos : Pos} {es : List Expr} (hst : Stable cx I) (hev : EvOK cx A env I ev) (i : I w) (h : es.all exOk = true) : Rf cx A No w (RArgs cx) (evAll ev es) (evalArgs f true (backTo pos (starEach es env)) []) := by
  have x := all_rf hst hev pos es h i
  cases es with
  | nil => exact .leaf fun H S => evalArgs_nil3 (.here S ⟨[], rfl, rfl⟩)
  | cons e r =>
    rw [List.all_cons, Bool.and_eq_true] at h
    rw [exOk_star h.1] at x ⊢
    exact Rf.img (g := fun vs => (⟨vs, []⟩ : Args)) (t' := evalArgs f true ((false, eval e env) :: backTo pos (starEach r env)) []) x (fun w' a b q => ⟨b, rfl, q.1⟩) fun h => Calls.evalArgs_plain h
/-- a call of what the callee's name stands for -/
theorem each_call {es : List Expr} {α β : Type} {p : Addr → Prop} {R : Wl → α → β → Prop} {f : List AV → M α} {t : Sem β} (k : es.all exOk = true → Rf cx A p w R (evAll ev es >>= f) t) : Rf cx A p w R (evEach ev es >>= f) t := by
  unfold evEach
  split
  · exact k ‹_›
  · exact .stuck
theorem builtin_rf {id : String} {pos : Pos} {first : List Value} {es : List Expr} {f : List AV → M AV} (hst : Stable cx I) (hev : EvOK cx A env I ev) (i : I w)
    (k : ∀ w' as vs, Le cx No w w' → VRs cx w' as vs → Rf cx A No w' (VR cx) (f as) (PySem.call (.builtin id) (first ++ vs))) : Rf cx A No w (VR cx) (evEach ev es >>= f) (callWith pos (.builtin id) first (backTo pos (starEach es env)) []) :=
  each_call fun h => Rf.seqw (k := fun a => PySem.call (.builtin id) (first ++ a.pos) a.kw) (args_rf (f := .builtin id) (pos := pos) hst hev i h) (fun w' as a l ⟨vs, e, r⟩ => by subst e; exact k w' as vs l r) fun q => Calls.callWith_builtin (any_star pos es h) q
theorem type_rf {T : String} {pos : Pos} {es : List Expr} {f : List AV → M AV} (hst : Stable cx I) (hev : EvOK cx A env I ev) (i : I w)
    (k : ∀ w' as vs, Le cx No w w' → VRs cx w' as vs → Rf cx A No w' (VR cx) (f as) (PySem.call (.type T) vs)) : Rf cx A No w (VR cx) (evEach ev es >>= f) (callWith pos (.type T) [] (backTo pos (starEach es env)) []) :=
  each_call fun h => Rf.seqw (k := fun a => PySem.call (.type T) ([] ++ a.pos) a.kw) (args_rf (f := .type T) (pos := pos) hst hev i h) (fun w' as a l ⟨vs, e, r⟩ => by subst e; exact k w' as vs l r) fun q => PyProof.Rows.callWith_type (any_star pos es h) q
end
section
variable {cx : Cx} {A : Around} {w : Wl} {env : Env} {sc : Scope} {ns : List Str} {σ : Loc} {ev : Expr → M AV} {P : Pg}
/-- the callee's name gives v -/
theorem named_rf {f : Str} {fp q : Pos} {args : List Expr} {m : M AV} {v : Value} (hv : ∀ {H : AHeap} {Q E : Value → Shared → Prop}, St cx w H → Q v w.s → wpAny (model cx.prog cx.w) A (eval (.Name f fp) env) Q E w.s)
    (x : Rf cx A No w (VR cx) m (callWith q v [] (backTo q (starEach args env)) [])) : Rf cx A No w (VR cx) m (eval (.Call (.Name f fp) args [] q) env) := fun H S r H' h => Call_Name rfl (hv S (x H S r H' h))
theorem no_debug {α : Type} {g : Str → Option α} {x : Str} {b : α} (hg : g ("__debug__" : Str) = none) (h : g x = some b) : (x == ("__debug__" : Str)) = false := by
  cases hx : x == ("__debug__" : Str) with
  | false => rfl
  | true => rw [beq_iff_eq.mp hx, hg] at h; cases h
theorem bi_call {f : Str} {fp q : Pos} {args : List Expr} {b : BI} {mu : Bool} (hh : looksH b = true → A.handled = none) (G : Good cx P) (hev : EvOK cx A env (EnvR cx env sc ns σ) ev) (i : EnvR cx env sc ns σ w) (hg : isGlob sc f = true) (hb : biOf f = some b) :
    Rf cx A No w (VR cx) (do let vs ← evEach ev args; pBI mu b vs) (eval (.Call (.Name f fp) args [] q) env) := by
  refine named_rf (fun S h => load_bi G S i.k hg (no_debug (g := biOf) (by decide) hb) (G.bi f b hb) h) ?_
  have bt : ∀ {id : String}, biV b = .builtin id → Rf cx A No w (VR cx) (do let vs ← evEach ev args; pBI mu b vs) (callWith q (biV b) [] (backTo q (starEach args env)) []) := fun {id} e => by
    rw [e]; exact builtin_rf EnvR.stable hev i fun w' as vs l r => by rw [List.nil_append, ← e]; exact bi_rf hh r
  have ty : ∀ {T : String}, biV b = .type T → Rf cx A No w (VR cx) (do let vs ← evEach ev args; pBI mu b vs) (callWith q (biV b) [] (backTo q (starEach args env)) []) := fun {T} e => by
    rw [e]; exact type_rf EnvR.stable hev i fun w' as vs l r => by rw [← e]; exact bi_rf hh r
  cases b with
  | len => exact bt rfl
  | list => exact ty rfl
  | tuple => exact ty rfl
  | dict => exact ty rfl
  | int => exact ty rfl
  | range => exact ty rfl
  | min => exact bt rfl
  | max => exact bt rfl
  | any => exact bt rfl
  | sorted => exact bt rfl
theorem isi1_rf {e : Expr} {x : Str} {t : Ty} {fp q tp : Pos} (G : Good cx P) (hev : EvOK cx A env (EnvR cx env sc ns σ) ev) (i : EnvR cx env sc ns σ w) (hg : isGlob sc ("isinstance" : Str) = true) (hx : isGlob sc x = true) (ht : tyOf x = some t) (he : exOk e = true) :
    Rf cx A No w (VR cx) (do let v ← ev e; let b ← pIsi v t; pure (.bool b)) (eval (.Call (.Name ("isinstance" : Str) fp) [e, .Name x tp] [] q) env) :=
  named_rf (fun S h => load_bi G S i.k hg (by decide) G.isi h) fun H S r H' h => by
    refine Calls.callWith_builtin (any_star q _ (by rw [List.all_cons, he]; rfl)) ?_
    rw [exOk_star he]
    refine Calls.evalArgs_plain (Calls.spliced_cons ((hev e w i).run S h fun w1 a v H1 l1 S1 r1 h1 => Calls.spliced_cons (load_bi G S1 i.k hx (no_debug (g := tyOf) (by decide) ht) (G.ty x t ht) (Calls.spliced_nil ?_))))
    have z := Rf.bind (k := Pure.pure) (isi_rf (A := A) (p := No) (t := t) r1) fun w2 b x l2 e => Rf.pure (R := VR cx) (a := .bool b) e
    rw [bind_pure] at z
    exact wpAny_mono (z H1 S1 r H' h1) (fun _ _ q => q.le l1) fun _ _ q => q.le l1
theorem isX_leaf {a : AV} {v : Value} {x : Str} {u : Value} (G : Good cx P) (ra : VR cx w a v) (hu : (x = ("ValueError" : Str) ∧ u = .type "ValueError") ∨ (x ≠ ("ValueError" : Str) ∧ cx.mg x = some u)) : Rf cx A No w (VR cx) (pIsX P x a) (PySem.call (.builtin "isinstance") [v, u]) := by
  cases a with
  | exc c =>
    obtain ⟨b, o, C, e, h1, h2, h3, h4⟩ := ra
    subst e
    have key : ∀ {cs : List Str}, P.cls c = some cs → ∃ vs, ExCls cx.h₀ C vs ∧ ∀ x xs D, P.cls x = some xs → cx.mg x = some (.ref D) → (Value.ref C :: (vs ++ VEm)).contains (.ref D) = (decide (x = c) || cs.contains x) := fun hc => by
      obtain ⟨_, C', vs, q1, q2, q3⟩ := G.cls c _ hc
      rw [h4] at q1
      cases q1
      exact ⟨vs, q2, q3⟩
    refine .read .opt fun cs hc => ?_
    obtain ⟨vs, X, hX⟩ := key hc
    refine ite_rf (fun hx => ?_) fun hx => ?_
    · rcases hu with ⟨_, rfl⟩ | hu
      · exact .leaf fun H S => isi_exc_ve (X.keeps fun b o e => (S.base b o e).1) h1 h3 (.here S .bool)
      · exact (hu.1 hx).elim
    · refine .read .opt fun xs hxs => ?_
      obtain ⟨_, D, ds, q1, Y, _⟩ := G.cls x xs hxs
      rcases hu with hu | hu
      · exact (hx hu.1).elim
      · rw [hu.2] at q1
        cases q1
        exact .leaf fun H S => isi_exc (X.keeps fun b o e => (S.base b o e).1) (Y.keeps fun b o e => (S.base b o e).1) h1 h3 (hX x xs D hxs hu.2) fun t => .tok S t .bool
  | _ => exact .stuck
theorem isX_rf {e : Expr} {x : Str} {fp q tp : Pos} (G : Good cx P) (hev : EvOK cx A env (EnvR cx env sc ns σ) ev) (i : EnvR cx env sc ns σ w) (hg : isGlob sc ("isinstance" : Str) = true) (hx : isGlob sc x = true) (he : exOk e = true) :
    Rf cx A No w (VR cx) (dIsX P ev x e) (eval (.Call (.Name ("isinstance" : Str) fp) [e, .Name x tp] [] q) env) := ite_rf (fun hc =>
  named_rf (fun S h => load_bi G S i.k hg (by decide) G.isi h) fun H S r H' h => by
    refine Calls.callWith_builtin (any_star q _ (by rw [List.all_cons, he]; rfl)) ?_
    rw [exOk_star he]
    refine Calls.evalArgs_plain (Calls.spliced_cons ((hev e w i).run S h fun w1 a v H1 l1 S1 r1 h1 => Calls.spliced_cons ?_))
    by_cases hve : x = ("ValueError" : Str)
    · refine load_bi G S1 i.k hx (by rw [hve]; decide) (by rw [hve]; exact G.ve) (Calls.spliced_nil ?_)
      exact wpAny_mono (isX_leaf G r1 (.inl ⟨hve, rfl⟩) H1 S1 r H' h1) (fun _ _ q => q.le l1) fun _ _ q => q.le l1
    · obtain ⟨xs, hxs⟩ := Option.isSome_iff_exists.mp (hc.resolve_left hve)
      obtain ⟨hd, D, ds, q1, _⟩ := G.cls x xs hxs
      refine load_glob G S1 i.k hx hd q1 (Calls.spliced_nil ?_)
      exact wpAny_mono (isX_leaf G r1 (.inr ⟨hve, q1⟩) H1 S1 r H' h1) (fun _ _ q => q.le l1) fun _ _ q => q.le l1) fun _ => .stuck
theorem isiTL_leaf {a : AV} {v : Value} {tp : Addr} (ra : VR cx w a v) (ht : w.s.heap.get? tp = some { cls := .type "tuple", data := .seq #[.type "tuple", .type "list"] }) : Rf cx A No w Rb (pIsiTL a) (PySem.call (.builtin "isinstance") [v, .ref tp]) := by
  have lists : ∀ {l : Addr} {vs : Array Value} {n : Nat}, IsL w.s.heap l vs n → Rf cx A No w Rb (pure true) (PySem.call (.builtin "isinstance") [.ref l, .ref tp]) := fun hl => .leaf fun H S =>
    IsiPair.tupleOfB (Tx := "list") (vs := [false, true]) (.cons (.of_false_list (by decide +kernel) F.isi_meta_tuple F.sub_list_tuple) (.cons (.of_true F.isi_meta_list F.sub_list_list) .nil)) ⟨_, hl, rfl⟩ ht rfl fun t => .tok S t rfl
  cases a with
  | none => exact ra.noneE (.leaf fun H S => IsiPair.tupleOfB (Tx := "NoneType") (vs := [false, false]) (.cons (.of_false_none (by decide +kernel) F.isi_meta_tuple F.sub_NoneType_tuple) (.cons (.of_false_none (by decide +kernel) F.isi_meta_list F.sub_NoneType_list) .nil)) rfl ht rfl fun t => .tok S t rfl)
  | bool b => exact ra.boolE (.leaf fun H S => IsiPair.tupleOfB (Tx := "bool") (vs := [false, false]) (.cons (.of_false_bool (by decide +kernel) F.isi_meta_tuple F.sub_bool_tuple) (.cons (.of_false_bool (by decide +kernel) F.isi_meta_list F.sub_bool_list) .nil)) rfl ht rfl fun t => .tok S t rfl)
  | int i => exact ra.intE fun u => .leaf fun H S => IsiPair.tupleOfB (Tx := "int") (vs := [false, false]) (.cons (.of_false_int (by decide +kernel) F.isi_meta_tuple F.sub_int_tuple) (.cons (.of_false_int (by decide +kernel) F.isi_meta_list F.sub_int_list) .nil)) rfl ht rfl fun t => .tok S t rfl
  | str x => exact ra.strE fun u => .leaf fun H S => IsiPair.tupleOfB (Tx := "str") (vs := [false, false]) (.cons (.of_false_str (by decide +kernel) F.isi_meta_tuple F.sub_str_tuple) (.cons (.of_false_str (by decide +kernel) F.isi_meta_list F.sub_str_list) .nil)) rfl ht rfl fun t => .tok S t rfl
  | tup xs => exact ra.tupE fun l vs n hl _ _ _ => .leaf fun H S => IsiPair.tupleOfB (Tx := "tuple") (vs := [true, false]) (.cons (.of_true F.isi_meta_tuple F.sub_tuple_tuple) (.cons (.of_false_tuple (by decide +kernel) F.isi_meta_list F.sub_tuple_list) .nil)) ⟨_, hl, rfl⟩ ht rfl fun t => .tok S t rfl
  | lst xs => exact ra.lstE fun l vs n hl _ _ _ => lists hl
  | loc i => exact ra.locE fun l h => .read (listAt_rd h) fun xs ⟨vs, n, hl, _⟩ => lists hl
  | _ => exact .stuck
theorem isi2_rf {e : Expr} {fp q tp1 tp2 tp3 : Pos} {k : Nat} {x y : Str} (G : Good cx P) (hev : EvOK cx A env (EnvR cx env sc ns σ) ev) (i : EnvR cx env sc ns σ w) (hg : isGlob sc ("isinstance" : Str) = true) (hx : isGlob sc x = true) (hy : isGlob sc y = true) (ht : isTL x y = true) (he : exOk e = true) :
    Rf cx A No w (VR cx) (do let v ← ev e; let b ← pIsiTL v; pure (.bool b)) (eval (.Call (.Name ("isinstance" : Str) fp) [e, .Tuple [.Name x tp1, .Name y tp2] k tp3] [] q) env) := by
  unfold isTL at ht
  rw [Bool.and_eq_true] at ht
  have h1 := of_decide_eq_true ht.1
  have h2 := of_decide_eq_true ht.2
  subst h1; subst h2
  refine named_rf (fun S h => load_bi G S i.k hg (by decide) G.isi h) fun H S r H' h => ?_
  refine Calls.callWith_builtin (any_star q _ (by rw [List.all_cons, he]; rfl)) ?_
  rw [exOk_star he]
  refine Calls.evalArgs_plain (Calls.spliced_cons ((hev e w i).run S h fun w1 a v H1 l1 S1 r1 h1 => Calls.spliced_cons (Tuple_ (k := k) ?_)))
  show wpAny _ _ (spliced [(false, eval (.Name ("tuple" : Str) tp1) env), (false, eval (.Name ("list" : Str) tp2) env)]) _ _ _
  refine Calls.spliced_cons (load_bi G S1 i.k hx (by decide) (G.ty _ .tuple (by decide)) (Calls.spliced_cons (load_bi G S1 i.k hy (by decide) (G.ty _ .list (by decide)) (Calls.spliced_nil ?_))))
  refine wpAny_newObj_type (Calls.spliced_nil ?_) (by size_fits)
  have l2 : Le cx No w1 ⟨w1.ι, w1.π, { w1.s with heap := w1.s.heap.push { cls := .type "tuple", data := .seq #[.type "tuple", .type "list"] } }⟩ := .keeps (pushk _)
  have z := Rf.bind (k := Pure.pure) (isiTL_leaf (A := A) (r1.mono l2) (Heap.get?_push_size _ rfl)) fun w2 b x l2 e => Rf.pure (R := VR cx) (a := .bool b) e
  rw [bind_pure] at z
  exact wpAny_mono (z H1 (S1.keeps (t := w1.s.toks) (pushk _)) r H' h1) (fun _ _ q => q.le (l1.trans l2)) fun _ _ q => q.le (l1.trans l2)

-- methods
theorem mt_slot (m : Mt) : ∃ x : Str, Slot "list" x (mtId m) ∧ typeOf (.builtin (mtId m)) = pure (.type "method_descriptor") ∧ ∀ y, mtOf y = some m → y = x := by
  have key : ∀ y, (mtOf y = some .append → y = ("append" : Str)) ∧ (mtOf y = some .pop → y = ("pop" : Str)) ∧ (mtOf y = some .clear → y = ("clear" : Str)) ∧ (mtOf y = some .count → y = ("count" : Str)) := fun y => by
    unfold mtOf
    split
    · exact ⟨fun _ => ‹_›, fun h => (nomatch h), fun h => (nomatch h), fun h => (nomatch h)⟩
    split
    · exact ⟨fun h => (nomatch h), fun _ => ‹_›, fun h => (nomatch h), fun h => (nomatch h)⟩
    split
    · exact ⟨fun h => (nomatch h), fun h => (nomatch h), fun _ => ‹_›, fun h => (nomatch h)⟩
    split
    · exact ⟨fun h => (nomatch h), fun h => (nomatch h), fun h => (nomatch h), fun _ => ‹_›⟩
    · exact ⟨fun h => (nomatch h), fun h => (nomatch h), fun h => (nomatch h), fun h => (nomatch h)⟩
  cases m with
  | append => exact ⟨_, F.slot_list_append, by kernel_rfl, fun y => (key y).1⟩
  | pop => exact ⟨_, F.slot_list_pop, by kernel_rfl, fun y => (key y).2.1⟩
  | clear => exact ⟨_, F.slot_list_clear, by kernel_rfl, fun y => (key y).2.2.1⟩
  | count => exact ⟨_, F.slot_list_count, by kernel_rfl, fun y => (key y).2.2.2⟩
theorem plainBase_attr {o : Expr} {m : Str} (h : plainBase o = true) : attributeBase o m env (eval o env) = eval o env := by
  cases o <;> first | (cases h; done) | rfl
theorem pMeth_rf (R : Room A) {k : Mt} {o : AV} {l : Addr} {as : List AV} {vs : List Value} (ro : VR cx w o (.ref l)) (r : VRs cx w as vs) : Rf cx A No w (VR cx) (pMethK k o as) (PySem.call (.builtin (mtId k)) (.ref l :: vs)) := by
  cases o with
  | loc i => obtain ⟨a, e, h⟩ := ro; cases e; exact .read (listAt_rd h) fun xs ⟨ws, n, hL, hz, hs⟩ => methL_rf R h hL hz hs r
  | lst xs =>
    obtain ⟨a, ws, n, e, hL, _, hz, hs⟩ := ro
    cases e
    exact .stuck
  | _ => exact .stuck
theorem meth_rf (R : Room A) {o : Expr} {m : Str} {k : Mt} {ap q : Pos} {args : List Expr} (hev : EvOK cx A env (EnvR cx env sc ns σ) ev) (i : EnvR cx env sc ns σ w) (hm : mtOf m = some k) (hb : (plainBase o && ap.endLine == q.line && decide (args.length ≤ 2) && args.all exOk) = true) :
    Rf cx A No w (VR cx) (do let ov ← ev o; let _ ← listOf ov; let vs ← evAll ev args; pMethK k ov vs) (eval (.Call (.Attribute o m ap) args [] q) env) := fun H S r H' h => by
  rw [Bool.and_eq_true, Bool.and_eq_true, Bool.and_eq_true] at hb
  obtain ⟨⟨⟨hb1, hb2⟩, hb3⟩, hb4⟩ := hb
  obtain ⟨x, hs1, hs2, hs3⟩ := mt_slot k
  have hm' := hs3 m hm
  subst hm'
  refine wpAny_Call_method_late (trees := backTo q (starEach args env)) (plainBase_attr hb1) ?_ hb2 rfl ((hev o w i).run S h fun w1 a v H1 l1 S1 r1 h1 => ?_)
  · rw [(len_star q args hb4).2]
    show (true && decide _) = true
    rw [Bool.true_and, decide_eq_true_iff]
    exact Nat.lt_of_le_of_lt (of_decide_eq_true hb3) (by decide)
  · refine bind_inv h1 (fun xs H2 g1 g2 => ?_) fun e g1 g2 => (by obtain ⟨_, c, e', _⟩ := listOf_rd r1 H1 S1 _ H' g1; cases e')
    obtain ⟨rfl, c, e', l, vs, n, rfl, hL, hz, hvs⟩ := listOf_rd r1 H1 S1 _ H2 g1
    refine ⟨"list", mtId k, F.plainAttrs_list, hs1, hs2, ⟨_, hL, rfl⟩, fun a' z => by cases z; exact ⟨_, hL, rfl⟩, ?_⟩
    have z := Rf.seqw (f := pMethK k a) (T := callWith q (.builtin (mtId k)) [.ref l] (backTo q (starEach args env)) []) (k := fun a => PySem.call (.builtin (mtId k)) ([.ref l] ++ a.pos) a.kw) (args_rf (f := .builtin (mtId k)) (pos := q) EnvR.stable hev (EnvR.stable _ _ i l1) hb4)
      (fun w' as a' l ⟨vs, e, r⟩ => by subst e; exact pMeth_rf R (r1.mono l) r) fun z => Calls.callWith_builtin (any_star q args hb4) z
    exact wpAny_mono (z _ S1 r H' g2) (fun _ _ q => q.le l1) fun _ _ q => q.le l1
theorem fn_rf {f : Str} {fp q : Pos} {args : List Expr} {cf : Str → List AV → M AV} (G : Good cx P) (C : CallOK cx A P cf) (hev : EvOK cx A env (EnvR cx env sc ns σ) ev) (i : EnvR cx env sc ns σ w) (hg : isGlob sc f = true) (hf : (P.fn f).isSome = true) :
    Rf cx A No w (VR cx) (do let vs ← evEach ev args; cf f vs) (eval (.Call (.Name f fp) args [] q) env) := by
  obtain ⟨hd, fa, o, fd, q1, q2, q3, q4⟩ := C f hf
  refine named_rf (fun S h => load_glob G S i.k hg hd q1 h) (each_call fun h H S r H' hh => Calls.callWith_function (o := o) (fd := fd) ((args_rf (f := .ref fa) (pos := q) EnvR.stable hev i h).run S hh fun w1 as a H1 l1 S1 ⟨vs, e, r1⟩ h1 => ?_))
  subst e
  exact ⟨⟨(S1.base _ _ q2).1, q3⟩, wpAny_mono (q4 w1 as vs (EnvR.stable _ _ i l1).fr (EnvR.stable _ _ i l1).hd r1 H1 S1 r H' h1) (fun _ _ q => q.le l1) fun _ _ q => q.le l1⟩
/-- list(zip(a, b)) -/
def ZipOK (cx : Cx) (A : Around) : Prop := ∀ w a b v u mu H r H', VR cx w a v → VR cx w b u → St cx w H → pZip mu a b H = some (r, H') →
  wpAny (model cx.prog cx.w) A (PySem.call (.type "zip") [v, u]) (fun z s1 => wpAny (model cx.prog cx.w) A (PySem.call (.type "list") [z]) (Post cx No w (VR cx) r H') (PostX cx No w r H') s1) (PostX cx No w r H') w.s
theorem nameOf1_of {e : Expr} {x : Str × Pos} (h : nameOf1 e = some x) : e = .Name x.1 x.2 := by
  cases e with
  | Name y q => cases h; rfl
  | _ => cases h
theorem pairN_of {es : List Expr} {x y : Str × Pos} (h : pairN es = some (x, y)) : es = [.Name x.1 x.2, .Name y.1 y.2] := by
  match es, h with
  | [a, b], h =>
    unfold pairN at h
    cases ha : nameOf1 a with
    | none => simp only [ha] at h; cases h
    | some z =>
      simp only [ha] at h
      obtain ⟨u, h1, h2⟩ := Option.map_eq_some_iff.mp h
      cases h2
      rw [nameOf1_of ha, nameOf1_of h1]
theorem callOf_of {e : Expr} {f : Str} {args : List Expr} (h : callOf e = some (f, args)) : ∃ fp p, e = .Call (.Name f fp) args [] p := by
  cases e with
  | Call g as kws p =>
    cases kws with
    | nil =>
      obtain ⟨z, h1, h2⟩ := Option.map_eq_some_iff.mp (show (nameOf1 g).map (fun x => (x.1, as)) = some (f, args) from h)
      cases h2
      exact ⟨z.2, p, by rw [nameOf1_of h1]⟩
    | cons _ _ => cases h
  | _ => cases h
theorem isZip_of {args : List Expr} {x y : Expr} (h : isZip sc args = some (x, y)) : ∃ zp q, args = [.Call (.Name ("zip" : Str) zp) [x, y] [] q] ∧ isGlob sc ("zip" : Str) = true := by
  match args, h with
  | [e], h =>
    unfold isZip at h
    simp only at h
    split at h
    · rename_i z x' y' hc
      split at h
      · rename_i hz
        cases h
        obtain ⟨fp, p, rfl⟩ := callOf_of hc
        obtain ⟨rfl, h2⟩ := hz
        exact ⟨fp, p, rfl, h2⟩
      · cases h
    · cases h
theorem zip_rf {f : Str} {fp q : Pos} {args : List Expr} {x y : Expr} {mu : Bool} (Z : ZipOK cx A) (G : Good cx P) (hev : EvOK cx A env (EnvR cx env sc ns σ) ev) (i : EnvR cx env sc ns σ w) (hg : isGlob sc f = true) (hb : biOf f = some .list) (hz : isZip sc args = some (x, y)) :
    Rf cx A No w (VR cx) (do let vs ← evEach ev [x, y]; pZipL mu vs) (eval (.Call (.Name f fp) args [] q) env) := by
  obtain ⟨zp, q', rfl, hgz⟩ := isZip_of hz
  refine named_rf (fun S h => load_bi G S i.k hg (no_debug (g := biOf) (by decide) hb) (G.bi f .list hb) h) (each_call fun h H S r H' hh => ?_)
  refine PyProof.Rows.callWith_type rfl (Calls.evalArgs_plain (Calls.spliced_cons (Call_Name rfl (load_bi G S i.k hgz (by decide) G.zip ?_))))
  refine PyProof.Rows.callWith_type (any_star q' _ h) ((args_rf (f := .type "zip") (pos := q') EnvR.stable hev i h).run S hh fun w1 as a H1 l1 S1 ⟨vs, e, r1⟩ h1 => ?_)
  subst e
  match as, r1, h1 with
  | [a, b], r1, h1 =>
    refine r1.consE fun v us ra r0 => r0.consE fun v' us' rb r2 => r2.nilE ?_
    refine wpAny_mono (Z w1 a b v v' mu H1 r H' ra rb S1 h1) (fun z s2 h2 => Calls.spliced_nil ?_) fun _ _ q => q.le l1
    exact wpAny_mono h2 (fun _ _ q => q.le l1) fun _ _ q => q.le l1
  | [], _, h1 => cases h1
  | [_], _, h1 => cases h1
  | _ :: _ :: _ :: _, _, h1 => cases h1
theorem call_rf {f : Expr} {args : List Expr} {q : Pos} {mu : Bool} {cf : Str → List AV → M AV} (hh : P.free = true → A.handled = none) (R : Room A) (Z : P.free = true → ZipOK cx A) (G : Good cx P) (C : CallOK cx A P cf) (hev : EvOK cx A env (EnvR cx env sc ns σ) ev) (i : EnvR cx env sc ns σ w) :
    Rf cx A No w (VR cx) (dCall P ev cf mu sc f args q) (eval (.Call f args [] q) env) := by
  cases f with
  | Attribute o m ap =>
    show Rf cx A No w (VR cx) (match mtOf m with | some k => _ | none => stuck) _
    cases hm : mtOf m with
    | none => exact .stuck
    | some k => exact ite_rf (fun hb => meth_rf R hev i hm hb) fun _ => .stuck
  | Name f fp =>
    refine ite_rf (fun hg => ite_rf (fun hf => ?_) fun hf => ?_) fun _ => .stuck
    · subst hf
      match args with
      | [] => exact .stuck
      | [_] => exact .stuck
      | _ :: _ :: _ :: _ => exact .stuck
      | [e, t] =>
        refine ite_rf (fun he => ?_) fun _ => .stuck
        cases t with
        | Name t tp =>
          refine ite_rf (fun hx => ?_) fun _ => .stuck
          cases ht : tyOf t with
          | none => exact isX_rf G hev i hg hx he
          | some t => exact isi1_rf G hev i hg hx ht he
        | Tuple es k tp =>
          show Rf cx A No w (VR cx) (match pairN es with | some (t, u) => _ | none => stuck) _
          cases hp : pairN es with
          | none => exact .stuck
          | some tu =>
            obtain ⟨t, u⟩ := tu
            refine ite_rf (fun hx => ?_) fun _ => .stuck
            rw [Bool.and_eq_true, Bool.and_eq_true] at hx
            rw [pairN_of hp]
            exact isi2_rf G hev i hg hx.1.2 hx.2 hx.1.1 he
        | _ => exact .stuck
    · show Rf cx A No w (VR cx) (match biOf f with | some b => _ | none => _) _
      cases hb : biOf f with
      | none => exact ite_rf (fun hf => fn_rf G C hev i hg hf) fun _ => .stuck
      | some b =>
        refine ite_rf (fun hfr => ?_) fun _ => .stuck
        show Rf cx A No w (VR cx) (dBI ev mu sc b args) _
        unfold dBI
        cases hz : (if b = .list then isZip sc args else none : Option (Expr × Expr)) with
        | none => exact bi_call (fun hb' => hh (by rw [hb'] at hfr; simpa using hfr)) G hev i hg hb
        | some xy =>
          obtain ⟨x, y⟩ := xy
          split at hz
          · rename_i hl; subst hl; exact zip_rf (Z (by simpa [looksH] using hfr)) G hev i hg hb hz
          · cases hz
  | _ => exact .stuck
end
end Mine


set_option autoImplicit false
set_option linter.unusedVariables false
namespace Mine
open PySem PyProof.Rows PySem.SeqAt

/-- the iterator at it walks the items xs, i of them are through -/
inductive ItI (cx : Cx) (w : Wl) (it : Addr) (xs : List AV) (i : Nat) : Prop
  | list (l : Addr) (vs : Array Value) (n : Nat) (h1 : w.s.heap.IsListIter it l i) (h2 : IsL w.s.heap l vs n) (h3 : Fz w l) (h4 : VRs cx w xs vs.toList)
  | tup (l : Addr) (vs : Array Value) (n : Nat) (h1 : w.s.heap.IsTupleIter it l i) (h2 : IsT w.s.heap l vs n) (h3 : Fz w l) (h4 : VRs cx w xs vs.toList)
  | range (a b : Int) (e : xs = rangeL a b) (h1 : IsRangeIter w.s.heap it (a + i) (((b - a).toNat : Int) - i) 1)
def ItR (cx : Cx) (w : Wl) (it : Addr) (i : Nat) : Src → Prop
  | .items xs => ItI cx w it xs i
  | .at l => ∃ a, w.ι[l]? = some a ∧ w.s.heap.IsListIter it a i
  | .enum _ => False
section
variable {cx : Cx} {A : Around} {p : Addr → Prop} {w w' : Wl} {H : AHeap} {it : Addr} {i : Nat}
theorem li_up {h h' : Heap} {a l : Addr} {i : Nat} (x : h.IsListIter a l i) (e : ∀ o, h.get? a = some o → UpS cx a o (h'.get? a)) : h'.IsListIter a l i := let ⟨o, h1, h2, h3⟩ := x; ⟨o, (e o h1).nd fun es ep z => by (rw [h3] at z; cases z), h2, h3⟩
theorem ItR.mono (l : Le cx p w w') (hp : it ∈ w.π) (hn : ¬ p it) : ∀ {src : Src}, ItR cx w it i src → ItR cx w' it i src
  | .items _, .list a vs n h1 h2 h3 h4 => .list a vs n (li_up h1 fun o e => l.kp _ o hp hn e) (l.fz' h2 h3).1 (l.fz' h2 h3).2 (h4.mono l)
  | .items _, .tup a vs n ⟨o, e, q1, q2⟩ h2 h3 h4 => .tup a vs n ⟨o, (l.kp _ o hp hn e).nd fun es ep z => by (rw [q2] at z; cases z), q1, q2⟩ (l.fz' h2 h3).1 (l.fz' h2 h3).2 (h4.mono l)
  | .items _, .range a b e h1 => .range a b e ((l.kp _ _ hp hn h1).nd fun es ep z => nomatch z)
  | .at _, ⟨a, h1, h2⟩ => ⟨a, prefix_get l.pre h1, li_up h2 fun o e => l.kp _ o hp hn e⟩
/-- what a turn of the iterator gives -/
def RNext (cx : Cx) (it : Addr) (i : Nat) (src : Src) (w : Wl) (r : Option AV) (o : Option Value) : Prop := match r with
  | none => o = none
  | some a => ∃ v, o = some v ∧ VR cx w a v ∧ it ∈ w.π ∧ ItR cx w it (i + 1) src
theorem rangeL_get {a b : Int} {i : Nat} : (rangeL a b)[i]? = if i < (b - a).toNat then some (.int (a + i)) else none := by
  unfold rangeL
  rw [List.getElem?_map]
  by_cases h : i < (b - a).toNat
  · rw [List.getElem?_range h, if_pos h]; rfl
  · rw [List.getElem?_eq_none (by rw [List.length_range]; exact Nat.not_lt.mp h), if_neg h]; rfl
/-- the iterator turns -/
theorem next_item (S : St cx w H) (hp : it ∈ w.π) {h' : Heap} {t : Nat} (hk : ∀ b o, b ≠ it → w.s.heap.get? b = some o → h'.get? b = some o) {src : Src} {a : AV} {v : Value}
    (k : Le cx (fun b => b = it) w ⟨w.ι, w.π, { w.s with heap := h', toks := t }⟩ → VR cx ⟨w.ι, w.π, { w.s with heap := h', toks := t }⟩ a v ∧ ItR cx ⟨w.ι, w.π, { w.s with heap := h', toks := t }⟩ it (i + 1) src)
    (hx : ∃ o, h'.get? it = some o) : Post cx (fun b => b = it) w (RNext cx it i src) (.ok (some a)) H (some v) { w.s with heap := h', toks := t } :=
  let q := S.priv (t := t) hp hk hx; ⟨w.ι, w.π, _, rfl, q.1, q.2, v, rfl, (k q.1).1, hp, (k q.1).2⟩
theorem next_end (S : St cx w H) (hp : it ∈ w.π) {h' : Heap} {t : Nat} (hk : ∀ b o, b ≠ it → w.s.heap.get? b = some o → h'.get? b = some o) {src : Src} : Post cx (fun b => b = it) w (RNext cx it i src) (.ok none) H none { w.s with heap := h', toks := t } :=
  let q := S.drop (t := t) hp hk; ⟨w.ι, _, _, rfl, q.1, q.2, rfl⟩
theorem ne_vs {vs : Array Value} {xs : List AV} (h4 : VRs cx w xs vs.toList) (hx : xs[i]? = none) : vs[i]? = none := by
  rw [Array.getElem?_eq_none_iff, h4.size]; exact List.getElem?_eq_none_iff.mp hx
theorem nextL_rf (hk : HdOK A w.s.heap) (hne : A.handled ≠ some (.ref it)) (hp : it ∈ w.π) {l : Addr} {vs : Array Value} {n : Nat} {xs : List AV} {src : Src} (h1 : w.s.heap.IsListIter it l i) (h2 : IsL w.s.heap l vs n) (h4 : VRs cx w xs vs.toList)
    (k : ∀ {h' : Heap} {t : Nat}, Le cx (fun b => b = it) w ⟨w.ι, w.π, { w.s with heap := h', toks := t }⟩ → h'.IsListIter it l (i + 1) → ItR cx ⟨w.ι, w.π, { w.s with heap := h', toks := t }⟩ it (i + 1) src) :
    Rf cx A (fun b => b = it) w (RNext cx it i src) (pure xs[i]?) (pyNext (.ref it)) := .leaf fun H S => by
  cases hx : xs[i]? with
  | none => exact list_end hk hne h1 h2.isList (ne_vs h4 hx) fun h' he => next_end S (t := w.s.toks) hp he
  | some a =>
    obtain ⟨v, hv, rv⟩ := h4.get hx
    exact wpAny_pyNext_list_item h1 h2.isList (x := v) (by rw [← Array.getElem?_toList]; exact hv) fun h' hit hs => next_item S (t := w.s.toks) hp hs.extBut (fun l => ⟨rv.mono l, k l hit⟩) (let ⟨o, e, _⟩ := hit; ⟨o, e⟩)
theorem next_rf (hk : HdOK A w.s.heap) (hne : A.handled ≠ some (.ref it)) (hp : it ∈ w.π) : ∀ {src : Src}, ItR cx w it i src → Rf cx A (fun b => b = it) w (RNext cx it i src) (src.get i) (pyNext (.ref it))
  | .items xs, .list a vs n h1 h2 h3 h4 => nextL_rf hk hne hp h1 h2 h4 fun l hit => .list a vs n hit (l.fz' h2 h3).1 (l.fz' h2 h3).2 (h4.mono l)
  | .at j, ⟨a, h1, h2⟩ => .read (listAt_rd h1) fun xs ⟨vs, n, hL, hz, hs⟩ => nextL_rf hk hne hp h2 hL hs fun l hit => ⟨a, h1, hit⟩
  | .items xs, .tup a vs n h1 h2 h3 h4 => .leaf fun H S => by
    have hT : w.s.heap.IsTuple a vs := ⟨_, h2, rfl, n, rfl⟩
    cases hx : xs[i]? with
    | none => exact tuple_end hk hne h1 hT (ne_vs h4 hx) fun h' he => next_end S (t := w.s.toks) hp he
    | some c =>
      obtain ⟨v, hv, rv⟩ := h4.get hx
      exact wpAny_pyNext_tuple_item h1 hT (x := v) (by rw [← Array.getElem?_toList]; exact hv) fun h' hit hs => next_item S (t := w.s.toks) hp hs.extBut (fun l => ⟨rv.mono l, .tup a vs n hit (l.fz' h2 h3).1 (l.fz' h2 h3).2 (h4.mono l)⟩) (let ⟨o, e, _⟩ := hit; ⟨o, e⟩)
  | .items xs, .range a b e h1 => .leaf fun H S => by
    rw [e, rangeL_get]
    split
    · refine wpAny_pyNext_range_item h1 (by omega) fun h' hit hs => next_item S (t := w.s.toks + 1) hp hs.extBut (fun l => ⟨.int, .range a b rfl ?_⟩) ⟨_, hit⟩
      have e1 : a + ((i + 1 : Nat) : Int) = a + i + 1 := by omega
      have e2 : ((b - a).toNat : Int) - ((i + 1 : Nat) : Int) = ((b - a).toNat : Int) - i - 1 := by omega
      rw [e1, e2]; exact hit
    · exact range_end hk h1 (by omega) fun h' he => next_end S (t := w.s.toks) hp he
/-- an iterator is made: it is private -/
def RIter (cx : Cx) (w₀ w : Wl) (src : Src) (v : Value) : Prop := ∃ it, v = .ref it ∧ it ∈ w.π ∧ ItR cx w it 0 src ∧ w₀.s.heap.get? it = none
theorem iter_post (S : St cx w H) {o : Obj} {src : Src} (k : Le cx No w ⟨w.ι, w.s.heap.objs.size :: w.π, { w.s with heap := w.s.heap.push o }⟩ → ItR cx ⟨w.ι, w.s.heap.objs.size :: w.π, { w.s with heap := w.s.heap.push o }⟩ w.s.heap.objs.size 0 src) (hf : o.isFreed = false) :
    Post cx No w (RIter cx w) (.ok src) H (.ref w.s.heap.objs.size) { w.s with heap := w.s.heap.push o } :=
  let q := S.hide (t := w.s.toks) (pushk o) (get_size _) ⟨o, Heap.get?_push_size _ hf⟩; ⟨w.ι, _, src, rfl, q.1, q.2, _, rfl, List.mem_cons_self, k q.1, get_size _⟩
theorem iter_rf {a : AV} {v : Value} (ra : VR cx w a v) : Rf cx A No w (RIter cx w) (srcOf a) (pyIter v) := by
  cases a with
  | tup xs => exact ra.tupE fun l vs n h1 h2 h3 h4 => .leaf fun H S => wpAny_pyIter_tuple ⟨_, h1, rfl, _, rfl⟩ (iter_post S (fun q => .tup l vs n ⟨_, Heap.get?_push_size _ rfl, rfl, rfl⟩ (q.fz' h1 h2).1 (q.fz' h1 h2).2 (h4.mono q)) rfl)
  | lst xs => exact ra.lstE fun l vs n h1 h2 h3 h4 => .leaf fun H S => wpAny_pyIter_list h1.isList (iter_post S (fun q => .list l vs n ⟨_, Heap.get?_push_size _ rfl, rfl, rfl⟩ (q.fz' h1 h2).1 (q.fz' h1 h2).2 (h4.mono q)) rfl)
  | range a b => exact ra.rangeE fun d t u x hr hf => ite_rf (fun hsm => .leaf fun H S => wpAny_pyIter_range hr (small_of hsm) (iter_post S (fun q => .range a b rfl (by rw [range_count, show ((0 : Nat) : Int) = 0 from rfl, Int.add_zero, Int.sub_zero]; exact Heap.get?_push_size _ rfl)) rfl)) fun _ => .stuck
  | loc i => exact ra.locE fun l h => .read (listAt_rd h) fun xs ⟨vs, n, hL, _⟩ => .leaf fun H S => wpAny_pyIter_list hL.isList (iter_post S (fun q => ⟨l, h, _, Heap.get?_push_size _ rfl, rfl, rfl⟩) rfl)
  | _ => exact .stuck
/-- an iterator is its own iterator -/
theorem self_iter {Q : Value → Shared → Prop} {E : Value → Shared → Prop} (h : Q (.ref it) w.s) : ∀ {src : Src}, ItR cx w it i src → wpAny (model cx.prog cx.w) A (pyIter (.ref it)) Q E w.s
  | .items _, .list _ _ _ h1 _ _ _ => wpAny_pyIter_listiter h1 h
  | .items _, .tup _ _ _ h1 _ _ _ => wpAny_pyIter_tupleiter h1 h
  | .items _, .range _ _ _ h1 => wpAny_pyIter_rangeiter h1 h
  | .at _, ⟨_, _, h1⟩ => wpAny_pyIter_listiter h1 h
end
end Mine


set_option autoImplicit false
set_option linter.unusedVariables false
namespace Mine
open PySem PyProof.Rows PySem.SeqAt

section
variable {cx : Cx} {A : Around} {env : Env} {sc : Scope} {ns : List Str} {σ : Loc}
theorem closureFor_some {scope : Scope} (h : ∀ y, (y, NameKind.free) ∈ scope.names → ∃ c, env.cells.lookup y = some c) :
    ∃ cl, closureFor scope env = pure cl ∧ (∀ y, (y, NameKind.free) ∈ scope.names → cl.lookup y = env.cells.lookup y) ∧ ∀ y c, cl.lookup y = some c → env.cells.lookup y = some c := by
  have go : ∀ (names : List (Str × NameKind)) (acc : List (Str × Addr)), (∀ y, (y, NameKind.free) ∈ names → ∃ c, env.cells.lookup y = some c) →
      (∀ y c, acc.lookup y = some c → env.cells.lookup y = some c) →
      ∃ cl, (forIn (m := Sem) names acc fun x r => if (x.2 == NameKind.free) = true then (do let c ← cellOf env x.1; pure (ForInStep.yield ((x.1, c) :: r))) else pure (ForInStep.yield r)) = pure cl ∧
        (∀ y c, cl.lookup y = some c → env.cells.lookup y = some c) ∧ (∀ y, (y, NameKind.free) ∈ names → ∃ c, cl.lookup y = some c) ∧ (∀ y c, acc.lookup y = some c → ∃ c', cl.lookup y = some c') := by
    intro names
    induction names with
    | nil => intro acc _ ha; exact ⟨acc, rfl, ha, fun y hy => (nomatch hy), fun y c hc => ⟨c, hc⟩⟩
    | cons x r ih =>
      intro acc hn ha
      rw [List.forIn_cons]
      by_cases hx : x.2 = .free
      · obtain ⟨c, hc⟩ := hn x.1 (by rw [← hx]; exact List.mem_cons_self)
        have hcell : cellOf env x.1 = pure c := by unfold cellOf; rw [hc]
        rw [if_pos (by rw [hx]; rfl), hcell]
        simp only [pure_bind]
        have ha' : ∀ y c', ((x.1, c) :: acc).lookup y = some c' → env.cells.lookup y = some c' := fun y c' h' => by
          rw [List.lookup_cons] at h'
          cases hb : y == x.1 with
          | true => rw [hb] at h'; cases h'; rw [beq_iff_eq.mp hb]; exact hc
          | false => rw [hb] at h'; exact ha y c' h'
        obtain ⟨cl, e1, e2, e3, e4⟩ := ih ((x.1, c) :: acc) (fun y hy => hn y (List.mem_cons_of_mem _ hy)) ha'
        refine ⟨cl, e1, e2, fun y hy => ?_, fun y c' h' => ?_⟩
        · rcases List.mem_cons.mp hy with q | q
          · exact e4 y c (by rw [← q, List.lookup_cons, beq_self_eq_true])
          · exact e3 y q
        · cases hb : y == x.1 with
          | true => exact e4 y c (by rw [List.lookup_cons, hb])
          | false => exact e4 y c' (by rw [List.lookup_cons, hb]; exact h')
      · rw [if_neg (fun z => hx (by simpa using z))]
        simp only [pure_bind]
        obtain ⟨cl, e1, e2, e3, e4⟩ := ih acc (fun y hy => hn y (List.mem_cons_of_mem _ hy)) ha
        refine ⟨cl, e1, e2, fun y hy => ?_, e4⟩
        rcases List.mem_cons.mp hy with q | q
        · exact absurd (by rw [← q]) hx
        · exact e3 y q
  obtain ⟨cl, e1, e2, e3, _⟩ := go scope.names [] h (fun y c hc => by cases hc)
  refine ⟨cl, ?_, fun y hy => ?_, e2⟩
  · have e0 : closureFor scope env = ((forIn (m := Sem) scope.names ([] : List (Str × Addr)) fun x r => if (x.2 == NameKind.free) = true then (do let c ← cellOf env x.1; pure (ForInStep.yield ((x.1, c) :: r))) else pure (ForInStep.yield r)) >>= fun cs => pure cs) := by
      unfold closureFor
      congr 1
    rw [e0, e1]; rfl
  · obtain ⟨c, hc⟩ := e3 y hy
    rw [hc, e2 y c hc]
/-- the kind that a name of the comprehension has, seen from its frame -/
def relK (env : Env) (y : Str) (k : NameKind) : NameKind := if (k == NameKind.free && env.scope.kind == .function && env.kindOf y == some .cell) then NameKind.cell else k
theorem relabel_lookup (y : Str) : ∀ (names : List (Str × NameKind)),
    (names.map fun (n, k) => if (k == NameKind.free && env.scope.kind == .function && env.kindOf n == some .cell) then (n, NameKind.cell) else (n, k)).lookup y = (names.lookup y).map (relK env y)
  | [] => rfl
  | (n, k) :: r => by
    have ih := relabel_lookup y r
    show List.lookup y ((if (k == NameKind.free && env.scope.kind == .function && env.kindOf n == some .cell) = true then (n, NameKind.cell) else (n, k)) :: _) = _
    rw [show (if (k == NameKind.free && env.scope.kind == .function && env.kindOf n == some .cell) = true then (n, NameKind.cell) else (n, k)) = (n, relK env n k) from by unfold relK; split <;> rfl, List.lookup_cons, List.lookup_cons]
    cases hx : y == n with
    | true => rw [beq_iff_eq.mp hx]; rfl
    | false => exact ih
theorem lookup_mem {names : List (Str × NameKind)} {y : Str} {k : NameKind} (h : names.lookup y = some k) : (y, k) ∈ names := by
  induction names with
  | nil => cases h
  | cons p r ih =>
    rw [List.lookup_cons] at h
    cases hb : y == p.1 with
    | true => rw [hb] at h; cases h; rw [beq_iff_eq.mp hb]; exact List.mem_cons_self
    | false => rw [hb] at h; exact List.mem_cons_of_mem _ (ih h)
structure CompOK (sc : Scope) (ns : List Str) (scope : Scope) (x : Str) : Prop where
  kind : scope.kind = .function
  own : scope.names.lookup x = some .local
  no0 : (".0" : Str) ∉ ns
  loc : ∀ y, (y, NameKind.local) ∈ scope.names → (y = x ∨ y = (".0" : Str)) ∧ scope.names.lookup y = some .local
  free : ∀ y, (y, NameKind.free) ∈ scope.names → sc.names.lookup y = some .cell ∧ ns.contains y = true
  kinds : ∀ y k, (y, k) ∈ scope.names → k = .local ∨ k = .free ∨ k = .globalImplicit
theorem compOk_of {scope : Scope} {x : Str} (h : compOk sc ns scope x = true) : CompOK sc ns scope x := by
  unfold compOk at h
  rw [Bool.and_eq_true, Bool.and_eq_true, Bool.and_eq_true, List.all_eq_true] at h
  obtain ⟨⟨⟨h1, h2⟩, h3⟩, h4⟩ := h
  refine ⟨by simpa using h1, by simpa using h2, by simpa using h3, fun y hy => ?_, fun y hy => ?_, fun y k hy => ?_⟩
  · have := h4 _ hy
    simpa using this
  · have := h4 _ hy
    simpa using this
  · have h5 := h4 _ hy
    cases k with
    | «local» => exact .inl rfl
    | free => exact .inr (.inl rfl)
    | globalImplicit => exact .inr (.inr rfl)
    | _ => cases h5
theorem idxOf_cons_ne {x y : Str} (h : y ≠ x) : (x :: ns).idxOf? y = (ns.idxOf? y).map (· + 1) := by
  rw [List.idxOf?_cons, if_neg (by simpa using Ne.symm h)]
theorem EnvR.comp {w : Wl} {scope : Scope} {x : Str} {cl : List (Str × Addr)} {C : Addr} {m : Str → Option Value} {a : AV} {v : Value} (e : EnvR cx env sc ns σ w) (ok : CompOK sc ns scope x) (hcl : (∀ y, (y, NameKind.free) ∈ scope.names → cl.lookup y = env.cells.lookup y) ∧ ∀ y c, cl.lookup y = some c → env.cells.lookup y = some c)
    (hC : C ∈ w.π) (hn : w.s.heap.Ns C m) (hx : m x = some v) (r : VR cx w a v) : EnvR cx (compEnvC scope cl C env) scope (x :: ns) (some a :: σ) w := by
  have hk : ∀ y, (compEnvC scope cl C env).kindOf y = (scope.names.lookup y).map (relK env y) := fun y => relabel_lookup (env := env) y scope.names
  have hlook : ∀ y k, scope.names.lookup y = some k → k = .local ∨ k = .free ∨ k = .globalImplicit := fun y k q => ok.kinds y k (lookup_mem q)
  have kf : ∀ y, relK env y .free = .cell ∨ relK env y .free = .free := fun y => by unfold relK; split; exact .inl rfl; exact .inr rfl
  refine ⟨⟨?_, e.k.glob, e.k.blt, ?_, ?_, ?_⟩, hC, ⟨m, hn, ?_⟩, ?_, ?_, fun n c q => e.cls n c (hcl.2 n c q), e.fr, e.hd⟩
  · show (relabel scope env).kind = _; exact ok.kind
  · intro y hy
    rw [hk]
    unfold isLocal at hy
    cases hl : scope.names.lookup y with
    | none => rw [hl] at hy; cases hy
    | some k =>
      rcases hlook y k hl with q | q | q
      · subst q; exact .inl rfl
      · subst q; rcases kf y with z | z
        · exact .inr (.inl (congrArg some z))
        · exact .inr (.inr (congrArg some z))
      · subst q; rw [hl] at hy; cases hy
  · intro y h2
    rcases hlook y _ h2 with q | q | q <;> cases q
  · intro y hy
    rw [hk]
    unfold isGlob at hy
    cases hl : scope.names.lookup y with
    | none => rw [hl] at hy; cases hy
    | some k =>
      rcases hlook y k hl with q | q | q
      · subst q; rw [hl] at hy; cases hy
      · subst q; rw [hl] at hy; cases hy
      · subst q; rfl
  · intro y i b h1 h2 h3
    rw [hk] at h3
    obtain ⟨k, hl, h3⟩ := Option.map_eq_some_iff.mp h3
    rcases hlook y k hl with q | q | q
    · subst q
      by_cases hyx : y = x
      · subst hyx
        rw [List.idxOf?_cons, beq_self_eq_true] at h1
        cases h1; cases h2
        exact ⟨v, hx, r⟩
      · rcases (ok.loc y (lookup_mem hl)).1 with hy | hy
        · exact absurd hy hyx
        · rw [idxOf_cons_ne hyx, List.idxOf?_eq_none_iff.mpr (by rw [hy]; exact ok.no0)] at h1; cases h1
    · subst q; rcases kf y with z | z <;> rw [z] at h3 <;> cases h3
    · subst q; cases h3
  · intro y i b h1 h2 h3
    rw [hk] at h3
    cases hl : scope.names.lookup y with
    | none => rw [hl] at h3; rcases h3 with h3 | h3 <;> cases h3
    | some k =>
      rw [hl] at h3
      rcases hlook y k hl with q | q | q
      · subst q; rcases h3 with h3 | h3 <;> cases h3
      · subst q
        obtain ⟨f1, f2⟩ := ok.free y (lookup_mem hl)
        have hyx : y ≠ x := fun q => by subst q; rw [ok.own] at hl; cases hl
        rw [idxOf_cons_ne hyx] at h1
        obtain ⟨j, hi, rfl⟩ := Option.map_eq_some_iff.mp h1
        obtain ⟨c, u, q1, q2, q3, q4⟩ := e.cel y j b hi h2 (.inl (e.k.kcell y f1))
        exact ⟨c, u, (hcl.1 y (lookup_mem hl)).trans q1, q2, q3, q4⟩
      · subst q; rcases h3 with h3 | h3 <;> cases h3
  · intro y h1 h2
    rcases hlook y _ h2 with q | q | q <;> cases q
end
end Mine


set_option autoImplicit false
set_option linter.unusedVariables false
namespace Mine
open PySem PyProof.Rows PySem.SeqAt

noncomputable def compBody (te : AV → Expr → M Bool) (ev : AV → Expr → M AV) (ifs : List Expr) (elt : Expr) (v : AV) : M (Option AV) := do
  let t ← ifs1 (te v) ifs
  if t then do
    let y ← ev v elt
    pure (some y)
  else pure none
/-- the private objects of a comprehension -/
def P3 (it C D : Addr) : Addr → Prop := fun b => b = it ∨ b = C ∨ b = D
section
variable {cx : Cx} {A : Around} {p : Addr → Prop} {w w' w₁ : Wl} {H : AHeap} {env : Env} {sc : Scope} {ns : List Str} {σ : Loc} {src : Src} {it C D : Addr} {i : Nat} {acc : List AV}
theorem noX_ok {α : Type} {m : M α} {H H' : AHeap} {r : Except Str α} (h : noX m H = some (r, H')) : ∃ a, r = .ok a ∧ m H = some (.ok a, H') := by
  unfold noX at h
  split at h
  · rename_i a H1 e; cases h; exact ⟨a, rfl, e⟩
  · cases h
/-- where a comprehension stands, ahead of a turn -/
structure CL (cx : Cx) (env : Env) (sc : Scope) (ns : List Str) (σ : Loc) (w₁ : Wl) (it C D : Addr) (src : Src) (i : Nat) (acc : List AV) (w : Wl) (H : AHeap) : Prop where
  S : St cx w H
  X : Le cx (P3 it C D) w₁ w
  E : EnvR cx env sc ns σ w
  pI : it ∈ w.π
  J : ItR cx w it i src
  pD : D ∈ w.π
  L : ∃ vs n, IsL w.s.heap D vs n ∧ VRs cx w acc vs.toList
  pC : C ∈ w.π
  N : ∃ m, w.s.heap.Ns C m
structure CLs (cx : Cx) (env : Env) (it C D : Addr) : Prop where
  iC : it ≠ C
  iD : it ≠ D
  cD : C ≠ D
  oI : ¬ OwnF cx env it
  oC : ¬ OwnF cx env C
  oD : ¬ OwnF cx env D
theorem ns_keep {h h' : Heap} {a : Addr} (x : ∃ m, h.Ns a m) (e : ∀ o, h.get? a = some o → h'.get? a = some o) : ∃ m, h'.Ns a m := let ⟨m, h1⟩ := x; ⟨m, h1.at' e⟩
theorem ns_up {h h' : Heap} {a : Addr} (x : ∃ m, h.Ns a m) (e : ∀ o, h.get? a = some o → UpS cx a o (h'.get? a)) : ∃ m, h'.Ns a m := let ⟨m, h1⟩ := x; ⟨m, UpS.ns h1 e⟩
theorem lst_keep {acc : List AV} (l : Le cx p w w') (hp : D ∈ w.π) (hn : ¬ p D) (x : ∃ vs n, IsL w.s.heap D vs n ∧ VRs cx w acc vs.toList) : ∃ vs n, IsL w'.s.heap D vs n ∧ VRs cx w' acc vs.toList := let ⟨vs, n, h1, h2⟩ := x; ⟨vs, n, (l.kp _ _ hp hn h1).nd (fun es ep z => nomatch z), h2.mono l⟩
theorem CL.mono {H' : AHeap} (c : CL cx env sc ns σ w₁ it C D src i acc w H) (l : Le cx No w w') (S : St cx w' H') : CL cx env sc ns σ w₁ it C D src i acc w' H' :=
  ⟨S, c.X.trans l.no, EnvR.stable _ _ c.E l, l.pv _ c.pI id, c.J.mono l c.pI id, l.pv _ c.pD id, lst_keep l c.pD id c.L, l.pv _ c.pC id, ns_up c.N fun o e => l.kp _ o c.pC id e⟩
theorem turn_rf (hh : HdA cx A) (c : CL cx env sc ns σ w₁ it C D src i acc w H) : Rf cx A (fun b => b = it) w (RNext cx it i src) (src.get i) (pyNext (.ref it)) := next_rf (hh.ok c.E.hd) (hh.ne c.E.hd c.pI) c.pI c.J
theorem CL.turnI {H' : AHeap} {j : Nat} (K : CLs cx env it C D) (c : CL cx env sc ns σ w₁ it C D src i acc w H) (l : Le cx (fun b => b = it) w w') (S : St cx w' H') (pI : it ∈ w'.π) (J : ItR cx w' it j src) : CL cx env sc ns σ w₁ it C D src j acc w' H' :=
  ⟨S, c.X.trans (l.weak fun b _ h => .inl h), c.E.mono l fun b hb h => K.oI (h ▸ hb), pI, J, l.pv _ c.pD (Ne.symm K.iD), lst_keep l c.pD (Ne.symm K.iD) c.L, l.pv _ c.pC (Ne.symm K.iC), ns_up c.N fun o e => l.kp _ o c.pC (Ne.symm K.iC) e⟩
theorem CL.turnC {H' : AHeap} (K : CLs cx env it C D) (c : CL cx env sc ns σ w₁ it C D src i acc w H) (l : Le cx (fun b => b = C) w w') (S : St cx w' H') (pC : C ∈ w'.π) (N : ∃ m, w'.s.heap.Ns C m) : CL cx env sc ns σ w₁ it C D src i acc w' H' :=
  ⟨S, c.X.trans (l.weak fun b _ h => .inr (.inl h)), c.E.mono l fun b hb h => K.oC (h ▸ hb), l.pv _ c.pI K.iC, c.J.mono l c.pI K.iC, l.pv _ c.pD (Ne.symm K.cD), lst_keep l c.pD (Ne.symm K.cD) c.L, pC, N⟩
/-- an item is added -/
theorem CL.add (K : CLs cx env it C D) (c : CL cx env sc ns σ w₁ it C D src i acc w H) {a : AV} {v : Value} {Q : Value → Shared → Prop} {E : Value → Shared → Prop} (r : VR cx w a v) (hz : acc.length < LIM)
    (hQ : ∀ u w', CL cx env sc ns σ w₁ it C D src i (acc ++ [a]) w' H → Q u w'.s) : wpAny (model cx.prog cx.w) A (PySem.call (.builtin "list.append") [.ref D, v]) Q E w.s := by
  obtain ⟨vs, n, l1, l2⟩ := c.L
  refine call_meets F.slot_list_append ⟨_, l1, rfl⟩ F.entry_list_append (F.args_list_append_2 _ _) (list_append _ vs n v (by rw [l2.size]; exact Nat.le_trans (Nat.le_of_lt hz) LIM_le)) ⟨l1, hQ _ ⟨w.ι, w.π, { w.s with heap := w.s.heap.update D (Obj.mapSeq (·.push v)) }⟩ ?_⟩
  have hk : ∀ b o, b ≠ D → w.s.heap.get? b = some o → (w.s.heap.update D (Obj.mapSeq (·.push v))).get? b = some o := fun b o hb e => (Heap.get?_update_other _ _ (Ne.symm hb)).trans e
  have hL := IsL.update l1 (·.push v)
  obtain ⟨l, S⟩ := c.S.priv (t := w.s.toks) c.pD hk ⟨_, hL⟩
  exact ⟨S, c.X.trans (l.weak fun b _ h => .inr (.inr h)), c.E.mono l fun b hb h => K.oD (h ▸ hb), c.pI, c.J.mono l c.pI K.iD, c.pD, ⟨_, _, hL, by rw [Array.toList_push]; exact (l2.append (.cons r .nil)).mono l⟩, c.pC, ns_keep c.N fun o e => hk C o K.cD e⟩
theorem ifs_rf {te : Expr → M Bool} {I : Wl → Prop} {env' : Env} (hte : TeOK cx A env' I te) (i : I w) {ifs : List Expr} :
    Rf cx A No w Rt (ifs1 te ifs) (forIn ifs true fun c r => if r = true then do let ok ← PySem.isTrue c env' (eval c env'); pure (ForInStep.yield ok) else pure (ForInStep.yield r)) := by
  match ifs with
  | [] => exact .leaf fun H S => wpAny_tests_nil (.here S rfl)
  | [e] => exact (hte e w i).wp fun h => wpAny_tests_one h
  | _ :: _ :: _ => exact .stuck
theorem compLoop_sound {elt iter : Expr} {x : Str} {px pos : Pos} {ifs : List Expr} {scope : Scope} {cl : List (Str × Addr)} {ys : List AV} {te : AV → Expr → M Bool} {ev : AV → Expr → M AV} {R : Result → Shared → Prop} {H3 : AHeap}
    (hh : HdA cx A) (ok : CompOK sc ns scope x) (hcl : (∀ y, (y, NameKind.free) ∈ scope.names → cl.lookup y = env.cells.lookup y) ∧ ∀ y c, cl.lookup y = some c → env.cells.lookup y = some c) (K : CLs cx env it C D)
    (hev : ∀ env' a, EvOK cx A env' (EnvR cx env' scope (x :: ns) (some a :: σ)) (ev a)) (hte : ∀ env' a, TeOK cx A env' (EnvR cx env' scope (x :: ns) (some a :: σ)) (te a))
    (hR : ∀ w', St cx w' H3 → Le cx (P3 it C D) w₁ w' → EnvR cx env sc ns σ w' → D ∈ w'.π → (∃ vs n, IsL w'.s.heap D vs n ∧ VRs cx w' ys vs.toList) → C ∈ w'.π → (∃ m, w'.s.heap.Ns C m) → R (.ok .next) w'.s)
    (f : Nat) (i : Nat) (hc : CL cx env sc ns σ w₁ it C D src i acc w H) (hl : compLoop src (compBody te ev ifs elt) f i acc H = some (.ok ys, H3)) :
    codeAny (model cx.prog cx.w) A (.compLoop (.ListComp elt [⟨.Name x px, iter, ifs, 0⟩] scope pos) 0 (.ref it) (.ref D) (compEnvC scope cl C env)) R w.s := by
  refine codeAny_compLoop_tests (fun k s' => ∃ w H' i acc, w.s = s' ∧ CL cx env sc ns σ w₁ it C D src i acc w H' ∧ compLoop src (compBody te ev ifs elt) k i acc H' = some (.ok ys, H3)) ?_ f ⟨w, H, i, acc, rfl, hc, hl⟩
  clear hc hl
  rintro k s ⟨w, H, i, acc, rfl, c, hl⟩
  cases k with
  | zero => cases hl
  | succ k =>
    unfold compLoop at hl
    refine wpAny_mono ((turn_rf hh c).run c.S hl fun w1 r o H1 l1 S1 hr h2 => ?_) (fun _ _ z => z) fun _ _ ⟨_, _, _, e, _⟩ => nomatch e
    cases r with
    | none =>
      have hr : o = none := hr
      subst hr
      obtain ⟨e1, rfl⟩ := pure_some h2
      cases e1
      exact hR w1 S1 (c.X.trans (l1.weak fun b _ h => .inl h)) (c.E.mono l1 fun b hb h => K.oI (h ▸ hb)) (l1.pv _ c.pD (Ne.symm K.iD)) (lst_keep l1 c.pD (Ne.symm K.iD) c.L) (l1.pv _ c.pC (Ne.symm K.iC)) (ns_up c.N fun o e => l1.kp _ o c.pC (Ne.symm K.iC) e)
    | some a =>
      obtain ⟨v, rfl, rv, pI, J'⟩ := hr
      have c1 := c.turnI K l1 S1 pI J'
      obtain ⟨m, hm⟩ := c1.N
      refine wpAny_assign_Name (wpAny_storeName_local (env := compEnvC scope cl C env) (lookup_relabel_local ok.own) hm (fun h'' hn'' hs'' => ?_) (by simp [compEnvC, relabel, ok.kind]))
      obtain ⟨l2, S2⟩ := c1.S.priv (t := w1.s.toks + 1) c1.pC hs''.extBut (let ⟨o, _, _, e, _⟩ := hn''; ⟨o, e⟩)
      have c2 := c1.turnC K l2 S2 c1.pC ⟨_, hn''⟩
      have I2 : EnvR cx (compEnvC scope cl C env) scope (x :: ns) (some a :: σ) ⟨w1.ι, w1.π, { w1.s with heap := h'', toks := w1.s.toks + 1 }⟩ := c2.E.comp ok hcl c1.pC hn'' (by simp) (rv.mono l2)
      refine bind_inv h2 (fun b H2 h3 h4 => ?_) fun x h3 h4 => by cases h4
      obtain ⟨b', e', h3⟩ := noX_ok h3
      cases e'
      refine wpAny_mono ((ifs_rf (hte _ a) I2 (ifs := ifs)).run c2.S h3 fun w3 t t' H3' l3 S3 ht h5 => ?_) (fun _ _ z => z) fun _ _ ⟨_, _, _, e, _⟩ => nomatch e
      have c3 := c2.mono l3 S3
      rw [← show t = t' from ht]
      cases t with
      | false =>
        obtain ⟨e1, rfl⟩ := pure_some h5
        cases e1
        exact ⟨k, Nat.lt_succ_self _, w3, _, _, _, rfl, c3, h4⟩
      | true =>
        refine wpAny_mono ((hev _ a elt w3 (EnvR.stable _ _ I2 l3)).run (f := fun y => pure (some y)) c3.S h5 fun w4 y u H5 l4 S4 r4 h6 => ?_) (fun _ _ z => z) fun _ _ ⟨_, _, _, e, _⟩ => nomatch e
        obtain ⟨e1, rfl⟩ := pure_some h6
        cases e1
        have h4 : (if acc.length < LIM then compLoop src (compBody te ev ifs elt) k (i + 1) (acc ++ [y]) else stuck : M (List AV)) _ = some (.ok ys, H3) := h4
        split at h4
        · exact (c3.mono l4 S4).add K r4 ‹_› fun _ w5 c5 => ⟨k, Nat.lt_succ_self _, w5, _, _, _, rfl, c5, h4⟩
        · cases h4
theorem listAt_ok {l : Nat} {H H' : AHeap} {r : Except Str (List AV)} (h : listAt l H = some (r, H')) : ∃ a, r = .ok a := by
  refine bind_inv h (fun o H1 h1 h2 => ?_) fun x h1 h2 => ?_
  · cases o with
    | list xs => exact ⟨xs, (pure_some h2).1⟩
    | dict _ => cases h2
  · unfold objAt at h1
    split at h1 <;> cases h1
theorem get_ok {H H' : AHeap} : ∀ {src : Src} {r : Except Str (Option AV)}, src.get i H = some (r, H') → ∃ a, r = .ok a
  | .items xs, r, h => ⟨_, (pure_some h).1⟩
  | .at l, r, h => bind_inv h (fun xs H1 h1 h2 => ⟨_, (pure_some h2).1⟩) fun x h1 h2 => by obtain ⟨a, e⟩ := listAt_ok h1; cases e
  | .enum s, r, h => bind_inv h (fun xs H1 h1 h2 => ⟨_, (pure_some h2).1⟩) fun x h1 h2 => by obtain ⟨a, e⟩ := get_ok (src := s) h1; cases e
theorem compLoop_ok {body : AV → M (Option AV)} : ∀ (f i : Nat) (acc : List AV) {H H' : AHeap} {r : Except Str (List AV)}, compLoop src body f i acc H = some (r, H') → ∃ a, r = .ok a
  | 0, _, _, _, _, _, h => nomatch h
  | f + 1, i, acc, H, H', r, h => by
    unfold compLoop at h
    refine bind_inv h (fun o H1 h1 h2 => ?_) fun x h1 h2 => by obtain ⟨a, e⟩ := get_ok h1; cases e
    cases o with
    | none => exact ⟨_, (pure_some h2).1⟩
    | some v =>
      refine bind_inv h2 (fun b H2 h3 h4 => ?_) fun x h3 h4 => by obtain ⟨a, e, _⟩ := noX_ok h3; cases e
      cases b with
      | none => exact compLoop_ok f (i + 1) acc h4
      | some y =>
        have h4 : (if acc.length < LIM then compLoop src body f (i + 1) (acc ++ [y]) else stuck : M (List AV)) H2 = some (r, H') := h4
        split at h4
        · exact compLoop_ok f (i + 1) _ h4
        · cases h4
theorem comp_core {elt iter : Expr} {x : Str} {px pos pos' : Pos} {ifs : List Expr} {scope : Scope} {mu : Bool} {ei : Expr → M AV} {te : AV → Expr → M Bool} {ev : AV → Expr → M AV} {use : Option (Value → Sem Unit)} {Q : Value → Shared → Prop} {r : Except Str AV} {H' : AHeap}
    (hh : HdA cx A) (ok : CompOK sc ns scope x) (hx : exOk iter = true) (hi : EvOK cx A env (EnvR cx env sc ns σ) ei)
    (hev : ∀ env' a, EvOK cx A env' (EnvR cx env' scope (x :: ns) (some a :: σ)) (ev a)) (hte : ∀ env' a, TeOK cx A env' (EnvR cx env' scope (x :: ns) (some a :: σ)) (te a)) (S : St cx w H) (I : EnvR cx env sc ns σ w)
    (h : (do let iv ← ei iter; let src ← srcOf iv; let ys ← compLoop src (compBody te ev ifs elt) FUEL 0 []; newL mu ys : M AV) H = some (r, H'))
    (hfin : ∀ D C w' a, r = .ok a → Le cx No w w' → St cx w' H' → VR cx w' a (.ref D) → EnvR cx env sc ns σ w' → C ∈ w'.π → C ∉ w.π → ¬ OwnF cx env C → (∃ m, w'.s.heap.Ns C m) → compPost (model cx.prog cx.w) A (PostX cx No w r H') use Q (.ref D) C (.ok .next) w'.s) :
    wpAny (model cx.prog cx.w) A (comprehension (.ListComp elt [⟨.Name x px, iter, ifs, 0⟩] scope pos) scope env pos' (newList []) false (eval iter env) use) Q (PostX cx No w r H') w.s := by
  obtain ⟨cl, hclos, hcl⟩ := closureFor_some (env := env) (scope := scope) (fun y hy => by
    obtain ⟨f1, f2⟩ := ok.free y hy
    obtain ⟨c, v, q, _⟩ := I.has y f2 f1
    exact ⟨c, q⟩)
  refine wpAny_comprehension_free (use := use) rfl (fun v => exOk_set hx) hclos ok.kind (fun z hz hl => (ok.loc z.1 (by rw [← hl]; exact hz)).2) ((hi iter w I).run S h fun w1 iv xv H1 l1 S1 r1 h1 => ?_)
  refine wpAny_mono ((iter_rf r1).run S1 h1 fun w2 src itv H2 l2 S2 ⟨it, e, pI, J, hitn⟩ h2 => ?_) (fun _ _ z => z) fun _ _ q => q.le l1
  subst e
  -- the list
  have hDn : w2.s.heap.get? w2.s.heap.objs.size = none := get_size _
  obtain ⟨l3, S3⟩ := S2.hide (t := w2.s.toks) (pushk { cls := .type "list", dict := none, data := .seq ([] : List Value).toArray }) hDn ⟨_, Heap.get?_push_size _ rfl⟩
  refine wpAny_newObj_type (wpAny_newFunctionEnv (fun z hz => by rcases ok.kinds z.1 z.2 hz with q | q | q <;> rw [q] <;> simp) (by intro y hy; simp at hy) (fun h4 hns hsb => ?_) ok.kind)
  dsimp only at hns hsb ⊢
  have hD3 : IsL (w2.s.heap.push { cls := .type "list", dict := none, data := .seq ([] : List Value).toArray }) w2.s.heap.objs.size #[] 0 := Heap.get?_push_size _ rfl
  have hGs : (w2.s.heap.push { cls := .type "list", dict := none, data := .seq ([] : List Value).toArray }).objs.size = w2.s.heap.objs.size + 1 := Heap.size_push ..
  generalize w2.s.heap.push { cls := .type "list", dict := none, data := .seq ([] : List Value).toArray } = G at hns hsb l3 S3 hD3 hGs ⊢
  have hk4 : ∀ b o, G.get? b = some o → h4.get? b = some o := fun b o e => hsb.extBut b o (Nat.ne_of_lt (Heap.lt_size e)) (Heap.get?_push_of_some _ e)
  obtain ⟨l4, S4⟩ := S3.hide (t := w2.s.toks + 0) hk4 (get_size _) (let ⟨o, _, _, e, _⟩ := hns; ⟨o, e⟩)
  have I1 := EnvR.stable _ _ I l1
  have I2 := EnvR.stable _ _ I1 l2
  have I4 := EnvR.stable _ _ (EnvR.stable _ _ I2 l3) l4
  obtain ⟨oi, hoi⟩ := S2.pvx it pI
  have iD : it ≠ w2.s.heap.objs.size := Nat.ne_of_lt (Heap.lt_size hoi)
  have iC : it ≠ G.objs.size := by rw [hGs]; exact Nat.ne_of_lt (Nat.lt_succ_of_lt (Heap.lt_size hoi))
  have cD : G.objs.size ≠ w2.s.heap.objs.size := by rw [hGs]; exact Nat.succ_ne_self _
  have old : ∀ {b : Addr}, OwnF cx env b → b < w2.s.heap.objs.size ∧ b ≠ it := fun {b} hb => by
    obtain ⟨o, e⟩ := S1.pvx b (I1.ownF hb)
    obtain ⟨o2, e2⟩ := S2.pvx b (I2.ownF hb)
    exact ⟨Heap.lt_size e2, fun z => by rw [z, hitn] at e; cases e⟩
  have K : CLs cx env it G.objs.size w2.s.heap.objs.size := ⟨iC, iD, cD, fun h => (old h).2 rfl, fun h => absurd (old h).1 (by rw [hGs]; exact Nat.not_lt.mpr (Nat.le_succ _)), fun h => Nat.lt_irrefl _ (old h).1⟩
  have c0 : CL cx env sc ns σ ⟨w2.ι, G.objs.size :: w2.s.heap.objs.size :: w2.π, { w2.s with heap := h4, toks := w2.s.toks + 0 }⟩ it G.objs.size w2.s.heap.objs.size src 0 [] ⟨w2.ι, G.objs.size :: w2.s.heap.objs.size :: w2.π, { w2.s with heap := h4, toks := w2.s.toks + 0 }⟩ H2 :=
    ⟨S4, .refl _, I4, List.mem_cons_of_mem _ (List.mem_cons_of_mem _ pI), (J.mono l3 pI id).mono l4 (List.mem_cons_of_mem _ pI) id, List.mem_cons_of_mem _ List.mem_cons_self, ⟨#[], 0, hk4 _ _ hD3, rfl⟩, List.mem_cons_self, ⟨_, hns⟩⟩
  refine bind_inv h2 (fun ys H3 h5 h6 => ?_) fun e h5 h6 => by obtain ⟨a, e⟩ := compLoop_ok _ _ _ h5; cases e
  have hz := newL_len h6
  have np : ∀ b, b ∈ w.π → ¬ P3 it G.objs.size w2.s.heap.objs.size b := fun b hb h => by
    obtain ⟨o, e⟩ := S1.pvx b (l1.pv b hb id)
    obtain ⟨o2, e2⟩ := S2.pvx b (l2.pv b (l1.pv b hb id) id)
    rcases h with h | h | h
    · rw [h, hitn] at e; cases e
    · rw [h] at e2; exact absurd (Heap.lt_size e2) (by rw [hGs]; exact Nat.not_lt.mpr (Nat.le_succ _))
    · rw [h] at e2; exact Nat.lt_irrefl _ (Heap.lt_size e2)
  have lw : ∀ {w'}, Le cx (P3 it G.objs.size w2.s.heap.objs.size) ⟨w2.ι, G.objs.size :: w2.s.heap.objs.size :: w2.π, { w2.s with heap := h4, toks := w2.s.toks + 0 }⟩ w' → Le cx No w w' := fun l => (l1.no.trans (l2.no.trans (l3.no.trans (l4.no.trans l)))).weak fun b hb h => np b hb h
  have loop : codeAny (model cx.prog cx.w) A (.compLoop (.ListComp elt [⟨.Name x px, iter, ifs, 0⟩] scope pos) 0 (.ref it) (.ref w2.s.heap.objs.size) (compEnvC scope cl G.objs.size env)) (compPost (model cx.prog cx.w) A (PostX cx No w r H') use Q (.ref w2.s.heap.objs.size) G.objs.size) { w2.s with heap := h4, toks := w2.s.toks + 0 } := by
    refine compLoop_sound hh ok hcl K hev hte (fun w5 S5 l5 I5 pD ⟨vs, n, hL, hvs⟩ pC hN => ?_) FUEL 0 c0 h5
    have oc : ¬ OwnF cx env G.objs.size := K.oC
    have nc : G.objs.size ∉ w.π := fun hb => np _ hb (.inr (.inl rfl))
    unfold newL at h6
    rw [if_pos hz] at h6
    cases mu with
    | false =>
      obtain ⟨rfl, rfl⟩ := pure_some h6
      obtain ⟨l6, S6⟩ := S5.drop (t := w5.s.toks) pD fun _ _ _ e => e
      have l7 := l5.trans (l6.weak fun b _ h => .inr (.inr h))
      exact hfin _ _ ⟨w5.ι, outP w5.π w2.s.heap.objs.size, { w5.s with heap := w5.s.heap, toks := w5.s.toks }⟩ _ rfl (lw l7) S6 (.lst hL ⟨fun z => S5.dj _ z pD, fun z => (mem_outP.mp z).2 rfl⟩ hz (hvs.mono l6)) (I5.mono l6 fun b hb h => K.oD (h ▸ hb)) (mem_outP.mpr ⟨pC, cD⟩) nc oc hN
    | true =>
      cases h6
      obtain ⟨l6, S6⟩ := S5.adopt (t := w5.s.toks) (o := .list ys) pD (fun _ _ _ e => e) fun l6 => ⟨vs, n, hL, hz, hvs.mono l6⟩
      have l7 := l5.trans (l6.weak fun b _ h => .inr (.inr h))
      exact hfin _ _ ⟨w5.ι ++ [w2.s.heap.objs.size], outP w5.π w2.s.heap.objs.size, { w5.s with heap := w5.s.heap, toks := w5.s.toks }⟩ _ rfl (lw l7) S6 (.loc (by rw [← S5.len]; exact List.getElem?_concat_length)) (I5.mono l6 fun b hb h => K.oD (h ▸ hb)) (mem_outP.mpr ⟨pC, cD⟩) nc oc hN
  exact codeAny_compStart_list loop (self_iter (w := ⟨w2.ι, G.objs.size :: w2.s.heap.objs.size :: w2.π, { w2.s with heap := h4, toks := w2.s.toks + 0 }⟩) loop c0.J)
/-- the plain comprehension: its variable's dict is let go -/
theorem comp_rf {elt iter : Expr} {x : Str} {px pos : Pos} {ifs : List Expr} {scope : Scope} {mu : Bool} {ei : Expr → M AV} {te : AV → Expr → M Bool} {ev : AV → Expr → M AV}
    (hh : HdA cx A) (ok : CompOK sc ns scope x) (hx : exOk iter = true) (hi : EvOK cx A env (EnvR cx env sc ns σ) ei)
    (hev : ∀ env' a, EvOK cx A env' (EnvR cx env' scope (x :: ns) (some a :: σ)) (ev a)) (hte : ∀ env' a, TeOK cx A env' (EnvR cx env' scope (x :: ns) (some a :: σ)) (te a)) (I : EnvR cx env sc ns σ w) :
    Rf cx A No w (VR cx) (do let iv ← ei iter; let src ← srcOf iv; let ys ← compLoop src (compBody te ev ifs elt) FUEL 0 []; newL mu ys) (eval (.ListComp elt [⟨.Name x px, iter, ifs, 0⟩] scope pos) env) := fun H S r H' h => by
  rw [eval_ListComp]
  refine comp_core (use := none) (mu := mu) hh ok hx hi hev hte S I h fun D C w' a e l S' rv I' pC nC oC ⟨m, hN⟩ => ⟨m, hN, fun h' hs => ?_⟩
  subst e
  obtain ⟨l2, S2⟩ := S'.drop (t := w'.s.toks) pC hs.extBut
  exact ⟨_, _, a, rfl, (l.no.trans l2).weak (fun b hb h => nC (h ▸ hb)), S2, rv.mono l2⟩
end
end Mine


set_option autoImplicit false
set_option linter.unusedVariables false
namespace Mine
open PySem PyProof.Rows PySem.SeqAt

section
variable {cx : Cx} {A : Around} {w : Wl} {P : Pg} {cf : Str → List AV → M AV}
theorem compGen_of {gens : List Comprehension} {x : Str} {iter : Expr} {ifs : List Expr} (h : compGen gens = some (x, iter, ifs)) : ∃ px, gens = [⟨.Name x px, iter, ifs, 0⟩] := by
  match gens, h with
  | [⟨tg, it, fs, k⟩], h =>
    have h' : (if k = 0 then (nameOf1 tg).map fun x => (x.1, it, fs) else none) = some (x, iter, ifs) := h
    split at h'
    · rename_i h0
      obtain ⟨y, h1, h2⟩ := Option.map_eq_some_iff.mp h'
      cases h2
      rw [nameOf1_of h1, h0]
      exact ⟨y.2, rfl⟩
    · cases h'
theorem dComp_cases {sc : Scope} {ns : List Str} {T : M AV → Prop} {elt : Expr} {gens : List Comprehension} {scope : Scope} {n : Nat} {mu : Bool} {ev : Expr → M AV} {ec : Str → AV → Expr → M AV} (h0 : T stuck)
    (h1 : ∀ x px iter ifs, gens = [⟨.Name x px, iter, ifs, 0⟩] → CompOK sc ns scope x → exOk iter = true → T (do let iv ← ev iter; let src ← srcOf iv; let ys ← compLoop src (compBody (fun v => denT (ec x v) n) (fun v => ec x v) ifs elt) FUEL 0 []; newL mu ys)) : T (dComp ev ec n mu sc ns scope elt gens) := by
  unfold dComp
  cases hg : compGen gens with
  | none => exact h0
  | some q =>
    obtain ⟨x, iter, ifs⟩ := q
    obtain ⟨px, e⟩ := compGen_of hg
    show T (if compOk sc ns scope x && exOk iter then _ else stuck)
    by_cases hok : (compOk sc ns scope x && exOk iter) = true
    · rw [if_pos hok]; rw [Bool.and_eq_true] at hok; exact h1 x px iter ifs e (compOk_of hok.1) hok.2
    · rw [if_neg hok]; exact h0
theorem den_rf (hk : HdA cx A) (hh : P.free = true → A.handled = none) (R : Room A) (Z : P.free = true → ZipOK cx A) (G : Good cx P) (C : CallOK cx A P cf) : ∀ (n : Nat) (env : Env) (sc : Scope) (ns : List Str) (σ : Loc), EvOK cx A env (EnvR cx env sc ns σ) (den P cf n sc ns σ)
  | 0, env, sc, ns, σ => fun e w i => .stuck
  | n + 1, env, sc, ns, σ => fun e w i => by
    have ih := den_rf hk hh R Z G C n
    have hev := ih env sc ns σ
    have hst : Stable cx (EnvR cx env sc ns σ) := EnvR.stable
    cases e with
    | Constant c k p => exact const_rf
    | Name x p => exact dName_rf G i
    | BoolOp op vs p => rw [arm_eval_BoolOp]; exact bOp_rf hst hev _ _ _ i
    | BinOp l op r p => exact binop_rf hst hev i
    | UnaryOp op x p => exact unop_rf hev i
    | Compare l ops cs p => exact compare_rf R hst hev i
    | Tuple es k p => exact tuple_lit_rf hst hev i
    | List es p => exact list_lit_rf hst hev i
    | Dict keys vals p => exact dict_lit_rf hst hev i i.fr
    | Subscript o j p => exact sub_rf hst hev i
    | ListComp elt gens scope p =>
      refine dComp_cases (T := fun m => Rf cx A No w (VR cx) m (eval (.ListComp elt gens scope p) env)) .stuck fun x px iter ifs e ok hx => ?_
      subst e
      exact comp_rf hk ok hx hev (fun env' a => ih env' scope (x :: ns) (some a :: σ)) (fun env' a => denT_rf R EnvR.stable (ih env' scope (x :: ns) (some a :: σ)) n) i
    | Call f args kws p =>
      cases kws with
      | nil => exact call_rf hh R Z G C hev i
      | cons _ _ => exact .stuck
    | _ => exact .stuck
end
end Mine


set_option autoImplicit false
set_option linter.unusedVariables false
namespace Mine
open PySem PyProof.Rows PySem.W

/-- the frames around -/
structure FrA (cx : Cx) (l : List Env) : Prop where
  adr : ∀ env ∈ l, ∃ a, env.frame = some a ∧ a ∈ cx.fr
  kind : ∀ env ∈ l, env.scope.kind ≠ .module
theorem FrA.tail {cx : Cx} {env : Env} {l : List Env} (F : FrA cx (env :: l)) : FrA cx l := ⟨fun e h => F.adr e (List.mem_cons_of_mem _ h), fun e h => F.kind e (List.mem_cons_of_mem _ h)⟩
/-- an exception that has an entry -/
def XRt (cx : Cx) (n : Addr → Prop) (w : Wl) (x : Str) (e : Value) : Prop := (∀ b, b ∈ cx.fr → FrAt w b) ∧ ∃ a o vs, XA cx n w x e a o vs ∧ XT n w a vs
theorem XRt.xr {cx : Cx} {n : Addr → Prop} {w : Wl} {x : Str} {e : Value} (h : XRt cx n w x e) : XR cx n w x e := let ⟨h1, a, o, vs, h2, h3⟩ := h; ⟨h1, a, o, vs, h2, .inr h3⟩
/-- x flies, since w₀ -/
structure Fly (cx : Cx) (p : Addr → Prop) (w₀ : Wl) (H : AHeap) (x : Str) (e : Value) (w : Wl) : Prop where
  le : Le cx p w₀ w
  S : St cx w H
  X : XR cx (Nw p w₀) w x e
  own : ∀ b, p b → b ∈ w.π
structure FlyT (cx : Cx) (p : Addr → Prop) (w₀ : Wl) (H : AHeap) (x : Str) (e : Value) (w : Wl) : Prop where
  le : Le cx p w₀ w
  S : St cx w H
  X : XRt cx (Nw p w₀) w x e
  own : ∀ b, p b → b ∈ w.π
theorem funFrames_of {cx : Cx} {w : Wl} {hid : List Addr} (hs : ∀ b, b ∈ cx.fr → FrAt w b) (hh : ∀ b, b ∈ cx.fr → b ∈ hid) : ∀ {l : List Env}, FrA cx l → w.s.heap.FunFrames (hideAll w.s.heap hid) l
  | [], _ => trivial
  | env :: l, F => by
    obtain ⟨a, h1, h2⟩ := F.adr env List.mem_cons_self
    obtain ⟨_, o, es, ep, h3, h4⟩ := hs a h2
    exact ⟨F.kind env List.mem_cons_self, ⟨a, o, h1, hideAll_none _ (hh a h2), h3, fun vs z => by rw [h4] at z; cases z⟩, funFrames_of hs hh F.tail⟩
section
variable {cx : Cx} {A : Around} {p : Addr → Prop} {w w₀ : Wl} {H : AHeap} {x : Str} {e : Value}
theorem FlyT.fly (F : FlyT cx p w₀ H x e w) : Fly cx p w₀ H x e w := ⟨F.le, F.S, F.X.xr, F.own⟩
theorem Fly.post {α : Type} {r : Except Str α} (F : Fly cx p w₀ H x e w) (hr : r = .error x) : PostX cx p w₀ r H e w.s := ⟨w.ι, w.π, x, hr, F.le, F.S, F.X, F.own⟩
theorem fly_world {a T : Addr} {o oe oT : Obj} {vs vs' ts : Array Value} {a0 fl : Value} {hid : List Addr} {h' : Heap} (L : Le cx p w₀ w) (S : St cx w H) (O : ∀ b, p b → b ∈ w.π) (fs : ∀ b, b ∈ cx.fr → FrAt w b) (X : XA cx (Nw p w₀) w x e a o vs) (hid_pv : ∀ b, b ∈ hid → b ∈ w.π ∧ (Nw p w₀ b ∨ b ∈ cx.fr))
    (st : ∀ b q, w.s.heap.get? b = some q → b ∉ hid → h'.get? b = some q) (up : ∀ b q, b ∈ cx.fr → w.s.heap.get? b = some q → ∃ sl, h'.get? b = some { q with slots := sl }) (hTn : w.s.heap.get? T = none)
    (he : h'.get? a = some oe) (hcls : oe.cls = o.cls) (hd : oe.data = .fields vs') (h0 : vs'[0]? = some a0) (h1 : vs'[1]? = some (.ref T)) (h2 : vs'[2]? = some .none) (hT : h'.get? T = some oT) (hdT : oT.data = .fields ts) (h3 : ts[3]? = some fl) :
    ∃ w', w'.s = { w.s with heap := h' } ∧ FlyT cx p w₀ H x e w' := by
  have ne : ∀ {b q}, w.s.heap.get? b = some q → b ≠ T := fun {b q} e z => by rw [z, hTn] at e; cases e
  have stay : ∀ {b q}, w.s.heap.get? b = some q → b ∉ w.π → h'.get? b = some q ∧ b ≠ T := fun {b q} e h => ⟨st b q e fun z => h (hid_pv b z).1, ne e⟩
  have mem : ∀ {b}, b ∈ T :: w.π.filter (fun b => (h'.get? b).isSome) ↔ b = T ∨ (b ∈ w.π ∧ (h'.get? b).isSome = true) := fun {b} => by rw [List.mem_cons, List.mem_filter]
  have out : ∀ {b q}, w.s.heap.get? b = some q → b ∉ w.π → b ∉ T :: w.π.filter (fun b => (h'.get? b).isSome) := fun {b q} e h z => (mem.mp z).elim (ne e) fun y => h y.1
  have up1 : ∀ {b q}, w.s.heap.get? b = some q → ¬ Nw p w₀ b → UpS cx b q (h'.get? b) := fun {b q} e h => by
    by_cases hb : b ∈ hid
    · rcases (hid_pv b hb).2 with z | z
      · exact (h z).elim
      · obtain ⟨_, q', es, ep, z1, z2⟩ := fs b z
        rw [e] at z1; cases z1
        obtain ⟨sl, z3⟩ := up b q z e
        exact ⟨sl, z3, .inl ⟨z, es, ep, z2⟩⟩
    · exact .of (st b q e hb)
  have old : ∀ {b}, b ∈ w.π → ¬ Nw p w₀ b → b ∈ T :: w.π.filter (fun b => (h'.get? b).isSome) := fun {b} hb h => by
    obtain ⟨q, e⟩ := S.pvx b hb
    obtain ⟨sl, z, _⟩ := up1 e h
    exact mem.mpr (.inr ⟨hb, by rw [z]; rfl⟩)
  have lv : Lv w ⟨w.ι, T :: w.π.filter (fun b => (h'.get? b).isSome), { w.s with heap := h' }⟩ := ⟨List.prefix_refl _, fun b q e h1 h2 => ⟨(stay e h2).1, h1, out e h2⟩⟩
  have nw : T ∉ w.π := fun z => let ⟨q, e⟩ := S.pvx T z; ne e rfl
  have nT : Nw p w₀ T := ⟨fun z => (Classical.em (p T)).elim (fun y => nw (O T y)) fun y => nw (L.pv T z y), fun y => nw (O T y)⟩
  have hTe : T ≠ a := fun z => ne X.at' z.symm
  refine ⟨_, rfl, ⟨L.toLv.trans lv, fun b hb hp => old (L.pv b hb hp) fun z => z.1 hb, fun b q hb hp e => (L.kp b q hb hp e).trans fun q' e' => up1 e' fun z => z.1 hb⟩,
    ⟨fun b q e => ?_, S.len, S.nodup, fun b hb => ?_, fun b hb => ?_, fun i b q e1 e2 => ?_, S.gens, S.os, S.sysm⟩,
    ⟨fun b hb => ?_, a, oe, vs', ⟨X.ref, mem.mpr (.inr ⟨X.pv, by rw [he]; rfl⟩), X.new, he, hd, ?_, ⟨_, h0⟩, h2⟩, T, oT, ts, fl, h1, List.mem_cons_self, ⟨hTe, nT⟩, hT, hdT, h3⟩, fun b hb => old (O b hb) fun z => z.2 hb⟩
  · obtain ⟨z1, z2, z3⟩ := S.base b q e
    exact ⟨(stay z1 z3).1, z2, out z1 z3⟩
  · obtain ⟨q, e⟩ := S.obj hb
    exact out e (S.dj b hb)
  · rcases mem.mp hb with z | ⟨_, z⟩
    · exact ⟨oT, z ▸ hT⟩
    · exact Option.isSome_iff_exists.mp z
  · exact (S.own i b q e1 e2).keep lv fun q' e' => (stay e' (S.dj b (List.mem_of_getElem? e1))).1
  · obtain ⟨z0, q, es, ep, z1, z2⟩ := fs b hb
    obtain ⟨sl, z3⟩ := up b q hb z1
    exact ⟨mem.mpr (.inr ⟨z0, by rw [z3]; rfl⟩), _, es, ep, z3, z2⟩
  · obtain ⟨C, c1, c2⟩ := X.cls
    exact ⟨C, hcls.trans c1, c2⟩
/-- a new entry of the traceback: what stays -/
theorem entry_wp {M : Model} {s : Shared} {base : Heap} {env : Env} {outer : List Env} {L a : Addr} {oe : Obj} {vs : Array Value} {head : Value} {hadNext : Bool} {Q : Unit → Shared → Prop} {E : Value → Shared → Prop}
    (hfr : A.frames = some (env :: outer)) (hl : s.heap.FunFrames base (env :: outer)) (hf : env.frame = some L) (he : s.heap.get? a = some oe) (hd : oe.data = .fields vs) (hsz : 1 < vs.size)
    (h : ∀ h' T oT ts, s.heap.get? T = none → h'.get? a = some (Obj.mapFields (·.setIfInBounds 1 (.ref T)) oe) → h'.get? T = some oT → oT.data = .fields ts → ts[3]? = some (rawInt L) →
      (∀ b q, b ≠ a → b ∉ (env :: outer).filterMap (·.frame) → s.heap.get? b = some q → h'.get? b = some q) → (∀ b q, b ≠ a → s.heap.get? b = some q → ∃ sl, h'.get? b = some { q with slots := sl }) → Q () { s with heap := h' }) :
    wpAny M A (do let f ← frameOf env; let pl ← entryPlaceOf L hadNext; let b ← EntryCells.newEntry head f .none (rawInt L) .none pl; setField (.ref a) 1 b) Q E s := by
  have hna : a ∉ (env :: outer).filterMap (·.frame) := fun hm => by
    obtain ⟨_, o, ho, hnf⟩ := hl.mem hm
    rw [he] at ho; cases ho; exact hnf vs hd
  refine wpAny_bind (wpAny_frameOf_fun hfr hl hf fun g hg => wpAny_bind (wpAny_entryPlaceOf fun pl hpl => ?_))
  unfold EntryCells.newEntry newFields
  refine wpAny_bind (wpAny_newObj_type ?_ (hpl.sizeOk5 _ _ _ _ _))
  have ga : g.get? a = some oe := (hg.2.1 a hna).trans he
  have size : g.objs.size = s.heap.objs.size := hg.1
  refine wpAny_setField (Heap.get?_push_of_some _ ga) hd hsz ?_
  have far : ∀ {b q}, g.get? b = some q → b ≠ g.objs.size := fun e => Nat.ne_of_lt (Heap.lt_size e)
  refine h _ g.objs.size _ _ (by rw [size]; exact get_size _) (Heap.get?_update_self _ (Heap.get?_push_of_some _ ga) (Obj.isFreed_of_fields (Obj.data_mapFields hd _))) ((Heap.get?_update_other _ _ (far ga)).trans (Heap.get?_push_size g rfl)) rfl ?_ (fun b q hb hf e => ?_) fun b q hb e => ?_
  · first | (simp; done) | (rcases hpl with rfl | ⟨_, _, _, _, _, _, _, rfl⟩ <;> simp)
  · exact (Heap.get?_update_other _ _ (Ne.symm hb)).trans (Heap.get?_push_of_some _ ((hg.2.1 b hf).trans e))
  · obtain ⟨sl, z⟩ := hg.2.2 b q e
    exact ⟨sl, (Heap.get?_update_other _ _ (Ne.symm hb)).trans (Heap.get?_push_of_some _ z)⟩
/-- the frame is noted in the traceback -/
theorem note_wp {env : Env} {outer : List Env} {Q : Unit → Shared → Prop} {E : Value → Shared → Prop} {M : Model} (hfr : A.frames = some (env :: outer)) (FA : FrA cx (env :: outer)) (F : Fly cx p w₀ H x e w)
    (k : ∀ w', FlyT cx p w₀ H x e w' → Q () w'.s) : wpAny M A (noteFrame e env) Q E w.s := by
  obtain ⟨fs, a, o, vs, XA', hx⟩ := F.X
  obtain ⟨L, hf, hL⟩ := FA.adr env List.mem_cons_self
  obtain ⟨a0, h0⟩ := XA'.zero
  have fin : ∀ {b}, b ∈ (env :: outer).filterMap (·.frame) → b ∈ cx.fr := fun {b} hb => by
    obtain ⟨v, h1, h2⟩ := List.mem_filterMap.mp hb
    obtain ⟨c, h3, h4⟩ := FA.adr v h1
    rw [h3] at h2; cases h2; exact h4
  have dict_ne : ∀ {b c q ts}, b ∈ cx.fr → w.s.heap.get? c = some q → q.data = .fields ts → b ≠ c := fun {b c q ts} hb h1 h2 z => by
    obtain ⟨_, o', es, ep, z1, z2⟩ := fs b hb
    rw [z, h1] at z1; cases z1; rw [h2] at z2; cases z2
  have d' : ∀ T, (Obj.mapFields (·.setIfInBounds 1 (.ref T)) o).data = .fields (vs.setIfInBounds 1 (.ref T)) := fun T => Obj.data_mapFields XA'.data _
  have g0 : ∀ T : Addr, (vs.setIfInBounds 1 (.ref T))[0]? = some a0 := fun T => by rw [Array.getElem?_setIfInBounds_ne (by decide)]; exact h0
  have g2 : ∀ T : Addr, (vs.setIfInBounds 1 (.ref T))[2]? = some .none := fun T => by rw [Array.getElem?_setIfInBounds_ne (by decide)]; exact XA'.two
  rw [XA'.ref]
  unfold noteFrame
  simp only [hf]
  rcases hx with h1 | ⟨T, oT, ts, fl, h1, hTp, ⟨hTa, hTn⟩, hT, hdT, h3⟩
  · have hsz := (Array.getElem?_eq_some_iff.mp h1).1
    refine wpAny_bind (wpAny_field XA'.at' XA'.data h1 ?_)
    rw [if_neg (by decide)]
    refine entry_wp (base := hideAll w.s.heap cx.fr) hfr (funFrames_of fs (fun b hb => hb) FA) hf XA'.at' XA'.data hsz fun h' T oT ts e1 e2 e3 e4 e5 e6 e7 => ?_
    obtain ⟨w', q1, X'⟩ := fly_world (hid := a :: cx.fr) F.le F.S F.own fs XA' (fun b hb => (List.mem_cons.mp hb).elim (fun z => z ▸ ⟨XA'.pv, .inl XA'.new⟩) fun z => ⟨(fs b z).1, .inr z⟩)
      (fun b q e hn => e6 b q (fun z => hn (z ▸ List.mem_cons_self)) (fun z => hn (List.mem_cons_of_mem _ (fin z))) e) (fun b q hb e => e7 b q (dict_ne hb XA'.at' XA'.data) e) e1 e2 (Obj.cls_mapFields _ _) (d' T) (g0 T) (by simp [hsz]) (g2 T) e3 e4 e5
    rw [← q1]
    exact k w' X'
  · have hsz := (Array.getElem?_eq_some_iff.mp h1).1
    refine wpAny_bind (wpAny_field XA'.at' XA'.data h1 ?_)
    rw [if_pos (show (Value.ref T != Value.none) = true from by simp)]
    refine wpAny_bind (wpAny_field hT hdT h3 ?_)
    by_cases hfl : (fl == rawInt L) = true
    · rw [if_pos hfl]
      exact wpAny_pure (k w ⟨F.le, F.S, ⟨fs, a, o, vs, XA', T, oT, ts, fl, h1, hTp, ⟨hTa, hTn⟩, hT, hdT, h3⟩, F.own⟩)
    · rw [if_neg hfl]
      refine wpAny_bind (wpAny_setField hT hdT (Array.getElem?_eq_some_iff.mp h3).1 ?_)
      have other : ∀ {b q}, b ≠ T → w.s.heap.get? b = some q → (w.s.heap.update T (Obj.mapFields (·.setIfInBounds 3 Value.none))).get? b = some q := fun hb e => (Heap.get?_update_other _ _ (Ne.symm hb)).trans e
      have back : ∀ {b}, (w.s.heap.update T (Obj.mapFields (·.setIfInBounds 3 Value.none))).get? b = none → w.s.heap.get? b = none := fun {b} e => by
        by_cases hb : b = T
        · subst hb
          rw [Heap.get?_update_self _ hT (Obj.isFreed_of_fields (Obj.data_mapFields hdT _))] at e; cases e
        · rw [Heap.get?_update_other _ _ (Ne.symm hb)] at e; exact e
      refine entry_wp (base := hideAll w.s.heap cx.fr) hfr ((funFrames_of fs (fun b hb => hb) FA).of_keeps fun b q hb hnf => ⟨q, other (fun z => by subst z; rw [hT] at hb; cases hb; exact hnf ts hdT) hb, rfl⟩) hf (other (Ne.symm hTa) XA'.at') XA'.data hsz fun h' T' oT' ts' e1 e2 e3 e4 e5 e6 e7 => ?_
      obtain ⟨w', q1, X'⟩ := fly_world (hid := a :: T :: cx.fr) F.le F.S F.own fs XA' (fun b hb => (List.mem_cons.mp hb).elim (fun z => z ▸ ⟨XA'.pv, .inl XA'.new⟩) fun z => (List.mem_cons.mp z).elim (fun z => z ▸ ⟨hTp, .inl hTn⟩) fun z => ⟨(fs b z).1, .inr z⟩)
        (fun b q e hn => e6 b q (fun z => hn (z ▸ List.mem_cons_self)) (fun z => hn (List.mem_cons_of_mem _ (List.mem_cons_of_mem _ (fin z)))) (other (fun z => hn (z ▸ List.mem_cons_of_mem _ List.mem_cons_self)) e)) (fun b q hb e => e7 b q (dict_ne hb XA'.at' XA'.data) (other (dict_ne hb hT hdT) e)) (back e1) e2 (Obj.cls_mapFields _ _) (d' T') (g0 T') (by simp [hsz]) (g2 T') e3 e4 e5
      rw [← q1]
      exact k w' X'
/-- the entry's place is set -/
theorem flight_wp {fr : Option Addr} {Q : Unit → Shared → Prop} {E : Value → Shared → Prop} {M : Model} (F : FlyT cx p w₀ H x e w)
    (k : ∀ w', FlyT cx p w₀ H x e w' → Q () w'.s) : wpAny M A (setFlight e fr) Q E w.s := by
  obtain ⟨fs, a, o, vs, XA', T, oT, ts, fl, h1, hTp, ⟨hTa, hTn⟩, hT, hdT, h3⟩ := F.X
  rw [XA'.ref]
  unfold setFlight
  refine wpAny_bind (wpAny_field XA'.at' XA'.data h1 ?_)
  rw [if_pos (show (Value.ref T != Value.none) = true from by simp)]
  have hsz := (Array.getElem?_eq_some_iff.mp h3).1
  refine wpAny_setField hT hdT hsz ?_
  generalize hv : (fr.elim Value.none fun f => rawInt f) = v
  have hd' := Obj.data_mapFields hdT (·.setIfInBounds 3 v)
  have hT' := Heap.get?_update_self (Obj.mapFields (·.setIfInBounds 3 v)) hT (Obj.isFreed_of_fields hd')
  have other : ∀ b q, b ≠ T → w.s.heap.get? b = some q → (w.s.heap.update T (Obj.mapFields (·.setIfInBounds 3 v))).get? b = some q := fun b q hb e => (Heap.get?_update_other _ _ (Ne.symm hb)).trans e
  obtain ⟨l, S'⟩ := F.S.priv (t := w.s.toks) hTp other ⟨_, hT'⟩
  have nr : ∀ b o es ep, w.s.heap.get? b = some o → o.data = .dict es ep → b ≠ T := fun b o es ep hb hnf q => by
    rw [q, hT] at hb; injection hb with hb; subst hb; rw [hdT] at hnf; cases hnf
  refine k ⟨w.ι, w.π, { w.s with heap := w.s.heap.update T (Obj.mapFields (·.setIfInBounds 3 v)), toks := w.s.toks }⟩ ⟨⟨F.le.toLv.trans l.toLv, F.le.pv, fun b q hb hp e => (F.le.kp b q hb hp e).trans fun q' e' => .of (other b q' (fun z => hTn.1 (z ▸ hb)) e')⟩, S', ⟨fun b hb => ?_, a, o, vs, ⟨XA'.ref, XA'.pv, XA'.new, other a o (Ne.symm hTa) XA'.at', XA'.data, XA'.cls, XA'.zero, XA'.two⟩, T, _, _, v, h1, hTp, ⟨hTa, hTn⟩, hT', hd', by simp [hsz]⟩, F.own⟩
  obtain ⟨q1, q, es, ep, q2, q3⟩ := fs b hb
  exact ⟨q1, q, es, ep, other b q (nr b q es ep q2 q3) q2, q3⟩
theorem leave_wp {env : Env} {outer : List Env} {Q : Unit → Shared → Prop} {E : Value → Shared → Prop} {M : Model} (hfr : A.frames = some (env :: outer)) (FA : FrA cx (env :: outer)) (F : Fly cx p w₀ H x e w)
    (k : ∀ w', FlyT cx p w₀ H x e w' → Q () w'.s) : wpAny M A (leaving env e) Q E w.s :=
  wpAny_bind (note_wp hfr FA F fun w1 F1 => flight_wp F1 k)
theorem came_wp {env : Env} {E : Value → Shared → Prop} {M : Model} (F : FlyT cx p w₀ H x e w) (k : ∀ w', FlyT cx p w₀ H x e w' → E e w'.s) : cameBackBy M A env E e w.s := by
  obtain ⟨fs, a, o, vs, XA', T, oT, ts, fl, h1, r⟩ := F.X
  show wpAny M A _ _ _ _
  have hr := XA'.ref
  subst hr
  refine wpAny_bind (wpAny_field XA'.at' XA'.data h1 ?_)
  rw [if_neg (by simp)]
  exact flight_wp F k
theorem noted_wp {env : Env} {outer : List Env} {E : Value → Shared → Prop} {M : Model} (hfr : A.frames = some (env :: outer)) (FA : FrA cx (env :: outer)) (F : Fly cx p w₀ H x e w)
    (k : ∀ w', FlyT cx p w₀ H x e w' → E e w'.s) : notedBy M A env E e w.s := note_wp hfr FA F k
end
end Mine


set_option autoImplicit false
set_option linter.unusedVariables false
namespace Mine
open PySem PyProof.Rows PySem.SeqAt

/-- a def's frame -/
structure FrS (cx : Cx) (A : Around) (env : Env) (sc : Scope) : Prop where
  scp : env.scope = sc
  ll : ∀ n c, env.cells.lookup n = some c → c ≠ env.locals
  inj : ∀ n n' c, env.cells.lookup n = some c → env.cells.lookup n' = some c → n = n'
  nofree : ∀ x, isLocal sc x = true → sc.names.lookup x = some .local ∨ sc.names.lookup x = some .cell
  nfr : ∀ n c, env.cells.lookup n = some c → c ∉ cx.fr
  fr : ∃ outer, A.frames = some (env :: outer) ∧ FrA cx (env :: outer)
/-- the names' values, behind an assignment -/
def RL (cx : Cx) (env : Env) (sc : Scope) (ns : List Str) {β : Type} (w : Wl) (σ : Loc) (_ : β) : Prop := EnvR cx env sc ns σ w
section
variable {cx : Cx} {A : Around} {p : Addr → Prop} {w w' : Wl} {H : AHeap} {env : Env} {sc : Scope} {ns : List Str} {σ : Loc} {P : Pg} {cf : Str → List AV → M AV}
theorem idx_get {x : Str} {i : Nat} (h : ns.idxOf? x = some i) : ∃ q : i < ns.length, ns[i] = x := by
  rw [List.idxOf?, List.findIdx?_eq_some_iff_getElem] at h
  exact ⟨h.1, beq_iff_eq.mp h.2.1⟩
theorem set_get {x y : Str} {i j : Nat} {a b : AV} (hi : ns.idxOf? x = some i) (h1 : ns.idxOf? y = some j) (h2 : (σ.set i (some a))[j]? = some (some b)) : (y = x ∧ b = a) ∨ (y ≠ x ∧ σ[j]? = some (some b)) := by
  rw [List.getElem?_set] at h2
  split at h2
  · rename_i e
    subst e
    obtain ⟨q1, e1⟩ := idx_get hi
    obtain ⟨q2, e2⟩ := idx_get h1
    split at h2
    · cases h2; exact .inl ⟨e2.symm.trans e1, rfl⟩
    · cases h2
  · rename_i e
    exact .inr ⟨fun q => by subst q; rw [hi] at h1; cases h1; exact e rfl, h2⟩
/-- a name of the frame's own is bound -/
theorem storeN_rf {x : Str} {a : AV} {v : Value} (F : FrS cx A env sc) (hx : isLocal sc x = true) (I : EnvR cx env sc ns σ w) (r : VR cx w a v) : Rf cx A (Own env) w (RL cx env sc ns) (setN ns x a σ) (storeName env x v) := by
  unfold setN
  cases hi : ns.idxOf? x with
  | none => exact .stuck
  | some i =>
    have hk : ∀ y, env.kindOf y = sc.names.lookup y := fun y => by rw [← F.scp]; rfl
    refine .leaf fun H S => ?_
    obtain ⟨m, hm, hv⟩ := I.nsm
    rcases F.nofree x hx with hl | hl
    · refine wpAny_storeName_local ((hk x).trans hl) hm (fun h' hn hs => ?_) (by rw [I.k.kind]; rfl)
      obtain ⟨l, S'⟩ := S.priv (t := w.s.toks + 1) I.pl hs.extBut (let ⟨o, _, _, e, _⟩ := hn; ⟨o, e⟩)
      have kc : ∀ {n c u}, env.cells.lookup n = some c → c ∈ w.π → w.s.heap.IsCell c u → h'.IsCell c u := fun h1 h2 h3 => cell_up h3 fun o e => l.kp _ o h2 (F.ll _ _ h1) e
      refine ⟨_, _, _, rfl, l.weak fun b _ e => .inl e, S', ⟨I.k, I.pl, ⟨_, hn, fun y j b h1 h2 h3 => ?_⟩, fun y j b h1 h2 h3 => ?_, fun y h1 h2 => ?_, I.cls, fun b hb => ?_, I.hd.lv l.toLv⟩⟩
      · rcases set_get hi h1 h2 with ⟨rfl, rfl⟩ | ⟨hne, h4⟩
        · exact ⟨v, if_pos rfl, r.mono l⟩
        · obtain ⟨u, q1, q2⟩ := hv y j b h1 h4 h3
          exact ⟨u, (if_neg hne).trans q1, q2.mono l⟩
      · rcases set_get hi h1 h2 with ⟨rfl, rfl⟩ | ⟨hne, h4⟩
        · rw [hk, hl] at h3; rcases h3 with h3 | h3 <;> cases h3
        · obtain ⟨c, u, q1, q2, q3, q4⟩ := I.cel y j b h1 h4 h3
          exact ⟨c, u, q1, q2, kc q1 q2 q3, q4.mono l⟩
      · obtain ⟨c, u, q1, q2, q3⟩ := I.has y h1 h2
        exact ⟨c, u, q1, q2, kc q1 q2 q3⟩
      · by_cases hbl : b = env.locals
        · subst hbl; exact FrAt.ns I.pl hn
        · exact (I.fr b hb).le l hbl
    · obtain ⟨qi, ei⟩ := idx_get hi
      obtain ⟨c, u0, hc, hp, hc0⟩ := I.has x (List.contains_iff_mem.mpr (ei ▸ List.getElem_mem qi)) hl
      refine wpAny_storeName_cell I.k.kind ((hk x).trans hl) hc hc0 fun h' hcv hs => ?_
      obtain ⟨l, S'⟩ := S.priv (t := w.s.toks) hp hs.extBut (let ⟨o, e, _⟩ := hcv; ⟨o, e⟩)
      have kc : ∀ {n d u}, n ≠ x → env.cells.lookup n = some d → d ∈ w.π → w.s.heap.IsCell d u → h'.IsCell d u := fun h0 h1 h2 h3 => cell_up h3 fun o e => l.kp _ o h2 (fun z => h0 (F.inj _ _ c (z ▸ h1) hc)) e
      refine ⟨_, _, _, rfl, l.weak fun b _ e => .inr ⟨x, e ▸ hc⟩, S', ⟨I.k, I.pl, ⟨m, UpS.ns hm fun o e => l.kp _ o I.pl (fun z => F.ll _ _ hc z.symm) e, fun y j b h1 h2 h3 => ?_⟩, fun y j b h1 h2 h3 => ?_, fun y h1 h2 => ?_, I.cls, fun b hb => ?_, I.hd.lv l.toLv⟩⟩
      · rcases set_get hi h1 h2 with ⟨rfl, rfl⟩ | ⟨hne, h4⟩
        · rw [hk, hl] at h3; cases h3
        · obtain ⟨u, q1, q2⟩ := hv y j b h1 h4 h3
          exact ⟨u, q1, q2.mono l⟩
      · rcases set_get hi h1 h2 with ⟨rfl, rfl⟩ | ⟨hne, h4⟩
        · exact ⟨c, v, hc, hp, hcv, r.mono l⟩
        · obtain ⟨d, u, q1, q2, q3, q4⟩ := I.cel y j b h1 h4 h3
          exact ⟨d, u, q1, q2, kc hne q1 q2 q3, q4.mono l⟩
      · by_cases hyx : y = x
        · subst hyx; exact ⟨c, _, hc, hp, hcv⟩
        · obtain ⟨d, u, q1, q2, q3⟩ := I.has y h1 h2
          exact ⟨d, u, q1, q2, kc hyx q1 q2 q3⟩
      · exact (I.fr b hb).le l fun z => F.nfr _ _ hc (z ▸ hb)
theorem bindN_rf {x : Str} {q : Pos} {a : AV} {v : Value} (F : FrS cx A env sc) (hx : isLocal sc x = true) (I : EnvR cx env sc ns σ w) (r : VR cx w a v) : Rf cx A (Own env) w (RL cx env sc ns) (setN ns x a σ) (assign (.Name x q) env v) := fun H S r' H' h =>
  wpAny_assign_Name (storeN_rf F hx I r H S r' H' h)
theorem setN_ok {x : Str} {a : AV} {H H' : AHeap} {r : Except Str Loc} (h : setN ns x a σ H = some (r, H')) : ∃ σ', r = .ok σ' := by
  unfold setN at h
  cases hi : ns.idxOf? x with
  | none => rw [hi] at h; cases h
  | some i => rw [hi] at h; exact ⟨_, (pure_some h).1⟩
/-- x, y = .. -/
theorem pair_rf {x y : Str} {px py q : Pos} {k : Nat} {v : Value} {a b : AV} (hh : A.handled = none) (F : FrS cx A env sc) (hx : isLocal sc x = true) (hy : isLocal sc y = true) (I : EnvR cx env sc ns σ w) (r : VR cx w (.tup [a, b]) v) :
    Rf cx A (Own env) w (RL cx env sc ns) (do let σ ← setN ns x a σ; setN ns y b σ) (assign (.Tuple [.Name x px, .Name y py] k q) env v) := r.tupE fun ta vs n ht hf hz hs => by
  obtain ⟨v1, us, e1, r1, v2, us2, e2, r2, e3⟩ := hs
  subst e3; subst e2
  have hvs : vs = #[v1, v2] := by rw [← Array.toList_inj, e1]
  subst hvs
  intro H S r' H' h
  refine wpAny_assign_Tuple (items := #[v1, v2]) hh ⟨_, ht, rfl, n, rfl⟩ rfl rfl fun h' he => ?_
  have hk : ∀ b o, w.s.heap.get? b = some o → h'.get? b = some o := fun b o e => he b o (Nat.ne_of_lt (Heap.lt_size e)) e
  have l : Le cx (Own env) w ⟨w.ι, w.π, { w.s with heap := h', toks := w.s.toks }⟩ := .keeps hk
  have I' := EnvR.stable _ _ I (Le.keeps (w := w) (s' := { w.s with heap := h', toks := w.s.toks }) hk)
  refine assignInOrder_cons (wpAny_mono ((bindN_rf F hx I' (r1.mono l)).run (S.keeps hk) h fun w1 σ1 _ H1 l1 S1 I1 h1 => ?_) (fun _ _ z => z) fun _ _ z => z.le l)
  refine assignInOrder_cons (wpAny_mono (bindN_rf F hy I1 (r2.mono (l.trans l1)) H1 S1 _ _ h1) (fun _ _ z => assignInOrder_nil (z.le (l.trans l1))) fun _ _ z => z.le (l.trans l1))
theorem subA_rf {ev : Expr → M AV} {o i : Expr} {q : Pos} {a : AV} {v : Value} (hev : EvOK cx A env (EnvR cx env sc ns σ) ev) (I : EnvR cx env sc ns σ w) (r : VR cx w a v) :
    Rf cx A (Own env) w (RL cx env sc ns) (do let ov ← ev o; let iv ← ev i; pStore ov iv a; pure σ) (assign (.Subscript o i q) env v) := by
  rw [assign_Subscript]
  exact Rf.no (.bind (.holding (hev o w I)) fun w1 a1 v1 l1 r1 => .bind (.holding (hev i w1 (EnvR.stable _ _ I l1))) fun w2 a2 v2 l2 r2 => .standAt (.bind (.holding (store_rf (r1.mono l2) r2 (r.mono (l1.trans l2)))) fun w3 _ _ l3 _ =>
    .leaf fun H S => wpAny_release' (.here S (EnvR.stable _ _ I ((l1.trans l2).trans l3))))) fun d h => I.own h
theorem assign_rf {ev : Loc → Expr → M AV} {t : Expr} {a : AV} {v : Value} (hh : A.handled = none) (F : FrS cx A env sc) (hev : EvOK cx A env (EnvR cx env sc ns σ) (ev σ)) (I : EnvR cx env sc ns σ w) (r : VR cx w a v) :
    Rf cx A (Own env) w (RL cx env sc ns) (assignTo ev sc ns a σ t) (assign t env v) := by
  cases t with
  | Name x q => exact ite_rf (fun hx => bindN_rf F hx I r) fun _ => .stuck
  | Subscript o i q =>
    exact subA_rf hev I r
  | Tuple es k q =>
    show Rf cx A (Own env) w _ (match pairN es with | some (x, y) => assignP sc ns a σ x.1 y.1 | none => stuck) _
    cases hp : pairN es with
    | none => exact .stuck
    | some xy =>
      obtain ⟨⟨x, px⟩, y, py⟩ := xy
      rw [pairN_of hp]
      cases a with
      | tup xs =>
        match xs with
        | [] => exact .stuck
        | [_] => exact .stuck
        | _ :: _ :: _ :: _ => exact .stuck
        | [a, b] => exact ite_rf (fun hxy => by rw [Bool.and_eq_true] at hxy; exact pair_rf hh F hxy.1 hxy.2 I r) fun _ => .stuck
      | _ => exact .stuck
  | _ => exact .stuck
end
end Mine


set_option autoImplicit false
set_option linter.unusedVariables false
namespace Mine
open PySem PyProof.Rows PySem.SeqAt

/-- behind a statement -/
def RS (cx : Cx) (env : Env) (sc : Scope) (ns : List Str) (w : Wl) : Res → Flow → Prop
  | .next σ, f => f = .next ∧ EnvR cx env sc ns σ w
  | .ret a, f => ∃ v, f = .ret v ∧ VR cx w a v ∧ (∀ b, Own env b → b ∈ w.π) ∧ (∃ m, w.s.heap.Ns env.locals m) ∧ ∀ x, ns.contains x = true → sc.names.lookup x = some .cell → ∃ c v, env.cells.lookup x = some c ∧ c ∈ w.π ∧ w.s.heap.IsCell c v
/-- behind a statement that only goes on -/
def RF (cx : Cx) (env : Env) (sc : Scope) (ns : List Str) (w : Wl) (σ : Loc) (f : Flow) : Prop := f = .next ∧ EnvR cx env sc ns σ w
section
variable {cx : Cx} {A : Around} {p q : Addr → Prop} {w w' w₁ : Wl} {H H' : AHeap} {env : Env} {sc : Scope} {ns : List Str} {σ : Loc} {P : Pg} {cf : Str → List AV → M AV}
/-- an exception that comes out of a loop -/
def PostT (cx : Cx) (p : Addr → Prop) (w : Wl) {α : Type} (r : Except Str α) (H' : AHeap) (e : Value) (s' : Shared) : Prop :=
  ∃ ι π x, r = .error x ∧ FlyT cx p w H' x e ⟨ι, π, s'⟩
def LoopR (cx : Cx) (p : Addr → Prop) (w : Wl) {α : Type} (R : Wl → α → Flow → Prop) (r : Except Str α) (H' : AHeap) (res : Result) (s' : Shared) : Prop := match res with
  | .ok f => Post cx p w R r H' f s'
  | .error e => PostT cx p w r H' e s'
theorem PostX.noted {α : Type} {r : Except Str α} {e : Value} {s' : Shared} {R : Wl → α → Flow → Prop} (F : FrS cx A env sc) (X : Le cx q w₁ w) (x : PostX cx p w r H' e s') (hp : ∀ d, d ∈ w.π → p d → q d) (hq : ∀ d, q d → p d ∨ d ∈ w.π) :
    notedBy (model cx.prog cx.w) A env (fun e s' => LoopR cx q w₁ R r H' (.error e) s') e s' := by
  obtain ⟨ι, π, x, er, l, S, hx, O⟩ := (x.weak hp hq).le X
  obtain ⟨outer, hf, FA⟩ := F.fr
  exact noted_wp (w := ⟨ι, π, s'⟩) hf FA ⟨l, S, hx, O⟩ fun w' F' => ⟨w'.ι, w'.π, x, er, F'⟩
theorem LoopR.outO {r : Except Str Res} {f : Flow} {s' : Shared} (x : LoopR cx q w (RS cx env sc ns) r H' (.ok f) s') (hp : ∀ d, d ∈ w.π → q d → p d) : Post cx p w (RS cx env sc ns) r H' f s' := let ⟨ι, π, a, e, l, z⟩ := x; ⟨ι, π, a, e, l.weak hp, z⟩
theorem LoopR.outE {r : Except Str Res} {e : Value} {s' : Shared} (x : LoopR cx q w (RS cx env sc ns) r H' (.error e) s') (hp : ∀ d, d ∈ w.π → q d → p d) (hq : ∀ d, p d → q d ∨ d ∈ w.π) : cameBackBy (model cx.prog cx.w) A env (PostX cx p w r H') e s' :=
  let ⟨ι, π, x, er, F⟩ := x; came_wp (w := ⟨ι, π, s'⟩) F fun w' F' => (F'.fly.post er).weak hp hq
theorem next_st {st : Stmt} {rest : List Stmt} {m0 : M Loc} {m : Loc → M Res} (x : Rf cx A (Own env) w (RF cx env sc ns) m0 (exec st env)) (y : ∀ w' σ', EnvR cx env sc ns σ' w' → Rf cx A (Own env) w' (RS cx env sc ns) (m σ') (execs rest env)) :
    Rf cx A (Own env) w (RS cx env sc ns) (m0 >>= m) (execs (st :: rest) env) := by
  rw [arm_execs_cons]
  exact .bind x fun w1 σ' f l r => r.1 ▸ y w1 σ' r.2
theorem goOn_st {st : Stmt} {rest : List Stmt} {m0 : M Res} {m : Loc → M Res} (x : Rf cx A (Own env) w (RS cx env sc ns) m0 (exec st env)) (y : ∀ w' σ', EnvR cx env sc ns σ' w' → Rf cx A (Own env) w' (RS cx env sc ns) (m σ') (execs rest env)) :
    Rf cx A (Own env) w (RS cx env sc ns) (m0 >>= goOn m) (execs (st :: rest) env) := by
  rw [arm_execs_cons]
  refine .bind x fun w1 r f l hr => ?_
  cases r with
  | next σ' => exact hr.1 ▸ y w1 σ' hr.2
  | ret a => obtain ⟨v, e, h⟩ := hr; subst e; exact .pure ⟨v, rfl, h⟩

/-- what a for walks: its private objects q, where it stands J -/
structure Wkr (cx : Cx) (A : Around) (target : Expr) (it : Value) (src : Src) (q : Addr → Prop) (J : Nat → Wl → Prop) : Prop where
  keep : ∀ p i w w', Le cx p w w' → (∀ b, q b → ¬ p b) → J i w → J i w'
  own : ∀ i w, J i w → ∀ b, q b → b ∈ w.π
  turn : ∀ i w H r H' (K : Shared → Prop) (KK : Value → Shared → Prop) (E : Value → Shared → Prop), J i w → St cx w H → src.get i H = some (.ok r, H') → (∀ w1, r = none → Le cx q w w1 → St cx w1 H' → K w1.s) →
    (∀ w1 a v, r = some a → Le cx q w w1 → St cx w1 H' → VR cx w1 a v → J (i + 1) w1 → KK v w1.s) →
    wpAny (model cx.prog cx.w) A (pyNext it) (fun r s1 => match r with | none => K s1 | some v => wpAny (model cx.prog cx.w) A (letOwnedTupleGo target it v) (fun _ s2 => KK v s2) E s1) E w.s
def OQ (env : Env) (q : Addr → Prop) : Addr → Prop := fun b => Own env b ∨ q b
theorem for_code {target : Expr} {body : List Stmt} {it : Value} {src : Src} {J : Nat → Wl → Prop} {bm : AV → Loc → M Res} {r : Except Str Res} (F : FrS cx A env sc) (W : Wkr cx A target it src q J) (ho : ∀ b, q b → ¬ OwnF cx env b)
    (hb : ∀ σ w a v H r H', EnvR cx env sc ns σ w → VR cx w a v → St cx w H → bm a σ H = some (r, H') → wpAny (model cx.prog cx.w) A (assign target env v) (fun _ s2 => wpAny (model cx.prog cx.w) A (execs body env) (Post cx (Own env) w (RS cx env sc ns) r H') (PostX cx (Own env) w r H') s2) (PostX cx (Own env) w r H') w.s)
    (k i : Nat) (S : St cx w H) (X : Le cx (OQ env q) w₁ w) (I : EnvR cx env sc ns σ w) (j : J i w) (h : forLoop src bm k i σ H = some (r, H')) :
    codeAny (model cx.prog cx.w) A (.forLoop target it body [] env) (LoopR cx (OQ env q) w₁ (RS cx env sc ns) r H') w.s := by
  refine codeAny_forLoop_any (fun k s => ∃ w H σ i, w.s = s ∧ St cx w H ∧ Le cx (OQ env q) w₁ w ∧ EnvR cx env sc ns σ w ∧ J i w ∧ forLoop src bm k i σ H = some (r, H')) ?_ k ⟨w, H, σ, i, rfl, S, X, I, j, h⟩
  clear S X I j h
  rintro k s ⟨w, H, σ, i, rfl, S, X, I, j, h⟩
  cases k with
  | zero => cases h
  | succ k =>
    unfold forLoop at h
    refine bind_inv h (fun o H1 h1 h2 => ?_) fun x h1 h2 => by obtain ⟨a, e⟩ := get_ok h1; cases e
    refine W.turn i w H o H1 _ _ _ j S h1 (fun w1 e l S1 => ?_) fun w1 a v e l S1 rv j1 => ?_
    · subst e
      obtain ⟨rfl, rfl⟩ := pure_some h2
      exact wpAny_execs_nil ⟨_, _, _, rfl, X.trans (l.weak fun _ _ h => .inr h), S1, rfl, I.mono l fun b h1 h2 => ho b h2 h1⟩
    · subst e
      have X1 := X.trans (l.weak fun _ _ h => .inr h)
      have I1 := I.mono l fun b h1 h2 => ho b h2 h1
      refine bind_inv h2 (fun r1 H2 h3 h4 => ?_) fun x h3 h4 => ?_
      · refine wpAny_mono (hb σ w1 a v H1 _ _ I1 rv S1 h3) (fun _ _ z => wpAny_mono z (fun f s3 ⟨ι, π, r2, e, l2, S2, hr⟩ => ?_) fun _ _ ⟨_, _, _, e, _⟩ => nomatch e) fun _ _ ⟨_, _, _, e, _⟩ => nomatch e
        cases e
        have X2 := X1.trans (l2.weak fun _ _ h => .inl h)
        cases r1 with
        | next σ3 =>
          obtain ⟨e, I3⟩ := hr
          subst e
          exact ⟨k, Nat.lt_succ_self _, _, H2, σ3, i + 1, rfl, S2, X2, I3, W.keep _ _ _ _ l2 (fun b h1 h2 => ho b h1 (.inl h2)) j1, h4⟩
        | ret a =>
          obtain ⟨rfl, rfl⟩ := pure_some h4
          obtain ⟨u, e, z⟩ := hr
          subst e
          exact ⟨_, _, _, rfl, X2, S2, u, rfl, z⟩
      · subst h4
        exact wpAny_mono (hb σ w1 a v H1 _ _ I1 rv S1 h3) (fun _ _ z => wpAny_mono z (fun f _ ⟨_, _, _, e, _⟩ => nomatch e) fun _ _ z => z.noted F X1 (fun _ _ h => .inl h) fun d h => h.imp id (W.own _ _ j1 d)) fun _ _ z => z.noted F X1 (fun _ _ h => .inl h) fun d h => h.imp id (W.own _ _ j1 d)
theorem while_code {test : Expr} {body : List Stmt} {tm : Loc → M Bool} {bm : Loc → M Res} {r : Except Str Res} (F : FrS cx A env sc) (ht : ∀ σ w, EnvR cx env sc ns σ w → Rf cx A No w Rt (tm σ) (isTrue test env (eval test env))) (hb : ∀ σ w, EnvR cx env sc ns σ w → Rf cx A (Own env) w (RS cx env sc ns) (bm σ) (execs body env))
    (k : Nat) (S : St cx w H) (X : Le cx (Own env) w₁ w) (I : EnvR cx env sc ns σ w) (h : whileLoop tm bm k σ H = some (r, H')) :
    codeAny (model cx.prog cx.w) A (.whileLoop test body [] env) (LoopR cx (Own env) w₁ (RS cx env sc ns) r H') w.s := by
  refine codeAny_whileLoop (fun k s => ∃ w H σ, w.s = s ∧ St cx w H ∧ Le cx (Own env) w₁ w ∧ EnvR cx env sc ns σ w ∧ whileLoop tm bm k σ H = some (r, H')) ?_ k ⟨w, H, σ, rfl, S, X, I, h⟩
  clear S X I h
  rintro k s ⟨w, H, σ, rfl, S, X, I, h⟩
  cases k with
  | zero => cases h
  | succ k =>
    unfold whileLoop at h
    refine wpAny_mono ((ht σ w I).run S h fun w1 b c H1 l S1 hc h2 => ?_) (fun _ _ z => z) fun _ _ z => z.noted F X (fun _ _ h => h.elim) fun _ h => .inr (I.own h)
    rw [← show b = c from hc]
    have I1 := EnvR.stable _ _ I l
    have X1 := X.trans l.no
    cases b with
    | false =>
      obtain ⟨rfl, rfl⟩ := pure_some h2
      exact wpAny_execs_nil ⟨_, _, _, rfl, X1, S1, rfl, I1⟩
    | true =>
      refine wpAny_mono ((hb σ w1 I1).run S1 h2 fun w2 r1 f H2 l2 S2 hr h4 => ?_) (fun _ _ z => z) fun _ _ z => z.noted F X1 (fun _ _ h => h) fun _ h => .inl h
      have X2 := X1.trans l2
      cases r1 with
      | next σ3 =>
        obtain ⟨e, I3⟩ := hr
        subst e
        exact ⟨k, Nat.lt_succ_self _, _, H2, σ3, rfl, S2, X2, I3, h4⟩
      | ret a =>
        obtain ⟨rfl, rfl⟩ := pure_some h4
        obtain ⟨u, e, z⟩ := hr
        subst e
        exact ⟨_, _, _, rfl, X2, S2, u, rfl, z⟩
theorem while_rf {test : Expr} {body : List Stmt} {pos : Pos} {tm : Loc → M Bool} {bm : Loc → M Res} (F : FrS cx A env sc) (ht : ∀ σ w, EnvR cx env sc ns σ w → Rf cx A No w Rt (tm σ) (isTrue test env (eval test env))) (hb : ∀ σ w, EnvR cx env sc ns σ w → Rf cx A (Own env) w (RS cx env sc ns) (bm σ) (execs body env)) (I : EnvR cx env sc ns σ w) :
    Rf cx A (Own env) w (RS cx env sc ns) (whileLoop tm bm FUEL σ) (exec (.While test body [] pos) env) := fun H S r H' h =>
  wpAny_While (codeAny_mono (while_code F ht hb FUEL S (.refl _) I h) fun res s' z => by cases res with | ok f => exact z.outO fun _ _ h => h | error e => exact z.outE (fun _ _ h => h) fun _ h => .inl h)
theorem drop_wp {e : Expr} {pos : Pos} {v : Value} {Q : Flow → Shared → Prop} {E : Value → Shared → Prop} {s : Shared} (h : Q .next s) : wpAny (model cx.prog cx.w) A (dropValue e pos v) Q E s := by
  unfold dropValue
  split
  · exact wpAny_pure h
  · exact wpAny_bind (wpAny_standAt (wpAny_bind (wpAny_runValue (codeAny_builtin entry_let_go (show wpAny _ _ (ret .none) _ _ s from wpAny_pure (wpAny_pure h))))))
  · exact wpAny_pure h
theorem den_sc {n : Nat} {x : Expr} {g : List Comprehension} {c : Scope} {pos : Pos} : den P cf n sc ns σ (.SetComp x g c pos) = stuck := by cases n <;> rfl
theorem den_dc {n : Nat} {x y : Expr} {g : List Comprehension} {c : Scope} {pos : Pos} : den P cf n sc ns σ (.DictComp x y g c pos) = stuck := by cases n <;> rfl
theorem ex_cases {T : Expr → Prop} (hl : ∀ a b c d, T (.ListComp a b c d)) (hs : ∀ a b c d, T (.SetComp a b c d)) (hd : ∀ a b c d f, T (.DictComp a b c d f))
    (ho : ∀ e, (∀ t l env, swapsWith e t l env = pure false) → (isTupE e = false → ∀ ts k p env, swappedStores [.Tuple ts k p] e env = pure none) → T e) (e : Expr) : T e := by
  cases e with
  | ListComp => exact hl _ _ _ _
  | SetComp => exact hs _ _ _ _
  | DictComp => exact hd _ _ _ _ _
  | Tuple => exact ho _ (fun _ _ _ => rfl) (fun h => nomatch h)
  | _ => exact ho _ (fun _ _ _ => rfl) (fun _ _ _ _ _ => rfl)
theorem expr0_rf {n : Nat} {e : Expr} {pos : Pos} {α : Type} {u : α} {R0 : Wl → α → Flow → Prop} (hR : ∀ w', EnvR cx env sc ns σ w' → R0 w' u .next) (hev : EvOK cx A env (EnvR cx env sc ns σ) (den P cf n sc ns σ)) (hn : noComp e = true) (I : EnvR cx env sc ns σ w) :
    Rf cx A No w R0 (do let _ ← den P cf n sc ns σ e; pure u) (exec (.Expr e pos) env) := by
  revert hn
  refine ex_cases (T := fun e => noComp e = true → Rf cx A No w R0 (do let _ ← den P cf n sc ns σ e; pure u) (exec (.Expr e pos) env)) (fun _ _ _ _ hn => nomatch hn) (fun _ _ _ _ _ => by rw [den_sc]; exact .stuck) (fun _ _ _ _ _ _ => by rw [den_dc]; exact .stuck) (fun e hsw _ _ => ?_) e
  rw [arm_exec_Expr, show interactive env = false by unfold interactive; rw [I.k.kind]; rfl, hsw]
  refine .standAt (.pureL ?_)
  exact .bind (hev e w I) fun w1 a v l r => .leaf fun H S => drop_wp (.here S (hR _ (EnvR.stable _ _ I l)))
theorem expr_rf {n : Nat} {e : Expr} {pos : Pos} (hev : EvOK cx A env (EnvR cx env sc ns σ) (den P cf n sc ns σ)) (hn : noComp e = true) (I : EnvR cx env sc ns σ w) :
    Rf cx A (Own env) w (RF cx env sc ns) (do let _ ← den P cf n sc ns σ e; pure σ) (exec (.Expr e pos) env) := (expr0_rf (R0 := RF cx env sc ns) (fun w' h => ⟨rfl, h⟩) hev hn I).no fun d h => I.own h
end
end Mine


set_option autoImplicit false
set_option linter.unusedVariables false
namespace Mine
open PySem PyProof.Rows PySem.SeqAt

/-- the list l, walked by its iterator -/
def LiR (cx : Cx) (w : Wl) (it : Addr) (i : Nat) (l : Addr) : Src → Prop
  | .items xs => ∃ vs n, w.s.heap.IsListIter it l i ∧ IsL w.s.heap l vs n ∧ Fz w l ∧ VRs cx w xs vs.toList
  | .at k => w.s.heap.IsListIter it l i ∧ w.ι[k]? = some l
  | .enum _ => False
section
variable {cx : Cx} {A : Around} {p q : Addr → Prop} {w w' w₁ : Wl} {H H' : AHeap} {env : Env} {sc : Scope} {ns : List Str} {σ : Loc} {P : Pg} {cf : Str → List AV → M AV} {it l en : Addr} {i j : Nat}
theorem LiR.iter : ∀ {src : Src}, LiR cx w it i l src → w.s.heap.IsListIter it l i
  | .items _, ⟨_, _, h, _⟩ => h
  | .at _, h => h.1
theorem LiR.turn (x : Lv w w') (hi : w'.s.heap.IsListIter it l j) : ∀ {src : Src}, LiR cx w it i l src → LiR cx w' it j l src
  | .items _, ⟨vs, n, _, h2, h3, h4⟩ => ⟨vs, n, hi, (x.fz' h2 h3).1, (x.fz' h2 h3).2, h4.lv x⟩
  | .at _, h => ⟨hi, prefix_get x.pre h.2⟩
theorem LiR.get (S : St cx w H) {r : Option AV} : ∀ {src : Src}, LiR cx w it i l src → src.get i H = some (.ok r, H') → H' = H ∧ ∃ vs n xs, IsL w.s.heap l vs n ∧ VRs cx w xs vs.toList ∧ r = xs[i]?
  | .items xs, ⟨vs, n, _, h2, _, h4⟩, h => by
    obtain ⟨e, e2⟩ := pure_some h
    cases e
    exact ⟨e2, vs, n, xs, h2, h4, rfl⟩
  | .at k, ⟨_, hk⟩, h => bind_inv h (fun xs H1 h1 h2 => by
      obtain ⟨e1, c, e2, vs, n, hL, hz, hs⟩ := listAt_rd hk H S _ _ h1
      cases e2
      obtain ⟨e3, e4⟩ := pure_some h2
      cases e3
      exact ⟨e4.trans e1, vs, n, xs, hL, hs, rfl⟩) fun x h1 h2 => nomatch h2
theorem enum_src {a : AV} {v : Value} (r : VR cx w a v) : Rd cx w (do let _ ← listOf a; srcOf a) fun src => ∃ l, v = .ref l ∧ (∃ vs n, IsL w.s.heap l vs n) ∧ ∀ w' it, Le cx No w w' → w'.s.heap.IsListIter it l 0 → LiR cx w' it 0 l src := by
  cases a with
  | lst xs => exact .bind (K := fun _ => True) (.pure trivial) fun _ _ => r.lstE fun l vs n h1 h2 h3 h4 => .pure ⟨l, rfl, ⟨vs, n, h1⟩, fun w' it q hi => ⟨vs, n, hi, (q.fz' h1 h2).1, (q.fz' h1 h2).2, h4.mono q⟩⟩
  | loc k => exact r.locE fun l h => .bind (listAt_rd h) fun xs ⟨vs, n, hL, _⟩ => .bind (listAt_rd h) fun xs _ => .pure ⟨l, rfl, ⟨vs, n, hL⟩, fun w' it q hi => ⟨hi, prefix_get q.pre h⟩⟩
  | _ => exact .stuck
/-- a plain for -/
theorem name_walk {x : Str} {px : Pos} {src : Src} (hh : A.handled = none) : Wkr cx A (.Name x px) (.ref it) src (fun b => b = it) fun i w => it ∈ w.π ∧ ItR cx w it i src where
  own := fun i w j b e => e ▸ j.1
  keep := fun p i w w' l h j => ⟨l.pv _ j.1 (h it rfl), j.2.mono l j.1 (h it rfl)⟩
  turn := fun i w H r H' K KK E j S h k0 k1 => wpAny_mono (next_rf (.inl hh) (by rw [hh]; exact fun z => nomatch z) j.1 j.2 H S _ _ h) (fun o s1 ⟨ι, π, a, e, l, S1, hr⟩ => by
    cases e
    cases r with
    | none => rw [show o = none from hr]; exact k0 _ rfl l S1
    | some a =>
      obtain ⟨v, e, rv, pI, J⟩ := hr
      subst e
      exact wpAny_pure (k1 ⟨ι, π, s1⟩ a v rfl l S1 rv ⟨pI, J⟩)) fun _ _ ⟨_, _, _, e, _⟩ => nomatch e
/-- for .. in enumerate(..) -/
structure EnR (cx : Cx) (w : Wl) (en it l : Addr) (i : Nat) (src : Src) : Prop where
  pE : en ∈ w.π
  pI : it ∈ w.π
  N : ∃ old, IsEnum w.s.heap en it i old
  J : LiR cx w it i l src
theorem enum_walk {es : List Expr} {k : Nat} {pt : Pos} {src : Src} (hh : A.handled = none) (hne : en ≠ it) : Wkr cx A (.Tuple es k pt) (.ref en) (.enum src) (fun b => b = en ∨ b = it) fun i w => EnR cx w en it l i src where
  own := fun i w j b e => e.elim (fun e => e ▸ j.pE) fun e => e ▸ j.pI
  keep := fun p i w w' x h j => ⟨x.pv _ j.pE (h en (.inl rfl)), x.pv _ j.pI (h it (.inr rfl)), let ⟨old, e⟩ := j.N; ⟨old, (x.kp _ _ j.pE (h en (.inl rfl)) e).nd fun es ep z => nomatch z⟩, j.J.turn x.toLv (li_up j.J.iter fun o e => x.kp _ o j.pI (h it (.inr rfl)) e)⟩
  turn := fun i w H r H' K KK E j S h k0 k1 => by
    refine bind_inv h (fun o H1 h1 h2 => ?_) fun x h1 h2 => nomatch h2
    obtain ⟨e1, e2⟩ := pure_some h2
    cases e1
    subst e2
    obtain ⟨e3, vs, n, xs, hL, hV, e4⟩ := j.J.get S h1
    subst e3; subst e4
    obtain ⟨old, hN⟩ := j.N
    cases hx : xs[i]? with
    | none =>
      refine wpAny_pyNext_enum_end hh hN j.J.iter hL.isList (ne_vs hV hx) fun h' hext => ?_
      obtain ⟨l1, S1⟩ := S.drop (t := w.s.toks) j.pI hext
      exact k0 _ (by rw [hx]; rfl) (l1.weak fun b _ e => .inr e) S1
    | some a =>
      obtain ⟨v, hv, rv⟩ := hV.get hx
      refine wpAny_pyNext_enum_item (x := v) hN j.J.iter hL.isList (by rw [← Array.getElem?_toList]; exact hv) hne fun h' hN' hI' hT hsz hk => ?_
      refine wpAny_letOwnedTupleGo_enum hN' fun h'' hN'' hsb => ?_
      have hTen : w.s.heap.objs.size ≠ en := Ne.symm (Nat.ne_of_lt (Heap.lt_size hN))
      have hI'' : h''.IsListIter it l (i + 1) := hI'.at fun o e => hsb.extBut _ o (Ne.symm hne) e
      obtain ⟨l1, S1⟩ := S.privs (t := w.s.toks + 1) (h' := h'') (p := fun b => b = en ∨ b = it) (fun b e => e.elim (fun e => e ▸ j.pE) fun e => e ▸ j.pI)
        (fun b o q e => hsb.extBut b o (fun z => q (.inl z)) (hk b o (fun z => q (.inl z)) (fun z => q (.inr z)) e)) (fun b e => e.elim (fun e => e ▸ ⟨_, hN''⟩) fun e => e ▸ (let ⟨o, q, _⟩ := hI''; ⟨o, q⟩))
      exact k1 _ (.tup [.int i, a]) _ (by rw [hx]; rfl) l1 S1 (.tup (n := 0) (hsb.extBut _ _ hTen hT) (S.new (get_size _)) (show 2 ≤ LIM by decide) (.cons .int (.cons (rv.mono l1) .nil)))
        ⟨j.pE, j.pI, ⟨v, hN''⟩, j.J.turn l1.toLv hI''⟩
/-- a new object is none of the frame's -/
theorem EnvR.new (I : EnvR cx env sc ns σ w) (S : St cx w H) {b : Addr} (hb : w.s.heap.get? b = none) : ¬ OwnF cx env b := fun h => by
  obtain ⟨o, e⟩ := S.pvx b (I.ownF h)
  rw [hb] at e; cases e
theorem St.none (S : St cx w H) {b : Addr} (hb : w.s.heap.get? b = none) : b ∉ w.π := (S.new hb).2
section
variable {ev : Loc → Expr → M AV} {bm : Loc → M Res} {body : List Stmt} (hh : A.handled = none) (F : FrS cx A env sc) (hev : ∀ σ, EvOK cx A env (EnvR cx env sc ns σ) (ev σ)) (hb : ∀ σ w, EnvR cx env sc ns σ w → Rf cx A (Own env) w (RS cx env sc ns) (bm σ) (execs body env))
include hh F hev hb
theorem turn_wp {t : Expr} (σ : Loc) (w : Wl) (a : AV) (v : Value) (H : AHeap) (r : Except Str Res) (H' : AHeap) (I : EnvR cx env sc ns σ w) (rv : VR cx w a v) (S : St cx w H) (h : (do let σ' ← assignTo ev sc ns a σ t; bm σ' : M Res) H = some (r, H')) :
    wpAny (model cx.prog cx.w) A (assign t env v) (fun _ s2 => wpAny (model cx.prog cx.w) A (execs body env) (Post cx (Own env) w (RS cx env sc ns) r H') (PostX cx (Own env) w r H') s2) (PostX cx (Own env) w r H') w.s :=
  (assign_rf hh F (hev σ) I rv).run S h fun w1 σ1 _ H1 l S1 I1 h1 => wpAny_mono (hb σ1 w1 I1 H1 S1 r H' h1) (fun _ _ z => z.le l) fun _ _ z => z.le l
theorem forN_rf {x : Str} {px pos : Pos} {iter : Expr} (hx : exOk iter = true) (I : EnvR cx env sc ns σ w) :
    Rf cx A (Own env) w (RS cx env sc ns) (do let v ← ev σ iter; let src ← srcOf v; forLoop src (fun v σ => do let σ' ← assignTo ev sc ns v σ (.Name x px); bm σ') FUEL 0 σ) (exec (.For (.Name x px) iter body [] pos) env) := fun H S r H' h => by
  refine wpAny_For (wpAny_mono ((hev σ iter w I).run S h fun w1 a v H1 l1 S1 r1 h1 => ?_) (fun _ _ z => z) fun _ _ z => z.no fun d h => I.own h) fun v => exOk_set hx
  have I1 := EnvR.stable _ _ I l1
  refine wpAny_mono ((iter_rf r1).run S1 h1 fun w2 src itv H2 l2 S2 ⟨it, e, pI, J, hn⟩ h2 => ?_) (fun _ _ z => z) fun _ _ z => (z.le l1).no fun d h => I.own h
  subst e
  refine codeAny_mono (for_code (w₁ := w) F (name_walk hh) (fun b e => e ▸ I1.new S1 hn) (turn_wp hh F hev hb) FUEL 0 S2 (l1.trans l2).no (EnvR.stable _ _ I1 l2) ⟨pI, J⟩ h2) fun res s' z => ?_
  have hpp : ∀ d, d ∈ w.π → OQ env (fun b => b = it) d → Own env d := fun d hd h => h.elim id fun e => (S1.none hn (e ▸ l1.pv d hd id)).elim
  cases res with
  | ok f => exact z.outO hpp
  | error e => exact z.outE hpp fun _ h => .inl (.inl h)
theorem forE_rf (G : Good cx P) {f : Str} {fp cp pos pt : Pos} {es : List Expr} {k : Nat} {e : Expr} (hx : exOk e = true) (hf : f = ("enumerate" : Str)) (hg : isGlob sc f = true) (I : EnvR cx env sc ns σ w) :
    Rf cx A (Own env) w (RS cx env sc ns) (do let v ← ev σ e; let _ ← listOf v; let src ← srcOf v; forLoop (.enum src) (fun v σ => do let σ' ← assignTo ev sc ns v σ (.Tuple es k pt); bm σ') FUEL 0 σ) (exec (.For (.Tuple es k pt) (.Call (.Name f fp) [e] [] cp) body [] pos) env) := fun H S r H' h => by
  subst hf
  have htr : backTo cp (starEach [e] env) = [(false, eval e env)] := by rw [exOk_star hx]; rfl
  refine wpAny_For (Call_Name htr (load_bi G S I.k hg (by decide) G.enum ?_))
  refine PyProof.Rows.callWith_type rfl (Calls.evalArgs_plain (Calls.spliced_cons (wpAny_mono ((hev σ e w I).run S h fun w1 a v H1 l1 S1 r1 h1 => Calls.spliced_nil ?_) (fun _ _ z => z) fun _ _ z => z.no fun d h => I.own h)))
  have I1 := EnvR.stable _ _ I l1
  rw [← bind_assoc] at h1
  refine bind_inv h1 (fun src H2 h2 h3 => ?_) fun x h2 h3 => by obtain ⟨_, c, e, _⟩ := enum_src r1 H1 S1 _ _ h2; cases e
  obtain ⟨e1, c, e2, l, e3, ⟨vs, n, hL⟩, hJ⟩ := enum_src r1 H1 S1 _ _ h2
  cases e2
  subst e1; subst e3
  show wpAny _ _ (PySem.call (.type "enumerate") [.ref l]) _ _ _
  refine call_enumerate_list hL.isList fun h' hN hI hsz hk => ?_
  have hn1 : w1.s.heap.get? w1.s.heap.objs.size = none := get_size _
  have hn2 : w1.s.heap.get? (w1.s.heap.objs.size + 1) = none := Heap.get?_none_of_le (Nat.le_succ _)
  obtain ⟨l2, S2⟩ := S1.hides (t := w1.s.toks) [w1.s.heap.objs.size + 1, w1.s.heap.objs.size] hk (fun d e => (List.mem_cons.mp e).elim (fun e => e ▸ hn2) fun e => List.mem_singleton.mp e ▸ hn1)
    fun d e => (List.mem_cons.mp e).elim (fun e => e ▸ ⟨_, hN⟩) fun e => List.mem_singleton.mp e ▸ (let ⟨o, q, _⟩ := hI; ⟨o, q⟩)
  have I2 := EnvR.stable _ _ I1 l2
  refine wpAny_pyIter_enum hN (codeAny_mono (for_code (w₁ := w) (q := fun b => b = w1.s.heap.objs.size + 1 ∨ b = w1.s.heap.objs.size) F (enum_walk (l := l) hh (Nat.succ_ne_self _)) (fun b e => e.elim (fun e => e ▸ I1.new S1 hn2) fun e => e ▸ I1.new S1 hn1) (turn_wp hh F hev hb) FUEL 0 S2 (l1.trans l2).no I2
    ⟨List.mem_cons_self, List.mem_cons_of_mem _ List.mem_cons_self, ⟨_, hN⟩, hJ _ _ l2 hI⟩ h3) fun res s' z => ?_)
  have hpp : ∀ d, d ∈ w.π → OQ env (fun b => b = w1.s.heap.objs.size + 1 ∨ b = w1.s.heap.objs.size) d → Own env d := fun d hd h => h.elim id fun e => (e.elim (fun e => S1.none hn2 (e ▸ l1.pv d hd id)) fun e => S1.none hn1 (e ▸ l1.pv d hd id)).elim
  cases res with
  | ok f => exact z.outO hpp
  | error e => exact z.outE hpp fun _ h => .inl (.inl h)
end
end
end Mine


set_option autoImplicit false
set_option linter.unusedVariables false
namespace Mine
open PySem PyProof.Rows PySem.SeqAt

section
variable {cx : Cx} {A : Around} {p q : Addr → Prop} {w w' w₁ : Wl} {H H' : AHeap} {env : Env} {sc : Scope} {ns : List Str} {σ : Loc} {P : Pg} {cf : Str → List AV → M AV}
/-- the comprehension whose list is bound before its variable is let go -/
theorem swap_rf {elt iter : Expr} {x y : Str} {px pos yp sp : Pos} {ifs : List Expr} {scope : Scope} {mu : Bool} {ei : Expr → M AV} {te : AV → Expr → M Bool} {ev : AV → Expr → M AV}
    (hh : HdA cx A) (F : FrS cx A env sc) (hy : isLocal sc y = true) (ok : CompOK sc ns scope x) (hx : exOk iter = true) (hi : EvOK cx A env (EnvR cx env sc ns σ) ei)
    (hev : ∀ env' a, EvOK cx A env' (EnvR cx env' scope (x :: ns) (some a :: σ)) (ev a)) (hte : ∀ env' a, TeOK cx A env' (EnvR cx env' scope (x :: ns) (some a :: σ)) (te a)) (I : EnvR cx env sc ns σ w) :
    Rf cx A (Own env) w (RF cx env sc ns) (do let a ← (do let iv ← ei iter; let src ← srcOf iv; let ys ← compLoop src (compBody te ev ifs elt) FUEL 0 []; newL mu ys); setN ns y a σ)
      (do standAt sp; evalThenUse (.ListComp elt [⟨.Name x px, iter, ifs, 0⟩] scope pos) env (assign (.Name y yp) env); return .next) := .standAt fun H S r H' h => by
  show wpAny _ A ((do let _ ← comprehension (.ListComp elt [⟨.Name x px, iter, ifs, 0⟩] scope pos) scope env _ (newList []) false (eval iter env) (some (assign (.Name y yp) env))) >>= fun _ => pure Flow.next) _ _ _
  refine wpAny_bind (wpAny_bind ?_)
  refine bind_inv h (fun a H1 h1 h2 => ?_) fun e h1 h2 => ?_
  · refine wpAny_mono (comp_core (Q := fun _ s' => Post cx (Own env) w (RF cx env sc ns) r H' .next s') (use := some (assign (.Name y yp) env)) (mu := mu) hh ok hx hi hev hte S I h1 fun D C w' a' e l S' rv I' pC nC oC ⟨m, hN⟩ => ?_) (fun _ _ z => wpAny_pure (wpAny_pure z)) fun _ _ ⟨_, _, _, e, _⟩ => nomatch e
    cases e
    refine wpAny_mono (bindN_rf F hy I' rv H1 S' _ _ h2) (fun _ s2 ⟨ι, π, σ', e, l2, S2, I2⟩ => ⟨m, UpS.ns hN fun o e => l2.kp _ o pC (fun z => oC (.inl z)) e, fun h' hs => ?_⟩) fun _ _ ⟨_, _, _, e, _⟩ => by (obtain ⟨σ', q⟩ := setN_ok h2; rw [q] at e; cases e)
    obtain ⟨l3, S3⟩ := S2.drop (t := s2.toks) (l2.pv _ pC fun z => oC (.inl z)) hs.extBut
    exact ⟨_, _, σ', e, ((l.no.trans (l2.weak fun b _ h => .inl h)).trans (l3.weak fun b _ h => .inr h)).weak (p := fun b => Own env b ∨ b = C) fun b hb h => h.elim id fun e => (nC (e ▸ hb)).elim, S3, rfl, EnvR.mono I2 l3 fun b hb h => oC (h ▸ hb)⟩
  · exact wpAny_mono (comp_core (Q := fun _ _ => False) (use := some (assign (.Name y yp) env)) (mu := mu) hh ok hx hi hev hte S I h1 fun D C w' a' e l S' rv I' pC nC oC hN => nomatch e) (fun _ _ z => z.elim) fun _ _ ⟨ι, π, x, e, q⟩ => by (subst h2; cases e; exact PostX.no ⟨ι, π, _, rfl, q⟩ fun d h => I.own h)
theorem exec_assign1 {t e : Expr} {pos : Pos} (hs : swapsWith e (some t) pos.line env = pure false) (hw : swappedStores [t] e env = pure none) (ht : (assignEach [t] env).map (·.2) = [assign t env]) :
    exec (.Assign [t] e pos) env = (do standAt pos; let v ← eval e env; assign t env v; pure .next) := by
  rw [arm_exec_Assign]
  show (do standAt pos; if ← swapsWith e (some t) pos.line env then _ else _) = _
  rw [hs]
  simp only [pure_bind, Bool.false_eq_true, if_false, hw]
  rw [ht]
  rfl
/-- an expression leaves the frame as it is -/
theorem EvOK.here {ev : Expr → M AV} {e : Expr} (hev : EvOK cx A env (EnvR cx env sc ns σ) ev) (I : EnvR cx env sc ns σ w) (hq : ∀ d, p d → d ∈ w.π) : Rf cx A p w (fun w' a b => EnvR cx env sc ns σ w' ∧ VR cx w' a b) (ev e) (eval e env) :=
  .no ((hev e w I).mono fun w' a b l r => ⟨EnvR.stable _ _ I l, r⟩) hq
/-- an assignment, its target's part g -/
theorem asg_rf {ev : Expr → M AV} {t e : Expr} {pos : Pos} {g : AV → M Loc} (hs : swapsWith e (some t) pos.line env = pure false) (hw : swappedStores [t] e env = pure none) (ht : (assignEach [t] env).map (·.2) = [assign t env])
    (hev : EvOK cx A env (EnvR cx env sc ns σ) ev) (I : EnvR cx env sc ns σ w) (hg : ∀ w1 a v, EnvR cx env sc ns σ w1 → VR cx w1 a v → Rf cx A (Own env) w1 (RL cx env sc ns) (g a) (assign t env v)) :
    Rf cx A (Own env) w (RF cx env sc ns) (ev e >>= g) (exec (.Assign [t] e pos) env) := by
  rw [exec_assign1 hs hw ht]
  exact .standAt (.bind (hev.here I fun d h => I.own h) fun w1 a v l r => .map (hg w1 a v r.1 r.2) fun w2 σ' _ l2 I2 => .pure ⟨rfl, I2⟩)
section
variable {n : Nat} (hk : HdA cx A) (hh : P.free = true → A.handled = none) (R : Room A) (Z : P.free = true → ZipOK cx A) (G : Good cx P) (C : CallOK cx A P cf) (F : FrS cx A env sc)
include hk hh R Z G C F
theorem asgN_rf {x : Str} {e : Expr} {xp pos : Pos} (hx : isLocal sc x = true) (I : EnvR cx env sc ns σ w) : Rf cx A (Own env) w (RF cx env sc ns) (do let v ← den P cf n sc ns σ e; setN ns x v σ) (exec (.Assign [.Name x xp] e pos) env) := by
  have go : swapsWith e (some (.Name x xp)) pos.line env = pure false → Rf cx A (Own env) w (RF cx env sc ns) (do let v ← den P cf n sc ns σ e; setN ns x v σ) (exec (.Assign [.Name x xp] e pos) env) := fun hs =>
    asg_rf hs rfl rfl (den_rf hk hh R Z G C n env sc ns σ) I fun w1 a v I1 r => bindN_rf F hx I1 r
  refine ex_cases (T := fun e => (swapsWith e (some (.Name x xp)) pos.line env = pure false → Rf cx A (Own env) w (RF cx env sc ns) (do let v ← den P cf n sc ns σ e; setN ns x v σ) (exec (.Assign [.Name x xp] e pos) env)) → Rf cx A (Own env) w (RF cx env sc ns) (do let v ← den P cf n sc ns σ e; setN ns x v σ) (exec (.Assign [.Name x xp] e pos) env)) (fun elt gens scope lp go => ?_) (fun _ _ _ _ _ => by rw [den_sc]; exact .stuck) (fun _ _ _ _ _ _ => by rw [den_dc]; exact .stuck) (fun e hsw _ go => go (hsw _ _ _)) e go
  have hb : ∃ b, swapsWith (.ListComp elt gens scope lp) (some (.Name x xp)) pos.line env = pure b := ⟨_, rfl⟩
  obtain ⟨b, hb⟩ := hb
  cases b with
  | false => exact go hb
  | true =>
    rw [exec_Assign_Name_used _ _ _ _ hb]
    cases n with
    | zero => exact .stuck
    | succ n =>
      refine dComp_cases (T := fun m => Rf cx A (Own env) w (RF cx env sc ns) (m >>= fun v => setN ns x v σ) _) .stuck fun z px iter ifs e ok hz => ?_
      subst e
      have ih := den_rf hk hh R Z G C n
      exact swap_rf hk F hx ok hz (ih env sc ns σ) (fun env' a => ih env' scope (z :: ns) (some a :: σ)) (fun env' a => denT_rf R EnvR.stable (ih env' scope (z :: ns) (some a :: σ)) n) I
omit hk hh R Z G C F in
theorem tg_cases {T : Expr → Prop} (hn : ∀ x p, T (.Name x p)) (hs : ∀ o i p, T (.Subscript o i p)) (ht : ∀ es k p, T (.Tuple es k p)) (ho : ∀ t, (∀ ev sc ns m σ e, bAssign ev sc ns m σ e t = stuck) → T t) (t : Expr) : T t := by
  cases t with
  | Name => exact hn _ _
  | Subscript => exact hs _ _ _
  | Tuple => exact ht _ _ _
  | _ => exact ho _ fun _ _ _ _ _ _ => rfl
theorem bAssign_rf {m : Loc → M Res} {rest : List Stmt} {e t : Expr} {pos : Pos} (hq : (P.free || !isTupE t) = true) (hm : ∀ w' σ', EnvR cx env sc ns σ' w' → Rf cx A (Own env) w' (RS cx env sc ns) (m σ') (execs rest env)) (I : EnvR cx env sc ns σ w) :
    Rf cx A (Own env) w (RS cx env sc ns) (bAssign (den P cf n sc ns σ) sc ns m σ e t) (execs (.Assign [t] e pos :: rest) env) := by
  have hev := den_rf hk hh R Z G C n env sc ns σ
  refine tg_cases (T := fun t => (P.free || !isTupE t) = true → Rf cx A (Own env) w (RS cx env sc ns) (bAssign (den P cf n sc ns σ) sc ns m σ e t) (execs (.Assign [t] e pos :: rest) env)) (fun x xp _ => ?_) (fun o i tp _ => ?_) (fun es k tp hq => ?_) (fun t hst _ => by rw [hst]; exact .stuck) t hq
  · refine ite_rf (fun hx => ?_) fun _ => .stuck
    have := next_st (m := m) (asgN_rf (n := n) (xp := xp) (pos := pos) (e := e) hk hh R Z G C F hx I) hm
    rwa [bind_assoc] at this
  · have go : ∀ e, swapsWith e (some (.Subscript o i tp)) pos.line env = pure false → Rf cx A (Own env) w (RS cx env sc ns) (bAssign (den P cf n sc ns σ) sc ns m σ e (.Subscript o i tp)) (execs (.Assign [.Subscript o i tp] e pos :: rest) env) := fun e hs => by
      have := next_st (m := m) (asg_rf (e := e) (g := fun a => do let ov ← den P cf n sc ns σ o; let iv ← den P cf n sc ns σ i; pStore ov iv a; pure σ) (pos := pos) hs rfl rfl hev I fun w1 a v I1 r => subA_rf hev I1 r) hm
      simp only [bind_assoc, pure_bind] at this
      exact this
    exact ex_cases (T := fun e => Rf cx A (Own env) w (RS cx env sc ns) (bAssign (den P cf n sc ns σ) sc ns m σ e (.Subscript o i tp)) (execs (.Assign [.Subscript o i tp] e pos :: rest) env)) (fun _ _ _ _ => go _ rfl) (fun _ _ _ _ => by show Rf _ _ _ _ _ (den P cf n sc ns σ _ >>= _) _; rw [den_sc]; exact .stuck) (fun _ _ _ _ _ => by show Rf _ _ _ _ _ (den P cf n sc ns σ _ >>= _) _; rw [den_dc]; exact .stuck) (fun e hsw _ => go e (hsw _ _ _)) e
  · show Rf cx A (Own env) w _ (match pairN es with | some (x, y) => _ | none => stuck) _
    cases hp : pairN es with
    | none => exact .stuck
    | some xy =>
      obtain ⟨⟨x, px⟩, y, py⟩ := xy
      rw [pairN_of hp]
      refine ite_rf (fun _ => .stuck) fun hc => ?_
      have hc := Bool.eq_false_iff.mpr hc
      rw [Bool.or_eq_false_iff, Bool.or_eq_false_iff, Bool.not_eq_false', Bool.not_eq_false'] at hc
      have go : ∀ e, swapsWith e (some (.Tuple [.Name x px, .Name y py] k tp)) pos.line env = pure false → swappedStores [.Tuple [.Name x px, .Name y py] k tp] e env = pure none → Rf cx A (Own env) w (RS cx env sc ns) (do let v ← den P cf n sc ns σ e; let p ← pairOf v; let σ1 ← setN ns x p.1 σ; let σ2 ← setN ns y p.2 σ1; m σ2) (execs (.Assign [.Tuple [.Name x px, .Name y py] k tp] e pos :: rest) env) := fun e hs hw => by
        have := next_st (m := m) (asg_rf (e := e) (g := fun v => do let p ← pairOf v; let σ1 ← setN ns x p.1 σ; setN ns y p.2 σ1) (pos := pos) hs hw rfl hev I fun w1 a v I1 r => ?_) hm
        · simpa only [bind_assoc] using this
        · unfold pairOf
          split
          · exact .pureR (pair_rf (hh ((Bool.or_eq_true _ _ ▸ hq : P.free = true ∨ _).resolve_right fun z => nomatch z)) F hc.1.2 hc.2 I1 r)
          · exact .stuck
      exact ex_cases (T := fun e => isTupE e = false → Rf cx A (Own env) w (RS cx env sc ns) (do let v ← den P cf n sc ns σ e; let p ← pairOf v; let σ1 ← setN ns x p.1 σ; let σ2 ← setN ns y p.2 σ1; m σ2) (execs (.Assign [.Tuple [.Name x px, .Name y py] k tp] e pos :: rest) env)) (fun _ _ _ _ _ => go _ rfl rfl) (fun _ _ _ _ _ => by rw [den_sc]; exact .stuck) (fun _ _ _ _ _ _ => by rw [den_dc]; exact .stuck) (fun e hsw hst ht => go e (hsw _ _ _) (hst ht _ _ _ _)) e hc.1.1
end
end
end Mine


set_option autoImplicit false
set_option linter.unusedVariables false
namespace Mine
open PySem PyProof.Rows PySem.SeqAt

section
variable {cx : Cx} {A : Around} {w : Wl} {env : Env} {sc : Scope} {ns : List Str} {σ : Loc} {P : Pg} {cf : Str → List AV → M AV}
theorem enumArg_of {it e : Expr} (h : enumArg sc it = some e) : ∃ f fp cp, it = .Call (.Name f fp) [e] [] cp ∧ (f = ("enumerate" : Str) ∧ isGlob sc f = true) ∧ exOk e = true := by
  unfold enumArg at h
  cases hc : callOf it with
  | none => rw [hc] at h; cases h
  | some q =>
    obtain ⟨f, as⟩ := q
    rw [hc] at h
    obtain ⟨fp, p, rfl⟩ := callOf_of hc
    match as, h with
    | [x], h =>
      have h' : (if (f = ("enumerate" : Str) ∧ isGlob sc f = true) ∧ exOk x = true then some x else none) = some e := h
      split at h'
      · rename_i hf
        cases h'
        exact ⟨f, fp, p, rfl, hf⟩
      · cases h'
    | [], h => cases h
    | _ :: _ :: _, h => cases h
section
variable {n : Nat} (hk : HdA cx A) (hh : A.handled = none) (R : Room A) (Z : ZipOK cx A) (G : Good cx P) (C : CallOK cx A P cf) (F : FrS cx A env sc)
include hk hh R Z G C F
theorem bFor_rf {m bm : Loc → M Res} {rest body : List Stmt} {t it : Expr} {pos : Pos} (hb : ∀ σ w, EnvR cx env sc ns σ w → Rf cx A (Own env) w (RS cx env sc ns) (bm σ) (execs body env)) (hm : ∀ w' σ', EnvR cx env sc ns σ' w' → Rf cx A (Own env) w' (RS cx env sc ns) (m σ') (execs rest env)) (I : EnvR cx env sc ns σ w) :
    Rf cx A (Own env) w (RS cx env sc ns) (bFor (fun σ e => den P cf n sc ns σ e) sc ns bm m σ t it) (execs (.For t it body [] pos :: rest) env) := by
  have hev := fun σ => den_rf hk (fun _ => hh) R (fun _ => Z) G C n env sc ns σ
  cases t with
  | Name x px =>
    refine ite_rf (fun hx => ?_) fun _ => .stuck
    have := goOn_st (m := m) (forN_rf (pos := pos) (x := x) (px := px) hh F hev hb hx I) hm
    simp only [bind_assoc] at this
    exact this
  | Tuple es k pt =>
    show Rf cx A (Own env) w _ (match pairN es with | some (x, y) => _ | none => stuck) _
    cases hp : pairN es with
    | none => exact .stuck
    | some xy =>
      obtain ⟨⟨x, px⟩, y, py⟩ := xy
      show Rf cx A (Own env) w _ (match enumArg sc it with | some e => _ | none => stuck) _
      cases he : enumArg sc it with
      | none => exact .stuck
      | some e =>
        obtain ⟨f, fp, cp, rfl, hf, hx⟩ := enumArg_of he
        rw [pairN_of hp]
        have := goOn_st (m := m) (forE_rf (pos := pos) (fp := fp) (cp := cp) (pt := pt) (k := k) (es := [.Name x px, .Name y py]) hh F hev hb G hx hf.1 hf.2 I) hm
        simp only [bind_assoc] at this
        exact this
  | _ => exact .stuck
end
theorem raiseOf_of {e : Option Expr} {x : Str} (h : raiseOf sc P e = some x) : ∃ fp cp c k q, e = some (.Call (.Name x fp) [.Constant (.str c) k q] [] cp) ∧ isGlob sc x = true ∧ (P.cls x).isSome = true ∧ P.free = true := by
  unfold raiseOf at h
  cases e with
  | none => cases h
  | some e =>
    have h : (match callOf e with | some (x, args) => if oneStr args && isGlob sc x && (P.cls x).isSome && P.free then some x else none | none => none) = some x := h
    cases hc : callOf e with
    | none => rw [hc] at h; cases h
    | some q =>
      obtain ⟨f, as⟩ := q
      rw [hc] at h
      obtain ⟨fp, p, rfl⟩ := callOf_of hc
      have h : (if (oneStr as && isGlob sc f && (P.cls f).isSome && P.free) = true then some f else none) = some x := h
      split at h
      · rename_i hq
        cases h
        rw [Bool.and_eq_true, Bool.and_eq_true, Bool.and_eq_true] at hq
        obtain ⟨⟨⟨h1, h2⟩, h3⟩, h4⟩ := hq
        match as, h1 with
        | [e], h1 =>
          have h1 : isStrC e = true := h1
          cases e with
          | Constant c k q =>
            cases c with
            | str c => exact ⟨fp, p, c, k, q, rfl, h2, h3, h4⟩
            | _ => cases h1
          | _ => cases h1
      · cases h
theorem raise_rf {e c : Option Expr} {p : Pos} {rest : List Stmt} {R' : Wl → Res → Flow → Prop} (hh : P.free = true → A.handled = none) (G : Good cx P) (I : EnvR cx env sc ns σ w) :
    Rf cx A (Own env) w R' (bRaise sc P e c) (execs (.Raise e c p :: rest) env) := by
  unfold bRaise
  cases c with
  | some _ => exact .stuck
  | none =>
    show Rf cx A (Own env) w R' (match raiseOf sc P e with | some x => throwM x | none => stuck) _
    cases hr : raiseOf sc P e with
    | none => exact .stuck
    | some x =>
      obtain ⟨fp, cp, tx, k, tp, rfl, hg, hc, hf⟩ := raiseOf_of hr
      obtain ⟨cs, hc⟩ := Option.isSome_iff_exists.mp hc
      obtain ⟨hd, C, vs, hC, X, _⟩ := G.cls x cs hc
      intro H S r H' h
      cases h
      rw [arm_execs_cons]
      have kp : ∀ b o, cx.h₀.get? b = some o → w.s.heap.get? b = some o := fun b o e => (S.base b o e).1
      have X' := X.keeps kp
      obtain ⟨N, nm, q, bs, hdct, sn, sub, ab, col, dd, k0, k1, k2, k3, k5, mN, h1, h2, h3, h4⟩ := X'.obj
      refine wpAny_bind (wpAny_Raise_call_subT F.excBase_ValueError (X'.tail.tail.hasType (by decide)) (hh hf) rfl (h3 _ (by decide)) (load_glob G S I.k hg hd hC ⟨rfl, Calls.evalArgs_plain (Calls.spliced_cons (wpAny_Constant_str (k := k) (pos := tp) (Calls.spliced_nil (⟨rfl, show 1 ≤ sizeLine by decide, h1, h2, X'.tail.tail, fun h' a m => ?_⟩))))⟩))
      obtain ⟨t, m1, m2, m3⟩ := m.there
      obtain ⟨l, S'⟩ := S.hide (t := w.s.toks + 1) m.keeps m.new ⟨_, m1⟩
      have na : a ∉ w.π := (S.new m.new).2
      exact ⟨w.ι, a :: w.π, x, rfl, l.no, S', ⟨fun b hb => ((I.fr b hb).le l id), a, _, _, ⟨rfl, List.mem_cons_self, ⟨na, fun h => na (I.own h)⟩, m1, rfl, ⟨C, rfl, hC⟩, ⟨_, rfl⟩, rfl⟩, .inl rfl⟩, fun b h => List.mem_cons_of_mem _ (I.own h)⟩
theorem denB_rf (hk : HdA cx A) (hh : P.free = true → A.handled = none) (R : Room A) (Z : P.free = true → ZipOK cx A) (G : Good cx P) (C : CallOK cx A P cf) (F : FrS cx A env sc) : ∀ (n : Nat) (body : List Stmt) (σ : Loc) (w : Wl), EnvR cx env sc ns σ w → Rf cx A (Own env) w (RS cx env sc ns) (denB P cf sc ns n body σ) (execs body env)
  | n, [], σ, w, I => by
    have : denB P cf sc ns n [] σ = pure (.next σ) := by cases n <;> rfl
    rw [this]
    exact .leaf fun H S => wpAny_execs_nil (.here S ⟨rfl, I⟩)
  | 0, _ :: _, σ, w, I => .stuck
  | n + 1, st :: rest, σ, w, I => by
    have ih := denB_rf hk hh R Z G C F n
    have hev := fun σ => den_rf hk hh R Z G C n env sc ns σ
    have hm : ∀ w' σ', EnvR cx env sc ns σ' w' → Rf cx A (Own env) w' (RS cx env sc ns) (denB P cf sc ns n rest σ') (execs rest env) := fun w' σ' I' => ih rest σ' w' I'
    cases st with
    | Pass p =>
      have := next_st (m0 := pure σ) (m := denB P cf sc ns n rest) (st := .Pass p) (.leaf fun H S => wpAny_Pass (.here S ⟨rfl, I⟩)) hm
      rwa [pure_bind] at this
    | Return v p =>
      rw [arm_execs_cons]
      cases v with
      | none => exact .leaf fun H S => wpAny_bind (wpAny_Return_none (wpAny_pure (.here S ⟨_, rfl, .none, fun b h => I.own h, let ⟨m, h, _⟩ := I.nsm; ⟨m, h⟩, I.has⟩)))
      | some e => exact .no (Rf.seqw (k := fun v => pure (.ret v)) (hev σ e w I) (fun w1 a v l r => .pure ⟨v, rfl, r, fun b h => (EnvR.stable _ _ I l).own h, let ⟨m, h, _⟩ := (EnvR.stable _ _ I l).nsm; ⟨m, h⟩, (EnvR.stable _ _ I l).has⟩) fun h => wpAny_bind (wpAny_Return_some h)) fun d h => I.own h
    | Expr e p =>
      refine ite_rf (fun hn => ?_) fun _ => .stuck
      have := next_st (m := denB P cf sc ns n rest) (expr_rf (pos := p) (hev σ) hn I) hm
      simp only [bind_assoc, pure_bind] at this
      exact this
    | Assign ts e p =>
      match ts with
      | [t] => exact ite_rf (fun hq => bAssign_rf hk hh R Z G C F hq hm I) fun _ => .stuck
      | [] => exact .stuck
      | _ :: _ :: _ => exact .stuck
    | If t b o p =>
      have : Rf cx A (Own env) w (RS cx env sc ns) (do let c ← denT (den P cf n sc ns σ) n t; match c with | true => denB P cf sc ns n b σ | false => denB P cf sc ns n o σ) (exec (.If t b o p) env) := by
        rw [arm_exec_If]
        refine .standAt (.bind (.no ((denT_rf R EnvR.stable (hev σ) n t w I).mono (R' := fun w' a b => EnvR cx env sc ns σ w' ∧ a = b) fun w' a b l r => ⟨EnvR.stable _ _ I l, r⟩) fun d h => I.own h) fun w1 c c' l r => ?_)
        rw [← r.2]
        cases c with
        | true => exact ih b σ w1 r.1
        | false => exact ih o σ w1 r.1
      have := goOn_st (m := denB P cf sc ns n rest) this hm
      rw [bind_assoc] at this
      refine (congrArg (fun f => Rf cx A (Own env) w (RS cx env sc ns) (denT (den P cf n sc ns σ) n t >>= f) (execs (.If t b o p :: rest) env)) (funext fun c => ?_)).mp this
      cases c <;> rfl
    | For t it b o p =>
      cases o with
      | nil => exact ite_rf (fun hq => bFor_rf hk (hh hq) R (Z hq) G C F (fun σ w I => ih b σ w I) hm I) fun _ => .stuck
      | cons _ _ => exact .stuck
    | While t b o p =>
      cases o with
      | nil => exact goOn_st (m := denB P cf sc ns n rest) (while_rf F (fun σ w I => denT_rf R EnvR.stable (hev σ) n t w I) (fun σ w I => ih b σ w I) I) hm
      | cons _ _ => exact .stuck
    | Raise e c p => exact raise_rf hh G I
    | _ => exact .stuck
end
end Mine


set_option autoImplicit false
set_option linter.unusedVariables false
namespace Mine
open PySem PyProof.Rows PySem.SeqAt

/-- the same, with other frames around -/
abbrev Cx.on (cx : Cx) (l : List Addr) (d : Option Addr) : Cx := ⟨cx.prog, cx.w, cx.h₀, cx.os₀, cx.mg, cx.mb, l, d⟩
section
variable {cx : Cx} {w w' : Wl} {H : AHeap} {l : List Addr} {d d' : Option Addr} {P : Pg} {p : Addr → Prop} {L : Addr}
mutual
theorem VR.on : ∀ {a : AV} {v : Value}, VR cx w a v → VR (cx.on l d) w a v
  | .none, _, h => h
  | .bool _, _, h => h
  | .int _, _, h => h
  | .str _, _, h => h
  | .tup _, _, ⟨a, vs, n, e, h1, h2, h3, h4⟩ => ⟨a, vs, n, e, h1, h2, h3, VRs.on h4⟩
  | .lst _, _, ⟨a, vs, n, e, h1, h2, h3, h4⟩ => ⟨a, vs, n, e, h1, h2, h3, VRs.on h4⟩
  | .loc _, _, ⟨a, e, h⟩ => ⟨a, e, h⟩
  | .range _ _, _, ⟨d, t, u, y, e, h1, h2⟩ => ⟨d, t, u, y, e, h1, h2⟩
  | .cdict _, _, ⟨d, kvs, e, h1, h2, h3, h4⟩ => ⟨d, kvs, e, h1, h2, h3, h4⟩
  | .exc _, _, ⟨a, o, C, e, h1, h2, h3⟩ => ⟨a, o, C, e, h1, h2, h3⟩
theorem VRs.on : ∀ {xs : List AV} {vs : List Value}, VRs cx w xs vs → VRs (cx.on l d) w xs vs
  | [], _, h => h
  | _ :: _, _, ⟨v, us, e, h1, h2⟩ => ⟨v, us, e, VR.on h1, VRs.on h2⟩
end
theorem OR.on {a : Addr} : ∀ {o : AO}, OR cx w a o → OR (cx.on l d) w a o
  | .list _, ⟨vs, n, h1, h2, h3⟩ => ⟨vs, n, h1, h2, h3.on⟩
  | .dict _, ⟨kvs, h1, h2, h3, h4⟩ => ⟨kvs, h1, h2, h3, h4.on⟩
theorem St.on (S : St cx w H) : St (cx.on l d) w H := ⟨S.base, S.len, S.nodup, S.dj, S.pvx, fun i a o e1 e2 => (S.own i a o e1 e2).on, S.gens, S.os, S.sysm⟩
theorem Good.on (G : Good cx P) : Good (cx.on l d) P := ⟨G.g, G.b, G.nolim, fun x a h => let ⟨v, h1, h2⟩ := G.glob x a h; ⟨v, h1, fun w H S => (h2 w H (St.on (cx := cx.on l d) (l := cx.fr) (d := cx.hd) S)).on⟩, G.bi, G.isi, G.ty, G.zip, G.enum, G.ve, G.cls⟩
theorem Good.off (G : Good cx P) : Good cx P.off := ⟨G.g, G.b, G.nolim, G.glob, G.bi, G.isi, G.ty, G.zip, G.enum, G.ve, G.cls⟩
theorem Le.out (x : Le (cx.on (L :: l) d) p w w') (h : L ∉ w.π) : Le (cx.on l d') p w w' :=
  ⟨x.toLv, x.pv, fun b o hb hp e => let ⟨sl, q, z⟩ := x.kp b o hb hp e; ⟨sl, q, z.imp (fun y => ⟨(List.mem_cons.mp y.1).resolve_left fun (e : b = L) => h (e ▸ hb), y.2⟩) id⟩⟩
theorem XR.out {n : Addr → Prop} {x : Str} {e : Value} (X : XR (cx.on (L :: l) d) n w x e) : XR (cx.on l d') n w x e :=
  let ⟨h1, a, o, vs, h2, h3⟩ := X; ⟨fun b hb => h1 b (List.mem_cons_of_mem _ hb), a, o, vs, ⟨h2.ref, h2.pv, h2.new, h2.at', h2.data, h2.cls, h2.zero, h2.two⟩, h3⟩
end
structure FnOK (cx : Cx) (f : Str) (fn : Fn) : Prop where
  nd : (f == ("__debug__" : Str)) = false
  chk : fnChk fn = true
  obj : ∃ fa o pm cd doc params, cx.mg f = some (.ref fa) ∧ cx.h₀.get? fa = some o ∧ o.data = .func (Calls.docDef f params fn.body fn.scope pm cd doc) ∧ cx.h₀.CodeRec cd f ∧
    (∀ vs : List Value, vs.length = fn.params.length → bindArgs (Calls.docDef f params fn.body fn.scope pm cd doc) ⟨vs, []⟩ = pure (fn.params.zip vs))

theorem cellsFrom_acc {x : Str} : ∀ (names : List (Str × NameKind)) (n : Nat) (acc : List (Str × Addr)), (acc.lookup x).isSome = true → ((cellsFrom n names acc).lookup x).isSome = true
  | [], _, _, h => h
  | (y, k) :: r, n, acc, h => by
    unfold cellsFrom
    split
    · refine cellsFrom_acc r (n + 1) _ ?_
      rw [List.lookup_cons]
      cases hb : x == y with
      | true => rfl
      | false => exact h
    · exact cellsFrom_acc r n acc h
theorem cellsFrom_has {x : Str} : ∀ (names : List (Str × NameKind)) (n : Nat) (acc : List (Str × Addr)), names.lookup x = some .cell → ((cellsFrom n names acc).lookup x).isSome = true
  | [], _, _, h => by cases h
  | (y, k) :: r, n, acc, h => by
    rw [List.lookup_cons] at h
    unfold cellsFrom
    cases hb : x == y with
    | true =>
      rw [hb] at h
      cases h
      simp only [beq_self_eq_true, if_true]
      exact cellsFrom_acc r (n + 1) _ (by rw [List.lookup_cons, hb]; rfl)
    | false =>
      rw [hb] at h
      split
      · exact cellsFrom_has r (n + 1) _ h
      · exact cellsFrom_has r n acc h

theorem bindL_other {kd : Str → Option NameKind} {x : Str} : ∀ (b : List (Str × Value)) (m : Str → Option Value), x ∉ b.map (·.1) → bindL kd b m x = m x
  | [], _, _ => rfl
  | (y, v) :: r, m, h => by
    have h1 : x ≠ y := fun q => h (by rw [q]; exact List.mem_cons_self)
    have h2 : x ∉ r.map (·.1) := fun q => h (List.mem_cons_of_mem _ q)
    unfold bindL
    rw [bindL_other r _ h2]
    split
    · simp [h1]
    · rfl
theorem bindL_get {kd : Str → Option NameKind} {x : Str} {v : Value} (hk : kd x = some .local) : ∀ (b : List (Str × Value)) (m : Str → Option Value), (b.map (·.1)).Nodup → (x, v) ∈ b → bindL kd b m x = some v
  | [], _, _, h => by cases h
  | (y, w) :: r, m, hn, h => by
    rw [List.map_cons, List.nodup_cons] at hn
    unfold bindL
    rcases List.mem_cons.mp h with q | q
    · cases q
      rw [bindL_other r _ hn.1, if_pos hk]; simp
    · exact bindL_get hk r _ hn.2 q
theorem bindC_other {kd : Str → Option NameKind} {x : Str} : ∀ (b : List (Str × Value)) (m : Str → Option Value), x ∉ b.map (·.1) → bindC kd b m x = m x
  | [], _, _ => rfl
  | (y, v) :: r, m, h => by
    have h1 : x ≠ y := fun q => h (by rw [q]; exact List.mem_cons_self)
    have h2 : x ∉ r.map (·.1) := fun q => h (List.mem_cons_of_mem _ q)
    unfold bindC
    rw [bindC_other r _ h2]
    split
    · rfl
    · simp [h1]
theorem bindC_get {kd : Str → Option NameKind} {x : Str} {v : Value} (hk : ¬ kd x = some .local) : ∀ (b : List (Str × Value)) (m : Str → Option Value), (b.map (·.1)).Nodup → (x, v) ∈ b → bindC kd b m x = some v
  | [], _, _, h => by cases h
  | (y, w) :: r, m, hn, h => by
    rw [List.map_cons, List.nodup_cons] at hn
    unfold bindC
    rcases List.mem_cons.mp h with q | q
    · cases q
      rw [bindC_other r _ hn.1, if_neg hk]; simp
    · exact bindC_get hk r _ hn.2 q

theorem zip_fst' {xs : List Str} {ys : List Value} (h : xs.length = ys.length) : (xs.zip ys).map (·.1) = xs := List.map_fst_zip (Nat.le_of_eq h)
section
variable {cx : Cx} {A : Around} {w : Wl} {H : AHeap} {P : Pg}
/-- the names that hold arguments -/
theorem args_at {fn : Fn} {as : List AV} {vs : List Value} {x : Str} {i : Nat} {a : AV} (ht : fn.names.take fn.params.length = fn.params) (hl : as.length = fn.params.length) (r : VRs cx w as vs) (h1 : fn.names.idxOf? x = some i)
    (h2 : (as.map some ++ List.replicate (fn.names.length - as.length) none : Loc)[i]? = some (some a)) : ∃ v, (x, v) ∈ fn.params.zip vs ∧ VR cx w a v := by
  obtain ⟨q1, q2⟩ := idx_get h1
  have hi : i < as.length := by
    rcases Nat.lt_or_ge i as.length with q | q
    · exact q
    · rw [List.getElem?_append_right (by rw [List.length_map]; exact q), List.getElem?_replicate] at h2
      split at h2 <;> cases h2
  rw [List.getElem?_append_left (by rw [List.length_map]; exact hi), List.getElem?_map, Option.map_eq_some_iff] at h2
  obtain ⟨b, ha, e⟩ := h2
  cases e
  obtain ⟨v, hv, rv⟩ := r.get ha
  have hpx : fn.params[i]? = some x := by
    rw [← ht, List.getElem?_take, if_pos (hl ▸ hi), List.getElem?_eq_getElem q1, q2]
  exact ⟨v, List.mem_of_getElem? (List.getElem?_zip_eq_some.mpr ⟨hpx, hv⟩), rv⟩
structure FnC (fn : Fn) : Prop where
  kind : fn.scope.kind = .function
  co : fn.scope.isCoroutine = false
  gen : fn.scope.isGenerator = false
  names : ∀ y k, (y, k) ∈ fn.scope.names → (k = .local ∨ k = .cell) ∨ k = .globalImplicit
  nd : fn.params.Nodup
  take : fn.names.take fn.params.length = fn.params
  ps : ∀ x, x ∈ fn.params → fn.scope.names.lookup x = some .local ∨ fn.scope.names.lookup x = some .cell
theorem fnC {fn : Fn} (h : fnChk fn = true) : FnC fn := by
  unfold fnChk at h
  rw [Bool.and_eq_true, Bool.and_eq_true, Bool.and_eq_true, Bool.and_eq_true, Bool.and_eq_true, Bool.and_eq_true, List.all_eq_true, List.all_eq_true, Bool.not_eq_true', Bool.not_eq_true', beq_iff_eq, beq_iff_eq, decide_eq_true_iff] at h
  obtain ⟨⟨⟨⟨⟨⟨k1, k2⟩, k3⟩, k4⟩, k5⟩, k6⟩, k7⟩ := h
  refine ⟨k1, k2, k3, fun y k hy => ?_, k5, k6, fun x hx => ?_⟩
  · have := k4 (y, k) hy
    rw [Bool.or_eq_true, Bool.or_eq_true, beq_iff_eq, beq_iff_eq, beq_iff_eq] at this
    exact this
  · have := k7 x hx
    rw [Bool.or_eq_true, beq_iff_eq, beq_iff_eq] at this
    exact this
/-- a call's own objects -/
noncomputable def ownL (env : Env) : List Addr := env.locals :: env.cells.filterMap fun z => env.cells.lookup z.1
theorem mem_ownL {env : Env} {b : Addr} : b ∈ ownL env ↔ Own env b := by
  unfold ownL
  rw [List.mem_cons, List.mem_filterMap]
  exact or_congr_right ⟨fun ⟨z, _, e⟩ => ⟨z.1, e⟩, fun ⟨n, e⟩ => ⟨(n, b), mem_of_lookup e, e⟩⟩
/-- a call's frame, ahead of its body -/
theorem frame_in {fn : Fn} {f : Str} {fa : Addr} {cd : Value} {as : List AV} {vs : List Value} {h₁ : Heap} {tk : Nat} (K : FnC fn) (hlen : as.length = fn.params.length) (r : VRs cx w as vs) (S : St cx w H) (fs : ∀ b, b ∈ cx.fr → FrAt w b) (hw : HdW cx w) {outer : List Env} (hfr : A.frames = some outer) (FA : FrA cx outer)
    (Fr : Fr w.s.heap w.s.heap.objs.size h₁ (bindL (envOfC f fn.scope w.s.heap.objs.size fa cd).kindOf (fn.params.zip vs) fun _ => none))
    (Cl : Cl w.s.heap.objs.size (cellsFrom (w.s.heap.objs.size + 1) fn.scope.names []) h₁ (bindC (envOfC f fn.scope w.s.heap.objs.size fa cd).kindOf (fn.params.zip vs) fun _ => none)) :
    FrS (cx.on (w.s.heap.objs.size :: cx.fr) cx.hd) (A.deeper (envOfC f fn.scope w.s.heap.objs.size fa cd)) (envOfC f fn.scope w.s.heap.objs.size fa cd) fn.scope ∧ (∀ b, Own (envOfC f fn.scope w.s.heap.objs.size fa cd) b → b ∉ w.π) ∧ ∃ w', w'.s = { w.s with heap := h₁, toks := tk } ∧ Le (cx.on (w.s.heap.objs.size :: cx.fr) cx.hd) No w w' ∧ St (cx.on (w.s.heap.objs.size :: cx.fr) cx.hd) w' H ∧
      EnvR (cx.on (w.s.heap.objs.size :: cx.fr) cx.hd) (envOfC f fn.scope w.s.heap.objs.size fa cd) fn.scope fn.names (as.map some ++ List.replicate (fn.names.length - as.length) none) w' := by
  have hzf : (fn.params.zip vs).map (·.1) = fn.params := zip_fst' (by rw [← r.length, hlen])
  generalize henv : envOfC f fn.scope w.s.heap.objs.size fa cd = env at Fr Cl ⊢
  have hloc : env.locals = w.s.heap.objs.size := by rw [← henv]; rfl
  have hcs : env.cells = cellsFrom (w.s.heap.objs.size + 1) fn.scope.names [] := by rw [← henv]; rfl
  have hscp : env.scope = fn.scope := by rw [← henv]; rfl
  have hkd : ∀ y, env.kindOf y = fn.scope.names.lookup y := fun y => by rw [← henv]; rfl
  rw [← hcs] at Cl
  rw [← hloc] at Fr Cl
  have new : ∀ b, Own env b → w.s.heap.get? b = none := fun b h => Heap.get?_none_of_le (hloc ▸ h.elim (fun e => Nat.le_of_eq e.symm) fun ⟨n, e⟩ => Nat.le_of_lt (Cl.above n b (mem_of_lookup e)))
  obtain ⟨l, S'⟩ := (S.on (l := w.s.heap.objs.size :: cx.fr) (d := cx.hd)).hides (ownL env) (t := tk) Fr.keep (fun d h => new d (mem_ownL.mp h)) fun d h => (mem_ownL.mp h).elim (fun e => let ⟨o, _, _, q, _⟩ := Fr.ns; ⟨o, e ▸ q⟩) fun ⟨n, e⟩ => let ⟨o, q, _⟩ := Cl.cell n d e; ⟨o, q⟩
  have pv : ∀ {b}, Own env b → b ∈ ownL env ++ w.π := fun h => List.mem_append_left _ (mem_ownL.mpr h)
  have nofree : ∀ x, isLocal fn.scope x = true → fn.scope.names.lookup x = some .local ∨ fn.scope.names.lookup x = some .cell := fun x hx => by
    unfold isLocal at hx
    cases hl : fn.scope.names.lookup x with
    | none => rw [hl] at hx; cases hx
    | some k =>
      rcases K.names _ _ (lookup_mem hl) with (q | q) | q
      · subst q; exact .inl rfl
      · subst q; exact .inr rfl
      · subst q; rw [hl] at hx; cases hx
  have cell : ∀ {x}, fn.scope.names.lookup x = some .cell → ∃ c, env.cells.lookup x = some c := fun hx => by
    rw [hcs]; exact Option.isSome_iff_exists.mp (cellsFrom_has fn.scope.names (w.s.heap.objs.size + 1) [] hx)
  refine ⟨⟨hscp, fun n c hc e => Nat.lt_irrefl _ (e ▸ Cl.above n c (mem_of_lookup hc)), fun n n' c a1 a2 => name_of_addr Cl.apart (mem_of_lookup a1) (mem_of_lookup a2), nofree, fun n c hc z => ?_, ⟨outer, by show A.frames.map (env :: ·) = _; rw [hfr]; rfl, fun e he => ?_, fun e he => ?_⟩⟩, fun b h => S.none (new b h), _, rfl, l, S',
    ⟨⟨by rw [hscp]; exact K.kind, by rw [← henv]; rfl, by rw [← henv]; rfl, fun x hx => (nofree x hx).imp (fun q => (hkd x).trans q) fun q => .inl ((hkd x).trans q), fun x hx => (hkd x).trans hx, fun x hx => ?_⟩, pv (.inl rfl), ⟨_, Fr.ns, fun x i a h1 h2 h3 => ?_⟩, fun x i a h1 h2 h3 => ?_, fun x h1 h2 => ?_, fun n c h => pv (.inr ⟨n, h⟩), fun b hb => ?_, hw.lv l.toLv⟩⟩
  · rcases List.mem_cons.mp z with e | e
    · exact Nat.lt_irrefl _ (hloc ▸ e ▸ Cl.above n c (mem_of_lookup hc))
    · obtain ⟨_, o, _, _, q, _⟩ := fs c e
      rw [new c (.inr ⟨n, hc⟩)] at q; cases q
  · rcases List.mem_cons.mp he with q | q
    · subst q; exact ⟨_, by rw [← henv]; rfl, List.mem_cons_self⟩
    · obtain ⟨a, z1, z2⟩ := FA.adr e q
      exact ⟨a, z1, List.mem_cons_of_mem _ z2⟩
  · rcases List.mem_cons.mp he with q | q
    · subst q; rw [hscp, K.kind]; decide
    · exact FA.kind e q
  · rw [hkd]
    unfold isGlob at hx
    split at hx
    · assumption
    · cases hx
  · obtain ⟨v, m1, m2⟩ := args_at K.take hlen r h1 h2
    exact ⟨v, bindL_get h3 _ _ (by rw [hzf]; exact K.nd) m1, (m2.on).mono l⟩
  · obtain ⟨v, m1, m2⟩ := args_at K.take hlen r h1 h2
    have hnl : ¬ env.kindOf x = some .local := fun q => by rcases h3 with h3 | h3 <;> rw [q] at h3 <;> cases h3
    have hc : fn.scope.names.lookup x = some .cell := by
      rw [hkd] at h3
      rcases h3 with h3 | h3
      · exact h3
      · rcases K.names _ _ (lookup_mem h3) with (q | q) | q <;> cases q
    obtain ⟨c, hc'⟩ := cell hc
    have hcell := Cl.cell x c hc'
    rw [bindC_get hnl _ _ (by rw [hzf]; exact K.nd) m1] at hcell
    exact ⟨c, v, hc', pv (.inr ⟨x, hc'⟩), hcell, (m2.on).mono l⟩
  · obtain ⟨c, hc'⟩ := cell h2
    exact ⟨c, _, hc', pv (.inr ⟨x, hc'⟩), Cl.cell x c hc'⟩
  · rcases List.mem_cons.mp hb with e | e
    · rw [e, ← hloc]; exact FrAt.ns (pv (.inl rfl)) Fr.ns
    · exact (fs b e).le l id
/-- a def's answer -/
def flv : Flow → Value
  | .ret v => v
  | _ => .none
def RB (cx : Cx) (w : Wl) (a : AV) (f : Flow) : Prop := VR cx w a (flv f)
section
variable {env : Env} {sc : Scope} {ns : List Str} {σ : Loc} {cf ch : Str → List AV → M AV} {p : Addr → Prop}
theorem tryOf_of {body : List Stmt} {t : TryF} (h : tryOf body = some t) : body = t.st := by
  cases body with
  | nil => cases h
  | cons s rest =>
    have h : tryS rest s = some t := h
    cases s with
    | Try b hs o f p =>
      match hs, o, f, h with
      | [.ExceptHandler ty nm hb hp], [], [], h =>
        have h : tryH b rest p (.ExceptHandler ty nm hb hp) = some t := h
        cases ty with
        | none => cases h
        | some e =>
          cases hx : nameOf1 e with
          | none => simp [tryH, hx] at h
          | some x =>
            cases nm with
            | none => simp [tryH, hx] at h
            | some n =>
              cases hb with
              | nil => simp [tryH, hx] at h
              | cons h0 hs =>
                simp [tryH, hx] at h
                subst h
                rw [nameOf1_of hx]
                rfl
      | [], _, _, h => cases h
      | _ :: _ :: _, _, _, h => cases h
      | [_], _ :: _, _, h => cases h
      | [_], [], _ :: _, h => cases h
    | _ => cases h
/-- the handler's name goes, a cell's -/
theorem nameGoesC {M : Model} {s : Shared} {n : Str} {pos : Pos} {c : Addr} {v : Option Value} {Q : Unit → Shared → Prop} {E : Value → Shared → Prop} (hk : env.scope.kind = .function) (hl : env.kindOf n = some .cell) (hc : env.cells.lookup n = some c) (hv : s.heap.IsCell c v)
    (h : ∀ h', h'.IsCell c none → Heap.SameBut c s.heap h' → Q () { s with heap := h' }) : wpAny M A (do bindName env n .none; unbindBehindTheSuite env n pos) Q E s := by
  refine wpAny_bind (wpAny_bindName (wpAny_storeName_cell hk hl hc hv fun h₁ hc₁ hs₁ => ?_))
  unfold unbindBehindTheSuite
  refine wpAny_onRaise ?_
  unfold unbindName
  refine wpAny_bind (wpAny_point (wpAny_bind ?_))
  unfold deleteName
  simp only [hl]
  refine wpAny_bind (wpAny_cellOf hc (wpAny_bind (wpAny_cellGet hc₁ ?_)))
  rw [if_pos (show (some Value.none).isSome = true from rfl)]
  exact wpAny_cellSet hc₁ fun h₂ hc₂ hs₂ => wpAny_point (h h₂ hc₂ (hs₁.trans hs₂))
theorem EnvR.handled {a : Addr} (I : EnvR cx env sc ns σ w) (h : HdAt w a) : EnvR (cx.on cx.fr (some a)) env sc ns σ w :=
  ⟨I.k, I.pl, let ⟨m, h1, h2⟩ := I.nsm; ⟨m, h1, fun y i b q1 q2 q3 => let ⟨v, r1, r2⟩ := h2 y i b q1 q2 q3; ⟨v, r1, r2.on⟩⟩, fun y i b q1 q2 q3 => let ⟨c, v, r1, r2, r3, r4⟩ := I.cel y i b q1 q2 q3; ⟨c, v, r1, r2, r3, r4.on⟩, I.has, I.cls, I.fr, fun b e => by cases e; exact h⟩
theorem Le.free {d : Option Addr} {w w' : Wl} (x : Le (cx.on cx.fr d) p w w') : Le cx p w w' := ⟨x.toLv, x.pv, x.kp⟩
/-- behind a block that binds no name -/
def RT (cx : Cx) (env : Env) (sc : Scope) (ns : List Str) (σ : Loc) (w : Wl) (_ : Unit) (f : Flow) : Prop := f = .next ∧ EnvR cx env sc ns σ w
theorem next0 {st : Stmt} {rest : List Stmt} {m0 m : M Unit} (x : Rf cx A No w (RT cx env sc ns σ) m0 (exec st env)) (y : ∀ w', EnvR cx env sc ns σ w' → Rf cx A No w' (RT cx env sc ns σ) m (execs rest env)) :
    Rf cx A No w (RT cx env sc ns σ) (m0 >>= fun _ => m) (execs (st :: rest) env) := by
  rw [arm_execs_cons]
  exact .bind x fun w1 _ f l r => r.1 ▸ y w1 r.2
theorem tBody_rf (R : Room A) (hev : EvOK cx A env (EnvR cx env sc ns σ) (den P cf EFUEL sc ns σ)) : ∀ (n : Nat) (b : List Stmt) (w : Wl), EnvR cx env sc ns σ w → Rf cx A No w (RT cx env sc ns σ) (tBody (den P cf EFUEL sc ns σ) n b) (execs b env)
  | n, [], w, I => by
    have : tBody (den P cf EFUEL sc ns σ) n [] = pure () := by cases n <;> rfl
    rw [this]
    exact .leaf fun H S => wpAny_execs_nil (.here S ⟨rfl, I⟩)
  | 0, _ :: _, w, I => .stuck
  | n + 1, s :: rest, w, I => by
    have ih := tBody_rf R hev n
    cases s with
    | Expr e p =>
      refine ite_rf (fun hn => ?_) fun _ => .stuck
      have := next0 (m0 := do let _ ← den P cf EFUEL sc ns σ e; pure ()) (m := tBody (den P cf EFUEL sc ns σ) n rest) (expr0_rf (pos := p) (R0 := RT cx env sc ns σ) (fun w' h => ⟨rfl, h⟩) hev hn I) fun w' I' => ih rest w' I'
      simp only [bind_assoc, pure_bind] at this
      exact this
    | If t b o p =>
      have : Rf cx A No w (RT cx env sc ns σ) (do let c ← denT (den P cf EFUEL sc ns σ) n t; match c with | true => tBody (den P cf EFUEL sc ns σ) n b | false => tBody (den P cf EFUEL sc ns σ) n o) (exec (.If t b o p) env) := by
        rw [arm_exec_If]
        refine .standAt (.bind ((denT_rf R EnvR.stable hev n t w I).mono (R' := fun w' a b => EnvR cx env sc ns σ w' ∧ a = b) fun w' a b l r => ⟨EnvR.stable _ _ I l, r⟩) fun w1 c c' l r => ?_)
        rw [← r.2]
        cases c with
        | true => exact ih b w1 r.1
        | false => exact ih o w1 r.1
      have := next0 (m := tBody (den P cf EFUEL sc ns σ) n rest) this fun w' I' => ih rest w' I'
      rw [bind_assoc] at this
      refine (congrArg (fun f => Rf cx A No w (RT cx env sc ns σ) (denT (den P cf EFUEL sc ns σ) n t >>= f) (execs (.If t b o p :: rest) env)) (funext fun c => ?_)).mp this
      cases c <;> rfl
    | _ => exact .stuck
variable (hk : HdA cx A) (hh : P.free = true → A.handled = none) (R : Room A) (Z : P.free = true → ZipOK cx A) (G : Good cx P) (C : CallOK cx A P cf) (Co : ∀ a, CallOK (cx.on cx.fr (some a)) (A.mark (some (.ref a))) P.off ch) (F : FrS cx A env sc)
include hk hh R Z G C F
theorem rest_rf {body : List Stmt} (I : EnvR cx env sc ns σ w) : Rf cx A (Own env) w (RB cx) (do let r ← denB P cf sc ns EFUEL body σ; resV r) (execs body env) := by
  refine Rf.seqw (k := fun b => pure b) (denB_rf hk hh R Z G C F EFUEL body σ w I) (fun w' r f l hr => ?_) fun h => by have := wpAny_bind h; rwa [bind_pure] at this
  cases r with
  | next σ' => exact .pure (by rw [hr.1]; exact .none)
  | ret a => obtain ⟨v, e, rv, _⟩ := hr; subst e; exact .pure rv
omit hk R Z C in
include Co in
theorem hand_wp {t : TryF} {x : Str} {e : Value} {w₀ : Wl} {r : Except Str AV} {H H' : AHeap} {Q : Flow → Shared → Prop} {E : Value → Shared → Prop} (R : Room A) (I₀ : EnvR cx env sc ns σ w₀) (Y : FlyT cx No w₀ H x e w) (h : tryHand P ch sc ns t σ x H = some (r, H'))
    (k : ∀ v s', Post cx (Own env) w₀ (RB cx) r H' (.ret v) s' → Q (.ret v) s') : wpAny (model cx.prog cx.w) A (handleBy e env [.ExceptHandler (some (.Name t.ty t.tp)) (some t.nm) (t.h0 :: t.hs) t.hp]) Q E w.s := by
  unfold tryHand at h
  refine bind_inv h (fun cs H1 h1 h2 => ?_) fun y h1 _ => by obtain ⟨_, c, e2, _⟩ := Rd.opt (cx := cx) _ Y.S _ _ h1; cases e2
  obtain ⟨e1, c, e2, hcx⟩ := Rd.opt (cx := cx) H Y.S _ _ h1
  cases e2; subst e1
  refine bind_inv h2 (fun ds H2 g1 g2 => ?_) fun y g1 _ => by obtain ⟨_, c, e2, _⟩ := Rd.opt (cx := cx) _ Y.S _ _ g1; cases e2
  obtain ⟨e1, c, e2, hct⟩ := Rd.opt (cx := cx) _ Y.S _ _ g1
  cases e2; subst e1
  clear h h2
  split at g2
  case isFalse => cases g2
  rename_i hc
  rw [Bool.and_eq_true, Bool.and_eq_true] at hc
  obtain ⟨⟨hm, hg⟩, hl⟩ := hc
  rw [Bool.or_eq_true, decide_eq_true_iff, decide_eq_true_iff] at hl
  obtain ⟨hd1, Cx, vx, mgx, Xx, rel⟩ := G.cls x cs hcx
  obtain ⟨hd2, Ct, vt, mgt, Xt, _⟩ := G.cls t.ty ds hct
  obtain ⟨fs, a, o, vs, XA', XT'⟩ := id Y.X
  obtain ⟨C', c1, c2⟩ := XA'.cls
  rw [mgx] at c2; cases c2
  have hr := XA'.ref
  subst hr
  have kp : ∀ b o, cx.h₀.get? b = some o → w.s.heap.get? b = some o := fun b o e => (Y.S.base b o e).1
  have I := I₀.mono Y.le fun _ _ z => z
  have hb := (rel t.ty ds Ct hct mgt).trans hm
  refine wpAny_handleBy_cons (codeAny_handlers_test (load_glob G Y.S I.k hg hd2 mgt (matches_exc (Xx.keeps kp) (Xt.keeps kp) XA'.at' c1 hb ?_))) (by intro q; cases q)
  refine codeAny_handlers_suite_as (flight_wp Y fun w1 Y1 => ?_)
  obtain ⟨fs1, a1, o1, vs1, XB, _⟩ := id Y1.X
  have hr := XB.ref
  cases hr
  obtain ⟨C', c1', c2'⟩ := XB.cls
  obtain ⟨l2, S2⟩ := Y1.S.drop (t := w1.s.toks) XB.pv fun _ _ _ e => e
  have na : a ∉ w₀.π := XB.new.1
  have I2 := (I₀.mono Y1.le fun _ _ z => z).mono l2 fun b hb e => na (e ▸ I₀.ownF hb)
  have rv : VR cx ⟨w1.ι, outP w1.π a, { w1.s with heap := w1.s.heap, toks := w1.s.toks }⟩ (.exc x) (.ref a) := ⟨a, o1, C', rfl, XB.at', ⟨fun z => Y1.S.dj _ z XB.pv, fun z => (mem_outP.mp z).2 rfl⟩, c1', c2'⟩
  have F' : FrS (cx.on cx.fr (some a)) (A.mark (some (.ref a))) env sc := ⟨F.scp, F.ll, F.inj, F.nofree, F.nfr, let ⟨outer, h1, h2⟩ := F.fr; ⟨outer, h1, h2.adr, h2.kind⟩⟩
  have hfz : Fz ⟨w1.ι, outP w1.π a, { w1.s with heap := w1.s.heap, toks := w1.s.toks }⟩ a := ⟨fun z => Y1.S.dj _ z XB.pv, fun z => (mem_outP.mp z).2 rfl⟩
  have I2 := I2.handled (a := a) ⟨hfz, o1, vs1, XB.at', XB.data, XB.two⟩
  have rv := rv.on (l := cx.fr) (d := some a)
  have S2 := S2.on (l := cx.fr) (d := some a)
  have hloc : isLocal sc t.nm = true := by unfold isLocal; rcases hl with hl | hl <;> rw [hl]
  refine bind_inv g2 (fun σ3 H3 k1 k2 => ?_) fun y k1 _ => by obtain ⟨σ', q⟩ := setN_ok k1; cases q
  refine wpAny_mono (storeN_rf (cx := cx.on cx.fr (some a)) (A := A.mark (some (.ref a))) F' hloc I2 rv _ S2 _ _ k1) (fun _ s3 ⟨ι3, π3, σ', e3, l3, S3, I3⟩ => ?_) fun _ _ ⟨_, _, _, e, _⟩ => nomatch e
  cases e3
  · refine bind_inv k2 (fun r4 H4 h4 h5 => ?_) fun x h4 _ => by obtain ⟨a, e, _⟩ := noX_ok h4; cases e
    obtain ⟨r4', e4, h4⟩ := noX_ok h4
    cases e4
    refine wpAny_mono (denB_rf (cx := cx.on cx.fr (some a)) (P := P.off) (A := A.mark (some (.ref a))) rfl (fun z => nomatch z) R (fun z => nomatch z) G.off.on (Co _) F' EFUEL _ _ ⟨ι3, π3, s3⟩ I3 H3 S3 _ _ h4) (fun f s4 ⟨ι4, π4, r5, e5, l4, S4, hr⟩ => ?_) fun _ _ ⟨_, _, _, e, _⟩ => nomatch e
    cases e5
    cases r4 with
    | next _ => cases h5
    | ret v =>
      obtain ⟨rfl, rfl⟩ := pure_some h5
      obtain ⟨u, e6, ru, hO, ⟨m, hN⟩, hHas⟩ := hr
      subst e6
      have fin : ∀ {d : Addr} {h' : Heap} {tk : Nat}, Own env d → Heap.SameBut d s4.heap h' → (∃ o, h'.get? d = some o) → Q (.ret u) { s4 with heap := h', toks := tk } := fun {d h' tk} hd hs' hx => by
        obtain ⟨l5, S5⟩ := S4.priv (t := tk) (hO _ hd) hs'.extBut hx
        refine k u _ ⟨_, _, v, rfl, ?_, St.on (cx := cx.on cx.fr (some a)) (l := cx.fr) (d := cx.hd) S5, VR.on (cx := cx.on cx.fr (some a)) (l := cx.fr) (d := cx.hd) (ru.mono l5)⟩
        have q1 : Le cx (fun b => Own env b ∨ b = a) w₀ _ := Y1.le.no.trans ((l2.weak fun b _ h => .inr h).trans ((l3.free.weak fun b _ h => .inl h).trans ((l4.free.weak fun b _ h => .inl h).trans (l5.free.weak fun b _ h => .inl (h ▸ hd)))))
        exact q1.weak fun b hb h => h.elim id fun e => (na (e ▸ hb)).elim
      rcases hl with hl | hl
      · have hk : env.kindOf t.nm = some .local := by show env.scope.names.lookup t.nm = _; rw [F.scp]; exact hl
        exact wpAny_nameGoes (s := s4) hk hN (by rw [I.k.kind]; rfl) fun h' m' hN' hs' => fin (.inl rfl) hs' (let ⟨o, _, _, e, _⟩ := hN'; ⟨o, e⟩)
      · have hk : env.kindOf t.nm = some .cell := by show env.scope.names.lookup t.nm = _; rw [F.scp]; exact hl
        have hin : ns.contains t.nm = true := by
          unfold setN at k1
          cases hi : ns.idxOf? t.nm with
          | none => rw [hi] at k1; cases k1
          | some i => obtain ⟨qi, ei⟩ := idx_get hi; exact List.contains_iff_mem.mpr (ei ▸ List.getElem_mem qi)
        obtain ⟨c, v0, hc, hcp, hcv⟩ := hHas _ hin hl
        exact nameGoesC I.k.kind hk hc hcv fun h' hc' hs' => fin (tk := s4.toks) (.inr ⟨_, hc⟩) hs' (let ⟨o, e, _⟩ := hc'; ⟨o, e⟩)
include Co in
theorem body_rf {body : List Stmt} (I : EnvR cx env sc ns σ w) : Rf cx A (Own env) w (RB cx) (bodyRun P cf ch sc ns body σ) (execs body env) := by
  unfold bodyRun
  cases hb : tryOf body with
  | none => exact rest_rf hk hh R Z G C F I
  | some t =>
    rw [tryOf_of hb]
    intro H S r H' h
    have h : tryRun P cf ch sc ns t σ H = some (r, H') := h
    have tb := tBody_rf R (den_rf hk hh R Z G C EFUEL env sc ns σ) EFUEL t.body w I H S
    unfold tryRun at h
    unfold TryF.st
    rw [arm_execs_cons]
    refine wpAny_bind (wpAny_Try_except ?_)
    cases ht : tBody (den P cf EFUEL sc ns σ) EFUEL t.body H with
    | none => rw [ht] at h; cases h
    | some q =>
      obtain ⟨r1, H1⟩ := q
      rw [ht] at h
      cases r1 with
      | ok u =>
        refine wpAny_mono (tb _ _ ht) (fun f s1 ⟨ι, π, _, _, l, S1, hf, I1⟩ => ?_) fun _ _ ⟨_, _, _, e, _⟩ => nomatch e
        subst hf
        refine wpAny_execs_nil ?_
        exact wpAny_mono (rest_rf hk hh R Z G C F I1 H1 S1 r H' h) (fun _ _ z => z.le l.no) fun _ _ z => z.le l.no
      | error x =>
        obtain ⟨outer, hfr, FA⟩ := F.fr
        refine wpAny_mono (tb _ _ ht) (fun f s1 ⟨_, _, _, e, _⟩ => nomatch e) fun e s1 ⟨ι, π, x', er, l, S1, X1, O1⟩ => ?_
        cases er
        exact note_wp (w := ⟨ι, π, s1⟩) hfr FA ⟨l, S1, X1, O1⟩ fun w2 Y2 => flight_wp Y2 fun w3 Y3 => hand_wp hh G Co F R I Y3 h fun v s' z => wpAny_pure z
end
theorem callN_rf {cx : Cx} (hZ : ∀ (l : List Addr) (d : Option Addr) (A : Around), A.handled = none → ZipOK (cx.on l d) A) : ∀ (n : Nat) (P : Pg) (A : Around) (l : List Addr) (d : Option Addr) (outer : List Env), A.handled = d.map Value.ref → (∀ f fn, P.fn f = some fn → FnOK cx f fn) → Good cx P → (P.free = true → A.handled = none) → A.frames = some outer → FrA (cx.on l d) outer →
    A.units + 3 * n + 100 < cLine → A.depth + n < recursionLimit → CallOK (cx.on l d) A P (cN n P)
  | n, P, A, l, d, outer, hk, hP, G, hh, hfr, FA, hu, hd => fun f hf => by
    obtain ⟨fn, hf⟩ := Option.isSome_iff_exists.mp hf
    obtain ⟨nd, chk, fa, o, pm, cd, doc, params, q1, q2, q3, q4, q5⟩ := hP f fn hf
    refine ⟨nd, fa, o, _, q1, q2, q3, fun w as vs fs hw r => ?_⟩
    cases n with
    | zero => exact .stuck
    | succ n =>
      unfold cN
      rw [hf]
      refine ite_rf (fun hlen => fun H S r' H' h => ?_) fun _ => .stuck
      have K := fnC chk
      have hvl : vs.length = fn.params.length := by rw [← r.length]; exact hlen
      have hzf : (fn.params.zip vs).map (·.1) = fn.params := zip_fst' hvl.symm
      have kp : ∀ b o, cx.h₀.get? b = some o → w.s.heap.get? b = some o := fun b o e => (S.base b o e).1
      refine wpAny_call (call_cells (binds := fn.params.zip vs) (Nat.lt_of_le_of_lt (Nat.le_add_right _ _) hd) (kp _ _ q2) q3 (G.nolim.keeps kp) (q4.keeps kp) (q5 vs hvl) (fun z hz => ?_) (fun h₁ tk Fr Cl => ?_) K.co K.gen K.kind)
      · exact (K.ps z.1 (by rw [← hzf]; exact List.mem_map_of_mem hz)).imp id fun q => ⟨q, cellsFrom_has _ _ _ q⟩
      · obtain ⟨F, hO, w1, e1, l1, S1, I1⟩ := frame_in (cx := cx.on l d) (A := A) (tk := tk) K hlen r S fs hw hfr FA Fr Cl
        rw [← e1]
        obtain ⟨out', hf2, FA2⟩ := F.fr
        have hL : w.s.heap.objs.size ∉ w.π := hO _ (.inl rfl)
        have C' := callN_rf hZ n P (A.deeper (envOfC f fn.scope w.s.heap.objs.size fa cd)) (w.s.heap.objs.size :: l) d _ hk hP G hh hf2 FA2 (by show A.units + 3 + 3 * n + 100 < cLine; omega) (by show A.depth + 1 + n < recursionLimit; omega)
        have Co : ∀ e : Addr, CallOK (cx.on (w.s.heap.objs.size :: l) (some e)) ((A.deeper (envOfC f fn.scope w.s.heap.objs.size fa cd)).mark (some (.ref e))) P.off (cN n P.off) := fun e => callN_rf hZ n P.off ((A.deeper (envOfC f fn.scope w.s.heap.objs.size fa cd)).mark (some (.ref e))) (w.s.heap.objs.size :: l) (some e) _ rfl hP G.off (fun z => nomatch z) hf2 ⟨FA2.adr, FA2.kind⟩ (by show A.units + 3 + 3 * n + 100 < cLine; omega) (by show A.depth + 1 + n < recursionLimit; omega)
        have R' : Room (A.deeper (envOfC f fn.scope w.s.heap.objs.size fa cd)) := by unfold Room; show A.units + 3 + 100 < cLine; omega
        refine wpAny_mono (body_rf (cx := cx.on (w.s.heap.objs.size :: l) d) (A := A.deeper _) hk hh R' (fun z => hZ _ _ _ (hh z)) G.on C' Co F I1 H S1 r' H' h) (fun fl s' ⟨ι, π, a, e, l2, S2, rv⟩ => ?_) fun e s' ⟨ι, π, x, er, l2, S2, X, O⟩ => ?_
        · exact ⟨ι, π, a, e, (((l1.no.trans l2).weak fun b hb h => hO b h hb :) : Le (cx.on (w.s.heap.objs.size :: l) d) No w _).out hL, S2.on (l := l) (d := d), rv.on (l := l) (d := d)⟩
        · exact leave_wp (w := ⟨ι, π, s'⟩) (w₀ := w) (p := No) hf2 FA2 ⟨(l1.no.trans l2).weak fun b hb h => hO b h hb, S2, X.mono fun b z => ⟨fun y => z.1 (l1.pv b y id), id⟩, fun _ z => z.elim⟩ fun w' F' => ⟨w'.ι, w'.π, x, er, F'.le.out hL, F'.S.on (l := l) (d := d), F'.X.xr.out, fun _ z => z.elim⟩
end
theorem lookup_zip {ps : List Str} {vs : List Value} {x : Str} (hl : ps.length ≤ vs.length) (hx : x ∈ ps) : ((ps.zip vs).lookup x).isSome = true := by
  induction ps generalizing vs with
  | nil => cases hx
  | cons p ps ih =>
    cases vs with
    | nil => simp at hl
    | cons v vs =>
      rw [List.zip_cons_cons, List.lookup_cons]
      cases hb : x == p with
      | true => rfl
      | false =>
        rcases List.mem_cons.mp hx with q | q
        · rw [q] at hb; simp at hb
        · exact ih (by simpa using hl) q
theorem fm_congr {α β : Type} {f g : α → Option β} : ∀ {l : List α}, (∀ x ∈ l, f x = g x) → l.filterMap f = l.filterMap g
  | [], _ => rfl
  | x :: r, h => by rw [List.filterMap_cons, List.filterMap_cons, h x List.mem_cons_self, fm_congr fun y hy => h y (List.mem_cons_of_mem _ hy)]
theorem binds_zip {ps : List Str} {vs : List Value} (hl : ps.length = vs.length) (hn : ps.Nodup) : (ps.filterMap fun n => ((ps.zip vs).lookup n).map (n, ·)) = ps.zip vs := by
  induction ps generalizing vs with
  | nil => rfl
  | cons p ps ih =>
    cases vs with
    | nil => simp at hl
    | cons v vs =>
      rw [List.nodup_cons] at hn
      rw [List.zip_cons_cons, List.filterMap_cons]
      simp only [List.lookup_cons, beq_self_eq_true, Option.map_some]
      congr 1
      refine (fm_congr fun n hm => ?_).trans (ih (by simpa using hl) hn.2)
      have hne : (n == p) = false := by
        cases hb : n == p with
        | false => rfl
        | true => exact absurd (beq_iff_eq.mp hb ▸ hm) hn.1
      rw [hne]

theorem bindArgs_plain {name : Str} {params : Arguments} {body : List Stmt} {scope : Scope} {pm cd doc : Value} {ps : List Str} {vs : List Value} (h1 : params.posonlyargs = []) (h2 : params.args.map (·.arg) = ps) (h3 : params.vararg = none) (h4 : params.kwonlyargs = []) (h5 : params.kwarg = none)
    (hn : ps.Nodup) (hl : vs.length = ps.length) : bindArgs (Calls.docDef name params body scope pm cd doc) ⟨vs, []⟩ = pure (ps.zip vs) := by
  unfold bindArgs
  have hm : (List.filter (fun n => ((ps.zip vs).lookup n).isNone) ps).isEmpty = true := by
    rw [List.isEmpty_iff, List.filter_eq_nil_iff]
    intro x hx q
    have := lookup_zip (vs := vs) (by omega) hx
    cases hz : (ps.zip vs).lookup x with
    | none => rw [hz] at this; cases this
    | some v => rw [hz] at q; cases q
  have hs : seqItems? Value.none = pure none := rfl
  simp only [Calls.docDef, h1, h2, h3, h4, h5, List.map_nil, List.nil_append, List.forIn_nil, pure_bind, hs, Option.getD_none, Array.toList_empty, List.length_nil, Nat.zero_sub, List.drop_nil, Nat.sub_zero, List.take_length, List.drop_length, List.zip_nil_left, hl, Nat.lt_irrefl, gt_iff_lt, decide_false, Bool.false_and, Bool.false_eq_true, if_false, hm, Bool.not_true, List.isEmpty_nil, List.append_nil]
  rw [binds_zip (by omega) hn]
end Mine


set_option autoImplicit false
set_option linter.unusedVariables false
set_option maxRecDepth 100000
namespace Mine
open PySem PyProof.Rows

/-- an iterator over a list or a tuple -/
inductive SIt (h : Heap) (it a : Addr) (xs : Array Value) (i : Nat) : Prop
  | list : h.IsListIter it a i → h.IsList a xs → SIt h it a xs i
  | tup : h.IsTupleIter it a i → h.IsTuple a xs → SIt h it a xs i
theorem SIt.keep {h h' : Heap} {it a : Addr} {xs : Array Value} {i : Nat} (x : SIt h it a xs i) (h1 : ∀ o, h.get? it = some o → h'.get? it = some o) (h2 : ∀ o, h.get? a = some o → h'.get? a = some o) : SIt h' it a xs i := by
  cases x with
  | list p q => exact .list (p.at h1) (q.at h2)
  | tup p q =>
    obtain ⟨o, e, r⟩ := p
    obtain ⟨o', e', r'⟩ := q
    exact .tup ⟨o, h1 o e, r⟩ ⟨o', h2 o' e', r'⟩
theorem SIt.lt {h : Heap} {it a : Addr} {xs : Array Value} {i : Nat} (x : SIt h it a xs i) : it < h.objs.size ∧ a < h.objs.size := by
  cases x with
  | list p q => obtain ⟨o, e, _⟩ := p; obtain ⟨o', e', _⟩ := q; exact ⟨Heap.lt_size e, Heap.lt_size e'⟩
  | tup p q => obtain ⟨o, e, _⟩ := p; obtain ⟨o', e', _⟩ := q; exact ⟨Heap.lt_size e, Heap.lt_size e'⟩

section
variable {prog : Program} {w : World} {A : Around} {E : Value → Shared → Prop} {s : Shared}

theorem nextOf_tuple_item {it t : Addr} {i : Nat} {items : Array Value} {x : Value} {Q : Value → Shared → Prop} (hit : s.heap.IsTupleIter it t i) (ht : s.heap.IsTuple t items) (hx : items[i]? = some x)
    (hQ : ∀ h', h'.IsTupleIter it t (i + 1) → Heap.SameBut it s.heap h' → Q x { s with heap := h' }) : wpAny (model prog w) A (Builtin.SmallTypes.nextOf (.ref it)) Q E s := by
  obtain ⟨o, ho, hc, hd⟩ := id hit
  obtain ⟨ol, hol, _, nl, hdl⟩ := ht
  unfold Builtin.SmallTypes.nextOf
  refine wpAny_bind (wpAny_callSpecial?_slot (name := Str.ofString "__next__") hit.typeIs F.slot_tuple_iterator_next (wpAny_call_entry F.slot_tuple_iterator_next hit.typeIs F.entry_tuple_iterator_next ?_ (F.args_tuple_iterator_next_1 _)))
  show wpAny _ _ (field (.ref it) 0 >>= _) _ _ s
  refine wpAny_bind (wpAny_field ho hd (x := .ref t) rfl ?_)
  show wpAny _ _ (if (Value.ref t == Value.none) = true then _ else _) _ _ s
  rw [if_neg (show ¬ ((Value.ref t == Value.none) = true) from Bool.false_ne_true)]
  show wpAny _ _ (field (.ref it) 1 >>= _) _ _ s
  refine wpAny_bind (wpAny_field ho hd (x := .int i 0) rfl ?_)
  show wpAny _ _ (seqItems? (.ref t) >>= _) _ _ s
  refine wpAny_bind (wpAny_seqItems hol hdl ?_)
  simp only [Int.toNat_natCast, hx]
  refine wpAny_bind (wpAny_setField ho hd (by simp) (wpAny_pure ⟨x, rfl, wpAny_pure (hQ _ ?_ (Heap.SameBut.update ..))⟩))
  exact ⟨_, Heap.get?_update_self _ ho (Obj.isFreed_of_fields (Obj.data_mapFields hd _)), (Obj.cls_mapFields ..).trans hc, by rw [Obj.data_mapFields hd]; simp [rawInt]⟩

theorem nextOf_tuple_end {it t : Addr} {i : Nat} {items : Array Value} {Q : Value → Shared → Prop} (hh : A.handled = none) (hit : s.heap.IsTupleIter it t i) (ht : s.heap.IsTuple t items) (hx : items[i]? = none)
    (hE : ∀ h' e, Heap.ExtBut it s.heap h' → (∃ o, h'.get? e = some o ∧ o.cls = .type "StopIteration") → E (.ref e) { s with heap := h' }) : wpAny (model prog w) A (Builtin.SmallTypes.nextOf (.ref it)) Q E s := by
  obtain ⟨o, ho, hc, hd⟩ := id hit
  obtain ⟨ol, hol, _, nl, hdl⟩ := ht
  unfold Builtin.SmallTypes.nextOf
  refine wpAny_bind (wpAny_callSpecial?_slot (name := Str.ofString "__next__") hit.typeIs F.slot_tuple_iterator_next (wpAny_call_entry F.slot_tuple_iterator_next hit.typeIs F.entry_tuple_iterator_next ?_ (F.args_tuple_iterator_next_1 _)))
  show wpAny _ _ (field (.ref it) 0 >>= _) _ _ s
  refine wpAny_bind (wpAny_field ho hd (x := .ref t) rfl ?_)
  show wpAny _ _ (if (Value.ref t == Value.none) = true then _ else _) _ _ s
  rw [if_neg (show ¬ ((Value.ref t == Value.none) = true) from Bool.false_ne_true)]
  show wpAny _ _ (field (.ref it) 1 >>= _) _ _ s
  refine wpAny_bind (wpAny_field ho hd (x := .int i 0) rfl ?_)
  show wpAny _ _ (seqItems? (.ref t) >>= _) _ _ s
  refine wpAny_bind (wpAny_seqItems hol hdl ?_)
  simp only [Int.toNat_natCast, hx]
  refine wpAny_bind (wpAny_rule (wpAny_bind (wpAny_setField ho hd (by simp) ?_)))
  show wpAny _ _ (newExc (.type "StopIteration") [] >>= _) _ _ _
  refine wpAny_bind ?_
  simp only [newExc, newTuple]
  refine wpAny_bind (wpAny_newObj_type ?_ (by size_fits))
  refine wpAny_bind (m := firstArgMember _ _) (wpAny_of_eq (a := Value.none) (by first | rfl | (simp only [firstArgMember]; rfl)) ?_)
  refine wpAny_newObj_type ?_ (by size_fits)
  simp only [raiseNew]
  refine wpAny_bind (wpAny_handled ?_)
  first | rw [show A.in1.handled = none from hh] | rw [hh]
  refine wpAny_bind (wpAny_pure (wpAny_throw ?_))
  exact hE _ _ (((Heap.SameBut.update ..).extBut.push _).push _) ⟨_, Heap.get?_push_size _ rfl, rfl⟩

theorem nextOf_item {it a : Addr} {xs : Array Value} {i : Nat} {x : Value} {Q : Value → Shared → Prop} (hit : SIt s.heap it a xs i) (hne : a ≠ it) (hx : xs[i]? = some x)
    (hQ : ∀ h', SIt h' it a xs (i + 1) → Heap.SameBut it s.heap h' → Q x { s with heap := h' }) : wpAny (model prog w) A (Builtin.SmallTypes.nextOf (.ref it)) Q E s := by
  cases hit with
  | list p q => exact wpAny_nextOf_list_item p q hx fun h' p' hs => hQ h' (.list p' (q.extBut hs.extBut hne)) hs
  | tup p q => exact nextOf_tuple_item p q hx fun h' p' hs => hQ h' (.tup p' (q.extBut hs.extBut hne)) hs
theorem nextOf_end {it a : Addr} {xs : Array Value} {i : Nat} {Q : Value → Shared → Prop} (hh : A.handled = none) (hit : SIt s.heap it a xs i) (hx : xs[i]? = none)
    (hE : ∀ h' e, Heap.ExtBut it s.heap h' → (∃ o, h'.get? e = some o ∧ o.cls = .type "StopIteration") → E (.ref e) { s with heap := h' }) : wpAny (model prog w) A (Builtin.SmallTypes.nextOf (.ref it)) Q E s := by
  cases hit with
  | list p q => exact wpAny_nextOf_list_end hh p q hx hE
  | tup p q => exact nextOf_tuple_end hh p q hx hE

/-- a zip object, with its marks on its own tuple -/
abbrev IsZ (h : Heap) (z TI TO : Addr) (f0 f1 : Value) : Prop :=
  h.get? z = some { cls := .type "zip", dict := none, data := .fields #[f0, f1, .bool false, .ref TI, .ref TO], slots := #[] }
structure ZA (z TI TO i1 i2 a1 a2 : Addr) : Prop where
  TIz : TI ≠ z
  TOz : TO ≠ z
  i1z : i1 ≠ z
  i2z : i2 ≠ z
  TITO : TI ≠ TO
  TIi1 : TI ≠ i1
  TIi2 : TI ≠ i2
  TOi1 : TO ≠ i1
  TOi2 : TO ≠ i2
  i12 : i1 ≠ i2
  a1z : a1 ≠ z
  a1TO : a1 ≠ TO
  a1i1 : a1 ≠ i1
  a1i2 : a1 ≠ i2
  a2z : a2 ≠ z
  a2TO : a2 ≠ TO
  a2i1 : a2 ≠ i1
  a2i2 : a2 ≠ i2
end
end Mine


set_option autoImplicit false
set_option linter.unusedVariables false
set_option maxRecDepth 100000
namespace Mine
open PySem PyProof.Rows
section
variable {prog : Program} {w : World} {A : Around} {E : Value → Shared → Prop} {s : Shared}

theorem wpAny_alive {M : Model} {a : Addr} {Q : Option Obj → Shared → Prop} (h : Q (s.heap.get? a) s) : wpAny M A (loadIfAlive a) Q E s := fun Γ p _ => by
  unfold loadIfAlive
  rw [Sem.wp_loadIfAlive]
  exact (Sem.wp_pure ..).mpr h

/-- zip's next, its own tuple handed out and alive -/
theorem zipB_item {z TI TO i1 i2 a1 a2 T : Addr} {k : Nat} {xs ys : Array Value} {x y f1 : Value} {o : Obj} {Q : Value → Shared → Prop} (D : ZA z TI TO i1 i2 a1 a2)
    (hz : IsZ s.heap z TI TO (rawInt T) f1) (hf : f1 = .bool false ∨ f1 = .bool true) (hT : s.heap.get? T = some o) (hTI : IsPair s.heap TI (.ref i1) (.ref i2))
    (h1 : SIt s.heap i1 a1 xs k) (h2 : SIt s.heap i2 a2 ys k) (hx : xs[k]? = some x) (hy : ys[k]? = some y)
    (hQ : ∀ h', IsZ h' z TI TO (rawInt T) (.bool true) → SIt h' i1 a1 xs (k + 1) → SIt h' i2 a2 ys (k + 1) → IsPair h' s.heap.objs.size x y →
      (∀ c o, c ≠ z → c ≠ i1 → c ≠ i2 → s.heap.get? c = some o → h'.get? c = some o) → Q (.ref s.heap.objs.size) { s with heap := h' }) :
    wpAny (model prog w) A (Builtin.«zip.__next__» ⟨[.ref z], []⟩) (fun fin s' => ∃ v, fin = .done (.ret v) ∧ Q v s') E s := by
  show wpAny _ _ (field (.ref z) 2 >>= _) _ _ _
  refine wpAny_bind (wpAny_field hz rfl (x := .bool false) rfl ?_)
  show wpAny _ _ (field (.ref z) 3 >>= _) _ _ _
  refine wpAny_bind (wpAny_field hz rfl (x := .ref TI) rfl ?_)
  refine wpAny_bind (wpAny_seqItems hTI rfl ?_)
  show wpAny _ _ (Builtin.SmallTypes.ownedTupleIsFree (.ref z) >>= _) _ _ _
  refine wpAny_bind ?_
  have free : ∀ Q' : Bool → Shared → Prop, (∀ h', IsZ h' z TI TO (rawInt T) (.bool true) → Heap.SameBut z s.heap h' → Q' false { s with heap := h' }) → wpAny (model prog w) A (Builtin.SmallTypes.ownedTupleIsFree (.ref z)) Q' E s := by
    intro Q' hq
    unfold Builtin.SmallTypes.ownedTupleIsFree
    refine wpAny_bind (wpAny_field hz rfl (x := rawInt T) rfl ?_)
    show wpAny _ _ (loadIfAlive ((T : Int)).toNat >>= _) _ _ _
    rw [Int.toNat_natCast]
    refine wpAny_bind (wpAny_alive ?_)
    rw [hT]
    show wpAny _ _ (field (.ref z) 1 >>= _) _ _ _
    refine wpAny_bind (wpAny_field hz rfl (x := f1) rfl ?_)
    rcases hf with rfl | rfl
    · show wpAny _ _ (setField (.ref z) 1 (.bool true) >>= _) _ _ _
      refine wpAny_bind (wpAny_setField_rec hz (by simp) fun h' hz' hs' => wpAny_pure (hq h' hz' hs'))
    · refine wpAny_pure (hq s.heap hz ⟨rfl, fun _ _ => rfl⟩)
  refine free _ fun h₁ hz₁ hs₁ => ?_
  simp only [Bool.false_eq_true, if_false]
  rw [← Array.forIn_toList]
  simp only [List.forIn_cons, List.forIn_nil]
  refine wpAny_bind (wpAny_bind (wpAny_bind (wpAny_holding ?_)))
  show wpAny _ _ (Builtin.SmallTypes.nextOf (.ref i1) >>= _) _ _ _
  refine wpAny_bind (nextOf_item (h1.keep (fun o e => hs₁.extBut _ _ D.i1z e) (fun o e => hs₁.extBut _ _ D.a1z e)) D.a1i1 hx fun h₂ h1₂ hs₂ => wpAny_pure ?_)
  refine wpAny_pure ?_
  refine wpAny_bind (wpAny_bind (wpAny_holding ?_))
  show wpAny _ _ (Builtin.SmallTypes.nextOf (.ref i2) >>= _) _ _ _
  have h2₂ : SIt h₂ i2 a2 ys k := (h2.keep (fun o e => hs₁.extBut _ _ D.i2z e) (fun o e => hs₁.extBut _ _ D.a2z e)).keep (fun o e => hs₂.extBut _ _ D.i12.symm e) (fun o e => hs₂.extBut _ _ D.a2i1 e)
  refine wpAny_bind (nextOf_item h2₂ D.a2i2 hy fun h₃ h2₃ hs₃ => wpAny_pure ?_)
  refine wpAny_pure ?_
  refine wpAny_pure ?_
  refine wpAny_bind (wpAny_newTuple (hsz := by show 2 ≤ sizeLine; decide) ?_)
  have hsz : h₃.objs.size = s.heap.objs.size := by rw [hs₃.1, hs₂.1, hs₁.1]
  have h1₃ : SIt h₃ i1 a1 xs (k + 1) := h1₂.keep (fun o e => hs₃.extBut _ _ D.i12 e) (fun o e => hs₃.extBut _ _ D.a1i2 e)
  have hz₃ : IsZ h₃ z TI TO (rawInt T) (.bool true) := hs₃.extBut _ _ D.i2z.symm (hs₂.extBut _ _ D.i1z.symm hz₁)
  refine wpAny_pure ⟨_, rfl, ?_⟩
  show Q (.ref h₃.objs.size) _
  rw [hsz]
  refine hQ _ (Heap.get?_push_of_some _ hz₃) (h1₃.keep (fun o e => Heap.get?_push_of_some _ e) (fun o e => Heap.get?_push_of_some _ e)) (h2₃.keep (fun o e => Heap.get?_push_of_some _ e) (fun o e => Heap.get?_push_of_some _ e)) ?_ fun c o c1 c2 c3 e => Heap.get?_push_of_some _ (hs₃.extBut _ _ c3 (hs₂.extBut _ _ c2 (hs₁.extBut _ _ c1 e)))
  rw [← hsz]
  exact Heap.get?_push_size _ rfl
theorem zipB_end {z TI TO i1 i2 a1 a2 T : Addr} {k : Nat} {xs ys : Array Value} {f1 : Value} {o : Obj} {Q : Fin → Shared → Prop} (hh : A.handled = none) (D : ZA z TI TO i1 i2 a1 a2)
    (hz : IsZ s.heap z TI TO (rawInt T) f1) (hf : f1 = .bool false ∨ f1 = .bool true) (hT : s.heap.get? T = some o) (hTI : IsPair s.heap TI (.ref i1) (.ref i2))
    (h1 : SIt s.heap i1 a1 xs k) (hx : xs[k]? = none)
    (hE : ∀ h' e, (∀ c o, c ≠ z → c ≠ i1 → s.heap.get? c = some o → h'.get? c = some o) → (∃ o, h'.get? e = some o ∧ o.cls = .type "StopIteration") → E (.ref e) { s with heap := h' }) :
    wpAny (model prog w) A (Builtin.«zip.__next__» ⟨[.ref z], []⟩) Q E s := by
  show wpAny _ _ (field (.ref z) 2 >>= _) _ _ _
  refine wpAny_bind (wpAny_field hz rfl (x := .bool false) rfl ?_)
  show wpAny _ _ (field (.ref z) 3 >>= _) _ _ _
  refine wpAny_bind (wpAny_field hz rfl (x := .ref TI) rfl ?_)
  refine wpAny_bind (wpAny_seqItems hTI rfl ?_)
  show wpAny _ _ (Builtin.SmallTypes.ownedTupleIsFree (.ref z) >>= _) _ _ _
  refine wpAny_bind ?_
  have free : ∀ Q' : Bool → Shared → Prop, (∀ h', IsZ h' z TI TO (rawInt T) (.bool true) → Heap.SameBut z s.heap h' → Q' false { s with heap := h' }) → wpAny (model prog w) A (Builtin.SmallTypes.ownedTupleIsFree (.ref z)) Q' E s := by
    intro Q' hq
    unfold Builtin.SmallTypes.ownedTupleIsFree
    refine wpAny_bind (wpAny_field hz rfl (x := rawInt T) rfl ?_)
    show wpAny _ _ (loadIfAlive ((T : Int)).toNat >>= _) _ _ _
    rw [Int.toNat_natCast]
    refine wpAny_bind (wpAny_alive ?_)
    rw [hT]
    show wpAny _ _ (field (.ref z) 1 >>= _) _ _ _
    refine wpAny_bind (wpAny_field hz rfl (x := f1) rfl ?_)
    rcases hf with rfl | rfl
    · show wpAny _ _ (setField (.ref z) 1 (.bool true) >>= _) _ _ _
      refine wpAny_bind (wpAny_setField_rec hz (by simp) fun h' hz' hs' => wpAny_pure (hq h' hz' hs'))
    · refine wpAny_pure (hq s.heap hz ⟨rfl, fun _ _ => rfl⟩)
  refine free _ fun h₁ hz₁ hs₁ => ?_
  simp only [Bool.false_eq_true, if_false]
  rw [← Array.forIn_toList]
  simp only [List.forIn_cons, List.forIn_nil]
  refine wpAny_bind (wpAny_bind (wpAny_bind (wpAny_holding ?_)))
  show wpAny _ _ (Builtin.SmallTypes.nextOf (.ref i1) >>= _) _ _ _
  refine wpAny_bind (nextOf_end hh (h1.keep (fun o e => hs₁.extBut _ _ D.i1z e) (fun o e => hs₁.extBut _ _ D.a1z e)) hx fun h₂ e hs₂ he => ?_)
  exact hE h₂ e (fun c o c1 c2 x => hs₂ _ _ c2 (hs₁.extBut _ _ c1 x)) he

/-- zip's next, its own tuple free -/
theorem zipA_item {z TI TO i1 i2 a1 a2 : Addr} {k : Nat} {xs ys : Array Value} {x y a b : Value} {Q : Value → Shared → Prop} (D : ZA z TI TO i1 i2 a1 a2)
    (hz : IsZ s.heap z TI TO .none (.bool false)) (hTI : IsPair s.heap TI (.ref i1) (.ref i2)) (hTO : IsPair s.heap TO a b)
    (h1 : SIt s.heap i1 a1 xs k) (h2 : SIt s.heap i2 a2 ys k) (hx : xs[k]? = some x) (hy : ys[k]? = some y)
    (hQ : ∀ h', IsZ h' z TI TO (rawInt s.heap.objs.size) (.bool false) → IsPair h' TO x y → SIt h' i1 a1 xs (k + 1) → SIt h' i2 a2 ys (k + 1) → IsPair h' s.heap.objs.size x y →
      (∀ c o, c ≠ z → c ≠ TO → c ≠ i1 → c ≠ i2 → s.heap.get? c = some o → h'.get? c = some o) → Q (.ref s.heap.objs.size) { s with heap := h' }) :
    wpAny (model prog w) A (Builtin.«zip.__next__» ⟨[.ref z], []⟩) (fun fin s' => ∃ v, fin = .done (.ret v) ∧ Q v s') E s := by
  show wpAny _ _ (field (.ref z) 2 >>= _) _ _ _
  refine wpAny_bind (wpAny_field hz rfl (x := .bool false) rfl ?_)
  show wpAny _ _ (field (.ref z) 3 >>= _) _ _ _
  refine wpAny_bind (wpAny_field hz rfl (x := .ref TI) rfl ?_)
  refine wpAny_bind (wpAny_seqItems hTI rfl ?_)
  show wpAny _ _ (Builtin.SmallTypes.ownedTupleIsFree (.ref z) >>= _) _ _ _
  refine wpAny_bind ?_
  unfold Builtin.SmallTypes.ownedTupleIsFree
  refine wpAny_bind (wpAny_field hz rfl (x := .none) rfl (wpAny_pure ?_))
  simp only [if_true]
  refine wpAny_bind (wpAny_rule ?_)
  refine wpAny_bind (wpAny_field hz rfl (x := .ref TO) rfl ?_)
  refine wpAny_bind (wpAny_setField_rec hz (by simp) fun h₁ hz₁ hs₁ => ?_)
  replace hz₁ : IsZ h₁ z TI TO .ellipsis (.bool false) := hz₁
  refine wpAny_bind ?_
  simp only [List.zipIdx_cons, List.zipIdx_nil, List.forIn_cons, List.forIn_nil]
  refine wpAny_bind (wpAny_bind (wpAny_onRaise ?_))
  show wpAny _ _ (Builtin.SmallTypes.nextOf (.ref i1) >>= _) _ _ _
  refine wpAny_bind (nextOf_item (h1.keep (fun o e => hs₁.extBut _ _ D.i1z e) (fun o e => hs₁.extBut _ _ D.a1z e)) D.a1i1 hx fun h₂ h1₂ hs₂ => wpAny_pure ?_)
  have hTO₂ : IsPair h₂ TO a b := hs₂.extBut _ _ D.TOi1 (hs₁.extBut _ _ D.TOz hTO)
  refine wpAny_bind (wpAny_seqItems hTO₂ rfl ?_)
  refine wpAny_bind (wpAny_updateSeq_pair hTO₂ fun h₃ hTO₃ hs₃ => ?_)
  replace hTO₃ : IsPair h₃ TO x b := hTO₃
  refine wpAny_bind (wpAny_letGo (wpAny_pure ?_))
  refine wpAny_bind (wpAny_bind (wpAny_onRaise ?_))
  show wpAny _ _ (Builtin.SmallTypes.nextOf (.ref i2) >>= _) _ _ _
  have h2₃ : SIt h₃ i2 a2 ys k := ((h2.keep (fun o e => hs₁.extBut _ _ D.i2z e) (fun o e => hs₁.extBut _ _ D.a2z e)).keep (fun o e => hs₂.extBut _ _ D.i12.symm e) (fun o e => hs₂.extBut _ _ D.a2i1 e)).keep (fun o e => hs₃.extBut _ _ D.TOi2.symm e) (fun o e => hs₃.extBut _ _ D.a2TO e)
  refine wpAny_bind (nextOf_item h2₃ D.a2i2 hy fun h₄ h2₄ hs₄ => wpAny_pure ?_)
  have hTO₄ : IsPair h₄ TO x b := hs₄.extBut _ _ D.TOi2 hTO₃
  refine wpAny_bind (wpAny_seqItems hTO₄ rfl ?_)
  refine wpAny_bind (wpAny_updateSeq_pair hTO₄ fun h₅ hTO₅ hs₅ => ?_)
  replace hTO₅ : IsPair h₅ TO x y := hTO₅
  refine wpAny_bind (wpAny_letGo (wpAny_pure (wpAny_pure ?_)))
  refine wpAny_bind (wpAny_seqItems hTO₅ rfl ?_)
  refine wpAny_bind (wpAny_newTuple ?_)
  have hsz : h₅.objs.size = s.heap.objs.size := by rw [hs₅.1, hs₄.1, hs₃.1, hs₂.1, hs₁.1]
  have hz₅ : IsZ h₅ z TI TO .ellipsis (.bool false) := hs₅.extBut _ _ D.TOz.symm (hs₄.extBut _ _ D.i2z.symm (hs₃.extBut _ _ D.TOz.symm (hs₂.extBut _ _ D.i1z.symm hz₁)))
  have hk₅ : ∀ c o, c ≠ z → c ≠ TO → c ≠ i1 → c ≠ i2 → s.heap.get? c = some o → h₅.get? c = some o := fun c o c1 c2 c3 c4 e =>
    hs₅.extBut _ _ c2 (hs₄.extBut _ _ c4 (hs₃.extBut _ _ c2 (hs₂.extBut _ _ c3 (hs₁.extBut _ _ c1 e))))
  have h1₅ : SIt h₅ i1 a1 xs (k + 1) := ((h1₂.keep (fun o e => hs₃.extBut _ _ D.TOi1.symm e) (fun o e => hs₃.extBut _ _ D.a1TO e)).keep (fun o e => hs₄.extBut _ _ D.i12 e) (fun o e => hs₄.extBut _ _ D.a1i2 e)).keep (fun o e => hs₅.extBut _ _ D.TOi1.symm e) (fun o e => hs₅.extBut _ _ D.a1TO e)
  have h2₅ : SIt h₅ i2 a2 ys (k + 1) := h2₄.keep (fun o e => hs₅.extBut _ _ D.TOi2.symm e) (fun o e => hs₅.extBut _ _ D.a2TO e)
  have hzlt : z < h₅.objs.size := Heap.lt_size hz₅
  show wpAny _ _ (Builtin.SmallTypes.ownedTupleHandOut (.ref z) (.ref h₅.objs.size) >>= _) _ _ _
  refine wpAny_bind ?_
  unfold Builtin.SmallTypes.ownedTupleHandOut
  have hz₆ : IsZ (h₅.push { cls := .type "tuple", data := .seq #[x, y] }) z TI TO .ellipsis (.bool false) := Heap.get?_push_of_some _ hz₅
  refine wpAny_bind (wpAny_setField_rec hz₆ (by simp) fun h₇ hz₇ hs₇ => ?_)
  replace hz₇ : IsZ h₇ z TI TO (rawInt h₅.objs.size) (.bool false) := hz₇
  refine wpAny_setField_rec hz₇ (by simp) fun h₈ hz₈ hs₈ => ?_
  replace hz₈ : IsZ h₈ z TI TO (rawInt h₅.objs.size) (.bool false) := hz₈
  have up : ∀ c o, c ≠ z → h₅.get? c = some o → h₈.get? c = some o := fun c o c1 e => hs₈.extBut _ _ c1 (hs₇.extBut _ _ c1 (Heap.get?_push_of_some _ e))
  have hT₈ : IsPair h₈ h₅.objs.size x y := hs₈.extBut _ _ (Nat.ne_of_gt hzlt) (hs₇.extBut _ _ (Nat.ne_of_gt hzlt) (Heap.get?_push_size _ rfl))
  rw [hsz] at hz₈ hT₈
  refine wpAny_pure ⟨_, rfl, ?_⟩
  show Q (.ref h₅.objs.size) _
  rw [hsz]
  exact hQ h₈ hz₈ (up _ _ D.TOz hTO₅) (h1₅.keep (fun o e => up _ o D.i1z e) (fun o e => up _ o D.a1z e)) (h2₅.keep (fun o e => up _ o D.i2z e) (fun o e => up _ o D.a2z e)) hT₈ fun c o c1 c2 c3 c4 e => up c o c1 (hk₅ c o c1 c2 c3 c4 e)

theorem zipA_end {z TI TO i1 i2 a1 a2 : Addr} {k : Nat} {xs : Array Value} {a b : Value} {Q : Fin → Shared → Prop} (hh : A.handled = none) (D : ZA z TI TO i1 i2 a1 a2)
    (hz : IsZ s.heap z TI TO .none (.bool false)) (hTI : IsPair s.heap TI (.ref i1) (.ref i2)) (hTO : IsPair s.heap TO a b) (h1 : SIt s.heap i1 a1 xs k) (hx : xs[k]? = none)
    (hE : ∀ h' e, (∀ c o, c ≠ z → c ≠ i1 → s.heap.get? c = some o → h'.get? c = some o) → (∃ o, h'.get? e = some o ∧ o.cls = .type "StopIteration") → E (.ref e) { s with heap := h' }) :
    wpAny (model prog w) A (Builtin.«zip.__next__» ⟨[.ref z], []⟩) Q E s := by
  show wpAny _ _ (field (.ref z) 2 >>= _) _ _ _
  refine wpAny_bind (wpAny_field hz rfl (x := .bool false) rfl ?_)
  show wpAny _ _ (field (.ref z) 3 >>= _) _ _ _
  refine wpAny_bind (wpAny_field hz rfl (x := .ref TI) rfl ?_)
  refine wpAny_bind (wpAny_seqItems hTI rfl ?_)
  show wpAny _ _ (Builtin.SmallTypes.ownedTupleIsFree (.ref z) >>= _) _ _ _
  refine wpAny_bind ?_
  unfold Builtin.SmallTypes.ownedTupleIsFree
  refine wpAny_bind (wpAny_field hz rfl (x := .none) rfl (wpAny_pure ?_))
  simp only [if_true]
  refine wpAny_bind (wpAny_rule ?_)
  refine wpAny_bind (wpAny_field hz rfl (x := .ref TO) rfl ?_)
  refine wpAny_bind (wpAny_setField_rec hz (by simp) fun h₁ hz₁ hs₁ => ?_)
  replace hz₁ : IsZ h₁ z TI TO .ellipsis (.bool false) := hz₁
  refine wpAny_bind ?_
  simp only [List.zipIdx_cons, List.zipIdx_nil, List.forIn_cons, List.forIn_nil]
  refine wpAny_bind (wpAny_bind (wpAny_onRaise ?_))
  show wpAny _ _ (Builtin.SmallTypes.nextOf (.ref i1) >>= _) _ _ _
  refine wpAny_bind (nextOf_end hh (h1.keep (fun o e => hs₁.extBut _ _ D.i1z e) (fun o e => hs₁.extBut _ _ D.a1z e)) hx fun h₂ e hs₂ he => ?_)
  obtain ⟨oe, hoe, hce⟩ := he
  have hz₂ : IsZ h₂ z TI TO .ellipsis (.bool false) := hs₂ _ _ D.i1z.symm hz₁
  have hez : e ≠ z := fun x => by subst x; rw [hz₂] at hoe; cases hoe; simp at hce
  refine wpAny_setField_rec hz₂ (by simp) fun h₃ _ hs₃ => hE h₃ e (fun c o c1 c3 x => hs₃.extBut _ _ c1 (hs₂ _ _ c3 (hs₁.extBut _ _ c1 x))) ⟨oe, hs₃.extBut _ _ hez hoe, hce⟩
end
end Mine


set_option autoImplicit false
set_option linter.unusedVariables false
set_option maxRecDepth 100000
namespace Mine
open PySem PyProof.Rows

theorem zip_no_len : typeLookup (.type "zip") "__len__" = pure none := by rw [typeLookup_type, builtinLookup_eq_fast]; kernel_rfl
theorem zip_no_hint : typeLookup (.type "zip") "__length_hint__" = pure none := by rw [typeLookup_type, builtinLookup_eq_fast]; kernel_rfl

/-- a zip over two sequences, i items drawn -/
structure Zs (h : Heap) (z TI TO i1 i2 a1 a2 : Addr) (xs ys : Array Value) (i : Nat) : Prop where
  ti : IsPair h TI (.ref i1) (.ref i2)
  s1 : SIt h i1 a1 xs i
  s2 : SIt h i2 a2 ys i
  to : ∃ o, h.get? TO = some o
  zz : (IsZ h z TI TO .none (.bool false) ∧ ∃ a b, IsPair h TO a b) ∨ ∃ T f1 x y, IsZ h z TI TO (rawInt (T : Nat)) f1 ∧ (f1 = .bool false ∨ f1 = .bool true) ∧ IsPair h T x y

theorem SIt.notpair {h : Heap} {it a T : Addr} {xs : Array Value} {i : Nat} {x y : Value} (p : SIt h it a xs i) (q : IsPair h T x y) : T ≠ it := by
  rintro rfl
  cases p with
  | list p _ => obtain ⟨o, e, c, _⟩ := p; rw [q] at e; cases e; simp at c
  | tup p _ => obtain ⟨o, e, c, _⟩ := p; rw [q] at e; cases e; simp at c
theorem IsZ.notpair {h : Heap} {z TI TO T : Addr} {f0 f1 x y : Value} (p : IsZ h z TI TO f0 f1) (q : IsPair h T x y) : T ≠ z := by
  rintro rfl
  have e := Option.some.inj ((show h.get? T = _ from q).symm.trans p)
  exact absurd (congrArg Obj.cls e) (by simp)
theorem pair_ne_list {h : Heap} {T S : Addr} {x y : Value} {acc : Array Value} {c : Nat} (q : IsPair h T x y) (p : h.get? S = some { cls := .type "list", dict := none, data := .seq acc c, slots := #[] }) : T ≠ S := by
  rintro rfl
  have e := Option.some.inj ((show h.get? T = _ from q).symm.trans p)
  exact absurd (congrArg Obj.cls e) (by simp)

theorem Zs.type {s : Shared} {z TI TO i1 i2 a1 a2 : Addr} {xs ys : Array Value} {i : Nat} (Z : Zs s.heap z TI TO i1 i2 a1 a2 xs ys i) : s.TypeIs (.ref z) "zip" := by
  rcases Z.zz with ⟨h, _⟩ | ⟨T, f1, x, y, h, _⟩
  · exact ⟨_, h, rfl⟩
  · exact ⟨_, h, rfl⟩
theorem Zs.keep {h h' : Heap} {z TI TO i1 i2 a1 a2 : Addr} {xs ys : Array Value} {i : Nat} (Z : Zs h z TI TO i1 i2 a1 a2 xs ys i) (hk : ∀ c ∈ [z, TI, TO, i1, i2, a1, a2], ∀ o, h.get? c = some o → h'.get? c = some o) (hp : ∀ T x y, IsPair h T x y → IsPair h' T x y) : Zs h' z TI TO i1 i2 a1 a2 xs ys i where
  ti := hp _ _ _ Z.ti
  s1 := Z.s1.keep (hk _ (by simp)) (hk _ (by simp))
  s2 := Z.s2.keep (hk _ (by simp)) (hk _ (by simp))
  to := let ⟨o, e⟩ := Z.to; ⟨o, hk TO (by simp) o e⟩
  zz := by
    rcases Z.zz with ⟨h, a, b, q⟩ | ⟨T, f1, x, y, h, e, q⟩
    · exact .inl ⟨hk z (by simp) _ h, a, b, hp _ _ _ q⟩
    · exact .inr ⟨T, f1, x, y, hk z (by simp) _ h, e, hp _ _ _ q⟩

section
variable {prog : Program} {w : World} {A : Around} {E : Value → Shared → Prop} {s : Shared} {z TI TO i1 i2 a1 a2 : Addr} {xs ys : Array Value} {i : Nat}

theorem zs_next {x y : Value} {Q : Option Value → Shared → Prop} (D : ZA z TI TO i1 i2 a1 a2) (Z : Zs s.heap z TI TO i1 i2 a1 a2 xs ys i) (hx : xs[i]? = some x) (hy : ys[i]? = some y)
    (hQ : ∀ h', Zs h' z TI TO i1 i2 a1 a2 xs ys (i + 1) → IsPair h' s.heap.objs.size x y → (∀ c o, c ≠ z → c ≠ TO → c ≠ i1 → c ≠ i2 → s.heap.get? c = some o → h'.get? c = some o) → Q (some (.ref s.heap.objs.size)) { s with heap := h' }) :
    wpAny (model prog w) A (pyNext (.ref z)) Q E s := by
  have hT := Z.type
  unfold pyNext
  refine wpAny_bind (wpAny_attempt (wpAny_callSpecial?_slot (name := Str.ofString "__next__") hT F.slot_zip_next (wpAny_call_entry F.slot_zip_next hT F.entry_zip_next ?_ (F.args_zip_next_1 _))))
  rcases Z.zz with ⟨hz, a, b, q⟩ | ⟨T, f1, x0, y0, hz, hf, q⟩
  · refine zipA_item D hz Z.ti q Z.s1 Z.s2 hx hy fun h' g1 g0 g2 g3 g4 g5 => wpAny_pure (hQ h' ⟨g5 _ _ D.TIz D.TITO D.TIi1 D.TIi2 Z.ti, g2, g3, ⟨_, g0⟩, .inr ⟨_, _, x, y, g1, .inl rfl, g4⟩⟩ g4 g5)
  · refine zipB_item D hz hf q Z.ti Z.s1 Z.s2 hx hy fun h' g1 g2 g3 g4 g5 => wpAny_pure (hQ h' ⟨g5 _ _ D.TIz D.TIi1 D.TIi2 Z.ti, g2, g3, (let ⟨o, e⟩ := Z.to; ⟨o, g5 _ _ D.TOz D.TOi1 D.TOi2 e⟩), .inr ⟨T, _, x0, y0, g1, .inr rfl, g5 _ _ (hz.notpair q) (Z.s1.notpair q) (Z.s2.notpair q) q⟩⟩ g4 fun c o c1 _ c3 c4 e => g5 c o c1 c3 c4 e)
theorem zs_done {Q : Option Value → Shared → Prop} (hh : A.handled = none) (D : ZA z TI TO i1 i2 a1 a2) (Z : Zs s.heap z TI TO i1 i2 a1 a2 xs ys i) (hx : xs[i]? = none)
    (hQ : ∀ h', (∀ c o, c ≠ z → c ≠ i1 → s.heap.get? c = some o → h'.get? c = some o) → Q none { s with heap := h' }) :
    wpAny (model prog w) A (pyNext (.ref z)) Q E s := by
  have hT := Z.type
  unfold pyNext
  rcases Z.zz with ⟨hz, a, b, q⟩ | ⟨T, f1, x0, y0, hz, hf, q⟩
  · refine wpAny_bind (wpAny_attempt (wpAny_callSpecial?_slot (name := Str.ofString "__next__") hT F.slot_zip_next (wpAny_call_entry F.slot_zip_next hT F.entry_zip_next (zipA_end hh D hz Z.ti q Z.s1 hx fun h' e hk he => ?_) (F.args_zip_next_1 _))))
    obtain ⟨o, ho, hc⟩ := he
    refine wpAny_bind (wpAny_isInstance (T := "StopIteration") (b := true) ⟨o, ho, hc⟩ isSubtype_stop ?_)
    exact wpAny_pure (hQ _ hk)
  · refine wpAny_bind (wpAny_attempt (wpAny_callSpecial?_slot (name := Str.ofString "__next__") hT F.slot_zip_next (wpAny_call_entry F.slot_zip_next hT F.entry_zip_next (zipB_end (ys := ys) hh D hz hf q Z.ti Z.s1 hx fun h' e hk he => ?_) (F.args_zip_next_1 _))))
    obtain ⟨o, ho, hc⟩ := he
    refine wpAny_bind (wpAny_isInstance (T := "StopIteration") (b := true) ⟨o, ho, hc⟩ isSubtype_stop ?_)
    exact wpAny_pure (hQ _ hk)

/-- what has been put into the list so far -/
structure Pr (h : Heap) (no : List Addr) (xs ys acc : Array Value) (i : Nat) : Prop where
  size : acc.size = i
  at_ : ∀ j, j < i → ∃ T x y, acc[j]? = some (.ref T) ∧ xs[j]? = some x ∧ ys[j]? = some y ∧ IsPair h T x y ∧ ∀ b, b ∈ no → b < T
theorem Pr.keep {h h' : Heap} {no : List Addr} {acc : Array Value} (p : Pr h no xs ys acc i) (hk : ∀ b o, b ∉ no → h.get? b = some o → h'.get? b = some o) : Pr h' no xs ys acc i :=
  ⟨p.size, fun j hj => let ⟨T, x, y, e1, e2, e3, e4, e5⟩ := p.at_ j hj; ⟨T, x, y, e1, e2, e3, hk _ _ (fun h => Nat.lt_irrefl _ (e5 _ h)) e4, e5⟩⟩
theorem Pr.push {h : Heap} {no : List Addr} {acc : Array Value} {T : Addr} {x y : Value} (p : Pr h no xs ys acc i) (hx : xs[i]? = some x) (hy : ys[i]? = some y) (hT : IsPair h T x y) (hn : ∀ b, b ∈ no → b < T) : Pr h no xs ys (acc.push (.ref T)) (i + 1) := by
  refine ⟨by rw [Array.size_push, p.size], fun j hj => ?_⟩
  by_cases hji : j < i
  · obtain ⟨T', x', y', e1, e2, e3, e4, e5⟩ := p.at_ j hji
    exact ⟨T', x', y', by rw [Array.getElem?_push_lt (by rw [p.size]; exact hji)]; rw [← e1]; exact (Array.getElem?_eq_getElem _).symm, e2, e3, e4, e5⟩
  · have : j = i := by omega
    subst this
    exact ⟨T, x, y, by rw [← p.size]; exact Array.getElem?_push_size, hx, hy, hT, hn⟩

theorem zip_loop {R : Result → Shared → Prop} {S : Addr} {res : Value} (hh : A.handled = none) (D : ZA z TI TO i1 i2 a1 a2) (hl : ys.size = xs.size) (hn : xs.size ≤ sizeLine) (hS : S ∉ [z, TI, TO, i1, i2, a1, a2]) :
    ∀ (k i : Nat) (s : Shared) (acc : Array Value) (c : Nat), xs.size - i = k → i ≤ xs.size → Zs s.heap z TI TO i1 i2 a1 a2 xs ys i → s.heap.get? S = some { cls := .type "list", dict := none, data := .seq acc c, slots := #[] } → Pr s.heap [S, z, TO, i1, i2] xs ys acc i →
    (∀ h' acc' c', (∀ b o, b ∉ [S, z, TO, i1, i2] → s.heap.get? b = some o → h'.get? b = some o) → h'.get? S = some { cls := .type "list", dict := none, data := .seq acc' c', slots := #[] } → Pr h' [S, z, TO, i1, i2] xs ys acc' xs.size → R (.ok (.ret res)) { s with heap := h' }) →
    codeAny (model prog w) A (.builtin "list.extend.loop" ⟨[.ref S, .ref z, res], []⟩) R s := by
  simp only [List.mem_cons, List.not_mem_nil, or_false, not_or] at hS
  obtain ⟨n1, n2, n3, n4, n5, n6, n7⟩ := hS
  intro k
  induction k with
  | zero =>
    intro i s acc c hk hi Z hSl hP hR
    have hin : i = xs.size := by omega
    subst hin
    refine codeAny_builtin F.entry_extend_loop ?_
    rw [Around.under_plainId F.plain_extend_loop _]
    show wpAny _ A.in1 (pyNext (.ref z) >>= _) _ _ s
    refine wpAny_bind (zs_done hh D Z (Array.getElem?_eq_none (Nat.le_refl _)) fun h' hk' => ?_)
    have hk2 : ∀ b o, b ∉ [S, z, TO, i1, i2] → s.heap.get? b = some o → h'.get? b = some o := fun b o hb e => hk' b o (fun q => hb (by simp [q])) (fun q => hb (by simp [q])) e
    exact wpAny_pure (hR h' acc c hk2 (hk' S _ n1 n4 hSl) (hP.keep hk2))
  | succ k ih =>
    intro i s acc c hk hi Z hSl hP hR
    have hlt : i < xs.size := by omega
    refine codeAny_builtin F.entry_extend_loop ?_
    rw [Around.under_plainId F.plain_extend_loop _]
    show wpAny _ A.in1 (pyNext (.ref z) >>= _) _ _ s
    have hx := Array.getElem?_eq_getElem hlt
    have hy := Array.getElem?_eq_getElem (xs := ys) (i := i) (by omega)
    refine wpAny_bind (zs_next D Z hx hy fun h' Z' hT hk' => ?_)
    have hS' := hk' S _ n1 n3 n4 n5 hSl
    have hlS := Heap.lt_size hSl
    have hlz : z < s.heap.objs.size := by rcases Z.zz with ⟨q, _⟩ | ⟨_, _, _, _, q, _⟩ <;> exact Heap.lt_size q
    have hl1 := Z.s1.lt.1
    have hl2 := Z.s2.lt.1
    have hlT : TO < s.heap.objs.size := let ⟨_, e⟩ := Z.to; Heap.lt_size e
    have hTn : ∀ b, b ∈ [S, z, TO, i1, i2] → b < s.heap.objs.size := fun b hm => by
      simp only [List.mem_cons, List.not_mem_nil, or_false] at hm
      rcases hm with q | q | q | q | q <;> rw [q] <;> assumption
    have hk2 : ∀ b o, b ∉ [S, z, TO, i1, i2] → s.heap.get? b = some o → h'.get? b = some o := fun b o hb e => hk' b o (fun q => hb (by simp [q])) (fun q => hb (by simp [q])) (fun q => hb (by simp [q])) (fun q => hb (by simp [q])) e
    show wpAny _ A.in1 (updateSeq S (·.push (.ref s.heap.objs.size)) >>= _) _ _ _
    refine wpAny_bind ?_
    have hP' := (hP.keep hk2).push hx hy hT hTn
    have hu : ∀ b o, b ≠ S → h'.get? b = some o → (h'.update S (Obj.mapSeq (·.push (.ref s.heap.objs.size)))).get? b = some o := fun b o hb e => (Heap.get?_update_other _ _ (Ne.symm hb)).trans e
    have hpair : ∀ T x y, IsPair h' T x y → IsPair (h'.update S (Obj.mapSeq (·.push (.ref s.heap.objs.size)))) T x y := fun T x y q => hu T _ (pair_ne_list q hS') q
    refine wpAny_updateSeq hS' rfl (wpAny_pure ⟨plainId_quiet F.plain_extend_loop _, ih (i + 1) _ (acc.push (.ref s.heap.objs.size)) _ (by omega) hlt (Z'.keep (fun b hb o e => hu b o (fun q => ?_) e) hpair) (Heap.get?_update_self _ hS' rfl) (hP'.keep fun b o hb e => hu b o (fun q => hb (by simp [q])) e) fun h'' acc' c' hm hS'' hacc' => ?_⟩)
      (by rw [hP.size]; omega) (by show (acc.push _).size ≤ sizeLine + 1; rw [Array.size_push, hP.size]; omega)
    · subst q
      simp only [List.mem_cons, List.not_mem_nil, or_false] at hb
      rcases hb with q | q | q | q | q | q | q
      · exact n1 q
      · exact n2 q
      · exact n3 q
      · exact n4 q
      · exact n5 q
      · exact n6 q
      · exact n7 q
    · exact hR h'' acc' c' (fun b o hb e => hm b o hb (hu b o (fun q => hb (by simp [q])) (hk2 b o hb e))) hS'' hacc'
end
end Mine


set_option autoImplicit false
set_option linter.unusedVariables false
set_option maxRecDepth 100000
namespace Mine
open PySem PyProof.Rows

section
variable {prog : Program} {w : World} {A : Around} {s : Shared} {R : Result → Shared → Prop} {z TI TO i1 i2 a1 a2 : Addr} {xs ys : Array Value}

theorem extend_zip {S : Addr} {res : Value} {c₀ : Nat} (hh : A.handled = none) (D : ZA z TI TO i1 i2 a1 a2) (hz : IsZ s.heap z TI TO .none (.bool false)) (Z : Zs s.heap z TI TO i1 i2 a1 a2 xs ys 0) (hl : ys.size = xs.size) (hn : xs.size ≤ sizeLine) (hS : S ∉ [z, TI, TO, i1, i2, a1, a2])
    (hSl : s.heap.get? S = some { cls := .type "list", data := .seq #[] c₀ })
    (hR : ∀ h' acc' c', (∀ b o, b ∉ [S, z, TO, i1, i2] → s.heap.get? b = some o → h'.get? b = some o) → h'.get? S = some { cls := .type "list", dict := none, data := .seq acc' c', slots := #[] } → Pr h' [S, z, TO, i1, i2] xs ys acc' xs.size → R (.ok (.ret res)) { s with heap := h' }) :
    wpAny (model prog w) A.in1 (Builtin.List.listExtendWith (.ref S) (.ref z) res)
      (fun fin s' => match fin with | .done f => R (.ok f) s' | .again c' => c'.quiet = true ∧ codeAny (model prog w) A c' R s') (fun e s' => R (.error e) s') s := by
  have hSz : S ≠ z := fun e => hS (by rw [e]; simp)
  have hT := Z.type
  unfold Builtin.List.listExtendWith
  refine wpAny_bind (wpAny_typeOf hT ?_)
  have h1 : Builtin.List.listSameRef (.ref S) (.ref z) = false := by simp [Builtin.List.listSameRef, hSz]
  have h2 : (Value.type "zip" == Value.type "list") = false := by decide
  have h3 : (Value.type "zip" == Value.type "tuple") = false := by decide
  simp only [h1, h2, h3, Bool.or_false, Bool.false_eq_true, if_false]
  refine wpAny_bind (wpAny_pyIter_zip (TI := TI) (TO := TO) (f0 := .none) hz ?_)
  refine wpAny_bind (wpAny_holding ?_)
  unfold Builtin.List.listLengthHint
  refine wpAny_bind (wpAny_specialOf hT zip_no_len ?_)
  show wpAny _ A.in1 (specialOf (Value.ref z) (Str.ofString "__length_hint__") >>= _) _ _ _
  refine wpAny_bind (wpAny_specialOf hT zip_no_hint ?_)
  refine wpAny_pure ?_
  show wpAny _ A.in1 (rule "list.extend.makes-room" >>= fun _ => Builtin.List.listTouch (.ref S) >>= fun _ => again (.builtin "list.extend.loop" ⟨[.ref S, .ref z, res], []⟩)) _ _ _
  refine wpAny_bind (wpAny_rule ?_)
  refine wpAny_bind ?_
  show wpAny _ A.in1 (updateSeq S (·.push .none) >>= fun _ => updateSeq S (·.pop)) _ _ _
  refine wpAny_bind (wpAny_updateSeq hSl rfl ?_)
  have hS₂ := Heap.get?_update_self (Obj.mapSeq (·.push Value.none)) hSl rfl
  refine wpAny_updateSeq (hz := by seq_fits) hS₂ rfl ?_
  have hS₃ := Heap.get?_update_self (Obj.mapSeq (·.pop)) hS₂ rfl
  have oth : ∀ b o, b ≠ S → s.heap.get? b = some o → ((s.heap.update S (Obj.mapSeq (·.push Value.none))).update S (Obj.mapSeq (·.pop))).get? b = some o :=
    fun b o hb e => (Heap.get?_update_other _ _ (Ne.symm hb)).trans ((Heap.get?_update_other _ _ (Ne.symm hb)).trans e)
  refine wpAny_pure ⟨plainId_quiet F.plain_extend_loop _, zip_loop hh D hl hn hS xs.size 0 _ #[] _ (Nat.sub_zero _) (Nat.zero_le _) (Z.keep (fun b hb o e => oth b o (fun h => hS (h ▸ hb)) e) fun T x y q => oth T _ (fun e => ?_) q) hS₃ ⟨rfl, fun j hj => absurd hj (Nat.not_lt_zero _)⟩ fun h' acc' c' hm hS' hacc => ?_⟩
  · exact pair_ne_list q hSl e
  · exact hR h' acc' c' (fun b o hb e => hm b o hb (oth b o (fun q => hb (by simp [q])) e)) hS' hacc

theorem init_zip {S : Addr} (hh : A.handled = none) (D : ZA z TI TO i1 i2 a1 a2) (hz : IsZ s.heap z TI TO .none (.bool false)) (Z : Zs s.heap z TI TO i1 i2 a1 a2 xs ys 0) (hl : ys.size = xs.size) (hn : xs.size ≤ sizeLine) (hS : S ∉ [z, TI, TO, i1, i2, a1, a2])
    (hSl : s.heap.get? S = some { cls := .type "list", data := .seq #[] })
    (hR : ∀ h' acc' c', (∀ b o, b ∉ [S, z, TO, i1, i2] → s.heap.get? b = some o → h'.get? b = some o) → h'.get? S = some { cls := .type "list", dict := none, data := .seq acc' c', slots := #[] } → Pr h' [S, z, TO, i1, i2] xs ys acc' xs.size → R (.ok (.ret .none)) { s with heap := h' }) :
    wpAny (model prog w) A.in1 (Builtin.«list.__init__» ⟨[.ref S, .ref z], []⟩)
      (fun fin s' => match fin with | .done f => R (.ok f) s' | .again c' => c'.quiet = true ∧ codeAny (model prog w) A c' R s') (fun e s' => R (.error e) s') s := by
  show wpAny _ A.in1 (do let old ← Builtin.List.listItems (.ref S); Builtin.List.listUpdate (.ref S) (fun _ => #[]); letGo old.toList.reverse; Builtin.List.listExtendWith (.ref S) (.ref z) .none) _ _ s
  refine wpAny_bind ?_
  unfold Builtin.List.listItems
  refine wpAny_bind (wpAny_seqItems hSl rfl (wpAny_pure ?_))
  show wpAny _ A.in1 (updateSeq S (fun _ => #[]) >>= fun _ => letGo (#[] : Array Value).toList.reverse >>= fun _ => Builtin.List.listExtendWith (.ref S) (.ref z) .none) _ _ s
  refine wpAny_bind (wpAny_updateSeq hSl rfl ?_)
  have hS₂ := Heap.get?_update_self (Obj.mapSeq (fun _ => (#[] : Array Value))) hSl rfl
  have oth : ∀ b o, b ≠ S → s.heap.get? b = some o → (s.heap.update S (Obj.mapSeq (fun _ => (#[] : Array Value)))).get? b = some o :=
    fun b o hb e => (Heap.get?_update_other _ _ (Ne.symm hb)).trans e
  refine wpAny_bind (wpAny_letGo ?_)
  refine extend_zip hh D (oth z _ (fun e => hS (by rw [← e]; simp)) hz) (Z.keep (fun b hb o e => oth b o (fun h => hS (h ▸ hb)) e) fun T x y q => oth T _ (fun e => pair_ne_list q hSl e) q) hl hn hS hS₂ fun h' acc' c' hm hS' hacc => ?_
  exact hR h' acc' c' (fun b o hb e => hm b o hb (oth b o (fun q => hb (by simp [q])) e)) hS' hacc
end

section
variable {prog : Program} {w : World} {A : Around} {E : Value → Shared → Prop} {s : Shared} {z TI TO i1 i2 a1 a2 : Addr} {xs ys : Array Value}
theorem list_zip {Q : Value → Shared → Prop} (hh : A.handled = none) (D : ZA z TI TO i1 i2 a1 a2) (hz : IsZ s.heap z TI TO .none (.bool false)) (Z : Zs s.heap z TI TO i1 i2 a1 a2 xs ys 0) (hl : ys.size = xs.size) (hn : xs.size ≤ sizeLine)
    (hQ : ∀ h' acc' c', (∀ b o, b ∉ [z, TO, i1, i2] → s.heap.get? b = some o → h'.get? b = some o) → h'.get? s.heap.objs.size = some { cls := .type "list", dict := none, data := .seq acc' c', slots := #[] } → Pr h' [s.heap.objs.size, z, TO, i1, i2] xs ys acc' xs.size → Q (.ref s.heap.objs.size) { s with heap := h' }) :
    wpAny (model prog w) A (call (.type "list") [.ref z]) Q E s := by
  have hlz : z < s.heap.objs.size := Heap.lt_size hz
  have hlI : TI < s.heap.objs.size := Heap.lt_size Z.ti
  have hlT : TO < s.heap.objs.size := let ⟨_, e⟩ := Z.to; Heap.lt_size e
  have hS : s.heap.objs.size ∉ [z, TI, TO, i1, i2, a1, a2] := fun hm => by
    simp only [List.mem_cons, List.not_mem_nil, or_false] at hm
    rcases hm with q | q | q | q | q | q | q
    · exact absurd q (Nat.ne_of_gt hlz)
    · exact absurd q (Nat.ne_of_gt hlI)
    · exact absurd q (Nat.ne_of_gt hlT)
    · exact absurd q (Nat.ne_of_gt Z.s1.lt.1)
    · exact absurd q (Nat.ne_of_gt Z.s2.lt.1)
    · exact absurd q (Nat.ne_of_gt Z.s1.lt.2)
    · exact absurd q (Nat.ne_of_gt Z.s2.lt.2)
  refine callType_codes (Q₁ := fun obj s₁ => obj = .ref s.heap.objs.size ∧ s₁ = { s with heap := s.heap.push { cls := .type "list", data := .seq #[] } }) F.called_list (F.typeCall_list_1 _) F.entry_list_init
    (code_list_new _ ⟨rfl, rfl⟩) fun obj s₁ h₁ => ?_
  obtain ⟨rfl, rfl⟩ := h₁
  have hSl : (s.heap.push { cls := .type "list", data := .seq #[] }).get? s.heap.objs.size = some { cls := .type "list", data := .seq #[] } := Heap.get?_push_size _ rfl
  refine ⟨⟨_, hSl, rfl⟩, F.args_list_init_2 _ _, init_zip (A := A.in1) hh D (Heap.get?_push_of_some _ hz) (Z.keep (fun b hb o e => Heap.get?_push_of_some _ e) fun T x y q => Heap.get?_push_of_some _ q) hl hn hS hSl fun h' acc' c' hk hS' hacc => ?_⟩
  refine ⟨rfl, hQ h' acc' c' (fun b o hb e => hk b o (fun hm => ?_) (Heap.get?_push_of_some _ e)) hS' hacc⟩
  rcases List.mem_cons.mp hm with q | q
  · exact absurd (q ▸ Heap.lt_size e) (Nat.lt_irrefl _)
  · exact hb q

theorem za_new {n l1 l2 : Addr} (h1 : l1 < n) (h2 : l2 < n) : ZA (n + 4) (n + 2) (n + 3) n (n + 1) l1 l2 :=
  let D := zipApart_new h1 h2
  ⟨D.TIz, D.TOz, D.i1z, D.i2z, D.TITO, D.TIi1, D.TIi2, D.TOi1, D.TOi2, D.i12, D.l1z, D.l1TO, D.l1i1, D.l1i2, D.l2z, D.l2TO, D.l2i1, D.l2i2⟩

theorem zip_lists {l1 l2 : Addr} {Q : Value → Shared → Prop} (hl1 : s.heap.IsList l1 xs) (hl2 : s.heap.IsList l2 ys)
    (h : ∀ h', IsZ h' (s.heap.objs.size + 4) (s.heap.objs.size + 2) (s.heap.objs.size + 3) .none (.bool false) → Zs h' (s.heap.objs.size + 4) (s.heap.objs.size + 2) (s.heap.objs.size + 3) s.heap.objs.size (s.heap.objs.size + 1) l1 l2 xs ys 0 →
      (∀ c o, s.heap.get? c = some o → h'.get? c = some o) → Q (.ref (s.heap.objs.size + 4)) { s with heap := h' }) :
    wpAny (model prog w) A (call (.type "zip") [.ref l1, .ref l2]) Q E s :=
  call_zip_2 hl1 hl2 fun h' g1 g2 g3 g4 g5 g6 g7 => h h' g1 ⟨g2, .list g4 (hl1.at fun o e => g7 _ o e), .list g5 (hl2.at fun o e => g7 _ o e), ⟨_, g3⟩, .inl ⟨g1, _, _, g3⟩⟩ g7
end
end Mine


set_option autoImplicit false
set_option linter.unusedVariables false
set_option maxRecDepth 100000
namespace Mine
open PySem PyProof.Rows

abbrev zT1 (h : Heap) (l1 : Addr) : Heap := h.push { cls := .type "tuple_iterator", data := .fields #[.ref l1, .int 0 0] }
abbrev zT2 (h : Heap) (l1 l2 : Addr) : Heap := (zT1 h l1).push { cls := .type "tuple_iterator", data := .fields #[.ref l2, .int 0 0] }
abbrev zT3 (h : Heap) (l1 l2 : Addr) : Heap := (zT2 h l1 l2).push { cls := .type "tuple", data := .seq #[.ref h.objs.size, .ref (zT1 h l1).objs.size] }
abbrev zT4 (h : Heap) (l1 l2 : Addr) : Heap := (zT3 h l1 l2).push { cls := .type "tuple", data := .seq #[.none, .none] }
abbrev zT5 (h : Heap) (l1 l2 : Addr) : Heap := (zT4 h l1 l2).push { cls := .type "zip", data := .fields #[.none, .bool false, .bool false, .ref (zT2 h l1 l2).objs.size, .ref (zT3 h l1 l2).objs.size] }

theorem meets_zipT (l1 l2 : Addr) (xs ys : Array Value) :
    Meets (Builtin.«zip.__new__» ⟨[.type "zip", .ref l1, .ref l2], []⟩) (fun _ R s => s.heap.IsTuple l1 xs ∧ s.heap.IsTuple l2 ys ∧ R (.ok (.ret (.ref (zT4 s.heap l1 l2).objs.size))) { s with heap := zT5 s.heap l1 l2 }) :=
  .of_wp fun prog w A R s h => by
    obtain ⟨hp, g, d, tk, os⟩ := s; obtain ⟨hl1, hl2, h⟩ := h
    have hsub := sub_zip
    have hL1 : Heap.IsTuple (Shared.heap ⟨hp, g, d, tk, os⟩) l1 xs := hl1
    have hL2 : Heap.IsTuple (Shared.heap ⟨hp.push { cls := .type "tuple_iterator", data := .fields #[.ref l1, .int 0 0] }, g, d, tk, os⟩) l2 ys := Heap.IsTuple.push hl2 _
    wp_walk using wpAny_pyIter_tuple hL1, wpAny_pyIter_tuple hL2
    exact ⟨_, rfl, h⟩

section
variable {prog : Program} {w : World} {A : Around} {E : Value → Shared → Prop} {s : Shared} {xs ys : Array Value}
theorem zip_tuples {l1 l2 : Addr} {Q : Value → Shared → Prop} (hl1 : s.heap.IsTuple l1 xs) (hl2 : s.heap.IsTuple l2 ys)
    (h : ∀ h', IsZ h' (s.heap.objs.size + 4) (s.heap.objs.size + 2) (s.heap.objs.size + 3) .none (.bool false) → Zs h' (s.heap.objs.size + 4) (s.heap.objs.size + 2) (s.heap.objs.size + 3) s.heap.objs.size (s.heap.objs.size + 1) l1 l2 xs ys 0 →
      (∀ c o, s.heap.get? c = some o → h'.get? c = some o) → Q (.ref (s.heap.objs.size + 4)) { s with heap := h' }) :
    wpAny (model prog w) A (call (.type "zip") [.ref l1, .ref l2]) Q E s := by
  refine callType_new F.called_zip (by decide) (F.typeCall_zip_2 _ _) (F.newCall_zip_2 _ _) (fun obj => F.args_object_init_3 obj _ _) F.entry_zip_new (meets_zipT l1 l2 xs ys) ⟨hl1, hl2, ?_⟩
  have z1 : (zT1 s.heap l1).objs.size = s.heap.objs.size + 1 := Heap.size_push ..
  have z2 : (zT2 s.heap l1 l2).objs.size = s.heap.objs.size + 2 := by rw [Heap.size_push, z1]
  have z3 : (zT3 s.heap l1 l2).objs.size = s.heap.objs.size + 3 := by rw [Heap.size_push, z2]
  have z4 : (zT4 s.heap l1 l2).objs.size = s.heap.objs.size + 4 := by rw [Heap.size_push, z3]
  have g5 : (zT5 s.heap l1 l2).get? (zT4 s.heap l1 l2).objs.size = some _ := Heap.get?_push_size _ rfl
  have g4 : (zT5 s.heap l1 l2).get? (zT3 s.heap l1 l2).objs.size = some _ := Heap.get?_push_of_some _ (Heap.get?_push_size _ rfl)
  have g3 : (zT5 s.heap l1 l2).get? (zT2 s.heap l1 l2).objs.size = some _ := Heap.get?_push_of_some _ (Heap.get?_push_of_some _ (Heap.get?_push_size _ rfl))
  have g2 : (zT5 s.heap l1 l2).get? (zT1 s.heap l1).objs.size = some _ := Heap.get?_push_of_some _ (Heap.get?_push_of_some _ (Heap.get?_push_of_some _ (Heap.get?_push_size _ rfl)))
  have g1 : (zT5 s.heap l1 l2).get? s.heap.objs.size = some _ := Heap.get?_push_of_some _ (Heap.get?_push_of_some _ (Heap.get?_push_of_some _ (Heap.get?_push_of_some _ (Heap.get?_push_size _ rfl))))
  have kp : ∀ c o, s.heap.get? c = some o → (zT5 s.heap l1 l2).get? c = some o := fun c o x => Heap.get?_push_of_some _ (Heap.get?_push_of_some _ (Heap.get?_push_of_some _ (Heap.get?_push_of_some _ (Heap.get?_push_of_some _ x))))
  show _ ∧ _
  rw [z2, z3, z4] at g5
  rw [z1, z2] at g3
  rw [z3] at g4
  rw [z1] at g2
  rw [z4]
  refine ⟨⟨_, g5, rfl⟩, h _ g5 ⟨g3, .tup ⟨_, g1, rfl, rfl⟩ (let ⟨o, e, r⟩ := hl1; ⟨o, kp _ _ e, r⟩), .tup ⟨_, g2, rfl, rfl⟩ (let ⟨o, e, r⟩ := hl2; ⟨o, kp _ _ e, r⟩), ⟨_, g4⟩, .inl ⟨g5, _, _, g4⟩⟩ kp⟩
end
end Mine


set_option autoImplicit false
set_option linter.unusedVariables false
set_option maxRecDepth 100000
namespace Mine
open PySem PyProof.Rows
section
variable {cx : Cx} {A : Around} {w w' : Wl} {H H' : AHeap}
theorem vrs_of_get : ∀ {L : List AV} {M : List Value}, L.length = M.length → (∀ (j : Nat) a, L[j]? = some a → ∃ v, M[j]? = some v ∧ VR cx w a v) → VRs cx w L M
  | [], [], _, _ => .nil
  | [], _ :: _, h, _ => by cases h
  | _ :: _, [], h, _ => by cases h
  | a :: L, v :: M, hl, hg => by
    obtain ⟨v', e, r⟩ := hg 0 a rfl
    cases e
    exact .cons r (vrs_of_get (Nat.succ.inj hl) fun j b hb => hg (j + 1) b hb)
/-- the tuples that a zip has made -/
theorem zip_vrs {xs ys : List AV} {vs ws acc : Array Value} {no : List Addr} (r1 : VRs cx w' xs vs.toList) (r2 : VRs cx w' ys ws.toList) (hlen : xs.length = ys.length)
    (hT : ∀ T, (∀ b, b ∈ no → b < T) → Fz w' T) (p : Pr w'.s.heap no vs ws acc vs.size) : VRs cx w' (List.zipWith (fun x y => .tup [x, y]) xs ys) acc.toList := by
  refine vrs_of_get (by rw [List.length_zipWith, ← hlen, Nat.min_self]; exact (r1.size.symm.trans p.size.symm : xs.length = acc.size)) fun j a ha => ?_
  rw [List.getElem?_zipWith] at ha
  cases hx : xs[j]? with
  | none => rw [hx] at ha; cases ha
  | some x =>
    cases hy : ys[j]? with
    | none => rw [hx, hy] at ha; cases ha
    | some y =>
      rw [hx, hy] at ha
      cases ha
      obtain ⟨v, e1, q1⟩ := r1.get hx
      obtain ⟨u, e2, q2⟩ := r2.get hy
      obtain ⟨T, x', y', g1, g2, g3, g4, g5⟩ := p.at_ j (by rw [r1.size]; exact (List.getElem?_eq_some_iff.mp hx).1)
      rw [Array.getElem?_toList] at e1 e2
      rw [e1] at g2; cases g2
      rw [e2] at g3; cases g3
      exact ⟨.ref T, by rw [Array.getElem?_toList]; exact g1, .tup (n := 0) g4 (hT T g5) (show 2 ≤ LIM by decide) (.cons q1 (.cons q2 .nil))⟩
/-- a list or a tuple -/
def KSq (cx : Cx) (w : Wl) (a : AV) (v : Value) (xs : List AV) : Prop := ∃ l vs n, v = .ref l ∧ VRs cx w xs vs.toList ∧ xs.length ≤ LIM ∧ ((isTp a = true ∧ IsT w.s.heap l vs n) ∨ (isTp a = false ∧ IsL w.s.heap l vs n))
theorem seq_kind {a : AV} {v : Value} (ra : VR cx w a v) : Rd cx w (seqOf a) (KSq cx w a v) := by
  cases a with
  | tup ys => exact ra.tupE fun l vs n h1 _ h3 h4 => .pure ⟨l, vs, n, rfl, h4, h3, .inl ⟨rfl, h1⟩⟩
  | lst ys => exact ra.lstE fun l vs n h1 _ h3 h4 => .pure ⟨l, vs, n, rfl, h4, h3, .inr ⟨rfl, h1⟩⟩
  | loc i => exact ra.locE fun l h => (listAt_rd h).mono fun xs ⟨vs, n, h1, h3, h4⟩ => ⟨l, vs, n, rfl, h4, h3, .inr ⟨rfl, h1⟩⟩
  | _ => exact .stuck
theorem zip_ok (hh : A.handled = none) : ZipOK cx A := fun w a b v u mu H r H' ra rb S h => by
  refine bind_inv h (fun xs H1 h1 h2 => ?_) fun x h1 _ => by obtain ⟨_, c, e, _⟩ := seq_kind ra H S _ _ h1; cases e
  obtain ⟨e1, c, e2, l1, vs, n1, e3, r1, z1, k1⟩ := seq_kind ra H S _ _ h1
  cases e2
  subst e1; subst e3
  refine bind_inv h2 (fun ys H2 h3 h4 => ?_) fun x h1 _ => by obtain ⟨_, c, e, _⟩ := seq_kind rb H1 S _ _ h1; cases e
  obtain ⟨e1, c, e2, l2, ws, n2, e3, r2, z2, k2⟩ := seq_kind rb H1 S _ _ h3
  cases e2
  subst e1; subst e3
  split at h4
  case isFalse => cases h4
  case isTrue hc =>
    rw [Bool.and_eq_true, beq_iff_eq, decide_eq_true_iff] at hc
    obtain ⟨hk, hlen⟩ := hc
    have fin : ∀ h', IsZ h' (w.s.heap.objs.size + 4) (w.s.heap.objs.size + 2) (w.s.heap.objs.size + 3) .none (.bool false) → Zs h' (w.s.heap.objs.size + 4) (w.s.heap.objs.size + 2) (w.s.heap.objs.size + 3) w.s.heap.objs.size (w.s.heap.objs.size + 1) l1 l2 vs ws 0 →
        (∀ c o, w.s.heap.get? c = some o → h'.get? c = some o) → l1 < w.s.heap.objs.size → l2 < w.s.heap.objs.size → wpAny (model cx.prog cx.w) A (PySem.call (.type "list") [.ref (w.s.heap.objs.size + 4)]) (Post cx No w (VR cx) r H') (PostX cx No w r H') { w.s with heap := h' } := by
      intro h' hz Z kp q1 q2
      refine list_zip hh (za_new q1 q2) hz Z (by rw [r1.size, r2.size, hlen]) (by rw [r1.size]; exact Nat.le_trans z1 LIM_le) fun h'' acc c' hk2 hL hP => ?_
      have hkk : ∀ b o, w.s.heap.get? b = some o → h''.get? b = some o := fun b o e => hk2 b o (fun hm => by
        have hb := Heap.lt_size e
        simp only [List.mem_cons, List.not_mem_nil, or_false] at hm
        rcases hm with q | q | q | q
        · exact absurd (q ▸ hb) (Nat.not_lt.mpr (Nat.le_add_right _ _))
        · exact absurd (q ▸ hb) (Nat.not_lt.mpr (Nat.le_add_right _ _))
        · exact absurd (q ▸ hb) (Nat.lt_irrefl _)
        · exact absurd (q ▸ hb) (Nat.not_lt.mpr (Nat.le_add_right _ _))) (kp b o e)
      have hlt : w.s.heap.objs.size + 4 < h'.objs.size := Heap.lt_size hz
      have hD : w.s.heap.get? h'.objs.size = none := Heap.get?_none_of_le (Nat.le_of_lt (Nat.lt_of_le_of_lt (Nat.le_add_right _ _) hlt))
      have hT : ∀ T, (∀ b, b ∈ [h'.objs.size, w.s.heap.objs.size + 4, w.s.heap.objs.size + 3, w.s.heap.objs.size, w.s.heap.objs.size + 1] → b < T) → Fz w T ∧ T ≠ h'.objs.size := fun T h =>
        ⟨S.new (Heap.get?_none_of_le (Nat.le_of_lt (h _ (List.mem_cons_of_mem _ (List.mem_cons_of_mem _ (List.mem_cons_of_mem _ List.mem_cons_self)))))), Nat.ne_of_gt (h _ List.mem_cons_self)⟩
      have l := Le.keeps (cx := cx) (p := No) (w := w) (s' := { w.s with heap := h'' }) hkk
      unfold newL at h4
      split at h4
      case isFalse => cases h4
      case isTrue hz3 =>
        cases mu with
        | false =>
          obtain ⟨rfl, rfl⟩ := pure_some h4
          exact ⟨w.ι, w.π, _, rfl, l, S.keeps (t := w.s.toks) hkk, .lst (n := c') hL (S.new hD) hz3 (zip_vrs (r1.mono l) (r2.mono l) hlen (fun T h => (hT T h).1) hP)⟩
        | true =>
          cases h4
          obtain ⟨e, S2⟩ := S.alloc (t := w.s.toks) (h' := h'') (a := h'.objs.size) (o := .list (List.zipWith (fun x y => .tup [x, y]) xs ys)) hkk hD (fun e => ⟨acc, c', hL, hz3, zip_vrs (r1.mono e) (r2.mono e) hlen (fun T h => ⟨fun hm => (List.mem_append.mp hm).elim (hT T h).1.1 fun q => (hT T h).2 (List.mem_singleton.mp q), (hT T h).1.2⟩) hP⟩)
          exact ⟨_, _, _, rfl, e, S2, .loc (by rw [← S.len]; exact List.getElem?_concat_length)⟩
    rcases k1 with ⟨t1, k1⟩ | ⟨t1, k1⟩
    · rcases k2 with ⟨t2, k2⟩ | ⟨t2, k2⟩
      · exact zip_tuples ⟨_, k1, rfl, _, rfl⟩ ⟨_, k2, rfl, _, rfl⟩ fun h' hz Z kp => fin h' hz Z kp (Heap.lt_size k1) (Heap.lt_size k2)
      · rw [t1, t2] at hk; cases hk
    · rcases k2 with ⟨t2, k2⟩ | ⟨t2, k2⟩
      · rw [t1, t2] at hk; cases hk
      · exact zip_lists k1.isList k2.isList fun h' hz Z kp => fin h' hz Z kp (Heap.lt_size k1) (Heap.lt_size k2)
end
end Mine


set_option autoImplicit false
set_option linter.unusedVariables false
namespace Mine
open PySem PyProof.Rows


noncomputable def mkFn (a : Arguments) (b : List Stmt) (sc : Scope) : Fn :=
  let ps := a.args.map (·.arg)
  ⟨ps, ps ++ (sc.names.filterMap fun (x, k) => if (k == .local || k == .cell) && !ps.contains x then some x else none), b, sc⟩
noncomputable def fnSt (f : Str) : Stmt → Option Fn
  | .FunctionDef n a b [] _ _ sc _ _ _ => if n = f then some (mkFn a b sc) else none
  | _ => none
noncomputable def fnOf (p : Program) (f : Str) : Option Fn := p.main.body.findSome? (fnSt f)
noncomputable def recSt : Stmt → Option DefRec
  | .FunctionDef n a b [] _ _ sc _ _ pos => some ⟨n, a, b, sc, pos⟩
  | _ => none
noncomputable def recs (p : Program) : List DefRec := p.main.body.filterMap recSt
noncomputable def defChk (d : DefRec) : Bool := fnChk (mkFn d.params d.body d.scope) && d.name != ("__debug__" : Str) && d.params.posonlyargs.isEmpty && d.params.vararg.isNone && d.params.kwonlyargs.isEmpty && d.params.kwarg.isNone

/-- the block at a path: the statement's number, then body (0) or orelse (1) -/
noncomputable def subB : Stmt → Nat → List Stmt
  | .If _ b _ _, 0 => b
  | .If _ _ o _, _ => o
  | .For _ _ b _ _, _ => b
  | .While _ b _ _, _ => b
  | _, _ => []
noncomputable def bAt : List Stmt → List (Nat × Nat) → List Stmt
  | b, [] => b
  | b, (i, k) :: r => match b[i]? with
    | some s => bAt (subB s k) r
    | none => []

noncomputable def eachM : List (M AV) → M (List AV)
  | [] => pure []
  | m :: r => do
    let v ← m
    let vs ← eachM r
    pure (v :: vs)
noncomputable def lookG : List (Str × AV) → Str → Option AV
  | [], _ => none
  | p :: r, x => if x = p.1 then some p.2 else lookG r x
noncomputable def lookC : List (Str × List Str) → Str → Option (List Str)
  | [], _ => none
  | p :: r, x => if x = p.1 then some p.2 else lookC r x
noncomputable def AllG (Q : Str → AV → Prop) : List (Str × AV) → Prop
  | [] => True
  | p :: r => Q p.1 p.2 ∧ AllG Q r
theorem AllG.look {Q : Str → AV → Prop} : ∀ {l : List (Str × AV)}, AllG Q l → ∀ {x : Str} {a : AV}, lookG l x = some a → Q x a
  | [], _, _, _, e => nomatch e
  | p :: r, h, x, a, e => by
    have e : (if x = p.1 then some p.2 else lookG r x) = some a := e
    by_cases q : x = p.1
    · rw [if_pos q] at e
      cases e; rw [q]; exact h.1
    · rw [if_neg q] at e
      exact h.2.look e
noncomputable def fnD (P : Pg) (f : Str) : Fn := (P.fn f).getD ⟨[], [], [], default⟩
/-- what is left of a block of f, from its i-th statement on, with fuel n -/
noncomputable def tl (P : Pg) (cf : Str → List AV → M AV) (f : Str) (path : List (Nat × Nat)) (i n : Nat) (σ : Loc) : M Res := denB P cf (fnD P f).scope (fnD P f).names n ((bAt (fnD P f).body path).drop i) σ
/-- a turn of the for that stands at path, i -/
noncomputable def forB (P : Pg) (cf : Str → List AV → M AV) (f : Str) (path : List (Nat × Nat)) (i n : Nat) (v : AV) (σ : Loc) : M Res := match (bAt (fnD P f).body path)[i]? with
  | some (.For t _ b _ _) => do
    let σ' ← assignTo (fun σ e => den P cf n (fnD P f).scope (fnD P f).names σ e) (fnD P f).scope (fnD P f).names v σ t
    denB P cf (fnD P f).scope (fnD P f).names n b σ'
  | _ => stuck
noncomputable def whileT (P : Pg) (cf : Str → List AV → M AV) (f : Str) (path : List (Nat × Nat)) (i n : Nat) (σ : Loc) : M Bool := match (bAt (fnD P f).body path)[i]? with
  | some (.While t _ _ _) => denT (den P cf n (fnD P f).scope (fnD P f).names σ) n t
  | _ => stuck
noncomputable def whileB (P : Pg) (cf : Str → List AV → M AV) (f : Str) (path : List (Nat × Nat)) (i n : Nat) (σ : Loc) : M Res := match (bAt (fnD P f).body path)[i]? with
  | some (.While _ b _ _) => denB P cf (fnD P f).scope (fnD P f).names n b σ
  | _ => stuck

theorem b_some {α β : Type} {m : M α} {f : α → M β} {H H1 : AHeap} {a : α} (h1 : m H = some (.ok a, H1)) : (m >>= f) H = f a H1 := by
  show (Option.bind (m H) _) = _
  rw [h1]; rfl
theorem bind_of {α β : Type} {m : M α} {f : α → M β} {H H1 : AHeap} {a : α} {r : Except Str β × AHeap} (h1 : m H = some (.ok a, H1)) (h2 : f a H1 = some r) : (m >>= f) H = some r := (b_some h1).trans h2

theorem denB_try {P : Pg} {cf : Str → List AV → M AV} {sc : Scope} {ns : List Str} {n : Nat} {body : List Stmt} {σ : Loc} {H : AHeap} {q : Except Str Res × AHeap} (h : denB P cf sc ns n body σ H = some q) : tryOf body = none := by
  cases n with
  | zero => cases body with
    | nil => rfl
    | cons s r => cases h
  | succ n => cases body with
    | nil => rfl
    | cons s r => cases s with
      | Try b hs o f p => cases h
      | _ => rfl
theorem tl_body {P : Pg} {cf ch : Str → List AV → M AV} {f : Str} {σ : Loc} {H : AHeap} {q : Except Str Res × AHeap} (h : tl P cf f [] 0 40 σ H = some q) : bodyRun P cf ch (fnD P f).scope (fnD P f).names (fnD P f).body σ = (do let r ← tl P cf f [] 0 40 σ; resV r) := by
  have h : denB P cf (fnD P f).scope (fnD P f).names 40 (fnD P f).body σ H = some q := h
  unfold bodyRun
  rw [denB_try h]
  rfl
theorem call_body {P : Pg} {n : Nat} {f : Str} {as : List AV} {σ : Loc} (hf : P.fn f = some (fnD P f)) (hl : as.length = (fnD P f).params.length) (hσ : as.map some ++ List.replicate ((fnD P f).names.length - as.length) none = σ) :
    callP P (n + 1) f as = bodyRun P (callP P n) (callP P.off n) (fnD P f).scope (fnD P f).names (fnD P f).body σ := by
  unfold callP cN
  rw [hf]
  simp only [hl, if_true]
  rw [hl] at hσ
  rw [hσ]
theorem callR {P : Pg} {n : Nat} {f : Str} {as : List AV} {σ : Loc} (hf : P.fn f = some (fnD P f)) (hl : as.length = (fnD P f).params.length) (hσ : as.map some ++ List.replicate ((fnD P f).names.length - as.length) none = σ) {a : AV} {H H' : AHeap}
    (h : tl P (callP P n) f [] 0 40 σ H = some (.ok (.ret a), H')) : callP P (n + 1) f as H = some (.ok a, H') := by
  rw [call_body hf hl hσ, tl_body h]
  exact b_some h
theorem callN {P : Pg} {n : Nat} {f : Str} {as : List AV} {σ : Loc} (hf : P.fn f = some (fnD P f)) (hl : as.length = (fnD P f).params.length) (hσ : as.map some ++ List.replicate ((fnD P f).names.length - as.length) none = σ) {σ' : Loc} {H H' : AHeap}
    (h : tl P (callP P n) f [] 0 40 σ H = some (.ok (.next σ'), H')) : callP P (n + 1) f as H = some (.ok .none, H') := by
  rw [call_body hf hl hσ, tl_body h]
  exact b_some h
/-- an exception comes out -/
theorem callX {P : Pg} {n : Nat} {f : Str} {as : List AV} {σ : Loc} (hf : P.fn f = some (fnD P f)) (hl : as.length = (fnD P f).params.length) (hσ : as.map some ++ List.replicate ((fnD P f).names.length - as.length) none = σ) {x : Str} {H H' : AHeap}
    (h : tl P (callP P n) f [] 0 40 σ H = some (.error x, H')) : callP P (n + 1) f as H = some (.error x, H') := by
  rw [call_body hf hl hσ, tl_body h]
  show Option.bind (tl P (callP P n) f [] 0 40 σ H) _ = _
  rw [h]; rfl

theorem callQ {P : Pg} {n : Nat} {f : Str} {as : List AV} {σ : Loc} (hf : P.fn f = some (fnD P f)) (hl : as.length = (fnD P f).params.length) (hσ : as.map some ++ List.replicate ((fnD P f).names.length - as.length) none = σ) {a : AV}
    (h : tl P (callP P n) f [] 0 40 σ = pure (.ret a)) : callP P (n + 1) f as = pure a := by
  funext H
  exact callR hf hl hσ (by rw [h]; rfl)

theorem e_each0 : eachM [] = pure [] := rfl
theorem e_eachp {a : AV} {r : List (M AV)} : eachM (pure a :: r) = (do let vs ← eachM r; pure (a :: vs)) := rfl
theorem e_go_next {m : Loc → M Res} {σ : Loc} : goOn m (.next σ) = m σ := rfl
theorem e_go_ret {m : Loc → M Res} {a : AV} : goOn m (.ret a) = pure (.ret a) := rfl
theorem e_truth {b : Bool} : truth (.bool b) = pure b := rfl
theorem e_lt {i j : Int} : pCmp .Lt (.int i) (.int j) = pure (decide (i < j)) := rfl
theorem e_gt {i j : Int} : pCmp .Gt (.int i) (.int j) = pure (decide (j < i)) := rfl
theorem e_eqi {i j : Int} : pCmp .Eq (.int i) (.int j) = pure (decide (i = j)) := by
  funext H
  show some (Except.ok (i == j), H) = some (Except.ok (decide (i = j)), H)
  have : (i == j) = decide (i = j) := by by_cases h : i = j <;> simp [h]
  rw [this]
theorem e_len_lst {mu : Bool} {xs : List AV} : pBI mu .len [.lst xs] = pure (.int xs.length) := rfl
theorem e_item_lst {xs : List AV} {k : Nat} {a : AV} (h : xs[k]? = some a) : pItem (.lst xs) (.int k) = pure a := by
  have hk : k < xs.length := (List.getElem?_eq_some_iff.mp h).1
  have hi : idx (k : Int) xs.length = some k := by
    unfold idx
    rw [if_pos (by omega), if_pos (by omega)]; simp
  funext H
  show (ofOpt ((idx (k : Int) xs.length).bind fun j => xs[j]?) : M AV) H = _
  rw [hi]
  show (ofOpt xs[k]? : M AV) H = _
  rw [h]; rfl
theorem e_item_tup {xs : List AV} {k : Nat} {a : AV} (h : xs[k]? = some a) : pItem (.tup xs) (.int k) = pure a := by
  have hk : k < xs.length := (List.getElem?_eq_some_iff.mp h).1
  have hi : idx (k : Int) xs.length = some k := by
    unfold idx
    rw [if_pos (by omega), if_pos (by omega)]; simp
  funext H
  show (ofOpt ((idx (k : Int) xs.length).bind fun j => xs[j]?) : M AV) H = _
  rw [hi]
  show (ofOpt xs[k]? : M AV) H = _
  rw [h]; rfl
theorem e_newL {xs : List AV} (h : xs.length ≤ LIM) : newL false xs = pure (.lst xs) := by
  funext H; unfold newL; rw [if_pos h]
theorem m_add {mu : Bool} {i j : Int} : pBin mu .Add (.int i) (.int j) = pure (.int (i + j)) := rfl
theorem m_sub {mu : Bool} {i j : Int} : pBin mu .Sub (.int i) (.int j) = pure (.int (i - j)) := rfl
theorem m_mulL {mu : Bool} {i j : Int} (h : i.natAbs < 2 ^ 64) : pBin mu .Mult (.int i) (.int j) = pure (.int (i * j)) := if_pos (.inr h)
theorem m_mulR {mu : Bool} {i j : Int} (h : j.natAbs < 2 ^ 64) : pBin mu .Mult (.int i) (.int j) = pure (.int (i * j)) := if_pos (.inl h)
theorem m_mod {mu : Bool} {i j : Int} (h : j ≠ 0) : pBin mu .Mod (.int i) (.int j) = pure (.int (i.fmod j)) := if_neg h
theorem m_div {mu : Bool} {i j : Int} (h : j ≠ 0 ∧ j.natAbs < 1073741824) : pBin mu .FloorDiv (.int i) (.int j) = pure (.int (i.fdiv j)) := if_neg (by omega)
theorem fmod_lt (a : Int) {b : Int} (h : 0 < b) : 0 ≤ a.fmod b ∧ a.fmod b < b := ⟨Int.fmod_nonneg_of_pos a h, Int.fmod_lt_of_pos a h⟩
end Mine


set_option autoImplicit false
set_option linter.unusedVariables false
namespace Mine
open PySem PyProof.Rows PySem.SeqAt PySem.W


theorem items_ints : ∀ {xs : List WData} {R : WRecords}, WShape.hasItems R xs .int = true → ∃ ns : List Int, xs = ns.map .int
  | [], _, _ => ⟨[], rfl⟩
  | d :: r, R, h => by
    have h' : WShape.has R d .int = true ∧ WShape.hasItems R r .int = true := by simpa [WShape.hasItems] using h
    obtain ⟨i, rfl⟩ := hasW_int h'.1
    obtain ⟨ns, rfl⟩ := items_ints h'.2
    exact ⟨i :: ns, rfl⟩

theorem law_args {l : OpenLaw} {args : List WData} (hm : l.most = some 63) (hb : l.bound = none) (hpre : l.row.toRowW.claim.pre args = true) : ∃ ns : List Int, ns.length ≤ 63 ∧ args = [.list (ns.map .int)] := by
  obtain ⟨h1, h2⟩ := pre_splitW hpre
  have h1' : WShape.hasAll [] args [.list .int] = true := h1
  obtain ⟨d, r, rfl, hd, hr⟩ := hasAllW_cons h1'
  have := hasAllW_nil hr
  subst this
  obtain ⟨xs, rfl, hx⟩ := hasW_list hd
  obtain ⟨ns, rfl⟩ := items_ints hx
  refine ⟨ns, ?_, rfl⟩
  have h3 : l.pre.holds [] { args := [.list (ns.map .int)] } = true := h2
  unfold OpenLaw.pre at h3
  rw [hm, hb] at h3
  have h4 := (holds_andW h3).1
  simp [WTm.holds, WTm.value] at h4
  have h5 : less? (WData.int 63) (WData.int ns.length) = some (decide ((63 : Int) < ns.length)) := by simp [less?, Num.less?]
  rw [h5] at h4
  by_cases hc : (63 : Int) < ns.length
  · rw [decide_eq_true hc] at h4; cases h4
  · omega

theorem ints_read {R : WRecords} {cl : Str → Option Addr} {h : Heap} {cx : Cx} {w : Wl} : ∀ {ns : List Int} {vs : List Value} {as : List Addr}, ReadsAllW R cl h vs (ns.map .int) as → VRs cx w (ns.map .int) vs
  | [], vs, as, r => by cases r; exact .nil
  | n :: ns, vs, as, r => by
    cases r with
    | cons r1 r2 => cases r1; exact .cons .int (ints_read r2)

/-- the built-in names that are used -/
noncomputable def usedNames : List Str := ["len", "list", "tuple", "dict", "int", "range", "min", "max", "any", "sorted", "isinstance", "bool", "str", "zip", "enumerate", "ValueError"]
noncomputable def freeOk (q : Program) (loose : List Str) : Bool := usedNames.all fun x => !startupNames.contains x && !(looseW q loose).contains x && !((recsOf q).map (·.name)).contains x && !((litsOf q).map (·.1)).contains x && !((clssOf q (looseW q loose)).map (·.name)).contains x

theorem free_of {q : Program} {loose : List Str} {mean : ExcName → Option Value} {mg mb : Str → Option Value} {h : Heap} (T : Top q (looseW q loose) mean mg mb h) (hf : freeOk q loose = true) {x : Str} (hx : x ∈ usedNames) : mg x = none := by
  have := List.all_eq_true.mp hf x hx
  simp only [Bool.and_eq_true, Bool.not_eq_true', List.contains_eq_mem, decide_eq_false_iff_not] at this
  obtain ⟨⟨⟨⟨a1, a2⟩, a3⟩, a4⟩, a5⟩ := this
  exact T.free x a1 a2 a3 a4 a5

theorem boot_bi : ∀ x b, biOf x = some b → x ∈ usedNames ∧ bootBuiltins x = some (biV b) ∧ x ≠ "__name__" := by
  intro x b h
  unfold biOf at h
  repeat' (split at h)
  all_goals first | (cases h; done) | skip
  all_goals (cases h; subst_vars; exact ⟨by decide, by decide +kernel, by decide⟩)
theorem boot_ty : ∀ x t, tyOf x = some t → x ∈ usedNames ∧ bootBuiltins x = some (.type (tyStr t)) ∧ x ≠ "__name__" := by
  intro x b h
  unfold tyOf at h
  repeat' (split at h)
  all_goals first | (cases h; done) | skip
  all_goals (cases h; subst_vars; exact ⟨by decide, by decide +kernel, by decide⟩)

structure DefIs (q : Program) (f : Str) (fn : Fn) : Prop where
  chk : fnChk fn = true
  nd : (f == ("__debug__" : Str)) = false
  dfn : ∃ d ∈ recsOf q, d.name = f ∧ d.body = fn.body ∧ d.scope = fn.scope ∧ d.params.posonlyargs = [] ∧ d.params.args.map (·.arg) = fn.params ∧ d.params.vararg = none ∧ d.params.kwonlyargs = [] ∧ d.params.kwarg = none

/-- the text's exception classes, as they stand in the top -/
def XC (cl : Str → Option (List Str)) (mg : Str → Option Value) (h : Heap) : Prop := ∀ c cs, cl c = some cs → (c == ("__debug__" : Str)) = false ∧ ∃ C vs, mg c = some (.ref C) ∧ ExCls h C vs ∧
    ∀ x xs D, cl x = some xs → mg x = some (.ref D) → (Value.ref C :: (vs ++ VEm)).contains (.ref D) = (decide (x = c) || cs.contains x)
theorem XC.keeps {cl : Str → Option (List Str)} {mg : Str → Option Value} {h h' : Heap} (x : XC cl mg h) (hk : ∀ b o, h.get? b = some o → h'.get? b = some o) : XC cl mg h' :=
  fun c cs e => let ⟨h1, C, vs, h2, h3, h4⟩ := x c cs e; ⟨h1, C, vs, h2, h3.keeps hk, h4⟩
theorem walk_law {l : OpenLaw} {q : Program} {loose : List Str} {XP : (Str → Option Value) → Heap → Prop} {YP : World → Heap → Prop} {d : DefRec} {kwd : List (Str × Expr)} {P : Pg} {N : Nat}
    (hm : l.most = some 63) (hbd : l.bound = none) (hfree : freeOk q loose = true) (hfn : ∀ f fn, P.fn f = some fn → DefIs q f fn) (hdn : d.name = ("law" : Str)) (hN : N ≤ 200)
    (hgl : ∀ (w : World) (mean : ExcName → Option Value) (mg mb : Str → Option Value) (h : Heap) (os : OsState), XP mg h → YP w h → Top q (looseW q loose) mean mg mb h → ∀ x a, P.glob x = some a → ∃ v, mg x = some v ∧ ∀ w' H, St ⟨l.prog, w, h, os, mg, mb, [], none⟩ w' H → VR ⟨l.prog, w, h, os, mg, mb, [], none⟩ w' a v)
    (hcl : ∀ mg h, XP mg h → XC P.cls mg h)
    (hrun : ∀ ns : List Int, ns.length ≤ 63 → ∃ H', callP P N ("law" : Str) [.lst (ns.map .int)] [] = some (.ok (.bool true), H')) :
    WalkO q loose XP YP l.row.toRowW d kwd fun f vs => PySem.call f vs := by
  intro w s₀ s₁ mg mb G Y fa o pm cd doc dV kV ho hod hcd hD hmg hgens args vals as hpre hlay hrd hwl hlo
  obtain ⟨ns, hlen, rfl⟩ := law_args hm hbd hpre
  have T := G.T
  let cx : Cx := ⟨l.prog, w, s₁.heap, s₁.os, mg, mb, [], none⟩
  have hG : Good cx P := by
    refine ⟨T.g, T.b, T.nolimit, fun x a hx => hgl w _ mg mb s₁.heap s₁.os G.X Y T x a hx, ?_, ?_, ?_, ?_, ?_, ?_, hcl _ _ G.X⟩
    · intro x b hx
      obtain ⟨h1, h2, h3⟩ := boot_bi x b hx
      exact ⟨free_of T hfree h1, (T.builtins x h3).trans h2⟩
    · exact ⟨free_of T hfree (by decide), (T.builtins _ (by decide)).trans (by decide +kernel)⟩
    · intro x t hx
      obtain ⟨h1, h2, h3⟩ := boot_ty x t hx
      exact ⟨free_of T hfree h1, (T.builtins x h3).trans h2⟩
    · exact ⟨free_of T hfree (by decide), (T.builtins _ (by decide)).trans (by decide +kernel)⟩
    · exact ⟨free_of T hfree (by decide), (T.builtins _ (by decide)).trans (by decide +kernel)⟩
    · exact ⟨free_of T hfree (by decide), (T.builtins _ (by decide)).trans (by decide +kernel)⟩
  have hF : ∀ f fn, P.fn f = some fn → FnOK cx f fn := fun f fn hf => by
    obtain ⟨c1, c2, d', hd', rfl, e1, e2, e3, e4, e5, e6, e7⟩ := hfn f fn hf
    obtain ⟨a', o', pm', cd', doc', g1, g2, g3, g4⟩ := T.fn d' hd'
    refine ⟨c2, c1, a', o', pm', cd', doc', d'.params, g1, g2, by rw [← e1, ← e2]; exact g3, g4, fun vs hvs => ?_⟩
    have hnd : fn.params.Nodup := by
      unfold fnChk at c1
      simp only [Bool.and_eq_true, decide_eq_true_eq] at c1
      exact c1.1.1.2
    exact bindArgs_plain e3 e4 e5 e6 e7 hnd hvs
  have hS : St cx ⟨[], [], s₁⟩ [] := ⟨fun _ _ e => ⟨e, List.not_mem_nil, List.not_mem_nil⟩, rfl, List.nodup_nil, fun _ h => (nomatch h), fun _ h => (nomatch h), fun l a o h _ => (nomatch h), hgens, rfl, let ⟨_, ⟨o, _, _, ho, _⟩, _⟩ := T.nodigits; ⟨o, ho⟩⟩
  have hC : CallOK cx callerA P (callP P N) := callN_rf (cx := cx) (fun l d A hh => zip_ok hh) N P callerA [] none [] rfl hF hG (fun _ => rfl) rfl ⟨fun _ h => (nomatch h), fun _ h => (nomatch h)⟩ (by show 4 + 3 * N + 100 < cLine; have : cLine = 9900 := rfl; omega) (by show 1 + claimMargin + N < recursionLimit; have : claimMargin = 300 := rfl; have : recursionLimit = 1000 := rfl; omega)
  obtain ⟨H', hr⟩ := hrun ns hlen
  have hsome : (P.fn ("law" : Str)).isSome = true := by
    cases N with
    | zero => cases hr
    | succ n =>
      unfold callP cN at hr
      cases hf : P.fn ("law" : Str) with
      | none => rw [hf] at hr; cases hr
      | some fn => rfl
  obtain ⟨_, fa', o', fd', r1, r2, r3, r4⟩ := hC _ hsome
  rw [hdn] at hmg
  have hfa : fa' = fa := by
    have : some (Value.ref fa') = some (.ref fa) := r1.symm.trans hmg
    injection this with this
    injection this
  subst hfa
  cases hrd with
  | cons rd1 rd2 =>
    cases rd2
    cases hwl with
    | cons w1 w2 =>
      cases w1 with
      | @list a vs xs hga hwa =>
        have hv : VRs cx ⟨[], [], s₁⟩ [.lst (ns.map .int)] [.ref a] := by
          refine .cons (.lst (n := 0) hga ⟨List.not_mem_nil, List.not_mem_nil⟩ (by rw [List.length_map]; exact Nat.le_trans hlen (by decide)) ?_) .nil
          cases rd1 with
          | list q1 q2 q3 q4 =>
            rw [hga] at q1
            cases q1
            cases q3
            exact ints_read q4
        refine wpAny_mono (r4 _ _ [.ref a] (fun _ h => (nomatch h)) (fun _ h => (nomatch h)) hv [] hS _ _ hr) (fun v s' ⟨ι', π', c, e, l, S', rv⟩ => ?_) fun _ _ ⟨_, _, _, e, _⟩ => nomatch e
        cases e
        rw [show v = .bool true from rv]
        refine GoodW.toG ⟨.inl ⟨_, .bool true, [], rfl, fun _ => rfl, .bool true, ?_, fun _ => ⟨List.nodup_nil, fun _ h => (nomatch h)⟩⟩, fun b o e => (S'.base b o e).1, S'.os, S'.gens⟩
        exact postW_of (X := true) rfl (by show WTm.value [] (.eq .res (.lit (.bool true))) _ = _; simp [WTm.value, same_self]) rfl
end Mine


set_option autoImplicit false
set_option linter.unusedVariables false
namespace Mine
open PySem PyProof.Rows PySem.W

theorem defs_ok {p q : Program} (hr : recsOf q = recs p) (hc : (recs p).all defChk = true) : ∀ f fn, fnOf p f = some fn → DefIs q f fn := by
  intro f fn h
  unfold fnOf at h
  obtain ⟨st, hst, h1⟩ := List.exists_of_findSome?_eq_some h
  unfold fnSt at h1
  split at h1
  · rename_i n a b x1 x2 sc x3 x4 pos
    split at h1
    · rename_i hn
      subst hn
      cases h1
      have hd : (⟨n, a, b, sc, pos⟩ : DefRec) ∈ recs p := List.mem_filterMap.mpr ⟨_, hst, rfl⟩
      have hk := List.all_eq_true.mp hc _ hd
      unfold defChk at hk
      simp only [Bool.and_eq_true, bne_iff_ne, ne_eq, List.isEmpty_iff, Option.isNone_iff_eq_none] at hk
      obtain ⟨⟨⟨⟨⟨k1, k2⟩, k3⟩, k4⟩, k5⟩, k6⟩ := hk
      exact ⟨k1, beq_eq_false_iff_ne.mpr k2, _, hr ▸ hd, rfl, rfl, rfl, k3, rfl, k4, k5, k6⟩
    · cases h1
  · cases h1

end Mine


set_option autoImplicit false
set_option linter.unusedVariables false
namespace Mine
open PySem PyProof.Rows PySem.W

noncomputable def keepSt : Stmt → Bool
  | .Assign [.Name x _] _ _ => !(x == ("__name__" : Str))
  | _ => true
/-- the text but for the settings of __name__ -/
noncomputable def viewOf (p : Program) : Program := { p with main := { p.main with body := p.main.body.filter keepSt } }
noncomputable def noDef : DefRec × List (Str × Expr) := (⟨"", ⟨[], [], none, [], [], none, []⟩, [], default, default⟩, [])
noncomputable def lawDef (q : Program) : DefRec × List (Str × Expr) := (defOf q "law").getD noDef

/-- the text's own tables: a name, where it stands, and what stands there -/
abbrev Tbl := List (Str × Addr × (Params → Obj))
noncomputable def tblF (D : Tbl) (s : Shared) : List (Option Obj) := D.map fun d => s.heap.get? d.2.1
noncomputable def tblA (D : Tbl) (w : World) : List (Option Obj) := D.map fun d => some (d.2.2 w.params)
noncomputable def tblP (D : Tbl) (w : World) (h : Heap) : Prop := ∀ d ∈ D, h.get? d.2.1 = some (d.2.2 w.params)
noncomputable def isAt (a : Addr) : Option Value → Bool
  | some (.ref b) => Nat.beq b a
  | _ => false
noncomputable def tblX (D : Tbl) (s : Shared) : Bool := D.all fun d => isAt d.2.1 (s.heap.nsMap mainGlobals d.1)
noncomputable def tblXP (D : Tbl) (mg : Str → Option Value) : Prop := ∀ d ∈ D, mg d.1 = some (.ref d.2.1)
theorem isAt_of {a : Addr} {v : Option Value} (h : isAt a v = true) : v = some (.ref a) := by
  unfold isAt at h
  split at h
  · rw [Nat.eq_of_beq_eq_true h]
  · cases h

noncomputable def noClsOk (h : Heap) (name : Str) : Bool := match h.clsAt mainGlobals name with
  | some (_, _, cd) => h.isNs cd.ns && (h.nsMap cd.ns "__class__").isNone
  | none => false
noncomputable def clsOk (cl : List (Str × List Str)) (h : Heap) : Bool :=
  (cl.all fun p => !(p.1 == ("__debug__" : Str)) && h.ownExcOk p.1 p.2 VEm "ValueError.__new__" && h.quietOk p.1 && noClsOk h p.1 && p.2.all fun n => (lookC cl n).isSome) &&
    cl.all fun p => cl.all fun q => p.1 == q.1 || !(h.nsMap mainGlobals p.1 == h.nsMap mainGlobals q.1)
theorem lookC_mem {cl : List (Str × List Str)} {x : Str} {cs : List Str} : lookC cl x = some cs → (x, cs) ∈ cl := by
  induction cl with
  | nil => intro h; cases h
  | cons p r ih =>
    intro h
    unfold lookC at h
    split at h
    · rename_i e
      cases h; rw [e]; exact List.mem_cons_self
    · exact List.mem_cons_of_mem _ (ih h)
theorem noC_of {h : Heap} {n : Str} (z : noClsOk h n = true) : NoC h ((h.nsMap mainGlobals n).getD .none) := by
  unfold noClsOk at z
  cases hf : h.clsAt mainGlobals n with
  | none => rw [hf] at z; cases z
  | some y =>
    obtain ⟨C, o, cd⟩ := y
    rw [hf] at z
    obtain ⟨hn, ho, hd⟩ := Heap.clsAt_spec hf
    obtain ⟨oc, dd, dt, sl⟩ := o
    obtain rfl : dt = _ := hd
    have z := Bool.and_eq_true_iff.mp z
    exact ⟨C, oc, dd, cd, sl, _, by rw [hn]; rfl, ho, .of_isNs z.1, Option.isNone_iff_eq_none.mp z.2⟩
theorem clsOk_of {cl : List (Str × List Str)} {h : Heap} (k : clsOk cl h = true) : XC (lookC cl) (h.nsMap mainGlobals) h := by
  obtain ⟨k1, k2⟩ := Bool.and_eq_true_iff.mp k
  have at1 : ∀ {c cs}, lookC cl c = some cs → (c == ("__debug__" : Str)) = false ∧ h.ownExcOk c cs VEm "ValueError.__new__" = true ∧ h.quietOk c = true ∧ noClsOk h c = true ∧ ∀ n ∈ cs, ∃ ds, lookC cl n = some ds := fun {c cs} e => by
    have := List.all_eq_true.mp k1 _ (lookC_mem e)
    simp only [Bool.and_eq_true, Bool.not_eq_true'] at this
    obtain ⟨⟨⟨⟨a1, a2⟩, a3⟩, a4⟩, a5⟩ := this
    exact ⟨a1, a2, a3, a4, fun n hn => Option.isSome_iff_exists.mp (List.all_eq_true.mp a5 n hn)⟩
  have inj : ∀ {x y cs ds}, lookC cl x = some cs → lookC cl y = some ds → h.nsMap mainGlobals x = h.nsMap mainGlobals y → x = y := fun {x y cs ds} e1 e2 e => by
    have := List.all_eq_true.mp (List.all_eq_true.mp k2 _ (lookC_mem e1)) _ (lookC_mem e2)
    rw [Bool.or_eq_true] at this
    rcases this with q | q
    · exact beq_iff_eq.mp q
    · have e : h.nsMap mainGlobals (x, cs).1 = h.nsMap mainGlobals (y, ds).1 := e
      rw [e, beq_self_eq_true] at q; cases q
  intro c cs e
  obtain ⟨a1, a2, a3, a4, a5⟩ := at1 e
  obtain ⟨C, N, nm, q, bs, hdct, sn, sub, ab, col, dd, k0, k1', k2', k3, k5, hb, hC, hN, hq⟩ := Heap.ownExcQ_of_ok a2 a3
  have hcl : h.nsMap N "__class__" = none := by
    obtain ⟨b, c0, dd', cd, sl, m, z1, z2, z3, z4⟩ := noC_of a4
    rw [hb] at z1
    cases z1
    rw [hC] at z2
    cases z2
    rw [z3.eq_nsMap] at z4
    exact z4
  refine ⟨a1, C, _, hb, ⟨⟨N, nm, q, bs, hdct, sn, sub, ab, col, dd, k0, k1', k2', k3, k5, _, hC, hN, hq, hcl⟩, OwnTailQ.of_chain cs fun n hn => ?_, fun v hv => ?_⟩, fun x xs D e2 e3 => ?_⟩
  · obtain ⟨ds, hd⟩ := a5 n hn
    obtain ⟨_, b2, b3, _⟩ := at1 hd
    exact ⟨⟨_, _, _, b2⟩, b3⟩
  · obtain ⟨n, hn, rfl⟩ := List.mem_map.mp hv
    obtain ⟨ds, hd⟩ := a5 n hn
    exact noC_of (at1 hd).2.2.2.1
  · have h1 : (Value.ref C == Value.ref D) = decide (x = c) := by
      by_cases q : x = c
      · subst q
        rw [hb] at e3; cases e3
        rw [beq_self_eq_true, decide_eq_true rfl]
      · rw [decide_eq_false q, beq_eq_false_iff_ne]
        intro z
        exact q (inj e2 e (by rw [e3, hb, z]))
    have h2 : VEm.contains (Value.ref D) = false := by rfl
    have h3 : (cs.map fun n => (h.nsMap mainGlobals n).getD .none).contains (Value.ref D) = cs.contains x := by
      rw [Bool.eq_iff_iff, List.contains_iff_mem, List.contains_iff_mem, List.mem_map]
      constructor
      · rintro ⟨n, hn, q⟩
        obtain ⟨ds, hd⟩ := a5 n hn
        obtain ⟨C', _, _, _, _, _, _, _, _, _, _, _, _, _, _, _, hb', _⟩ := Heap.ownExcQ_of_ok (at1 hd).2.1 (at1 hd).2.2.1
        rw [hb'] at q
        have q : Value.ref C' = Value.ref D := q
        have : n = x := inj hd e2 (by rw [hb', e3, q])
        exact this ▸ hn
      · intro hn
        exact ⟨x, hn, by rw [e3]; rfl⟩
    rw [List.contains_cons, show (Value.ref D == Value.ref C) = (Value.ref C == Value.ref D) from BEq.comm, h1, List.contains_append, h2, h3, Bool.or_false]
/-- a law holds: its top ends well, its text is well said, and its calls answer true -/
theorem head_law {l : OpenLaw} {q : Program} {loose : List Str} {D : Tbl} {cl : List (Str × List Str)} {N n : Nat} {P : Pg} (k : l.wellSaid = true)
    (hl : LeftO l.row.prog q loose (fun s => xlAt q [] s && recOk (RowW.records l.row.toRowW) s && tblX D s && clsOk cl s.heap) (tblF D) (tblA D) N)
    (hdef : defOf q l.row.name = some (lawDef q)) (hp : l.row.prog.theDef l.row.name = some ((lawDef q).1.params, (lawDef q).1.body, (lawDef q).1.scope)) (hk : kwWritten? (lawDef q).1.params.kwonlyargs (lawDef q).1.params.kw_defaults = some (lawDef q).2)
    (hwr : (!l.row.writes || l.row.records.isEmpty) = true) (ok : (chainsOk q && opensWell l.row.prog && (frees l.row.toRowW && l.row.within.isEmpty)) = true) (hb : l.row.prog.bare) (hw : l.row.toRowW.promised)
    (hm : l.most = some 63) (hbd : l.bound = none) (hfree : freeOk q loose = true) (hfn : ∀ f fn, P.fn f = some fn → DefIs q f fn) (hdn : (lawDef q).1.name = ("law" : Str)) (hN : n ≤ 200) (hpc : P.cls = lookC cl)
    (hgl : ∀ (w : World) (mean : ExcName → Option Value) (mg mb : Str → Option Value) (h : Heap) (os : OsState), tblXP D mg → tblP D w h → Top q (looseW q loose) mean mg mb h → ∀ x a, P.glob x = some a → ∃ v, mg x = some v ∧ ∀ w' H, St ⟨l.prog, w, h, os, mg, mb, [], none⟩ w' H → VR ⟨l.prog, w, h, os, mg, mb, [], none⟩ w' a v)
    (hrun : ∀ ns : List Int, ns.length ≤ 63 → ∃ H', callP P n ("law" : Str) [.lst (ns.map .int)] [] = some (.ok (.bool true), H')) : l.Holds :=
  holds_law k fun said => holds_open (q := q) (loose := loose) (XP := fun mg h => (XL q [] mg h ∧ tblXP D mg) ∧ XC (lookC cl) mg h) (YP := tblP D) (N := N) hl (fun w s e d hd => (List.map_inj_left.mp e) d hd) (fun w h h' y hk d hd => hk _ _ (y d hd))
    (fun s e => have e' := (Bool.and_eq_true_iff.mp e).1; ⟨⟨xl_of s (Bool.and_eq_true_iff.mp (Bool.and_eq_true_iff.mp e').1).1, fun d hd => isAt_of (List.all_eq_true.mp (Bool.and_eq_true_iff.mp e').2 d hd)⟩, clsOk_of (Bool.and_eq_true_iff.mp e).2⟩) (fun mg h h' x hk => ⟨⟨XL.keeps mg h h' x.1.1 hk, x.1.2⟩, x.2.keeps hk⟩) hdef hp hk
    (fun s e => recFacts_of (Bool.and_eq_true_iff.mp (Bool.and_eq_true_iff.mp (Bool.and_eq_true_iff.mp e).1).1).2) hwr said ok hb hw (walk_law hm hbd hfree hfn hdn hN (fun w mean mg mb h os x y T => hgl w mean mg mb h os x.1.2 y T) (fun mg h x => hpc ▸ x.2) hrun)

/-- a table of texts by texts -/
noncomputable def dObj (es : List (Str × Tok × Str × Tok)) (n : Nat) (P : Params) : Obj := { cls := .type "dict", data := .dict (es.map fun e => (⟨PyData.keyHash P e.1, .str e.1 e.2.1, .str e.2.2.1 e.2.2.2⟩ : DictEntry)).toArray n }
noncomputable def tObj (es : List (Str × Tok)) (P : Params) : Obj := { cls := .type "tuple", data := .seq (es.map fun e => Value.str e.1 e.2).toArray }
theorem strs_vrs {cx : Cx} {w : Wl} : ∀ es : List (Str × Tok), VRs cx w (es.map fun e => .str e.1) (es.map fun e => Value.str e.1 e.2)
  | [] => .nil
  | e :: r => .cons .str (strs_vrs r)
/-- what stands in the text's top -/
abbrev Gl (cx : Cx) (x : Str) (a : AV) : Prop := ∃ v, cx.mg x = some v ∧ ∀ w H, St cx w H → VR cx w a v
theorem gl_tup {cx : Cx} {D : Tbl} {x : Str} {a : Addr} {es : List (Str × Tok)} (X : tblXP D cx.mg) (Y : tblP D cx.w cx.h₀) (hd : (x, a, tObj es) ∈ D) (hl : decide (es.length < 100) = true) : Gl cx x (.tup (es.map fun e => .str e.1)) :=
  ⟨.ref a, X _ hd, fun w H S => .tup (n := 0) (S.base _ _ (Y _ hd)).1 (S.base _ _ (Y _ hd)).2 (by rw [List.length_map]; exact Nat.le_trans (Nat.le_of_lt (of_decide_eq_true hl)) (by decide)) (strs_vrs es)⟩
theorem gl_int {cx : Cx} {h : Heap} {q : Program} {loose : List Str} {mean : ExcName → Option Value} {x : Str} {i : Int} (T : Top q loose mean cx.mg cx.mb h) (hv : valOf q x = some (.int i)) : Gl cx x (.int i) := by
  obtain ⟨v, h1, h2⟩ := T.const x _ hv
  have h3 := h2 h
  cases h3
  exact ⟨_, h1, fun _ _ _ => .int⟩
theorem pairs_str {prog : Program} {w : World} : ∀ es : List (Str × Tok × Str × Tok), Pairs (strKind prog w) (es.map fun e => (⟨PyData.keyHash w.params e.1, .str e.1 e.2.1, .str e.2.2.1 e.2.2.2⟩ : DictEntry)) (es.map fun e => (e.1, Value.str e.2.2.1 e.2.2.2))
  | [] => .nil
  | e :: r => .cons (strKind_is prog w e.1 e.2.1) rfl (pairs_str r)
theorem strs_of : ∀ es : List (Str × Tok × Str × Tok), StrVs (es.map fun e => e.2.2.1) (es.map fun e => Value.str e.2.2.1 e.2.2.2)
  | [] => rfl
  | e :: r => ⟨_, _, rfl, strs_of r⟩
theorem gl_dict {cx : Cx} {D : Tbl} {x : Str} {a : Addr} {es : List (Str × Tok × Str × Tok)} {n : Nat} (X : tblXP D cx.mg) (Y : tblP D cx.w cx.h₀) (hd : (x, a, dObj es n) ∈ D) (hn : (es.map (·.1)).Nodup) : Gl cx x (.cdict (es.map fun e => (e.1, e.2.2.1))) := by
  refine ⟨_, X _ hd, fun w H S => ⟨a, es.map fun e => (e.1, Value.str e.2.2.1 e.2.2.2), rfl, ⟨_, _, _, (S.base _ _ (Y _ hd)).1, ⟨rfl, rfl, rfl⟩, rfl, fun e he => ?_, ?_, ?_⟩, (S.base _ _ (Y _ hd)).2, ?_, ?_⟩⟩
  · rw [List.mem_toArray, List.mem_map] at he
    obtain ⟨e', _, rfl⟩ := he
    exact ⟨e'.1, strKind_is _ _ _ _, rfl⟩
  · rw [List.toList_toArray]; exact pairs_str es
  · rw [List.map_map]; exact hn
  · rw [List.map_map, List.map_map]; rfl
  · rw [List.map_map, List.map_map]; exact strs_of es
end Mine


set_option autoImplicit false
set_option linter.unusedVariables false
namespace Mine
open PySem PyProof.Rows

/-- m runs from H and leaves what Q says -/
noncomputable def Rn {α : Type} (m : M α) (H : AHeap) (Q : α → AHeap → Prop) : Prop := ∃ a H', m H = some (.ok a, H') ∧ Q a H'
noncomputable def Fl (I : Loc → AHeap → Prop) (Q : AV → AHeap → Prop) : Res → AHeap → Prop
  | .next σ, H => I σ H
  | .ret v, H => Q v H

section
variable {α β : Type} {m : M α} {f : α → M β} {H H1 : AHeap} {a : α} {Q : β → AHeap → Prop} {R R' : α → AHeap → Prop}
theorem Rn.bind (h : Rn m H fun a H1 => Rn (f a) H1 Q) : Rn (m >>= f) H Q := by
  obtain ⟨a, H1, h1, b, H2, h2, q⟩ := h
  exact ⟨b, H2, bind_of h1 h2, q⟩
theorem Rn.pure (h : R a H) : Rn (Pure.pure a : M α) H R := ⟨a, H, rfl, h⟩
theorem Rn.mono (h : Rn m H R) (k : ∀ a H', R a H' → R' a H') : Rn m H R' := let ⟨a, H', e, q⟩ := h; ⟨a, H', e, k _ _ q⟩
theorem Rn.eq (e : m = Pure.pure a) (h : R a H) : Rn m H R := by rw [e]; exact .pure h
theorem Rn.of (e : m H = some (.ok a, H1)) (h : R a H1) : Rn m H R := ⟨a, H1, e, h⟩
theorem Rn.bof (e : m H = some (.ok a, H1)) (h : Rn (f a) H1 Q) : Rn (m >>= f) H Q := .bind (.of e h)
theorem Rn.then (h : Rn m H R) (k : ∀ a H1, R a H1 → Rn (f a) H1 Q) : Rn (m >>= f) H Q := .bind (h.mono k)
end

theorem listAt_is {H : AHeap} {l : Nat} {xs : List AV} (h : H[l]? = some (.list xs)) : listAt l H = some (.ok xs, H) :=
  bind_of (a := .list xs) (H1 := H) (by unfold objAt; rw [h]) rfl
theorem rdM_is {H : AHeap} {a : AV} {d : PyData} (h : rd H 8 a = some d) : rdM a H = some (.ok d, H) := by unfold rdM; rw [h]
theorem eq_is {H : AHeap} {a b : AV} {d e : PyData} (h1 : rd H 8 a = some d) (h2 : rd H 8 b = some e) : pCmp .Eq a b H = some (.ok (PyData.eqv d e), H) := bind_of (rdM_is h1) (bind_of (rdM_is h2) rfl)
theorem Rn.noX {α : Type} {m : M α} {H : AHeap} {Q : α → AHeap → Prop} (h : Rn m H Q) : Rn (noX m) H Q := let ⟨a, H', e, q⟩ := h; ⟨a, H', by unfold Mine.noX; rw [e], q⟩
theorem noX_pure {α : Type} {a : α} : noX (pure a) = pure a := rfl
theorem FUEL_is : FUEL = 100000 := rfl

theorem forR_go {src : Src} {body : AV → Loc → M Res} (g : Nat → Option AV) (N : Nat) (I : Nat → Loc → AHeap → Prop) {Q : Res → AHeap → Prop}
    (hN : g N = none) (hg : ∀ i σ H, i ≤ N → I i σ H → src.get i H = some (.ok (g i), H))
    (hs : ∀ i σ H, i < N → I i σ H → ∃ a, g i = some a ∧ Rn (body a σ) H (Fl (I (i + 1)) fun v H' => Q (.ret v) H')) (he : ∀ σ H, I N σ H → Q (.next σ) H) :
    ∀ (k fuel i : Nat) (σ : Loc) (H : AHeap), i + k = N → k < fuel → I i σ H → Rn (forLoop src body fuel i σ) H Q
  | 0, 0, i, σ, H, _, hf, _ => absurd hf (Nat.lt_irrefl _)
  | 0, f + 1, i, σ, H, hk, hf, h => by
    have : i = N := hk
    subst this
    unfold forLoop
    refine .bof (hg i σ H (Nat.le_refl _) h) ?_
    rw [hN]
    exact .pure (he _ _ h)
  | k + 1, 0, i, σ, H, _, hf, _ => absurd hf (Nat.not_lt_zero _)
  | k + 1, f + 1, i, σ, H, hk, hf, h => by
    unfold forLoop
    have hi : i < N := by omega
    refine .bof (hg i σ H (Nat.le_of_lt hi) h) ?_
    obtain ⟨a, ha, hr⟩ := hs i σ H hi h
    rw [ha]
    refine .then hr fun r H1 q => ?_
    cases r with
    | next σ' => exact forR_go g N I hN hg hs he k f (i + 1) σ' H1 (by omega) (by omega) q
    | ret v => exact .pure q

/-- a for over what g hands out, N turns -/
theorem forR {src : Src} {body : AV → Loc → M Res} {σ : Loc} {H : AHeap} (g : Nat → Option AV) (N : Nat) (I : Nat → Loc → AHeap → Prop) {Q : Res → AHeap → Prop} (hF : N < 100000)
    (hN : g N = none) (hg : ∀ i σ H, i ≤ N → I i σ H → src.get i H = some (.ok (g i), H)) (h0 : I 0 σ H)
    (hs : ∀ i σ H, i < N → I i σ H → ∃ a, g i = some a ∧ Rn (body a σ) H (Fl (I (i + 1)) fun v H' => Q (.ret v) H')) (he : ∀ σ H, I N σ H → Q (.next σ) H) :
    Rn (forLoop src body FUEL 0 σ) H Q := forR_go g N I hN hg hs he N FUEL 0 σ H (Nat.zero_add _) (by rw [FUEL_is]; exact hF) h0

/-- a for over a frozen list -/
theorem forI {xs : List AV} {body : AV → Loc → M Res} {σ : Loc} {H : AHeap} (I : Nat → Loc → AHeap → Prop) {Q : Res → AHeap → Prop} (hF : xs.length < 100000) (h0 : I 0 σ H)
    (hs : ∀ i a σ H, xs[i]? = some a → I i σ H → Rn (body a σ) H (Fl (I (i + 1)) fun v H' => Q (.ret v) H')) (he : ∀ σ H, I xs.length σ H → Q (.next σ) H) :
    Rn (forLoop (.items xs) body FUEL 0 σ) H Q :=
  forR (fun i => xs[i]?) xs.length I hF (List.getElem?_eq_none (Nat.le_refl _)) (fun _ _ _ _ _ => rfl) h0 (fun i σ H hi h => ⟨xs[i], List.getElem?_eq_getElem hi, hs i _ σ H (List.getElem?_eq_getElem hi) h⟩) he
/-- a for over a list of the heap, which no turn touches -/
theorem forA {l : Nat} {xs : List AV} {body : AV → Loc → M Res} {σ : Loc} {H : AHeap} (I : Nat → Loc → AHeap → Prop) {Q : Res → AHeap → Prop} (hF : xs.length < 100000) (h0 : I 0 σ H)
    (hl : ∀ i σ H, I i σ H → H[l]? = some (.list xs))
    (hs : ∀ i a σ H, xs[i]? = some a → I i σ H → Rn (body a σ) H (Fl (I (i + 1)) fun v H' => Q (.ret v) H')) (he : ∀ σ H, I xs.length σ H → Q (.next σ) H) :
    Rn (forLoop (.at l) body FUEL 0 σ) H Q :=
  forR (fun i => xs[i]?) xs.length I hF (List.getElem?_eq_none (Nat.le_refl _)) (fun i σ H _ h => bind_of (listAt_is (hl i σ H h)) rfl) h0
    (fun i σ H hi h => ⟨xs[i], List.getElem?_eq_getElem hi, hs i _ σ H (List.getElem?_eq_getElem hi) h⟩) he
theorem whR_go {test : Loc → M Bool} {body : Loc → M Res} (I : Nat → Loc → AHeap → Prop) {Q : Res → AHeap → Prop}
    (hs : ∀ n σ H, I n σ H → Rn (test σ) H fun b H1 => (b = false ∧ Q (.next σ) H1) ∨ (b = true ∧ Rn (body σ) H1 (Fl (fun σ' H' => ∃ m, m < n ∧ I m σ' H') fun v H' => Q (.ret v) H'))) :
    ∀ (fuel n : Nat) (σ : Loc) (H : AHeap), n < fuel → I n σ H → Rn (whileLoop test body fuel σ) H Q
  | 0, n, _, _, hf, _ => absurd hf (Nat.not_lt_zero _)
  | f + 1, n, σ, H, hf, h => by
    unfold whileLoop
    refine .then (hs n σ H h) fun b H1 q => ?_
    obtain ⟨rfl, q⟩ | ⟨rfl, q⟩ := q
    · exact .pure q
    · refine .then q fun r H2 q => ?_
      cases r with
      | next σ' =>
        obtain ⟨m, hm, hI⟩ := q
        exact whR_go I hs f m σ' H2 (by omega) hI
      | ret v => exact .pure q
theorem whR {test : Loc → M Bool} {body : Loc → M Res} {σ : Loc} {H : AHeap} (n : Nat) (I : Nat → Loc → AHeap → Prop) {Q : Res → AHeap → Prop} (hF : n < 100000) (h0 : I n σ H)
    (hs : ∀ n σ H, I n σ H → Rn (test σ) H fun b H1 => (b = false ∧ Q (.next σ) H1) ∨ (b = true ∧ Rn (body σ) H1 (Fl (fun σ' H' => ∃ m, m < n ∧ I m σ' H') fun v H' => Q (.ret v) H'))) :
    Rn (whileLoop test body FUEL σ) H Q := whR_go I hs FUEL n σ H (by rw [FUEL_is]; exact hF) h0

theorem LIMis : LIM = 1048576 := by decide
/-- a comprehension over a frozen list whose body is pure -/
theorem compM_go {xs : List AV} {body : AV → M (Option AV)} {g : AV → AV} (h : ∀ a ∈ xs, body a = pure (some (g a))) :
    ∀ (k fuel i : Nat) (acc : List AV), i + k = xs.length → k < fuel → acc.length + k < LIM → compLoop (.items xs) body fuel i acc = pure (acc ++ (xs.drop i).map g)
  | 0, 0, i, acc, _, hf, _ => absurd hf (Nat.lt_irrefl _)
  | 0, f + 1, i, acc, hk, hf, _ => by
    unfold compLoop
    show (do let r ← (pure xs[i]? : M _); _) = _
    rw [List.getElem?_eq_none (by omega), pure_bind, List.drop_of_length_le (by omega)]
    simp
  | k + 1, 0, i, acc, _, hf, _ => absurd hf (Nat.not_lt_zero _)
  | k + 1, f + 1, i, acc, hk, hf, hL => by
    unfold compLoop
    have hi : i < xs.length := by omega
    show (do let r ← (pure xs[i]? : M _); _) = _
    rw [List.getElem?_eq_getElem hi, pure_bind]
    simp only [h _ (List.getElem_mem hi), noX_pure, pure_bind]
    rw [if_pos (by omega), compM_go h k f (i + 1) _ (by omega) (by omega) (by rw [List.length_append]; simp; omega), List.drop_eq_getElem_cons hi, List.map_cons, List.append_assoc]
    rfl
theorem compM {xs : List AV} {body : AV → M (Option AV)} (g : AV → AV) (hl : xs.length < 100000) (h : ∀ a ∈ xs, body a = pure (some (g a))) : compLoop (.items xs) body FUEL 0 [] = pure (xs.map g) := by
  have := compM_go h xs.length FUEL 0 [] (Nat.zero_add _) (by rw [FUEL_is]; exact hl) (by rw [LIMis]; simp; omega)
  simpa using this

theorem callRn {P : Pg} {n : Nat} {f : Str} {as : List AV} {σ : Loc} {H : AHeap} {Q : AV → AHeap → Prop} (hf : P.fn f = some (fnD P f)) (hl : as.length = (fnD P f).params.length) (hσ : as.map some ++ List.replicate ((fnD P f).names.length - as.length) none = σ)
    (h : Rn (tl P (callP P n) f [] 0 40 σ) H (Fl (fun _ H' => Q .none H') Q)) : Rn (callP P (n + 1) f as) H Q := by
  obtain ⟨r, H', h1, q⟩ := h
  cases r with
  | next σ' => exact ⟨_, _, callN hf hl hσ h1, q⟩
  | ret a => exact ⟨_, _, callR hf hl hσ h1, q⟩
/-- pure facts of the primitives -/
theorem srcOf_lst {xs : List AV} : srcOf (.lst xs) = pure (.items xs) := rfl
theorem small62_of {i : Int} (h : -1000000 ≤ i ∧ i ≤ 1000000) : small62 i = true := by unfold small62; simp; omega
theorem srcOf_range {a b : Int} (ha : -1000000 ≤ a ∧ a ≤ 1000000) (hb : -1000000 ≤ b ∧ b ≤ 1000000) : srcOf (.range a b) = pure (.items (rangeL a b)) := by
  show (if small62 a && small62 b then pure (Src.items (rangeL a b)) else stuck) = _
  rw [small62_of ha, small62_of hb]; rfl
theorem e_range1 {mu : Bool} {n : Int} : pBI mu .range [.int n] = pure (.range 0 n) := rfl
theorem e_range2 {mu : Bool} {a n : Int} : pBI mu .range [.int a, .int n] = pure (.range a n) := rfl
theorem rangeL_length (a b : Int) : (rangeL a b).length = (b - a).toNat := by unfold rangeL; simp
theorem rangeL_at {a b : Int} {i : Nat} {x : AV} (h : (rangeL a b)[i]? = some x) : x = .int (a + i) ∧ i < (b - a).toNat := by
  unfold rangeL at h
  rw [List.getElem?_map] at h
  cases h1 : (List.range (b - a).toNat)[i]? with
  | none => rw [h1] at h; cases h
  | some j =>
    rw [h1] at h; cases h
    have := List.getElem?_eq_some_iff.mp h1
    obtain ⟨h2, h3⟩ := this
    rw [List.length_range] at h2
    rw [List.getElem_range] at h3
    subst h3; exact ⟨rfl, h2⟩
theorem mem_rangeL {a b : Int} {x : AV} (h : x ∈ rangeL a b) : ∃ i : Nat, x = .int (a + i) ∧ i < (b - a).toNat := by
  obtain ⟨i, hi⟩ := List.mem_iff_getElem?.mp h
  exact ⟨i, rangeL_at hi⟩
theorem listOf_loc {H : AHeap} {l : Nat} {xs : List AV} (h : H[l]? = some (.list xs)) : listOf (.loc l) H = some (.ok xs, H) := listAt_is h
theorem seqOf_loc {H : AHeap} {l : Nat} {xs : List AV} (h : H[l]? = some (.list xs)) : seqOf (.loc l) H = some (.ok xs, H) := listAt_is h
theorem srcOf_loc {H : AHeap} {l : Nat} {xs : List AV} (h : H[l]? = some (.list xs)) : srcOf (.loc l) H = some (.ok (.at l), H) := bind_of (listAt_is h) rfl
theorem len_loc {mu : Bool} {H : AHeap} {l : Nat} {xs : List AV} (h : H[l]? = some (.list xs)) : pBI mu .len [.loc l] H = some (.ok (.int xs.length), H) :=
  bind_of (seqOf_loc h) rfl
theorem idx_nat {k n : Nat} (h : k < n) : idx (k : Int) n = some k := by
  unfold idx
  rw [if_pos (by omega), if_pos (by omega)]; simp
theorem item_loc {H : AHeap} {l k : Nat} {xs : List AV} {a : AV} (h : H[l]? = some (.list xs)) (hk : xs[k]? = some a) : pItem (.loc l) (.int k) H = some (.ok a, H) := by
  refine bind_of (seqOf_loc h) ?_
  rw [idx_nat (List.getElem?_eq_some_iff.mp hk).1]
  show (ofOpt xs[k]? : M AV) H = _
  rw [hk]; rfl
theorem list_loc {H : AHeap} {l : Nat} {xs : List AV} (h : H[l]? = some (.list xs)) (hl : xs.length ≤ LIM) : pBI false .list [.loc l] H = some (.ok (.lst xs), H) :=
  bind_of (seqOf_loc h) (by rw [e_newL hl]; rfl)
theorem meth_loc {H : AHeap} {l : Nat} {xs vs : List AV} {m : Str} {k : Mt} {r : Except Str AV × AHeap} (hm : mtOf m = some k) (h : H[l]? = some (.list xs)) (e : methL l xs vs k H = some r) : pMeth m (.loc l) vs H = some r := by
  unfold pMeth
  rw [hm]
  exact bind_of (listAt_is h) e
theorem append_loc {H : AHeap} {l : Nat} {xs : List AV} {v : AV} (h : H[l]? = some (.list xs)) (hl : xs.length < LIM) : pMeth "append" (.loc l) [v] H = some (.ok .none, H.set l (.list (xs ++ [v]))) := meth_loc (k := .append) rfl h (by
  show (if xs.length < LIM then _ else _ : M AV) H = _
  rw [if_pos hl]; rfl)
theorem popAt_is {H : AHeap} {l k : Nat} {xs : List AV} {v : AV} (hk : xs[k]? = some v) : popAt l xs k H = some (.ok v, H.set l (.list (xs.eraseIdx k))) := by unfold popAt; rw [hk]; rfl
theorem mapM_ok {α β : Type} {f : α → Option β} : ∀ {xs : List α}, (∀ x ∈ xs, ∃ y, f x = some y) → ∃ ys, xs.mapM f = some ys ∧ ys.length = xs.length
  | [], _ => ⟨[], by simp, rfl⟩
  | x :: r, h => by
    obtain ⟨y, hy⟩ := h x (List.mem_cons_self ..)
    obtain ⟨ys, h1, h2⟩ := mapM_ok (xs := r) fun z hz => h z (List.mem_cons_of_mem _ hz)
    exact ⟨y :: ys, by simp [hy, h1], by simp [h2]⟩
theorem eqv_nil (ds : List PyData) : PyData.eqv (.list ds) (.list []) = ds.isEmpty := by cases ds <;> rfl
theorem rd_nil {H : AHeap} {n : Nat} : rd H (n + 1) (.lst []) = some (.list []) := by simp [rd]
theorem eq_nil_loc {H : AHeap} {l : Nat} {xs : List AV} (h : H[l]? = some (.list xs)) (hx : ∀ x ∈ xs, ∃ d, rd H 7 x = some d) : pCmp .Eq (.loc l) (.lst []) H = some (.ok xs.isEmpty, H) := by
  obtain ⟨ds, h1, h2⟩ := mapM_ok hx
  have e1 : rd H 8 (.loc l) = some (.list ds) := by unfold rd; simp only [h, h1, Option.map_some]
  rw [eq_is e1 rd_nil, eqv_nil]
  have : ds.isEmpty = xs.isEmpty := by cases ds <;> cases xs <;> simp_all
  rw [this]
theorem ne_nil_loc {H : AHeap} {l : Nat} {xs : List AV} (h : H[l]? = some (.list xs)) (hx : ∀ x ∈ xs, ∃ d, rd H 7 x = some d) : pCmp .NotEq (.loc l) (.lst []) H = some (.ok !xs.isEmpty, H) :=
  bind_of (eq_nil_loc h hx) rfl
theorem rd_int {H : AHeap} {n : Nat} {i : Int} : rd H n (.int i) = some (.int i) := by unfold rd; rfl
theorem newT {H : AHeap} {xs : List AV} (h : xs.length ≤ LIM) : newL true xs H = some (.ok (.loc H.length), H ++ [.list xs]) := by unfold newL; rw [if_pos h]; rfl
theorem mapM_inv {α β : Type} {f : α → Option β} {x : α} {xs : List α} {ys : List β} (h : (x :: xs).mapM f = some ys) : ∃ y r, f x = some y ∧ xs.mapM f = some r ∧ ys = y :: r := by
  simp only [List.mapM_cons, Option.bind_eq_bind, Option.bind_eq_some_iff, Option.pure_def, Option.some.injEq] at h
  obtain ⟨y, h1, r, h2, h3⟩ := h
  exact ⟨y, r, h1, h2, h3.symm⟩
theorem mapM_eqv {f : AV → Option PyData} (hf : ∀ a d, f a = some d → PyData.eqv d d = true) : ∀ {xs : List AV} {ds : List PyData}, xs.mapM f = some ds → PyData.eqvAll ds ds = true
  | [], ds, h => by simp at h; subst h; rfl
  | x :: r, ds, h => by
    obtain ⟨y, r', h1, h2, rfl⟩ := mapM_inv h
    rw [PyData.eqvAll, hf _ _ h1, mapM_eqv hf h2]; rfl
theorem rd_eqv {H : AHeap} : ∀ {n : Nat} {a : AV} {d : PyData}, rd H n a = some d → PyData.eqv d d = true
  | n, .none, d, h => by unfold rd at h; cases h; rfl
  | n, .bool b, d, h => by unfold rd at h; cases h; simp [PyData.eqv]
  | n, .int b, d, h => by unfold rd at h; cases h; simp [PyData.eqv]
  | n, .str x, d, h => by
    unfold rd at h
    split at h
    · cases h; simp [PyData.eqv]
    · cases h
  | 0, .tup xs, d, h => by unfold rd at h; cases h
  | 0, .lst xs, d, h => by unfold rd at h; cases h
  | 0, .loc l, d, h => by unfold rd at h; cases h
  | n, .range _ _, d, h => by unfold rd at h; cases h
  | n, .cdict _, d, h => by unfold rd at h; cases h
  | n, .exc _, d, h => by unfold rd at h; cases h
  | n + 1, .tup xs, d, h => by
    unfold rd at h
    obtain ⟨ds, h1, rfl⟩ := Option.map_eq_some_iff.mp h
    rw [PyData.eqv]; exact mapM_eqv (fun a d => rd_eqv (n := n)) h1
  | n + 1, .lst xs, d, h => by
    unfold rd at h
    obtain ⟨ds, h1, rfl⟩ := Option.map_eq_some_iff.mp h
    rw [PyData.eqv]; exact mapM_eqv (fun a d => rd_eqv (n := n)) h1
  | n + 1, .loc l, d, h => by
    unfold rd at h
    cases hl : H[l]? with
    | none => simp only [hl] at h; cases h
    | some o =>
      cases o with
      | dict es => simp only [hl] at h; cases h
      | list xs =>
        simp only [hl] at h
        obtain ⟨ds, h1, rfl⟩ := Option.map_eq_some_iff.mp h
        rw [PyData.eqv]; exact mapM_eqv (fun a d => rd_eqv (n := n)) h1
theorem eq_same {H : AHeap} {a b : AV} {d : PyData} (h1 : rd H 8 a = some d) (h2 : rd H 8 b = some d) : pCmp .Eq a b H = some (.ok true, H) := by
  rw [eq_is h1 h2, rd_eqv h1]
theorem Rn.each0 {H : AHeap} {Q : List AV → AHeap → Prop} (h : Q [] H) : Rn (eachM []) H Q := .pure h
theorem Rn.eachC {m : M AV} {r : List (M AV)} {H : AHeap} {Q : List AV → AHeap → Prop} (h : Rn m H fun a H1 => Rn (eachM r) H1 fun vs H2 => Q (a :: vs) H2) : Rn (eachM (m :: r)) H Q :=
  .bind (h.mono fun a H1 q => .bind (q.mono fun vs H2 q => .pure q))
theorem Rn.eachE {m : M AV} {r : List (M AV)} {H H1 : AHeap} {a : AV} {Q : List AV → AHeap → Prop} (e : m H = some (.ok a, H1)) (h : Rn (eachM r) H1 fun vs H2 => Q (a :: vs) H2) : Rn (eachM (m :: r)) H Q := .eachC (.of e h)
theorem Rn.eachP {a : AV} {r : List (M AV)} {H : AHeap} {Q : List AV → AHeap → Prop} (h : Rn (eachM r) H fun vs H2 => Q (a :: vs) H2) : Rn (eachM (Pure.pure a :: r)) H Q := .eachC (.pure h)
theorem e_eqs {a b : Str} (ha : PyData.strOk a = true) (hb : PyData.strOk b = true) : pCmp .Eq (.str a) (.str b) = pure (decide (a = b)) := by
  funext H
  have q : ∀ {x : Str}, PyData.strOk x = true → rd H 8 (.str x) = some (.str x) := fun h => by unfold rd; rw [if_pos h]
  rw [eq_is (q ha) (q hb)]
  show some (Except.ok (a == b), H) = some (Except.ok (decide (a = b)), H)
  by_cases h : a = b
  · subst h; simp
  · have : (a == b) = false := by simpa using h
    rw [this, decide_eq_false h]
theorem pop_last {H : AHeap} {l : Nat} {xs : List AV} {v : AV} (h : H[l]? = some (.list (xs ++ [v]))) : pMeth "pop" (.loc l) [] H = some (.ok v, H.set l (.list xs)) := meth_loc (k := .pop) rfl h (by
  have e : (xs ++ [v]).eraseIdx xs.length = xs := by rw [List.eraseIdx_append_of_length_le (Nat.le_refl _), Nat.sub_self]; exact List.append_nil _
  have := popAt_is (H := H) (l := l) (xs := xs ++ [v]) (k := xs.length) (v := v) List.getElem?_concat_length
  rw [e] at this
  show popAt l (xs ++ [v]) ((xs ++ [v]).length - 1) H = _
  rw [List.length_append]
  exact this)
theorem e_it0 {x : AV} {xs : List AV} : pItem (.tup (x :: xs)) (.int 0) = pure x := e_item_tup (k := 0) rfl
end Mine


set_option autoImplicit false
set_option linter.unusedVariables false
namespace Mine
open PySem PyProof.Rows

/-- the objects os stand at ls; H₀ is kept outside of ls -/
structure Fc (H₀ H : AHeap) (ls : List Nat) (os : List AO) : Prop where
  all : ∀ (j l : Nat) (o : AO), ls[j]? = some l → os[j]? = some o → H[l]? = some o
  nd : ls.Nodup
  len : H₀.length ≤ H.length
  out : ∀ l : Nat, l < H₀.length → l ∉ ls → H[l]? = H₀[l]?

namespace Fc
variable {H₀ H : AHeap} {ls : List Nat} {os os' : List AO}
theorem lt (F : Fc H₀ H ls os) (hlen : ls.length = os.length) {l : Nat} (hl : l ∈ ls) : l < H.length := by
  obtain ⟨j, hj⟩ := List.mem_iff_getElem?.mp hl
  have h1 := (List.getElem?_eq_some_iff.mp hj).1
  have := F.all j l os[j] hj (List.getElem?_eq_getElem (by omega))
  exact (List.getElem?_eq_some_iff.mp this).1
/-- two new objects -/
theorem more2 (F : Fc H₀ H ls os) (hlen : ls.length = os.length) (a b : AO) : Fc H₀ (H ++ [a] ++ [b]) (ls ++ [H.length, H.length + 1]) (os ++ [a, b]) where
  all := fun j l o hj ho => by
    rw [List.append_assoc]
    by_cases hjl : j < ls.length
    · rw [List.getElem?_append_left hjl] at hj
      rw [List.getElem?_append_left (by omega)] at ho
      have := F.all j l o hj ho
      rw [List.getElem?_append_left (List.getElem?_eq_some_iff.mp this).1]; exact this
    · rw [List.getElem?_append_right (by omega)] at hj ho
      rw [← hlen] at ho
      match hk : j - ls.length, hj, ho with
      | 0, hj, ho => simp at hj ho; subst hj; subst ho; simp
      | 1, hj, ho => simp at hj ho; subst hj; subst ho; simp
      | k + 2, hj, ho => simp at hj
  nd := by
    rw [List.nodup_append]
    refine ⟨F.nd, by simp, fun x hx y hy => ?_⟩
    have := F.lt hlen hx
    simp at hy
    omega
  len := by have := F.len; simp; omega
  out := fun l h1 h2 => by
    have h3 : l < H.length := Nat.lt_of_lt_of_le h1 F.len
    rw [List.append_assoc, List.getElem?_append_left h3]
    exact F.out l h1 fun h => h2 (List.mem_append_left _ h)
end Fc

theorem dictAt_is {H : AHeap} {l : Nat} {es : List (Str × AV)} (h : H[l]? = some (.dict es)) : dictAt l H = some (.ok es, H) :=
  bind_of (a := .dict es) (H1 := H) (by unfold objAt; rw [h]) rfl
theorem dItem {H : AHeap} {l : Nat} {es : List (Str × AV)} {k : Str} {v : AV} (h : H[l]? = some (.dict es)) (hk : look es k = some v) : pItem (.loc l) (.str k) H = some (.ok v, H) :=
  bind_of (dictAt_is h) (by rw [hk]; rfl)
theorem lStore {H : AHeap} {l : Nat} {xs : List AV} {i : Nat} {v : AV} (h : H[l]? = some (.list xs)) (hi : i < xs.length) : pStore (.loc l) (.int i) v H = some (.ok (), H.set l (.list (xs.set i v))) :=
  bind_of (listAt_is h) (by rw [if_pos ⟨Int.natCast_nonneg _, Int.ofNat_lt.mpr hi⟩]; rfl)
theorem newDT {H : AHeap} {es : List (Str × AV)} : newD es H = some (.ok (.loc H.length), H ++ [.dict es]) := rfl

/-- what stands in a tower's state, and at the hand that does the step -/
structure Cn where
  st : Nat
  lb : Nat
  lsp : Nat
  lh : Nat
  lr : Nat
  hd : Nat
  w : Nat
  kp : Nat
  kind : Str
  boxes : List AV
  head : AV
  mark : Int
  spare : List AV
  hs : List AV
  time : Int
  rows : List AV
  prog : List AV
  place : Int
  wv : AV
  deed : AV
  begun : Int
  next : Str
  own : AV
  seen : AV
  inside : AV
  walk : AV
  kept : List AV
  row : AV
namespace Cn
noncomputable def sD (c : Cn) : List (Str × AV) := [("kind", .str c.kind), ("boxes", .loc c.lb), ("head", c.head), ("mark", .int c.mark), ("spare", .loc c.lsp), ("hands", .loc c.lh), ("time", .int c.time), ("rows", .loc c.lr)]
noncomputable def hD (c : Cn) : List (Str × AV) := [("program", .tup c.prog), ("place", .int c.place), ("work", c.wv)]
noncomputable def wD (c : Cn) : List (Str × AV) := [("deed", c.deed), ("begun", .int c.begun), ("next", .str c.next), ("own", c.own), ("seen", c.seen), ("inside", c.inside), ("walk", c.walk), ("kept", .loc c.kp), ("row", c.row)]
noncomputable def ls (c : Cn) : List Nat := [c.st, c.lb, c.lsp, c.lh, c.lr, c.hd, c.kp, c.w]
noncomputable def os (c : Cn) : List AO := [.dict c.sD, .list c.boxes, .list c.spare, .list c.hs, .list c.rows, .dict c.hD, .list c.kept, .dict c.wD]
end Cn
abbrev Foc (H₀ H : AHeap) (c : Cn) : Prop := Fc H₀ H c.ls c.os
namespace Foc
variable {H₀ H : AHeap} {c : Cn}
theorem s (F : Foc H₀ H c) : H[c.st]? = some (.dict c.sD) := F.all 0 _ _ rfl rfl
theorem b (F : Foc H₀ H c) : H[c.lb]? = some (.list c.boxes) := F.all 1 _ _ rfl rfl
theorem h (F : Foc H₀ H c) : H[c.lh]? = some (.list c.hs) := F.all 3 _ _ rfl rfl
theorem r (F : Foc H₀ H c) : H[c.lr]? = some (.list c.rows) := F.all 4 _ _ rfl rfl
theorem d (F : Foc H₀ H c) : H[c.hd]? = some (.dict c.hD) := F.all 5 _ _ rfl rfl
theorem w (F : Foc H₀ H c) : H[c.w]? = some (.dict c.wD) := F.all 7 _ _ rfl rfl
theorem k (F : Foc H₀ H c) : H[c.kp]? = some (.list c.kept) := F.all 6 _ _ rfl rfl
-- what is read
end Foc
namespace Cn
/-- a deed is begun -/
noncomputable def beg (c : Cn) (k w : Nat) (d : AV) (nx : Str) : Cn := { c with kp := k, w := w, deed := d, begun := c.time, next := nx, own := .none, seen := .none, inside := .none, walk := .none, kept := [], row := .none }
end Cn
end Mine


set_option autoImplicit false
set_option linter.unusedVariables false
set_option maxRecDepth 100000
namespace Mine
open PySem PyProof.Rows

noncomputable def mixed (c k : Int) : Int := (((c + 7919 * k) * 48271).fmod 2147483647 * ((c + 7919 * k) * 48271).fmod 2147483647).fmod 2147483629
theorem mixed_ge (c k : Int) : 0 ≤ mixed c k := (fmod_lt _ (by decide)).1
noncomputable def cellAt (ns : List Int) (k : Nat) : Int := match ns[k]? with
  | some c => mixed c k
  | none => 0
noncomputable def valueBy (c : Int) : Int := if c.fmod 4 = 0 then c.fdiv 4 * 7919 * 7919 * 7919 - 100000000000000000000 else (c.fdiv 4).fmod 5 - 1
theorem d4 : (4 : Int) ≠ 0 ∧ (4 : Int).natAbs < 1073741824 := ⟨by decide, by decide⟩
theorem d8 : (8 : Int) ≠ 0 ∧ (8 : Int).natAbs < 1073741824 := ⟨by decide, by decide⟩
theorem d12 : (12 : Int) ≠ 0 ∧ (12 : Int).natAbs < 1073741824 := ⟨by decide, by decide⟩
theorem d32 : (32 : Int) ≠ 0 ∧ (32 : Int).natAbs < 1073741824 := ⟨by decide, by decide⟩

/-- the kinds of deeds -/
inductive Dk where
  | push | pop | top | swap | clear
noncomputable def deedK (k : Dk) (v : Int) : AV := match k with
  | .push => .tup [.str "push", .int v]
  | .pop => .tup [.str "pop"]
  | .top => .tup [.str "top"]
  | .swap => .tup [.str "swap", .int v]
  | .clear => .tup [.str "clear"]
theorem m_addL {xs ys : List AV} (h : xs.length + ys.length ≤ LIM) : pBin false .Add (.lst xs) (.lst ys) = pure (.lst (xs ++ ys)) := by
  show (do let a ← listOf (.lst xs); let b ← listOf (.lst ys); newL false (a ++ b)) = _
  show newL false (xs ++ ys) = _
  exact e_newL (by rw [List.length_append]; exact h)
theorem l0 {x : AV} {xs : List AV} : pItem (.lst (x :: xs)) (.int 0) = pure x := e_item_lst (k := 0) rfl
end Mine


set_option autoImplicit false
set_option linter.unusedVariables false
namespace Mine
open PySem PyProof.Rows

theorem compA_go {src : Src} {body : AV → M (Option AV)} (xs : List AV) (I : Nat → List AV → AHeap → Prop) (hl : xs.length < 100000)
    (hg : ∀ (i : Nat) acc H, I i acc H → src.get i H = some (.ok (xs[i]?), H))
    (hs : ∀ (i : Nat) a acc H, xs[i]? = some a → acc.length = i → I i acc H → Rn (body a) H fun o H' => ∃ y, o = some y ∧ I (i + 1) (acc ++ [y]) H') :
    ∀ (k fuel i : Nat) (acc : List AV) (H : AHeap), i + k = xs.length → acc.length = i → k < fuel → I i acc H → Rn (compLoop src body fuel i acc) H fun ys H' => I xs.length ys H' ∧ ys.length = xs.length
  | 0, 0, i, σ, H, _, _, hf, _ => absurd hf (Nat.lt_irrefl _)
  | 0, f + 1, i, acc, H, hk, ha, hf, h => by
    unfold compLoop
    refine .bof (hg i acc H h) ?_
    rw [List.getElem?_eq_none (by omega)]
    have : i = xs.length := by omega
    subst this
    exact .pure ⟨h, ha⟩
  | k + 1, 0, i, σ, H, _, _, hf, _ => absurd hf (Nat.not_lt_zero _)
  | k + 1, f + 1, i, acc, H, hk, hacc, hf, h => by
    unfold compLoop
    have hi : i < xs.length := by omega
    refine .bof (hg i acc H h) ?_
    have ha := List.getElem?_eq_getElem hi
    rw [ha]
    refine .then (hs i _ acc H ha hacc h).noX fun o H1 q => ?_
    obtain ⟨y, rfl, q⟩ := q
    have hL : acc.length < LIM := by have := LIMis; omega
    simp only [hL, if_true]
    exact compA_go xs I hl hg hs k f (i + 1) (acc ++ [y]) H1 (by omega) (by rw [List.length_append]; simp; omega) (by omega) q
/-- a comprehension without a test -/
theorem compA {src : Src} {body : AV → M (Option AV)} {H : AHeap} (xs : List AV) (I : Nat → List AV → AHeap → Prop) (hl : xs.length < 100000)
    (hg : ∀ (i : Nat) acc H, I i acc H → src.get i H = some (.ok (xs[i]?), H)) (h0 : I 0 [] H)
    (hs : ∀ (i : Nat) a acc H, xs[i]? = some a → acc.length = i → I i acc H → Rn (body a) H fun o H' => ∃ y, o = some y ∧ I (i + 1) (acc ++ [y]) H') :
    Rn (compLoop src body FUEL 0 []) H fun ys H' => I xs.length ys H' ∧ ys.length = xs.length :=
  compA_go xs I hl hg hs xs.length FUEL 0 [] H (Nat.zero_add _) rfl (by rw [FUEL_is]; exact hl) h0

noncomputable def AllN (L : List AV) : Prop := ∀ x ∈ L, ∃ v : Int, x = .int v ∧ 0 ≤ v
theorem mod_nat {i : Int} {m : Nat} (hm : 1 ≤ m) : ∃ j : Nat, j < m ∧ pBin false .Mod (.int i) (.int m) = pure (.int j) := by
  have h := fmod_lt i (b := (m : Int)) (by omega)
  obtain ⟨j, hj⟩ := Int.eq_ofNat_of_zero_le h.1
  exact ⟨j, by omega, by rw [m_mod (by omega), hj]⟩
theorem set_at {H : AHeap} {l : Nat} {o x : AO} (h : H[l]? = some o) : (H.set l x)[l]? = some x := List.getElem?_set_self (List.getElem?_eq_some_iff.mp h).1
theorem app_at {H : AHeap} {o : AO} : (H ++ [o])[H.length]? = some o := by simp
theorem app_lt {H : AHeap} {o : AO} {l : Nat} (h : l < H.length) : (H ++ [o])[l]? = H[l]? := List.getElem?_append_left h
theorem get_loc {H : AHeap} {l i : Nat} {xs : List AV} (h : H[l]? = some (.list xs)) : (Src.at l).get i H = some (.ok xs[i]?, H) := bind_of (listAt_is h) rfl
end Mine


set_option autoImplicit false
set_option linter.unusedVariables false
namespace Mine
open PySem PyProof.Rows

theorem e_neb (a b : Bool) : pCmp .NotEq (.bool a) (.bool b) = pure (a != b) := by cases a <;> cases b <;> kernel_rfl
noncomputable def prV (p : AV × AV) : AV := .tup [p.1, p.2]
theorem zip_map : ∀ (xs ys : List AV), List.zipWith (fun x y => AV.tup [x, y]) xs ys = (xs.zip ys).map prV
  | [], _ => by simp
  | _ :: _, [] => by simp
  | x :: xs, y :: ys => by
    show AV.tup [x, y] :: List.zipWith (fun x y => AV.tup [x, y]) xs ys = prV (x, y) :: (xs.zip ys).map prV
    rw [zip_map xs ys]; rfl
theorem set_far {H X : AHeap} {l : Nat} {o : AO} (h : H.length ≤ l) : (H ++ X).set l o = H ++ X.set (l - H.length) o := by
  rw [List.set_append, if_neg (by omega)]
theorem add_loc {H : AHeap} {l : Nat} {xs ys : List AV} (h : H[l]? = some (.list xs)) (hz : xs.length + ys.length ≤ LIM) : pBin true .Add (.loc l) (.lst ys) H = some (.ok (.loc H.length), H ++ [.list (xs ++ ys)]) :=
  bind_of (listOf_loc h) (show newL true (xs ++ ys) H = _ from newT (by rw [List.length_append]; exact hz))
theorem e_it1 {x y : AV} {xs : List AV} : pItem (.tup (x :: y :: xs)) (.int 1) = pure y := e_item_tup (k := 1) rfl
theorem e_nei {i j : Int} : pCmp .NotEq (.int i) (.int j) = pure (!decide (i = j)) := by
  show (pCmp .Eq (.int i) (.int j) >>= fun r => pure (!r)) = _
  rw [e_eqi]; rfl
theorem e_isN {a : AV} : pCmp .Is a .none = pure (pIsNone a) := rfl
end Mine


set_option autoImplicit false
set_option linter.unusedVariables false
namespace Mine
open PySem PyProof.Rows

structure Deed where
  k : Dk
  v : Int
noncomputable def deedV (d : Deed) : AV := deedK d.k d.v
inductive Kn where
  | marks | bare | new
  deriving DecidableEq
inductive Nx where
  | take | look | see | put | check | walk
inductive An where
  | none
  | int (i : Int)
  | tup (xs : List Int)
structure Wk where
  deed : Deed
  begun : Nat
  next : Nx
  own : Option Nat
  seen : Option (Option Nat × Nat)
  inside : Option (Int × Option Nat)
  walk : Option Nat
  kept : List Int
  row : Option Nat
structure Hd where
  prog : List Deed
  place : Nat
  work : Option Wk
structure Row where
  num : Nat
  place : Nat
  deed : Deed
  begun : Nat
  point : Nat
  fin : Option (Nat × An)
structure Tw where
  kind : Kn
  boxes : List (Int × Option Nat)
  head : Option Nat
  mark : Nat
  spare : List Nat
  hands : List Hd
  time : Nat
  rows : List Row
inductive Td where
  | take (b : Nat)
  | look (h : Option Nat) (m : Nat)
  | see (b : Nat) (v : Int) (u : Option Nat)
  | put (b : Bool)
  | rest

noncomputable def firstN : Dk → Nx
  | .push | .swap => .take
  | _ => .look
noncomputable def lookN : Dk → Nx
  | .push | .clear => .put
  | _ => .see
noncomputable def seeN : Dk → Nx
  | .top => .check
  | _ => .put
noncomputable def Tw.still (t : Tw) (x : Option Nat) (m : Nat) : Bool := decide (t.head = x) && (decide (t.kind ≠ .marks) || decide (t.mark = m))
/-- a deed's row, with its end -/
noncomputable def Tw.ends (t : Tw) (i p : Nat) (w : Wk) (a : An) : Tw := { t with rows := t.rows ++ [⟨i, p, w.deed, w.begun, t.time, some (t.time, a)⟩] }
noncomputable def Tw.below (t : Tw) (o : Nat) (u : Option Nat) : Tw := { t with boxes := t.boxes.set o (((t.boxes[o]?).getD (0, none)).1, u) }
noncomputable def Tw.box (t : Tw) (o : Nat) : Int × Option Nat := (t.boxes[o]?).getD (0, none)

noncomputable def opTake (t : Tw) (w : Wk) : Tw × Option Wk × Td :=
  if t.kind = .new ∨ t.spare = [] then ({ t with boxes := t.boxes ++ [(w.deed.v, none)] }, some { w with own := some t.boxes.length, next := .look }, .take t.boxes.length)
  else ({ t with spare := t.spare.dropLast, boxes := t.boxes.set (t.spare.getLastD 0) (w.deed.v, none) }, some { w with own := some (t.spare.getLastD 0), next := .look }, .take (t.spare.getLastD 0))
noncomputable def opLook (t : Tw) (i p : Nat) (w : Wk) : Tw × Option Wk × Td := match w.deed.k with
  | .push => (t.below (w.own.getD 0) t.head, some { w with seen := some (t.head, t.mark), next := .put }, .look t.head t.mark)
  | k => match t.head with
    | some h => (t, some { w with seen := some (some h, t.mark), next := lookN k }, .look (some h) t.mark)
    | none => match k with
      | .swap => (Tw.ends { t with spare := t.spare ++ [w.own.getD 0] } i p w .none, none, .look none t.mark)
      | .clear => (t.ends i p w (.tup []), none, .look none t.mark)
      | _ => (t.ends i p w .none, none, .look none t.mark)
noncomputable def opSee (t : Tw) (w : Wk) : Tw × Option Wk × Td :=
  let b := ((w.seen.getD (none, 0)).1).getD 0
  let r := t.box b
  match w.deed.k with
  | .swap => (t.below (w.own.getD 0) r.2, some { w with inside := some r, next := .put }, .see b r.1 r.2)
  | k => (t, some { w with inside := some r, next := seeN k }, .see b r.1 r.2)
noncomputable def opPut (t : Tw) (i p : Nat) (w : Wk) : Tw × Option Wk × Td :=
  let s := w.seen.getD (none, 0)
  let r := w.inside.getD (0, none)
  match t.still s.1 s.2 with
  | false => (t, some { w with next := .look }, .put false)
  | true => match w.deed.k with
    | .clear => ({ t with mark := t.mark + 1, head := none, rows := t.rows ++ [⟨i, p, w.deed, w.begun, t.time, none⟩] }, some { w with row := some t.rows.length, walk := t.head, next := .walk }, .put true)
    | .push => (Tw.ends { t with mark := t.mark + 1, head := w.own } i p w .none, none, .put true)
    | .pop => (Tw.ends { t with mark := t.mark + 1, head := r.2, spare := t.spare ++ [t.head.getD 0] } i p w (.int r.1), none, .put true)
    | _ => (Tw.ends { t with mark := t.mark + 1, head := w.own, spare := t.spare ++ [t.head.getD 0] } i p w (.int r.1), none, .put true)
noncomputable def opCheck (t : Tw) (i p : Nat) (w : Wk) : Tw × Option Wk × Td :=
  let s := w.seen.getD (none, 0)
  match t.still s.1 s.2 with
  | true => (t.ends i p w (.int (w.inside.getD (0, none)).1), none, .look t.head t.mark)
  | false => (t, some { w with next := .look }, .look t.head t.mark)
noncomputable def setFin (a : Nat × An) (r : Row) : Row := { r with fin := some a }
noncomputable def opWalk (t : Tw) (w : Wk) : Tw × Option Wk × Td :=
  let b := w.walk.getD 0
  let r := t.box b
  match r.2 with
  | some u => ({ t with spare := t.spare ++ [b] }, some { w with kept := w.kept ++ [r.1], walk := some u }, .see b r.1 (some u))
  | none => ({ t with spare := t.spare ++ [b], rows := t.rows.modify (w.row.getD 0) (setFin (t.time, .tup (w.kept ++ [r.1]))) }, none, .see b r.1 none)
noncomputable def op (t : Tw) (i p : Nat) (w : Wk) : Tw × Option Wk × Td := match w.next with
  | .take => opTake t w
  | .look => opLook t i p w
  | .see => opSee t w
  | .put => opPut t i p w
  | .check => opCheck t i p w
  | .walk => opWalk t w
noncomputable def newW (d : Deed) (time : Nat) : Wk := ⟨d, time, firstN d.k, none, none, none, none, [], none⟩
noncomputable def Hd.now (h : Hd) (time : Nat) : Option Wk := match h.work with
  | some w => some w
  | none => (h.prog[h.place]?).map fun d => newW d time
noncomputable def Hd.next (h : Hd) : Option Wk → Hd
  | some w => { h with work := some w }
  | none => { h with place := h.place + 1, work := none }
noncomputable def step (t : Tw) (i : Nat) : Tw × Td := match t.hands[i]? with
  | none => (t, .rest)
  | some h => match h.now t.time with
    | none => ({ t with time := t.time + 1 }, .rest)
    | some w => ({ (op t i h.place w).1 with hands := t.hands.set i (h.next (op t i h.place w).2.1), time := t.time + 1 }, (op t i h.place w).2.2)
end Mine


set_option autoImplicit false
set_option linter.unusedVariables false
namespace Mine
open PySem PyProof.Rows

noncomputable def IxOk (n : Nat) (x : Option Nat) : Prop := ∀ i, x = some i → i < n
theorem IxOk.none {n : Nat} : IxOk n none := fun i e => by cases e
theorem IxOk.some {n i : Nat} (h : i < n) : IxOk n (some i) := fun j e => by cases e; exact h
noncomputable def BsOk (n : Nat) (bs : List (Int × Option Nat)) : Prop := ∀ b ∈ bs, IxOk n b.2
/-- what is so of a tower at step k -/
structure TwOk (k : Nat) (t : Tw) : Prop where
  head : IxOk t.boxes.length t.head
  boxes : BsOk t.boxes.length t.boxes
  spare : ∀ i ∈ t.spare, i < t.boxes.length
  lb : t.boxes.length ≤ 60 + k
  ls : t.spare.length ≤ k
  lr : t.rows.length ≤ k
noncomputable def OwAt (n : Nat) (x : Option Nat) : Dk → Prop
  | .push => ∃ o, x = some o ∧ o < n
  | .swap => ∃ o, x = some o ∧ o < n
  | _ => True
noncomputable def OwOk (n : Nat) (w : Wk) : Prop := OwAt n w.own w.deed.k
noncomputable def StAt (n r : Nat) (w : Wk) : Nx → Prop
  | .take => w.row = none ∧ (w.deed.k = .push ∨ w.deed.k = .swap)
  | .look => w.row = none ∧ OwOk n w
  | .see => w.row = none ∧ OwOk n w ∧ (w.deed.k = .swap ∨ w.deed.k = .pop ∨ w.deed.k = .top) ∧ ∃ i m, i < n ∧ w.seen = some (some i, m)
  | .put => w.row = none ∧ OwOk n w ∧ w.deed.k ≠ .top ∧ ∃ x m, IxOk n x ∧ w.seen = some (x, m) ∧ (w.deed.k ≠ .push → x ≠ none) ∧ ((w.deed.k = .swap ∨ w.deed.k = .pop) → ∃ v b, w.inside = some (v, b) ∧ IxOk n b)
  | .check => w.row = none ∧ w.deed.k = .top ∧ ∃ x m v b, w.seen = some (x, m) ∧ w.inside = some (v, b)
  | .walk => w.deed.k = .clear ∧ (∃ i, i < n ∧ w.walk = some i) ∧ ∃ j, j < r ∧ w.row = some j
noncomputable def StOk (n r : Nat) (w : Wk) : Prop := StAt n r w w.next
/-- where a hand's work may stand, in a tower of n boxes and r rows -/
noncomputable def WkOk (k n r : Nat) (w : Wk) : Prop := w.kept.length ≤ k ∧ StOk n r w
theorem BsOk.set {n o : Nat} {bs : List (Int × Option Nat)} {x : Int × Option Nat} (h : BsOk n bs) (hx : IxOk n x.2) : BsOk n (bs.set o x) := fun b hb => by
  rcases List.mem_or_eq_of_mem_set hb with q | q
  · exact h b q
  · rw [q]; exact hx
theorem BsOk.box {t : Tw} {n o : Nat} (h : BsOk n t.boxes) : IxOk n (t.box o).2 := by
  unfold Tw.box
  cases e : t.boxes[o]? with
  | none => exact .none
  | some b => exact h b (List.mem_of_getElem? e)
/-- how a step turns a tower -/
structure Gr (t t' : Tw) : Prop where
  kind : t'.kind = t.kind
  hands : t'.hands = t.hands
  time : t'.time = t.time
  bl : t.boxes.length ≤ t'.boxes.length
  rl : t.rows.length ≤ t'.rows.length
section
variable {k : Nat} {t : Tw} {i p : Nat} {w : Wk}
noncomputable def OpOk (k : Nat) (t : Tw) (r : Tw × Option Wk × Td) : Prop := Gr t r.1 ∧ TwOk (k + 1) r.1 ∧ ∀ w', r.2.1 = some w' → WkOk (k + 1) r.1.boxes.length r.1.rows.length w'
theorem TwOk.ends (T : TwOk k t) {s : Tw} {a : An} (h1 : s.boxes = t.boxes) (h2 : IxOk t.boxes.length s.head) (h3 : s.spare = t.spare ∨ ∃ j, j < t.boxes.length ∧ s.spare = t.spare ++ [j]) (h4 : s.rows = t.rows) (hk : s.kind = t.kind) (hh : s.hands = t.hands) (ht : s.time = t.time) {td : Td} : OpOk k t (s.ends i p w a, none, td) := by
  have lb := T.lb
  have ls := T.ls
  have lr := T.lr
  refine ⟨⟨hk, hh, ht, by show _ ≤ s.boxes.length; rw [h1]; exact Nat.le_refl _, by show _ ≤ (s.rows ++ [_]).length; rw [h4, List.length_append]; exact Nat.le_add_right _ _⟩, ⟨by show IxOk s.boxes.length _; rw [h1]; exact h2, by show BsOk s.boxes.length s.boxes; rw [h1]; exact T.boxes, ?_, by show s.boxes.length ≤ _; rw [h1]; omega, ?_, ?_⟩, fun w' e => by cases e⟩
  · show ∀ i ∈ s.spare, i < s.boxes.length
    rw [h1]
    rcases h3 with q | ⟨j, hj, q⟩
    · rw [q]; exact T.spare
    · rw [q]
      intro x hx
      rcases List.mem_append.mp hx with z | z
      · exact T.spare x z
      · rw [List.mem_singleton.mp z]; exact hj
  · show s.spare.length ≤ _
    rcases h3 with q | ⟨j, hj, q⟩
    · rw [q]; omega
    · rw [q, List.length_append]; exact Nat.succ_le_succ ls
  · show (s.rows ++ [_]).length ≤ _
    rw [h4, List.length_append]; exact Nat.succ_le_succ lr
end
end Mine


set_option autoImplicit false
set_option linter.unusedVariables false
namespace Mine
open PySem PyProof.Rows

noncomputable def ixV : Option Nat → AV
  | none => .none
  | some i => .int i
noncomputable def bxV (b : Int × Option Nat) : AV := .tup [.int b.1, ixV b.2]
end Mine


set_option autoImplicit false
set_option linter.unusedVariables false
namespace Mine
open PySem PyProof.Rows
/-- the boxes that a tower begins with -/
noncomputable def bx0 (xs : List Int) : List (Int × Option Nat) := xs.mapIdx fun i v => (v, if i + 1 = xs.length then none else some (i + 1))
theorem bx0_len (xs : List Int) : (bx0 xs).length = xs.length := List.length_mapIdx
theorem bx0_at {xs : List Int} {i : Nat} {v : Int} (h : xs[i]? = some v) : (bx0 xs)[i]? = some (v, if i + 1 = xs.length then none else some (i + 1)) := by
  unfold bx0
  rw [List.getElem?_mapIdx, h]; rfl
noncomputable def run (t : Tw) : List Nat → Tw
  | [] => t
  | i :: r => run (step t i).1 r
end Mine


set_option autoImplicit false
set_option linter.unusedVariables false
set_option maxRecDepth 100000
namespace Mine
open PySem PyProof.Rows
noncomputable def g_KINDS : AV := .tup [.str "marks", .str "bare", .str "new"]
noncomputable def g_MOST_VALUES : AV := .int 60
noncomputable def g_MOST_PROGRAMS : AV := .int 20
noncomputable def g_MOST_DEEDS : AV := .int 60
noncomputable def g_FIRST : AV := .cdict [("push", "take"), ("swap", "take"), ("pop", "look"), ("top", "look"), ("clear", "look")]
noncomputable def g_BEHIND_LOOK : AV := .cdict [("push", "put"), ("swap", "see"), ("pop", "see"), ("top", "see"), ("clear", "put")]
noncomputable def g_BEHIND_SEE : AV := .cdict [("swap", "put"), ("pop", "put"), ("top", "check")]
noncomputable def g_MOST_STEPS : AV := .int 2000
noncomputable def P03 : Pg := ⟨fnOf PySem.Challenge.pw_uf020017_03, lookG [("KINDS", g_KINDS), ("MOST_VALUES", g_MOST_VALUES), ("MOST_PROGRAMS", g_MOST_PROGRAMS), ("MOST_DEEDS", g_MOST_DEEDS), ("FIRST", g_FIRST), ("BEHIND_LOOK", g_BEHIND_LOOK), ("BEHIND_SEE", g_BEHIND_SEE), ("MOST_STEPS", g_MOST_STEPS)], fun p => ([(46, 12, 14), (55, 12, 91), (56, 76, 78), (56, 115, 117), (58, 12, 14), (82, 12, 42), (82, 13, 15), (190, 151, 153), (233, 16, 40), (241, 24, 73), (267, 20, 56), (267, 21, 23), (272, 19, 21), (276, 27, 116), (330, 19, 35), (330, 38, 54)] : List (Nat × Nat × Nat)).contains (p.line, p.col, p.endCol), lookC [("TowerError", []), ("NoKind", ["TowerError"]), ("NoValue", ["TowerError"]), ("NoDeed", ["TowerError"]), ("NoHand", ["TowerError"]), ("TooMany", ["TowerError"])], true⟩
theorem c_is_whole_0 (cf : Str → List AV → M AV) (v_thing : AV) : tl P03 cf "is_whole" [] 0 40 [some v_thing] = (do let y9 ← (do let v1 ← (do let v7 ← pure v_thing; let b8 ← pIsi v7 .int; pure (.bool b8)); let t2 ← truth v1; match t2 with | false => pure v1 | true => (do let v3 ← (do let v5 ← pure v_thing; let b6 ← pIsi v5 .bool; pure (.bool b6)); let b4 ← truth v3; pure (.bool !b4))); pure (.ret y9)) := by kernel_rfl
theorem c_need_all_0 (cf : Str → List AV → M AV) (v_start v_programs v_kind : AV) : tl P03 cf "need_all" [] 0 40 [some v_start, some v_programs, some v_kind, none, none, none] = (do let c1 ← (do let t2 ← (do let b3 ← (do let v6 ← (do let v4 ← pure v_kind; let b5 ← pIsi v4 .str; pure (.bool b5)); truth v6); pure (!b3)); match t2 with | true => pure true | false => (do let t7 ← (pCmp .NotIn v_kind g_KINDS); match t7 with | true => pure true | false => pure false)); match c1 with | true => (do let r ← throwM "NoKind"; goOn (tl P03 cf "need_all" [] 1 39) r) | false => (do let r ← pure (.next [some v_start, some v_programs, some v_kind, none, none, none]); goOn (tl P03 cf "need_all" [] 1 39) r)) := by kernel_rfl
theorem c_need_all_t_1 (cf : Str → List AV → M AV) (v_start : AV) (o_programs o_kind o_value o_program o_deed : Option AV) : tl P03 cf "need_all" [] 1 39 [some v_start, o_programs, o_kind, o_value, o_program, o_deed] = (do let c1 ← (do let v2 ← (pBI false .len [v_start]); pCmp .Gt v2 g_MOST_VALUES); match c1 with | true => (do let r ← throwM "TooMany"; goOn (tl P03 cf "need_all" [] 2 38) r) | false => (do let r ← pure (.next [some v_start, o_programs, o_kind, o_value, o_program, o_deed]); goOn (tl P03 cf "need_all" [] 2 38) r)) := by kernel_rfl
theorem c_need_all_t_2 (cf : Str → List AV → M AV) (v_start : AV) (o_programs o_kind o_value o_program o_deed : Option AV) : tl P03 cf "need_all" [] 2 38 [some v_start, o_programs, o_kind, o_value, o_program, o_deed] = (do let it1 ← pure v_start; let src2 ← srcOf it1; let r ← forLoop src2 (forB P03 cf "need_all" [] 2 37) FUEL 0 [some v_start, o_programs, o_kind, o_value, o_program, o_deed]; goOn (tl P03 cf "need_all" [] 3 37) r) := by kernel_rfl
theorem c_need_all_t_3 (cf : Str → List AV → M AV) (v_programs : AV) (o_start o_kind o_value o_program o_deed : Option AV) : tl P03 cf "need_all" [] 3 37 [o_start, some v_programs, o_kind, o_value, o_program, o_deed] = (do let c1 ← (do let v2 ← (pBI false .len [v_programs]); pCmp .Gt v2 g_MOST_PROGRAMS); match c1 with | true => (do let r ← throwM "TooMany"; goOn (tl P03 cf "need_all" [] 4 36) r) | false => (do let r ← pure (.next [o_start, some v_programs, o_kind, o_value, o_program, o_deed]); goOn (tl P03 cf "need_all" [] 4 36) r)) := by kernel_rfl
theorem c_need_all_for_2 (cf : Str → List AV → M AV) (o_start o_programs o_kind o_value o_program o_deed : Option AV) (a : AV) : forB P03 cf "need_all" [] 2 37 a [o_start, o_programs, o_kind, o_value, o_program, o_deed] = (do let c1 ← (do let b2 ← (do let v3 ← (cf "is_whole" [a]); truth v3); pure (!b2)); match c1 with | true => (do let r ← throwM "NoValue"; goOn (fun σ => pure (.next σ)) r) | false => (do let r ← pure (.next [o_start, o_programs, o_kind, some a, o_program, o_deed]); goOn (fun σ => pure (.next σ)) r)) := by kernel_rfl
theorem c_need_all_t_4 (cf : Str → List AV → M AV) (v_programs : AV) (o_start o_kind o_value o_program o_deed : Option AV) : tl P03 cf "need_all" [] 4 36 [o_start, some v_programs, o_kind, o_value, o_program, o_deed] = (do let it1 ← pure v_programs; let src2 ← srcOf it1; let r ← forLoop src2 (forB P03 cf "need_all" [] 4 35) FUEL 0 [o_start, some v_programs, o_kind, o_value, o_program, o_deed]; goOn (fun σ => pure (.next σ)) r) := by kernel_rfl
theorem c_need_all_for_4 (cf : Str → List AV → M AV) (o_start o_programs o_kind o_value o_program o_deed : Option AV) (a : AV) : forB P03 cf "need_all" [] 4 35 a [o_start, o_programs, o_kind, o_value, o_program, o_deed] = (do let c1 ← (do let v2 ← (pBI false .len [a]); pCmp .Gt v2 g_MOST_DEEDS); match c1 with | true => (do let r ← throwM "TooMany"; goOn (tl P03 cf "need_all" [(4, 0)] 1 34) r) | false => (do let r ← pure (.next [o_start, o_programs, o_kind, o_value, some a, o_deed]); goOn (tl P03 cf "need_all" [(4, 0)] 1 34) r)) := by kernel_rfl
theorem c_need_all_t40_1 (cf : Str → List AV → M AV) (v_program : AV) (o_start o_programs o_kind o_value o_deed : Option AV) : tl P03 cf "need_all" [(4, 0)] 1 34 [o_start, o_programs, o_kind, o_value, some v_program, o_deed] = (do let it1 ← pure v_program; let src2 ← srcOf it1; let r ← forLoop src2 (forB P03 cf "need_all" [(4, 0)] 1 33) FUEL 0 [o_start, o_programs, o_kind, o_value, some v_program, o_deed]; goOn (fun σ => pure (.next σ)) r) := by kernel_rfl
theorem c_need_all_for40_1 (cf : Str → List AV → M AV) (o_start o_programs o_kind o_value o_program o_deed : Option AV) (a : AV) : forB P03 cf "need_all" [(4, 0)] 1 33 a [o_start, o_programs, o_kind, o_value, o_program, o_deed] = (do let c1 ← (do let b2 ← (do let v3 ← (cf "is_deed" [a]); truth v3); pure (!b2)); match c1 with | true => (do let r ← throwM "NoDeed"; goOn (fun σ => pure (.next σ)) r) | false => (do let r ← pure (.next [o_start, o_programs, o_kind, o_value, o_program, some a]); goOn (fun σ => pure (.next σ)) r)) := by kernel_rfl
theorem c_tower_of_0 (cf : Str → List AV → M AV) (v_start v_programs v_kind : AV) : tl P03 cf "tower_of" [] 0 40 [some v_start, some v_programs, some v_kind, none, none, none, none, none, none] = (do let _ ← (cf "need_all" [v_start, v_programs, v_kind]); (do let boxes1 ← (newL true []); (do let it2 ← pure v_start; let _ ← listOf it2; let src3 ← srcOf it2; let r ← forLoop (.enum src3) (forB P03 cf "tower_of" [] 2 37) FUEL 0 [some v_start, some v_programs, some v_kind, some boxes1, none, none, none, none, none]; goOn (tl P03 cf "tower_of" [] 3 37) r))) := by kernel_rfl
theorem c_tower_of_t_3 (cf : Str → List AV → M AV) (v_start : AV) (o_programs o_kind o_boxes o_number o_value o_below o_head o_hands : Option AV) : tl P03 cf "tower_of" [] 3 37 [some v_start, o_programs, o_kind, o_boxes, o_number, o_value, o_below, o_head, o_hands] = (do let c1 ← (do let v2 ← (pBI false .len [v_start]); pCmp .Gt v2 (.int 0)); match c1 with | true => (do let r ← pure (.next [some v_start, o_programs, o_kind, o_boxes, o_number, o_value, o_below, some (.int 0), o_hands]); goOn (tl P03 cf "tower_of" [] 5 35) r) | false => (do let r ← pure (.next [some v_start, o_programs, o_kind, o_boxes, o_number, o_value, o_below, some (.none), o_hands]); goOn (tl P03 cf "tower_of" [] 5 35) r)) := by kernel_rfl
theorem c_tower_of_for_2 (cf : Str → List AV → M AV) (v_start : AV) (o_programs o_kind o_boxes o_number o_value o_below o_head o_hands : Option AV) (a b : AV) : forB P03 cf "tower_of" [] 2 37 (.tup [a, b]) [some v_start, o_programs, o_kind, o_boxes, o_number, o_value, o_below, o_head, o_hands] = (do let below1 ← (pBin false .Add a (.int 1)); (do let c2 ← ((do let c3 ← (pBI false .len [v_start]); pCmp .Eq below1 c3)); match c2 with | true => (do let r ← pure (.next [some v_start, o_programs, o_kind, o_boxes, some a, some b, some (.none), o_head, o_hands]); goOn (tl P03 cf "tower_of" [(2, 0)] 2 35) r) | false => (do let r ← pure (.next [some v_start, o_programs, o_kind, o_boxes, some a, some b, some below1, o_head, o_hands]); goOn (tl P03 cf "tower_of" [(2, 0)] 2 35) r))) := by kernel_rfl
theorem c_tower_of_t_5 (cf : Str → List AV → M AV) (v_programs v_kind v_boxes v_head : AV) (o_start o_number o_value o_below o_hands : Option AV) : tl P03 cf "tower_of" [] 5 35 [o_start, some v_programs, some v_kind, some v_boxes, o_number, o_value, o_below, some v_head, o_hands] = (do let hands8 ← (do let it5 ← pure v_programs; let src6 ← srcOf it5; let ys7 ← compLoop src6 (fun u1 => (do let y2 ← (do let vs3 ← eachM [(pBI false .tuple [u1]), pure (.int 0), pure (.none)]; newD (List.zip (["program", "place", "work"] : List Str) vs3)); pure (some y2))) FUEL 0 []; newL true ys7); (do let y10 ← (do let vs9 ← eachM [pure v_kind, pure v_boxes, pure v_head, pure (.int 0), (newL true []), pure hands8, pure (.int 0), (newL true [])]; newD (List.zip (["kind", "boxes", "head", "mark", "spare", "hands", "time", "rows"] : List Str) vs9)); pure (.ret y10))) := by kernel_rfl
theorem c_tower_of_t20_2 (cf : Str → List AV → M AV) (v_boxes v_value v_below : AV) (o_start o_programs o_kind o_number o_head o_hands : Option AV) : tl P03 cf "tower_of" [(2, 0)] 2 35 [o_start, o_programs, o_kind, some v_boxes, o_number, some v_value, some v_below, o_head, o_hands] = (do let _ ← (do let o1 ← pure v_boxes; let _ ← listOf o1; (pMeth "append" o1 [.tup [v_value, v_below]])); pure (.next [o_start, o_programs, o_kind, some v_boxes, o_number, some v_value, some v_below, o_head, o_hands])) := by kernel_rfl
theorem c_boxes_from_0 (cf : Str → List AV → M AV) (v_state v_box : AV) : tl P03 cf "boxes_from" [] 0 40 [some v_state, some v_box, none] = (do let found1 ← (newL true []); (do let r ← whileLoop (whileT P03 cf "boxes_from" [] 1 38) (whileB P03 cf "boxes_from" [] 1 38) FUEL [some v_state, some v_box, some found1]; goOn (tl P03 cf "boxes_from" [] 2 38) r)) := by kernel_rfl
theorem c_boxes_from_t_2 (cf : Str → List AV → M AV) (v_found : AV) (o_state o_box : Option AV) : tl P03 cf "boxes_from" [] 2 38 [o_state, o_box, some v_found] = pure (.ret v_found) := by kernel_rfl
theorem c_boxes_from_while_1t (cf : Str → List AV → M AV) (v_box v_found : AV) (o_state : Option AV) : whileT P03 cf "boxes_from" [] 1 38 [o_state, some v_box, some v_found] = (do let t1 ← (pCmp .IsNot v_box (.none)); match t1 with | false => pure false | true => (do let t2 ← (pCmp .NotIn v_box v_found); match t2 with | false => pure false | true => pure true)) := by kernel_rfl
theorem c_boxes_from_while_1b (cf : Str → List AV → M AV) (v_state v_box v_found : AV) : whileB P03 cf "boxes_from" [] 1 38 [some v_state, some v_box, some v_found] = (do let _ ← (do let o1 ← pure v_found; let _ ← listOf o1; (pMeth "append" o1 [v_box])); (do let box4 ← (do let x3 ← (do let x2 ← (pItem v_state (.str "boxes")); pItem x2 v_box); pItem x3 (.int 1)); pure (.next [some v_state, some box4, some v_found]))) := by kernel_rfl
theorem c_head_of_0 (cf : Str → List AV → M AV) (v_state : AV) : tl P03 cf "head_of" [] 0 40 [some v_state] = (do let y2 ← (do let vs1 ← eachM [(pItem v_state (.str "head")), (pItem v_state (.str "mark"))]; pure (.tup vs1)); pure (.ret y2)) := by kernel_rfl
theorem c_inside_of_0 (cf : Str → List AV → M AV) (v_state v_box : AV) : tl P03 cf "inside_of" [] 0 40 [some v_state, some v_box] = (do let y2 ← (do let x1 ← (pItem v_state (.str "boxes")); pItem x1 v_box); pure (.ret y2)) := by kernel_rfl
theorem c_spare_of_0 (cf : Str → List AV → M AV) (v_state : AV) : tl P03 cf "spare_of" [] 0 40 [some v_state] = (do let y2 ← (do let vs1 ← eachM [(pItem v_state (.str "spare"))]; pBI false .list vs1); pure (.ret y2)) := by kernel_rfl
theorem c_values_on_0 (cf : Str → List AV → M AV) (v_state : AV) : tl P03 cf "values_on" [] 0 40 [some v_state] = (do let y11 ← (do let it7 ← (do let vs10 ← eachM [pure v_state, (pItem v_state (.str "head"))]; cf "boxes_from" vs10); let src8 ← srcOf it7; let ys9 ← compLoop src8 (fun u1 => (do let y2 ← (do let x4 ← (do let x3 ← (pItem v_state (.str "boxes")); pItem x3 u1); pItem x4 (.int 0)); pure (some y2))) FUEL 0 []; newL false ys9); pure (.ret y11)) := by kernel_rfl
theorem c_rows_of_0 (cf : Str → List AV → M AV) (v_state : AV) : tl P03 cf "rows_of" [] 0 40 [some v_state] = (do let y2 ← (do let vs1 ← eachM [(pItem v_state (.str "rows"))]; pBI false .list vs1); pure (.ret y2)) := by kernel_rfl
theorem c_held_by_0 (cf : Str → List AV → M AV) (v_state v_work : AV) : tl P03 cf "held_by" [] 0 40 [some v_state, some v_work] = (do let c1 ← (pCmp .Is v_work (.none)); match c1 with | true => (do let r ← (do let y2 ← (newL false []); pure (.ret y2)); goOn (tl P03 cf "held_by" [] 1 39) r) | false => (do let r ← pure (.next [some v_state, some v_work]); goOn (tl P03 cf "held_by" [] 1 39) r)) := by kernel_rfl
theorem c_places_of_0 (cf : Str → List AV → M AV) (v_state : AV) : tl P03 cf "places_of" [] 0 40 [some v_state, none, none, none] = (do let found6 ← (do let it3 ← (pItem v_state (.str "boxes")); let src4 ← srcOf it3; let ys5 ← compLoop src4 (fun u1 => (do let y2 ← (newL true []); pure (some y2))) FUEL 0 []; newL true ys5); (do let it7 ← (do let vs9 ← eachM [pure v_state, (pItem v_state (.str "head"))]; cf "boxes_from" vs9); let src8 ← srcOf it7; let r ← forLoop src8 (forB P03 cf "places_of" [] 1 38) FUEL 0 [some v_state, none, some found6, none]; goOn (tl P03 cf "places_of" [] 2 38) r)) := by kernel_rfl
theorem c_places_of_t_2 (cf : Str → List AV → M AV) (v_state : AV) (o_box o_found o_hand : Option AV) : tl P03 cf "places_of" [] 2 38 [some v_state, o_box, o_found, o_hand] = (do let it1 ← (pItem v_state (.str "spare")); let src2 ← srcOf it1; let r ← forLoop src2 (forB P03 cf "places_of" [] 2 37) FUEL 0 [some v_state, o_box, o_found, o_hand]; goOn (tl P03 cf "places_of" [] 3 37) r) := by kernel_rfl
theorem c_places_of_for_1 (cf : Str → List AV → M AV) (v_found : AV) (o_state o_box o_hand : Option AV) (a : AV) : forB P03 cf "places_of" [] 1 38 a [o_state, o_box, some v_found, o_hand] = (do let _ ← (do let o1 ← (pItem v_found a); let _ ← listOf o1; (pMeth "append" o1 [.str "pile"])); pure (.next [o_state, some a, some v_found, o_hand])) := by kernel_rfl
theorem c_places_of_t_3 (cf : Str → List AV → M AV) (v_state : AV) (o_box o_found o_hand : Option AV) : tl P03 cf "places_of" [] 3 37 [some v_state, o_box, o_found, o_hand] = (do let it1 ← (pItem v_state (.str "hands")); let src2 ← srcOf it1; let r ← forLoop src2 (forB P03 cf "places_of" [] 3 36) FUEL 0 [some v_state, o_box, o_found, o_hand]; goOn (tl P03 cf "places_of" [] 4 36) r) := by kernel_rfl
theorem c_places_of_t_4 (cf : Str → List AV → M AV) (v_found : AV) (o_state o_box o_hand : Option AV) : tl P03 cf "places_of" [] 4 36 [o_state, o_box, some v_found, o_hand] = pure (.ret v_found) := by kernel_rfl
theorem c_places_of_for_3 (cf : Str → List AV → M AV) (v_state : AV) (o_box o_found o_hand : Option AV) (a : AV) : forB P03 cf "places_of" [] 3 36 a [some v_state, o_box, o_found, o_hand] = (do let it1 ← (do let vs3 ← eachM [pure v_state, (pItem a (.str "work"))]; cf "held_by" vs3); let src2 ← srcOf it1; let r ← forLoop src2 (forB P03 cf "places_of" [(3, 0)] 0 35) FUEL 0 [some v_state, o_box, o_found, some a]; goOn (fun σ => pure (.next σ)) r) := by kernel_rfl
theorem c_woven_0 (cf : Str → List AV → M AV) (v_start v_programs v_weaving v_kind : AV) : tl P03 cf "woven" [] 0 40 [some v_start, some v_programs, some v_weaving, some v_kind, none, none, none] = (do let state1 ← (cf "tower_of" [v_start, v_programs, v_kind]); (do let c2 ← (do let v3 ← (pBI false .len [v_weaving]); pCmp .Gt v3 g_MOST_STEPS); match c2 with | true => (do let r ← throwM "TooMany"; goOn (tl P03 cf "woven" [] 2 38) r) | false => (do let r ← pure (.next [some v_start, some v_programs, some v_weaving, some v_kind, some state1, none, none]); goOn (tl P03 cf "woven" [] 2 38) r))) := by kernel_rfl
theorem c_mixed_0 (cf : Str → List AV → M AV) (v_cell v_k : AV) : tl P03 cf "_law_mixed" [] 0 40 [some v_cell, some v_k, none] = (do let left4 ← (do let x3 ← (do let x2 ← (do let x1 ← (pBin false .Mult (.int 7919) v_k); pBin false .Add v_cell x1); pBin false .Mult x2 (.int 48271)); pBin false .Mod x3 (.int 2147483647)); (do let y6 ← (do let x5 ← (pBin false .Mult left4 left4); pBin false .Mod x5 (.int 2147483629)); pure (.ret y6))) := by kernel_rfl
theorem c_cell_at_0 (cf : Str → List AV → M AV) (v_script v_k : AV) : tl P03 cf "_law_cell_at" [] 0 40 [some v_script, some v_k] = (do let c1 ← ((do let c4 ← (pBI false .len [v_script]); pCmp .Lt v_k c4)); match c1 with | true => (do let r ← (do let y3 ← (do let vs2 ← eachM [(pItem v_script v_k), pure v_k]; cf "_law_mixed" vs2); pure (.ret y3)); goOn (tl P03 cf "_law_cell_at" [] 1 39) r) | false => (do let r ← pure (.next [some v_script, some v_k]); goOn (tl P03 cf "_law_cell_at" [] 1 39) r)) := by kernel_rfl
theorem c_cell_at_t_1 (cf : Str → List AV → M AV) (o_script o_k : Option AV) : tl P03 cf "_law_cell_at" [] 1 39 [o_script, o_k] = pure (.ret (.int 0)) := by kernel_rfl
theorem c_cells_0 (cf : Str → List AV → M AV) (v_script v_at v_end : AV) : tl P03 cf "_law_cells" [] 0 40 [some v_script, some v_at, some v_end] = (do let y10 ← (do let it5 ← (do let vs9 ← eachM [pure v_at, (do let vs8 ← eachM [pure v_end, (pBI false .len [v_script])]; pBI false .min vs8)]; pBI false .range vs9); let src6 ← srcOf it5; let ys7 ← compLoop src6 (fun u1 => (do let y2 ← (do let vs3 ← eachM [(pItem v_script u1), pure u1]; cf "_law_mixed" vs3); pure (some y2))) FUEL 0 []; newL false ys7); pure (.ret y10)) := by kernel_rfl
theorem c_alike_0 (cf : Str → List AV → M AV) (v_found v_due : AV) : tl P03 cf "_law_alike" [] 0 40 [some v_found, some v_due, none, none] = (do let rest1 ← (newL true [.tup [v_found, v_due]]); (do let r ← whileLoop (whileT P03 cf "_law_alike" [] 1 38) (whileB P03 cf "_law_alike" [] 1 38) FUEL [some v_found, some v_due, some rest1, none]; goOn (tl P03 cf "_law_alike" [] 2 38) r)) := by kernel_rfl
theorem c_alike_t_2 (cf : Str → List AV → M AV) (o_found o_due o_rest o_pair : Option AV) : tl P03 cf "_law_alike" [] 2 38 [o_found, o_due, o_rest, o_pair] = pure (.ret (.bool true)) := by kernel_rfl
theorem c_alike_while_1t (cf : Str → List AV → M AV) (v_rest : AV) (o_found o_due o_pair : Option AV) : whileT P03 cf "_law_alike" [] 1 38 [o_found, o_due, some v_rest, o_pair] = ((do let c1 ← (newL false []); pCmp .NotEq v_rest c1)) := by kernel_rfl
theorem c_alike_while_1b (cf : Str → List AV → M AV) (v_rest : AV) (o_found o_due o_pair : Option AV) : whileB P03 cf "_law_alike" [] 1 38 [o_found, o_due, some v_rest, o_pair] = (do let pair2 ← (do let o1 ← pure v_rest; let _ ← listOf o1; (pMeth "pop" o1 [])); (do let c3 ← (do let v46 ← (do let v44 ← (pItem pair2 (.int 1)); let b45 ← pIsiTL v44; pure (.bool b45)); truth v46); match c3 with | true => (do let r ← (do let c4 ← (do let v7 ← (do let v5 ← (pItem pair2 (.int 0)); let b6 ← pIsi v5 .tuple; pure (.bool b6)); (do let c10 ← (do let v8 ← (pItem pair2 (.int 1)); let b9 ← pIsi v8 .tuple; pure (.bool b9)); pCmp .NotEq v7 c10)); match c4 with | true => (do let r ← pure (.ret (.bool false)); goOn (tl P03 cf "_law_alike" [(1, 0), (1, 0)] 1 35) r) | false => (do let r ← pure (.next [o_found, o_due, some v_rest, some pair2]); goOn (tl P03 cf "_law_alike" [(1, 0), (1, 0)] 1 35) r)); goOn (fun σ => pure (.next σ)) r) | false => (do let r ← (do let c11 ← (do let t38 ← (do let v39 ← (pItem pair2 (.int 1)); pCmp .Is v39 (.none)); match t38 with | true => pure true | false => (do let t40 ← (do let v43 ← (do let v41 ← (pItem pair2 (.int 1)); let b42 ← pIsi v41 .bool; pure (.bool b42)); truth v43); match t40 with | true => pure true | false => pure false)); match c11 with | true => (do let r ← (do let c12 ← (do let t13 ← (do let v16 ← (do let v14 ← (pItem pair2 (.int 0)); let b15 ← pIsi v14 .bool; pure (.bool b15)); (do let c19 ← (do let v17 ← (pItem pair2 (.int 1)); let b18 ← pIsi v17 .bool; pure (.bool b18)); pCmp .NotEq v16 c19)); match t13 with | true => pure true | false => (do let t20 ← (do let v21 ← (pItem pair2 (.int 0)); (do let c22 ← (pItem pair2 (.int 1)); pCmp .NotEq v21 c22)); match t20 with | true => pure true | false => pure false)); match c12 with | true => (do let r ← pure (.ret (.bool false)); goOn (fun σ => pure (.next σ)) r) | false => (do let r ← pure (.next [o_found, o_due, some v_rest, some pair2]); goOn (fun σ => pure (.next σ)) r)); goOn (fun σ => pure (.next σ)) r) | false => (do let r ← (do let c23 ← (do let t24 ← (do let v27 ← (do let v25 ← (pItem pair2 (.int 0)); let b26 ← pIsi v25 .str; pure (.bool b26)); (do let c30 ← (do let v28 ← (pItem pair2 (.int 1)); let b29 ← pIsi v28 .str; pure (.bool b29)); pCmp .NotEq v27 c30)); match t24 with | true => pure true | false => (do let t31 ← (do let v34 ← (do let v32 ← (pItem pair2 (.int 0)); let b33 ← pIsi v32 .bool; pure (.bool b33)); truth v34); match t31 with | true => pure true | false => (do let t35 ← (do let v36 ← (pItem pair2 (.int 0)); (do let c37 ← (pItem pair2 (.int 1)); pCmp .NotEq v36 c37)); match t35 with | true => pure true | false => pure false))); match c23 with | true => (do let r ← pure (.ret (.bool false)); goOn (fun σ => pure (.next σ)) r) | false => (do let r ← pure (.next [o_found, o_due, some v_rest, some pair2]); goOn (fun σ => pure (.next σ)) r)); goOn (fun σ => pure (.next σ)) r)); goOn (fun σ => pure (.next σ)) r))) := by kernel_rfl
theorem c_alike_t10_10_1 (cf : Str → List AV → M AV) (v_pair : AV) (o_found o_due o_rest : Option AV) : tl P03 cf "_law_alike" [(1, 0), (1, 0)] 1 35 [o_found, o_due, o_rest, some v_pair] = (do let c1 ← (do let t2 ← (do let v5 ← (do let v3 ← (pItem v_pair (.int 0)); let b4 ← pIsi v3 .list; pure (.bool b4)); (do let c8 ← (do let v6 ← (pItem v_pair (.int 1)); let b7 ← pIsi v6 .list; pure (.bool b7)); pCmp .NotEq v5 c8)); match t2 with | true => pure true | false => (do let t9 ← (do let v11 ← (do let vs10 ← eachM [(pItem v_pair (.int 0))]; pBI false .len vs10); (do let c13 ← (do let vs12 ← eachM [(pItem v_pair (.int 1))]; pBI false .len vs12); pCmp .NotEq v11 c13)); match t9 with | true => pure true | false => pure false)); match c1 with | true => (do let r ← pure (.ret (.bool false)); goOn (tl P03 cf "_law_alike" [(1, 0), (1, 0)] 2 34) r) | false => (do let r ← pure (.next [o_found, o_due, o_rest, some v_pair]); goOn (tl P03 cf "_law_alike" [(1, 0), (1, 0)] 2 34) r)) := by kernel_rfl
theorem c_alike_t10_10_2 (cf : Str → List AV → M AV) (v_rest v_pair : AV) (o_found o_due : Option AV) : tl P03 cf "_law_alike" [(1, 0), (1, 0)] 2 34 [o_found, o_due, some v_rest, some v_pair] = (do let rest3 ← (do let x2 ← (do let vs1 ← eachM [(pItem v_pair (.int 0)), (pItem v_pair (.int 1))]; pZipL false vs1); pBin true .Add v_rest x2); pure (.next [o_found, o_due, some rest3, some v_pair])) := by kernel_rfl
theorem c_value_by_0 (cf : Str → List AV → M AV) (v_cell : AV) : tl P03 cf "_law_value_by" [] 0 40 [some v_cell] = (do let c1 ← (do let v8 ← (pBin false .Mod v_cell (.int 4)); pCmp .Eq v8 (.int 0)); match c1 with | true => (do let r ← (do let y7 ← (do let x5 ← (do let x4 ← (do let x3 ← (do let x2 ← (pBin false .FloorDiv v_cell (.int 4)); pBin false .Mult x2 (.int 7919)); pBin false .Mult x3 (.int 7919)); pBin false .Mult x4 (.int 7919)); let x6 ← (pBin false .Pow (.int 10) (.int 20)); pBin false .Sub x5 x6); pure (.ret y7)); goOn (tl P03 cf "_law_value_by" [] 1 39) r) | false => (do let r ← pure (.next [some v_cell]); goOn (tl P03 cf "_law_value_by" [] 1 39) r)) := by kernel_rfl
theorem c_value_by_t_1 (cf : Str → List AV → M AV) (v_cell : AV) : tl P03 cf "_law_value_by" [] 1 39 [some v_cell] = (do let y3 ← (do let x2 ← (do let x1 ← (pBin false .FloorDiv v_cell (.int 4)); pBin false .Mod x1 (.int 5)); pBin false .Sub x2 (.int 1)); pure (.ret y3)) := by kernel_rfl
theorem c_deed_by_0 (cf : Str → List AV → M AV) (v_cell : AV) : tl P03 cf "_law_deed_by" [] 0 40 [some v_cell, none] = (do let name3 ← (do let x1 ← (newL false [.str "push", .str "push", .str "push", .str "push", .str "pop", .str "pop", .str "pop", .str "top", .str "top", .str "swap", .str "swap", .str "clear"]); let x2 ← (pBin false .Mod v_cell (.int 12)); pItem x1 x2); (do let c4 ← ((do let c8 ← (newL false [.str "push", .str "swap"]); pCmp .In name3 c8)); match c4 with | true => (do let r ← (do let y7 ← (do let vs6 ← eachM [pure name3, (do let vs5 ← eachM [(pBin false .FloorDiv v_cell (.int 12))]; cf "_law_value_by" vs5)]; pure (.tup vs6)); pure (.ret y7)); goOn (tl P03 cf "_law_deed_by" [] 2 38) r) | false => (do let r ← pure (.next [some v_cell, some name3]); goOn (tl P03 cf "_law_deed_by" [] 2 38) r))) := by kernel_rfl
theorem c_deed_by_t_2 (cf : Str → List AV → M AV) (v_name : AV) (o_cell : Option AV) : tl P03 cf "_law_deed_by" [] 2 38 [o_cell, some v_name] = pure (.ret (.tup [v_name])) := by kernel_rfl
theorem c_start_by_0 (cf : Str → List AV → M AV) (v_cell : AV) : tl P03 cf "_law_start_by" [] 0 40 [some v_cell, none] = (do let size1 ← (pBin false .Mod v_cell (.int 4)); (do let c2 ← (do let v6 ← (do let x5 ← (pBin false .FloorDiv v_cell (.int 4)); pBin false .Mod x5 (.int 8)); pCmp .Eq v6 (.int 1)); match c2 with | true => (do let r ← (do let size4 ← (do let x3 ← (pBin false .FloorDiv v_cell (.int 32)); pBin false .Mod x3 (.int 61)); pure (.next [some v_cell, some size4])); goOn (tl P03 cf "_law_start_by" [] 2 38) r) | false => (do let r ← pure (.next [some v_cell, some size1]); goOn (tl P03 cf "_law_start_by" [] 2 38) r))) := by kernel_rfl
theorem c_start_by_t_2 (cf : Str → List AV → M AV) (v_cell v_size : AV) : tl P03 cf "_law_start_by" [] 2 38 [some v_cell, some v_size] = (do let y10 ← (do let it7 ← (pBI false .range [v_size]); let src8 ← srcOf it7; let ys9 ← compLoop src8 (fun u1 => (do let y2 ← (do let vs4 ← eachM [(do let vs3 ← eachM [(pBin false .FloorDiv v_cell (.int 8)), pure u1]; cf "_law_mixed" vs3)]; cf "_law_value_by" vs4); pure (some y2))) FUEL 0 []; newL false ys9); pure (.ret y10)) := by kernel_rfl
theorem c_hands_by_0 (cf : Str → List AV → M AV) (v_cell : AV) : tl P03 cf "_law_hands_by" [] 0 40 [some v_cell] = (do let c1 ← (do let v6 ← (do let x5 ← (pBin false .FloorDiv v_cell (.int 4)); pBin false .Mod x5 (.int 8)); pCmp .Eq v6 (.int 1)); match c1 with | true => (do let r ← (do let y4 ← (do let x3 ← (do let x2 ← (pBin false .FloorDiv v_cell (.int 32)); pBin false .Mod x2 (.int 16)); pBin false .Add (.int 5) x3); pure (.ret y4)); goOn (tl P03 cf "_law_hands_by" [] 1 39) r) | false => (do let r ← pure (.next [some v_cell]); goOn (tl P03 cf "_law_hands_by" [] 1 39) r)) := by kernel_rfl
theorem c_hands_by_t_1 (cf : Str → List AV → M AV) (v_cell : AV) : tl P03 cf "_law_hands_by" [] 1 39 [some v_cell] = (do let y2 ← (do let x1 ← (pBin false .Mod v_cell (.int 4)); pBin false .Add (.int 1) x1); pure (.ret y2)) := by kernel_rfl
theorem c_programs_by_0 (cf : Str → List AV → M AV) (v_script v_hands : AV) : tl P03 cf "_law_programs_by" [] 0 40 [some v_script, some v_hands, none, none] = (do let programs6 ← (do let it3 ← (pBI false .range [v_hands]); let src4 ← srcOf it3; let ys5 ← compLoop src4 (fun u1 => (do let y2 ← (newL true []); pure (some y2))) FUEL 0 []; newL true ys5); (do let it7 ← (cf "_law_cells" [v_script, .int 3, .int 27]); let src8 ← srcOf it7; let r ← forLoop src8 (forB P03 cf "_law_programs_by" [] 1 38) FUEL 0 [some v_script, some v_hands, some programs6, none]; goOn (tl P03 cf "_law_programs_by" [] 2 38) r)) := by kernel_rfl
theorem c_programs_by_t_2 (cf : Str → List AV → M AV) (v_programs : AV) (o_script o_hands o_cell : Option AV) : tl P03 cf "_law_programs_by" [] 2 38 [o_script, o_hands, some v_programs, o_cell] = pure (.ret v_programs) := by kernel_rfl
theorem c_programs_by_for_1 (cf : Str → List AV → M AV) (v_hands v_programs : AV) (o_script o_cell : Option AV) (a : AV) : forB P03 cf "_law_programs_by" [] 1 38 a [o_script, some v_hands, some v_programs, o_cell] = (do let _ ← (do let o1 ← (do let x4 ← (pBin false .Mod a v_hands); pItem v_programs x4); let _ ← listOf o1; (do let vs3 ← eachM [(do let vs2 ← eachM [(pBin false .FloorDiv a (.int 4))]; cf "_law_deed_by" vs2)]; pMeth "append" o1 vs3)); pure (.next [o_script, some v_hands, some v_programs, some a])) := by kernel_rfl
theorem c_spoilt_0 (cf : Str → List AV → M AV) (v_start v_programs v_kind v_cell : AV) : tl P03 cf "_law_spoilt" [] 0 40 [some v_start, some v_programs, some v_kind, some v_cell, none, none, none] = (do let c1 ← (do let v28 ← (pBin false .Mod v_cell (.int 4)); pCmp .Eq v28 (.int 1)); match c1 with | true => (do let r ← (do let at4 ← (do let x2 ← (pBin false .FloorDiv v_cell (.int 4)); let x3 ← (pBI false .len [v_programs]); pBin false .Mod x2 x3); (do let odd9 ← (do let x7 ← (do let vs5 ← eachM [pure (.tup [.str "take"]), pure (.none), (newL false [.str "pop"]), pure (.tup [.str "push"])]; newL false vs5); let x8 ← (do let x6 ← (pBin false .FloorDiv v_cell (.int 16384)); pBin false .Mod x6 (.int 4)); pItem x7 x8); (do let programs27 ← (do let x25 ← (do let x18 ← (do let o10 ← pure v_programs; let i11 ← pure none; let j12 ← (do let q13 ← pure at4; let k14 ← intM q13; pure (some k14)); pSlice false o10 i11 j12); let x19 ← (do let vs17 ← eachM [(do let x15 ← (pItem v_programs at4); let x16 ← (newL false [odd9]); pBin false .Add x15 x16)]; newL false vs17); pBin false .Add x18 x19); let x26 ← (do let o20 ← pure v_programs; let i21 ← (do let q23 ← (pBin false .Add at4 (.int 1)); let k24 ← intM q23; pure (some k24)); let j22 ← pure none; pSlice false o20 i21 j22); pBin false .Add x25 x26); pure (.next [some v_start, some programs27, some v_kind, some v_cell, some (.int 4), some at4, some odd9])))); goOn (tl P03 cf "_law_spoilt" [] 2 38) r) | false => (do let r ← pure (.next [some v_start, some v_programs, some v_kind, some v_cell, some (.int 0), none, none]); goOn (tl P03 cf "_law_spoilt" [] 2 38) r)) := by kernel_rfl
theorem c_spoilt_t_2 (cf : Str → List AV → M AV) (v_programs v_cell : AV) (o_start o_kind o_due o_at o_odd : Option AV) : tl P03 cf "_law_spoilt" [] 2 38 [o_start, some v_programs, o_kind, some v_cell, o_due, o_at, o_odd] = (do let c1 ← (do let v7 ← (do let x6 ← (pBin false .FloorDiv v_cell (.int 16)); pBin false .Mod x6 (.int 4)); pCmp .Eq v7 (.int 1)); match c1 with | true => (do let r ← (do let programs5 ← (do let x4 ← (do let vs3 ← eachM [(do let x2 ← (newL false [.tup [.str "pop"]]); pBin false .Mult x2 (.int 61))]; newL false vs3); pBin false .Add x4 v_programs); pure (.next [o_start, some programs5, o_kind, some v_cell, some (.int 2), o_at, o_odd])); goOn (tl P03 cf "_law_spoilt" [] 3 37) r) | false => (do let r ← pure (.next [o_start, some v_programs, o_kind, some v_cell, o_due, o_at, o_odd]); goOn (tl P03 cf "_law_spoilt" [] 3 37) r)) := by kernel_rfl
theorem c_spoilt_t_3 (cf : Str → List AV → M AV) (v_programs v_cell : AV) (o_start o_kind o_due o_at o_odd : Option AV) : tl P03 cf "_law_spoilt" [] 3 37 [o_start, some v_programs, o_kind, some v_cell, o_due, o_at, o_odd] = (do let c1 ← (do let v7 ← (do let x6 ← (pBin false .FloorDiv v_cell (.int 64)); pBin false .Mod x6 (.int 4)); pCmp .Eq v7 (.int 1)); match c1 with | true => (do let r ← (do let programs5 ← (do let x4 ← (do let x3 ← (do let vs2 ← eachM [(newL false [])]; newL false vs2); pBin false .Mult x3 (.int 21)); pBin false .Add v_programs x4); pure (.next [o_start, some programs5, o_kind, some v_cell, some (.int 2), o_at, o_odd])); goOn (tl P03 cf "_law_spoilt" [] 4 36) r) | false => (do let r ← pure (.next [o_start, some v_programs, o_kind, some v_cell, o_due, o_at, o_odd]); goOn (tl P03 cf "_law_spoilt" [] 4 36) r)) := by kernel_rfl
theorem c_spoilt_t_4 (cf : Str → List AV → M AV) (v_start v_cell : AV) (o_programs o_kind o_due o_at o_odd : Option AV) : tl P03 cf "_law_spoilt" [] 4 36 [some v_start, o_programs, o_kind, some v_cell, o_due, o_at, o_odd] = (do let c1 ← (do let v31 ← (do let x30 ← (pBin false .FloorDiv v_cell (.int 256)); pBin false .Mod x30 (.int 4)); pCmp .Eq v31 (.int 1)); match c1 with | true => (do let r ← (do let at9 ← (do let x7 ← (pBin false .FloorDiv v_cell (.int 16384)); let x8 ← (do let x6 ← (do let vs5 ← eachM [(do let o2 ← pure v_start; let i3 ← pure none; let j4 ← pure (some 59); pSlice false o2 i3 j4)]; pBI false .len vs5); pBin false .Add x6 (.int 1)); pBin false .Mod x7 x8); (do let start29 ← (do let x27 ← (do let x20 ← (do let o10 ← pure v_start; let i11 ← pure none; let j12 ← (do let q13 ← pure at9; let k14 ← intM q13; pure (some k14)); pSlice false o10 i11 j12); let x21 ← (do let vs19 ← eachM [(do let x17 ← (do let vs15 ← eachM [pure (.none), pure (.bool true), pure (.str "1"), (newL false [.int 1])]; newL false vs15); let x18 ← (do let x16 ← (pBin false .FloorDiv v_cell (.int 65536)); pBin false .Mod x16 (.int 4)); pItem x17 x18)]; newL false vs19); pBin false .Add x20 x21); let x28 ← (do let o22 ← pure v_start; let i23 ← (do let q25 ← pure at9; let k26 ← intM q25; pure (some k26)); let j24 ← pure (some 59); pSlice false o22 i23 j24); pBin false .Add x27 x28); pure (.next [some start29, o_programs, o_kind, some v_cell, some (.int 3), some at9, o_odd]))); goOn (tl P03 cf "_law_spoilt" [] 5 35) r) | false => (do let r ← pure (.next [some v_start, o_programs, o_kind, some v_cell, o_due, o_at, o_odd]); goOn (tl P03 cf "_law_spoilt" [] 5 35) r)) := by kernel_rfl
theorem c_spoilt_t_5 (cf : Str → List AV → M AV) (v_start v_cell : AV) (o_programs o_kind o_due o_at o_odd : Option AV) : tl P03 cf "_law_spoilt" [] 5 35 [some v_start, o_programs, o_kind, some v_cell, o_due, o_at, o_odd] = (do let c1 ← (do let v8 ← (do let x7 ← (pBin false .FloorDiv v_cell (.int 1024)); pBin false .Mod x7 (.int 4)); pCmp .Eq v8 (.int 1)); match c1 with | true => (do let r ← (do let start6 ← (do let x5 ← (do let x3 ← (newL false [.int 5]); let x4 ← (do let x2 ← (pBI false .len [v_start]); pBin false .Sub (.int 61) x2); pBin false .Mult x3 x4); pBin false .Add v_start x5); pure (.next [some start6, o_programs, o_kind, some v_cell, some (.int 2), o_at, o_odd])); goOn (tl P03 cf "_law_spoilt" [] 6 34) r) | false => (do let r ← pure (.next [some v_start, o_programs, o_kind, some v_cell, o_due, o_at, o_odd]); goOn (tl P03 cf "_law_spoilt" [] 6 34) r)) := by kernel_rfl
theorem c_spoilt_t_6 (cf : Str → List AV → M AV) (v_cell : AV) (o_start o_programs o_kind o_due o_at o_odd : Option AV) : tl P03 cf "_law_spoilt" [] 6 34 [o_start, o_programs, o_kind, some v_cell, o_due, o_at, o_odd] = (do let c1 ← (do let v8 ← (do let x7 ← (pBin false .FloorDiv v_cell (.int 4096)); pBin false .Mod x7 (.int 4)); pCmp .Eq v8 (.int 1)); match c1 with | true => (do let r ← (do let kind6 ← (do let x4 ← (do let vs2 ← eachM [pure (.str "mark"), pure (.str ""), pure (.none), pure (.int 5), (newL false [.str "bare"]), pure (.str "Marks")]; newL false vs2); let x5 ← (do let x3 ← (pBin false .FloorDiv v_cell (.int 16384)); pBin false .Mod x3 (.int 6)); pItem x4 x5); pure (.next [o_start, o_programs, some kind6, some v_cell, some (.int 1), o_at, o_odd])); goOn (tl P03 cf "_law_spoilt" [] 7 33) r) | false => (do let r ← pure (.next [o_start, o_programs, o_kind, some v_cell, o_due, o_at, o_odd]); goOn (tl P03 cf "_law_spoilt" [] 7 33) r)) := by kernel_rfl
theorem c_spoilt_t_7 (cf : Str → List AV → M AV) (v_start v_programs v_kind v_due : AV) (o_cell o_at o_odd : Option AV) : tl P03 cf "_law_spoilt" [] 7 33 [some v_start, some v_programs, some v_kind, o_cell, some v_due, o_at, o_odd] = pure (.ret (.tup [v_start, v_programs, v_kind, v_due])) := by kernel_rfl
theorem c_law_0 (cf : Str → List AV → M AV) (v_script : AV) : tl P03 cf "law" [] 0 40 [some v_script, none, none, none, none, none, none, none, none, none] = (do let hands2 ← (do let vs1 ← eachM [(cf "_law_cell_at" [v_script, .int 2])]; cf "_law_hands_by" vs1); (do let start4 ← (do let vs3 ← eachM [(cf "_law_cell_at" [v_script, .int 0])]; cf "_law_start_by" vs3); (do let programs5 ← (cf "_law_programs_by" [v_script, hands2]); (do let kind9 ← (do let x7 ← (newL false [.str "marks", .str "bare", .str "new"]); let x8 ← (do let x6 ← (cf "_law_cell_at" [v_script, .int 1]); pBin false .Mod x6 (.int 3)); pItem x7 x8); (do let c10 ← (do let v30 ← (do let x29 ← (do let x28 ← (cf "_law_cell_at" [v_script, .int 1]); pBin false .FloorDiv x28 (.int 3)); pBin false .Mod x29 (.int 2)); pCmp .Eq v30 (.int 1)); match c10 with | true => (do let r ← (do let wrong13 ← (do let vs12 ← eachM [pure start4, pure programs5, pure kind9, (do let x11 ← (cf "_law_cell_at" [v_script, .int 1]); pBin false .FloorDiv x11 (.int 6))]; cf "_law_spoilt" vs12); (do let refusals21 ← (do let it18 ← (newL false [.bool false, .bool true]); let src19 ← srcOf it18; let ys20 ← compLoop src19 (fun u14 => (do let y15 ← (do let vs16 ← eachM [(pItem wrong13 (.int 0)), (pItem wrong13 (.int 1)), (pItem wrong13 (.int 2)), pure u14]; cf "_law_refusal" vs16); pure (some y15))) FUEL 0 []; newL false ys20); (do let y27 ← (do let b22 ← (do let c26 ← (do let vs25 ← eachM [(do let vs23 ← eachM [(pItem wrong13 (.int 3))]; newL false vs23), (do let vs24 ← eachM [(pItem wrong13 (.int 3))]; newL false vs24)]; newL false vs25); pCmp .Eq refusals21 c26); pure (.bool b22)); pure (.ret y27)))); goOn (tl P03 cf "law" [] 5 35) r) | false => (do let r ← pure (.next [some v_script, some hands2, some start4, some programs5, some kind9, none, none, none, none, none]); goOn (tl P03 cf "law" [] 5 35) r)))))) := by kernel_rfl
theorem c_law_t_5 (cf : Str → List AV → M AV) (v_script v_programs : AV) (o_hands o_start o_kind o_wrong o_refusals o_handed o_state o_k : Option AV) : tl P03 cf "law" [] 5 35 [some v_script, o_hands, o_start, some v_programs, o_kind, o_wrong, o_refusals, o_handed, o_state, o_k] = (do let c1 ← (do let v11 ← (do let x10 ← (do let x9 ← (cf "_law_cell_at" [v_script, .int 1]); pBin false .FloorDiv x9 (.int 6)); pBin false .Mod x10 (.int 4)); pCmp .Eq v11 (.int 1)); match c1 with | true => (do let r ← (do let v8 ← (do let o2 ← (do let x6 ← (pItem v_programs (.int 0)); let x7 ← (do let x5 ← (newL false [.tup [.str "pop"]]); pBin false .Mult x5 (.int 60)); pBin false .Add x6 x7); let i3 ← pure none; let j4 ← pure (some 60); pSlice false o2 i3 j4); pStore v_programs (.int 0) v8; pure (.next [some v_script, o_hands, o_start, some v_programs, o_kind, o_wrong, o_refusals, o_handed, o_state, o_k])); goOn (tl P03 cf "law" [] 6 34) r) | false => (do let r ← pure (.next [some v_script, o_hands, o_start, some v_programs, o_kind, o_wrong, o_refusals, o_handed, o_state, o_k]); goOn (tl P03 cf "law" [] 6 34) r)) := by kernel_rfl
theorem c_law_t_6 (cf : Str → List AV → M AV) (v_start v_programs v_kind : AV) (o_script o_hands o_wrong o_refusals o_handed o_state o_k : Option AV) : tl P03 cf "law" [] 6 34 [o_script, o_hands, some v_start, some v_programs, some v_kind, o_wrong, o_refusals, o_handed, o_state, o_k] = (do let handed7 ← (do let vs6 ← eachM [(pBI true .list [v_start]), (do let it3 ← pure v_programs; let src4 ← srcOf it3; let ys5 ← compLoop src4 (fun u1 => (do let y2 ← (pBI true .list [u1]); pure (some y2))) FUEL 0 []; newL false ys5)]; newL false vs6); (do let state9 ← (do let vs8 ← eachM [(pItem handed7 (.int 0)), (pItem handed7 (.int 1)), pure v_kind]; cf "tower_of" vs8); (do let c10 ← ((do let c11 ← (newL false [v_start, v_programs]); pCmp .NotEq handed7 c11)); match c10 with | true => (do let r ← pure (.ret (.bool false)); goOn (tl P03 cf "law" [] 9 31) r) | false => (do let r ← pure (.next [o_script, o_hands, some v_start, some v_programs, some v_kind, o_wrong, o_refusals, some handed7, some state9, o_k]); goOn (tl P03 cf "law" [] 9 31) r)))) := by kernel_rfl
theorem c_law_t_9 (cf : Str → List AV → M AV) (v_start v_handed v_state : AV) (o_script o_hands o_programs o_kind o_wrong o_refusals o_k : Option AV) : tl P03 cf "law" [] 9 31 [o_script, o_hands, some v_start, o_programs, o_kind, o_wrong, o_refusals, some v_handed, some v_state, o_k] = (do let _ ← (do let o1 ← (pItem v_handed (.int 0)); let _ ← listOf o1; (pMeth "append" o1 [.int 5])); (do let _ ← (do let o2 ← (do let x3 ← (pItem v_handed (.int 1)); pItem x3 (.int 0)); let _ ← listOf o2; (pMeth "append" o2 [.tup [.str "take"]])); (do let c4 ← (do let t5 ← (do let b6 ← (do let v13 ← (do let vs12 ← eachM [(cf "head_of" [v_state]), (do let x10 ← (newL false [.tup [.int 0, .int 0], .tup [.none, .int 0]]); let x11 ← (do let vs9 ← eachM [(do let b7 ← (do let c8 ← (newL false []); pCmp .Eq v_start c8); pure (.bool b7))]; pBI false .int vs9); pItem x10 x11)]; cf "_law_alike" vs12); truth v13); pure (!b6)); match t5 with | true => pure true | false => (do let t14 ← (do let b15 ← (do let v17 ← (do let vs16 ← eachM [(cf "values_on" [v_state]), pure v_start]; cf "_law_alike" vs16); truth v17); pure (!b15)); match t14 with | true => pure true | false => pure false)); match c4 with | true => (do let r ← pure (.ret (.bool false)); goOn (tl P03 cf "law" [] 12 28) r) | false => (do let r ← pure (.next [o_script, o_hands, some v_start, o_programs, o_kind, o_wrong, o_refusals, some v_handed, some v_state, o_k]); goOn (tl P03 cf "law" [] 12 28) r)))) := by kernel_rfl
theorem c_law_t_12 (cf : Str → List AV → M AV) (v_start : AV) (o_script o_hands o_programs o_kind o_wrong o_refusals o_handed o_state o_k : Option AV) : tl P03 cf "law" [] 12 28 [o_script, o_hands, some v_start, o_programs, o_kind, o_wrong, o_refusals, o_handed, o_state, o_k] = (do let it1 ← (do let vs3 ← eachM [(pBI false .len [v_start])]; pBI false .range vs3); let src2 ← srcOf it1; let r ← forLoop src2 (forB P03 cf "law" [] 12 27) FUEL 0 [o_script, o_hands, some v_start, o_programs, o_kind, o_wrong, o_refusals, o_handed, o_state, o_k]; goOn (tl P03 cf "law" [] 13 27) r) := by kernel_rfl
theorem c_law_t_13 (cf : Str → List AV → M AV) (v_state : AV) (o_script o_hands o_start o_programs o_kind o_wrong o_refusals o_handed o_k : Option AV) : tl P03 cf "law" [] 13 27 [o_script, o_hands, o_start, o_programs, o_kind, o_wrong, o_refusals, o_handed, some v_state, o_k] = (do let c1 ← (do let t2 ← (do let v3 ← (cf "spare_of" [v_state]); (do let c4 ← (newL false []); pCmp .NotEq v3 c4)); match t2 with | true => pure true | false => (do let t5 ← (do let v6 ← (cf "rows_of" [v_state]); (do let c7 ← (newL false []); pCmp .NotEq v6 c7)); match t5 with | true => pure true | false => pure false)); match c1 with | true => (do let r ← pure (.ret (.bool false)); goOn (tl P03 cf "law" [] 14 26) r) | false => (do let r ← pure (.next [o_script, o_hands, o_start, o_programs, o_kind, o_wrong, o_refusals, o_handed, some v_state, o_k]); goOn (tl P03 cf "law" [] 14 26) r)) := by kernel_rfl
theorem c_law_for_12 (cf : Str → List AV → M AV) (v_start v_state : AV) (o_script o_hands o_programs o_kind o_wrong o_refusals o_handed o_k : Option AV) (a : AV) : forB P03 cf "law" [] 12 27 a [o_script, o_hands, some v_start, o_programs, o_kind, o_wrong, o_refusals, o_handed, some v_state, o_k] = (do let c1 ← (do let b2 ← (do let v12 ← (do let vs11 ← eachM [(cf "inside_of" [v_state, a]), (do let vs10 ← eachM [(pItem v_start a), (do let x8 ← (do let vs3 ← eachM [(pBin false .Add a (.int 1)), pure (.none)]; newL false vs3); let x9 ← (do let vs7 ← eachM [(do let v5 ← (pBin false .Add a (.int 1)); let b4 ← (do let c6 ← (pBI false .len [v_start]); pCmp .Eq v5 c6); pure (.bool b4))]; pBI false .int vs7); pItem x8 x9)]; pure (.tup vs10))]; cf "_law_alike" vs11); truth v12); pure (!b2)); match c1 with | true => (do let r ← pure (.ret (.bool false)); goOn (fun σ => pure (.next σ)) r) | false => (do let r ← pure (.next [o_script, o_hands, some v_start, o_programs, o_kind, o_wrong, o_refusals, o_handed, some v_state, some a]); goOn (fun σ => pure (.next σ)) r)) := by kernel_rfl
theorem c_law_t_14 (cf : Str → List AV → M AV) (v_start v_state : AV) (o_script o_hands o_programs o_kind o_wrong o_refusals o_handed o_k : Option AV) : tl P03 cf "law" [] 14 26 [o_script, o_hands, some v_start, o_programs, o_kind, o_wrong, o_refusals, o_handed, some v_state, o_k] = (do let y7 ← (do let vs6 ← eachM [(cf "places_of" [v_state]), (do let it3 ← pure v_start; let src4 ← srcOf it3; let ys5 ← compLoop src4 (fun u1 => (do let y2 ← (newL false [.str "pile"]); pure (some y2))) FUEL 0 []; newL false ys5)]; cf "_law_alike" vs6); pure (.ret y7)) := by kernel_rfl
end Mine


set_option autoImplicit false
set_option linter.unusedVariables false
set_option maxRecDepth 100000
namespace Mine
open PySem PyProof.Rows

theorem s_mixed (n : Nat) (c k : Int) : callP P03 (n + 1) "_law_mixed" [.int c, .int k] = pure (.int (mixed c k)) := by
  refine callQ (σ := [some (.int c), some (.int k), none]) (by kernel_rfl) (by kernel_rfl) (by kernel_rfl) ?_
  have h := fmod_lt ((c + 7919 * k) * 48271) (b := 2147483647) (by decide)
  rw [c_mixed_0, m_mulL (by decide), pure_bind, m_add, pure_bind, m_mulR (by decide), pure_bind, m_mod (by decide), pure_bind, m_mulL (by omega), pure_bind, m_mod (by decide)]
  rfl

theorem s_cell_at (n : Nat) (ns : List Int) (k : Nat) : callP P03 (n + 2) "_law_cell_at" [.lst (ns.map .int), .int k] = pure (.int (cellAt ns k)) := by
  refine callQ (σ := [some (.lst (ns.map .int)), some (.int k)]) (by kernel_rfl) (by kernel_rfl) (by kernel_rfl) ?_
  rw [c_cell_at_0, e_len_lst, pure_bind, e_lt, pure_bind]
  unfold cellAt
  cases hk : ns[k]? with
  | none =>
    have : ¬ ((k : Int) < (((ns.map AV.int).length : Nat) : Int)) := by rw [List.length_map]; rw [List.getElem?_eq_none_iff] at hk; omega
    rw [decide_eq_false this]
    simp only [pure_bind, e_go_next, c_cell_at_t_1]
  | some c =>
    have hlt := (List.getElem?_eq_some_iff.mp hk).1
    have : ((k : Int) < (((ns.map AV.int).length : Nat) : Int)) := by rw [List.length_map]; omega
    rw [decide_eq_true this]
    have hit : (ns.map AV.int)[k]? = some (.int c) := by rw [List.getElem?_map, hk]; rfl
    simp only [e_item_lst hit, e_eachp, e_each0, pure_bind, s_mixed, e_go_ret]

theorem s_value_by (n : Nat) (c : Int) : callP P03 (n + 1) "_law_value_by" [.int c] = pure (.int (valueBy c)) := by
  refine callQ (σ := [some (.int c)]) (by kernel_rfl) (by kernel_rfl) (by kernel_rfl) ?_
  rw [c_value_by_0, m_mod (by decide), pure_bind, e_eqi, pure_bind]
  unfold valueBy
  by_cases h : c.fmod 4 = 0
  · rw [decide_eq_true h, if_pos h]
    simp only [m_div (i := c) (j := 4) d4, pure_bind, m_mulR (j := 7919) (by decide)]
    rfl
  · rw [decide_eq_false h, if_neg h]
    simp only [pure_bind, e_go_next, c_value_by_t_1, m_div (i := c) (j := 4) d4, m_mod (j := 5) (by decide), m_sub]

theorem deed_rest (n : Nat) (c : Int) (k : Dk) (b : Bool) (nm : Str) (h : pCmp .In (.str nm) (.lst [.str "push", .str "swap"]) = pure b) (hk : (cond b (.tup [.str nm, .int (valueBy (c.fdiv 12))]) (.tup [.str nm]) : AV) = deedK k (valueBy (c.fdiv 12))) :
    (do let c4 ← ((do let c8 ← (newL false [.str "push", .str "swap"]); pCmp .In (.str nm) c8)); match c4 with | true => (do let r ← (do let y7 ← (do let vs6 ← eachM [pure (.str nm), (do let vs5 ← eachM [(pBin false .FloorDiv (.int c) (.int 12))]; callP P03 (n + 1) "_law_value_by" vs5)]; pure (.tup vs6)); pure (.ret y7)); goOn (tl P03 (callP P03 (n + 1)) "_law_deed_by" [] 2 38) r) | false => (do let r ← pure (.next [some (.int c), some (.str nm)]); goOn (tl P03 (callP P03 (n + 1)) "_law_deed_by" [] 2 38) r) : M Res)
      = pure (.ret (deedK k (valueBy (c.fdiv 12)))) := by
  rw [e_newL (by decide), pure_bind, h, pure_bind, ← hk]
  cases b with
  | true => simp only [m_div (i := c) (j := 12) d12, e_eachp, e_each0, pure_bind, s_value_by, e_go_ret]; rfl
  | false => simp only [pure_bind, e_go_next, c_deed_by_t_2]; rfl

noncomputable def DdOk (v : Int) (a : AV) : Prop := ∃ (b : Bool) (k : Dk) (nm : Str), a = .str nm ∧ pCmp .In (.str nm) (.lst [.str "push", .str "swap"]) = pure b ∧ (cond b (.tup [.str nm, .int v]) (.tup [.str nm]) : AV) = deedK k v
theorem dd_push (v : Int) : DdOk v (.str "push") := ⟨true, .push, _, rfl, by kernel_rfl, rfl⟩
theorem dd_pop (v : Int) : DdOk v (.str "pop") := ⟨false, .pop, _, rfl, by kernel_rfl, rfl⟩
theorem dd_top (v : Int) : DdOk v (.str "top") := ⟨false, .top, _, rfl, by kernel_rfl, rfl⟩
theorem dd_swap (v : Int) : DdOk v (.str "swap") := ⟨true, .swap, _, rfl, by kernel_rfl, rfl⟩
theorem dd_clear (v : Int) : DdOk v (.str "clear") := ⟨false, .clear, _, rfl, by kernel_rfl, rfl⟩
noncomputable def dd12 : List AV := [.str "push", .str "push", .str "push", .str "push", .str "pop", .str "pop", .str "pop", .str "top", .str "top", .str "swap", .str "swap", .str "clear"]
noncomputable def All (P : AV → Prop) : List AV → Prop
  | [] => True
  | a :: r => P a ∧ All P r
theorem All.at {P : AV → Prop} : ∀ {l : List AV} {j : Nat} {a : AV}, All P l → l[j]? = some a → P a
  | _ :: _, 0, _, h, e => Option.some.inj e ▸ h.1
  | _ :: r, j + 1, _, h, e => All.at (l := r) (j := j) h.2 e
theorem dd12_ok (v : Int) : All (DdOk v) dd12 := ⟨dd_push v, dd_push v, dd_push v, dd_push v, dd_pop v, dd_pop v, dd_pop v, dd_top v, dd_top v, dd_swap v, dd_swap v, dd_clear v, trivial⟩
theorem s_deed_by (n : Nat) (c : Int) : ∃ k, callP P03 (n + 2) "_law_deed_by" [.int c] = pure (deedK k (valueBy (c.fdiv 12))) := by
  have h := fmod_lt c (b := 12) (by decide)
  obtain ⟨j, hm⟩ := Int.eq_ofNat_of_zero_le h.1
  have hj : j < dd12.length := Int.ofNat_lt.mp (hm ▸ h.2)
  have e := List.getElem?_eq_getElem hj
  obtain ⟨b, k, nm, h1, h2, h3⟩ := (dd12_ok (valueBy (c.fdiv 12))).at e
  rw [h1] at e
  refine ⟨k, callQ (σ := [some (.int c), none]) (by kernel_rfl) (by kernel_rfl) (by kernel_rfl) ?_⟩
  unfold dd12 at e
  rw [c_deed_by_0, e_newL (by decide), pure_bind, m_mod (by decide), pure_bind, hm, e_item_lst (k := j) e, pure_bind]
  exact deed_rest n c k b nm h2 h3

theorem deed_is (n : Nat) (k : Dk) (v : Int) : callP P03 (n + 2) "is_deed" [deedK k v] = pure (.bool true) := by
  cases k <;> kernel_rfl

theorem s_start_t (n : Nat) (c m : Int) (hm : 0 ≤ m ∧ m ≤ 60) : ∃ L : List Int, L.length ≤ 60 ∧ tl P03 (callP P03 (n + 1)) "_law_start_by" [] 2 38 [some (.int c), some (.int m)] = pure (.ret (.lst (L.map .int))) := by
  have hb : ∀ a ∈ rangeL 0 m, (do let y2 ← (do let vs4 ← eachM [(do let vs3 ← eachM [(pBin false .FloorDiv (.int c) (.int 8)), pure a]; callP P03 (n + 1) "_law_mixed" vs3)]; callP P03 (n + 1) "_law_value_by" vs4); pure (some y2) : M (Option AV)) = pure (some ((fun a => match a with | .int i => AV.int (valueBy (mixed (c.fdiv 8) i)) | a => a) a)) := by
    intro a ha
    obtain ⟨i, rfl, hi⟩ := mem_rangeL ha
    simp only [m_div (i := c) d8, e_eachp, e_each0, pure_bind, s_mixed, s_value_by]
  refine ⟨(List.range (m - 0).toNat).map fun (k : Nat) => valueBy (mixed (c.fdiv 8) (0 + (k : Int))), ?_, ?_⟩
  · rw [List.length_map, List.length_range]; omega
  · rw [c_start_by_t_2, e_range1, pure_bind, srcOf_range (by omega) (by omega), pure_bind, compM _ (by rw [rangeL_length]; omega) hb, pure_bind, e_newL (by rw [List.length_map, rangeL_length]; have := LIMis; omega), pure_bind]
    unfold rangeL
    rw [List.map_map, List.map_map]
    rfl
theorem s_start_by (n : Nat) (c : Int) : ∃ L : List Int, L.length ≤ 60 ∧ callP P03 (n + 2) "_law_start_by" [.int c] = pure (.lst (L.map .int)) := by
  have h4 := fmod_lt c (b := 4) (by decide)
  have h61 := fmod_lt (c.fdiv 32) (b := 61) (by decide)
  by_cases h : (c.fdiv 4).fmod 8 = 1
  · obtain ⟨L, h1, h2⟩ := s_start_t n c ((c.fdiv 32).fmod 61) (by omega)
    refine ⟨L, h1, callQ (σ := [some (.int c), none]) (by kernel_rfl) (by kernel_rfl) (by kernel_rfl) ?_⟩
    rw [c_start_by_0, m_mod (by decide), pure_bind, m_div d4, pure_bind, m_mod (by decide), pure_bind, e_eqi, pure_bind, decide_eq_true h]
    simp only [m_div (i := c) d32, pure_bind, m_mod (j := 61) (by decide), e_go_next, h2]
  · obtain ⟨L, h1, h2⟩ := s_start_t n c (c.fmod 4) (by omega)
    refine ⟨L, h1, callQ (σ := [some (.int c), none]) (by kernel_rfl) (by kernel_rfl) (by kernel_rfl) ?_⟩
    rw [c_start_by_0, m_mod (by decide), pure_bind, m_div d4, pure_bind, m_mod (by decide), pure_bind, e_eqi, pure_bind, decide_eq_false h]
    simp only [pure_bind, e_go_next, h2]

theorem s_hands_by (n : Nat) (c : Int) : ∃ m : Nat, 1 ≤ m ∧ m ≤ 20 ∧ callP P03 (n + 1) "_law_hands_by" [.int c] = pure (.int m) := by
  have h4 := fmod_lt c (b := 4) (by decide)
  have h16 := fmod_lt (c.fdiv 32) (b := 16) (by decide)
  by_cases h : (c.fdiv 4).fmod 8 = 1
  · refine ⟨(5 + (c.fdiv 32).fmod 16).toNat, by omega, by omega, callQ (σ := [some (.int c)]) (by kernel_rfl) (by kernel_rfl) (by kernel_rfl) ?_⟩
    rw [c_hands_by_0, m_div d4, pure_bind, m_mod (by decide), pure_bind, e_eqi, pure_bind, decide_eq_true h]
    simp only [m_div (i := c) d32, pure_bind, m_mod (i := c.fdiv 32) (j := 16) (by decide), m_add, e_go_ret]
    rw [Int.toNat_of_nonneg (by omega)]
  · refine ⟨(1 + c.fmod 4).toNat, by omega, by omega, callQ (σ := [some (.int c)]) (by kernel_rfl) (by kernel_rfl) (by kernel_rfl) ?_⟩
    rw [c_hands_by_0, m_div d4, pure_bind, m_mod (by decide), pure_bind, e_eqi, pure_bind, decide_eq_false h]
    simp only [pure_bind, e_go_next, c_hands_by_t_1, m_mod (i := c) (j := 4) (by decide), m_add]
    rw [Int.toNat_of_nonneg (by omega)]

theorem s_cells (n : Nat) (ns : List Int) (hns : ns.length ≤ 63) (a b : Nat) (hab : a ≤ b ∧ b ≤ 63) : ∃ L : List AV, AllN L ∧ L.length ≤ b - a ∧ callP P03 (n + 2) "_law_cells" [.lst (ns.map .int), .int a, .int b] = pure (.lst L) := by
  have hmin : (if ((ns.map AV.int).length : Int) < (b : Int) then ((ns.map AV.int).length : Int) else (b : Int)) ≤ b := by split <;> omega
  have hmin2 : (if ((ns.map AV.int).length : Int) < (b : Int) then ((ns.map AV.int).length : Int) else (b : Int)) ≤ ns.length := by rw [List.length_map]; split <;> omega
  have hmin3 : 0 ≤ (if ((ns.map AV.int).length : Int) < (b : Int) then ((ns.map AV.int).length : Int) else (b : Int)) := by split <;> omega
  obtain ⟨e, he⟩ : ∃ e, e = (if ((ns.map AV.int).length : Int) < (b : Int) then ((ns.map AV.int).length : Int) else (b : Int)) := ⟨_, rfl⟩
  rw [← he] at hmin hmin2 hmin3
  have hb : ∀ u ∈ rangeL a e, (do let y2 ← (do let vs3 ← eachM [(pItem (.lst (ns.map .int)) u), pure u]; callP P03 (n + 1) "_law_mixed" vs3); pure (some y2) : M (Option AV)) = pure (some ((fun u => match u with | .int i => AV.int (mixed (ns.getD i.toNat 0) i) | u => u) u)) := by
    intro u hu
    obtain ⟨i, rfl, hi⟩ := mem_rangeL hu
    have hlt : a + i < ns.length := by omega
    have hit : (ns.map AV.int)[a + i]? = some (.int ns[a + i]) := by rw [List.getElem?_map, List.getElem?_eq_getElem hlt]; rfl
    rw [show ((a : Int) + (i : Int)) = ((a + i : Nat) : Int) from by omega]
    simp only [e_item_lst hit, e_eachp, e_each0, pure_bind, s_mixed, Int.toNat_natCast]
    rw [List.getD_eq_getElem?_getD, List.getElem?_eq_getElem hlt]; rfl
  refine ⟨(rangeL a e).map (fun u => match u with | .int i => AV.int (mixed (ns.getD i.toNat 0) i) | u => u), ?_, ?_, callQ (σ := [some (.lst (ns.map .int)), some (.int a), some (.int b)]) (by kernel_rfl) (by kernel_rfl) (by kernel_rfl) ?_⟩
  · intro x hx
    obtain ⟨u, hu, rfl⟩ := List.mem_map.mp hx
    obtain ⟨i, rfl, hi⟩ := mem_rangeL hu
    exact ⟨_, rfl, mixed_ge _ _⟩
  · rw [List.length_map, rangeL_length]; omega
  · rw [c_cells_0, e_len_lst]
    simp only [e_eachp, e_each0, pure_bind]
    rw [show pBI false .min [.int b, .int ((ns.map AV.int).length : Nat)] = pure (.int e) from by rw [he]; rfl]
    simp only [e_eachp, e_each0, pure_bind]
    rw [e_range2, pure_bind, srcOf_range (by omega) (by omega), pure_bind, compM _ (by rw [rangeL_length]; omega) hb, pure_bind, e_newL (by rw [List.length_map, rangeL_length]; have := LIMis; omega), pure_bind]
/-- what stood stays, and l is new -/
noncomputable def Frm (H : AHeap) (l : Nat) (H1 : AHeap) : Prop := H.length ≤ l ∧ H.length ≤ H1.length ∧ ∀ x, x < H.length → H1[x]? = H[x]?
theorem Frm.set {H H1 : AHeap} {l : Nat} {o : AO} (h : Frm H l H1) : Frm H l (H1.set l o) := ⟨h.1, by rw [List.length_set]; exact h.2.1, fun x hx => by rw [List.getElem?_set_ne (Nat.ne_of_gt (Nat.lt_of_lt_of_le hx h.1))]; exact h.2.2 x hx⟩
/-- programs on the heap: lp holds their places, each holds deeds -/
noncomputable def PrOk (H : AHeap) (lp : Nat) (PL : List Nat) (t : Nat) : Prop := H[lp]? = some (.list (PL.map .loc)) ∧ ∀ q ∈ PL, q ≠ lp ∧ ∃ p : List Deed, H[q]? = some (.list (p.map deedV)) ∧ p.length ≤ t

theorem s_programs (n : Nat) (ns : List Int) (hns : ns.length ≤ 63) (m : Nat) (hm : 1 ≤ m ∧ m ≤ 20) (H : AHeap) :
    Rn (callP P03 (n + 3) "_law_programs_by" [.lst (ns.map .int), .int m]) H fun a H' => ∃ lp PL, a = .loc lp ∧ PrOk H' lp PL 24 ∧ PL.length = m ∧ ∀ l, l < H.length → H'[l]? = H[l]? := by
  have L := LIMis
  obtain ⟨cs, hc1, hc2, hc3⟩ := s_cells n ns hns 3 27 (by omega)
  refine callRn (σ := [some (.lst (ns.map .int)), some (.int m), none, none]) (by kernel_rfl) (by kernel_rfl) (by kernel_rfl) ?_
  rw [c_programs_by_0, e_range1, pure_bind, srcOf_range (by omega) (by omega), pure_bind]
  refine .bind (.then (compA (rangeL 0 m) (fun i acc H1 => ∃ PL : List Nat, acc = PL.map .loc ∧ H.length ≤ H1.length ∧ (∀ l, l < H.length → H1[l]? = H[l]?) ∧ ∀ q ∈ PL, q < H1.length ∧ H.length ≤ q ∧ H1[q]? = some (.list [])) (by rw [rangeL_length]; omega) (fun _ _ _ _ => rfl) ⟨[], rfl, Nat.le_refl _, fun _ _ => rfl, fun q hq => by cases hq⟩ ?_) ?_)
  · rintro i a acc H1 ha hacc ⟨PL, rfl, h1, h2, h3⟩
    refine .bof (newT (by simp)) (.pure ⟨_, rfl, PL ++ [H1.length], by simp, by simp; omega, fun l hl => ?_, fun q hq => ?_⟩)
    · rw [app_lt (by omega)]; exact h2 l hl
    · rcases List.mem_append.mp hq with h | h
      · obtain ⟨q1, q2, q3⟩ := h3 q h
        exact ⟨by simp; omega, q2, by rw [app_lt q1]; exact q3⟩
      · rw [List.mem_singleton] at h
        subst h
        exact ⟨by simp, h1, app_at⟩
  · rintro acc H1 ⟨⟨PL, rfl, h1, h2, h3⟩, hlen⟩
    rw [rangeL_length, List.length_map] at hlen
    refine .of (newT (by rw [List.length_map]; omega)) ?_
    rw [show (AV.int 3) = .int ((3 : Nat) : Int) from rfl, show (AV.int 27) = .int ((27 : Nat) : Int) from rfl, hc3, pure_bind, srcOf_lst, pure_bind]
    refine .then (forI (fun k σ H2 => (∃ o1 o2, σ = [o1, some (.int m), some (.loc H1.length), o2]) ∧ PrOk H2 H1.length PL k ∧ H1.length < H2.length ∧ ∀ l, l < H.length → H2[l]? = H[l]?)
      (Q := fun r H2 => (∃ o1 o2, r = .next [o1, some (.int m), some (.loc H1.length), o2]) ∧ PrOk H2 H1.length PL 24 ∧ ∀ l, l < H.length → H2[l]? = H[l]?) (by omega) ?_ ?_ ?_) ?_
    · refine ⟨⟨_, _, rfl⟩, ⟨app_at, fun q hq => ?_⟩, by simp, fun l hl => by rw [app_lt (by omega)]; exact h2 l hl⟩
      obtain ⟨q1, q2, q3⟩ := h3 q hq
      exact ⟨by omega, [], by rw [app_lt q1]; exact q3, Nat.zero_le _⟩
    · rintro k a σ H2 ha ⟨⟨o1, o2, rfl⟩, ⟨p1, p2⟩, p3, p4⟩
      obtain ⟨v, rfl, hv⟩ := hc1 a (List.mem_of_getElem? ha)
      have hk : k < cs.length := (List.getElem?_eq_some_iff.mp ha).1
      obtain ⟨j, hj, hje⟩ := mod_nat (i := v) hm.1
      have hjl : j < PL.length := by omega
      have hit : (PL.map AV.loc)[j]? = some (.loc PL[j]) := by rw [List.getElem?_map, List.getElem?_eq_getElem hjl]; rfl
      obtain ⟨hne, ds, hds, hdl⟩ := p2 _ (List.getElem_mem hjl)
      obtain ⟨jj, hdd⟩ := s_deed_by n (v.fdiv 4)
      rw [c_programs_by_for_1]
      refine .bind (.bind ?_)
      rw [hje, pure_bind]
      refine .of (item_loc p1 hit) ?_
      refine .bof (listOf_loc hds) ?_
      rw [m_div d4]
      simp only [e_eachp, e_each0, pure_bind]
      rw [hdd]
      simp only [e_eachp, e_each0, pure_bind]
      refine .of (append_loc hds (by rw [List.length_map]; omega)) ?_
      refine .pure ⟨⟨_, _, rfl⟩, ⟨?_, fun q hq => ?_⟩, by rw [List.length_set]; exact p3, fun l hl => ?_⟩
      · rw [List.getElem?_set_ne hne]; exact p1
      · obtain ⟨g1, ds', g2, g4⟩ := p2 q hq
        refine ⟨g1, ?_⟩
        by_cases hqe : PL[j] = q
        · exact ⟨ds ++ [⟨jj, valueBy ((v.fdiv 4).fdiv 12)⟩], by rw [← hqe, List.map_append]; exact set_at hds, by rw [List.length_append]; exact Nat.succ_le_succ hdl⟩
        · exact ⟨ds', by rw [List.getElem?_set_ne hqe]; exact g2, Nat.le_succ_of_le g4⟩
      · obtain ⟨q1, q2, q3⟩ := h3 _ (List.getElem_mem hjl)
        rw [List.getElem?_set_ne (by omega)]; exact p4 l hl
    · rintro σ H2 ⟨⟨o1, o2, rfl⟩, ⟨p1, p2⟩, p3, p4⟩
      refine ⟨⟨_, _, rfl⟩, ⟨p1, fun q hq => ?_⟩, p4⟩
      obtain ⟨g1, ds', g2, g4⟩ := p2 q hq
      exact ⟨g1, ds', g2, by omega⟩
    · rintro r H2 ⟨⟨o1, o2, rfl⟩, p, p4⟩
      rw [e_go_next, c_programs_by_t_2]
      exact .pure ⟨_, PL, rfl, p, by omega, p4⟩

end Mine


set_option autoImplicit false
set_option linter.unusedVariables false
set_option maxRecDepth 100000
namespace Mine
open PySem PyProof.Rows

noncomputable def Lf (a : AV) : Prop := a = .none ∨ (∃ i, a = .int i) ∨ (∃ s, a = .str s ∧ PyData.strOk s = true) ∨ ∃ b, a = .bool b
theorem Lf.ne {a : AV} (h : Lf a) : pCmp .NotEq a a = pure false := by
  rcases h with rfl | ⟨i, rfl⟩ | ⟨s, rfl, hs⟩ | ⟨b, rfl⟩
  · kernel_rfl
  · rw [e_nei, decide_eq_true rfl]; rfl
  · show (do let r ← pCmp .Eq (.str s) (.str s); pure (!r)) = _
    rw [e_eqs hs hs, decide_eq_true rfl]; rfl
  · rw [e_neb, bne_self_eq_false]
theorem Lf.rd {a : AV} (h : Lf a) (H : AHeap) (n : Nat) : ∃ d, rd H n a = some d := by
  rcases h with rfl | ⟨i, rfl⟩ | ⟨s, rfl, hs⟩ | ⟨b, rfl⟩
  · exact ⟨_, by unfold Mine.rd; rfl⟩
  · exact ⟨_, rd_int⟩
  · exact ⟨_, by unfold Mine.rd; rw [if_pos hs]⟩
  · exact ⟨_, by unfold Mine.rd; rfl⟩
/-- a tuple or a list of xs -/
noncomputable def Sq (H : AHeap) : Bool → AV → List AV → Prop
  | true, a, xs => a = .tup xs
  | false, a, xs => a = .lst xs ∨ ∃ l, a = .loc l ∧ H[l]? = some (.list xs)
noncomputable def SmL (P : Nat → AV × AV → Prop) : Nat → List (AV × AV) → Prop
  | c, [] => c = 0
  | c, p :: r => ∃ a b, c = a + b ∧ P a p ∧ SmL P b r
/-- the same data, n levels deep at most, of size c -/
noncomputable def Sm (H : AHeap) : Nat → Nat → AV × AV → Prop
  | 0, c, p => c = 1 ∧ Lf p.1 ∧ p.2 = p.1
  | n + 1, c, p => (c = 1 ∧ Lf p.1 ∧ p.2 = p.1) ∨ ∃ k xs ys d, Sq H k p.1 xs ∧ Sq H k p.2 ys ∧ xs.length = ys.length ∧ c = d + 1 ∧ SmL (Sm H n) d (xs.zip ys)
theorem SmL.mono {P Q : Nat → AV × AV → Prop} (h : ∀ c p, P c p → Q c p) : ∀ {l : List (AV × AV)} {c : Nat}, SmL P c l → SmL Q c l
  | [], _, e => e
  | p :: r, c, ⟨a, b, e, h1, h2⟩ => ⟨a, b, e, h a p h1, h2.mono h⟩
theorem SmL.app {P : Nat → AV × AV → Prop} : ∀ {l r : List (AV × AV)} {c d : Nat}, SmL P c l → SmL P d r → SmL P (c + d) (l ++ r)
  | [], r, c, d, e, h => by
    have e : c = 0 := e
    rw [e, Nat.zero_add]; exact h
  | p :: l, r, c, d, ⟨a, b, e, h1, h2⟩, h => ⟨a, b + d, by rw [e, Nat.add_assoc], h1, h2.app h⟩
theorem SmL.snoc {P : Nat → AV × AV → Prop} {p : AV × AV} : ∀ {l : List (AV × AV)} {c : Nat}, SmL P c (l ++ [p]) → ∃ a b, c = a + b ∧ SmL P a l ∧ P b p
  | [], c, ⟨a, b, e, h1, h2⟩ => ⟨0, a, by rw [e, show b = 0 from h2, Nat.zero_add]; rfl, rfl, h1⟩
  | q :: l, c, ⟨a, b, e, h1, h2⟩ => let ⟨a', b', e', h3, h4⟩ := SmL.snoc h2; ⟨a + a', b', by rw [e, e', Nat.add_assoc], ⟨a, a', rfl, h1, h3⟩, h4⟩
theorem SmL.len {P : Nat → AV × AV → Prop} (h : ∀ c p, P c p → 1 ≤ c) : ∀ {l : List (AV × AV)} {c : Nat}, SmL P c l → l.length ≤ c
  | [], _, _ => Nat.zero_le _
  | p :: r, c, ⟨a, b, e, h1, h2⟩ => by rw [e, Nat.add_comm]; exact Nat.add_le_add (h2.len h) (h a p h1)
theorem SmL.mem {P : Nat → AV × AV → Prop} : ∀ {l : List (AV × AV)} {c : Nat}, SmL P c l → ∀ p ∈ l, ∃ a, P a p
  | q :: r, c, ⟨a, b, e, h1, h2⟩, p, hp => (List.mem_cons.mp hp).elim (fun e => e ▸ ⟨a, h1⟩) (h2.mem p)
theorem Sm.elim {H : AHeap} {n c : Nat} {p : AV × AV} {T : Prop} (h : Sm H n c p) (h1 : c = 1 → Lf p.1 → p.2 = p.1 → T) (h2 : ∀ m k xs ys d, n = m + 1 → Sq H k p.1 xs → Sq H k p.2 ys → xs.length = ys.length → c = d + 1 → SmL (Sm H m) d (xs.zip ys) → T) : T := by
  cases n with
  | zero => exact h1 h.1 h.2.1 h.2.2
  | succ n =>
    rcases h with h | ⟨k, xs, ys, d, q1, q2, q3, q4, q5⟩
    · exact h1 h.1 h.2.1 h.2.2
    · exact h2 n k xs ys d rfl q1 q2 q3 q4 q5
theorem Sm.up {H : AHeap} {n : Nat} : ∀ {c : Nat} {p : AV × AV}, Sm H n c p → Sm H (n + 1) c p := by
  induction n with
  | zero => exact fun h => .inl h
  | succ n ih => exact fun h => h.elim (fun q1 q2 q3 => .inl ⟨q1, q2, q3⟩) fun m k xs ys d e q1 q2 q3 q4 q5 => by cases e; exact .inr ⟨k, xs, ys, d, q1, q2, q3, q4, q5.mono fun _ _ h => ih h⟩
theorem Sm.pos {H : AHeap} {n c : Nat} {p : AV × AV} (h : Sm H n c p) : 1 ≤ c := h.elim (fun e _ _ => Nat.le_of_eq e.symm) fun _ _ _ _ _ _ _ _ _ e _ => e ▸ Nat.succ_le_succ (Nat.zero_le _)
theorem Sq.elim {H : AHeap} {T : Bool → AV → List AV → Prop} (h1 : ∀ xs, T true (.tup xs) xs) (h2 : ∀ xs, T false (.lst xs) xs) (h3 : ∀ l xs, H[l]? = some (.list xs) → T false (.loc l) xs) : ∀ {k : Bool} {a : AV} {xs : List AV}, Sq H k a xs → T k a xs
  | true, _, xs, rfl => h1 xs
  | false, _, xs, .inl rfl => h2 xs
  | false, _, xs, .inr ⟨l, rfl, h⟩ => h3 l xs h
theorem Sq.app {H X : AHeap} {k : Bool} {a : AV} {xs : List AV} (h : Sq H k a xs) : Sq (H ++ X) k a xs :=
  Sq.elim (T := fun k a xs => Sq (H ++ X) k a xs) (fun _ => rfl) (fun _ => .inl rfl) (fun l _ h => .inr ⟨l, rfl, by rw [List.getElem?_append_left (List.getElem?_eq_some_iff.mp h).1]; exact h⟩) h
theorem Sq.rd {H : AHeap} {n : Nat} {k : Bool} {a : AV} {xs : List AV} (q : Sq H k a xs) (h : ∀ x ∈ xs, ∃ d, rd H n x = some d) : ∃ d, rd H (n + 1) a = some d := by
  obtain ⟨ds, h1, _⟩ := mapM_ok (f := Mine.rd H n) h
  refine Sq.elim (T := fun k a xs => xs.mapM (Mine.rd H n) = some ds → ∃ d, Mine.rd H (n + 1) a = some d) (fun xs h1 => ⟨.tuple ds, ?_⟩) (fun xs h1 => ⟨.list ds, ?_⟩) (fun l xs hl h1 => ⟨.list ds, ?_⟩) q h1
  · unfold Mine.rd; rw [h1]; rfl
  · unfold Mine.rd; rw [h1]; rfl
  · unfold Mine.rd; simp only [hl, h1]; rfl
theorem zip_l {xs ys : List AV} (hl : xs.length = ys.length) {x : AV} (hx : x ∈ xs) : ∃ y, (x, y) ∈ xs.zip ys := by
  obtain ⟨i, hi⟩ := List.mem_iff_getElem?.mp hx
  have h1 := (List.getElem?_eq_some_iff.mp hi).1
  exact ⟨ys[i]'(hl ▸ h1), List.mem_iff_getElem?.mpr ⟨i, by rw [List.getElem?_zip_eq_some]; exact ⟨hi, List.getElem?_eq_getElem _⟩⟩⟩
theorem zip_r {xs ys : List AV} (hl : xs.length = ys.length) {y : AV} (hy : y ∈ ys) : ∃ x, (x, y) ∈ xs.zip ys := by
  obtain ⟨i, hi⟩ := List.mem_iff_getElem?.mp hy
  have h1 := (List.getElem?_eq_some_iff.mp hi).1
  exact ⟨xs[i]'(hl ▸ h1), List.mem_iff_getElem?.mpr ⟨i, by rw [List.getElem?_zip_eq_some]; exact ⟨List.getElem?_eq_getElem _, hi⟩⟩⟩
theorem Sm.rd {H X : AHeap} {n : Nat} : ∀ {c : Nat} {p : AV × AV}, Sm H n c p → (∃ d, rd (H ++ X) n p.1 = some d) ∧ ∃ d, rd (H ++ X) n p.2 = some d := by
  have lf : ∀ {c n : Nat} {p : AV × AV}, c = 1 → Lf p.1 → p.2 = p.1 → (∃ d, Mine.rd (H ++ X) n p.1 = some d) ∧ ∃ d, Mine.rd (H ++ X) n p.2 = some d := fun _ h e => ⟨h.rd _ _, e ▸ h.rd _ _⟩
  induction n with
  | zero => exact fun h => h.elim lf fun _ _ _ _ _ e => nomatch e
  | succ n ih =>
    intro c p h
    refine h.elim lf fun m k xs ys d e h1 h2 h3 h4 h5 => ?_
    cases e
    refine ⟨h1.app.rd fun x hx => ?_, h2.app.rd fun y hy => ?_⟩
    · obtain ⟨y, hy⟩ := zip_l h3 hx
      obtain ⟨a, h⟩ := h5.mem _ hy
      exact (ih h).1
    · obtain ⟨x, hx⟩ := zip_r h3 hy
      obtain ⟨a, h⟩ := h5.mem _ hx
      exact (ih h).2
theorem rd_pr {H : AHeap} {n : Nat} {p : AV × AV} (h1 : ∃ d, rd H n p.1 = some d) (h2 : ∃ d, rd H n p.2 = some d) : ∃ d, rd H (n + 1) (prV p) = some d := by
  obtain ⟨d, h1⟩ := h1
  obtain ⟨e, h2⟩ := h2
  exact ⟨.tuple [d, e], by unfold prV rd; simp only [List.mapM_cons, List.mapM_nil, h1, h2]; rfl⟩
theorem Sq.isTL {H : AHeap} {k : Bool} {a : AV} {xs : List AV} (h : Sq H k a xs) : pIsiTL a H = some (.ok true, H) :=
  Sq.elim (T := fun _ a _ => pIsiTL a H = some (.ok true, H)) (fun _ => rfl) (fun _ => rfl) (fun _ _ h => bind_of (listOf_loc h) rfl) h
theorem Sq.isT {H : AHeap} {k : Bool} {a : AV} {xs : List AV} (h : Sq H k a xs) : pIsi a .tuple H = some (.ok k, H) :=
  Sq.elim (T := fun k a _ => pIsi a .tuple H = some (.ok k, H)) (fun _ => rfl) (fun _ => rfl) (fun _ _ h => bind_of (listOf_loc h) rfl) h
theorem Sq.isL {H : AHeap} {k : Bool} {a : AV} {xs : List AV} (h : Sq H k a xs) : pIsi a .list H = some (.ok !k, H) :=
  Sq.elim (T := fun k a _ => pIsi a .list H = some (.ok !k, H)) (fun _ => rfl) (fun _ => rfl) (fun _ _ h => bind_of (listOf_loc h) rfl) h
theorem Sq.len {H : AHeap} {k : Bool} {a : AV} {xs : List AV} (h : Sq H k a xs) : pBI false .len [a] H = some (.ok (.int xs.length), H) :=
  Sq.elim (T := fun _ a xs => pBI false .len [a] H = some (.ok (.int xs.length), H)) (fun _ => rfl) (fun _ => rfl) (fun _ _ h => len_loc h) h
theorem Sq.seq {H : AHeap} {k : Bool} {a : AV} {xs : List AV} (h : Sq H k a xs) : seqOf a H = some (.ok xs, H) ∧ isTp a = k :=
  Sq.elim (T := fun k a xs => seqOf a H = some (.ok xs, H) ∧ isTp a = k) (fun _ => ⟨rfl, rfl⟩) (fun _ => ⟨rfl, rfl⟩) (fun _ _ h => ⟨seqOf_loc h, rfl⟩) h
theorem Sq.zip {H : AHeap} {k : Bool} {x y : AV} {xs ys : List AV} (hx : Sq H k x xs) (hy : Sq H k y ys) (hl : xs.length = ys.length) (hz : xs.length ≤ LIM) : pZipL false [x, y] H = some (.ok (.lst ((xs.zip ys).map prV)), H) := by
  refine bind_of hx.seq.1 (bind_of hy.seq.1 ?_)
  rw [hx.seq.2, hy.seq.2, decide_eq_true hl, zip_map, beq_self_eq_true, Bool.and_self, if_pos rfl, e_newL (by rw [List.length_map, List.length_zip]; omega)]; rfl
theorem leaf_turn (cf : Str → List AV → M AV) {H : AHeap} {l : Nat} {rest : List AV} {a : AV} {o1 o2 o3 : Option AV} (h : H[l]? = some (.list (rest ++ [prV (a, a)]))) (ha : Lf a) :
    Rn (whileB P03 cf "_law_alike" [] 1 38 [o1, o2, some (.loc l), o3]) H fun r H' => r = .next [o1, o2, some (.loc l), some (prV (a, a))] ∧ H' = H.set l (.list rest) := by
  have nn := ha.ne
  rw [c_alike_while_1b]
  simp only [pure_bind]
  refine .bind (.bof (listOf_loc h) (.of (pop_last h) ?_))
  rcases ha with rfl | ⟨i, rfl⟩ | ⟨s, rfl, hs⟩ | ⟨b, rfl⟩
  · exact .eq (by kernel_rfl) ⟨rfl, rfl⟩
  · simp only [prV, e_it0, e_it1, pure_bind, show pIsiTL (.int i) = pure false from rfl, e_truth, e_isN, pIsNone, show pIsi (.int i) .bool = pure false from rfl, show pIsi (.int i) .str = pure false from rfl, e_neb, nn, bne_self_eq_false, e_go_next]
    exact .pure ⟨rfl, rfl⟩
  · simp only [prV, e_it0, e_it1, pure_bind, show pIsiTL (.str s) = pure false from rfl, e_truth, e_isN, pIsNone, show pIsi (.str s) .bool = pure false from rfl, show pIsi (.str s) .str = pure true from rfl, e_neb, nn, bne_self_eq_false, e_go_next]
    exact .pure ⟨rfl, rfl⟩
  · cases b <;> exact .eq (by kernel_rfl) ⟨rfl, rfl⟩
theorem seq_turn (cf : Str → List AV → M AV) {H : AHeap} {l : Nat} {rest : List AV} {x y : AV} {xs ys : List AV} {k : Bool} {o1 o2 o3 : Option AV} (h : H[l]? = some (.list (rest ++ [prV (x, y)]))) (hx : Sq (H.set l (.list rest)) k x xs) (hy : Sq (H.set l (.list rest)) k y ys) (hl : xs.length = ys.length) (hL : rest.length + xs.length ≤ LIM) :
    Rn (whileB P03 cf "_law_alike" [] 1 38 [o1, o2, some (.loc l), o3]) H fun r H' => r = .next [o1, o2, some (.loc H.length), some (prV (x, y))] ∧ H' = H.set l (.list rest) ++ [.list (rest ++ (xs.zip ys).map prV)] := by
  have hlt : l < H.length := (List.getElem?_eq_some_iff.mp h).1
  have hs : (H.set l (.list rest))[l]? = some (.list rest) := List.getElem?_set_self hlt
  have hlen : (H.set l (.list rest)).length = H.length := List.length_set ..
  rw [c_alike_while_1b]
  simp only [pure_bind]
  refine .bind (.bof (listOf_loc h) (.of (pop_last h) ?_))
  generalize H.set l (.list rest) = G at hx hy hs hlen ⊢
  simp only [prV, e_it0, e_it1, pure_bind]
  refine .bind (.bind (.bof hy.isTL (.pure (.eq e_truth ?_))))
  refine .bind (.bind (.bind (.bof hx.isT (.pure (.bind (.bof hy.isT (.pure (.eq ((e_neb k k).trans (by rw [bne_self_eq_false])) ?_))))))))
  simp only [e_go_next, c_alike_t10_10_1, e_it0, e_it1, pure_bind, e_eachp, e_each0]
  refine .bind (.bind (.bind (.bof hx.isL (.pure (.bind (.bof hy.isL (.pure (.eq ((e_neb (!k) (!k)).trans (by rw [bne_self_eq_false])) ?_))))))))
  refine .bind (.bof hx.len (.bof hy.len (.eq (e_nei.trans (by rw [hl, decide_eq_true rfl, Bool.not_true])) ?_)))
  refine .pure ?_
  simp only [e_go_next, c_alike_t10_10_2, e_it0, e_it1, pure_bind, e_eachp, e_each0]
  refine .bind (.bof (hx.zip hy hl (Nat.le_trans (Nat.le_add_left _ _) hL)) (.of (add_loc hs (by rw [List.length_map, List.length_zip, ← hl, Nat.min_self]; exact hL)) ?_))
  rw [hlen]
  exact .pure (.pure ⟨rfl, rfl⟩)
theorem s_like (n : Nat) (H : AHeap) {a b : AV} {c : Nat} (h : Sm H 5 c (a, b)) (hc : c < 100000) : Rn (callP P03 (n + 1) "_law_alike" [a, b]) H fun r H' => r = .bool true ∧ ∃ X, H' = H ++ X := by
  have hL := LIMis
  refine callRn (σ := [some a, some b, none, none]) (by kernel_rfl) (by kernel_rfl) (by kernel_rfl) ?_
  rw [c_alike_0]
  refine .bof (newT (by show 1 ≤ LIM; omega)) ?_
  refine .then (whR c (fun m σ H2 => ∃ o1 o2 o3 l X rest, σ = [o1, o2, some (.loc l), o3] ∧ H2 = H ++ X ∧ H.length ≤ l ∧ H2[l]? = some (.list (rest.map prV)) ∧ SmL (Sm H 5) m rest ∧ m < 100000)
    (Q := fun r H2 => ∃ σ, r = .next σ ∧ ∃ o1 o2 o3 o4 X, σ = [o1, o2, o3, o4] ∧ H2 = H ++ X) hc ?_ ?_) ?_
  · exact ⟨_, _, _, H.length, _, [(a, b)], rfl, rfl, Nat.le_refl _, app_at, ⟨c, 0, rfl, h, rfl⟩, hc⟩
  · rintro m σ H2 ⟨o1, o2, o3, l, X, rest, rfl, rfl, hl, h1, h2, h3⟩
    rw [c_alike_while_1t, e_newL (Nat.zero_le _), pure_bind]
    refine .of (ne_nil_loc h1 fun x hx => ?_) ?_
    · obtain ⟨p, hp, rfl⟩ := List.mem_map.mp hx
      obtain ⟨a, q⟩ := h2.mem p hp
      exact rd_pr q.up.rd.1 q.up.rd.2
    rcases List.eq_nil_or_concat rest with rfl | ⟨r, p, rfl⟩
    · exact .inl ⟨rfl, _, rfl, _, _, _, _, X, rfl, rfl⟩
    rw [List.concat_eq_append] at h1 h2 ⊢
    rw [List.map_append] at h1
    obtain ⟨u, v, rfl, h4, h5⟩ := h2.snoc
    have hr := h4.len fun _ _ q => q.pos
    refine .inr ⟨by rw [List.map_append]; cases r.map prV <;> rfl, ?_⟩
    obtain ⟨x, y⟩ := p
    rcases h5 with ⟨rfl, lf, e⟩ | ⟨k, xs, ys, d, sx, sy, hxy, rfl, hd⟩
    · have e : y = x := e
      subst e
      refine (leaf_turn _ h1 lf).mono ?_
      rintro _ _ ⟨rfl, rfl⟩
      exact ⟨u, Nat.lt_succ_self u, _, _, _, l, _, r, rfl, set_far hl, hl, List.getElem?_set_self (List.getElem?_eq_some_iff.mp h1).1, h4, by omega⟩
    · have hz := hd.len fun _ _ q => q.pos
      rw [List.length_zip, ← hxy, Nat.min_self] at hz
      refine (seq_turn _ (k := k) (xs := xs) (ys := ys) h1 (set_far hl ▸ sx.app) (set_far hl ▸ sy.app) hxy (by rw [List.length_map]; omega)).mono ?_
      rintro _ _ ⟨rfl, rfl⟩
      refine ⟨u + d, by omega, _, _, _, (H ++ X).length, _, r ++ xs.zip ys, rfl, by rw [set_far hl, List.append_assoc], by rw [List.length_append]; exact Nat.le_add_right _ _, ?_, h4.app (hd.mono fun _ _ q => q.up), by omega⟩
      have := app_at (H := (H ++ X).set l (.list (r.map prV))) (o := .list (r.map prV ++ (xs.zip ys).map prV))
      rw [List.length_set] at this
      rw [List.map_append]
      exact this
  · rintro r H2 ⟨σ, rfl, o1, o2, o3, o4, X, rfl, rfl⟩
    rw [e_go_next, c_alike_t_2]
    exact .pure ⟨rfl, X, rfl⟩

end Mine


set_option autoImplicit false
set_option linter.unusedVariables false
set_option maxRecDepth 100000
namespace Mine
open PySem PyProof.Rows

/-- a run on H that leaves it as it is: it goes on (none), or raises -/
noncomputable def Ch (g : Option Str) (m : M Res) (H : AHeap) (I : Loc → Prop) : Prop := match g with
  | none => ∃ σ', I σ' ∧ m H = some (.ok (.next σ'), H)
  | some x => m H = some (.error x, H)
theorem x_bind {α β : Type} {m : M α} {f : α → M β} {H H1 : AHeap} {x : Str} (h : m H = some (.error x, H1)) : (m >>= f) H = some (.error x, H1) := by
  show Option.bind (m H) _ = _
  rw [h]; rfl
section
variable {H : AHeap} {I J : Loc → Prop} {g g2 : Option Str} {m : M Res} {k : Loc → M Res}
theorem Ch.then (h : Ch g m H I) (h2 : ∀ σ, I σ → Ch g2 (k σ) H J) : Ch (g <|> g2) (m >>= goOn k) H J := by
  cases g with
  | none =>
    obtain ⟨σ', i, e⟩ := h
    have := h2 σ' i
    show Ch g2 _ H J
    unfold Ch at this ⊢
    rw [b_some e, e_go_next]
    exact this
  | some x => exact x_bind h
theorem Ch.end' (h : Ch g m H I) : Ch g (m >>= goOn fun σ => pure (.next σ)) H I := by
  cases g with
  | none => obtain ⟨σ', i, e⟩ := h; exact ⟨σ', i, by rw [b_some e]; rfl⟩
  | some x => exact x_bind h
theorem Ch.of {α : Type} {m : M α} {f : α → M Res} {a : α} (e : m H = some (.ok a, H)) (h : Ch g (f a) H I) : Ch g (m >>= f) H I := by
  unfold Ch at h ⊢
  rw [b_some e]; exact h
theorem Ch.if {c : Bool} {x : Str} {σ : Loc} {f : M Res} (h : I σ) (hf : f = if c then throwM x else pure (.next σ)) : Ch (if c then some x else none) f H I := by
  subst hf
  cases c with
  | true => rfl
  | false => exact ⟨σ, h, rfl⟩
theorem Ch.test {c : Bool} {x : Str} {σ : Loc} (h : Ch g2 (k σ) H J) : Ch ((if c then some x else none) <|> g2) (match c with | true => (do let r ← throwM x; goOn k r) | false => (do let r ← pure (.next σ); goOn k r)) H J := by
  cases c with
  | true => exact x_bind (f := goOn k) (show throwM x H = some (.error x, H) from rfl)
  | false => show Ch g2 _ H J; rw [pure_bind, e_go_next]; exact h
theorem Ch.last {c : Bool} {x : Str} {σ : Loc} (h : I σ) : Ch (if c then some x else none) (match c with | true => (do let r ← throwM x; goOn (fun σ => pure (.next σ)) r) | false => (do let r ← pure (.next σ); goOn (fun σ => pure (.next σ)) r)) H I := by
  cases c with
  | true => exact x_bind (f := goOn fun σ => pure (.next σ)) (show throwM x H = some (.error x, H) from rfl)
  | false => exact ⟨σ, h, rfl⟩
theorem Ch.up (h : ∀ σ, I σ → J σ) (x : Ch g m H I) : Ch g m H J := by
  cases g with
  | none => obtain ⟨σ', i, e⟩ := x; exact ⟨σ', h _ i, e⟩
  | some _ => exact x
theorem forCh_go {src : Src} {xs : List AV} {body : AV → Loc → M Res} {gx : AV → Option Str} (hs : ∀ i, src.get i H = some (.ok xs[i]?, H)) (hb : ∀ a ∈ xs, ∀ σ, I σ → Ch (gx a) (body a σ) H I) : ∀ (j f i : Nat) (σ : Loc), i + j = xs.length → j < f → I σ → Ch ((xs.drop i).findSome? gx) (forLoop src body f i σ) H I
  | 0, f + 1, i, σ, hj, hf, h => by
    rw [List.drop_of_length_le (by omega)]
    refine ⟨σ, h, ?_⟩
    unfold forLoop
    rw [b_some (hs i), List.getElem?_eq_none (by omega)]; rfl
  | j + 1, f + 1, i, σ, hj, hf, h => by
    have hi : i < xs.length := by omega
    rw [List.drop_eq_getElem_cons hi, List.findSome?_cons]
    unfold forLoop
    refine Ch.of (hs i) ?_
    rw [List.getElem?_eq_getElem hi]
    have h1 := hb _ (List.getElem_mem hi) σ h
    cases hg : gx xs[i] with
    | none =>
      rw [hg] at h1
      obtain ⟨σ', i', e⟩ := h1
      exact Ch.of e (forCh_go hs hb j f (i + 1) σ' (by omega) (by omega) i')
    | some x =>
      rw [hg] at h1
      exact x_bind h1
theorem forCh {src : Src} {xs : List AV} {body : AV → Loc → M Res} {gx : AV → Option Str} {σ : Loc} (hs : ∀ i, src.get i H = some (.ok xs[i]?, H)) (hb : ∀ a ∈ xs, ∀ σ, I σ → Ch (gx a) (body a σ) H I) (hl : xs.length < 100000) (h : I σ) : Ch (xs.findSome? gx) (forLoop src body FUEL 0 σ) H I := by
  have := forCh_go hs hb xs.length FUEL 0 σ (Nat.zero_add _) (by rw [FUEL_is]; exact hl) h
  rwa [List.drop_zero] at this
end
theorem Sq.src {H : AHeap} {a : AV} {xs : List AV} (h : Sq H false a xs) : ∃ src, srcOf a H = some (.ok src, H) ∧ ∀ i, src.get i H = some (.ok xs[i]?, H) := by
  rcases h with rfl | ⟨l, rfl, h⟩
  · exact ⟨.items xs, rfl, fun i => rfl⟩
  · exact ⟨.at l, srcOf_loc h, fun i => get_loc h⟩
/-- what need_all finds -/
noncomputable def needX (kb : Bool) (vs : List AV) (W : AV → Bool) (pl : List AV) (ds : AV → List AV) (D : AV → Bool) : Option Str :=
  (if kb then some ("NoKind" : Str) else none) <|> ((if decide (60 < vs.length) then some ("TooMany" : Str) else none) <|> (vs.findSome? (fun a => if !W a then some ("NoValue" : Str) else none) <|>
    ((if decide (20 < pl.length) then some ("TooMany" : Str) else none) <|> pl.findSome? fun q => (if decide (60 < (ds q).length) then some ("TooMany" : Str) else none) <|> (ds q).findSome? fun d => if !D d then some ("NoDeed" : Str) else none)))
section
variable {H : AHeap} {s p k : AV} {vs pl : List AV} {kb : Bool} {W D : AV → Bool} {ds : AV → List AV}
theorem s_need (n : Nat) (hs : Sq H false s vs) (hp : Sq H false p pl) (hk : (do let t2 ← (do let b3 ← (do let v6 ← (do let v4 ← pure k; let b5 ← pIsi v4 .str; pure (.bool b5)); truth v6); pure (!b3)); match t2 with | true => pure true | false => (do let t7 ← (pCmp .NotIn k g_KINDS); match t7 with | true => pure true | false => pure false) : M Bool) = pure kb)
    (hW : ∀ a ∈ vs, callP P03 (n + 2) "is_whole" [a] = pure (.bool (W a))) (hd : ∀ q ∈ pl, Sq H false q (ds q)) (hD : ∀ q ∈ pl, ∀ d ∈ ds q, callP P03 (n + 2) "is_deed" [d] = pure (.bool (D d)))
    (lv : vs.length < 100000) (lp : pl.length < 100000) (ld : ∀ q ∈ pl, (ds q).length < 100000) :
    callP P03 (n + 3) "need_all" [s, p, k] H = some ((match needX kb vs W pl ds D with | none => .ok .none | some x => .error x), H) := by
  have key : Ch (needX kb vs W pl ds D) (tl P03 (callP P03 (n + 2)) "need_all" [] 0 40 [some s, some p, some k, none, none, none]) H fun _ => True := by
    unfold needX
    rw [c_need_all_0]
    refine Ch.of (a := kb) (congrFun hk H) ?_
    refine Ch.test ?_
    rw [c_need_all_t_1]
    refine Ch.of (bind_of hs.len (congrFun e_gt H)) ?_
    rw [show decide ((60 : Int) < (vs.length : Int)) = decide (60 < vs.length) from by simp only [decide_eq_decide]; omega]
    refine Ch.test ?_
    rw [c_need_all_t_2, pure_bind]
    obtain ⟨src, s1, s2⟩ := hs.src
    refine Ch.of s1 ?_
    refine Ch.then (I := fun σ => ∃ o1 o3 o4 o5 o6, σ = [o1, some p, o3, o4, o5, o6]) (forCh s2 (fun a ha σ hσ => ?_) lv ⟨_, _, _, _, _, rfl⟩) ?_
    · obtain ⟨o1, o3, o4, o5, o6, rfl⟩ := hσ
      rw [c_need_all_for_2, hW a ha]
      simp only [pure_bind, e_truth]
      exact Ch.last ⟨_, _, _, _, _, rfl⟩
    · rintro σ ⟨o1, o3, o4, o5, o6, rfl⟩
      rw [c_need_all_t_3]
      refine Ch.of (bind_of hp.len (congrFun e_gt H)) ?_
      rw [show decide ((20 : Int) < (pl.length : Int)) = decide (20 < pl.length) from by simp only [decide_eq_decide]; omega]
      refine Ch.test ?_
      rw [c_need_all_t_4, pure_bind]
      obtain ⟨src, p1, p2⟩ := hp.src
      refine Ch.of p1 (Ch.end' ?_)
      refine Ch.up (I := fun σ => ∃ o1 o3 o4 o5 o6, σ = [o1, some p, o3, o4, o5, o6]) (fun _ _ => trivial) (forCh p2 (fun q hq σ hσ => ?_) lp ⟨_, _, _, _, _, rfl⟩)
      obtain ⟨o1, o3, o4, o5, o6, rfl⟩ := hσ
      rw [c_need_all_for_4]
      refine Ch.of (bind_of (hd q hq).len (congrFun e_gt H)) ?_
      rw [show decide ((60 : Int) < ((ds q).length : Int)) = decide (60 < (ds q).length) from by simp only [decide_eq_decide]; omega]
      refine Ch.test ?_
      rw [c_need_all_t40_1, pure_bind]
      obtain ⟨src, d1, d2⟩ := (hd q hq).src
      refine Ch.of d1 (Ch.end' ?_)
      refine forCh d2 (fun d hdm σ hσ => ?_) (ld q hq) ⟨_, _, _, _, _, rfl⟩
      obtain ⟨o1, o3, o4, o5, o6, rfl⟩ := hσ
      rw [c_need_all_for40_1, hD q hq d hdm]
      simp only [pure_bind, e_truth]
      exact Ch.last ⟨_, _, _, _, _, rfl⟩
  cases hg : needX kb vs W pl ds D with
  | none => rw [hg] at key; obtain ⟨σ', _, e⟩ := key; exact callN (by kernel_rfl) (by kernel_rfl) (by kernel_rfl) e
  | some x => rw [hg] at key; exact callX (by kernel_rfl) (by kernel_rfl) (by kernel_rfl) key
end
end Mine


set_option autoImplicit false
set_option linter.unusedVariables false
set_option maxRecDepth 100000
namespace Mine
open PySem PyProof.Rows

theorem s_tower_x (n : Nat) {s p k : AV} {H : AHeap} {x : Str} (h : callP P03 n "need_all" [s, p, k] H = some (.error x, H)) : callP P03 (n + 1) "tower_of" [s, p, k] H = some (.error x, H) := by
  refine callX (σ := [some s, some p, some k, none, none, none, none, none, none]) (by kernel_rfl) (by kernel_rfl) (by kernel_rfl) ?_
  rw [c_tower_of_0]
  exact x_bind h
theorem s_woven_x (n : Nat) {s p w k : AV} {H : AHeap} {x : Str} (h : callP P03 n "tower_of" [s, p, k] H = some (.error x, H)) : callP P03 (n + 1) "woven" [s, p, w, k] H = some (.error x, H) := by
  refine callX (σ := [some s, some p, some w, some k, none, none, none]) (by kernel_rfl) (by kernel_rfl) (by kernel_rfl) ?_
  rw [c_woven_0]
  exact x_bind h
noncomputable def try03 : TryF := (tryOf (fnD P03 "_law_refusal").body).getD ⟨[], "", default, "", default, [], default, default, []⟩
noncomputable def lc03 (s p k w : AV) : Loc := [some s, some p, some k, some w] ++ List.replicate ((fnD P03 "_law_refusal").names.length - 4) none
theorem c_try (cf ch : Str → List AV → M AV) (σ : Loc) : bodyRun P03 cf ch (fnD P03 "_law_refusal").scope (fnD P03 "_law_refusal").names (fnD P03 "_law_refusal").body σ = tryRun P03 cf ch (fnD P03 "_law_refusal").scope (fnD P03 "_law_refusal").names try03 σ := by
  kernel_rfl
noncomputable def runW (cf : Str → List AV → M AV) (s p k : AV) (b : Bool) : M AV := match b with
  | true => cf "woven" [s, p, .lst [], k]
  | false => cf "tower_of" [s, p, k]
theorem c_tbody (cf : Str → List AV → M AV) (s p k : AV) (b : Bool) : tBody (den P03 cf EFUEL (fnD P03 "_law_refusal").scope (fnD P03 "_law_refusal").names (lc03 s p k (.bool b))) EFUEL try03.body = (do (do let _ ← runW cf s p k b; pure ()); pure ()) := by
  cases b <;> kernel_rfl
theorem c_hand1 (n : Nat) (s p k w : AV) (H : AHeap) : tryHand P03 (callP P03.off (n + 1)) (fnD P03 "_law_refusal").scope (fnD P03 "_law_refusal").names try03 (lc03 s p k w) "NoKind" H = some (.ok (.lst [.int 1]), H) := by kernel_rfl
theorem c_hand2 (n : Nat) (s p k w : AV) (H : AHeap) : tryHand P03 (callP P03.off (n + 1)) (fnD P03 "_law_refusal").scope (fnD P03 "_law_refusal").names try03 (lc03 s p k w) "TooMany" H = some (.ok (.lst [.int 2]), H) := by kernel_rfl
theorem c_hand3 (n : Nat) (s p k w : AV) (H : AHeap) : tryHand P03 (callP P03.off (n + 1)) (fnD P03 "_law_refusal").scope (fnD P03 "_law_refusal").names try03 (lc03 s p k w) "NoValue" H = some (.ok (.lst [.int 3]), H) := by kernel_rfl
theorem c_hand4 (n : Nat) (s p k w : AV) (H : AHeap) : tryHand P03 (callP P03.off (n + 1)) (fnD P03 "_law_refusal").scope (fnD P03 "_law_refusal").names try03 (lc03 s p k w) "NoDeed" H = some (.ok (.lst [.int 4]), H) := by kernel_rfl
end Mine


set_option autoImplicit false
set_option linter.unusedVariables false
set_option maxRecDepth 100000
namespace Mine
open PySem PyProof.Rows

theorem Sq.srcs {H : AHeap} {a : AV} {xs : List AV} (h : Sq H false a xs) : ∃ src, ∀ X, srcOf a (H ++ X) = some (.ok src, H ++ X) ∧ ∀ i, src.get i (H ++ X) = some (.ok xs[i]?, H ++ X) := by
  rcases h with rfl | ⟨l, rfl, h⟩
  · exact ⟨.items xs, fun X => ⟨rfl, fun i => rfl⟩⟩
  · have h' : ∀ X, (H ++ X)[l]? = some (.list xs) := fun X => by rw [List.getElem?_append_left (List.getElem?_eq_some_iff.mp h).1]; exact h
    exact ⟨.at l, fun X => ⟨srcOf_loc (h' X), fun i => get_loc (h' X)⟩⟩
theorem Sq.list {H : AHeap} {a : AV} {xs : List AV} (h : Sq H false a xs) : listOf a H = some (.ok xs, H) := by
  rcases h with rfl | ⟨l, rfl, h⟩
  · rfl
  · exact listOf_loc h
noncomputable def handD (pr : List AV) : AO := .dict [("program", .tup pr), ("place", .int 0), ("work", .none)]
noncomputable def stD (k hd : AV) (lb lsp lh lr : Nat) : AO := .dict [("kind", k), ("boxes", .loc lb), ("head", hd), ("mark", .int 0), ("spare", .loc lsp), ("hands", .loc lh), ("time", .int 0), ("rows", .loc lr)]
noncomputable def hd0 (xs : List Int) : AV := ixV (if xs.length = 0 then none else some 0)
/-- the heap behind tower_of -/
noncomputable def towH (H : AHeap) (k : AV) (xs : List Int) (pr : List (List AV)) : AHeap :=
  H ++ ([.list ((bx0 xs).map bxV)] ++ pr.map handD ++ [.list ((List.range pr.length).map fun j => .loc (H.length + 1 + j)), .list [], .list [], stD k (hd0 xs) H.length (H.length + 1 + pr.length + 1) (H.length + 1 + pr.length) (H.length + 1 + pr.length + 2)])
theorem forEq {src : Src} {xs : List AV} {body : AV → Loc → M Res} {σ : Loc} {H : AHeap} (I : Nat → Loc → AHeap → Prop) {Q : Res → AHeap → Prop} (hF : xs.length < 100000) (h0 : I 0 σ H) (hg : ∀ i σ H, I i σ H → src.get i H = some (.ok xs[i]?, H))
    (hs : ∀ i a σ H, xs[i]? = some a → I i σ H → Rn (body (.tup [.int i, a]) σ) H (Fl (I (i + 1)) fun v H' => Q (.ret v) H')) (he : ∀ σ H, I xs.length σ H → Q (.next σ) H) :
    Rn (forLoop (.enum src) body FUEL 0 σ) H Q :=
  forR (fun i => (xs[i]?).map fun v => .tup [.int i, v]) xs.length I hF (by simp) (fun i σ H _ h => bind_of (hg i σ H h) rfl) h0
    (fun i σ H hi h => ⟨_, by rw [List.getElem?_eq_getElem hi]; rfl, hs i _ σ H (List.getElem?_eq_getElem hi) h⟩) he
theorem tail_at {X Y : AHeap} (k : Nat) : (X ++ Y)[X.length + k]? = Y[k]? := by rw [List.getElem?_append_right (Nat.le_add_right _ _), Nat.add_sub_cancel_left]
section
variable {H : AHeap} {s p k : AV} {xs : List Int} {pl : List AV} {pr : List (List AV)}
theorem s_tower (n : Nat) (hn : callP P03 n "need_all" [s, p, k] H = some (.ok .none, H)) (hs : Sq H false s (xs.map .int)) (hp : Sq H false p pl) (hl : xs.length ≤ 60) (hpl : pl.length = pr.length) (hp20 : pr.length ≤ 20) (hq : ∀ (i : Nat) q ds, pl[i]? = some q → pr[i]? = some ds → Sq H false q ds) :
    Rn (callP P03 (n + 1) "tower_of" [s, p, k]) H fun a H' => a = .loc (H.length + 1 + pr.length + 3) ∧ H' = towH H k xs pr := by
  have hLIM := LIMis
  refine callRn (σ := [some s, some p, some k, none, none, none, none, none, none]) (by kernel_rfl) (by kernel_rfl) (by kernel_rfl) ?_
  rw [c_tower_of_0]
  refine .bof hn (.bof (newT (Nat.zero_le _)) ?_)
  obtain ⟨src, hsrc⟩ := hs.srcs
  rw [pure_bind]
  refine .bof (hs.app (X := [.list []])).list (.bof (hsrc _).1 ?_)
  refine .then (forEq (xs := xs.map .int) (fun i σ H2 => ∃ o1 o2 o3 o4 o5, σ = [some s, some p, some k, some (.loc H.length), o1, o2, o3, o4, o5] ∧ H2 = H ++ [.list (((bx0 xs).take i).map bxV)])
    (Q := fun r H2 => ∃ o1 o2 o3 o4 o5, r = .next [some s, some p, some k, some (.loc H.length), o1, o2, o3, o4, o5] ∧ H2 = H ++ [.list ((bx0 xs).map bxV)]) (by rw [List.length_map]; omega) ⟨_, _, _, _, _, rfl, rfl⟩ ?_ ?_ ?_) ?_
  · rintro i σ H2 ⟨o1, o2, o3, o4, o5, rfl, rfl⟩
    exact (hsrc _).2 i
  · rintro i a σ H2 ha ⟨o1, o2, o3, o4, o5, rfl, rfl⟩
    rw [List.getElem?_map, Option.map_eq_some_iff] at ha
    obtain ⟨v, hv, rfl⟩ := ha
    have hk : i < xs.length := (List.getElem?_eq_some_iff.mp hv).1
    have hbx := bx0_at hv
    have htk : (bx0 xs).take (i + 1) = (bx0 xs).take i ++ [(v, if i + 1 = xs.length then none else some (i + 1))] := by rw [List.take_add_one, hbx]; rfl
    have tail : ∀ (bl : AV), bl = ixV (if i + 1 = xs.length then none else some (i + 1)) → Rn (tl P03 (callP P03 n) "tower_of" [(2, 0)] 2 35 [some s, some p, some k, some (.loc H.length), some (.int i), some (.int v), some bl, o4, o5]) (H ++ [.list (((bx0 xs).take i).map bxV)])
        (Fl (fun σ H2 => ∃ o1 o2 o3 o4 o5, σ = [some s, some p, some k, some (.loc H.length), o1, o2, o3, o4, o5] ∧ H2 = H ++ [.list (((bx0 xs).take (i + 1)).map bxV)])
          fun v H' => ∃ o1 o2 o3 o4 o5, Res.ret v = .next [some s, some p, some k, some (.loc H.length), o1, o2, o3, o4, o5] ∧ H' = H ++ [.list ((bx0 xs).map bxV)]) := by
      rintro bl rfl
      rw [c_tower_of_t20_2]
      refine .bind ?_
      rw [pure_bind]
      refine .bof (listOf_loc app_at) (.of (append_loc app_at (by rw [List.length_map, List.length_take]; omega)) ?_)
      refine .pure ⟨_, _, _, _, _, rfl, ?_⟩
      rw [htk, List.map_append, List.set_append_right _ _ (Nat.le_refl _), Nat.sub_self]; rfl
    rw [c_tower_of_for_2, m_add, pure_bind]
    refine .bof (bind_of (hs.app.len) (congrFun e_eqi _)) ?_
    rw [List.length_map]
    by_cases he : i + 1 = xs.length
    · rw [decide_eq_true (by omega)]
      exact .bind (.pure (tail .none (by rw [if_pos he]; rfl)))
    · rw [decide_eq_false (by omega)]
      exact .bind (.pure (tail (.int ((i : Int) + 1)) (by rw [if_neg he]; rfl)))
  · rintro σ H2 ⟨o1, o2, o3, o4, o5, rfl, rfl⟩
    exact ⟨_, _, _, _, _, rfl, by rw [List.length_map, ← bx0_len xs, List.take_length]⟩
  rintro r H2 ⟨o1, o2, o3, o4, o5, rfl, rfl⟩
  have tail : ∀ (hd : AV), hd = hd0 xs → Rn (tl P03 (callP P03 n) "tower_of" [] 5 35 [some s, some p, some k, some (.loc H.length), o1, o2, o3, some hd, o5]) (H ++ [.list ((bx0 xs).map bxV)])
      (Fl (fun _ H' => AV.none = .loc (H.length + 1 + pr.length + 3) ∧ H' = towH H k xs pr) fun a H' => a = .loc (H.length + 1 + pr.length + 3) ∧ H' = towH H k xs pr) := by
    rintro hd rfl
    obtain ⟨sp, hsp⟩ := hp.srcs
    rw [c_tower_of_t_5, pure_bind]
    refine .bind (.bof (hsp _).1 ?_)
    refine .then (compA pl (fun i acc H3 => H3 = H ++ ([.list ((bx0 xs).map bxV)] ++ (pr.take i).map handD) ∧ acc = (List.range i).map (fun j => .loc (H.length + 1 + j))) (by omega) (fun i acc H3 q => by rw [q.1]; exact (hsp _).2 i) ⟨by rw [List.take_zero]; rfl, rfl⟩ ?_) ?_
    · rintro i q acc H3 ha hacc ⟨rfl, rfl⟩
      have hip : i < pr.length := hpl ▸ (List.getElem?_eq_some_iff.mp ha).1
      have hds := hq i q _ ha (List.getElem?_eq_getElem hip)
      refine .bind (.bind ?_)
      refine .eachE (a := .tup pr[i]) (bind_of hds.app.list rfl) (.eachP (.eachP (.each0 (.of newDT (.pure ⟨_, rfl, ?_, ?_⟩)))))
      · rw [List.take_add_one, List.getElem?_eq_getElem hip, List.map_append, List.append_assoc, List.append_assoc]; rfl
      · rw [List.range_succ, List.map_append]
        congr 1
        show [AV.loc _] = [AV.loc _]
        simp only [List.length_append, List.length_map, List.length_take, Nat.min_eq_left (Nat.le_of_lt hip), List.length_singleton]
        rw [Nat.add_assoc]
    · rintro acc H3 ⟨⟨rfl, rfl⟩, hlen⟩
      rw [hpl, List.take_length]
      refine .of (newT (by rw [List.length_map, List.length_range]; omega)) ?_
      refine .bind (.bind (.eachP (.eachP (.eachP (.eachP (.eachE (newT (Nat.zero_le _)) (.eachP (.eachP (.eachE (newT (Nat.zero_le _)) (.each0 (.of newDT (.pure ?_))))))))))))
      have hX : (H ++ ([AO.list ((bx0 xs).map bxV)] ++ pr.map handD)).length = H.length + 1 + pr.length := by rw [List.length_append, List.length_append, List.length_map, ← Nat.add_assoc]; rfl
      generalize hXe : H ++ ([AO.list ((bx0 xs).map bxV)] ++ pr.map handD) = X at hX ⊢
      have e1 : ∀ {a : AO}, (X ++ [a]).length = X.length + 1 := List.length_append ..
      have e2 : ∀ {a b : AO}, (X ++ [a] ++ [b]).length = X.length + 2 := fun {a b} => by rw [List.length_append, e1]; rfl
      have e3 : ∀ {a b c : AO}, (X ++ [a] ++ [b] ++ [c]).length = X.length + 3 := fun {a b c} => by rw [List.length_append, e2]; rfl
      refine ⟨by rw [e3, hX], ?_⟩
      have ht : towH H k xs pr = X ++ [.list ((List.range pr.length).map fun j => .loc (H.length + 1 + j)), .list [], .list [], stD k (hd0 xs) H.length (H.length + 1 + pr.length + 1) (H.length + 1 + pr.length) (H.length + 1 + pr.length + 2)] := by
        rw [← hXe, List.append_assoc]; rfl
      rw [ht, e1, e2, List.append_assoc, List.append_assoc, List.append_assoc, hX]
      rfl
  rw [e_go_next, c_tower_of_t_3]
  refine .bof (bind_of (hs.app.len) (congrFun e_gt _)) ?_
  rw [List.length_map]
  by_cases h0' : xs.length = 0
  · rw [decide_eq_false (by omega)]
    exact .bind (.pure (tail .none (by unfold hd0; rw [if_pos h0']; rfl)))
  · rw [decide_eq_true (by omega)]
    exact .bind (.pure (tail (.int 0) (by unfold hd0; rw [if_neg h0']; rfl)))
end
end Mine


set_option autoImplicit false
set_option linter.unusedVariables false
set_option maxRecDepth 100000
namespace Mine
open PySem PyProof.Rows

noncomputable def codeX (x : Str) : Int := if x = ("NoKind" : Str) then 1 else if x = ("TooMany" : Str) then 2 else if x = ("NoValue" : Str) then 3 else 4
noncomputable def isX (x : Str) : Prop := x = ("NoKind" : Str) ∨ x = ("TooMany" : Str) ∨ x = ("NoValue" : Str) ∨ x = ("NoDeed" : Str)
theorem c_hand (n : Nat) (s p k w : AV) (H : AHeap) {x : Str} (h : isX x) : tryHand P03 (callP P03.off (n + 1)) (fnD P03 "_law_refusal").scope (fnD P03 "_law_refusal").names try03 (lc03 s p k w) x H = some (.ok (.lst [.int (codeX x)]), H) := by
  rcases h with rfl | rfl | rfl | rfl
  · exact c_hand1 n s p k w H
  · exact c_hand2 n s p k w H
  · exact c_hand3 n s p k w H
  · exact c_hand4 n s p k w H
theorem c_rest (cf : Str → List AV → M AV) (σ : Loc) (H : AHeap) : (do let r ← denB P03 cf (fnD P03 "_law_refusal").scope (fnD P03 "_law_refusal").names EFUEL try03.rest σ; resV r : M AV) H = some (.ok (.lst [.int 0]), H) := by
  kernel_rfl
section
variable {s p k : AV} {H H' : AHeap}
theorem s_refuse_x (n : Nat) (b : Bool) {x : Str} (hx : isX x) (h : ∀ m, callP P03 (m + 3) "need_all" [s, p, k] H = some (.error x, H)) : callP P03 (n + 6) "_law_refusal" [s, p, k, .bool b] H = some (.ok (.lst [.int (codeX x)]), H) := by
  rw [call_body (σ := lc03 s p k (.bool b)) (by kernel_rfl) (by kernel_rfl) (by kernel_rfl), c_try]
  unfold tryRun
  rw [c_tbody]
  have : ∀ b : Bool, (do (do let _ ← runW (callP P03 (n + 5)) s p k b; pure ()); pure () : M Unit) H = some (.error x, H) := fun b => by
    cases b with
    | true => exact x_bind (x_bind (s_woven_x (n + 4) (s_tower_x (n + 3) (h n))))
    | false => exact x_bind (x_bind (s_tower_x (n + 4) (h (n + 1))))
  rw [this b]
  exact c_hand (n + 4) s p k (.bool b) H hx
theorem s_refuse_o (n : Nat) (b : Bool) {v : AV} (h : runW (callP P03 (n + 5)) s p k b H = some (.ok v, H')) : callP P03 (n + 6) "_law_refusal" [s, p, k, .bool b] H = some (.ok (.lst [.int 0]), H') := by
  rw [call_body (σ := lc03 s p k (.bool b)) (by kernel_rfl) (by kernel_rfl) (by kernel_rfl), c_try]
  unfold tryRun
  rw [c_tbody]
  have : (do (do let _ ← runW (callP P03 (n + 5)) s p k b; pure ()); pure () : M Unit) H = some (.ok (), H') := b_some (b_some h)
  rw [this]
  exact c_rest _ _ _
/-- an empty weaving -/
theorem s_woven0 (n : Nat) {a : AV} (h : callP P03 n "tower_of" [s, p, k] H = some (.ok a, H')) : ∃ Y, callP P03 (n + 1) "woven" [s, p, .lst [], k] H = some (.ok (.tup [a, .lst []]), H' ++ Y) := by
  refine ⟨[], callR (σ := [some s, some p, some (.lst []), some k, none, none, none]) (by kernel_rfl) (by kernel_rfl) (by kernel_rfl) ?_⟩
  rw [c_woven_0, b_some h, List.append_nil]
  kernel_rfl
end
end Mine


set_option autoImplicit false
set_option linter.unusedVariables false
set_option maxRecDepth 100000
namespace Mine
open PySem PyProof.Rows

/-- what a list holds -/
noncomputable def dsH (H : AHeap) : AV → List AV
  | .lst xs => xs
  | .loc l => match H[l]? with
    | some (.list xs) => xs
    | _ => []
  | _ => []
theorem Sq.ds {H : AHeap} {q : AV} {xs : List AV} (h : Sq H false q xs) : dsH H q = xs := by
  rcases h with rfl | ⟨l, rfl, h⟩
  · rfl
  · unfold dsH; simp only [h]
noncomputable def askD (f : Str) (d : AV) : Bool := match callP P03 2 f [d] [] with
  | some (.ok (.bool b), _) => b
  | _ => false
/-- f answers b -/
noncomputable def Ask (f : Str) (d : AV) (b : Bool) : Prop := ∀ n, callP P03 (n + 2) f [d] = pure (.bool b)
theorem Ask.is {f : Str} {d : AV} {b : Bool} (h : Ask f d b) : askD f d = b := by
  unfold askD
  rw [h 0]; rfl
noncomputable def progX (H : AHeap) (pl : List AV) : Option Str := (if decide (20 < pl.length) then some ("TooMany" : Str) else none) <|> pl.findSome? fun q => (if decide (60 < (dsH H q).length) then some ("TooMany" : Str) else none) <|> (dsH H q).findSome? fun d => if !askD "is_deed" d then some ("NoDeed" : Str) else none
noncomputable def startX (vs : List AV) : Option Str := (if decide (60 < vs.length) then some ("TooMany" : Str) else none) <|> vs.findSome? fun a => if !askD "is_whole" a then some ("NoValue" : Str) else none
theorem or_assoc' {α : Type} (a b c : Option α) : (a <|> (b <|> c)) = ((a <|> b) <|> c) := by cases a <;> rfl
theorem needX_is {H : AHeap} {kb : Bool} {vs pl : List AV} : needX kb vs (askD "is_whole") pl (dsH H) (askD "is_deed") = ((if kb then some ("NoKind" : Str) else none) <|> (startX vs <|> progX H pl)) := by
  unfold needX startX progX
  rw [← or_assoc']
structure PS (H : AHeap) (p : AV) (pl : List AV) : Prop where
  sq : Sq H false p pl
  len : pl.length ≤ 100
  ok : ∀ q ∈ pl, Sq H false q (dsH H q) ∧ (dsH H q).length ≤ 1000 ∧ ∀ d ∈ dsH H q, ∃ b, Ask "is_deed" d b
structure SS (vs : List AV) : Prop where
  len : vs.length ≤ 100
  ok : ∀ a ∈ vs, ∃ b, Ask "is_whole" a b
/-- what need_all finds, in these words -/
theorem s_need3 (n : Nat) {H : AHeap} {vs pl : List AV} {p k : AV} {kb : Bool} (hs : SS vs) (hp : PS H p pl) (hk : (do let t2 ← (do let b3 ← (do let v6 ← (do let v4 ← pure k; let b5 ← pIsi v4 .str; pure (.bool b5)); truth v6); pure (!b3)); match t2 with | true => pure true | false => (do let t7 ← (pCmp .NotIn k g_KINDS); match t7 with | true => pure true | false => pure false) : M Bool) = pure kb) {s : AV} (hsq : Sq H false s vs) :
    callP P03 (n + 3) "need_all" [s, p, k] H = some ((match ((if kb then some ("NoKind" : Str) else none) <|> (startX vs <|> progX H pl)) with | none => .ok .none | some x => .error x), H) := by
  rw [← needX_is]
  refine s_need n hsq hp.sq hk (fun a ha => ?_) (fun q hq => (hp.ok q hq).1) (fun q hq d hd => ?_) (Nat.lt_of_le_of_lt hs.len (by decide)) (Nat.lt_of_le_of_lt hp.len (by decide)) fun q hq => Nat.lt_of_le_of_lt (hp.ok q hq).2.1 (by decide)
  · obtain ⟨b, h⟩ := hs.ok a ha
    rw [h.is]; exact h n
  · obtain ⟨b, h⟩ := (hp.ok q hq).2.2 d hd
    rw [h.is]; exact h n
theorem find_none {α β : Type} {f : α → Option β} : ∀ {l : List α}, (∀ a ∈ l, f a = none) → l.findSome? f = none
  | [], _ => rfl
  | a :: r, h => by rw [List.findSome?_cons, h a List.mem_cons_self]; exact find_none fun b hb => h b (List.mem_cons_of_mem _ hb)
theorem find_mid {α β : Type} {f : α → Option β} {b : α} {y : β} (hb : f b = some y) {r : List α} : ∀ {l : List α}, (∀ a ∈ l, f a = none) → (l ++ b :: r).findSome? f = some y
  | [], _ => by rw [List.nil_append, List.findSome?_cons, hb]
  | a :: l, h => by rw [List.cons_append, List.findSome?_cons, h a List.mem_cons_self]; exact find_mid hb fun b hb => h b (List.mem_cons_of_mem _ hb)
theorem ask_deed (d : Deed) : Ask "is_deed" (deedV d) true := fun n => deed_is n d.k d.v
theorem ask_int (i : Int) : Ask "is_whole" (.int i) true := fun n => by
  refine callQ (σ := [some (.int i)]) (by kernel_rfl) (by kernel_rfl) (by kernel_rfl) ?_
  rw [c_is_whole_0]; rfl
/-- good programs -/
structure GP (H : AHeap) (p : AV) (pl : List AV) : Prop extends PS H p pl where
  few : pl.length ≤ 20
  short : ∀ q ∈ pl, (dsH H q).length ≤ 59
  deeds : ∀ q ∈ pl, ∀ d ∈ dsH H q, Ask "is_deed" d true
theorem GP.none1 {H : AHeap} {p q : AV} {pl : List AV} (h : GP H p pl) (hq : q ∈ pl) : ((if decide (60 < (dsH H q).length) then some ("TooMany" : Str) else none) <|> (dsH H q).findSome? fun d => if !askD "is_deed" d then some ("NoDeed" : Str) else none) = none := by
  have := h.short q hq
  rw [decide_eq_false (by omega)]
  exact find_none fun d hd => by rw [(h.deeds q hq d hd).is]; rfl
theorem GP.none {H : AHeap} {p : AV} {pl : List AV} (h : GP H p pl) : progX H pl = .none := by
  unfold progX
  have := h.few
  rw [decide_eq_false (by omega)]
  exact find_none fun q hq => h.none1 hq
/-- a program with a thing that is no deed -/
theorem GP.odd {H : AHeap} {p q d : AV} {l r : List AV} (h : GP H p (l ++ q :: r)) (hd : Ask "is_deed" d false) : PS H (.lst (l ++ .lst (dsH H q ++ [d]) :: r)) (l ++ .lst (dsH H q ++ [d]) :: r) ∧ progX H (l ++ .lst (dsH H q ++ [d]) :: r) = some ("NoDeed" : Str) := by
  have hlen : (l ++ AV.lst (dsH H q ++ [d]) :: r).length = (l ++ q :: r).length := by simp
  have hq := h.short q (List.mem_append_right _ List.mem_cons_self)
  refine ⟨⟨.inl rfl, by rw [hlen]; exact h.len, fun x hx => ?_⟩, ?_⟩
  · rcases List.mem_append.mp hx with hx | hx
    · exact h.ok x (List.mem_append_left _ hx)
    · rcases List.mem_cons.mp hx with rfl | hx
      · refine ⟨.inl rfl, ?_, fun e he => ?_⟩
        · show (dsH H q ++ [d]).length ≤ 1000
          rw [List.length_append, List.length_singleton]; omega
        · have he : e ∈ dsH H q ++ [d] := he
          rcases List.mem_append.mp he with he | he
          · exact ⟨_, h.deeds q (List.mem_append_right _ List.mem_cons_self) e he⟩
          · rw [List.mem_singleton.mp he]; exact ⟨_, hd⟩
      · exact h.ok x (List.mem_append_right _ (List.mem_cons_of_mem _ hx))
  · unfold progX
    have := h.few
    rw [hlen, decide_eq_false (by omega)]
    refine find_mid ?_ fun x hx => h.none1 (List.mem_append_left _ hx)
    show ((if decide (60 < (dsH H q ++ [d]).length) then some ("TooMany" : Str) else Option.none) <|> (dsH H q ++ [d]).findSome? fun d => if !askD "is_deed" d then some ("NoDeed" : Str) else Option.none) = _
    rw [List.length_append, List.length_singleton, decide_eq_false (by omega)]
    exact find_mid (r := []) (by rw [hd.is]; rfl) fun e he => by rw [(h.deeds q (List.mem_append_right _ List.mem_cons_self) e he).is]; rfl
/-- a program of 61 -/
theorem PS.long {H : AHeap} {p : AV} {pl ds : List AV} (h : PS H p pl) (hpl : pl.length ≤ 99) (hl : 60 < ds.length ∧ ds.length ≤ 1000) (hd : ∀ d ∈ ds, Ask "is_deed" d true) : PS H (.lst (.lst ds :: pl)) (.lst ds :: pl) ∧ progX H (.lst ds :: pl) = some ("TooMany" : Str) := by
  refine ⟨⟨.inl rfl, by rw [List.length_cons]; omega, fun x hx => ?_⟩, ?_⟩
  · rcases List.mem_cons.mp hx with rfl | hx
    · exact ⟨.inl rfl, hl.2, fun d hd' => ⟨_, hd d hd'⟩⟩
    · exact h.ok x hx
  · unfold progX
    by_cases hc : 20 < (AV.lst ds :: pl).length
    · rw [decide_eq_true hc]; rfl
    · rw [decide_eq_false hc, List.findSome?_cons]
      rw [show decide (60 < (dsH H (AV.lst ds)).length) = true from decide_eq_true hl.1]; rfl
/-- 21 more programs -/
theorem PS.more {H : AHeap} {p : AV} {pl : List AV} (h : PS H p pl) (hpl : pl.length ≤ 79) : PS H (.lst (pl ++ List.replicate 21 (.lst []))) (pl ++ List.replicate 21 (.lst [])) ∧ progX H (pl ++ List.replicate 21 (.lst [])) = some ("TooMany" : Str) := by
  refine ⟨⟨.inl rfl, by rw [List.length_append, List.length_replicate]; omega, fun x hx => ?_⟩, ?_⟩
  · rcases List.mem_append.mp hx with hx | hx
    · exact h.ok x hx
    · rw [List.eq_of_mem_replicate hx]; exact ⟨.inl rfl, Nat.zero_le _, fun d hd => nomatch hd⟩
  · unfold progX
    rw [List.length_append, List.length_replicate, decide_eq_true (by omega)]; rfl
theorem start_ok {xs : List Int} (h : xs.length ≤ 60) : SS (xs.map .int) ∧ startX (xs.map .int) = none := by
  refine ⟨⟨by rw [List.length_map]; omega, fun a ha => ?_⟩, ?_⟩
  · obtain ⟨i, _, rfl⟩ := List.mem_map.mp ha
    exact ⟨_, ask_int i⟩
  · unfold startX
    rw [List.length_map, decide_eq_false (by omega)]
    exact find_none fun a ha => by
      obtain ⟨i, _, rfl⟩ := List.mem_map.mp ha
      rw [(ask_int i).is]; rfl
theorem start_odd {xs ys : List Int} {a : AV} (h : xs.length + 1 + ys.length ≤ 60) (ha : Ask "is_whole" a false) : SS (xs.map .int ++ a :: ys.map .int) ∧ startX (xs.map .int ++ a :: ys.map .int) = some ("NoValue" : Str) := by
  have hlen : (xs.map AV.int ++ a :: ys.map .int).length = xs.length + 1 + ys.length := by simp; omega
  refine ⟨⟨by omega, fun b hb => ?_⟩, ?_⟩
  · rcases List.mem_append.mp hb with hb | hb
    · exact (start_ok (xs := xs) (by omega)).1.ok b hb
    · rcases List.mem_cons.mp hb with rfl | hb
      · exact ⟨_, ha⟩
      · exact (start_ok (xs := ys) (by omega)).1.ok b hb
  · unfold startX
    rw [hlen, decide_eq_false (by omega)]
    exact find_mid (by rw [ha.is]; rfl) fun b hb => by
      obtain ⟨i, _, rfl⟩ := List.mem_map.mp hb
      rw [(ask_int i).is]; rfl
theorem start_long {vs : List AV} (h : SS vs) (hl : vs.length ≤ 60) : SS (vs ++ List.replicate (61 - vs.length) (.int 5)) ∧ startX (vs ++ List.replicate (61 - vs.length) (.int 5)) = some ("TooMany" : Str) := by
  have hlen : (vs ++ List.replicate (61 - vs.length) (AV.int 5)).length = 61 := by rw [List.length_append, List.length_replicate]; omega
  refine ⟨⟨by omega, fun b hb => ?_⟩, ?_⟩
  · rcases List.mem_append.mp hb with hb | hb
    · exact h.ok b hb
    · rw [List.eq_of_mem_replicate hb]; exact ⟨_, ask_int 5⟩
  · unfold startX
    rw [hlen]; rfl
end Mine


set_option autoImplicit false
set_option linter.unusedVariables false
set_option maxRecDepth 100000
namespace Mine
open PySem PyProof.Rows

section
variable {H : AHeap} {a b : AV} {xs ys : List AV}
theorem add_sq (ha : Sq H false a xs) (hb : Sq H false b ys) (hl : xs.length + ys.length ≤ LIM) : pBin false .Add a b H = some (.ok (.lst (xs ++ ys)), H) := by
  have e : (do let xs ← listOf a; let ys ← listOf b; newL false (xs ++ ys) : M AV) H = some (.ok (.lst (xs ++ ys)), H) := bind_of ha.list (bind_of hb.list (by rw [e_newL (by rw [List.length_append]; exact hl)]; rfl))
  rcases ha with rfl | ⟨l, rfl, h⟩ <;> exact e
theorem slice_sq (ha : Sq H false a xs) {lo hi : Option Int} (hl : xs.length ≤ LIM) : pSlice false a lo hi H = some (.ok (.lst (cut xs lo hi)), H) := by
  have e : (do let xs ← listOf a; newL false (cut xs lo hi) : M AV) H = some (.ok (.lst (cut xs lo hi)), H) := bind_of ha.list (by rw [e_newL (Nat.le_trans (by unfold cut; exact Nat.le_trans (List.length_take_le' _ _) (by rw [List.length_drop]; omega)) hl)]; rfl)
  rcases ha with rfl | ⟨l, rfl, h⟩ <;> exact e
theorem item_sq (ha : Sq H false a xs) {i : Nat} {v : AV} (hi : xs[i]? = some v) : pItem a (.int i) H = some (.ok v, H) := by
  rcases ha with rfl | ⟨l, rfl, h⟩
  · rw [e_item_lst hi]; rfl
  · exact item_loc h hi
theorem cut_take {n : Nat} (h : n ≤ xs.length) : cut xs none (some (n : Int)) = xs.take n := by
  unfold cut clipA
  simp only [Option.elim, List.drop_zero, Nat.sub_zero]
  congr 1
  rw [if_neg (by omega)]
  omega
theorem cut_dropT {n m : Nat} (h : n ≤ xs.length) : cut xs (some (n : Int)) (some (m : Int)) = (xs.drop n).take (min m xs.length - n) := by
  unfold cut clipA
  simp only [Option.elim]
  rw [if_neg (by omega), if_neg (by omega)]
  congr 1
  · omega
  · congr 1; omega
theorem cut_drop' {n : Nat} (h : n ≤ xs.length) : cut xs (some (n : Int)) none = xs.drop n := by
  unfold cut clipA
  simp only [Option.elim]
  rw [if_neg (by omega)]
  rw [show (max 0 (min (n : Int) (xs.length : Int))).toNat = n from by omega, List.take_of_length_le (by rw [List.length_drop]; exact Nat.le_refl _)]
theorem mul_lst {v : AV} {n : Nat} (hn : n ≤ 1000) : pBin false .Mult (.lst [v]) (.int n) = pure (.lst (List.replicate n v)) := by
  have hL := LIMis
  funext H
  have e : (do let xs ← listOf (.lst [v]); if (n : Int) < 0 ∨ 1048576 < (n : Int) ∨ LIM < (n : Int).toNat * xs.length then stuck else newL false (List.replicate (n : Int).toNat xs).flatten : M AV) H = some (.ok (.lst (List.replicate n v)), H) := by
    refine bind_of (a := [v]) rfl ?_
    rw [if_neg (by simp only [List.length_singleton]; omega), Int.toNat_natCast]
    have hf : (List.replicate n [v]).flatten = List.replicate n v := by
      induction n with
      | zero => rfl
      | succ n ih => rw [List.replicate_succ, List.replicate_succ, List.flatten_cons, ih (by omega)]; rfl
    rw [hf, e_newL (by rw [List.length_replicate]; omega)]; rfl
  exact e
end
/-- the test of the kind -/
noncomputable def KT (k : AV) (b : Bool) : Prop := (do let t2 ← (do let b3 ← (do let v6 ← (do let v4 ← pure k; let b5 ← pIsi v4 .str; pure (.bool b5)); truth v6); pure (!b3)); match t2 with | true => pure true | false => (do let t7 ← (pCmp .NotIn k g_KINDS); match t7 with | true => pure true | false => pure false) : M Bool) = pure b
noncomputable def kinds6 : List AV := [.str "mark", .str "", .none, .int 5, .lst [.str "bare"], .str "Marks"]
theorem kinds6_no : All (fun k => KT k true) kinds6 := ⟨by unfold KT; kernel_rfl, by unfold KT; kernel_rfl, by unfold KT; kernel_rfl, by unfold KT; kernel_rfl, by unfold KT; kernel_rfl, by unfold KT; kernel_rfl, trivial⟩
noncomputable def dueOf : Option Str → Int
  | none => 0
  | some x => codeX x
/-- what spoilt gives -/
noncomputable def Spoilt (H : AHeap) (s0 p0 k0 r : AV) : Prop := ∃ vs pl kb p k, r = .tup [.lst vs, p, k, .int (dueOf ((if kb then some ("NoKind" : Str) else none) <|> (startX vs <|> progX H pl)))] ∧ SS vs ∧ PS H p pl ∧ KT k kb ∧
  (((if kb then some ("NoKind" : Str) else none) <|> (startX vs <|> progX H pl)) = none → AV.lst vs = s0 ∧ p = p0 ∧ k = k0)
section
variable (cf : Str → List AV → M AV) {H : AHeap} {s0 p0 k0 : AV} (hk0 : KT k0 false) {c : Int}
include hk0
theorem sp6 {vs pl : List AV} {p : AV} {o1 o2 : Option AV} (hs : SS vs) (hp : PS H p pl) (hn : (startX vs <|> progX H pl) = none → AV.lst vs = s0 ∧ p = p0) :
    Rn (tl P03 cf "_law_spoilt" [] 6 34 [some (.lst vs), some p, some k0, some (.int c), some (.int (dueOf (startX vs <|> progX H pl))), o1, o2]) H (Fl (fun _ _ => False) fun r H' => H' = H ∧ Spoilt H s0 p0 k0 r) := by
  have hL := LIMis
  rw [c_spoilt_t_6, m_div (by decide), pure_bind, m_mod (by decide), pure_bind, e_eqi, pure_bind]
  generalize decide ((c.fdiv 4096).fmod 4 = 1) = b
  cases b with
  | false =>
    rw [pure_bind, e_go_next, c_spoilt_t_7]
    exact .pure ⟨rfl, vs, pl, false, p, k0, rfl, hs, hp, hk0, fun e => ⟨(hn e).1, (hn e).2, rfl⟩⟩
  | true =>
    have h := fmod_lt (c.fdiv 16384) (b := 6) (by decide)
    obtain ⟨j, hm⟩ := Int.eq_ofNat_of_zero_le h.1
    have hj : j < kinds6.length := Int.ofNat_lt.mp (hm ▸ h.2)
    have e := List.getElem?_eq_getElem hj
    simp only [eachM, pure_bind, bind_assoc, e_newL (xs := [.str "bare"]) (by simp; omega), m_div (i := c) (j := 16384) (by decide), m_mod (j := 6) (by decide), hm]
    rw [e_newL (by simp; omega), pure_bind]
    show Rn (do let kind6 ← pItem (.lst kinds6) (.int j); goOn (tl P03 cf "_law_spoilt" [] 7 33) (.next [some (.lst vs), some p, some kind6, some (.int c), some (.int 1), o1, o2])) H _
    rw [e_item_lst (k := j) e, pure_bind, e_go_next, c_spoilt_t_7]
    exact .pure ⟨rfl, vs, pl, true, p, _, rfl, hs, hp, kinds6_no.at e, fun e => nomatch e⟩
theorem sp5 {vs pl : List AV} {p : AV} {o1 o2 : Option AV} (hs : SS vs) (hv : vs.length ≤ 60) (hp : PS H p pl) (hn : (startX vs <|> progX H pl) = none → AV.lst vs = s0 ∧ p = p0) :
    Rn (tl P03 cf "_law_spoilt" [] 5 35 [some (.lst vs), some p, some k0, some (.int c), some (.int (dueOf (startX vs <|> progX H pl))), o1, o2]) H (Fl (fun _ _ => False) fun r H' => H' = H ∧ Spoilt H s0 p0 k0 r) := by
  have hL := LIMis
  rw [c_spoilt_t_5, m_div (by decide), pure_bind, m_mod (by decide), pure_bind, e_eqi, pure_bind]
  generalize decide ((c.fdiv 1024).fmod 4 = 1) = b
  cases b with
  | false =>
    rw [pure_bind, e_go_next]
    exact sp6 cf hk0 hs hp hn
  | true =>
    obtain ⟨h1, h2⟩ := start_long hs hv
    have e61 : (61 : Int) - (vs.length : Int) = ((61 - vs.length : Nat) : Int) := by omega
    simp only [pure_bind, bind_assoc, e_newL (xs := [.int 5]) (by simp; omega), e_len_lst, m_sub, e61, mul_lst (v := .int 5) (n := 61 - vs.length) (by omega)]
    rw [show pBin false .Add (.lst vs) (.lst (List.replicate (61 - vs.length) (.int 5))) = pure (.lst (vs ++ List.replicate (61 - vs.length) (.int 5))) from m_addL (by rw [List.length_replicate]; omega), pure_bind, e_go_next]
    have := sp6 (H := H) (s0 := s0) (p0 := p0) (c := c) (o1 := o1) (o2 := o2) cf hk0 (p := p) h1 hp (by rw [h2]; exact fun e => nomatch e)
    rw [h2] at this
    exact this
noncomputable def odds4 : List AV := [.none, .bool true, .str "1", .lst [.int 1]]
omit hk0 in
theorem odds4_no : All (fun a => Ask "is_whole" a false) odds4 := ⟨fun n => by kernel_rfl, fun n => by kernel_rfl, fun n => by kernel_rfl, fun n => by kernel_rfl, trivial⟩
theorem sp4 {xs : List Int} {pl : List AV} {p : AV} {o1 o2 : Option AV} (hv : xs.length ≤ 60) (hp : PS H p pl) (hs0 : s0 = .lst (xs.map .int)) (hn : progX H pl = none → p = p0) :
    Rn (tl P03 cf "_law_spoilt" [] 4 36 [some s0, some p, some k0, some (.int c), some (.int (dueOf (progX H pl))), o1, o2]) H (Fl (fun _ _ => False) fun r H' => H' = H ∧ Spoilt H s0 p0 k0 r) := by
  have hL := LIMis
  subst hs0
  rw [c_spoilt_t_4, m_div (by decide), pure_bind, m_mod (by decide), pure_bind, e_eqi, pure_bind]
  generalize decide ((c.fdiv 256).fmod 4 = 1) = b
  cases b with
  | false =>
    obtain ⟨h1, h2⟩ := start_ok hv
    have := sp5 (H := H) (s0 := .lst (xs.map .int)) (p0 := p0) (c := c) (o1 := o1) (o2 := o2) cf hk0 (p := p) h1 (by rw [List.length_map]; exact hv) hp (by rw [h2]; exact fun e => ⟨rfl, hn e⟩)
    rw [h2] at this
    exact this
  | true =>
    have hxl : (xs.map AV.int).length = xs.length := List.length_map ..
    have hm59 : pSlice false (.lst (xs.map .int)) none (some 59) H = some (.ok (.lst ((xs.map AV.int).take 59)), H) := by
      rw [slice_sq (a := .lst (xs.map .int)) (.inl rfl) (by rw [List.length_map]; omega)]
      by_cases hx : 59 ≤ (xs.map AV.int).length
      · rw [show (59 : Int) = ((59 : Nat) : Int) from rfl, cut_take hx]
      · rw [List.take_of_length_le (by omega)]
        have : cut (xs.map AV.int) none (some 59) = xs.map .int := by
          unfold cut clipA
          simp only [Option.elim, List.drop_zero, Nat.sub_zero]
          exact List.take_of_length_le (by rw [if_neg (by omega)]; omega)
        rw [this]
    have hlen : ((xs.map AV.int).take 59).length = min 59 xs.length := by rw [List.length_take, List.length_map]
    have h := fmod_lt (c.fdiv 16384) (b := ((min 59 xs.length : Nat) : Int) + 1) (by omega)
    obtain ⟨j, hm⟩ := Int.eq_ofNat_of_zero_le h.1
    have hj : j ≤ min 59 xs.length := by rw [hm] at h; omega
    have h4 := fmod_lt (c.fdiv 65536) (b := 4) (by decide)
    obtain ⟨i, hi⟩ := Int.eq_ofNat_of_zero_le h4.1
    have hi4 : i < odds4.length := Int.ofNat_lt.mp (hi ▸ h4.2)
    have e := List.getElem?_eq_getElem hi4
    have hodd := odds4_no.at e
    generalize odds4[i] = od at e hodd
    simp only [eachM, pure_bind, bind_assoc, e_newL (xs := [.int 1]) (by simp; omega), m_div (i := c) (j := 16384) (by decide), m_div (i := c) (j := 65536) (by decide), m_mod (j := 4) (by decide), hi]
    refine .bof hm59 ?_
    rw [e_len_lst, pure_bind, m_add, pure_bind, hlen, m_mod (by omega), pure_bind, hm]
    simp only [show ∀ i : Int, intM (.int i) = pure i from fun _ => rfl, pure_bind]
    refine .bof (slice_sq (a := .lst (xs.map .int)) (.inl rfl) (by omega)) ?_
    rw [cut_take (by omega), e_newL (by simp; omega), pure_bind]
    show Rn (do let x ← pItem (.lst odds4) (.int i); _) H _
    rw [e_item_lst (k := i) e, pure_bind, e_newL (xs := [od]) (by simp; omega), pure_bind, m_addL (by simp; omega), pure_bind]
    refine .bof (slice_sq (a := .lst (xs.map .int)) (.inl rfl) (by omega)) ?_
    rw [show (59 : Int) = ((59 : Nat) : Int) from rfl, cut_dropT (by omega), m_addL (by simp; omega), pure_bind, e_go_next]
    have hvs : (xs.map AV.int).take j ++ [od] ++ ((xs.map AV.int).drop j).take (min 59 (xs.map AV.int).length - j) = (xs.take j).map .int ++ od :: ((xs.drop j).take (min 59 xs.length - j)).map .int := by
      rw [List.map_take, List.map_take, List.map_drop, hxl, List.append_assoc]; rfl
    have hsz : (xs.take j).length + 1 + ((xs.drop j).take (min 59 xs.length - j)).length ≤ 60 := by simp only [List.length_take, List.length_drop]; omega
    obtain ⟨h1, h2⟩ := start_odd hsz hodd
    rw [hvs]
    have := sp5 (H := H) (s0 := .lst (xs.map .int)) (p0 := p0) (c := c) (o1 := some (.int j)) (o2 := o2) cf hk0 (p := p) h1 (by rw [List.length_append, List.length_cons, List.length_map, List.length_map]; omega) hp (by rw [h2]; exact fun e => nomatch e)
    rw [h2] at this
    exact this
theorem sp3 {xs : List Int} {pl : List AV} {p : AV} {o1 o2 : Option AV} (hv : xs.length ≤ 60) (hp : PS H p pl) (hpl : pl.length ≤ 21) (hs0 : s0 = .lst (xs.map .int)) (hn : progX H pl = none → p = p0) :
    Rn (tl P03 cf "_law_spoilt" [] 3 37 [some s0, some p, some k0, some (.int c), some (.int (dueOf (progX H pl))), o1, o2]) H (Fl (fun _ _ => False) fun r H' => H' = H ∧ Spoilt H s0 p0 k0 r) := by
  have hL := LIMis
  rw [c_spoilt_t_3, m_div (by decide), pure_bind, m_mod (by decide), pure_bind, e_eqi, pure_bind]
  generalize decide ((c.fdiv 64).fmod 4 = 1) = b
  cases b with
  | false => exact sp4 cf hk0 hv hp hs0 hn
  | true =>
    obtain ⟨h1, h2⟩ := hp.more (by omega)
    have m21 : pBin false .Mult (.lst [.lst []]) (.int 21) = pure (.lst (List.replicate 21 (.lst []))) := mul_lst (n := 21) (by omega)
    simp only [eachM, pure_bind, bind_assoc, e_newL (xs := []) (Nat.zero_le _), e_newL (xs := [.lst []]) (by simp; omega), m21]
    refine .bof (add_sq hp.sq (.inl rfl) (by rw [List.length_replicate]; omega)) ?_
    rw [e_go_next]
    have := sp4 (H := H) (s0 := s0) (p0 := p0) (c := c) (o1 := o1) (o2 := o2) cf hk0 hv h1 hs0 (by rw [h2]; exact fun e => nomatch e)
    rw [h2] at this
    exact this
theorem sp2 {xs : List Int} {pl : List AV} {p : AV} {o1 o2 : Option AV} (hv : xs.length ≤ 60) (hp : PS H p pl) (hpl : pl.length ≤ 20) (hs0 : s0 = .lst (xs.map .int)) (hn : progX H pl = none → p = p0) :
    Rn (tl P03 cf "_law_spoilt" [] 2 38 [some s0, some p, some k0, some (.int c), some (.int (dueOf (progX H pl))), o1, o2]) H (Fl (fun _ _ => False) fun r H' => H' = H ∧ Spoilt H s0 p0 k0 r) := by
  have hL := LIMis
  rw [c_spoilt_t_2, m_div (by decide), pure_bind, m_mod (by decide), pure_bind, e_eqi, pure_bind]
  generalize decide ((c.fdiv 16).fmod 4 = 1) = b
  cases b with
  | false => exact sp3 cf hk0 hv hp (by omega) hs0 hn
  | true =>
    obtain ⟨h1, h2⟩ := hp.long (ds := List.replicate 61 (deedV ⟨.pop, 0⟩)) (by omega) (by rw [List.length_replicate]; omega) fun d hd => by rw [List.eq_of_mem_replicate hd]; exact ask_deed _
    have m61 : pBin false .Mult (.lst [.tup [.str "pop"]]) (.int 61) = pure (.lst (List.replicate 61 (.tup [.str "pop"]))) := mul_lst (n := 61) (by omega)
    simp only [eachM, pure_bind, bind_assoc, e_newL (xs := [.tup [.str "pop"]]) (by simp; omega), m61]
    rw [e_newL (by simp; omega), pure_bind]
    refine .bof (add_sq (xs := [.lst (List.replicate 61 (.tup [.str "pop"]))]) (.inl rfl) hp.sq (by simp; omega)) ?_
    rw [e_go_next]
    have := sp3 (H := H) (s0 := s0) (p0 := p0) (c := c) (o1 := o1) (o2 := o2) cf hk0 hv h1 (by rw [List.length_cons]; omega) hs0 (by rw [h2]; exact fun e => nomatch e)
    rw [h2] at this
    exact this
end
end Mine


set_option autoImplicit false
set_option linter.unusedVariables false
set_option maxRecDepth 100000
namespace Mine
open PySem PyProof.Rows

noncomputable def odds3 : List AV := [.tup [.str "take"], .none, .lst [.str "pop"], .tup [.str "push"]]
theorem odds3_no : All (fun a => Ask "is_deed" a false) odds3 := ⟨fun n => by kernel_rfl, fun n => by kernel_rfl, fun n => by kernel_rfl, fun n => by kernel_rfl, trivial⟩
theorem s_spoilt (n : Nat) {H : AHeap} {p0 k0 : AV} {xs : List Int} {pl : List AV} {c : Int} (hk0 : KT k0 false) (hv : xs.length ≤ 60) (hp : GP H p0 pl) (h1 : 1 ≤ pl.length) :
    Rn (callP P03 (n + 1) "_law_spoilt" [.lst (xs.map .int), p0, k0, .int c]) H fun r H' => H' = H ∧ Spoilt H (.lst (xs.map .int)) p0 k0 r := by
  have hL := LIMis
  have hf := hp.few
  refine callRn (σ := [some (.lst (xs.map .int)), some p0, some k0, some (.int c), none, none, none]) (by kernel_rfl) (by kernel_rfl) (by kernel_rfl) ?_
  refine Rn.mono (R := Fl (fun _ _ => False) fun r H' => H' = H ∧ Spoilt H (.lst (xs.map .int)) p0 k0 r) ?_ fun r H' q => by cases r with | next _ => exact q.elim | ret a => exact q
  rw [c_spoilt_0, m_mod (by decide), pure_bind, e_eqi, pure_bind]
  generalize decide (c.fmod 4 = 1) = b
  cases b with
  | false =>
    have := sp2 (H := H) (s0 := .lst (xs.map .int)) (p0 := p0) (k0 := k0) (c := c) (o1 := none) (o2 := none) (callP P03 n) hk0 hv hp.toPS hf rfl fun _ => rfl
    rw [hp.none] at this
    exact this
  | true =>
    have h := fmod_lt (c.fdiv 4) (b := (pl.length : Int)) (by omega)
    obtain ⟨j, hm⟩ := Int.eq_ofNat_of_zero_le h.1
    have hj : j < pl.length := by rw [hm] at h; omega
    have h4 := fmod_lt (c.fdiv 16384) (b := 4) (by decide)
    obtain ⟨i, hi⟩ := Int.eq_ofNat_of_zero_le h4.1
    have hi4 : i < odds3.length := Int.ofNat_lt.mp (hi ▸ h4.2)
    have e := List.getElem?_eq_getElem hi4
    have hodd := odds3_no.at e
    generalize odds3[i] = od at e hodd
    have hq := hp.ok _ (List.getElem_mem hj)
    have hsp : pl = pl.take j ++ pl[j] :: pl.drop (j + 1) := by rw [← List.drop_eq_getElem_cons hj, List.take_append_drop]
    have hlt : (pl.take j).length ≤ LIM ∧ (pl.drop (j + 1)).length ≤ LIM := by simp only [List.length_take, List.length_drop]; omega
    simp only [eachM, pure_bind, bind_assoc, e_newL (xs := [.str "pop"]) (by simp; omega), m_div (i := c) (j := 4) (by decide), m_div (i := c) (j := 16384) (by decide), m_mod (j := 4) (by decide), hi]
    refine .bof hp.sq.len ?_
    rw [m_mod (by omega), pure_bind, hm, e_newL (by simp; omega), pure_bind]
    show Rn (do let x ← pItem (.lst odds3) (.int i); _) H _
    rw [e_item_lst (k := i) e, pure_bind]
    simp only [show ∀ i : Int, intM (.int i) = pure i from fun _ => rfl, pure_bind]
    refine .bof (slice_sq hp.sq (by omega)) ?_
    rw [cut_take (by omega)]
    refine .bof (item_sq hp.sq (List.getElem?_eq_getElem hj)) ?_
    rw [e_newL (xs := [od]) (by simp; omega), pure_bind]
    refine .bof (add_sq hq.1 (.inl rfl) (by simp; omega)) ?_
    rw [e_newL (by simp; omega), pure_bind, m_addL (by simp; omega), pure_bind, m_add, pure_bind]
    simp only [show ∀ i : Int, intM (.int i) = pure i from fun _ => rfl, pure_bind]
    rw [show ((j : Int) + 1) = ((j + 1 : Nat) : Int) from rfl]
    refine .bof (slice_sq hp.sq (by omega)) ?_
    rw [cut_drop' (by omega), m_addL (by simp; omega), pure_bind, e_go_next]
    have hps : pl.take j ++ [AV.lst (dsH H pl[j] ++ [od])] ++ pl.drop (j + 1) = pl.take j ++ .lst (dsH H pl[j] ++ [od]) :: pl.drop (j + 1) := by rw [List.append_assoc]; rfl
    rw [hps]
    have hp' : GP H p0 (pl.take j ++ pl[j] :: pl.drop (j + 1)) := hsp ▸ hp
    obtain ⟨g1, g2⟩ := hp'.odd hodd
    have := sp2 (H := H) (s0 := .lst (xs.map .int)) (p0 := p0) (k0 := k0) (c := c) (o1 := some (.int j)) (o2 := some od) (callP P03 n) hk0 hv g1 (by simp only [List.length_append, List.length_cons, List.length_take, List.length_drop]; omega) rfl (by rw [g2]; exact fun e => nomatch e)
    rw [g2] at this
    exact this
end Mine


set_option autoImplicit false
set_option linter.unusedVariables false
set_option maxRecDepth 100000
namespace Mine
open PySem PyProof.Rows

theorem startX_is {vs : List AV} {x : Str} (h : startX vs = some x) : isX x := by
  unfold startX at h
  by_cases hc : 60 < vs.length
  · rw [decide_eq_true hc] at h; cases h; exact .inr (.inl rfl)
  · rw [decide_eq_false hc] at h
    obtain ⟨a, _, h⟩ := List.exists_of_findSome?_eq_some (show vs.findSome? _ = some x from h)
    split at h
    · cases h; exact .inr (.inr (.inl rfl))
    · cases h
theorem progX_is {H : AHeap} {pl : List AV} {x : Str} (h : progX H pl = some x) : isX x := by
  unfold progX at h
  by_cases hc : 20 < pl.length
  · rw [decide_eq_true hc] at h; cases h; exact .inr (.inl rfl)
  · rw [decide_eq_false hc] at h
    obtain ⟨q, _, h⟩ := List.exists_of_findSome?_eq_some (show pl.findSome? _ = some x from h)
    by_cases hq : 60 < (dsH H q).length
    · rw [decide_eq_true hq] at h; cases h; exact .inr (.inl rfl)
    · rw [decide_eq_false hq] at h
      obtain ⟨d, _, h⟩ := List.exists_of_findSome?_eq_some (show (dsH H q).findSome? _ = some x from h)
      split at h
      · cases h; exact .inr (.inr (.inr rfl))
      · cases h
theorem totX_is {H : AHeap} {vs pl : List AV} {kb : Bool} {x : Str} (h : ((if kb then some ("NoKind" : Str) else none) <|> (startX vs <|> progX H pl)) = some x) : isX x := by
  cases kb with
  | true => cases h; exact .inl rfl
  | false =>
    have h : (startX vs <|> progX H pl) = some x := h
    cases hs : startX vs with
    | none => rw [hs] at h; exact progX_is h
    | some y => rw [hs] at h; cases h; exact startX_is hs
theorem PS.ds {H X : AHeap} {p q : AV} {pl : List AV} (h : PS H p pl) (hq : q ∈ pl) : dsH (H ++ X) q = dsH H q := (h.ok q hq).1.app.ds
theorem PS.app {H X : AHeap} {p : AV} {pl : List AV} (h : PS H p pl) : PS (H ++ X) p pl := ⟨h.sq.app, h.len, fun q hq => by rw [h.ds hq]; exact ⟨(h.ok q hq).1.app, (h.ok q hq).2⟩⟩
theorem find_congr {α β : Type} {f g : α → Option β} : ∀ {l : List α}, (∀ a ∈ l, f a = g a) → l.findSome? f = l.findSome? g
  | [], _ => rfl
  | a :: r, h => by rw [List.findSome?_cons, List.findSome?_cons, h a List.mem_cons_self, find_congr fun b hb => h b (List.mem_cons_of_mem _ hb)]
theorem PS.prog {H X : AHeap} {p : AV} {pl : List AV} (h : PS H p pl) : progX (H ++ X) pl = progX H pl := by
  unfold progX
  congr 1
  funext _
  exact find_congr fun q hq => by rw [h.ds hq]
/-- a refusal tells what is due -/
theorem s_refusal (n : Nat) {H : AHeap} {xs : List Int} {p0 k0 p k : AV} {vs pl pl0 : List AV} {kb : Bool} (hv : xs.length ≤ 60) (hp0 : GP H p0 pl0) (hk0 : KT k0 false) (hs : SS vs) (hp : PS H p pl) (hk : KT k kb)
    (hn : ((if kb then some ("NoKind" : Str) else none) <|> (startX vs <|> progX H pl)) = none → AV.lst vs = .lst (xs.map .int) ∧ p = p0 ∧ k = k0) (b : Bool) (X : AHeap) :
    ∃ Y, callP P03 (n + 6) "_law_refusal" [.lst vs, p, k, .bool b] (H ++ X) = some (.ok (.lst [.int (dueOf ((if kb then some ("NoKind" : Str) else none) <|> (startX vs <|> progX H pl)))]), H ++ X ++ Y) := by
  cases ht : ((if kb then some ("NoKind" : Str) else none) <|> (startX vs <|> progX H pl)) with
  | some x =>
    refine ⟨[], ?_⟩
    rw [List.append_nil]
    exact s_refuse_x n b (totX_is ht) fun m => by
      have := s_need3 m hs (hp.app (X := X)) hk (s := .lst vs) (.inl rfl)
      rw [hp.prog, ht] at this
      exact this
  | none =>
    obtain ⟨e1, rfl, rfl⟩ := hn ht
    cases e1
    have need : ∀ m, callP P03 (m + 3) "need_all" [.lst (xs.map .int), p, k] (H ++ X) = some (.ok .none, H ++ X) := fun m => by
      have := s_need3 m (start_ok hv).1 (hp0.toPS.app (X := X)) hk0 (s := .lst (xs.map .int)) (.inl rfl)
      rw [hp0.toPS.prog, hp0.none, (start_ok hv).2] at this
      exact this
    have tow : ∀ m, ∃ a Y, callP P03 (m + 4) "tower_of" [.lst (xs.map .int), p, k] (H ++ X) = some (.ok a, H ++ X ++ Y) := fun m => by
      obtain ⟨a, H', h1, h2, h3⟩ := s_tower (H := H ++ X) (xs := xs) (pl := pl0) (pr := pl0.map (dsH H)) (m + 3) (need m) (.inl rfl) hp0.sq.app hv (List.length_map ..).symm (by rw [List.length_map]; exact hp0.few) fun i q ds hq hd => by
        rw [List.getElem?_map, hq] at hd
        cases hd
        exact (hp0.ok q (List.mem_of_getElem? hq)).1.app
      exact ⟨a, _, h1.trans (by rw [h3]; unfold towH; rfl)⟩
    cases b with
    | false =>
      obtain ⟨a, Y, h⟩ := tow (n + 1)
      exact ⟨Y, s_refuse_o n false h⟩
    | true =>
      obtain ⟨a, Y, h⟩ := tow n
      obtain ⟨Z, h'⟩ := s_woven0 (n + 4) h
      refine ⟨Y ++ Z, ?_⟩
      rw [← List.append_assoc]
      exact s_refuse_o n true h'
theorem eq_dd {H : AHeap} {d : Int} : pCmp .Eq (.lst [.lst [.int d], .lst [.int d]]) (.lst [.lst [.int d], .lst [.int d]]) H = some (.ok true, H) := by
  have e1 : rd H 8 (.lst [.lst [.int d], .lst [.int d]]) = some (.list [.list [.int d], .list [.int d]]) := by rfl
  have r1 : rdM (.lst [.lst [.int d], .lst [.int d]]) H = some (.ok (.list [.list [.int d], .list [.int d]]), H) := by unfold rdM; rw [e1]
  exact bind_of r1 (bind_of r1 (by rw [rd_eqv e1]; rfl))
end Mine


set_option autoImplicit false
set_option linter.unusedVariables false
set_option maxRecDepth 100000
namespace Mine
open PySem PyProof.Rows

/-- a fresh tower -/
structure T03 (G : AHeap) (st lb lsp lh lr : Nat) (k : AV) (xs : List Int) (hs : List Nat) : Prop where
  d : G[st]? = some (stD k (hd0 xs) lb lsp lh lr)
  b : G[lb]? = some (.list ((bx0 xs).map bxV))
  sp : G[lsp]? = some (.list [])
  r : G[lr]? = some (.list [])
  h : G[lh]? = some (.list (hs.map .loc))
  w : ∀ x ∈ hs, ∃ pr, G[x]? = some (handD pr)
theorem T03.keep {G G' : AHeap} {st lb lsp lh lr : Nat} {k : AV} {xs : List Int} {hs : List Nat} (T : T03 G st lb lsp lh lr k xs hs) (h : ∀ l o, (l = st ∨ l = lb ∨ l = lsp ∨ l = lr ∨ l = lh ∨ l ∈ hs) → G[l]? = some o → G'[l]? = some o) : T03 G' st lb lsp lh lr k xs hs :=
  ⟨h _ _ (.inl rfl) T.d, h _ _ (.inr (.inl rfl)) T.b, h _ _ (.inr (.inr (.inl rfl))) T.sp, h _ _ (.inr (.inr (.inr (.inl rfl)))) T.r, h _ _ (.inr (.inr (.inr (.inr (.inl rfl))))) T.h, fun x hx => let ⟨pr, e⟩ := T.w x hx; ⟨pr, h _ _ (.inr (.inr (.inr (.inr (.inr hx))))) e⟩⟩
theorem T03.app {G X : AHeap} {st lb lsp lh lr : Nat} {k : AV} {xs : List Int} {hs : List Nat} (T : T03 G st lb lsp lh lr k xs hs) : T03 (G ++ X) st lb lsp lh lr k xs hs :=
  T.keep fun l o _ e => by rw [List.getElem?_append_left (List.getElem?_eq_some_iff.mp e).1]; exact e
noncomputable def natV' (i : Nat) : AV := .int (i : Int)
theorem mapM_nats {H : AHeap} {n : Nat} : ∀ xs : List Nat, (xs.map natV').mapM (rd H n) = some (xs.map fun (i : Nat) => PyData.int (i : Int))
  | [] => rfl
  | x :: r => by
    rw [List.map_cons, List.mapM_cons, mapM_nats r]
    show (do let y ← rd H n (.int x); _) = _
    rw [rd_int]; rfl
theorem notin_nats {H : AHeap} {l b : Nat} {ds : List Nat} (h : H[l]? = some (.list (ds.map natV'))) (hb : b ∉ ds) : pCmp .NotIn (.int b) (.loc l) H = some (.ok true, H) := by
  have e2 : rd H 8 (.loc l) = some (.list (ds.map fun (i : Nat) => PyData.int (i : Int))) := by unfold rd; simp only [h, mapM_nats]; rfl
  refine bind_of (a := false) (H1 := H) (bind_of (rdM_is rd_int) (bind_of (rdM_is e2) (bind_of (a := ds.map fun (i : Nat) => PyData.int (i : Int)) (H1 := H) rfl ?_))) rfl
  show some (Except.ok _, H) = some (Except.ok false, H)
  congr 3
  rw [List.any_eq_false]
  intro y hy
  obtain ⟨i, hi, rfl⟩ := List.mem_map.mp hy
  show ¬ ((i : Int) == (b : Int)) = true
  rw [beq_iff_eq]
  exact fun e => hb (Int.ofNat_inj.mp e ▸ hi)
section
variable {G : AHeap} {st lb lsp lh lr : Nat} {k : AV} {xs : List Int} {hs : List Nat}
theorem s_head_of (n : Nat) (T : T03 G st lb lsp lh lr k xs hs) : callP P03 (n + 1) "head_of" [.loc st] G = some (.ok (.tup [hd0 xs, .int 0]), G) := by
  refine callR (σ := [some (.loc st)]) (by kernel_rfl) (by kernel_rfl) (by kernel_rfl) ?_
  rw [c_head_of_0]
  exact bind_of (bind_of (bind_of (dItem (v := hd0 xs) T.d (by kernel_rfl)) (bind_of (bind_of (dItem (v := .int 0) T.d (by kernel_rfl)) rfl) rfl)) rfl) rfl
theorem s_spare_of (n : Nat) (T : T03 G st lb lsp lh lr k xs hs) : callP P03 (n + 1) "spare_of" [.loc st] G = some (.ok (.lst []), G) := by
  refine callR (σ := [some (.loc st)]) (by kernel_rfl) (by kernel_rfl) (by kernel_rfl) ?_
  rw [c_spare_of_0]
  exact bind_of (bind_of (bind_of (dItem (v := .loc lsp) T.d (by kernel_rfl)) rfl) (list_loc T.sp (Nat.zero_le _))) rfl
theorem s_rows_of (n : Nat) (T : T03 G st lb lsp lh lr k xs hs) : callP P03 (n + 1) "rows_of" [.loc st] G = some (.ok (.lst []), G) := by
  refine callR (σ := [some (.loc st)]) (by kernel_rfl) (by kernel_rfl) (by kernel_rfl) ?_
  rw [c_rows_of_0]
  exact bind_of (bind_of (bind_of (dItem (v := .loc lr) T.d (by kernel_rfl)) rfl) (list_loc T.r (Nat.zero_le _))) rfl
noncomputable def nxV (n i : Nat) : AV := ixV (if i = n then none else some i)
theorem s_inside_of (n : Nat) (T : T03 G st lb lsp lh lr k xs hs) {i : Nat} {v : Int} (hv : xs[i]? = some v) : callP P03 (n + 1) "inside_of" [.loc st, .int i] G = some (.ok (.tup [.int v, nxV xs.length (i + 1)]), G) := by
  refine callR (σ := [some (.loc st), some (.int i)]) (by kernel_rfl) (by kernel_rfl) (by kernel_rfl) ?_
  rw [c_inside_of_0]
  have hb : ((bx0 xs).map bxV)[i]? = some (.tup [.int v, nxV xs.length (i + 1)]) := by rw [List.getElem?_map, bx0_at hv]; rfl
  exact bind_of (bind_of (dItem (v := .loc lb) T.d (by kernel_rfl)) (item_loc T.b hb)) rfl
theorem s_boxes_from (n : Nat) (T : T03 G st lb lsp lh lr k xs hs) (hl : xs.length ≤ 60) : Rn (callP P03 (n + 1) "boxes_from" [.loc st, hd0 xs]) G fun a H' => a = .loc G.length ∧ H' = G ++ [.list ((List.range xs.length).map natV')] := by
  have hL := LIMis
  refine callRn (σ := [some (.loc st), some (hd0 xs), none]) (by kernel_rfl) (by kernel_rfl) (by kernel_rfl) ?_
  rw [c_boxes_from_0]
  refine .bof (newT (Nat.zero_le _)) ?_
  have h0 : hd0 xs = nxV xs.length 0 := by
    unfold hd0 nxV
    by_cases h : xs.length = 0
    · rw [if_pos h, if_pos h.symm]
    · rw [if_neg h, if_neg (fun e => h e.symm)]
  refine .then (whR xs.length (fun m σ H2 => ∃ i, i + m = xs.length ∧ σ = [some (.loc st), some (nxV xs.length i), some (.loc G.length)] ∧ H2 = G ++ [.list ((List.range i).map natV')])
    (Q := fun r H2 => ∃ o1 o2, r = .next [o1, o2, some (.loc G.length)] ∧ H2 = G ++ [.list ((List.range xs.length).map natV')]) (by omega) ⟨0, Nat.zero_add _, by rw [h0], rfl⟩ ?_) ?_
  · rintro m σ H2 ⟨i, hi, rfl, rfl⟩
    rw [c_boxes_from_while_1t]
    cases m with
    | zero =>
      have hi : i = xs.length := hi
      subst hi
      rw [show nxV xs.length xs.length = .none from by unfold nxV; rw [if_pos rfl]; rfl]
      exact .pure (.inl ⟨rfl, _, _, rfl, rfl⟩)
    | succ m =>
      have hlt : i < xs.length := by omega
      have hv := List.getElem?_eq_getElem hlt
      rw [show nxV xs.length i = .int i from by unfold nxV; rw [if_neg (by omega)]; rfl]
      show Rn (do let t2 ← pCmp .NotIn (.int i) (.loc G.length); match t2 with | false => pure false | true => pure true) _ _
      refine .bof (notin_nats app_at fun z => by rw [List.mem_range] at z; omega) (.pure (.inr ⟨rfl, ?_⟩))
      rw [c_boxes_from_while_1b]
      refine .bind ?_
      rw [pure_bind]
      refine .bof (listOf_loc app_at) (.of (append_loc app_at (by rw [List.length_map, List.length_range]; omega)) ?_)
      rw [List.set_append_right _ _ (Nat.le_refl _), Nat.sub_self]
      show Rn _ (G ++ [.list ((List.range i).map natV' ++ [natV' i])]) _
      have hx : ((bx0 xs).map bxV)[i]? = some (.tup [.int xs[i], nxV xs.length (i + 1)]) := by rw [List.getElem?_map, bx0_at hv]; rfl
      have T' := T.app (X := [.list ((List.range i).map natV' ++ [natV' i])])
      refine .bind (.bind (.bof (dItem (v := .loc lb) T'.d (by kernel_rfl)) (.of (item_loc T'.b hx) ?_)))
      rw [show pItem (.tup [.int xs[i], nxV xs.length (i + 1)]) (.int 1) = pure (nxV xs.length (i + 1)) from e_it1]
      exact .pure (.pure ⟨m, Nat.lt_succ_self _, i + 1, by omega, rfl, by rw [List.range_succ, List.map_append]; rfl⟩)
  · rintro r H2 ⟨o1, o2, rfl, rfl⟩
    rw [e_go_next, c_boxes_from_t_2]
    exact .pure ⟨rfl, rfl⟩
theorem s_values_on (n : Nat) (T : T03 G st lb lsp lh lr k xs hs) (hl : xs.length ≤ 60) : Rn (callP P03 (n + 2) "values_on" [.loc st]) G fun a H' => a = .lst (xs.map .int) ∧ ∃ X, H' = G ++ X := by
  have hL := LIMis
  refine callRn (σ := [some (.loc st)]) (by kernel_rfl) (by kernel_rfl) (by kernel_rfl) ?_
  rw [c_values_on_0]
  refine .bind (.bind (.bind ?_))
  refine .eachP (.eachE (dItem (v := hd0 xs) T.d (by kernel_rfl)) (.each0 ?_))
  refine .mono (s_boxes_from n T hl) ?_
  rintro _ H2 ⟨rfl, rfl⟩
  refine .bof (srcOf_loc app_at) ?_
  refine .then (compA ((List.range xs.length).map natV') (fun i acc H3 => H3 = G ++ [.list ((List.range xs.length).map natV')] ∧ acc = (xs.take i).map .int) (by rw [List.length_map, List.length_range]; omega) (fun i acc H3 q => get_loc (by rw [q.1]; exact app_at)) ⟨rfl, rfl⟩ ?_) ?_
  · rintro i a acc H3 ha hacc ⟨rfl, rfl⟩
    rw [List.getElem?_map, Option.map_eq_some_iff] at ha
    obtain ⟨b, hb, rfl⟩ := ha
    have hlt : i < xs.length := by have := (List.getElem?_eq_some_iff.mp hb).1; rw [List.length_range] at this; exact this
    rw [List.getElem?_range hlt] at hb
    cases hb
    have hv := List.getElem?_eq_getElem hlt
    have hx : ((bx0 xs).map bxV)[i]? = some (.tup [.int xs[i], nxV xs.length (i + 1)]) := by rw [List.getElem?_map, bx0_at hv]; rfl
    have T' := T.app (X := [.list ((List.range xs.length).map natV')])
    refine .bind (.bind (.bof (dItem (v := .loc lb) T'.d (by kernel_rfl)) (.of (item_loc T'.b hx) ?_)))
    rw [show pItem (.tup [.int xs[i], nxV xs.length (i + 1)]) (.int 0) = pure (.int xs[i]) from e_it0]
    exact .pure (.pure ⟨_, rfl, rfl, by rw [List.take_add_one, hv, List.map_append]; rfl⟩)
  · rintro ys H3 ⟨⟨rfl, rfl⟩, hlen⟩
    rw [List.length_map, List.length_range, List.take_length] at *
    rw [e_newL (by rw [List.length_map]; omega)]
    exact .pure (.pure ⟨rfl, _, rfl⟩)
end
end Mine


set_option autoImplicit false
set_option linter.unusedVariables false
set_option maxRecDepth 100000
namespace Mine
open PySem PyProof.Rows

/-- i lists are told, m are not yet -/
noncomputable def plH (G : AHeap) (i m : Nat) (Z : AHeap) : AHeap := G ++ (List.replicate i (AO.list [.str "pile"]) ++ (List.replicate m (AO.list []) ++ Z))
theorem plH_set {G Z : AHeap} {i m : Nat} : (plH G i (m + 1) Z).set (G.length + i) (.list [.str "pile"]) = plH G (i + 1) m Z := by
  unfold plH
  rw [List.set_append_right _ _ (Nat.le_add_right _ _), Nat.add_sub_cancel_left, List.set_append_right _ _ (by rw [List.length_replicate]; exact Nat.le_refl _), List.length_replicate, Nat.sub_self, List.replicate_succ, List.replicate_succ', List.append_assoc]
  rfl
theorem plH_at {G Z : AHeap} {i m : Nat} : (plH G i (m + 1) Z)[G.length + i]? = some (.list []) := by
  unfold plH
  rw [tail_at, List.getElem?_append_right (by rw [List.length_replicate]; exact Nat.le_refl _), List.length_replicate, Nat.sub_self]; rfl
theorem plH_end {G Z : AHeap} {i m j : Nat} : (plH G i m Z)[G.length + (i + m) + j]? = Z[j]? := by
  unfold plH
  rw [Nat.add_assoc, tail_at, List.getElem?_append_right (by rw [List.length_replicate]; omega), List.length_replicate, List.getElem?_append_right (by rw [List.length_replicate]; omega), List.length_replicate]
  congr 1
  omega
theorem plH_done {G Z : AHeap} {n i : Nat} (h : i < n) : (plH G n 0 Z)[G.length + i]? = some (.list [.str "pile"]) := by
  unfold plH
  rw [tail_at, List.getElem?_append_left (by rw [List.length_replicate]; exact h), List.getElem?_replicate, if_pos h]
section
variable {G : AHeap} {st lb lsp lh lr : Nat} {k : AV} {xs : List Int} {hs : List Nat}
theorem s_places_of (n : Nat) (T : T03 G st lb lsp lh lr k xs hs) (hl : xs.length ≤ 60) (hh : hs.length ≤ 60) : Rn (callP P03 (n + 2) "places_of" [.loc st]) G fun a H' => ∃ X pl, H' = G ++ X ∧ Sq H' false a pl ∧ pl.length = xs.length ∧ ∀ q ∈ pl, Sq H' false q [.str "pile"] := by
  have hL := LIMis
  refine callRn (σ := [some (.loc st), none, none, none]) (by kernel_rfl) (by kernel_rfl) (by kernel_rfl) ?_
  rw [c_places_of_0]
  refine .bind (.bof (dItem (v := .loc lb) T.d (by kernel_rfl)) (.bof (srcOf_loc T.b) ?_))
  have hbl : ((bx0 xs).map bxV).length = xs.length := by rw [List.length_map, bx0_len]
  refine .then (compA ((bx0 xs).map bxV) (fun i acc H3 => H3 = G ++ List.replicate i (.list []) ∧ acc = (List.range i).map fun j => .loc (G.length + j)) (by omega) (fun i acc H3 q => get_loc (by rw [q.1]; exact T.app.b)) ⟨(List.append_nil _).symm, rfl⟩ ?_) ?_
  · rintro i a acc H3 ha hacc ⟨rfl, rfl⟩
    refine .bof (newT (Nat.zero_le _)) (.pure ⟨_, rfl, ?_, ?_⟩)
    · rw [List.replicate_succ', List.append_assoc]
    · rw [List.range_succ, List.map_append, List.length_append, List.length_replicate]; rfl
  rintro ys H3 ⟨⟨rfl, rfl⟩, _⟩
  rw [hbl]
  refine .of (newT (by rw [List.length_map, List.length_range]; omega)) ?_
  have T1 : T03 (G ++ List.replicate xs.length (.list []) ++ [.list ((List.range xs.length).map fun j => .loc (G.length + j))]) st lb lsp lh lr k xs hs := by rw [List.append_assoc]; exact T.app
  refine .bind (.bind (.eachP (.eachE (dItem (v := hd0 xs) T1.d (by kernel_rfl)) (.each0 ?_))))
  refine .mono (s_boxes_from n T1 hl) ?_
  rintro _ H2 ⟨rfl, rfl⟩
  have hlen : (G ++ List.replicate xs.length (AO.list []) ++ [AO.list ((List.range xs.length).map fun j => .loc (G.length + j))]).length = G.length + xs.length + 1 := by simp only [List.length_append, List.length_replicate, List.length_singleton]
  have hlen0 : (G ++ List.replicate xs.length (AO.list [])).length = G.length + xs.length := by simp only [List.length_append, List.length_replicate]
  have hH : G ++ List.replicate xs.length (AO.list []) ++ [AO.list ((List.range xs.length).map fun j => .loc (G.length + j))] ++ [AO.list ((List.range xs.length).map natV')] = plH G 0 xs.length [.list ((List.range xs.length).map fun j => .loc (G.length + j)), .list ((List.range xs.length).map natV')] := by
    unfold plH; simp only [List.replicate_zero, List.nil_append, List.append_assoc]; rfl
  rw [hlen, hlen0, hH]
  generalize hZ : ([AO.list ((List.range xs.length).map fun j => AV.loc (G.length + j)), AO.list ((List.range xs.length).map natV')] : AHeap) = Z
  have z0 : ∀ {i m : Nat}, i + m = xs.length → (plH G i m Z)[G.length + xs.length]? = some (.list ((List.range xs.length).map fun j => .loc (G.length + j))) := fun {i m} e => by
    have := plH_end (G := G) (Z := Z) (i := i) (m := m) (j := 0)
    rw [e, Nat.add_zero] at this
    rw [this, ← hZ]; rfl
  have z1 : ∀ {i m : Nat}, i + m = xs.length → (plH G i m Z)[G.length + xs.length + 1]? = some (.list ((List.range xs.length).map natV')) := fun {i m} e => by
    have := plH_end (G := G) (Z := Z) (i := i) (m := m) (j := 1)
    rw [e] at this
    rw [this, ← hZ]; rfl
  refine .bof (srcOf_loc (z1 (Nat.zero_add _))) ?_
  refine .then (forA (l := G.length + xs.length + 1) (xs := (List.range xs.length).map natV') (fun i σ H3 => ∃ o1 m, i + m = xs.length ∧ σ = [some (.loc st), o1, some (.loc (G.length + xs.length)), none] ∧ H3 = plH G i m Z)
    (Q := fun r H3 => ∃ o1, r = .next [some (.loc st), o1, some (.loc (G.length + xs.length)), none] ∧ H3 = plH G xs.length 0 Z) (by rw [List.length_map, List.length_range]; omega) ⟨_, xs.length, Nat.zero_add _, rfl, rfl⟩ (fun i σ H3 ⟨o1, m, hm, _, e⟩ => by rw [e]; exact z1 hm) ?_ ?_) ?_
  · rintro i a σ H3 ha ⟨o1, m, hm, rfl, rfl⟩
    rw [List.getElem?_map, Option.map_eq_some_iff] at ha
    obtain ⟨b, hb, rfl⟩ := ha
    have hlt : i < xs.length := by have := (List.getElem?_eq_some_iff.mp hb).1; rw [List.length_range] at this; exact this
    rw [List.getElem?_range hlt] at hb
    cases hb
    obtain ⟨m, rfl⟩ : ∃ m', m = m' + 1 := ⟨m - 1, by omega⟩
    rw [c_places_of_for_1]
    have hit : ((List.range xs.length).map fun j => AV.loc (G.length + j))[i]? = some (.loc (G.length + i)) := by rw [List.getElem?_map, List.getElem?_range hlt]; rfl
    refine .bind (.bof (item_loc (z0 hm) hit) (.bof (listOf_loc plH_at) (.of (append_loc plH_at (by show 0 < LIM; omega)) ?_)))
    rw [List.nil_append, plH_set]
    exact .pure ⟨_, m, by omega, rfl, rfl⟩
  · rintro σ H3 ⟨o1, m, hm, rfl, rfl⟩
    rw [List.length_map, List.length_range] at hm ⊢
    obtain rfl : m = 0 := by omega
    exact ⟨_, rfl, rfl⟩
  rintro r H3 ⟨o1, rfl, rfl⟩
  have T2 : T03 (plH G xs.length 0 Z) st lb lsp lh lr k xs hs := by unfold plH; exact T.app
  rw [e_go_next, c_places_of_t_2]
  refine .bof (dItem (v := .loc lsp) T2.d (by kernel_rfl)) (.bof (srcOf_loc T2.sp) ?_)
  refine .then (forA (l := lsp) (xs := []) (fun i σ H3 => σ = [some (.loc st), o1, some (.loc (G.length + xs.length)), none] ∧ H3 = plH G xs.length 0 Z)
    (Q := fun r H3 => r = .next [some (.loc st), o1, some (.loc (G.length + xs.length)), none] ∧ H3 = plH G xs.length 0 Z) (by decide) ⟨rfl, rfl⟩ (fun i σ H3 e => by rw [e.2]; exact T2.sp) (fun i a σ H ha => nomatch ha) fun σ H3 e => ⟨by rw [e.1], e.2⟩) ?_
  rintro r H3 ⟨rfl, rfl⟩
  rw [e_go_next, c_places_of_t_3]
  refine .bof (dItem (v := .loc lh) T2.d (by kernel_rfl)) (.bof (srcOf_loc T2.h) ?_)
  refine .then (forA (l := lh) (xs := hs.map .loc) (fun i σ H3 => ∃ o2, σ = [some (.loc st), o1, some (.loc (G.length + xs.length)), o2] ∧ H3 = plH G xs.length 0 Z)
    (Q := fun r H3 => ∃ o2, r = .next [some (.loc st), o1, some (.loc (G.length + xs.length)), o2] ∧ H3 = plH G xs.length 0 Z) (by rw [List.length_map]; omega) ⟨_, rfl, rfl⟩ (fun i σ H3 ⟨o2, _, e⟩ => by rw [e]; exact T2.h) ?_ fun σ H3 ⟨o2, e1, e2⟩ => ⟨o2, by rw [e1], e2⟩) ?_
  · rintro i a σ H3 ha ⟨o2, rfl, rfl⟩
    obtain ⟨x, hx, rfl⟩ := List.mem_map.mp (List.mem_of_getElem? ha)
    obtain ⟨pr, hw⟩ := T2.w x hx
    rw [c_places_of_for_3]
    have hheld : callP P03 (n + 1) "held_by" [.loc st, .none] (plH G xs.length 0 Z) = some (.ok (.lst []), plH G xs.length 0 Z) := by
      refine callR (σ := [some (.loc st), some .none]) (by kernel_rfl) (by kernel_rfl) (by kernel_rfl) ?_
      rw [c_held_by_0]; kernel_rfl
    refine .bind (.bind (.eachP (.eachE (dItem (v := .none) hw (by kernel_rfl)) (.each0 (.of hheld ?_)))))
    exact .pure ⟨_, rfl, rfl⟩
  rintro r H3 ⟨o2, rfl, rfl⟩
  rw [e_go_next, c_places_of_t_4]
  refine .pure ⟨_, (List.range xs.length).map fun j => .loc (G.length + j), by unfold plH; rfl, .inr ⟨_, rfl, z0 rfl⟩, by rw [List.length_map, List.length_range], fun q hq => ?_⟩
  obtain ⟨j, hj, rfl⟩ := List.mem_map.mp hq
  exact .inr ⟨_, rfl, plH_done (List.mem_range.mp hj)⟩
end
end Mine


set_option autoImplicit false
set_option linter.unusedVariables false
set_option maxRecDepth 100000
namespace Mine
open PySem PyProof.Rows

/-- the same list, or tuple, of small things -/
theorem SmL.self {H : AHeap} {n C : Nat} : ∀ {xs : List AV}, (∀ x ∈ xs, ∃ c, c ≤ C ∧ Sm H n c (x, x)) → ∃ c, c ≤ xs.length * C ∧ SmL (Sm H n) c (xs.zip xs)
  | [], _ => ⟨0, Nat.zero_le _, rfl⟩
  | x :: r, h => by
    obtain ⟨a, h1, h2⟩ := h x List.mem_cons_self
    obtain ⟨b, h3, h4⟩ := SmL.self (xs := r) fun y hy => h y (List.mem_cons_of_mem _ hy)
    refine ⟨a + b, ?_, a, b, rfl, h2, h4⟩
    rw [List.length_cons, Nat.succ_mul, Nat.add_comm]
    exact Nat.add_le_add h3 h1
theorem Sm.lf {H : AHeap} {a : AV} (h : Lf a) : ∀ n, Sm H n 1 (a, a)
  | 0 => ⟨rfl, h, rfl⟩
  | _ + 1 => .inl ⟨rfl, h, rfl⟩
theorem Sm.sq {H : AHeap} {n C : Nat} {k : Bool} {x y : AV} {xs : List AV} (hx : Sq H k x xs) (hy : Sq H k y xs) (h : ∀ x ∈ xs, ∃ c, c ≤ C ∧ Sm H n c (x, x)) : ∃ c, c ≤ xs.length * C + 1 ∧ Sm H (n + 1) c (x, y) :=
  let ⟨c, h1, h2⟩ := SmL.self h
  ⟨c + 1, Nat.succ_le_succ h1, .inr ⟨k, xs, xs, c, hx, hy, rfl, rfl, h2⟩⟩
theorem lf_int {i : Int} : Lf (.int i) := .inr (.inl ⟨i, rfl⟩)
theorem sm_two {H : AHeap} {x y : AV} (hx : Lf x) (hy : Lf y) (n : Nat) : ∃ c, c ≤ 3 ∧ Sm H (n + 1) c (.tup [x, y], .tup [x, y]) := by
  obtain ⟨c, h1, h2⟩ := Sm.sq (H := H) (n := n) (C := 1) (k := true) (x := .tup [x, y]) (y := .tup [x, y]) (xs := [x, y]) rfl rfl fun z hz => by
    rcases List.mem_cons.mp hz with rfl | hz
    · exact ⟨1, Nat.le_refl _, Sm.lf hx n⟩
    · rw [List.mem_singleton.mp hz]; exact ⟨1, Nat.le_refl _, Sm.lf hy n⟩
  exact ⟨c, h1, h2⟩
theorem lf_ix (o : Option Nat) : Lf (ixV o) := by cases o with | none => exact .inl rfl | some i => exact .inr (.inl ⟨_, rfl⟩)
theorem eq_nil_lst (xs : List Int) (H : AHeap) : pCmp .Eq (.lst (xs.map .int)) (.lst []) H = some (.ok xs.isEmpty, H) := by
  cases xs with
  | nil => rfl
  | cons x r =>
    obtain ⟨ds, h1, _⟩ := mapM_ok (f := Mine.rd H 7) (xs := (x :: r).map .int) fun x hx => by
      obtain ⟨i, _, rfl⟩ := List.mem_map.mp hx
      exact ⟨_, rd_int⟩
    obtain ⟨y, r', _, _, rfl⟩ := mapM_inv h1
    have e1 : rd H 8 (.lst ((x :: r).map .int)) = some (.list (y :: r')) := by unfold rd; rw [h1]; rfl
    have e2 : rd H 8 (.lst []) = some (.list []) := rfl
    rw [eq_is e1 e2]; rfl
theorem e_int_b {mu b : Bool} : pBI mu .int [.bool b] = pure (.int (if b then 1 else 0)) := rfl
section
variable {G : AHeap} {st lb lsp lh lr : Nat} {k : AV} {xs : List Int} {hs : List Nat}
/-- the same lists of 'pile' -/
theorem sm_pile {H : AHeap} {a : AV} {pl : List AV} (ha : Sq H false a pl) (hq : ∀ q ∈ pl, Sq H false q [.str "pile"]) (hl : pl.length ≤ 60) : ∃ c, c < 100000 ∧ Sm H 5 c (a, .lst (List.replicate pl.length (.lst [.str "pile"]))) := by
  have one : ∀ q ∈ pl, Sm H 4 2 (q, .lst [.str "pile"]) := fun q hm => .inr ⟨false, [.str "pile"], [.str "pile"], 1, hq q hm, .inl rfl, rfl, rfl, 1, 0, rfl, Sm.lf (.inr (.inr (.inl ⟨_, rfl, by kernel_rfl⟩))) 3, rfl⟩
  have all : ∀ pl : List AV, (∀ q ∈ pl, Sm H 4 2 (q, .lst [.str "pile"])) → SmL (Sm H 4) (pl.length * 2) (pl.zip (List.replicate pl.length (.lst [.str "pile"]))) := fun pl => by
    induction pl with
    | nil => exact fun _ => rfl
    | cons q r ih => exact fun h => ⟨2, r.length * 2, by rw [List.length_cons]; omega, h q List.mem_cons_self, ih fun x hx => h x (List.mem_cons_of_mem _ hx)⟩
  exact ⟨pl.length * 2 + 1, by omega, .inr ⟨false, pl, _, pl.length * 2, ha, .inl rfl, (List.length_replicate ..).symm, rfl, all pl one⟩⟩
theorem sB14 (n : Nat) (T : T03 G st lb lsp lh lr k xs hs) (hl : xs.length ≤ 60) (hh : hs.length ≤ 60) (o1 o2 o3 o4 o5 o6 o7 o8 : Option AV) :
    Rn (tl P03 (callP P03 (n + 5)) "law" [] 14 26 [o1, o2, some (.lst (xs.map .int)), o3, o4, o5, o6, o7, some (.loc st), o8]) G (Fl (fun _ _ => False) fun r _ => r = .bool true) := by
  have hL := LIMis
  rw [c_law_t_14]
  refine .bind (.bind (.eachC ((s_places_of (n + 3) T hl hh).mono ?_)))
  rintro a H1 ⟨X, pl, rfl, h1, h2, h3⟩
  have hc : compLoop (.items (xs.map AV.int)) (fun (u1 : AV) => (do let y2 ← (newL false [.str "pile"]); pure (some y2) : M (Option AV))) FUEL 0 [] = pure ((xs.map AV.int).map fun (_ : AV) => AV.lst [.str "pile"]) := compM (fun (_ : AV) => AV.lst [.str "pile"]) (by rw [List.length_map]; omega) fun a _ => by rw [e_newL (by simp; omega)]; rfl
  rw [pure_bind, srcOf_lst, pure_bind, hc, pure_bind, e_newL (by simp; omega)]
  refine .eachP (.each0 ?_)
  have hr : (xs.map AV.int).map (fun _ => AV.lst [.str "pile"]) = List.replicate pl.length (.lst [.str "pile"]) := by rw [List.map_const', List.length_map, h2]
  rw [hr]
  obtain ⟨c, hc1, hc2⟩ := sm_pile h1 h3 (by omega)
  refine (s_like (n + 4) _ hc2 hc1).mono ?_
  rintro r H2 ⟨rfl, Y, rfl⟩
  exact .pure rfl
theorem sB13 (n : Nat) (T : T03 G st lb lsp lh lr k xs hs) (hl : xs.length ≤ 60) (hh : hs.length ≤ 60) (o1 o2 o3 o4 o5 o6 o7 o8 : Option AV) :
    Rn (tl P03 (callP P03 (n + 5)) "law" [] 13 27 [o1, o2, some (.lst (xs.map .int)), o3, o4, o5, o6, o7, some (.loc st), o8]) G (Fl (fun _ _ => False) fun r _ => r = .bool true) := by
  rw [c_law_t_13]
  have ne0 : ∀ H : AHeap, pCmp .NotEq (.lst []) (.lst []) H = some (.ok false, H) := fun H => by kernel_rfl
  have e1 : (do let v3 ← callP P03 (n + 5) "spare_of" [.loc st]; let c4 ← newL false []; pCmp .NotEq v3 c4 : M Bool) G = some (.ok false, G) := bind_of (s_spare_of (n + 4) T) (ne0 G)
  have e2 : (do let v3 ← callP P03 (n + 5) "rows_of" [.loc st]; let c4 ← newL false []; pCmp .NotEq v3 c4 : M Bool) G = some (.ok false, G) := bind_of (s_rows_of (n + 4) T) (ne0 G)
  refine .bof (bind_of e1 (bind_of e2 rfl)) ?_
  exact sB14 n T hl hh _ _ _ _ _ _ _ _
theorem sB12 (n : Nat) (T : T03 G st lb lsp lh lr k xs hs) (hl : xs.length ≤ 60) (hh : hs.length ≤ 60) (o1 o2 o3 o4 o5 o6 o7 o8 : Option AV) :
    Rn (tl P03 (callP P03 (n + 5)) "law" [] 12 28 [o1, o2, some (.lst (xs.map .int)), o3, o4, o5, o6, o7, some (.loc st), o8]) G (Fl (fun _ _ => False) fun r _ => r = .bool true) := by
  have hL := LIMis
  rw [c_law_t_12]
  simp only [eachM, pure_bind, bind_assoc, e_len_lst, e_range1]
  rw [srcOf_range (by omega) (by rw [List.length_map]; omega), pure_bind]
  refine .then (forI (fun i σ H3 => ∃ X o8, H3 = G ++ X ∧ σ = [o1, o2, some (.lst (xs.map .int)), o3, o4, o5, o6, o7, some (.loc st), o8]) (Q := fun r H3 => ∃ X o8, H3 = G ++ X ∧ r = .next [o1, o2, some (.lst (xs.map .int)), o3, o4, o5, o6, o7, some (.loc st), o8]) (by rw [rangeL_length, List.length_map]; omega) ⟨[], _, (List.append_nil _).symm, rfl⟩ ?_ ?_) ?_
  · rintro i a σ H3 ha ⟨X, o8, rfl, rfl⟩
    obtain ⟨rfl, hi⟩ := rangeL_at ha
    rw [List.length_map] at hi
    have hlt : i < xs.length := by omega
    have hv := List.getElem?_eq_getElem hlt
    have T' := T.app (X := X)
    rw [Int.zero_add, c_law_for_12]
    have hx : (xs.map AV.int)[i]? = some (.int xs[i]) := by rw [List.getElem?_map, hv]; rfl
    have hdec : decide ((i : Int) + 1 = ((xs.map AV.int).length : Int)) = decide (i + 1 = xs.length) := by rw [List.length_map, decide_eq_decide]; omega
    have hnx : pItem (.lst [.int ((i : Int) + 1), .none]) (.int (if decide (i + 1 = xs.length) then 1 else 0)) = pure (nxV xs.length (i + 1)) := by
      unfold nxV
      by_cases h : i + 1 = xs.length
      · rw [decide_eq_true h, if_pos h]; rfl
      · rw [decide_eq_false h, if_neg h]; rfl
    simp only [eachM, pure_bind, bind_assoc, m_add, e_newL (xs := [.int ((i : Int) + 1), .none]) (by simp; omega), e_len_lst, e_eqi, e_int_b, e_item_lst (k := i) hx, hdec, hnx]
    refine .bof (s_inside_of (n + 4) T' hv) ?_
    obtain ⟨c, hc1, hc2⟩ := sm_two (H := G ++ X) (x := .int xs[i]) (y := nxV xs.length (i + 1)) lf_int (lf_ix _) 4
    refine .then (s_like (n + 4) _ hc2 (by omega)) ?_
    rintro r H4 ⟨rfl, Y, rfl⟩
    exact .pure ⟨X ++ Y, _, by rw [List.append_assoc], rfl⟩
  · rintro σ H3 ⟨X, o8, rfl, rfl⟩
    exact ⟨X, o8, rfl, rfl⟩
  rintro r H3 ⟨X, o8, rfl, rfl⟩
  rw [e_go_next]
  exact sB13 n T.app hl hh _ _ _ _ _ _ _ _
end
end Mine


set_option autoImplicit false
set_option linter.unusedVariables false
set_option maxRecDepth 100000
namespace Mine
open PySem PyProof.Rows

theorem each2 {m1 m2 : M AV} {H H1 H2 : AHeap} {a b : AV} (h1 : m1 H = some (.ok a, H1)) (h2 : m2 H1 = some (.ok b, H2)) : eachM [m1, m2] H = some (.ok [a, b], H2) := bind_of h1 (bind_of (bind_of h2 rfl) rfl)
theorem test_of {ms : M (List AV)} {f : List AV → M AV} {H H1 H2 : AHeap} {vs : List AV} (h1 : ms H = some (.ok vs, H1)) (h2 : f vs H1 = some (.ok (.bool true), H2)) : (do let b6 ← (do let v13 ← (do let vs12 ← ms; f vs12); truth v13); pure (!b6) : M Bool) H = some (.ok false, H2) := bind_of (bind_of (bind_of h1 h2) rfl) rfl
theorem or_test {m1 m2 : M Bool} {H H1 H2 : AHeap} (h1 : m1 H = some (.ok false, H1)) (h2 : m2 H1 = some (.ok false, H2)) : (do let t5 ← m1; match t5 with | true => pure true | false => (do let t14 ← m2; match t14 with | true => pure true | false => pure false) : M Bool) H = some (.ok false, H2) := bind_of h1 (bind_of h2 rfl)
section
variable {G : AHeap} {st lb lsp lh lr a0 a1 : Nat} {k : AV} {xs : List Int} {hs : List Nat}
theorem sB9 (n : Nat) {u w r : List AV} (T : T03 G st lb lsp lh lr k xs hs) (hl : xs.length ≤ 60) (hh : hs.length ≤ 60) (ha : G[a0]? = some (.list u)) (hb : G[a1]? = some (.list w)) (hu : u.length ≤ 1000) (hw : w.length ≤ 1000) (h01 : a0 ≠ a1)
    (far : ∀ l, (l = st ∨ l = lb ∨ l = lsp ∨ l = lr ∨ l = lh ∨ l ∈ hs) → l ≠ a0 ∧ l ≠ a1) (o1 o2 o3 o4 o5 o6 o8 : Option AV) :
    Rn (tl P03 (callP P03 (n + 5)) "law" [] 9 31 [o1, o2, some (.lst (xs.map .int)), o3, o4, o5, o6, some (.lst [.loc a0, .lst (.loc a1 :: r)]), some (.loc st), o8]) G (Fl (fun _ _ => False) fun r _ => r = .bool true) := by
  have hL := LIMis
  rw [c_law_t_9]
  have i0 : pItem (.lst [.loc a0, .lst (.loc a1 :: r)]) (.int 0) = pure (.loc a0) := e_item_lst (k := 0) rfl
  have i1 : pItem (.lst [.loc a0, .lst (.loc a1 :: r)]) (.int 1) = pure (.lst (.loc a1 :: r)) := e_item_lst (k := 1) rfl
  have i2 : pItem (.lst (.loc a1 :: r)) (.int 0) = pure (.loc a1) := e_item_lst (k := 0) rfl
  rw [i0, pure_bind, i1, pure_bind, i2, pure_bind]
  have hb' : (G.set a0 (.list (u ++ [.int 5])))[a1]? = some (.list w) := by rw [List.getElem?_set_ne h01]; exact hb
  refine .bof (bind_of (listOf_loc ha) (append_loc ha (by omega))) (.bof (bind_of (listOf_loc hb') (append_loc hb' (by omega))) ?_)
  have T1 : T03 ((G.set a0 (.list (u ++ [.int 5]))).set a1 (.list (w ++ [.tup [.str "take"]]))) st lb lsp lh lr k xs hs := T.keep fun l o h e => by
    rw [List.getElem?_set_ne (Ne.symm (far l h).2), List.getElem?_set_ne (Ne.symm (far l h).1)]; exact e
  generalize (G.set a0 (.list (u ++ [.int 5]))).set a1 (.list (w ++ [.tup [.str "take"]])) = F at T1
  have hhd : pItem (.lst [.tup [.int 0, .int 0], .tup [.none, .int 0]]) (.int (if xs.isEmpty then 1 else 0)) = pure (.tup [hd0 xs, .int 0]) := by
    cases xs with
    | nil => rfl
    | cons x r => rfl
  have e1 : (do let x10 ← (newL false [.tup [.int 0, .int 0], .tup [.none, .int 0]]); let x11 ← (do let vs9 ← eachM [(do let b7 ← (do let c8 ← (newL false []); pCmp .Eq (.lst (xs.map .int)) c8); pure (.bool b7))]; pBI false .int vs9); pItem x10 x11 : M AV) F = some (.ok (.tup [hd0 xs, .int 0]), F) := by
    rw [e_newL (by simp; omega), pure_bind]
    refine bind_of (bind_of (bind_of (bind_of (eq_nil_lst xs F) rfl) rfl) (congrFun e_int_b F)) ?_
    rw [hhd]; rfl
  obtain ⟨c, hc1, hc2⟩ := sm_two (H := F) (x := hd0 xs) (y := .int 0) (lf_ix _) lf_int 4
  obtain ⟨c', hd1, hd2⟩ : ∃ c, c ≤ xs.length + 1 ∧ ∀ X, Sm (F ++ X) 5 c (.lst (xs.map .int), .lst (xs.map .int)) := ⟨_, Nat.le_refl _, fun X => by
    have := SmL.self (H := F ++ X) (n := 4) (C := 1) (xs := xs.map .int) fun x hx => by
      obtain ⟨i, _, rfl⟩ := List.mem_map.mp hx
      exact ⟨1, Nat.le_refl _, Sm.lf lf_int 4⟩
    have all : ∀ l : List Int, SmL (Sm (F ++ X) 4) l.length ((l.map AV.int).zip (l.map AV.int)) := fun l => by
      induction l with
      | nil => rfl
      | cons x r ih => exact ⟨1, r.length, by rw [List.length_cons, Nat.add_comm], Sm.lf lf_int 4, ih⟩
    exact .inr ⟨false, _, _, xs.length, .inl rfl, .inl rfl, rfl, rfl, all xs⟩⟩
  obtain ⟨_, _, hX, rfl, X, rfl⟩ := s_like (n + 4) F hc2 (by omega)
  obtain ⟨_, _, hY, rfl, Y, rfl⟩ := s_values_on (n + 3) (T1.app (X := X)) hl
  obtain ⟨_, _, hZ, rfl, Z, rfl⟩ := s_like (n + 4) (F ++ X ++ Y) (by rw [List.append_assoc]; exact hd2 (X ++ Y)) (by omega)
  have t5 : (do let b6 ← (do let v13 ← (do let vs12 ← eachM [(callP P03 (n + 5) "head_of" [.loc st]), (do let x10 ← (newL false [.tup [.int 0, .int 0], .tup [.none, .int 0]]); let x11 ← (do let vs9 ← eachM [(do let b7 ← (do let c8 ← (newL false []); pCmp .Eq (.lst (xs.map .int)) c8); pure (.bool b7))]; pBI false .int vs9); pItem x10 x11)]; callP P03 (n + 5) "_law_alike" vs12); truth v13); pure (!b6) : M Bool) F = some (.ok false, F ++ X) := by
    have v1 : eachM [(callP P03 (n + 5) "head_of" [.loc st]), (do let x10 ← (newL false [.tup [.int 0, .int 0], .tup [.none, .int 0]]); let x11 ← (do let vs9 ← eachM [(do let b7 ← (do let c8 ← (newL false []); pCmp .Eq (.lst (xs.map .int)) c8); pure (.bool b7))]; pBI false .int vs9); pItem x10 x11)] F = some (.ok [.tup [hd0 xs, .int 0], .tup [hd0 xs, .int 0]], F) := each2 (s_head_of (n + 4) T1) e1
    exact test_of v1 hX
  have t14 : (do let b15 ← (do let v17 ← (do let vs16 ← eachM [(callP P03 (n + 5) "values_on" [.loc st]), pure (.lst (xs.map .int))]; callP P03 (n + 5) "_law_alike" vs16); truth v17); pure (!b15) : M Bool) (F ++ X) = some (.ok false, F ++ X ++ Y ++ Z) := test_of (each2 hY rfl) hZ
  refine .bof (or_test t5 t14) ?_
  have T2 : T03 (F ++ X ++ Y ++ Z) st lb lsp lh lr k xs hs := T1.app.app.app
  have fin := sB12 n T2 hl hh o1 o2 o3 o4 o5 o6 (some (.lst [.loc a0, .lst (.loc a1 :: r)])) o8
  simp only [pure_bind, e_go_next]
  exact fin
end
end Mine


set_option autoImplicit false
set_option linter.unusedVariables false
set_option maxRecDepth 100000
namespace Mine
open PySem PyProof.Rows

theorem progX_none {H : AHeap} {pl : List AV} (few : pl.length ≤ 20) (h : ∀ q ∈ pl, (dsH H q).length ≤ 60 ∧ ∀ d ∈ dsH H q, Ask "is_deed" d true) : progX H pl = none := by
  unfold progX
  rw [decide_eq_false (by omega)]
  refine find_none fun q hq => ?_
  have := (h q hq).1
  rw [decide_eq_false (by omega)]
  exact find_none fun d hd => by rw [((h q hq).2 d hd).is]; rfl
theorem tow_T03 {G : AHeap} {k : AV} {xs : List Int} {pr : List (List AV)} : T03 (towH G k xs pr) (G.length + 1 + pr.length + 3) G.length (G.length + 1 + pr.length + 1) (G.length + 1 + pr.length) (G.length + 1 + pr.length + 2) k xs ((List.range pr.length).map fun j => G.length + 1 + j) := by
  have e : ∀ (Y : AHeap) (j : Nat), (G ++ ([AO.list ((bx0 xs).map bxV)] ++ pr.map handD ++ Y))[G.length + 1 + pr.length + j]? = Y[j]? := fun Y j => by
    rw [show G.length + 1 + pr.length + j = G.length + (1 + pr.length + j) from by omega, tail_at, List.getElem?_append_right (by simp; omega)]
    congr 1
    simp only [List.length_append, List.length_singleton, List.length_map]; omega
  unfold towH
  refine ⟨e _ 3, ?_, e _ 1, e _ 2, ?_, fun x hx => ?_⟩
  · exact tail_at 0
  · rw [List.map_map]; exact e _ 0
  · obtain ⟨j, hj, rfl⟩ := List.mem_map.mp hx
    rw [List.mem_range] at hj
    refine ⟨pr[j], ?_⟩
    rw [show G.length + 1 + j = G.length + (1 + j) from by omega, tail_at, List.getElem?_append_left (by simp; omega), List.getElem?_append_right (by simp), List.length_singleton, Nat.add_sub_cancel_left, List.getElem?_map, List.getElem?_eq_getElem hj]; rfl
theorem rd_sq {H : AHeap} {a : AV} {xs : List AV} (h : Sq H false a xs) (n : Nat) : rd H (n + 1) a = (xs.mapM (rd H n)).map .list := by
  rcases h with rfl | ⟨l, rfl, h⟩
  · unfold rd; rfl
  · unfold rd; simp only [h]
theorem mapM_congr2 {f : AV → Option PyData} : ∀ {xs ys : List AV}, xs.length = ys.length → (∀ (i : Nat) x y, xs[i]? = some x → ys[i]? = some y → f x = f y) → xs.mapM f = ys.mapM f
  | [], [], _, _ => rfl
  | x :: xs, y :: ys, hl, h => by
    rw [List.mapM_cons, List.mapM_cons, h 0 x y rfl rfl, mapM_congr2 (Nat.succ.inj hl) fun i a b ha hb => h (i + 1) a b ha hb]
  | [], _ :: _, h, _ => nomatch h
  | _ :: _, [], h, _ => nomatch h
theorem rd_deed {H : AHeap} (d : Deed) (n : Nat) : ∃ e, rd H (n + 1) (deedV d) = some e := by
  obtain ⟨k, v⟩ := d
  have s : ∀ {x : Str}, PyData.strOk x = true → rd H n (.str x) = some (.str x) := fun {x} h => by cases n <;> (unfold rd; rw [if_pos h])
  have two : ∀ {x : Str}, PyData.strOk x = true → ∃ e, rd H (n + 1) (.tup [.str x, .int v]) = some e := fun {x} h => ⟨.tuple [.str x, .int v], by unfold rd; simp only [List.mapM_cons, List.mapM_nil, s h, rd_int]; rfl⟩
  have one : ∀ {x : Str}, PyData.strOk x = true → ∃ e, rd H (n + 1) (.tup [.str x]) = some e := fun {x} h => ⟨.tuple [.str x], by unfold rd; simp only [List.mapM_cons, List.mapM_nil, s h]; rfl⟩
  cases k with
  | push => exact two (by kernel_rfl)
  | swap => exact two (by kernel_rfl)
  | pop => exact one (by kernel_rfl)
  | top => exact one (by kernel_rfl)
  | clear => exact one (by kernel_rfl)
structure B6 (H : AHeap) (lp : Nat) (pl : List AV) : Prop where
  at' : H[lp]? = some (.list pl)
  one : 1 ≤ pl.length
  few : pl.length ≤ 20
  ok : ∀ q ∈ pl, Sq H false q (dsH H q) ∧ (dsH H q).length ≤ 60 ∧ ∀ e ∈ dsH H q, ∃ d : Deed, e = deedV d
/-- the copies differ from what they are copies of in nothing -/
theorem same_copies {H' : AHeap} {a0 b0 p : AV} {vs locs pl : List AV} {dd : Nat → List AV} (ha : Sq H' false a0 vs) (hb : Sq H' false b0 vs) (hp : Sq H' false p pl) (hlen : locs.length = pl.length) (h1 : ∀ (i : Nat) q, locs[i]? = some q → Sq H' false q (dd i)) (h2 : ∀ (i : Nat) q, pl[i]? = some q → Sq H' false q (dd i))
    (hv : ∀ x ∈ vs, ∃ d, rd H' 6 x = some d) (hd : ∀ i, i < pl.length → ∀ x ∈ dd i, ∃ d, rd H' 5 x = some d) : pCmp .NotEq (.lst [a0, .lst locs]) (.lst [b0, p]) H' = some (.ok false, H') := by
  have e1 : rd H' 7 a0 = rd H' 7 b0 := (rd_sq ha 6).trans (rd_sq hb 6).symm
  have e2 : rd H' 7 (.lst locs) = rd H' 7 p := by
    rw [rd_sq (a := .lst locs) (.inl rfl) 6, rd_sq hp 6, mapM_congr2 hlen fun i x y hx hy => by rw [rd_sq (h1 i x hx) 5, rd_sq (h2 i y hy) 5]]
  obtain ⟨d1, g1⟩ := hb.rd (n := 6) hv
  obtain ⟨d2, g2⟩ := hp.rd (n := 6) fun q hq => by
    obtain ⟨i, hi⟩ := List.mem_iff_getElem?.mp hq
    exact (h2 i q hi).rd (n := 5) (hd i (List.getElem?_eq_some_iff.mp hi).1)
  have f1 : rd H' 8 (.lst [b0, p]) = some (.list [d1, d2]) := by rw [rd_sq (a := .lst [b0, p]) (.inl rfl) 7]; simp only [List.mapM_cons, List.mapM_nil, g1, g2]; rfl
  have f2 : rd H' 8 (.lst [a0, .lst locs]) = some (.list [d1, d2]) := by rw [rd_sq (a := .lst [a0, .lst locs]) (.inl rfl) 7]; simp only [List.mapM_cons, List.mapM_nil, e1, e2, g1, g2]; rfl
  exact bind_of (eq_same f2 f1) rfl
end Mine


set_option autoImplicit false
set_option linter.unusedVariables false
set_option maxRecDepth 100000
namespace Mine
open PySem PyProof.Rows

theorem list_sq {H : AHeap} {a : AV} {ds : List AV} (h : Sq H false a ds) (hl : ds.length ≤ LIM) : pBI true .list [a] H = some (.ok (.loc H.length), H ++ [.list ds]) := by
  have e := bind_of (f := newL true) h.seq.1 (newT hl)
  rcases h with rfl | ⟨l, rfl, h⟩ <;> exact e
/-- the heap with the copies -/
noncomputable def cpH (H : AHeap) (xs : List Int) (pl : List AV) : AHeap := H ++ ([.list (xs.map .int)] ++ pl.map fun q => .list (dsH H q))
noncomputable def cpL (H : AHeap) (pl : List AV) : List AV := (List.range pl.length).map fun j => .loc (H.length + 1 + j)
section
variable {H : AHeap} {xs : List Int} {pl : List AV} {lp : Nat}
theorem cpH_len : (cpH H xs pl).length = H.length + 1 + pl.length := by unfold cpH; simp only [List.length_append, List.length_singleton, List.length_map]; omega
theorem cpH_0 : (cpH H xs pl)[H.length]? = some (.list (xs.map .int)) := by unfold cpH; exact tail_at 0
theorem cpH_at {j : Nat} {q : AV} (h : pl[j]? = some q) : (cpH H xs pl)[H.length + 1 + j]? = some (.list (dsH H q)) := by
  unfold cpH
  rw [Nat.add_assoc, tail_at, List.getElem?_append_right (by simp), List.length_singleton, Nat.add_sub_cancel_left, List.getElem?_map, h]; rfl
theorem cpL_at {j : Nat} {q : AV} (h : (cpL H pl)[j]? = some q) : j < pl.length ∧ q = .loc (H.length + 1 + j) := by
  unfold cpL at h
  rw [List.getElem?_map, Option.map_eq_some_iff] at h
  obtain ⟨i, hi, rfl⟩ := h
  have hlt := (List.getElem?_eq_some_iff.mp hi).1
  rw [List.length_range] at hlt
  rw [List.getElem?_range hlt] at hi
  cases hi
  exact ⟨hlt, rfl⟩
theorem cpL_sq {X : AHeap} {j : Nat} {q r : AV} (h : (cpL H pl)[j]? = some q) (hr : pl[j]? = some r) : Sq (cpH H xs pl ++ X) false q (dsH H r) := by
  obtain ⟨_, rfl⟩ := cpL_at h
  exact Sq.app (.inr ⟨_, rfl, cpH_at hr⟩)
theorem cpL_len : (cpL H pl).length = pl.length := by unfold cpL; rw [List.length_map, List.length_range]
theorem sB6 (n : Nat) {k0 : AV} (B : B6 H lp pl) (hk0 : KT k0 false) (hl : xs.length ≤ 60) (o1 o2 o5 o6 o7 o8 o9 : Option AV) :
    Rn (tl P03 (callP P03 (n + 5)) "law" [] 6 34 [o1, o2, some (.lst (xs.map .int)), some (.loc lp), some k0, o5, o6, o7, o8, o9]) H (Fl (fun _ _ => False) fun r _ => r = .bool true) := by
  have hL := LIMis
  have hf := B.few
  have hone := B.one
  rw [c_law_t_6]
  have c1 : pBI true .list [.lst (xs.map .int)] H = some (.ok (.loc H.length), H ++ [.list (xs.map .int)]) := bind_of (f := newL true) rfl (newT (by rw [List.length_map]; omega))
  have c2 : (do let it3 ← pure (.loc lp); let src4 ← srcOf it3; let ys5 ← compLoop src4 (fun u1 => (do let y2 ← (pBI true .list [u1]); pure (some y2))) FUEL 0 []; newL false ys5 : M AV) (H ++ [.list (xs.map .int)]) = some (.ok (.lst (cpL H pl)), cpH H xs pl) := by
    rw [pure_bind]
    have hat : ∀ X : AHeap, (H ++ X)[lp]? = some (.list pl) := fun X => by rw [List.getElem?_append_left (List.getElem?_eq_some_iff.mp B.at').1]; exact B.at'
    obtain ⟨ys, H3, h1, ⟨h2, h3⟩, _⟩ := compA (H := H ++ [.list (xs.map .int)]) (src := .at lp) (body := fun u1 => (do let y2 ← (pBI true .list [u1]); pure (some y2))) pl (fun i acc H3 => H3 = H ++ ([.list (xs.map .int)] ++ (pl.take i).map fun q => .list (dsH H q)) ∧ acc = (List.range i).map fun j => .loc (H.length + 1 + j)) (by omega) (fun i acc H3 q => get_loc (by rw [q.1]; exact hat _)) ⟨rfl, rfl⟩ (by
      rintro i a acc H3 ha hacc ⟨rfl, rfl⟩
      have hm := B.ok a (List.mem_of_getElem? ha)
      refine .bof (list_sq hm.1.app (by omega)) (.pure ⟨_, rfl, ?_, ?_⟩)
      · rw [List.take_add_one, ha, List.map_append, List.append_assoc, List.append_assoc]; rfl
      · rw [List.range_succ, List.map_append]
        congr 1
        show [AV.loc _] = [AV.loc _]
        have := (List.getElem?_eq_some_iff.mp ha).1
        simp only [List.length_append, List.length_singleton, List.length_map, List.length_take, Nat.min_eq_left (Nat.le_of_lt this)]
        rw [Nat.add_assoc])
    refine bind_of (srcOf_loc (hat _)) (bind_of h1 ?_)
    rw [List.take_length] at h2
    subst h2; subst h3
    rw [e_newL (by rw [List.length_map, List.length_range]; omega)]; rfl
  have c3 : newL false [.loc H.length, .lst (cpL H pl)] = pure (.lst [.loc H.length, .lst (cpL H pl)]) := e_newL (by simp; omega)
  refine .bof (bind_of (each2 c1 c2) (congrFun c3 _)) ?_
  have i0 : pItem (.lst [.loc H.length, .lst (cpL H pl)]) (.int 0) = pure (.loc H.length) := e_item_lst (k := 0) rfl
  have i1 : pItem (.lst [.loc H.length, .lst (cpL H pl)]) (.int 1) = pure (.lst (cpL H pl)) := e_item_lst (k := 1) rfl
  simp only [eachM, pure_bind, bind_assoc, i0, i1]
  have sqs : Sq (cpH H xs pl) false (.loc H.length) (xs.map .int) := .inr ⟨_, rfl, cpH_0⟩
  have sqp : ∀ (i : Nat) q ds, (cpL H pl)[i]? = some q → (pl.map (dsH H))[i]? = some ds → Sq (cpH H xs pl) false q ds := fun i q ds h1 h2 => by
    rw [List.getElem?_map, Option.map_eq_some_iff] at h2
    obtain ⟨r, hr, rfl⟩ := h2
    have := cpL_sq (X := []) (xs := xs) h1 hr
    rwa [List.append_nil] at this
  have okd : ∀ q ∈ cpL H pl, ∃ r ∈ pl, Sq (cpH H xs pl) false q (dsH H r) := fun q hq => by
    obtain ⟨i, hi⟩ := List.mem_iff_getElem?.mp hq
    have hlt := (cpL_at hi).1
    refine ⟨pl[i], List.getElem_mem hlt, ?_⟩
    have := cpL_sq (X := []) (xs := xs) hi (List.getElem?_eq_getElem hlt)
    rwa [List.append_nil] at this
  have dok : ∀ r ∈ pl, ∀ d ∈ dsH H r, Ask "is_deed" d true := fun r hr d hd => by
    obtain ⟨e, rfl⟩ := (B.ok r hr).2.2 d hd
    exact ask_deed e
  have ps : PS (cpH H xs pl) (.lst (cpL H pl)) (cpL H pl) := ⟨.inl rfl, by rw [cpL_len]; omega, fun q hq => by
    obtain ⟨r, hr, h⟩ := okd q hq
    rw [h.ds]
    exact ⟨h, by have := (B.ok r hr).2.1; omega, fun d hd => ⟨_, dok r hr d hd⟩⟩⟩
  have hnp : progX (cpH H xs pl) (cpL H pl) = none := progX_none (by rw [cpL_len]; exact hf) fun q hq => by
    obtain ⟨r, hr, h⟩ := okd q hq
    rw [h.ds]
    exact ⟨(B.ok r hr).2.1, dok r hr⟩
  have need : callP P03 (n + 4) "need_all" [.loc H.length, .lst (cpL H pl), k0] (cpH H xs pl) = some (.ok .none, cpH H xs pl) := by
    have := s_need3 (n + 1) (start_ok hl).1 ps hk0 sqs
    rw [hnp, (start_ok hl).2] at this
    exact this
  obtain ⟨_, _, ht, rfl, rfl⟩ := s_tower (n + 4) need sqs (.inl rfl) hl (pr := pl.map (dsH H)) (by rw [cpL_len, List.length_map]) (by rw [List.length_map]; exact hf) sqp
  refine .bof ht ?_
  obtain ⟨Y, hY⟩ : ∃ Y, towH (cpH H xs pl) k0 xs (pl.map (dsH H)) = cpH H xs pl ++ Y := ⟨_, by unfold towH; rfl⟩
  have old : ∀ {q : AV} {ds : List AV}, Sq H false q ds → Sq (towH (cpH H xs pl) k0 xs (pl.map (dsH H))) false q ds := fun h => by
    rw [hY]; unfold cpH; exact h.app.app
  have hne : pCmp .NotEq (.lst [.loc H.length, .lst (cpL H pl)]) (.lst [.lst (xs.map .int), .loc lp]) (towH (cpH H xs pl) k0 xs (pl.map (dsH H))) = some (.ok false, towH (cpH H xs pl) k0 xs (pl.map (dsH H))) :=
    same_copies (vs := xs.map .int) (pl := pl) (dd := fun i => dsH H ((pl[i]?).getD .none)) (by rw [hY]; exact sqs.app) (.inl rfl) (old (.inr ⟨lp, rfl, B.at'⟩)) cpL_len
      (fun i q h => by rw [hY]; have hlt := (cpL_at h).1; rw [List.getElem?_eq_getElem hlt]; exact cpL_sq h (List.getElem?_eq_getElem hlt))
      (fun i q h => by rw [h]; exact old (B.ok q (List.mem_of_getElem? h)).1)
      (fun x hx => by obtain ⟨i, _, rfl⟩ := List.mem_map.mp hx; exact ⟨_, rd_int⟩)
      fun i hi x hx => by
        rw [List.getElem?_eq_getElem hi] at hx
        obtain ⟨d, rfl⟩ := (B.ok _ (List.getElem_mem hi)).2.2 x hx
        exact rd_deed d 4
  have c9 : newL false [.lst (xs.map .int), .loc lp] = pure (.lst [.lst (xs.map .int), .loc lp]) := e_newL (by simp; omega)
  rw [c9, pure_bind]
  refine .bof hne ?_
  simp only [pure_bind, e_go_next]
  obtain ⟨r, hr⟩ : ∃ r, cpL H pl = .loc (H.length + 1) :: r := by
    unfold cpL
    obtain ⟨m, hm⟩ : ∃ m, pl.length = m + 1 := ⟨pl.length - 1, by omega⟩
    rw [hm, List.range_succ_eq_map]
    exact ⟨_, rfl⟩
  rw [hr]
  have hcl := cpH_len (H := H) (xs := xs) (pl := pl)
  have hq0 : pl[0]? = some pl[0] := List.getElem?_eq_getElem (by omega)
  have hg0 : (towH (cpH H xs pl) k0 xs (pl.map (dsH H)))[H.length]? = some (.list (xs.map .int)) := by rw [hY, List.getElem?_append_left (by omega)]; exact cpH_0
  have hg1 : (towH (cpH H xs pl) k0 xs (pl.map (dsH H)))[H.length + 1]? = some (.list (dsH H pl[0])) := by rw [hY, List.getElem?_append_left (by omega)]; exact cpH_at (j := 0) hq0
  refine sB9 n (tow_T03 (G := cpH H xs pl) (k := k0) (xs := xs) (pr := pl.map (dsH H))) hl (by rw [List.length_map, List.length_range, List.length_map]; omega) hg0 hg1 (by rw [List.length_map]; omega) (by have := (B.ok _ (List.getElem_mem (show 0 < pl.length by omega))).2.1; omega) (by omega) (fun l h => ?_) _ _ _ _ _ _ _
  have : (cpH H xs pl).length ≤ l := by
    rcases h with rfl | rfl | rfl | rfl | rfl | h
    · omega
    · omega
    · omega
    · omega
    · omega
    · obtain ⟨j, _, rfl⟩ := List.mem_map.mp h; omega
  omega
end
end Mine


set_option autoImplicit false
set_option linter.unusedVariables false
set_option maxRecDepth 100000
namespace Mine
open PySem PyProof.Rows

theorem kinds3 (c : Int) : ∃ k, KT k false ∧ ∃ j : Nat, c.fmod 3 = j ∧ ([.str "marks", .str "bare", .str "new"] : List AV)[j]? = some k := by
  have h := fmod_lt c (b := 3) (by decide)
  obtain ⟨j, hm⟩ := Int.eq_ofNat_of_zero_le h.1
  have hj : j < 3 := by omega
  have all : All (fun k => KT k false) [.str "marks", .str "bare", .str "new"] := ⟨by unfold KT; kernel_rfl, by unfold KT; kernel_rfl, by unfold KT; kernel_rfl, trivial⟩
  have e := List.getElem?_eq_getElem (l := ([.str "marks", .str "bare", .str "new"] : List AV)) (i := j) hj
  exact ⟨_, all.at e, j, hm, e⟩
section
variable {H : AHeap} {lp : Nat} {PL : List Nat} {xs : List Int}
theorem pr_ds (h : PrOk H lp PL 24) {q : AV} (hq : q ∈ PL.map AV.loc) : ∃ p : List Deed, Sq H false q (p.map deedV) ∧ dsH H q = p.map deedV ∧ p.length ≤ 24 := by
  obtain ⟨x, hx, rfl⟩ := List.mem_map.mp hq
  obtain ⟨_, p, h1, h2⟩ := h.2 x hx
  have s : Sq H false (.loc x) (p.map deedV) := .inr ⟨x, rfl, h1⟩
  exact ⟨p, s, s.ds, h2⟩
theorem pr_gp (h : PrOk H lp PL 24) (hm : PL.length ≤ 20) : GP H (.loc lp) (PL.map .loc) where
  sq := .inr ⟨lp, rfl, h.1⟩
  len := by rw [List.length_map]; omega
  ok := fun q hq => by
    obtain ⟨p, h1, h2, h3⟩ := pr_ds h hq
    rw [h2]
    refine ⟨h1, by rw [List.length_map]; omega, fun d hd => ?_⟩
    obtain ⟨e, _, rfl⟩ := List.mem_map.mp hd
    exact ⟨_, ask_deed e⟩
  few := by rw [List.length_map]; exact hm
  short := fun q hq => by
    obtain ⟨p, h1, h2, h3⟩ := pr_ds h hq
    rw [h2, List.length_map]; omega
  deeds := fun q hq d hd => by
    obtain ⟨p, h1, h2, h3⟩ := pr_ds h hq
    rw [h2] at hd
    obtain ⟨e, _, rfl⟩ := List.mem_map.mp hd
    exact ask_deed e
theorem pr_b6 (h : PrOk H lp PL 24) (h1 : 1 ≤ PL.length) (hm : PL.length ≤ 20) : B6 H lp (PL.map .loc) where
  at' := h.1
  one := by rw [List.length_map]; exact h1
  few := by rw [List.length_map]; exact hm
  ok := fun q hq => by
    obtain ⟨p, h1, h2, h3⟩ := pr_ds h hq
    rw [h2]
    refine ⟨h1, by rw [List.length_map]; omega, fun d hd => ?_⟩
    obtain ⟨e, _, rfl⟩ := List.mem_map.mp hd
    exact ⟨e, rfl⟩
theorem sB5 (n : Nat) {k0 : AV} {c : Int} {script : AV} (hc : callP P03 (n + 5) "_law_cell_at" [script, .int 1] = pure (.int c)) (h : PrOk H lp PL 24) (h1 : 1 ≤ PL.length) (hm : PL.length ≤ 20) (hk0 : KT k0 false) (hl : xs.length ≤ 60) (o2 o5 o6 o7 o8 o9 : Option AV) :
    Rn (tl P03 (callP P03 (n + 5)) "law" [] 5 35 [some script, o2, some (.lst (xs.map .int)), some (.loc lp), some k0, o5, o6, o7, o8, o9]) H (Fl (fun _ _ => False) fun r _ => r = .bool true) := by
  have hL := LIMis
  rw [c_law_t_5, hc, pure_bind, m_div (by decide), pure_bind, m_mod (by decide), pure_bind, e_eqi, pure_bind]
  generalize decide ((c.fdiv 6).fmod 4 = 1) = b
  cases b with
  | false =>
    have := sB6 n (pr_b6 h h1 hm) hk0 hl (some script) o2 o5 o6 o7 o8 o9
    simp only [pure_bind, e_go_next]
    exact this
  | true =>
    obtain ⟨q0, hq0⟩ : ∃ q0, PL[0]? = some q0 := ⟨PL[0], List.getElem?_eq_getElem (by omega)⟩
    have hm0 : AV.loc q0 ∈ PL.map AV.loc := List.mem_map_of_mem (List.mem_of_getElem? hq0)
    obtain ⟨p, s1, s2, s3⟩ := pr_ds h hm0
    have i0 : pItem (.loc lp) (.int 0) H = some (.ok (.loc q0), H) := item_loc (k := 0) h.1 (by rw [List.getElem?_map, hq0]; rfl)
    have m60 : pBin false .Mult (.lst [.tup [.str "pop"]]) (.int 60) = pure (.lst (List.replicate 60 (.tup [.str "pop"]))) := mul_lst (n := 60) (by omega)
    have hw : cut (p.map deedV ++ List.replicate 60 (AV.tup [.str "pop"])) none (some 60) = ((p ++ List.replicate 60 (⟨.pop, 0⟩ : Deed)).map deedV).take 60 := by
      rw [show (60 : Int) = ((60 : Nat) : Int) from rfl, cut_take (by simp), List.map_append, List.map_replicate]; rfl
    have st : pStore (.loc lp) (.int 0) (.lst (((p ++ List.replicate 60 (⟨.pop, 0⟩ : Deed)).map deedV).take 60)) H = some (.ok (), H.set lp (.list ((PL.map .loc).set 0 (.lst (((p ++ List.replicate 60 (⟨.pop, 0⟩ : Deed)).map deedV).take 60))))) := by
      exact lStore (i := 0) h.1 (by rw [List.length_map]; omega)
    simp only [pure_bind, bind_assoc, e_newL (xs := [.tup [.str "pop"]]) (by simp; omega), m60]
    refine .bof i0 (.bof (add_sq s1 (.inl rfl) (by simp; omega)) (.bof (slice_sq (a := .lst _) (.inl rfl) (by simp; omega)) ?_))
    rw [hw]
    refine .bof st ?_
    have hlt : lp < H.length := (List.getElem?_eq_some_iff.mp h.1).1
    have B : B6 (H.set lp (.list ((PL.map .loc).set 0 (.lst (((p ++ List.replicate 60 (⟨.pop, 0⟩ : Deed)).map deedV).take 60))))) lp ((PL.map .loc).set 0 (.lst (((p ++ List.replicate 60 (⟨.pop, 0⟩ : Deed)).map deedV).take 60))) := by
      refine ⟨List.getElem?_set_self hlt, by rw [List.length_set, List.length_map]; exact h1, by rw [List.length_set, List.length_map]; exact hm, fun q hq => ?_⟩
      rcases List.mem_or_eq_of_mem_set hq with hq | rfl
      · obtain ⟨x, hx, rfl⟩ := List.mem_map.mp hq
        obtain ⟨hne, p', g1, g2⟩ := h.2 x hx
        have s : Sq (H.set lp (.list ((PL.map .loc).set 0 (.lst (((p ++ List.replicate 60 (⟨.pop, 0⟩ : Deed)).map deedV).take 60))))) false (.loc x) (p'.map deedV) := .inr ⟨x, rfl, by rw [List.getElem?_set_ne (Ne.symm hne)]; exact g1⟩
        rw [s.ds]
        exact ⟨s, by rw [List.length_map]; omega, fun e he => by obtain ⟨d, _, rfl⟩ := List.mem_map.mp he; exact ⟨d, rfl⟩⟩
      · refine ⟨.inl rfl, ?_, fun e he => ?_⟩
        · show (((p ++ List.replicate 60 (⟨.pop, 0⟩ : Deed)).map deedV).take 60).length ≤ 60
          rw [List.length_take]; omega
        · have he : e ∈ ((p ++ List.replicate 60 (⟨.pop, 0⟩ : Deed)).map deedV).take 60 := he
          obtain ⟨d, _, rfl⟩ := List.mem_map.mp (List.mem_of_mem_take he)
          exact ⟨d, rfl⟩
    rw [e_go_next]
    exact sB6 n B hk0 hl _ _ _ _ _ _ _
end
end Mine


set_option autoImplicit false
set_option linter.unusedVariables false
set_option maxRecDepth 100000
namespace Mine
open PySem PyProof.Rows

/-- the two refusals -/
theorem s_refs (n : Nat) {H : AHeap} {due : Int} {s p k : AV} (h : ∀ (b : Bool) X, ∃ Y, callP P03 (n + 6) "_law_refusal" [s, p, k, .bool b] (H ++ X) = some (.ok (.lst [.int due]), H ++ X ++ Y)) :
    ∃ X, compLoop (.items [.bool false, .bool true]) (fun u14 => (do let y15 ← callP P03 (n + 6) "_law_refusal" [s, p, k, u14]; pure (some y15) : M (Option AV))) FUEL 0 [] H = some (.ok [.lst [.int due], .lst [.int due]], H ++ X) := by
  obtain ⟨ys, H3, h1, ⟨⟨X, h2⟩, h3⟩, _⟩ := compA (H := H) (src := .items [.bool false, .bool true]) (body := fun u14 => (do let y15 ← callP P03 (n + 6) "_law_refusal" [s, p, k, u14]; pure (some y15))) [.bool false, .bool true] (fun i acc H3 => (∃ X, H3 = H ++ X) ∧ acc = List.replicate i (.lst [.int due])) (by decide) (fun i acc H3 q => rfl) ⟨⟨[], (List.append_nil _).symm⟩, rfl⟩ (by
    rintro i a acc H3 ha hacc ⟨⟨X, rfl⟩, rfl⟩
    obtain ⟨b, rfl⟩ : ∃ b, a = .bool b := by
      match i, ha with
      | 0, ha => cases ha; exact ⟨_, rfl⟩
      | 1, ha => cases ha; exact ⟨_, rfl⟩
    obtain ⟨Y, e⟩ := h b X
    exact .bof e (.pure ⟨_, rfl, ⟨X ++ Y, by rw [List.append_assoc]⟩, by rw [List.replicate_succ']⟩))
  subst h2; subst h3
  exact ⟨X, h1⟩
theorem s_law (ns : List Int) (hn : ns.length ≤ 63) : ∃ a H', callP P03 12 "law" [.lst (ns.map .int)] [] = some (.ok a, H') ∧ a = .bool true := by
  suffices h : Rn (callP P03 12 "law" [.lst (ns.map .int)]) [] fun r _ => r = .bool true by
    obtain ⟨a, H', h1, h2⟩ := h
    exact ⟨a, H', h1, h2⟩
  refine callRn (σ := [some (.lst (ns.map .int)), none, none, none, none, none, none, none, none, none]) (by kernel_rfl) (by kernel_rfl) (by kernel_rfl) ?_
  refine Rn.mono (R := Fl (fun _ _ => False) fun r _ => r = .bool true) ?_ fun r H' q => by cases r with | next _ => exact q.elim | ret a => exact q
  have hL := LIMis
  obtain ⟨m, hm1, hm2, hh⟩ := s_hands_by 10 (cellAt ns 2)
  obtain ⟨xs, hl, hs⟩ := s_start_by 9 (cellAt ns 0)
  have c0 : callP P03 11 "_law_cell_at" [.lst (ns.map .int), .int 0] = pure (.int (cellAt ns 0)) := s_cell_at 9 ns 0
  have c1 : callP P03 11 "_law_cell_at" [.lst (ns.map .int), .int 1] = pure (.int (cellAt ns 1)) := s_cell_at 9 ns 1
  have c2 : callP P03 11 "_law_cell_at" [.lst (ns.map .int), .int 2] = pure (.int (cellAt ns 2)) := s_cell_at 9 ns 2
  obtain ⟨_, H, hp, lp, PL, rfl, hpr, hpl, _⟩ := s_programs 8 ns hn m ⟨hm1, hm2⟩ []
  obtain ⟨k0, hk0, j, hj, hjk⟩ := kinds3 (cellAt ns 1)
  rw [c_law_0]
  simp only [eachM, pure_bind, bind_assoc, c0, c1, c2, hh, hs]
  refine .bof hp ?_
  rw [e_newL (by simp; omega), pure_bind, m_mod (by decide), pure_bind, hj, e_item_lst (k := j) hjk, pure_bind, m_div (by decide), pure_bind, m_mod (by decide), pure_bind, e_eqi, pure_bind]
  generalize decide (((cellAt ns 1).fdiv 3).fmod 2 = 1) = b
  cases b with
  | false =>
    have := sB5 (xs := xs) 6 (script := .lst (ns.map .int)) c1 hpr (by omega) (by omega) hk0 hl (some (.int m)) none none none none none
    exact this
  | true =>
    have gp := pr_gp hpr (by omega)
    obtain ⟨_, _, h1, rfl, vs, pl, kb, p, k, rfl, q1, q2, q3, q4⟩ := s_spoilt (c := (cellAt ns 1).fdiv 6) 10 hk0 hl gp (by rw [List.length_map]; omega)
    obtain ⟨X, hX⟩ := s_refs 5 (s := .lst vs) (p := p) (k := k) (s_refusal 5 hl gp hk0 q1 q2 q3 q4)
    generalize dueOf _ = due at h1 hX
    rw [m_div (by decide), pure_bind]
    refine .bof h1 ?_
    have t0 : pItem (.tup [.lst vs, p, k, .int due]) (.int 0) = pure (.lst vs) := e_item_tup (k := 0) rfl
    have t1 : pItem (.tup [.lst vs, p, k, .int due]) (.int 1) = pure p := e_item_tup (k := 1) rfl
    have t2 : pItem (.tup [.lst vs, p, k, .int due]) (.int 2) = pure k := e_item_tup (k := 2) rfl
    have t3 : pItem (.tup [.lst vs, p, k, .int due]) (.int 3) = pure (.int due) := e_item_tup (k := 3) rfl
    simp only [t0, t1, t2, t3, pure_bind, e_newL (xs := [.bool false, .bool true]) (by simp; omega), srcOf_lst, e_newL (xs := [.int due]) (by simp; omega), e_newL (xs := [.lst [.int due], .lst [.int due]]) (by simp; omega)]
    refine .bof hX ?_
    simp only [pure_bind, e_newL (xs := [.lst [.int due], .lst [.int due]]) (by simp; omega)]
    refine .bof eq_dd ?_
    exact .pure rfl
end Mine


open PySem PySem.W PyProof.Rows
set_option Elab.async false
set_option maxRecDepth 100000
set_option maxHeartbeats 8000000
namespace Mine
noncomputable def t03_KINDS : List (Str × Tok) := [("marks", 305), ("bare", 306), ("new", 307)]
noncomputable def t03_FIRST : List (Str × Tok × Str × Tok) := [("push", 393, "take", 394), ("swap", 395, "take", 396), ("pop", 397, "look", 398), ("top", 399, "look", 400), ("clear", 401, "look", 402)]
noncomputable def t03_BEHIND_LOOK : List (Str × Tok × Str × Tok) := [("push", 409, "put", 410), ("swap", 411, "see", 412), ("pop", 413, "see", 414), ("top", 415, "see", 416), ("clear", 417, "put", 418)]
noncomputable def t03_BEHIND_SEE : List (Str × Tok × Str × Tok) := [("swap", 425, "put", 426), ("pop", 427, "put", 428), ("top", 429, "check", 430)]
noncomputable def D03 : Tbl := [("KINDS", 102, tObj t03_KINDS), ("FIRST", 167, dObj t03_FIRST 5), ("BEHIND_LOOK", 168, dObj t03_BEHIND_LOOK 5), ("BEHIND_SEE", 169, dObj t03_BEHIND_SEE 3)]
noncomputable def cl03 : List (Str × List Str) := [("TowerError", []), ("NoKind", ["TowerError"]), ("NoValue", ["TowerError"]), ("NoDeed", ["TowerError"]), ("NoHand", ["TowerError"]), ("TooMany", ["TowerError"])]
noncomputable def q03 : Program := viewOf PySem.Challenge.pw_uf020017_03
noncomputable def loose03 : List Str := ["FIRST", "BEHIND_LOOK", "BEHIND_SEE"]
noncomputable def top03 (w : World) : Prop := (openEnds treeTable PySem.Challenge.pw_uf020017_03 w 6000).map (fun s => (openSeen q03 loose03 (importedModules PySem.Challenge.pw_uf020017_03.main.body) (fun s => xlAt q03 [] s && recOk (RowW.records PySem.Challenge.rw_uf020017_03.row.toRowW) s && tblX D03 s && clsOk cl03 s.heap) true s, tblF D03 s)) = some (openGood q03 loose03, tblA D03 w)
theorem left03a (w : World) : top03 (w.withFollow "special-get-raises" false) := by
  unfold top03 openEnds fencedOpening topFrom
  rw [PySem.W.Fast.te10274390034422433532, PySem.W.Fast.te14082659384304107361, PySem.W.Fast.te4187177175401517315, PySem.W.Fast.te14364793385576792824, PySem.W.Fast.te1435165496053646825, PySem.W.Fast.te14289696077712309145, PySem.W.Fast.te5923862056798008813]
  kernel_rfl
theorem left03b (w : World) : top03 (w.withFollow "special-get-raises" true) := by
  unfold top03 openEnds fencedOpening topFrom
  rw [PySem.W.Fast.te10274390034422433532, PySem.W.Fast.te14082659384304107361, PySem.W.Fast.te4187177175401517315, PySem.W.Fast.te14364793385576792824, PySem.W.Fast.te1435165496053646825, PySem.W.Fast.te14289696077712309145, PySem.W.Fast.te5923862056798008813]
  kernel_rfl
theorem left03 : LeftO PySem.Challenge.rw_uf020017_03.row.prog q03 loose03 (fun s => xlAt q03 [] s && recOk (RowW.records PySem.Challenge.rw_uf020017_03.row.toRowW) s && tblX D03 s && clsOk cl03 s.heap) (tblF D03) (tblA D03) 6000 :=
  byRow2 (P := top03) "special-get-raises" left03a left03b
theorem said03 : PySem.Challenge.rw_uf020017_03.wellSaid = true := by
  rw [PySem.W.Fast.te9446332074065402090]
  kernel_rfl
theorem promised03 : PySem.Challenge.rw_uf020017_03.row.toRowW.promised := by
  w_witness2
theorem glob03 (w : World) (mean : ExcName → Option Value) (mg mb : Str → Option Value) (h : Heap) (os : OsState) (X : tblXP D03 mg) (Y : tblP D03 w h) (T : Top q03 (looseW q03 loose03) mean mg mb h) (x : Str) (a : AV) (hg : P03.glob x = some a) :
    Gl ⟨PySem.Challenge.rw_uf020017_03.prog, w, h, os, mg, mb, [], none⟩ x a := by
  exact AllG.look (Q := Gl ⟨PySem.Challenge.rw_uf020017_03.prog, w, h, os, mg, mb, [], none⟩) (l := [("KINDS", g_KINDS), ("MOST_VALUES", g_MOST_VALUES), ("MOST_PROGRAMS", g_MOST_PROGRAMS), ("MOST_DEEDS", g_MOST_DEEDS), ("FIRST", g_FIRST), ("BEHIND_LOOK", g_BEHIND_LOOK), ("BEHIND_SEE", g_BEHIND_SEE), ("MOST_STEPS", g_MOST_STEPS)]) ⟨gl_tup (cx := ⟨PySem.Challenge.rw_uf020017_03.prog, w, h, os, mg, mb, [], none⟩) X Y (es := t03_KINDS) (a := 102) (.head _) (by kernel_rfl), gl_int (cx := ⟨PySem.Challenge.rw_uf020017_03.prog, w, h, os, mg, mb, [], none⟩) T (i := 60) (by kernel_rfl), gl_int (cx := ⟨PySem.Challenge.rw_uf020017_03.prog, w, h, os, mg, mb, [], none⟩) T (i := 20) (by kernel_rfl), gl_int (cx := ⟨PySem.Challenge.rw_uf020017_03.prog, w, h, os, mg, mb, [], none⟩) T (i := 60) (by kernel_rfl), gl_dict (cx := ⟨PySem.Challenge.rw_uf020017_03.prog, w, h, os, mg, mb, [], none⟩) X Y (es := t03_FIRST) (a := 167) (n := 5) (.tail _ (.head _)) (by decide), gl_dict (cx := ⟨PySem.Challenge.rw_uf020017_03.prog, w, h, os, mg, mb, [], none⟩) X Y (es := t03_BEHIND_LOOK) (a := 168) (n := 5) (.tail _ (.tail _ (.head _))) (by decide), gl_dict (cx := ⟨PySem.Challenge.rw_uf020017_03.prog, w, h, os, mg, mb, [], none⟩) X Y (es := t03_BEHIND_SEE) (a := 169) (n := 3) (.tail _ (.tail _ (.tail _ (.head _)))) (by decide), gl_int (cx := ⟨PySem.Challenge.rw_uf020017_03.prog, w, h, os, mg, mb, [], none⟩) T (i := 2000) (by kernel_rfl), trivial⟩ hg
end Mine
theorem PySem.Challenge.cw_uf020017_03_holds : PySem.Challenge.rw_uf020017_03.Holds := by
  refine Mine.head_law (q := Mine.q03) (loose := Mine.loose03) (D := Mine.D03) (P := Mine.P03) (n := 12) Mine.said03 Mine.left03 (by kernel_rfl) (by kernel_rfl) (by kernel_rfl) (by kernel_rfl) (by kernel_rfl) ⟨rfl, rfl, rfl, rfl, rfl, by decide +kernel⟩ Mine.promised03 rfl rfl (by kernel_rfl) (Mine.defs_ok (by kernel_rfl) (by kernel_rfl)) (by kernel_rfl) (by decide) (cl := Mine.cl03) rfl
    Mine.glob03 (fun ns hl => ?_)
  obtain ⟨a, H', h, rfl⟩ := Mine.s_law ns hl
  exact ⟨H', h⟩

