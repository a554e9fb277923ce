import PyProof.Rows.All
import PyProof.P3Statements
import PyProof.Claim2
import PyProof.TableCode
import PyProof.Defs
import PyProof.Rows.Top
import PyProof.Rows.CellsFrame
import PyProof.ListOps
import PyProof.TupleOps
import PyProof.P3In
import PyProof.DictTable
import PyProof.RangeFor
import PyProof.SliceMore
import PyProof.Rows.RuleB_mul
import PyProof.Rows.RuleB_floordiv
import PyProof.Rows.RuleB_mod
import PyProof.Rows.RuleB_sub
import PyProof.Rows.RuleB_small
import PyProof.Rows.RuleU_int
import PyProof.Rows.IntRules
import PyProof.Rows.ListMul
import PyProof.Rows.ListMulArg
import PyProof.NeData
import PyProof.IsiPairs
import PyProof.IsiNone
import PyProof.IsiSeqPairs
import PyProof.IsiTupleAll
import PyProof.IsiTupleOf
import PyProof.ListIndexNeg
import PyProof.DictRoads
import PyProof.ListRange
import PyProof.TupleOfSeq
import PyProof.ListCopy
import PyProof.Rows.IntOr
import PyProof.Rows.RuleC_int
import PyProof.DictStraight
import PyProof.WalkInts
import PyProof.ConsumeWalk
import PyProof.Conv_int_bool
import PyProof.Rows.TupMore
import PyProof.DictCopy
import PyProof.LetGo
import KE.KRevSl
import KE.KDictOf
import PyProof.Rows.Chain
import PyProof.Rows.TupSub
import PyProof.Rows.SeqSlice
import PyProof.CompFree
import PyProof.TupleIter
import PyProof.EnumMake
import PyProof.EnumStmt
import PyProof.Rows.Exc
import PyProof.ZipIter
import PyProof.CollectWalk
import PyProof.ListNew
import PyProof.Rows.ZipGen
import Wide.All
import OpenK.AllK
import Wide.FinOn
import PySem.Challenge.RW_uf020017_16
set_option Elab.async false
set_option autoImplicit false
set_option linter.unusedVariables false
namespace Mine
open PySem PyProof.Rows

/-- abstract values: what a Python value is, with lists either frozen (lst) or on the abstract heap (loc) -/
inductive AV where
  | none
  | bool (b : Bool)
  | int (i : Int)
  | str (s : Str)
  | tup (xs : List AV)
  | lst (xs : List AV)
  | loc (l : Nat)
  | range (a b : Int)
  | cdict (es : List (Str × Str))

inductive AO where
  | list (xs : List AV)
  | dict (es : List (Str × AV))

abbrev AHeap := List AO

/-- the most items a list may have here -/
noncomputable def LIM : Nat := 2 ^ 20

/-- runs on the abstract heap; .error c: an exception of the text's class c is raised; none: not covered -/
abbrev M := ExceptT Str (StateT AHeap Option)
noncomputable def stuck {α : Type} : M α := fun _ => none

/-- turns that a loop may do here -/
noncomputable def FUEL : Nat := 100000

/-- the pure datum that a value reads as, with n levels -/
noncomputable def rd (H : AHeap) : Nat → AV → Option PyData
  | _, .none => some .none
  | _, .bool b => some (.bool b)
  | _, .int i => some (.int i)
  | _, .str x => if PyData.strOk x then some (.str x) else none
  | n + 1, .tup xs => (xs.mapM (rd H n)).map .tuple
  | n + 1, .lst xs => (xs.mapM (rd H n)).map .list
  | n + 1, .loc l => match H[l]? with
    | some (.list xs) => (xs.mapM (rd H n)).map .list
    | _ => none
  | _, _ => none

/-- the object at l -/
noncomputable def objAt (l : Nat) : M AO := fun H => match H[l]? with
  | some o => some (.ok o, H)
  | none => none
noncomputable def asList : AO → M (List AV)
  | .list xs => pure xs
  | .dict _ => stuck
noncomputable def asDict : AO → M (List (Str × AV))
  | .list _ => stuck
  | .dict es => pure es
noncomputable def setAt (l : Nat) (o : AO) : M Unit := fun H => some (.ok (), H.set l o)
noncomputable def listAt (l : Nat) : M (List AV) := do asList (← objAt l)
noncomputable def dictAt (l : Nat) : M (List (Str × AV)) := do asDict (← objAt l)
noncomputable def listOf : AV → M (List AV)
  | .lst xs => pure xs
  | .loc l => listAt l
  | _ => stuck
noncomputable def seqOf : AV → M (List AV)
  | .tup xs => pure xs
  | .lst xs => pure xs
  | .loc l => listAt l
  | _ => stuck
noncomputable def newO (o : AO) : M AV := fun H => some (.ok (.loc H.length), H ++ [o])
noncomputable def newL (mu : Bool) (xs : List AV) : M AV := if xs.length ≤ LIM then (match mu with
    | true => newO (.list xs)
    | false => pure (.lst xs)) else stuck
noncomputable def newD (es : List (Str × AV)) : M AV := newO (.dict es)

noncomputable def truth : AV → M Bool
  | .bool b => pure b
  | _ => stuck

noncomputable def isL : AV → Bool
  | .lst _ | .loc _ => true
  | _ => false
noncomputable def isTp : AV → Bool
  | .tup _ => true
  | _ => false

noncomputable def asI (v : AV) : Option Int := match v with
  | .int i => some i
  | _ => none
noncomputable def int2 (a b : AV) (f : Int → Int → M AV) : M AV := match asI a with
  | some i => match asI b with
    | some j => f i j
    | none => stuck
  | none => stuck
noncomputable def addTup (xs : List AV) (b : AV) : M AV := match b with
  | .tup ys => if xs.isEmpty || ys.isEmpty || decide (LIM < xs.length + ys.length) then stuck else pure (.tup (xs ++ ys))
  | _ => stuck
noncomputable def addSeq (mu : Bool) (a b : AV) : M AV := match a with
  | .tup xs => addTup xs b
  | a => do
    let xs ← listOf a
    let ys ← listOf b
    newL mu (xs ++ ys)
noncomputable def bAdd (mu : Bool) (a b : AV) : M AV := match asI a with
  | some i => match asI b with
    | some j => pure (.int (i + j))
    | none => stuck
  | none => addSeq mu a b
noncomputable def bMul (mu : Bool) (a b : AV) : M AV := match asI b with
  | some n => match asI a with
    | some i => if n.natAbs < 2 ^ 64 ∨ i.natAbs < 2 ^ 64 then pure (.int (i * n)) else stuck
    | none => do
      let xs ← listOf a
      if n < 0 ∨ 1048576 < n ∨ LIM < n.toNat * xs.length then stuck else newL mu (List.replicate n.toNat xs).flatten
  | none => stuck
noncomputable def pBin (mu : Bool) (op : Operator) (a b : AV) : M AV := match op with
  | .Add => bAdd mu a b
  | .Sub => int2 a b fun i j => pure (.int (i - j))
  | .Mult => bMul mu a b
  | .FloorDiv => int2 a b fun i j => if j = 0 ∨ 1073741824 ≤ j.natAbs then stuck else pure (.int (i.fdiv j))
  | .Mod => int2 a b fun i j => if j = 0 then stuck else pure (.int (i.fmod j))
  | .Pow => int2 a b fun i j => if i = 10 ∧ j = 20 then pure (.int 100000000000000000000) else stuck
  | _ => stuck

noncomputable def pNeg : AV → M AV
  | .int i => pure (.int (-i))
  | _ => stuck

noncomputable def cmpI (op : CmpOp) (i j : Int) : M Bool := match op with
  | .Lt => pure (decide (i < j))
  | .LtE => pure (decide (i ≤ j))
  | .Gt => pure (decide (j < i))
  | .GtE => pure (decide (j ≤ i))
  | _ => stuck
/-- the pure datum that a reads as -/
noncomputable def rdM (a : AV) : M PyData := fun H => match rd H 8 a with
  | some d => some (.ok d, H)
  | none => none
noncomputable def itemsD : PyData → M (List PyData)
  | .list ys => pure ys
  | .tuple ys => pure ys
  | _ => stuck
noncomputable def pEq (a b : AV) : M Bool := do
  let x ← rdM a
  let y ← rdM b
  pure (PyData.eqv x y)
noncomputable def pIn (a b : AV) : M Bool := do
  let x ← rdM a
  let y ← rdM b
  let ys ← itemsD y
  pure (ys.any fun y => PyData.eqv y x)
noncomputable def pIsNone : AV → Bool
  | .none => true
  | _ => false
noncomputable def pCmp (op : CmpOp) (a b : AV) : M Bool := match op with
  | .Eq => pEq a b
  | .NotEq => do let r ← pEq a b; pure (!r)
  | .In => pIn a b
  | .NotIn => do let r ← pIn a b; pure (!r)
  | .Is => match b with
    | .none => pure (pIsNone a)
    | _ => stuck
  | .IsNot => match b with
    | .none => pure (!pIsNone a)
    | _ => stuck
  | op => match asI a with
    | some i => match asI b with
      | some j => cmpI op i j
      | none => stuck
    | none => stuck

/-- the place of an index, from the end if it is below nought -/
noncomputable def idx (k : Int) (n : Nat) : Option Nat := if 0 ≤ k then (if k < n then some k.toNat else none) else (if -k ≤ n then some (k + n).toNat else none)

noncomputable def look {α : Type} (es : List (Str × α)) (k : Str) : Option α := (es.find? fun e => e.1 = k).map (·.2)
noncomputable def put (es : List (Str × AV)) (k : Str) (v : AV) : List (Str × AV) :=
  if es.any (fun e => e.1 = k) then es.map (fun e => if e.1 = k then (e.1, v) else e) else es ++ [(k, v)]

noncomputable def ofOpt {α : Type} : Option α → M α
  | some a => pure a
  | none => stuck

noncomputable def pItem (o i : AV) : M AV := match i with
  | .str k => match o with
    | .cdict es => do let v ← ofOpt (look es k); pure (.str v)
    | .loc l => do
      let es ← dictAt l
      ofOpt (look es k)
    | _ => stuck
  | .int k => do
    let xs ← seqOf o
    ofOpt ((idx k xs.length).bind fun j => xs[j]?)
  | _ => stuck

/-- where an end of a slice falls, in a list of n -/
noncomputable def clipA (n : Nat) (i : Int) : Nat := (max 0 (min (if i < 0 then i + n else i) n)).toNat

/-- xs[lo:hi] -/
noncomputable def cut (xs : List AV) (lo hi : Option Int) : List AV :=
  let n := xs.length
  let a := lo.elim 0 (clipA n)
  let b := hi.elim n (clipA n)
  (xs.drop a).take (b - a)

noncomputable def pSlice (mu : Bool) (o : AV) (lo hi : Option Int) : M AV := match o with
  | .tup xs => match lo, hi with
    | none, some b => if 0 ≤ b ∧ b < xs.length then pure (.tup (xs.take b.toNat)) else stuck
    | _, _ => stuck
  | o => do
    let xs ← listOf o
    newL mu (cut xs lo hi)
noncomputable def storeK (l : Nat) (k : Str) (v : AV) : M Unit := do
  let es ← dictAt l
  if es.length < LIM then setAt l (.dict (put es k v)) else stuck
noncomputable def storeI (l : Nat) (k : Int) (v : AV) : M Unit := do
  let xs ← listAt l
  if 0 ≤ k ∧ k < xs.length then setAt l (.list (xs.set k.toNat v)) else stuck
noncomputable def pStore (o i v : AV) : M Unit := match o with
  | .loc l => (match i with
    | .str k => storeK l k v
    | .int k => storeI l k v
    | _ => stuck)
  | _ => stuck

/-- the types that isinstance is asked of -/
inductive Ty where
  | int | bool | str | tuple | list
  deriving DecidableEq
noncomputable def tyOf (x : Str) : Option Ty :=
  if x = ("int" : Str) then some .int else if x = ("bool" : Str) then some .bool else if x = ("str" : Str) then some .str
  else if x = ("tuple" : Str) then some .tuple else if x = ("list" : Str) then some .list else none

noncomputable def isTy : AV → Option Ty
  | .bool _ => some .bool
  | .int _ => some .int
  | .str _ => some .str
  | .tup _ => some .tuple
  | .lst _ => some .list
  | .loc _ => some .list
  | _ => none
/-- is it of a type below t -/
noncomputable def tyLe (u t : Ty) : Bool := decide (u = t) || (decide (u = .bool) && decide (t = .int))
noncomputable def pIsi (v : AV) (t : Ty) : M Bool := match v with
  | .none => pure false
  | .loc l => do
    let _ ← listAt l
    pure (tyLe .list t)
  | v => match isTy v with
    | some u => pure (tyLe u t)
    | none => stuck

inductive BI where
  | len | list | tuple | dict | int | range | min | max | any | sorted
  deriving DecidableEq
noncomputable def biOf (x : Str) : Option BI :=
  if x = ("len" : Str) then some .len else if x = ("list" : Str) then some .list else if x = ("tuple" : Str) then some .tuple
  else if x = ("dict" : Str) then some .dict else if x = ("int" : Str) then some .int else if x = ("range" : Str) then some .range
  else if x = ("min" : Str) then some .min else if x = ("max" : Str) then some .max else if x = ("any" : Str) then some .any
  else if x = ("sorted" : Str) then some .sorted else none

noncomputable def rangeL (a b : Int) : List AV := (List.range (b - a).toNat).map fun (k : Nat) => .int (a + (k : Int))
noncomputable def small62 (i : Int) : Bool := decide (-(2 ^ 62) ≤ i) && decide (i < 2 ^ 62)
noncomputable def one (vs : List AV) (f : AV → M AV) : M AV := match vs with
  | [v] => f v
  | _ => stuck
noncomputable def bList (mu : Bool) (v : AV) : M AV := match v with
  | .range a b => if small62 a && small62 b then newL mu (rangeL a b) else stuck
  | v => do let xs ← seqOf v; newL mu xs
noncomputable def bInt (v : AV) : M AV := match v with
  | .bool b => pure (.int (if b then 1 else 0))
  | _ => stuck
noncomputable def bRange (vs : List AV) : M AV := match vs with
  | [v] => match asI v with
    | some n => pure (.range 0 n)
    | none => stuck
  | [v, w] => match asI v with
    | some a => match asI w with
      | some b => pure (.range a b)
      | none => stuck
    | none => stuck
  | _ => stuck
noncomputable def bMin (vs : List AV) : M AV := match vs with
  | [v, w] => match asI v with
    | some a => match asI w with
      | some b => pure (.int (if b < a then b else a))
      | none => stuck
    | none => stuck
  | _ => stuck
noncomputable def pBI (mu : Bool) (b : BI) (vs : List AV) : M AV := match b with
  | .len => one vs fun v => do let xs ← seqOf v; pure (.int xs.length)
  | .list => one vs (bList mu)
  | .tuple => one vs fun v => do let xs ← listOf v; pure (.tup xs)
  | .dict => stuck
  | .int => one vs bInt
  | .range => bRange vs
  | .min => bMin vs
  | .max => stuck
  | .any => stuck
  | .sorted => stuck

noncomputable def pZip (mu : Bool) (a b : AV) : M AV := do
  let xs ← seqOf a
  let ys ← seqOf b
  if (isTp a == isTp b) && decide (xs.length = ys.length) then newL mu (List.zipWith (fun x y => .tup [x, y]) xs ys) else stuck

noncomputable def mAppend (l : Nat) (xs : List AV) : List AV → M AV
  | [v] => if xs.length < LIM then do
      setAt l (.list (xs ++ [v]))
      pure .none
    else stuck
  | _ => stuck
noncomputable def popAt (l : Nat) (xs : List AV) (i : Nat) : M AV := match xs[i]? with
  | some v => do
    setAt l (.list (xs.eraseIdx i))
    pure v
  | none => stuck
noncomputable def mPop (l : Nat) (xs : List AV) : List AV → M AV
  | [] => popAt l xs (xs.length - 1)
  | [v] => (match asI v with
    | some k => if 0 ≤ k ∧ k < xs.length then popAt l xs k.toNat else stuck
    | none => stuck)
  | _ => stuck
inductive Mt where
  | append | pop | clear | count
noncomputable def mtOf (m : Str) : Option Mt :=
  if m = ("append" : Str) then some .append else if m = ("pop" : Str) then some .pop else if m = ("clear" : Str) then some .clear
  else if m = ("count" : Str) then some .count else none
noncomputable def methL (l : Nat) (xs vs : List AV) : Mt → M AV
  | .append => mAppend l xs vs
  | .pop => mPop l xs vs
  | .clear => stuck
  | .count => stuck
noncomputable def methF (xs vs : List AV) (k : Mt) : M AV := stuck
noncomputable def pMethK (k : Mt) (o : AV) (vs : List AV) : M AV := match o with
  | .loc l => do
    let xs ← listAt l
    methL l xs vs k
  | .lst xs => methF xs vs k
  | _ => stuck
noncomputable def pMeth (m : Str) (o : AV) (vs : List AV) : M AV := match mtOf m with
  | some k => pMethK k o vs
  | none => stuck

noncomputable def pZipL (mu : Bool) : List AV → M AV
  | [a, b] => pZip mu a b
  | _ => stuck
/-- what is iterated -/
inductive Src where
  | items (xs : List AV)
  | at (l : Nat)
  | enum (s : Src)
noncomputable def Src.get : Src → Nat → M (Option AV)
  | .items xs, i => pure xs[i]?
  | .at l, i => do
    let xs ← listAt l
    pure xs[i]?
  | .enum s, i => do
    let r ← s.get i
    pure (r.map fun v => .tup [.int i, v])

noncomputable def srcOf : AV → M Src
  | .tup xs => pure (.items xs)
  | .lst xs => pure (.items xs)
  | .range a b => if small62 a && small62 b then pure (.items (rangeL a b)) else stuck
  | .loc l => do
    let _ ← listAt l
    pure (.at l)
  | _ => stuck

/-- no starred one, no set, no conditional: what the machine handles apart -/
noncomputable def exOk : Expr → Bool
  | .Starred _ _ => false
  | .Set _ _ _ => false
  | .IfExp _ _ _ _ => false
  | _ => true
noncomputable def evAll (ev : Expr → M AV) : List Expr → M (List AV)
  | [] => pure []
  | e :: r => do
    let v ← ev e
    let vs ← evAll ev r
    pure (v :: vs)
noncomputable def evEach (ev : Expr → M AV) (es : List Expr) : M (List AV) := if es.all exOk then evAll ev es else stuck

noncomputable def bOp (ev : Expr → M AV) (op : BoolOp) : List Expr → M AV
  | [] => stuck
  | [e] => ev e
  | e :: r => do
    let v ← ev e
    let t ← truth v
    match op with
    | .And => (match t with
      | false => pure v
      | true => bOp ev .And r)
    | .Or => (match t with
      | true => pure v
      | false => bOp ev .Or r)

/-- a chain of comparisons; r hands on the last one's answer -/
noncomputable def chain (ev : Expr → M AV) (a : AV) : List CmpOp → List Expr → M Bool
  | [op], [e] => if exOk e then do
      let b ← ev e
      pCmp op a b
    else stuck
  | op :: op' :: ops, e :: e' :: es => do
    let b ← ev e
    let t ← pCmp op a b
    match t with
    | true => chain ev b (op' :: ops) (e' :: es)
    | false => pure false
  | _, _ => stuck

noncomputable def tests (te : Expr → M Bool) (op : BoolOp) : List Expr → M Bool
  | [] => pure (op == .And)
  | e :: r => do
    let t ← te e
    match op with
    | .And => (match t with
      | false => pure false
      | true => tests te .And r)
    | .Or => (match t with
      | true => pure true
      | false => tests te .Or r)

noncomputable def plainT (ev : Expr → M AV) (e : Expr) : M Bool := if exOk e then do
    let v ← ev e
    truth v
  else stuck
noncomputable def denT (ev : Expr → M AV) : Nat → Expr → M Bool
  | 0, _ => stuck
  | n + 1, e => match e with
    | .UnaryOp op x p => match op with
      | .Not => do let b ← denT ev n x; pure (!b)
      | op => plainT ev (.UnaryOp op x p)
    | .BoolOp op vs _ => tests (denT ev n) op vs
    | .Compare l ops cs _ => do let a ← ev l; chain ev a ops cs
    | e => plainT ev e

structure Fn where
  params : List Str
  names : List Str
  body : List Stmt
  scope : Scope

structure Pg where
  fn : Str → Option Fn
  glob : Str → Option AV
  mu : Pos → Bool

abbrev Loc := List (Option AV)

noncomputable def nameV (ns : List Str) (x : Str) (σ : Loc) : M AV := match ns.idxOf? x with
  | some i => match σ[i]? with
    | some (some v) => pure v
    | _ => stuck
  | none => stuck

noncomputable def isLocal (sc : Scope) (x : Str) : Bool := match sc.names.lookup x with
  | some .local | some .cell | some .free => true
  | _ => false
noncomputable def isGlob (sc : Scope) (x : Str) : Bool := match sc.names.lookup x with
  | some .globalImplicit => true
  | _ => false

noncomputable def constV : Const → M AV
  | .none => pure .none
  | .bool b => pure (.bool b)
  | .int i => pure (.int i)
  | .str s => pure (.str s)
  | _ => stuck

/-- raises nothing -/
noncomputable def noX {α : Type} (m : M α) : M α := fun H => match m H with
  | some (.ok a, H') => some (.ok a, H')
  | _ => none
noncomputable def compLoop (src : Src) (body : AV → M (Option AV)) : Nat → Nat → List AV → M (List AV)
  | 0, _, _ => stuck
  | f + 1, i, acc => do
    match ← src.get i with
    | none => pure acc
    | some v => do
      match ← noX (body v) with
      | none => compLoop src body f (i + 1) acc
      | some y => if acc.length < LIM then compLoop src body f (i + 1) (acc ++ [y]) else stuck

noncomputable def ifs1 (te : Expr → M Bool) : List Expr → M Bool
  | [] => pure true
  | [e] => te e
  | _ => stuck

noncomputable def strKey1 : Option Expr → Option Str
  | some (.Constant (.str k) _ _) => some k
  | _ => none
noncomputable def strKeys : List (Option Expr) → Option (List Str)
  | [] => some []
  | k :: r => (strKey1 k).bind fun x => (strKeys r).map (x :: ·)

noncomputable def intM (v : AV) : M Int := ofOpt (asI v)
noncomputable def sliceEnd (ev : Expr → M AV) : Option Expr → M (Option Int)
  | none => pure none
  | some e => do
    let v ← ev e
    let i ← intM v
    pure (some i)

/-- what is asked of a comprehension's scope: its own name is local, what is free lies in a cell around -/
noncomputable def compOk (sc : Scope) (ns : List Str) (scope : Scope) (x : Str) : Bool :=
  scope.kind == .function && scope.names.lookup x == some .local && !(ns.contains (".0" : Str)) &&
  scope.names.all fun (y, k) => match k with
    | .local => (y == x || y == (".0" : Str)) && scope.names.lookup y == some .local
    | .free => sc.names.lookup y == some .cell && ns.contains y
    | .globalImplicit => true
    | _ => false
noncomputable def plainBase : Expr → Bool
  | .Name _ _ => true
  | .Subscript _ _ _ => true
  | _ => false

noncomputable def isTL (t u : Str) : Bool := decide (t = ("tuple" : Str)) && decide (u = ("list" : Str))
/-- isinstance(v, (tuple, list)) -/
noncomputable def pIsiTL : AV → M Bool
  | .none => pure false
  | .bool _ => pure false
  | .int _ => pure false
  | .str _ => pure false
  | .tup _ => pure true
  | .lst _ => pure true
  | .loc l => do
    let _ ← listAt l
    pure true
  | _ => stuck

noncomputable def dName (P : Pg) (sc : Scope) (ns : List Str) (σ : Loc) (x : Str) : M AV :=
  if x == ("__debug__" : Str) || x == ("__classdict__" : Str) then stuck else if isLocal sc x then nameV ns x σ else if isGlob sc x then ofOpt (P.glob x) else stuck
noncomputable def dUn (ev : Expr → M AV) (op : UnaryOp) (x : Expr) : M AV := match op with
  | .USub => do let v ← ev x; pNeg v
  | .Not => do let v ← ev x; let b ← truth v; pure (.bool !b)
  | _ => stuck
noncomputable def dDict (ev : Expr → M AV) (keys : List (Option Expr)) (vals : List Expr) : M AV := match strKeys keys with
  | some ks => if ks.length = vals.length ∧ ks.length ≤ 15 ∧ ks ≠ [] ∧ ks.Nodup then do
      let vs ← evEach ev vals
      newD (ks.zip vs)
    else stuck
  | none => stuck
noncomputable def dSlice (ev : Expr → M AV) (mu : Bool) (o : Expr) (lo hi st : Option Expr) : M AV := match st with
  | none => do
    let ov ← ev o
    let a ← sliceEnd ev lo
    let b ← sliceEnd ev hi
    pSlice mu ov a b
  | some _ => stuck
noncomputable def dSub (ev : Expr → M AV) (mu : Bool) (o i : Expr) : M AV := match i with
  | .Slice lo hi st _ => dSlice ev mu o lo hi st
  | i => do
    let ov ← ev o
    let iv ← ev i
    pItem ov iv
noncomputable def nameOf1 : Expr → Option (Str × Pos)
  | .Name x p => some (x, p)
  | _ => none
noncomputable def compGen : List Comprehension → Option (Str × Expr × List Expr)
  | [g] => if g.is_async = 0 then (nameOf1 g.target).map fun x => (x.1, g.iter, g.ifs) else none
  | _ => none
noncomputable def pairN : List Expr → Option ((Str × Pos) × Str × Pos)
  | [a, b] => match nameOf1 a with
    | some x => (nameOf1 b).map fun y => (x, y)
    | none => none
  | _ => none
/-- f(..) with no keyword -/
noncomputable def callOf : Expr → Option (Str × List Expr)
  | .Call f args kws _ => match kws with
    | [] => (nameOf1 f).map fun x => (x.1, args)
    | _ => none
  | _ => none
noncomputable def isZip (sc : Scope) (args : List Expr) : Option (Expr × Expr) := match args with
  | [e] => match callOf e with
    | some (z, [x, y]) => if z = ("zip" : Str) ∧ isGlob sc z then some (x, y) else none
    | _ => none
  | _ => none
noncomputable def dIsi1 (ev : Expr → M AV) (sc : Scope) (e : Expr) (t : Expr) : M AV := match t with
  | .Name t _ => if isGlob sc t then (match tyOf t with
    | some t => do
      let v ← ev e
      let b ← pIsi v t
      pure (.bool b)
    | none => stuck) else stuck
  | .Tuple es _ _ => match pairN es with
    | some (t, u) => if isTL t.1 u.1 && isGlob sc t.1 && isGlob sc u.1 then do
        let v ← ev e
        let b ← pIsiTL v
        pure (.bool b)
      else stuck
    | none => stuck
  | _ => stuck
noncomputable def dIsi (ev : Expr → M AV) (sc : Scope) (args : List Expr) : M AV := match args with
  | [e, t] => if exOk e then dIsi1 ev sc e t else stuck
  | _ => stuck
noncomputable def dBI (ev : Expr → M AV) (mu : Bool) (sc : Scope) (b : BI) (args : List Expr) : M AV := match (if b = .list then isZip sc args else none) with
  | some (x, y) => do
    let vs ← evEach ev [x, y]
    pZipL mu vs
  | none => do
    let vs ← evEach ev args
    pBI mu b vs
noncomputable def dCallN (P : Pg) (ev : Expr → M AV) (cf : Str → List AV → M AV) (mu : Bool) (sc : Scope) (f : Str) (args : List Expr) : M AV :=
  if isGlob sc f then (if f = ("isinstance" : Str) then dIsi ev sc args else match biOf f with
    | some b => dBI ev mu sc b args
    | none => if (P.fn f).isSome then do
        let vs ← evEach ev args
        cf f vs
      else stuck) else stuck
noncomputable def dCall (P : Pg) (ev : Expr → M AV) (cf : Str → List AV → M AV) (mu : Bool) (sc : Scope) (f : Expr) (args : List Expr) (p : Pos) : M AV := match f with
  | .Attribute o m ap => match mtOf m with
    | some k => if plainBase o && ap.endLine == p.line && decide (args.length ≤ 2) && args.all exOk then do
        let ov ← ev o
        let _ ← listOf ov
        let vs ← evAll ev args
        pMethK k ov vs
      else stuck
    | none => stuck
  | .Name f _ => dCallN P ev cf mu sc f args
  | _ => stuck

noncomputable def dComp (ev : Expr → M AV) (ec : Str → AV → Expr → M AV) (n : Nat) (mu : Bool) (sc : Scope) (ns : List Str) (scope : Scope) (elt : Expr) (gens : List Comprehension) : M AV := match compGen gens with
  | some (x, iter, ifs) => if compOk sc ns scope x && exOk iter then do
    let iv ← ev iter
    let src ← srcOf iv
    let ys ← compLoop src (fun v => do
      let t ← ifs1 (denT (ec x v) n) ifs
      if t then do
        let y ← ec x v elt
        pure (some y)
      else pure none) FUEL 0 []
    newL mu ys
    else stuck
  | none => stuck

noncomputable def den (P : Pg) (cf : Str → List AV → M AV) : Nat → Scope → List Str → Loc → Expr → M AV
  | 0, _, _, _, _ => stuck
  | n + 1, sc, ns, σ, e => match e with
    | .Constant c _ _ => constV c
    | .Name x _ => dName P sc ns σ x
    | .BoolOp op vs _ => bOp (den P cf n sc ns σ) op vs
    | .BinOp l op r p => do
      let a ← den P cf n sc ns σ l
      let b ← den P cf n sc ns σ r
      pBin (P.mu p) op a b
    | .UnaryOp op x _ => dUn (den P cf n sc ns σ) op x
    | .Compare l ops cs _ => do
      let a ← den P cf n sc ns σ l
      let b ← chain (den P cf n sc ns σ) a ops cs
      pure (.bool b)
    | .Tuple es _ _ => if es.length ≤ 100 then do let vs ← evEach (den P cf n sc ns σ) es; pure (.tup vs) else stuck
    | .List es p => do let vs ← evEach (den P cf n sc ns σ) es; newL (P.mu p) vs
    | .Dict ks vs _ => dDict (den P cf n sc ns σ) ks vs
    | .Subscript o i p => dSub (den P cf n sc ns σ) (P.mu p) o i
    | .ListComp elt gens scope p => dComp (den P cf n sc ns σ) (fun x v => den P cf n scope (x :: ns) (some v :: σ)) n (P.mu p) sc ns scope elt gens
    | .Call f args kws p => match kws with
      | [] => dCall P (den P cf n sc ns σ) cf (P.mu p) sc f args p
      | _ => stuck
    | _ => stuck

inductive Res where
  | next (σ : Loc)
  | ret (v : AV)

noncomputable def setN (ns : List Str) (x : Str) (v : AV) (σ : Loc) : M Loc := match ns.idxOf? x with
  | some i => pure (σ.set i (some v))
  | none => stuck

noncomputable def assignP (sc : Scope) (ns : List Str) (v : AV) (σ : Loc) (x y : Str) : M Loc := match v with
  | .tup vs => match vs with
    | [a, b] => if isLocal sc x && isLocal sc y then do
        let σ ← setN ns x a σ
        setN ns y b σ
      else stuck
    | _ => stuck
  | _ => stuck
noncomputable def assignTo (ev : Loc → Expr → M AV) (sc : Scope) (ns : List Str) (v : AV) (σ : Loc) : Expr → M Loc
  | .Name x _ => if isLocal sc x then setN ns x v σ else stuck
  | .Subscript o i _ => do
    let ov ← ev σ o
    let iv ← ev σ i
    pStore ov iv v
    pure σ
  | .Tuple es _ _ => match pairN es with
    | some (x, y) => assignP sc ns v σ x.1 y.1
    | none => stuck
  | _ => stuck

noncomputable def forLoop (src : Src) (body : AV → Loc → M Res) : Nat → Nat → Loc → M Res
  | 0, _, _ => stuck
  | f + 1, i, σ => do
    match ← src.get i with
    | none => pure (.next σ)
    | some v => do
      match ← body v σ with
      | .next σ' => forLoop src body f (i + 1) σ'
      | .ret w => pure (.ret w)

noncomputable def whileLoop (test : Loc → M Bool) (body : Loc → M Res) : Nat → Loc → M Res
  | 0, _ => stuck
  | f + 1, σ => do
    match ← test σ with
    | false => pure (.next σ)
    | true => do
      match ← body σ with
      | .next σ' => whileLoop test body f σ'
      | .ret w => pure (.ret w)

noncomputable def noComp : Expr → Bool
  | .ListComp _ _ _ _ => false
  | _ => true
noncomputable def isTupE : Expr → Bool
  | .Tuple _ _ _ => true
  | _ => false
noncomputable def pairOf : AV → M (AV × AV)
  | .tup [a, b] => pure (a, b)
  | _ => stuck

/-- e in enumerate(e) -/
noncomputable def enumArg (sc : Scope) (it : Expr) : Option Expr := match callOf it with
  | some (f, [e]) => if (f = ("enumerate" : Str) ∧ isGlob sc f = true) ∧ exOk e = true then some e else none
  | _ => none
/-- what is left of a block, behind one statement's answer -/
noncomputable def goOn (m : Loc → M Res) : Res → M Res
  | .next σ' => m σ'
  | .ret v => pure (.ret v)
noncomputable def bAssign (ev : Expr → M AV) (sc : Scope) (ns : List Str) (m : Loc → M Res) (σ : Loc) (e : Expr) (t : Expr) : M Res := match t with
  | .Name x _ => if isLocal sc x then do
      let v ← ev e
      let σ' ← setN ns x v σ
      m σ'
    else stuck
  | .Subscript o i _ => do
    let v ← ev e
    let ov ← ev o
    let iv ← ev i
    pStore ov iv v
    m σ
  | .Tuple es _ _ => match pairN es with
    | some (x, y) => if isTupE e || !isLocal sc x.1 || !isLocal sc y.1 then stuck else do
      let v ← ev e
      let p ← pairOf v
      let σ1 ← setN ns x.1 p.1 σ
      let σ2 ← setN ns y.1 p.2 σ1
      m σ2
    | none => stuck
  | _ => stuck
noncomputable def bFor (ev : Loc → Expr → M AV) (sc : Scope) (ns : List Str) (body : Loc → M Res) (m : Loc → M Res) (σ : Loc) (t it : Expr) : M Res := match t with
  | .Name x px => if exOk it then do
      let v ← ev σ it
      let src ← srcOf v
      let r ← forLoop src (fun v σ => do
        let σ' ← assignTo ev sc ns v σ (.Name x px)
        body σ') FUEL 0 σ
      goOn m r
    else stuck
  | .Tuple es k pt => match pairN es with
    | some (x, y) => match enumArg sc it with
      | some e => do
        let v ← ev σ e
        let _ ← listOf v
        let src ← srcOf v
        let r ← forLoop (.enum src) (fun v σ => do
          let σ' ← assignTo ev sc ns v σ (.Tuple [.Name x.1 x.2, .Name y.1 y.2] k pt)
          body σ') FUEL 0 σ
        goOn m r
      | none => stuck
    | none => stuck
  | _ => stuck

noncomputable def denB (P : Pg) (cf : Str → List AV → M AV) (sc : Scope) (ns : List Str) : Nat → List Stmt → Loc → M Res
  | _, [], σ => pure (.next σ)
  | 0, _ :: _, _ => stuck
  | n + 1, s :: rest, σ => match s with
    | .Pass _ => denB P cf sc ns n rest σ
    | .Return v _ => match v with
      | none => pure (.ret .none)
      | some e => do let v ← den P cf n sc ns σ e; pure (.ret v)
    | .Expr e _ => if noComp e then do
        let _ ← den P cf n sc ns σ e
        denB P cf sc ns n rest σ
      else stuck
    | .Assign ts e _ => match ts with
      | [t] => bAssign (den P cf n sc ns σ) sc ns (denB P cf sc ns n rest) σ e t
      | _ => stuck
    | .If t b o _ => do
      let c ← denT (den P cf n sc ns σ) n t
      match c with
      | true => do
        let r ← denB P cf sc ns n b σ
        goOn (denB P cf sc ns n rest) r
      | false => do
        let r ← denB P cf sc ns n o σ
        goOn (denB P cf sc ns n rest) r
    | .For t it b o _ => match o with
      | [] => bFor (fun σ e => den P cf n sc ns σ e) sc ns (denB P cf sc ns n b) (denB P cf sc ns n rest) σ t it
      | _ => stuck
    | .While t b o _ => match o with
      | [] => do
        let r ← whileLoop (fun σ => denT (den P cf n sc ns σ) n t) (denB P cf sc ns n b) FUEL σ
        goOn (denB P cf sc ns n rest) r
      | _ => stuck
    | _ => stuck

noncomputable def EFUEL : Nat := 40

/-- a call of one of the text's own defs, n calls deep at most -/
noncomputable def callP (P : Pg) : Nat → Str → List AV → M AV
  | 0, _, _ => stuck
  | n + 1, f, args => match P.fn f with
    | none => stuck
    | some fn =>
      if args.length = fn.params.length then do
        match ← denB P (callP P n) fn.scope fn.names EFUEL fn.body (args.map some ++ List.replicate (fn.names.length - args.length) none) with
        | .ret v => pure v
        | .next _ => pure .none
      else stuck

noncomputable def fnChk (fn : Fn) : Bool :=
  fn.scope.kind == .function && !fn.scope.isCoroutine && !fn.scope.isGenerator &&
  (fn.scope.names.all fun (_, k) => k == .local || k == .cell || k == .globalImplicit) &&
  decide (fn.params.Nodup) && fn.names.take fn.params.length == fn.params &&
  fn.params.all fun x => fn.scope.names.lookup x == some .local || fn.scope.names.lookup x == some .cell

end Mine


set_option autoImplicit false
set_option linter.unusedVariables false
namespace Mine
open PySem PyProof.Rows

/-- the fixed part of a run: program, world, the heap ahead of the law's call -/
structure Cx where
  prog : Program
  w : World
  h₀ : Heap
  os₀ : OsState
  mg : Str → Option Value
  mb : Str → Option Value

/-- where a run stands: ι the abstract heap's addresses, π the private objects (frames' dicts, cells, iterators, lists in the making) -/
structure Wl where
  ι : List Addr
  π : List Addr
  s : Shared
def No : Addr → Prop := fun _ => False
/-- what is neither mutable nor private is frozen -/
structure Lv (w w' : Wl) : Prop where
  pre : w.ι <+: w'.ι
  fz : ∀ b o, w.s.heap.get? b = some o → b ∉ w.ι → b ∉ w.π → w'.s.heap.get? b = some o ∧ b ∉ w'.ι ∧ b ∉ w'.π
/-- what may turn: ι's objects, and of the private ones those of p -/
structure Le (p : Addr → Prop) (w w' : Wl) : Prop extends Lv w w' where
  pv : ∀ b, b ∈ w.π → ¬ p b → b ∈ w'.π
  kp : ∀ b o, b ∈ w.π → ¬ p b → w.s.heap.get? b = some o → w'.s.heap.get? b = some o
def Fz (w : Wl) (b : Addr) : Prop := b ∉ w.ι ∧ b ∉ w.π

theorem Le.refl {p : Addr → Prop} (w : Wl) : Le p w w := ⟨⟨List.prefix_refl _, fun _ _ e h1 h2 => ⟨e, h1, h2⟩⟩, fun _ h _ => h, fun _ _ _ _ e => e⟩
theorem Lv.trans {a b c : Wl} (x : Lv a b) (y : Lv b c) : Lv a c := ⟨x.pre.trans y.pre, fun d o e h1 h2 => let q := x.fz d o e h1 h2; y.fz d o q.1 q.2.1 q.2.2⟩
theorem Le.trans {p : Addr → Prop} {a b c : Wl} (x : Le p a b) (y : Le p b c) : Le p a c where
  toLv := x.toLv.trans y.toLv
  pv := fun d h q => y.pv d (x.pv d h q) q
  kp := fun d o h1 h2 e => y.kp d o (x.pv d h1 h2) h2 (x.kp d o h1 h2 e)
theorem Le.weak {p q : Addr → Prop} {a b : Wl} (x : Le p a b) (h : ∀ d, d ∈ a.π → p d → q d) : Le q a b := ⟨x.toLv, fun d h1 h2 => x.pv d h1 fun z => h2 (h d h1 z), fun d o h1 h2 e => x.kp d o h1 (fun z => h2 (h d h1 z)) e⟩
theorem Le.no {p : Addr → Prop} {a b : Wl} (x : Le No a b) : Le p a b := x.weak fun _ _ z => z.elim
/-- every old object stays -/
theorem Le.keeps {p : Addr → Prop} {w : Wl} {s' : Shared} (hk : ∀ b o, w.s.heap.get? b = some o → s'.heap.get? b = some o) : Le p w ⟨w.ι, w.π, s'⟩ :=
  ⟨⟨List.prefix_refl _, fun b o e h1 h2 => ⟨hk b o e, h1, h2⟩⟩, fun _ h _ => h, fun b o _ _ e => hk b o e⟩
theorem Le.tok {p : Addr → Prop} {w : Wl} (t : Nat) : Le p w ⟨w.ι, w.π, { w.s with toks := t }⟩ := .keeps fun _ _ e => e

/-- strs of the text -/
def StrVs : List Str → List Value → Prop
  | [], vs => vs = []
  | x :: r, vs => ∃ t us, vs = .str x t :: us ∧ StrVs r us
mutual
/-- the value that a is, in w -/
noncomputable def VR (cx : Cx) (w : Wl) : AV → Value → Prop
  | .none, v => v = .none
  | .bool b, v => v = .bool b
  | .int i, v => ∃ t, v = .int i t
  | .str x, v => ∃ t, v = .str x t
  | .tup xs, v => ∃ a vs n, v = .ref a ∧ IsT w.s.heap a vs n ∧ Fz w a ∧ xs.length ≤ LIM ∧ VRs cx w xs vs.toList
  | .lst xs, v => ∃ a vs n, v = .ref a ∧ IsL w.s.heap a vs n ∧ Fz w a ∧ xs.length ≤ LIM ∧ VRs cx w xs vs.toList
  | .loc l, v => ∃ a, v = .ref a ∧ w.ι[l]? = some a
  | .range a b, v => ∃ r t u x, v = .ref r ∧ IsRange w.s.heap r a b 1 t u x ∧ Fz w r
  | .cdict es, v => ∃ d kvs, v = .ref d ∧ w.s.heap.DictOf (strKind cx.prog cx.w) d kvs ∧ Fz w d ∧ kvs.map (·.1) = es.map (·.1) ∧ StrVs (es.map (·.2)) (kvs.map (·.2))
noncomputable def VRs (cx : Cx) (w : Wl) : List AV → List Value → Prop
  | [], vs => vs = []
  | a :: r, vs => ∃ v us, vs = v :: us ∧ VR cx w a v ∧ VRs cx w r us
end
section
variable {cx : Cx} {w w' : Wl} {p : Addr → Prop}
theorem VR.none : VR cx w .none .none := rfl
theorem VR.bool {b : Bool} : VR cx w (.bool b) (.bool b) := rfl
theorem VR.int {i : Int} {t : Tok} : VR cx w (.int i) (.int i t) := ⟨t, rfl⟩
theorem VR.str {x : Str} {t : Tok} : VR cx w (.str x) (.str x t) := ⟨t, rfl⟩
theorem VR.tup {a : Addr} {vs : Array Value} {n : Nat} {xs : List AV} (h1 : IsT w.s.heap a vs n) (h2 : Fz w a) (h3 : xs.length ≤ LIM) (h4 : VRs cx w xs vs.toList) : VR cx w (.tup xs) (.ref a) := ⟨a, vs, n, rfl, h1, h2, h3, h4⟩
theorem VR.lst {a : Addr} {vs : Array Value} {n : Nat} {xs : List AV} (h1 : IsL w.s.heap a vs n) (h2 : Fz w a) (h3 : xs.length ≤ LIM) (h4 : VRs cx w xs vs.toList) : VR cx w (.lst xs) (.ref a) := ⟨a, vs, n, rfl, h1, h2, h3, h4⟩
theorem VR.loc {l : Nat} {a : Addr} (h : w.ι[l]? = some a) : VR cx w (.loc l) (.ref a) := ⟨a, rfl, h⟩
theorem VRs.nil : VRs cx w [] [] := rfl
theorem VRs.cons {a : AV} {v : Value} {xs : List AV} {vs : List Value} (h1 : VR cx w a v) (h2 : VRs cx w xs vs) : VRs cx w (a :: xs) (v :: vs) := ⟨v, vs, rfl, h1, h2⟩

-- what a value of a known shape is
@[elab_as_elim] theorem VR.noneE {v : Value} {C : Value → Prop} (r : VR cx w .none v) (k : C .none) : C v := (show v = .none from r) ▸ k
@[elab_as_elim] theorem VR.boolE {b : Bool} {v : Value} {C : Value → Prop} (r : VR cx w (.bool b) v) (k : C (.bool b)) : C v := (show v = .bool b from r) ▸ k
@[elab_as_elim] theorem VR.intE {i : Int} {v : Value} {C : Value → Prop} (r : VR cx w (.int i) v) (k : ∀ t, C (.int i t)) : C v := let ⟨t, e⟩ := r; e ▸ k t
@[elab_as_elim] theorem VR.strE {x : Str} {v : Value} {C : Value → Prop} (r : VR cx w (.str x) v) (k : ∀ t, C (.str x t)) : C v := let ⟨t, e⟩ := r; e ▸ k t
@[elab_as_elim] theorem VR.tupE {xs : List AV} {v : Value} {C : Value → Prop} (r : VR cx w (.tup xs) v) (k : ∀ a vs n, IsT w.s.heap a vs n → Fz w a → xs.length ≤ LIM → VRs cx w xs vs.toList → C (.ref a)) : C v := let ⟨a, vs, n, e, h1, h2, h3, h4⟩ := r; e ▸ k a vs n h1 h2 h3 h4
@[elab_as_elim] theorem VR.lstE {xs : List AV} {v : Value} {C : Value → Prop} (r : VR cx w (.lst xs) v) (k : ∀ a vs n, IsL w.s.heap a vs n → Fz w a → xs.length ≤ LIM → VRs cx w xs vs.toList → C (.ref a)) : C v := let ⟨a, vs, n, e, h1, h2, h3, h4⟩ := r; e ▸ k a vs n h1 h2 h3 h4
@[elab_as_elim] theorem VR.locE {l : Nat} {v : Value} {C : Value → Prop} (r : VR cx w (.loc l) v) (k : ∀ a, w.ι[l]? = some a → C (.ref a)) : C v := let ⟨a, e, h⟩ := r; e ▸ k a h
@[elab_as_elim] theorem VR.rangeE {a b : Int} {v : Value} {C : Value → Prop} (r : VR cx w (.range a b) v) (k : ∀ d t u x, IsRange w.s.heap d a b 1 t u x → Fz w d → C (.ref d)) : C v := let ⟨d, t, u, x, e, h1, h2⟩ := r; e ▸ k d t u x h1 h2
@[elab_as_elim] theorem VRs.nilE {vs : List Value} {C : List Value → Prop} (r : VRs cx w [] vs) (k : C []) : C vs := (show vs = [] from r) ▸ k
@[elab_as_elim] theorem VRs.consE {a : AV} {xs : List AV} {vs : List Value} {C : List Value → Prop} (r : VRs cx w (a :: xs) vs) (k : ∀ v us, VR cx w a v → VRs cx w xs us → C (v :: us)) : C vs := let ⟨v, us, e, h1, h2⟩ := r; e ▸ k v us h1 h2

theorem prefix_get {α : Type} {l l' : List α} (h : l <+: l') {i : Nat} {a : α} (e : l[i]? = some a) : l'[i]? = some a := by
  obtain ⟨t, rfl⟩ := h
  rw [List.getElem?_append_left (List.getElem?_eq_some_iff.mp e).1]; exact e
theorem DictOf.at' {h h' : Heap} {d : Addr} {kvs : List (Str × Value)} (x : h.DictOf (strKind cx.prog cx.w) d kvs) (e : ∀ o, h.get? d = some o → h'.get? d = some o) :
    h'.DictOf (strKind cx.prog cx.w) d kvs := let ⟨o, es, ep, ho, r⟩ := x; ⟨o, es, ep, e o ho, r⟩
theorem DictOf.obj {h : Heap} {d : Addr} {kvs : List (Str × Value)} (x : h.DictOf (strKind cx.prog cx.w) d kvs) : ∃ o, h.get? d = some o := let ⟨o, _, _, ho, _⟩ := x; ⟨o, ho⟩
theorem Lv.fz' (x : Lv w w') {b : Addr} {o : Obj} (e : w.s.heap.get? b = some o) (h : Fz w b) : w'.s.heap.get? b = some o ∧ Fz w' b := x.fz b o e h.1 h.2
mutual
theorem VR.lv (x : Lv w w') : ∀ {a : AV} {v : Value}, VR cx w a v → VR cx w' a v
  | .none, _, h => h
  | .bool _, _, h => h
  | .int _, _, h => h
  | .str _, _, h => h
  | .tup _, _, ⟨a, vs, n, e, h1, h2, h3, h4⟩ => ⟨a, vs, n, e, (x.fz' h1 h2).1, (x.fz' h1 h2).2, h3, VRs.lv x h4⟩
  | .lst _, _, ⟨a, vs, n, e, h1, h2, h3, h4⟩ => ⟨a, vs, n, e, (x.fz' h1 h2).1, (x.fz' h1 h2).2, h3, VRs.lv x h4⟩
  | .loc _, _, ⟨a, e, h⟩ => ⟨a, e, prefix_get x.pre h⟩
  | .range _ _, _, ⟨d, t, u, y, e, h1, h2⟩ => ⟨d, t, u, y, e, (x.fz' h1 h2).1, (x.fz' h1 h2).2⟩
  | .cdict _, _, ⟨d, kvs, e, h1, h2, h3, h4⟩ => ⟨d, kvs, e, DictOf.at' h1 fun o q => (x.fz' q h2).1, let ⟨_, q⟩ := DictOf.obj h1; (x.fz' q h2).2, h3, h4⟩
theorem VRs.lv (x : Lv w w') : ∀ {xs : List AV} {vs : List Value}, VRs cx w xs vs → VRs cx w' xs vs
  | [], _, h => h
  | _ :: _, _, ⟨v, us, e, h1, h2⟩ => ⟨v, us, e, VR.lv x h1, VRs.lv x h2⟩
end
theorem VR.mono (x : Le p w w') {a : AV} {v : Value} (r : VR cx w a v) : VR cx w' a v := r.lv x.toLv
theorem VRs.mono (x : Le p w w') {a : List AV} {v : List Value} (r : VRs cx w a v) : VRs cx w' a v := r.lv x.toLv
namespace VRs
theorem length : ∀ {xs : List AV} {vs : List Value}, VRs cx w xs vs → xs.length = vs.length
  | [], _, h => by rw [show _ = [] from h]; rfl
  | _ :: _, _, ⟨_, _, e, _, h⟩ => by rw [e, List.length_cons, List.length_cons, h.length]
theorem get : ∀ {xs : List AV} {vs : List Value}, VRs cx w xs vs → ∀ {i : Nat} {a : AV}, xs[i]? = some a → ∃ v, vs[i]? = some v ∧ VR cx w a v
  | [], _, _, _, _, e => by cases e
  | _ :: _, _, ⟨v, _, q, h1, _⟩, 0, _, e => by cases e; rw [q]; exact ⟨v, rfl, h1⟩
  | _ :: _, _, ⟨_, _, q, _, h2⟩, i + 1, _, e => by rw [q]; exact h2.get (i := i) e
theorem append : ∀ {xs ys : List AV} {vs ws : List Value}, VRs cx w xs vs → VRs cx w ys ws → VRs cx w (xs ++ ys) (vs ++ ws)
  | [], _, _, _, h, y => by rw [show _ = [] from h]; exact y
  | _ :: _, _, _, _, ⟨v, us, q, h1, h2⟩, y => by rw [q]; exact ⟨v, _, rfl, h1, h2.append y⟩
theorem drop : ∀ {xs : List AV} {vs : List Value} (n : Nat), VRs cx w xs vs → VRs cx w (xs.drop n) (vs.drop n)
  | _, _, 0, x => x
  | [], _, _ + 1, h => by rw [show _ = [] from h]; exact .nil
  | _ :: _, _, n + 1, ⟨_, _, q, _, h2⟩ => by rw [q]; exact h2.drop n
theorem take : ∀ {xs : List AV} {vs : List Value} (n : Nat), VRs cx w xs vs → VRs cx w (xs.take n) (vs.take n)
  | _, _, 0, _ => .nil
  | [], _, _ + 1, h => by rw [show _ = [] from h]; exact .nil
  | _ :: _, _, n + 1, ⟨_, _, q, h1, h2⟩ => by rw [q]; exact .cons h1 (h2.take n)
theorem set : ∀ {xs : List AV} {vs : List Value} (n : Nat) {a : AV} {v : Value}, VRs cx w xs vs → VR cx w a v → VRs cx w (xs.set n a) (vs.set n v)
  | [], _, _, _, _, h, _ => by rw [show _ = [] from h]; exact .nil
  | _ :: _, _, 0, _, _, ⟨_, _, q, _, h2⟩, y => by rw [q]; exact .cons y h2
  | _ :: _, _, n + 1, _, _, ⟨_, _, q, h1, h2⟩, y => by rw [q]; exact .cons h1 (h2.set n y)
theorem eraseIdx : ∀ {xs : List AV} {vs : List Value} (n : Nat), VRs cx w xs vs → VRs cx w (xs.eraseIdx n) (vs.eraseIdx n)
  | [], _, _, h => by rw [show _ = [] from h]; exact .nil
  | _ :: _, _, 0, ⟨_, _, q, _, h2⟩ => by rw [q]; exact h2
  | _ :: _, _, n + 1, ⟨_, _, q, h1, h2⟩ => by rw [q]; exact .cons h1 (h2.eraseIdx n)
theorem rep {xs : List AV} {vs : List Value} (x : VRs cx w xs vs) : ∀ k : Nat, VRs cx w (List.replicate k xs).flatten (List.replicate k vs).flatten
  | 0 => .nil
  | k + 1 => by rw [List.replicate_succ, List.replicate_succ, List.flatten_cons, List.flatten_cons]; exact x.append (rep x k)
theorem size {xs : List AV} {vs : Array Value} (x : VRs cx w xs vs.toList) : vs.size = xs.length := by rw [x.length]; rfl
end VRs

/-- a mutable object of the abstract heap, at its address -/
def OR (cx : Cx) (w : Wl) (a : Addr) : AO → Prop
  | .list xs => ∃ vs n, IsL w.s.heap a vs n ∧ xs.length ≤ LIM ∧ VRs cx w xs vs.toList
  | .dict es => ∃ kvs, w.s.heap.DictOf (strKind cx.prog cx.w) a kvs ∧ ((a == sysModules) = false ∧ es.length ≤ LIM) ∧ kvs.map (·.1) = es.map (·.1) ∧ VRs cx w (es.map (·.2)) (kvs.map (·.2))
theorem OR.keep (x : Lv w w') {a : Addr} (e : ∀ q, w.s.heap.get? a = some q → w'.s.heap.get? a = some q) : ∀ {o : AO}, OR cx w a o → OR cx w' a o
  | .list _, ⟨vs, n, h1, h2, h3⟩ => ⟨vs, n, e _ h1, h2, h3.lv x⟩
  | .dict _, ⟨kvs, h1, h2, h3, h4⟩ => ⟨kvs, DictOf.at' h1 e, h2, h3, h4.lv x⟩
theorem OR.obj {a : Addr} : ∀ {o : AO}, OR cx w a o → ∃ q, w.s.heap.get? a = some q
  | .list _, ⟨_, _, h1, _⟩ => ⟨_, h1⟩
  | .dict _, ⟨_, h1, _⟩ => DictOf.obj h1
structure St (cx : Cx) (w : Wl) (H : AHeap) : Prop where
  base : ∀ b o, cx.h₀.get? b = some o → w.s.heap.get? b = some o ∧ b ∉ w.ι ∧ b ∉ w.π
  len : w.ι.length = H.length
  nodup : w.ι.Nodup
  dj : ∀ a ∈ w.ι, a ∉ w.π
  pvx : ∀ a ∈ w.π, ∃ o, w.s.heap.get? a = some o
  own : ∀ (l : Nat) (a : Addr) (o : AO), w.ι[l]? = some a → H[l]? = some o → OR cx w a o
  gens : w.s.gens = #[]
  os : w.s.os = cx.os₀
  sysm : ∃ o, cx.h₀.get? cStatics = some o
end
end Mine


set_option autoImplicit false
set_option linter.unusedVariables false
namespace Mine
open PySem PyProof.Rows

/-- the exception value that x stands for -/
def XR (cx : Cx) (w : Wl) (x : Str) (e : Value) : Prop := False
/-- behind a run: the world w', with R between the answers -/
def Post (cx : Cx) (p : Addr → Prop) (w : Wl) {α β : Type} (R : Wl → α → β → Prop) (r : Except Str α) (H' : AHeap) (b : β) (s' : Shared) : Prop :=
  ∃ ι π a, r = .ok a ∧ Le p w ⟨ι, π, s'⟩ ∧ St cx ⟨ι, π, s'⟩ H' ∧ R ⟨ι, π, s'⟩ a b
def PostX (cx : Cx) (p : Addr → Prop) (w : Wl) {α : Type} (r : Except Str α) (H' : AHeap) (e : Value) (s' : Shared) : Prop :=
  ∃ ι π x, r = .error x ∧ Le p w ⟨ι, π, s'⟩ ∧ St cx ⟨ι, π, s'⟩ H' ∧ XR cx ⟨ι, π, s'⟩ x e
/-- t does in w what m does -/
def Rf (cx : Cx) (A : Around) (p : Addr → Prop) (w : Wl) {α β : Type} (R : Wl → α → β → Prop) (m : M α) (t : Sem β) : Prop :=
  ∀ H, St cx w H → ∀ r H', m H = some (r, H') → wpAny (model cx.prog cx.w) A t (Post cx p w R r H') (PostX cx p w r H') w.s

theorem pure_some {α : Type} {a : α} {r : Except Str α} {H H' : AHeap} (h : (pure a : M α) H = some (r, H')) : r = .ok a ∧ H' = H := by
  change some (Except.ok a, H) = some (r, H') at h; cases h; exact ⟨rfl, rfl⟩
theorem bindM {α β : Type} (m : M α) (f : α → M β) (H : AHeap) : (m >>= f) H = (m H).bind fun q => match q.1 with
    | .ok a => f a q.2
    | .error x => some (.error x, q.2) := by
  show Option.bind (m H) _ = _
  congr 1
  funext q
  obtain ⟨r, H1⟩ := q
  cases r <;> rfl
theorem bind_inv {α β : Type} {m : M α} {f : α → M β} {H : AHeap} {r : Except Str β} {H'' : AHeap} {C : Prop} (h : (m >>= f) H = some (r, H'')) (k : ∀ a H', m H = some (.ok a, H') → f a H' = some (r, H'') → C)
    (kx : ∀ x, m H = some (.error x, H'') → r = .error x → C) : C := by
  rw [bindM] at h
  cases hm : m H with
  | none => rw [hm] at h; cases h
  | some q =>
    rw [hm] at h
    obtain ⟨r1, H1⟩ := q
    cases r1 with
    | ok a => exact k a H1 hm h
    | error x => cases h; exact kx x hm rfl

section
variable {cx : Cx} {A : Around} {p : Addr → Prop} {w : Wl} {α β γ δ : Type} {R : Wl → α → β → Prop} {R' : Wl → γ → δ → Prop} {m : M α} {t : Sem β} {f : α → M γ} {k : β → Sem δ}
theorem Rf.stuck : Rf cx A p w R (Mine.stuck : M α) t := fun H S r H' h => nomatch h
theorem Post.here {a : α} {b : β} {H : AHeap} (S : St cx w H) (h : R w a b) : Post cx p w R (.ok a) H b w.s := ⟨w.ι, w.π, a, rfl, .refl _, S, h⟩
theorem Post.le {p : Addr → Prop} {w w' : Wl} {r : Except Str α} {H' : AHeap} {b : β} {s' : Shared} (l : Le p w w') (x : Post cx p w' R r H' b s') : Post cx p w R r H' b s' := let ⟨ι, π, c, e, l2, q⟩ := x; ⟨ι, π, c, e, l.trans l2, q⟩
theorem PostX.le {p : Addr → Prop} {w w' : Wl} {r : Except Str α} {H' : AHeap} {b : Value} {s' : Shared} (l : Le p w w') (x : PostX cx p w' r H' b s') : PostX cx p w r H' b s' := let ⟨ι, π, c, e, l2, q⟩ := x; ⟨ι, π, c, e, l.trans l2, q⟩
/-- t runs as m does, then K is to be shown where f goes on -/
theorem Rf.run (x : Rf cx A p w R m t) {H : AHeap} (S : St cx w H) {r : Except Str γ} {H' : AHeap} (h : (m >>= f) H = some (r, H')) {K : β → Shared → Prop} (k : ∀ w1 a b H1, Le p w w1 → St cx w1 H1 → R w1 a b → f a H1 = some (r, H') → K b w1.s) :
    wpAny (model cx.prog cx.w) A t K (PostX cx p w r H') w.s := by
  refine bind_inv h (fun a H1 h1 h2 => ?_) fun e h1 h2 => ?_
  · refine wpAny_mono (x H S _ H1 h1) (fun b s1 ⟨ι, π, a', e, l, S1, r1⟩ => ?_) fun _ _ ⟨_, _, _, e, _⟩ => nomatch e
    cases e
    exact k _ a b H1 l S1 r1 h2
  · subst h2
    exact wpAny_mono (x H S _ H' h1) (fun b s1 ⟨_, _, _, e, _⟩ => nomatch e) fun d s2 ⟨ι2, π2, c, e2, q⟩ => ⟨ι2, π2, c, by cases e2; rfl, q⟩
/-- first t, then k of what it gives, as T runs them -/
theorem Rf.seqw {T : Sem δ} (x : Rf cx A p w R m t) (y : ∀ w' a b, Le p w w' → R w' a b → Rf cx A p w' R' (f a) (k b))
    (hT : ∀ {Q : δ → Shared → Prop} {E : Value → Shared → Prop}, wpAny (model cx.prog cx.w) A t (fun b s' => wpAny (model cx.prog cx.w) A (k b) Q E s') E w.s → wpAny (model cx.prog cx.w) A T Q E w.s) : Rf cx A p w R' (m >>= f) T := fun H S r H' h =>
  hT (x.run S h fun w1 a b H1 l S1 r1 h2 => wpAny_mono (y w1 a b l r1 H1 S1 r H' h2) (fun _ _ q => q.le l) fun _ _ q => q.le l)
theorem Rf.bind (x : Rf cx A p w R m t) (y : ∀ w' a b, Le p w w' → R w' a b → Rf cx A p w' R' (f a) (k b)) : Rf cx A p w R' (m >>= f) (t >>= k) := x.seqw y wpAny_bind
/-- t' answers g of what t answers -/
theorem Rf.img {R' : Wl → α → δ → Prop} {g : β → δ} {t' : Sem δ} (x : Rf cx A p w R m t) (hR : ∀ w' a b, R w' a b → R' w' a (g b))
    (h : ∀ {Q : δ → Shared → Prop} {E : Value → Shared → Prop}, wpAny (model cx.prog cx.w) A t (fun b s' => Q (g b) s') E w.s → wpAny (model cx.prog cx.w) A t' Q E w.s) : Rf cx A p w R' m t' := fun H S r H' e =>
  h (wpAny_mono (x H S r H' e) (fun b _ ⟨ι, π, a, e, l, s, r⟩ => ⟨ι, π, a, e, l, s, hR _ a b r⟩) fun _ _ z => z)
theorem Rf.pure {a : α} {b : β} (h : R w a b) : Rf cx A p w R (Pure.pure a) (Pure.pure b) := fun H S r H' q => by
  obtain ⟨rfl, rfl⟩ := pure_some q
  exact wpAny_pure (Post.here S h)
theorem Rf.weak {q : Addr → Prop} (x : Rf cx A p w R m t) (h : ∀ d, d ∈ w.π → p d → q d) : Rf cx A q w R m t := fun H S r H' e =>
  wpAny_mono (x H S r H' e) (fun _ _ ⟨ι, π, a, e, l, s, r⟩ => ⟨ι, π, a, e, l.weak h, s, r⟩) fun _ _ ⟨ι, π, a, e, l, s, r⟩ => ⟨ι, π, a, e, l.weak h, s, r⟩
theorem Rf.no (x : Rf cx A No w R m t) : Rf cx A p w R m t := x.weak fun _ _ z => z.elim
theorem Rf.map {δ : Type} {R' : Wl → α → δ → Prop} {k : β → Sem δ} (x : Rf cx A p w R m t) (y : ∀ w' a b, Le p w w' → R w' a b → Rf cx A p w' R' (Pure.pure a) (k b)) : Rf cx A p w R' m (t >>= k) := by
  have := Rf.bind (f := Pure.pure) x y
  rwa [bind_pure] at this
theorem Rf.mono {R' : Wl → α → β → Prop} (x : Rf cx A p w R m t) (h : ∀ w' a b, Le p w w' → R w' a b → R' w' a b) : Rf cx A p w R' m t := fun H S r H' e =>
  wpAny_mono (x H S r H' e) (fun b _ ⟨ι, π, a, e, l, s, r⟩ => ⟨ι, π, a, e, l, s, h _ a b l r⟩) fun _ _ z => z
theorem Rf.standAt {q : Pos} (x : Rf cx A p w R m t) : Rf cx A p w R m (PySem.standAt q >>= fun _ => t) := fun H S r H' e => wpAny_bind (wpAny_standAt (x H S r H' e))
theorem Rf.holding {vs : List Value} (x : Rf cx A p w R m t) : Rf cx A p w R m (PySem.holding vs t) := fun H S r H' e => wpAny_holding (x H S r H' e)
/-- what a reading at the front tells -/
def Rd (cx : Cx) (w : Wl) {γ : Type} (m : M γ) (K : γ → Prop) : Prop := ∀ H, St cx w H → ∀ r H', m H = some (r, H') → H' = H ∧ ∃ c, r = .ok c ∧ K c
theorem Rf.read {m : M γ} {f : γ → M α} {K : γ → Prop} (x : Rd cx w m K) (y : ∀ c, K c → Rf cx A p w R (f c) t) : Rf cx A p w R (m >>= f) t := fun H S r H' h =>
  bind_inv h (fun a H1 h1 h2 => by obtain ⟨rfl, c, e, hc⟩ := x H S _ H1 h1; cases e; exact y a hc H1 S r H' h2) fun e h1 h2 => by obtain ⟨_, c, e, _⟩ := x H S _ H' h1; cases e
theorem Rd.pure {c : γ} {K : γ → Prop} (h : K c) : Rd cx w (Pure.pure c) K := fun H S r H' e => by obtain ⟨rfl, rfl⟩ := pure_some e; exact ⟨rfl, c, rfl, h⟩
theorem Rd.stuck {K : γ → Prop} : Rd cx w (Mine.stuck : M γ) K := fun H S r H' e => nomatch e
theorem Rd.bind {m : M γ} {f : γ → M δ} {K : γ → Prop} {J : δ → Prop} (x : Rd cx w m K) (y : ∀ c, K c → Rd cx w (f c) J) : Rd cx w (m >>= f) J := fun H S r H' h =>
  bind_inv h (fun a H1 h1 h2 => by obtain ⟨rfl, c, e, hc⟩ := x H S _ H1 h1; cases e; exact y a hc H1 S r H' h2) fun e h1 h2 => by obtain ⟨_, c, e, _⟩ := x H S _ H' h1; cases e
theorem Rd.mono {m : M γ} {K J : γ → Prop} (x : Rd cx w m K) (y : ∀ c, K c → J c) : Rd cx w m J := fun H S r H' h => let ⟨e, c, h1, h2⟩ := x H S r H' h; ⟨e, c, h1, y c h2⟩
theorem Rd.opt {o : Option γ} : Rd cx w (ofOpt o) (fun c => o = some c) := by
  cases o with
  | none => exact .stuck
  | some c => exact .pure rfl
/-- the answer is c at once -/
theorem Rf.leaf {c : α} (x : ∀ H, St cx w H → wpAny (model cx.prog cx.w) A t (Post cx p w R (.ok c) H) (PostX cx p w (.ok c : Except Str α) H) w.s) : Rf cx A p w R (Pure.pure c) t := fun H S r H' h => by
  obtain ⟨rfl, rfl⟩ := pure_some h
  exact x _ S
end

section
variable {cx : Cx} {A : Around} {p : Addr → Prop} {w : Wl} {H : AHeap}
theorem get_size (h : Heap) : h.get? h.objs.size = none := by
  cases e : h.get? h.objs.size with
  | none => rfl
  | some o => exact absurd (Heap.lt_size e) (Nat.lt_irrefl _)
namespace St
theorem obj (S : St cx w H) {a : Addr} (ha : a ∈ w.ι) : ∃ q, w.s.heap.get? a = some q := by
  obtain ⟨l, hl, e⟩ := List.mem_iff_getElem.mp ha
  exact (S.own l a (H[l]'(S.len ▸ hl)) (by rw [List.getElem?_eq_getElem hl, e]) (List.getElem?_eq_getElem _)).obj
/-- a new address is no one's -/
theorem new (S : St cx w H) {a : Addr} (ha : w.s.heap.get? a = none) : Fz w a :=
  ⟨fun h => (S.obj h).elim fun _ e => (nomatch ha.symm.trans e), fun h => (S.pvx a h).elim fun _ e => nomatch ha.symm.trans e⟩
theorem not_sys (S : St cx w H) : (w.s.heap.objs.size == sysModules) = false := by
  obtain ⟨o, e⟩ := S.sysm
  have h1 := Heap.lt_size (S.base _ _ e).1
  exact beq_eq_false_iff_ne.mpr (Nat.ne_of_gt (Nat.lt_trans (by decide) h1))
/-- every old object stays -/
theorem keeps (S : St cx w H) {h' : Heap} {t : Nat} (hk : ∀ b o, w.s.heap.get? b = some o → h'.get? b = some o) : St cx ⟨w.ι, w.π, { w.s with heap := h', toks := t }⟩ H where
  base := fun b o e => let q := S.base b o e; ⟨hk b o q.1, q.2⟩
  len := S.len
  nodup := S.nodup
  dj := S.dj
  pvx := fun a ha => let ⟨o, e⟩ := S.pvx a ha; ⟨o, hk a o e⟩
  own := fun l a o e1 e2 => (S.own l a o e1 e2).keep (w' := ⟨w.ι, w.π, { w.s with heap := h', toks := t }⟩) (Le.keeps (p := No) hk).toLv (hk a)
  gens := S.gens
  os := S.os
  sysm := S.sysm
/-- a new mutable object -/
theorem alloc (S : St cx w H) {h' : Heap} {t : Nat} {a : Addr} {o : AO} (hk : ∀ b q, w.s.heap.get? b = some q → h'.get? b = some q) (ha : w.s.heap.get? a = none)
    (r : Le No w ⟨w.ι ++ [a], w.π, { w.s with heap := h', toks := t }⟩ → OR cx ⟨w.ι ++ [a], w.π, { w.s with heap := h', toks := t }⟩ a o) :
    Le No w ⟨w.ι ++ [a], w.π, { w.s with heap := h', toks := t }⟩ ∧ St cx ⟨w.ι ++ [a], w.π, { w.s with heap := h', toks := t }⟩ (H ++ [o]) := by
  have hf := S.new ha
  have ne : ∀ {b : Addr} {q : Obj}, w.s.heap.get? b = some q → b ∉ w.ι → b ∉ w.ι ++ [a] := fun {b q} e h1 h2 => by
    rcases List.mem_append.mp h2 with h | h
    · exact h1 h
    · rw [List.mem_singleton.mp h, ha] at e; cases e
  have l : Le No w ⟨w.ι ++ [a], w.π, { w.s with heap := h', toks := t }⟩ := ⟨⟨List.prefix_append _ _, fun b q e h1 h2 => ⟨hk b q e, ne e h1, h2⟩⟩, fun _ h _ => h, fun b q _ _ e => hk b q e⟩
  refine ⟨l, ⟨fun b q e => let z := S.base b q e; ⟨hk b q z.1, ne z.1 z.2.1, z.2.2⟩, by rw [List.length_append, List.length_append, S.len]; rfl, ?_, ?_, fun b hb => let ⟨q, e⟩ := S.pvx b hb; ⟨q, hk b q e⟩, ?_, S.gens, S.os, S.sysm⟩⟩
  · exact List.nodup_append.mpr ⟨S.nodup, List.nodup_cons.mpr ⟨List.not_mem_nil, List.nodup_nil⟩, fun x hx y hy e => hf.1 (by rw [List.mem_singleton.mp hy] at e; exact e ▸ hx)⟩
  · intro b hb
    rcases List.mem_append.mp hb with h | h
    · exact S.dj b h
    · rw [List.mem_singleton.mp h]; exact hf.2
  · intro i b q e1 e2
    rcases Nat.lt_trichotomy i w.ι.length with h | h | h
    · rw [List.getElem?_append_left h] at e1
      rw [List.getElem?_append_left (S.len ▸ h)] at e2
      exact (S.own i b q e1 e2).keep l.toLv (hk b)
    · subst h
      rw [List.getElem?_concat_length] at e1
      rw [S.len, List.getElem?_concat_length] at e2
      cases e1; cases e2
      exact r l
    · rw [List.getElem?_eq_none (by rw [List.length_append]; exact h)] at e1; cases e1
/-- one mutable object is turned, all else stays -/
theorem turn (S : St cx w H) {l : Nat} {a : Addr} {h' : Heap} {t : Nat} {o : AO} (hl : w.ι[l]? = some a) (hk : ∀ b q, b ≠ a → w.s.heap.get? b = some q → h'.get? b = some q)
    (r : Le No w ⟨w.ι, w.π, { w.s with heap := h', toks := t }⟩ → OR cx ⟨w.ι, w.π, { w.s with heap := h', toks := t }⟩ a o) :
    Le No w ⟨w.ι, w.π, { w.s with heap := h', toks := t }⟩ ∧ St cx ⟨w.ι, w.π, { w.s with heap := h', toks := t }⟩ (H.set l o) := by
  have hm : a ∈ w.ι := List.mem_of_getElem? hl
  have hp : ∀ b ∈ w.π, b ≠ a := fun b hb e => S.dj a hm (e ▸ hb)
  have le : Le No w ⟨w.ι, w.π, { w.s with heap := h', toks := t }⟩ := ⟨⟨List.prefix_refl _, fun b q e h1 h2 => ⟨hk b q (fun z => h1 (z ▸ hm)) e, h1, h2⟩⟩, fun _ h _ => h, fun b q h _ e => hk b q (hp b h) e⟩
  refine ⟨le, ⟨fun b q e => let z := S.base b q e; ⟨hk b q (fun y => z.2.1 (y ▸ hm)) z.1, z.2⟩, by rw [List.length_set]; exact S.len, S.nodup, S.dj, fun b hb => let ⟨q, e⟩ := S.pvx b hb; ⟨q, hk b q (hp b hb) e⟩, fun i b q e1 e2 => ?_, S.gens, S.os, S.sysm⟩⟩
  by_cases hi : l = i
  · subst hi
    rw [hl] at e1; cases e1
    rw [List.getElem?_set_self ((S.len ▸ (List.getElem?_eq_some_iff.mp hl).1 :))] at e2
    cases e2
    exact r le
  · rw [List.getElem?_set_ne hi] at e2
    have hba : b ≠ a := fun z => hi (by
      obtain ⟨h1, q1⟩ := List.getElem?_eq_some_iff.mp hl
      obtain ⟨h2, q2⟩ := List.getElem?_eq_some_iff.mp e1
      exact (List.getElem_inj S.nodup).mp (q1.trans (z.symm.trans q2.symm)))
    exact (S.own i b q e1 e2).keep le.toLv fun q' e => hk b q' hba e
end St
section
variable {R : Wl → AV → Value → Prop}
/-- the state stands, but for the tokens -/
theorem Post.tok {α β : Type} {R : Wl → α → β → Prop} {a : α} {b : β} (S : St cx w H) (t : Nat) (h : R ⟨w.ι, w.π, { w.s with toks := t }⟩ a b) : Post cx p w R (.ok a) H b { w.s with toks := t } :=
  ⟨w.ι, w.π, a, rfl, .tok t, S.keeps (t := t) fun _ _ e => e, h⟩
end
/-- a list that is made new, frozen or on the abstract heap -/
theorem newL_post (S : St cx w H) {mu : Bool} {xs : List AV} {vs : Array Value} {r : Except Str AV} {H' : AHeap} {h' : Heap} {t : Nat} {d : Addr} {n : Nat} (he : newL mu xs H = some (r, H'))
    (hk : ∀ b q, w.s.heap.get? b = some q → h'.get? b = some q) (hd : w.s.heap.get? d = none) (hL : IsL h' d vs n) (x : VRs cx w xs vs.toList) : Post cx p w (VR cx) r H' (.ref d) { w.s with heap := h', toks := t } := by
  unfold newL at he
  split at he
  · rename_i hz
    cases mu with
    | true =>
      cases he
      obtain ⟨l, S1⟩ := S.alloc (t := t) hk hd (o := .list xs) (fun l => ⟨vs, n, hL, hz, x.mono l⟩)
      exact ⟨_, _, _, rfl, l.no, S1, .loc (by rw [← S.len]; exact List.getElem?_concat_length)⟩
    | false =>
      obtain ⟨rfl, rfl⟩ := pure_some he
      have l : Le No w ⟨w.ι, w.π, { w.s with heap := h', toks := t }⟩ := .keeps hk
      exact ⟨_, _, _, rfl, l.no, S.keeps hk, .lst hL (S.new hd) hz (x.mono l)⟩
  · cases he
theorem newL_len {mu : Bool} {xs : List AV} {q : Except Str AV × AHeap} (he : newL mu xs H = some q) : xs.length ≤ LIM := by
  unfold newL at he
  split at he
  · assumption
  · cases he
theorem LIM_le : LIM ≤ sizeLine := by decide
theorem LIM_is : LIM = 1048576 := by decide
theorem newList_rf {mu : Bool} {xs : List AV} {vs : List Value} (x : VRs cx w xs vs) : Rf cx A p w (VR cx) (newL mu xs) (newList vs) := fun H S r H' he =>
  wpAny_newObj_type (newL_post S he (t := w.s.toks) (fun b q e => Heap.get?_push_of_some _ e) (get_size _) (IsL.new _ _) x) (by
    show vs.toArray.size ≤ sizeLine
    rw [List.size_toArray, ← x.length]; exact Nat.le_trans (newL_len he) LIM_le)
theorem newTuple_rf {xs : List AV} {vs : List Value} (hl : xs.length ≤ LIM) (x : VRs cx w xs vs) : Rf cx A p w (VR cx) (pure (.tup xs)) (newTuple vs) := .leaf fun H S =>
  wpAny_newObj_type ⟨w.ι, w.π, _, rfl, .keeps fun b q e => Heap.get?_push_of_some _ e, S.keeps (t := w.s.toks) fun b q e => Heap.get?_push_of_some _ e, .tup (IsT.new _ _) (S.new (get_size _)) hl (x.mono (p := No) (.keeps fun b q e => Heap.get?_push_of_some _ e))⟩ (by
    show vs.toArray.size ≤ sizeLine
    rw [List.size_toArray, ← x.length]; exact Nat.le_trans hl LIM_le)

/-- what listOf, seqOf read -/
theorem listAt_rd {l : Nat} {a : Addr} (h : w.ι[l]? = some a) : Rd cx w (listAt l) fun xs => ∃ vs n, IsL w.s.heap a vs n ∧ xs.length ≤ LIM ∧ VRs cx w xs vs.toList := fun H S r H' e => by
  refine bind_inv e (fun o H1 h1 h2 => ?_) fun x h1 h2 => ?_
  · unfold objAt at h1
    split at h1
    · rename_i o' ho
      cases h1
      cases o with
      | list xs => obtain ⟨rfl, rfl⟩ := pure_some h2; exact ⟨rfl, xs, rfl, S.own l a _ h ho⟩
      | dict es => cases h2
    · cases h1
  · unfold objAt at h1
    split at h1 <;> cases h1
theorem dictAt_rd {l : Nat} {a : Addr} (h : w.ι[l]? = some a) : Rd cx w (dictAt l) fun es => OR cx w a (.dict es) := fun H S r H' e => by
  refine bind_inv e (fun o H1 h1 h2 => ?_) fun x h1 h2 => ?_
  · unfold objAt at h1
    split at h1
    · rename_i o' ho
      cases h1
      cases o with
      | dict xs => obtain ⟨rfl, rfl⟩ := pure_some h2; exact ⟨rfl, xs, rfl, S.own l a _ h ho⟩
      | list es => cases h2
    · cases h1
  · unfold objAt at h1
    split at h1 <;> cases h1
theorem listOf_rd {a : AV} {v : Value} (x : VR cx w a v) : Rd cx w (listOf a) fun xs => ∃ l vs n, v = .ref l ∧ IsL w.s.heap l vs n ∧ xs.length ≤ LIM ∧ VRs cx w xs vs.toList := by
  cases a with
  | lst xs => obtain ⟨l, vs, n, e, h1, _, h3, h4⟩ := x; exact .pure ⟨l, vs, n, e, h1, h3, h4⟩
  | loc i => obtain ⟨l, e, h⟩ := x; exact (listAt_rd h).mono fun xs ⟨vs, n, q⟩ => ⟨l, vs, n, e, q⟩
  | _ => exact .stuck
inductive IsSeq (h : Heap) (l : Addr) (vs : Array Value) (n : Nat) : Prop
  | list (x : IsL h l vs n)
  | tuple (x : IsT h l vs n)
theorem seqOf_rd {a : AV} {v : Value} (x : VR cx w a v) : Rd cx w (seqOf a) fun xs => ∃ l vs n, v = .ref l ∧ IsSeq w.s.heap l vs n ∧ xs.length ≤ LIM ∧ VRs cx w xs vs.toList := by
  cases a with
  | tup xs => obtain ⟨l, vs, n, e, h1, _, h3, h4⟩ := x; exact .pure ⟨l, vs, n, e, .tuple h1, h3, h4⟩
  | lst xs => obtain ⟨l, vs, n, e, h1, _, h3, h4⟩ := x; exact .pure ⟨l, vs, n, e, .list h1, h3, h4⟩
  | loc i => obtain ⟨l, e, h⟩ := x; exact (listAt_rd h).mono fun xs ⟨vs, n, q1, q⟩ => ⟨l, vs, n, e, .list q1, q⟩
  | _ => exact .stuck
theorem mul_fits_of {i j : Int} (h : j.natAbs < 2 ^ 64 ∨ i.natAbs < 2 ^ 64) : IntMulOk i j := by
  rcases h with h | h
  · exact .of_right (intBits_le_64 (by omega) (by omega))
  · exact .of_left (intBits_le_64 (by omega) (by omega))
/-- both are ints -/
theorem int2_rf {a b : AV} {f : Int → Int → M AV} {op : Operator} {v u : Value} {R : Wl → AV → Value → Prop} (ra : VR cx w a v) (rb : VR cx w b u) (k : ∀ i j t s, Rf cx A p w R (f i j) (binaryOp op (.int i t) (.int j s))) : Rf cx A p w R (int2 a b f) (binaryOp op v u) := by
  cases a with
  | int i =>
    cases b with
    | int j =>
      obtain ⟨t, rfl⟩ := ra
      obtain ⟨s, rfl⟩ := rb
      exact k i j t s
    | _ => exact .stuck
  | _ => exact .stuck
theorem ite_rf {c : Prop} [Decidable c] {α β : Type} {R : Wl → α → β → Prop} {m n : M α} {t : Sem β} (h1 : c → Rf cx A p w R m t) (h2 : ¬ c → Rf cx A p w R n t) : Rf cx A p w R (if c then m else n) t := by
  split
  · exact h1 ‹_›
  · exact h2 ‹_›
theorem addList_rf {mu : Bool} {a b : AV} {v u : Value} (ra : VR cx w a v) (rb : VR cx w b u) : Rf cx A p w (VR cx) (do let xs ← listOf a; let ys ← listOf b; newL mu (xs ++ ys)) (binaryOp .Add v u) := by
  refine .read (listOf_rd ra) fun xs ⟨l, vs, n, e, hl, hz, hvs⟩ => .read (listOf_rd rb) fun ys ⟨l2, ws, n2, e2, hl2, hz2, hws⟩ => ?_
  subst e; subst e2
  refine fun H S r H' he => P.add_list hl hl2 (newL_post S he (t := w.s.toks) (fun b q e => Heap.get?_push_of_some _ e) (get_size _) (IsL.new _ _) (by rw [Array.toList_append]; exact hvs.append hws)) ?_
  have h1 := newL_len he
  rw [List.length_append] at h1
  rw [hvs.size, hws.size]; exact Nat.le_trans h1 LIM_le
theorem addTup_rf {a b : AV} {xs : List AV} {v u : Value} (ra : VR cx w (.tup xs) v) (rb : VR cx w b u) : Rf cx A p w (VR cx) (addTup xs b) (binaryOp .Add v u) := by
  cases b with
  | tup ys =>
    refine ite_rf (fun _ => .stuck) fun hc => ?_
    have hc := Bool.eq_false_iff.mpr hc
    rw [Bool.or_eq_false_iff, Bool.or_eq_false_iff, List.isEmpty_eq_false_iff, List.isEmpty_eq_false_iff, decide_eq_false_iff_not] at hc
    obtain ⟨⟨hx, hy⟩, hlen⟩ := hc
    refine ra.tupE fun a vs n ha hfa hza hsa => rb.tupE fun b ws m hb hfb hzb hsb => .leaf fun H S => ?_
    have ne : ∀ {zs : List AV} {us : Array Value}, VRs cx w zs us.toList → zs ≠ [] → ¬ us.isEmpty = true := fun {zs us} h1 h2 h3 => h2 (List.length_eq_zero_iff.mp (by rw [← h1.size]; exact Array.isEmpty_iff_size_eq_zero.mp h3))
    refine P.add_tuple ha hb (ne hsa hx) (ne hsb hy) ⟨w.ι, w.π, _, rfl, .keeps fun b q e => Heap.get?_push_of_some _ e, S.keeps (t := w.s.toks) fun b q e => Heap.get?_push_of_some _ e, .tup (IsT.new _ _) (S.new (get_size _)) (by rw [List.length_append]; exact Nat.not_lt.mp hlen) ?_⟩ ?_
    · rw [Array.toList_append]; exact (hsa.append hsb).mono (p := No) (.keeps fun b q e => Heap.get?_push_of_some _ e)
    · rw [hsa.size, hsb.size]; exact Nat.le_trans (Nat.not_lt.mp hlen) LIM_le
  | _ => exact .stuck
theorem add_rf {mu : Bool} {a b : AV} {v u : Value} (ra : VR cx w a v) (rb : VR cx w b u) : Rf cx A p w (VR cx) (bAdd mu a b) (binaryOp .Add v u) := by
  cases a with
  | int i =>
    cases b with
    | int j => exact ra.intE fun t => rb.intE fun s => .leaf fun H S => add_int (.tok S _ .int)
    | _ => exact .stuck
  | tup xs => exact addTup_rf (a := .none) ra rb
  | _ => exact addList_rf ra rb
theorem mulList_rf {mu : Bool} {a : AV} {v : Value} {n : Int} {t : Tok} (ra : VR cx w a v) :
    Rf cx A p w (VR cx) (do let xs ← listOf a; if n < 0 ∨ 1048576 < n ∨ LIM < n.toNat * xs.length then stuck else newL mu (List.replicate n.toNat xs).flatten) (binaryOp .Mult v (.int n t)) := by
  refine .read (listOf_rd ra) fun xs ⟨l, vs, k, e, hl, hz, hvs⟩ => ite_rf (fun _ => .stuck) fun hc => fun H S r H' he => ?_
  subst e
  have L := LIM_is
  have h2 : vs.size * n.toNat ≤ 2 ^ 24 := by rw [hvs.size, Nat.mul_comm]; omega
  refine wpAny_binaryOp_repeat_ref (T := "list") (U := "int") (by decide) ⟨_, hl, rfl⟩ (fun s' => typeIs_int s' n t) noFill_list_mul F.fills_int_mul F.slot_int_rmul repeat_list F.slot_int_index.lookup
    (call_meets F.slot_int_rmul (typeIs_int w.s n t) F.entry_int_rmul (F.args_int_rmul_2 _ _) (int___rmul___int_list n t l vs k)
      ⟨hl, rfl, ⟨_, hl, rfl⟩, call_meets F.slot_list_mul ⟨_, hl, rfl⟩ F.entry_list_mul (F.args_list_mul_2 _ _)
        (AutoListH.list___mul___list_int_3 l vs k n t (by simp [Builtin.List.listFitsIndex]; omega) (by omega) (by simp [Builtin.List.listTooLong, sizeLine]; omega))
        ⟨hl, ?_⟩⟩)
  refine newL_post S he (t := w.s.toks) (fun b q e => Heap.get?_push_of_some _ e) (get_size _) (IsL.new _ _) ?_
  rw [listMul_foldl_if]
  simpa using hvs.rep n.toNat
theorem mul_rf {mu : Bool} {a b : AV} {v u : Value} (ra : VR cx w a v) (rb : VR cx w b u) : Rf cx A p w (VR cx) (bMul mu a b) (binaryOp .Mult v u) := by
  cases b with
  | int n =>
    refine rb.intE fun t => ?_
    cases a with
    | int i => exact ra.intE fun t => ite_rf (fun hc => .leaf fun H S => mul_int (.tok S _ .int) (mul_fits_of hc)) fun _ => .stuck
    | _ => exact mulList_rf ra
  | _ => exact .stuck
theorem bin_rf {mu : Bool} {op : Operator} {a b : AV} {v u : Value} (ra : VR cx w a v) (rb : VR cx w b u) : Rf cx A p w (VR cx) (pBin mu op a b) (binaryOp op v u) := by
  cases op with
  | Add => exact add_rf ra rb
  | Sub => exact int2_rf ra rb fun i j t s => .leaf fun H S => sub_int' (.tok S _ .int)
  | Mult => exact mul_rf ra rb
  | FloorDiv => exact int2_rf ra rb fun i j t s => ite_rf (fun _ => .stuck) fun hc => .leaf fun H S => floordiv_int (fun z => hc (.inl z)) (.tok S _ .int) (.inl (PyProof.noPylong_small (by omega)))
  | Mod => exact int2_rf ra rb fun i j t s => ite_rf (fun _ => .stuck) fun hc => .leaf fun H S => mod_int' hc (.tok S _ .int)
  | Pow => exact int2_rf ra rb fun i j t s => ite_rf (fun ⟨h1, h2⟩ => by subst h1; subst h2; exact .leaf fun H S => pow_int_small (by decide) (by decide) (by decide) (.tok S _ .int)) fun _ => .stuck
  | _ => exact .stuck
theorem neg_rf {a : AV} {v : Value} (ra : VR cx w a v) : Rf cx A p w (VR cx) (pNeg a) (unaryOp .USub v) := by
  cases a with
  | int i => exact ra.intE fun t => .leaf fun H S => neg_int (.tok S _ .int)
  | _ => exact .stuck
theorem truth_rf {a : AV} {v : Value} (ra : VR cx w a v) : Rf cx A p w (fun _ x y => x = y ∧ a = .bool x) (truth a) (truthy v) := by
  cases a with
  | bool b => exact ra.boolE (.leaf fun H S => wpAny_truthy_bool (.here S ⟨rfl, rfl⟩))
  | _ => exact .stuck
end
end Mine


set_option autoImplicit false
set_option linter.unusedVariables false
namespace Mine
open PySem PyProof.Rows PySem.SeqAt

section
variable {cx : Cx} {A : Around} {p : Addr → Prop} {w : Wl} {H : AHeap}

/-- what rd reads is what the heap holds -/
theorem mapM_cons_some {α β : Type} {f : α → Option β} {x : α} {xs : List α} {r : List β} (h : (x :: xs).mapM f = some r) : ∃ y ys, f x = some y ∧ xs.mapM f = some ys ∧ r = y :: ys := by
  rw [List.mapM_cons] at h
  obtain ⟨y, h1, h2⟩ := Option.bind_eq_some_iff.mp h
  obtain ⟨ys, h3, h4⟩ := Option.bind_eq_some_iff.mp h2
  cases h4
  exact ⟨y, ys, h1, h3, rfl⟩
def RdOk (w : Wl) (n : Nat) (v : Value) (d : PyData) : Prop := ∃ as, Reads w.s.heap v d as ∧ d.canLay0 = true ∧ d.depth ≤ n
def RdsOk (w : Wl) (n : Nat) (vs : List Value) (ds : List PyData) : Prop := ∃ as, ReadsAll w.s.heap vs ds as ∧ PyData.canLayAll0 ds = true ∧ PyData.depthAll ds ≤ n
theorem rds_sound (n : Nat) (ih : ∀ {a : AV} {v : Value} {d : PyData}, VR cx w a v → rd H n a = some d → RdOk w n v d) : ∀ {xs : List AV} {vs : List Value} {ds : List PyData}, VRs cx w xs vs → xs.mapM (rd H n) = some ds → RdsOk w n vs ds
  | [], vs, ds, x, h => by cases h; rw [show vs = [] from x]; exact ⟨[], .nil, rfl, Nat.zero_le _⟩
  | a :: xs, vs, ds, ⟨v, us, e, r, rs⟩, h => by
    obtain ⟨y, ys, h1, h2, rfl⟩ := mapM_cons_some h
    obtain ⟨as, q1, q2, q3⟩ := ih r h1
    obtain ⟨bs, p1, p2, p3⟩ := rds_sound n ih rs h2
    rw [e]
    exact ⟨as ++ bs, .cons q1 p1, show (y.canLay0 && PyData.canLayAll0 ys) = true by rw [q2, p2]; rfl, Nat.max_le.mpr ⟨q3, p3⟩⟩
theorem rdL {n : Nat} {l : Addr} {vs : Array Value} {k : Nat} {ds : List PyData} (h : IsL w.s.heap l vs k) (x : RdsOk w n vs.toList ds) : RdOk w (n + 1) (.ref l) (.list ds) :=
  let ⟨_, p1, p2, p3⟩ := x; ⟨_, .list h rfl rfl p1, p2, Nat.succ_le_succ p3⟩
theorem rd0 (n : Nat) {a : AV} {v : Value} {d : PyData} (r : VR cx w a v) (h : rd H n a = some d) (h1 : isTp a = false) (h2 : isL a = false) : RdOk w n v d := by
  cases a with
  | none => rw [show v = .none from r]; cases n <;> (cases h; exact ⟨[], .none, rfl, Nat.zero_le _⟩)
  | bool b => rw [show v = .bool b from r]; cases n <;> (cases h; exact ⟨[], .bool b, rfl, Nat.zero_le _⟩)
  | int i => obtain ⟨t, r⟩ := r; rw [r]; cases n <;> (cases h; exact ⟨[], .int i t, rfl, Nat.zero_le _⟩)
  | str x =>
    obtain ⟨t, r⟩ := r
    have h' : (if PyData.strOk x then some (PyData.str x) else none) = some d := by cases n <;> exact h
    split at h'
    · rename_i ho; cases h'; rw [r]; exact ⟨[], .str x t, ho, Nat.zero_le _⟩
    · cases h'
  | range _ _ => cases n <;> cases h
  | cdict _ => cases n <;> cases h
  | tup _ => cases h1
  | lst _ => cases h2
  | loc _ => cases h2
theorem rd_sound (S : St cx w H) (n : Nat) : ∀ {a : AV} {v : Value} {d : PyData}, VR cx w a v → rd H n a = some d → RdOk w n v d := by
  induction n with
  | zero =>
    intro a v d r h
    cases a with
    | tup _ => cases h
    | lst _ => cases h
    | loc _ => cases h
    | _ => exact rd0 0 r h rfl rfl
  | succ n ih =>
    intro a v d r h
    cases a with
    | tup xs =>
      obtain ⟨a, vs, k, e, h1, _, _, h4⟩ := r
      obtain ⟨ds, h5, h6⟩ := Option.map_eq_some_iff.mp h
      obtain ⟨as, p1, p2, p3⟩ := rds_sound n ih h4 h5
      rw [e, ← h6]
      exact ⟨as, .tuple h1 rfl rfl p1, p2, Nat.succ_le_succ p3⟩
    | lst xs =>
      obtain ⟨a, vs, k, e, h1, _, _, h4⟩ := r
      obtain ⟨ds, h5, h6⟩ := Option.map_eq_some_iff.mp h
      rw [e, ← h6]
      exact rdL h1 (rds_sound n ih h4 h5)
    | loc l =>
      obtain ⟨a, e, h1⟩ := r
      cases hH : H[l]? with
      | none => rw [show rd H (n + 1) (.loc l) = (match H[l]? with | some (.list xs) => (xs.mapM (rd H n)).map .list | _ => none) from rfl, hH] at h; cases h
      | some o =>
        rw [show rd H (n + 1) (.loc l) = (match H[l]? with | some (.list xs) => (xs.mapM (rd H n)).map .list | _ => none) from rfl, hH] at h
        cases o with
        | dict es => cases h
        | list xs =>
          obtain ⟨ds, h5, h6⟩ := Option.map_eq_some_iff.mp h
          obtain ⟨vs, k, h2, _, h4⟩ := S.own _ _ _ h1 hH
          rw [e, ← h6]
          exact rdL h2 (rds_sound n ih h4 h5)
    | _ => exact rd0 (n + 1) r h rfl rfl
theorem rdM_rd {a : AV} {v : Value} (x : VR cx w a v) : Rd cx w (rdM a) (RdOk w 8 v) := fun H S r H' h => by
  unfold rdM at h
  split at h
  · rename_i d hd; cases h; exact ⟨rfl, d, rfl, rd_sound S 8 x hd⟩
  · cases h
/-- room for a handful of the machine's own calls -/
abbrev Room (A : Around) : Prop := A.units + 100 < cLine
theorem room_min {R : Room A} {a b : Nat} (h : a ≤ 8) : A.units + min a b < cLine := by unfold Room at R; omega
theorem room_min1 {R : Room A} {a b : Nat} (h : b ≤ 8) : A.units + 1 + min a b < cLine := by unfold Room at R; omega
theorem isNone_of {a : AV} {v : Value} (r : VR cx w a v) : (v == .none) = pIsNone a := by
  cases a with
  | none => rw [show v = .none from r]; rfl
  | bool b => rw [show v = .bool b from r]; rfl
  | int i => obtain ⟨t, e⟩ := r; rw [e]; rfl
  | str i => obtain ⟨t, e⟩ := r; rw [e]; rfl
  | tup i => obtain ⟨_, _, _, e, _⟩ := r; rw [e]; rfl
  | lst i => obtain ⟨_, _, _, e, _⟩ := r; rw [e]; rfl
  | loc i => obtain ⟨_, e, _⟩ := r; rw [e]; rfl
  | range i j => obtain ⟨_, _, _, _, e, _⟩ := r; rw [e]; rfl
  | cdict i => obtain ⟨_, _, e, _⟩ := r; rw [e]; rfl
theorem is_not_none {v : Value} {s : Shared} {M : Model} {E : Value → Shared → Prop} {Q : Value → Shared → Prop} (h : Q (.bool (!(v == .none))) s) : wpAny M A (compareOp .IsNot v .none) Q E s := by
  show wpAny M A (do return .bool !(← isSame v .none)) Q E s
  rw [isSame_none]
  exact wpAny_bind (wpAny_pure (wpAny_pure h))
/-- a comparison's answer -/
def Rb (w : Wl) (b : Bool) (v : Value) : Prop := v = .bool b
theorem eq_rf (R : Room A) {a b : AV} {v u : Value} (ra : VR cx w a v) (rb : VR cx w b u) : Rf cx A p w Rb (pEq a b) (compareOp .Eq v u) :=
  .read (rdM_rd ra) fun x ⟨_, p1, p2, p3⟩ => .read (rdM_rd rb) fun y ⟨_, q1, q2, q3⟩ => .leaf fun H S => compareEq_reads p1 q1 p2 q2 (room_min (R := R) p3) (.here S rfl)
theorem in_rf (R : Room A) {a b : AV} {v u : Value} (ra : VR cx w a v) (rb : VR cx w b u) : Rf cx A p w Rb (pIn a b) (compareOp .In v u) :=
  .read (rdM_rd ra) fun x ⟨_, p1, p2, p3⟩ => .read (rdM_rd rb) fun y ⟨_, q1, q2, q3⟩ => by
    cases y with
    | list ys => exact .leaf fun H S => in_list_reads q1 p1 q2 p2 (room_min1 (R := R) p3) (.here S rfl)
    | tuple ys => exact .leaf fun H S => in_tuple_reads q1 p1 q2 p2 (room_min1 (R := R) p3) (.here S rfl)
    | _ => exact .stuck
theorem notIn_rf (R : Room A) {a b : AV} {v u : Value} (ra : VR cx w a v) (rb : VR cx w b u) : Rf cx A p w Rb (do let r ← pIn a b; pure (!r)) (compareOp .NotIn v u) := by
  unfold pIn
  simp only [bind_assoc, pure_bind]
  exact .read (rdM_rd ra) fun x ⟨_, p1, p2, p3⟩ => .read (rdM_rd rb) fun y ⟨_, q1, q2, q3⟩ => by
    cases y with
    | list ys => exact .leaf fun H S => notIn_list_reads q1 p1 q2 p2 (room_min1 (R := R) p3) (.here S rfl)
    | tuple ys => exact .leaf fun H S => notIn_tuple_reads q1 p1 q2 p2 (room_min1 (R := R) p3) (.here S rfl)
    | _ => exact .stuck
theorem ne_rf (R : Room A) {a b : AV} {v u : Value} (ra : VR cx w a v) (rb : VR cx w b u) : Rf cx A p w Rb (do let r ← pEq a b; pure (!r)) (compareOp .NotEq v u) := by
  unfold pEq
  simp only [bind_assoc, pure_bind]
  exact .read (rdM_rd ra) fun x ⟨_, p1, p2, p3⟩ => .read (rdM_rd rb) fun y ⟨_, q1, q2, q3⟩ => .leaf fun H S => compareNe_reads p1 q1 p2 q2 (room_min (R := R) p3) (.here S rfl)
theorem cmp_rf (R : Room A) {op : CmpOp} {a b : AV} {v u : Value} (ra : VR cx w a v) (rb : VR cx w b u) : Rf cx A p w Rb (pCmp op a b) (compareOp op v u) := by
  have two : ∀ {q : CmpOp} {t : Sem Value}, (∀ i j s t', v = .int i s → u = .int j t' → Rf cx A p w Rb (cmpI q i j) t) → Rf cx A p w Rb (match asI a with | some i => (match asI b with | some j => cmpI q i j | none => stuck) | none => stuck : M Bool) t := fun {q t} k => by
    cases a with
    | int i =>
      cases b with
      | int j => obtain ⟨s, e⟩ := ra; obtain ⟨s', e'⟩ := rb; exact k i j s s' e e'
      | _ => exact .stuck
    | _ => exact .stuck
  cases op with
  | Eq => exact eq_rf R ra rb
  | NotEq => exact ne_rf R ra rb
  | In => exact in_rf R ra rb
  | NotIn => exact notIn_rf R ra rb
  | Is =>
    cases b with
    | none => exact rb.noneE (.leaf fun H S => is_none (by rw [isNone_of ra]; exact .here S rfl))
    | _ => exact .stuck
  | IsNot =>
    cases b with
    | none => exact rb.noneE (.leaf fun H S => is_not_none (by rw [isNone_of ra]; exact .here S rfl))
    | _ => exact .stuck
  | Lt => exact two fun i j s t h1 h2 => h1 ▸ h2 ▸ .leaf fun H S => wpAny_lt_int (.here S rfl)
  | LtE => exact two fun i j s t h1 h2 => h1 ▸ h2 ▸ .leaf fun H S => le_int (.here S rfl)
  | Gt => exact two fun i j s t h1 h2 => h1 ▸ h2 ▸ .leaf fun H S => PyProof.Rows.gt_int (.here S rfl)
  | GtE => exact two fun i j s t h1 h2 => h1 ▸ h2 ▸ .leaf fun H S => ge_int (.here S rfl)

theorem idx_some {k : Int} {n j : Nat} (h : idx k n = some j) : j < n ∧ ((0 ≤ k ∧ k < n ∧ j = k.toNat) ∨ (k < 0 ∧ -k ≤ n ∧ j = (k + n).toNat)) := by
  unfold idx at h
  split at h
  · split at h
    · cases h; exact ⟨by omega, .inl ⟨by assumption, by assumption, rfl⟩⟩
    · cases h
  · split at h
    · cases h; exact ⟨by omega, .inr ⟨Int.not_le.mp (by assumption), by assumption, rfl⟩⟩
    · cases h
theorem getItem_seq {l : Addr} {vs : Array Value} {n : Nat} {k : Int} {t : Tok} {j : Nat} {y : Value} {s : Shared} {Q : Value → Shared → Prop} {E : Value → Shared → Prop} (hs : IsSeq s.heap l vs n) (hj : idx k vs.size = some j) (hy : vs[j]? = some y)
    (hb : vs.size < 2 ^ 62) (h : Q y s) : wpAny (model cx.prog cx.w) A (getItem (.ref l) (.int k t)) Q E s := by
  obtain ⟨hlt, hc⟩ := idx_some hj
  cases hs with
  | list hl =>
    rcases hc with ⟨h0, h1, rfl⟩ | ⟨h0, h1, rfl⟩
    · exact wpAny_getItem_list hl.isList h0 (by omega) hy h
    · exact wpAny_getItem_list_neg hl.isList h0 (by omega) (by omega) hy h
  | tuple hl =>
    refine P.getItem_tuple hl (by omega) (by omega) (k := j) ?_ hy h
    rcases hc with ⟨h0, h1, rfl⟩ | ⟨h0, h1, rfl⟩
    · exact seqIndex_of h0 h1
    · exact PySem.seqIndex_neg h0 (by omega)
/-- the value at a key -/
theorem look_valueAt : ∀ {es : List (Str × AV)} {kvs : List (Str × Value)} {k : Str} {a : AV}, kvs.map (·.1) = es.map (·.1) → VRs cx w (es.map (·.2)) (kvs.map (·.2)) → look es k = some a → ∃ v, valueAt kvs k = some v ∧ VR cx w a v
  | [], _, _, _, _, _, h => by cases h
  | _ :: _, [], _, _, h, _, _ => by cases h
  | e :: es, kv :: kvs, k, a, he, ⟨v, us, q, r1, r2⟩, hl => by
    obtain ⟨h1, h2⟩ := List.cons.inj he
    obtain ⟨q1, q2⟩ := List.cons.inj q
    unfold look at hl
    unfold valueAt
    rw [List.find?_cons] at hl ⊢
    rw [show kv.1 = e.1 from h1]
    by_cases hk : e.1 = k
    · rw [decide_eq_true hk] at hl ⊢
      cases hl
      exact ⟨kv.2, rfl, by rw [show kv.2 = v from q1]; exact r1⟩
    · rw [decide_eq_false hk] at hl ⊢
      exact look_valueAt (es := es) h2 (q2 ▸ r2) hl
theorem look_strAt : ∀ {es : List (Str × Str)} {kvs : List (Str × Value)} {k x : Str}, kvs.map (·.1) = es.map (·.1) → StrVs (es.map (·.2)) (kvs.map (·.2)) → look es k = some x → ∃ t, valueAt kvs k = some (.str x t)
  | [], _, _, _, _, _, h => by cases h
  | _ :: _, [], _, _, h, _, _ => by cases h
  | e :: es, kv :: kvs, k, a, he, ⟨t, us, q, r2⟩, hl => by
    obtain ⟨h1, h2⟩ := List.cons.inj he
    obtain ⟨q1, q2⟩ := List.cons.inj q
    unfold look at hl
    unfold valueAt
    rw [List.find?_cons] at hl ⊢
    rw [show kv.1 = e.1 from h1]
    by_cases hk : e.1 = k
    · rw [decide_eq_true hk] at hl ⊢
      cases hl
      exact ⟨t, congrArg some q1⟩
    · rw [decide_eq_false hk] at hl ⊢
      exact look_strAt (es := es) h2 (q2 ▸ r2) hl
theorem getItem_dict {d : Addr} {kvs : List (Str × Value)} {k : Str} {t : Tok} {v : Value} {s : Shared} {Q : Value → Shared → Prop} {E : Value → Shared → Prop} (hd : s.heap.DictOf (strKind cx.prog cx.w) d kvs) (hv : valueAt kvs k = some v)
    (h : Q v { s with toks := s.toks + 1 }) : wpAny (model cx.prog cx.w) A (getItem (.ref d) (.str k t)) Q E s :=
  wpAny_getItem_of (strKind_is _ _ k t) hd.mapOf hv h
/-- whose items are asked for is a list, a tuple or a dict -/
def Subs (s : Shared) (v : Value) : Prop := ∃ T id, s.TypeIs v T ∧ typeLookup (.type T) "__getitem__" = pure (some (.builtin id))
theorem Subs.list {s : Shared} {l : Addr} {vs : Array Value} {n : Nat} (hl : IsL s.heap l vs n) : Subs s (.ref l) := ⟨"list", _, ⟨_, hl, rfl⟩, list_getitem_lookup⟩
theorem Subs.tuple {s : Shared} {l : Addr} {vs : Array Value} {n : Nat} (hl : IsT s.heap l vs n) : Subs s (.ref l) := ⟨"tuple", _, ⟨_, hl, rfl⟩, F.slot_tuple_getitem.lookup⟩
theorem Subs.seq {s : Shared} {l : Addr} {vs : Array Value} {n : Nat} : IsSeq s.heap l vs n → Subs s (.ref l)
  | .list x => .list x
  | .tuple x => .tuple x
theorem Subs.dict {s : Shared} {d : Addr} {kvs : List (Str × Value)} (hd : s.heap.DictOf (strKind cx.prog cx.w) d kvs) : Subs s (.ref d) := ⟨"dict", _, hd.mapOf.typeIs, slot_dict_getitem.lookup⟩
/-- an item is asked for: k is to be shown of the getItem that is known to be one of a list, tuple or dict -/
theorem item_rf {o i : AV} {v u : Value} {t : Sem Value} (ro : VR cx w o v) (ri : VR cx w i u) (ht : ∀ {Q E : Value → Shared → Prop}, Subs w.s v → wpAny (model cx.prog cx.w) A (getItem v u) Q E w.s → wpAny (model cx.prog cx.w) A t Q E w.s) : Rf cx A p w (VR cx) (pItem o i) t := by
  cases i with
  | str k =>
    obtain ⟨tk, rfl⟩ := ri
    cases o with
    | cdict es =>
      obtain ⟨d, kvs, rfl, h1, h2, h3, h4⟩ := ro
      refine .read .opt fun x hx => .leaf fun H S => ?_
      obtain ⟨tx, hv⟩ := look_strAt h3 h4 hx
      exact ht (.dict h1) (getItem_dict h1 hv (.tok S _ .str))
    | loc l =>
      obtain ⟨a, rfl, hl⟩ := ro
      refine .read (dictAt_rd hl) fun es ⟨kvs, h1, h2, h3, h4⟩ => ?_
      cases hk : look es k with
      | none => exact .stuck
      | some x =>
        obtain ⟨v, hv, rv⟩ := look_valueAt h3 h4 hk
        exact .leaf fun H S => ht (.dict h1) (getItem_dict h1 hv (.tok S _ (rv.mono (p := No) (.tok _))))
    | _ => exact .stuck
  | int k =>
    obtain ⟨tk, rfl⟩ := ri
    refine .read (seqOf_rd ro) fun xs ⟨l, vs, n, e, hl, hz, hvs⟩ => ?_
    subst e
    cases hj : idx k xs.length with
    | none => exact .stuck
    | some j =>
      show Rf cx A p w (VR cx) (ofOpt xs[j]?) t
      cases hx : xs[j]? with
      | none => exact .stuck
      | some x =>
        obtain ⟨y, hy, ry⟩ := hvs.get hx
        exact .leaf fun H S => ht (.seq hl) (getItem_seq hl (j := j) (by rw [hvs.size]; exact hj) (by rw [← Array.getElem?_toList]; exact hy) (by rw [hvs.size]; have := LIM_is; omega) (.here S ry))
  | _ => exact .stuck
end
end Mine


set_option autoImplicit false
set_option linter.unusedVariables false
namespace Mine
open PySem PyProof.Rows PySem.SeqAt

section
variable {cx : Cx} {A : Around} {p : Addr → Prop} {w : Wl} {H : AHeap}

theorem pushk {h : Heap} (o : Obj) : ∀ b q, h.get? b = some q → (h.push o).get? b = some q := fun b q e => Heap.get?_push_of_some _ e
theorem cut_vrs {xs : List AV} {vs : Array Value} (r : VRs cx w xs vs.toList) (lo hi : Option Int) : VRs cx w (cut xs lo hi) (slicePick vs lo hi none).toList := by
  rw [slicePick_plain]
  unfold cut
  rw [r.size]
  exact (r.drop _).take _
/-- t[:b] of a tuple -/
theorem sliceApplied_upto {sl : Addr} {b n : Nat} {u : Tok} {s : Shared} {E : Value → Shared → Prop} {Q : Int × Int × Nat → Shared → Prop} (hs : s.heap.IsSliceOf sl .none (.int b u) .none) (hb : b ≤ n) (h : Q (0, 1, b) s) :
    wpAny (model cx.prog cx.w) A (Builtin.Slice.sliceApplied (.ref sl) (pure (n : Int))) Q E s := by
  obtain ⟨os, hos, hcs, hds⟩ := id hs
  unfold Builtin.Slice.sliceApplied Builtin.Slice.sliceFields
  refine wpAny_bind (wpAny_bind (wpAny_field hos hds (x := .none) rfl (wpAny_bind (wpAny_field hos hds (x := .int b u) rfl (wpAny_bind (wpAny_field hos hds (x := .none) rfl (wpAny_pure ?_)))))))
  refine wpAny_bind (slicePart_none ?_)
  show wpAny _ _ (if ((1 : Int) == 0) = true then _ else _) _ _ s
  rw [if_neg (by decide)]
  refine wpAny_bind (slicePart_none (wpAny_bind (slicePart_int (wpAny_bind (wpAny_pure ?_)))))
  have e1 : Builtin.Slice.sliceAdjust none (some (b : Int)) 1 (n : Int) = (0, (b : Int)) := by
    unfold Builtin.Slice.sliceAdjust
    have h2 : ¬ ((b : Int) < 0) := by omega
    have h1 : ¬ ((1 : Int) < 0) := by omega
    simp only [h1, h2, if_false]
    congr 1
    omega
  have e2 : Builtin.Slice.slicePlaces 0 (b : Int) 1 = b := by
    unfold Builtin.Slice.slicePlaces
    have h1 : (1 : Int) > 0 := by omega
    simp only [h1, if_true, Int.ediv_one]
    split <;> omega
  show wpAny _ _ (match Builtin.Slice.sliceAdjust none (some (b : Int)) 1 (n : Int) with | (lo, hi) => pure (lo, (1 : Int), Builtin.Slice.slicePlaces lo hi 1)) _ _ s
  rw [e1]
  show wpAny _ _ (pure (0, (1 : Int), Builtin.Slice.slicePlaces 0 (b : Int) 1)) _ _ s
  rw [e2]
  exact wpAny_pure h
theorem pick_upto (xs : Array Value) (b : Nat) : ((List.range b).filterMap fun (k : Nat) => xs[((0 : Int) + (k : Int) * 1).toNat]?).toArray = (xs.toList.take b).toArray := by
  have e : (fun (k : Nat) => xs[((0 : Int) + (k : Int) * 1).toNat]?) = fun k => xs[0 + k]? := by
    funext k
    rw [Int.mul_one, Int.zero_add, Int.toNat_natCast, Nat.zero_add]
  rw [e]
  have := pick_run xs 0 b
  rw [List.filterMap_map] at this
  rw [show (fun k => xs[0 + k]?) = ((fun x => xs[x]?) ∘ fun x => 0 + x) from rfl, this, List.drop_zero]
theorem getItem_tuple_upto {t sl : Addr} {items : Array Value} {b n : Nat} {u : Tok} {s : Shared} {E : Value → Shared → Prop} {Q : Value → Shared → Prop} (ht : IsT s.heap t items n) (hs : s.heap.IsSliceOf sl .none (.int b u) .none) (hb : b < items.size)
    (h : Q (.ref s.heap.objs.size) { s with heap := s.heap.push { cls := .type "tuple", data := .seq (items.toList.take b).toArray } })
    (hsz : items.size ≤ sizeLine) : wpAny (model cx.prog cx.w) A (getItem (.ref t) (.ref sl)) Q E s := by
  have hdrop : sizeOk (.seq (items.toList.take b).toArray) := by
    show (items.toList.take b).toArray.size ≤ sizeLine
    rw [List.size_toArray, List.length_take, Array.length_toList]
    exact Nat.le_trans (Nat.min_le_right _ _) hsz
  have hT : s.TypeIs (.ref t) "tuple" := ⟨_, ht, rfl⟩
  obtain ⟨os, hos, hcs, hds⟩ := id hs
  have hTs : s.TypeIs (.ref sl) "slice" := ⟨os, hos, hcs⟩
  unfold getItem
  try with_reducible refine wpAny_holding ?_
  first | refine wpAny_bind (wpAny_pure ?_) | skip
  refine wpAny_bind (wpAny_sequenceKey hT (by decide) ?_)
  refine wpAny_bind (wpAny_callSpecial?_slot (name := Str.ofString "__getitem__") hT slot_tuple_getitem
    (wpAny_call_entry slot_tuple_getitem hT entry_tuple_getitem ?_ (args_tuple_getitem _ _)))
  show wpAny _ _ (Builtin.Tuple.tupleItemsOf (.ref t) >>= _) _ _ s
  refine wpAny_bind (tupleItemsOf_ ⟨_, ht, rfl, n, rfl⟩ ?_)
  refine wpAny_bind (wpAny_typeOf hTs ?_)
  rw [if_pos (by decide)]
  refine wpAny_bind (sliceApplied_upto hs (Nat.le_of_lt hb) ?_)
  have hno : ¬ (((0 : Int) == 0 && (1 : Int) == 1 && b == items.size) = true) := by
    rw [show (b == items.size) = false from beq_eq_false_iff_ne.mpr (Nat.ne_of_lt hb)]; decide
  show wpAny _ _ (if ((0 : Int) == 0 && (1 : Int) == 1 && b == items.size) = true then _ else _) _ _ s
  rw [if_neg hno, pick_upto items b]
  first
    | exact wpAny_bind (m := Builtin.Tuple.tupleExact _) (wpAny_newObj_type (wpAny_pure ⟨_, rfl, wpAny_pure h⟩) hdrop)
    | exact wpAny_bind (m := Builtin.Tuple.tupleExact _) (wpAny_newObj_type (wpAny_bind (wpAny_pure (wpAny_pure ⟨_, rfl, wpAny_pure h⟩))) hdrop)
    | exact wpAny_bind (wpAny_bind (m := Builtin.Tuple.tupleExact _) (wpAny_newObj_type (wpAny_pure (wpAny_pure ⟨_, rfl, wpAny_pure h⟩)) hdrop))
    | exact wpAny_bind (wpAny_bind (m := Builtin.Tuple.tupleExact _) (wpAny_newObj_type (wpAny_pure ⟨_, rfl, wpAny_pure h⟩) hdrop))
theorem slice_rf {mu : Bool} {o : AV} {sl : Addr} {v vl vu : Value} {lo hi : Option Int} {t : Sem Value} (ro : VR cx w o v) (hs : w.s.heap.IsSliceOf sl vl vu .none) (pl : IsPart vl lo) (pu : IsPart vu hi)
    (ht : ∀ {Q E : Value → Shared → Prop}, Subs w.s v → wpAny (model cx.prog cx.w) A (getItem v (.ref sl)) Q E w.s → wpAny (model cx.prog cx.w) A t Q E w.s) : Rf cx A p w (VR cx) (pSlice mu o lo hi) t := by
  have lists : Rf cx A p w (VR cx) (do let xs ← listOf o; newL mu (cut xs lo hi)) t := .read (listOf_rd ro) fun xs ⟨a, vs, n, e, hl, hz, hvs⟩ H S r H' he => by
    subst e
    exact ht (.list hl) (wpAny_getItem_list_slice hl.isList hs pl pu .none (by simp) (newL_post S he (t := w.s.toks) (pushk _) (get_size _) (IsL.new _ _) (cut_vrs hvs lo hi)) (by rw [hvs.size]; exact Nat.le_trans hz LIM_le))
  cases o with
  | tup xs =>
    cases lo with
    | some _ => exact .stuck
    | none =>
      cases hi with
      | none => exact .stuck
      | some b =>
        refine ite_rf (fun hb => .leaf fun H S => ?_) fun _ => .stuck
        obtain ⟨a, vs, n, rfl, h1, h2, h3, h4⟩ := ro
        cases pl
        cases pu with | int _ u =>
        obtain ⟨k, rfl⟩ := Int.eq_ofNat_of_zero_le hb.1
        have hk : k < xs.length := Int.ofNat_lt.mp hb.2
        refine ht (.tuple h1) (getItem_tuple_upto h1 hs (by rw [h4.size]; exact hk) ?_ (by rw [h4.size]; exact Nat.le_trans h3 LIM_le))
        exact ⟨w.ι, w.π, _, rfl, .keeps (pushk _), S.keeps (t := w.s.toks) (pushk _), .tup (IsT.new _ _) (S.new (get_size _)) (by rw [List.length_take]; exact Nat.le_trans (Nat.min_le_right _ _) h3) ((h4.take k).mono (p := No) (.keeps (pushk _)))⟩
  | _ => exact lists
/-- a store into a list or a dict -/
theorem stored_map {es : List (Str × AV)} {kvs : List (Str × Value)} {k : Str} {a : AV} {v : Value} (ra : VR cx w a v) (he : kvs.map (·.1) = es.map (·.1)) (r : VRs cx w (es.map (·.2)) (kvs.map (·.2))) :
    (kvs.map fun e => if e.1 = k then (e.1, v) else e).map (·.1) = (es.map fun e => if e.1 = k then (e.1, a) else e).map (·.1) ∧ VRs cx w ((es.map fun e => if e.1 = k then (e.1, a) else e).map (·.2)) ((kvs.map fun e => if e.1 = k then (e.1, v) else e).map (·.2)) := by
  induction es generalizing kvs with
  | nil => cases kvs with | nil => exact ⟨rfl, .nil⟩ | cons _ _ => cases he
  | cons e es ih =>
    cases kvs with
    | nil => cases he
    | cons kv kvs =>
      obtain ⟨h1, h2⟩ := List.cons.inj he
      obtain ⟨x, us, q, r1, r2⟩ := r
      obtain ⟨q1, q2⟩ := List.cons.inj q
      obtain ⟨i1, i2⟩ := ih h2 (q2 ▸ r2)
      have h1 : kv.1 = e.1 := h1
      have q1 : kv.2 = x := q1
      rw [List.map_cons, List.map_cons, List.map_cons, List.map_cons, List.map_cons, List.map_cons, i1]
      by_cases hk : e.1 = k
      · rw [if_pos hk, if_pos (h1.trans hk)]
        exact ⟨by rw [h1], .cons ra i2⟩
      · rw [if_neg hk, if_neg (fun z => hk (h1.symm.trans z))]
        exact ⟨by rw [h1], .cons (q1 ▸ r1) i2⟩
theorem stored_put {es : List (Str × AV)} {kvs : List (Str × Value)} {k : Str} {a : AV} {v : Value} (ra : VR cx w a v) (he : kvs.map (·.1) = es.map (·.1)) (r : VRs cx w (es.map (·.2)) (kvs.map (·.2))) :
    (stored kvs k v).map (·.1) = (put es k a).map (·.1) ∧ VRs cx w ((put es k a).map (·.2)) ((stored kvs k v).map (·.2)) := by
  have hany : kvs.any (fun kv => kv.1 = k) = es.any (fun e => e.1 = k) := by
    have : (kvs.map (·.1)).any (fun x => x = k) = (es.map (·.1)).any (fun x => x = k) := by rw [he]
    rw [List.any_map, List.any_map] at this; exact this
  unfold stored put
  rw [hany]
  split
  · exact stored_map ra he r
  · rw [List.map_append, List.map_append, List.map_append, List.map_append]
    exact ⟨by rw [he]; rfl, r.append (.cons ra .nil)⟩
theorem put_length (es : List (Str × AV)) (k : Str) (v : AV) : (put es k v).length ≤ es.length + 1 := by
  unfold put; split
  · rw [List.length_map]; exact Nat.le_succ _
  · rw [List.length_append]; exact Nat.le_refl _
theorem setItem_isL {l : Addr} {items : Array Value} {n : Nat} {k : Int} {t : Tok} {v : Value} {s : Shared} {E : Value → Shared → Prop} {Q : Unit → Shared → Prop} (hl : IsL s.heap l items n)
    (h0 : 0 ≤ k) (hfit : k < 2 ^ 63) (hn : k < items.size) (hQ : ∀ h' n', IsL h' l (items.setIfInBounds k.toNat v) n' → Heap.SameBut l s.heap h' → Q () { s with heap := h' }) :
    wpAny (model cx.prog cx.w) A (setItem (.ref l) (.int k t) v) Q E s := by
  unfold setItem
  try with_reducible refine wpAny_holding ?_
  first | refine wpAny_bind (wpAny_pure ?_) | skip
  refine wpAny_bind (wpAny_sequenceKey hl.isList.typeIs (by decide) ?_)
  refine wpAny_bind (wpAny_callSpecial?_slot (name := Str.ofString "__setitem__") hl.isList.typeIs slot_list_setitem
    (wpAny_call_entry slot_list_setitem hl.isList.typeIs entry_list_setitem ?_ (args_list_setitem _ _ _)))
  show wpAny _ _ (Builtin.List.listSubscript? (.int k t) >>= _) _ _ s
  refine wpAny_bind (wpAny_listSubscript_int (fitsIndex_of h0 hfit) ?_)
  clear hfit
  obtain ⟨j, rfl⟩ := Int.eq_ofNat_of_zero_le h0
  have hj : j < items.size := by omega
  have hx' : items[j]? = some items[j] := Array.getElem?_eq_getElem hj
  show wpAny _ _ ((seqItemAt l j >>= fun r => pure (r.map (j, ·))) >>= _) _ _ s
  refine wpAny_bind (wpAny_bind (wpAny_seqItemAt hl rfl (wpAny_pure ?_)))
  rw [hx']
  show wpAny _ _ (setSeqItemAt l j v >>= _) _ _ s
  refine wpAny_bind (wpAny_setSeqItemAt hl rfl ?_)
  first
    | exact wpAny_bind (wpAny_pure (wpAny_pure ⟨.none, rfl, wpAny_pure (hQ _ _ (IsL.update hl _) (Heap.SameBut.update ..))⟩))
    | exact wpAny_pure ⟨.none, rfl, wpAny_pure (hQ _ _ (IsL.update hl _) (Heap.SameBut.update ..))⟩
/-- no answer is asked of -/
def Ru {α β : Type} (w : Wl) (a : α) (b : β) : Prop := True
theorem storeK_rf {l : Nat} {a : Addr} {k : Str} {t : Tok} {x : AV} {u : Value} (hl : w.ι[l]? = some a) (rx : VR cx w x u) : Rf cx A p w Ru (storeK l k x) (setItem (.ref a) (.str k t) u) :=
  .read (dictAt_rd hl) fun es ⟨kvs, h1, h2, h3, h4⟩ => ite_rf (fun hlen H S r H' he => by
    cases he
    refine wpAny_setItem_pairs (strKind_is _ _ _ _) h1 (fun h' hd' hsb => ?_) ?_
    · obtain ⟨q1, q2⟩ := stored_put (k := k) rx h3 h4
      obtain ⟨l1, S'⟩ := S.turn (t := w.s.toks + 1) (o := .dict (put es k x)) hl (fun b q hb e => (hsb.2 b hb).trans e) fun l1 => ⟨_, hd', ⟨h2.1, Nat.le_trans (put_length es k x) hlen⟩, q1, q2.mono l1⟩
      exact ⟨_, _, _, rfl, l1.no, S', trivial⟩
    · have := congrArg List.length h3; simp only [List.length_map] at this; have := LIM_le; omega) fun _ => .stuck
theorem storeI_rf {l : Nat} {a : Addr} {k : Int} {t : Tok} {x : AV} {u : Value} (hl : w.ι[l]? = some a) (rx : VR cx w x u) : Rf cx A p w Ru (storeI l k x) (setItem (.ref a) (.int k t) u) :=
  .read (listAt_rd hl) fun xs ⟨vs, n, hL, hz, hs⟩ => ite_rf (fun hk H S r H' he => by
    cases he
    have hsz := hs.size
    have hz' := LIM_is
    refine setItem_isL hL hk.1 (by omega) (by omega) fun h' n' hL' hsb => ?_
    obtain ⟨l1, S'⟩ := S.turn (t := w.s.toks) (o := .list (xs.set k.toNat x)) hl (fun b q hb e => (hsb.2 b hb).trans e) fun l1 => by
      refine ⟨_, n', hL', by rw [List.length_set]; exact hz, ?_⟩
      rw [Array.toList_setIfInBounds]
      exact (hs.set _ rx).mono l1
    exact ⟨_, _, _, rfl, l1.no, S', trivial⟩) fun _ => .stuck
theorem store_rf {o i x : AV} {v u y : Value} (ro : VR cx w o v) (ri : VR cx w i u) (rx : VR cx w x y) : Rf cx A p w Ru (pStore o i x) (setItem v u y) := by
  cases o with
  | loc l =>
    cases i with
    | str k => exact ro.locE fun a hl => ri.strE fun t => storeK_rf hl rx
    | int k => exact ro.locE fun a hl => ri.intE fun t => storeI_rf hl rx
    | _ => exact .stuck
  | _ => exact .stuck

/-- isinstance -/
noncomputable def tyStr : Ty → String
  | .int => "int"
  | .bool => "bool"
  | .str => "str"
  | .tuple => "tuple"
  | .list => "list"
theorem isi_list {l : Addr} {vs : Array Value} {n : Nat} (hl : IsL w.s.heap l vs n) (t : Ty) : Rf cx A p w Rb (pure (tyLe .list t)) (call (.builtin "isinstance") [.ref l, .type (tyStr t)]) := .leaf fun H S => by
  have hL := hl.isList
  cases t with
  | int => exact IsiPair.isList_int hL (fun _ _ e => e) (.tok S _ rfl)
  | bool => exact IsiPair.isList_bool hL (fun _ _ e => e) (.tok S _ rfl)
  | str => exact IsiPair.isList_str hL (fun _ _ e => e) (.tok S _ rfl)
  | tuple => exact IsiPair.isList_tuple hL (fun _ _ e => e) (.tok S _ rfl)
  | list => exact IsiPair.isList_list hL (fun _ _ e => e) (.here S rfl)
theorem isi_rf {a : AV} {t : Ty} {v : Value} (ra : VR cx w a v) : Rf cx A p w Rb (pIsi a t) (call (.builtin "isinstance") [v, .type (tyStr t)]) := by
  cases a with
  | none =>
    refine ra.noneE (.leaf fun H S => ?_)
    cases t with
    | int => exact IsiPair.NoneType_int (.tok S _ rfl)
    | bool => exact IsiPair.NoneType_bool (.tok S _ rfl)
    | str => exact IsiPair.NoneType_str (.tok S _ rfl)
    | tuple => exact IsiPair.NoneType_tuple (.tok S _ rfl)
    | list => exact IsiPair.NoneType_list (.tok S _ rfl)
  | bool b =>
    refine ra.boolE (.leaf fun H S => ?_)
    cases t with
    | int => exact IsiPair.bool_int (.here S rfl)
    | bool => exact IsiPair.bool_bool (.here S rfl)
    | str => exact IsiPair.bool_str (.tok S _ rfl)
    | tuple => exact IsiPair.bool_tuple (.tok S _ rfl)
    | list => exact IsiPair.bool_list (.tok S _ rfl)
  | int i =>
    refine ra.intE fun u => .leaf fun H S => ?_
    cases t with
    | int => exact IsiPair.int_int (.here S rfl)
    | bool => exact IsiPair.int_bool (.tok S _ rfl)
    | str => exact IsiPair.int_str (.tok S _ rfl)
    | tuple => exact IsiPair.int_tuple (.tok S _ rfl)
    | list => exact IsiPair.int_list (.tok S _ rfl)
  | str x =>
    refine ra.strE fun u => .leaf fun H S => ?_
    cases t with
    | int => exact IsiPair.str_int (.tok S _ rfl)
    | bool => exact IsiPair.str_bool (.tok S _ rfl)
    | str => exact IsiPair.str_str (.here S rfl)
    | tuple => exact IsiPair.str_tuple (.tok S _ rfl)
    | list => exact IsiPair.str_list (.tok S _ rfl)
  | tup xs =>
    refine ra.tupE fun l vs n hl _ _ _ => .leaf fun H S => ?_
    have hL : w.s.heap.IsTuple l vs := ⟨_, hl, rfl, _, rfl⟩
    cases t with
    | int => exact IsiPair.isTuple_int hL (fun _ _ e => e) (.tok S _ rfl)
    | bool => exact IsiPair.isTuple_bool hL (fun _ _ e => e) (.tok S _ rfl)
    | str => exact IsiPair.isTuple_str hL (fun _ _ e => e) (.tok S _ rfl)
    | tuple => exact IsiPair.isTuple_tuple hL (fun _ _ e => e) (.here S rfl)
    | list => exact IsiPair.isTuple_list hL (fun _ _ e => e) (.tok S _ rfl)
  | lst xs => exact ra.lstE fun l vs n hl _ _ _ => isi_list hl t
  | loc i => exact ra.locE fun l h => .read (listAt_rd h) fun xs ⟨vs, n, hl, _⟩ => isi_list hl t
  | _ => exact .stuck
end
end Mine


set_option autoImplicit false
set_option linter.unusedVariables false
namespace Mine
open PySem PyProof.Rows PySem.SeqAt

section
variable {cx : Cx} {A : Around} {p : Addr → Prop} {w : Wl} {H : AHeap}
-- methods of lists
theorem toList_eraseIdx (vs : Array Value) (k : Nat) (hk : k < vs.size) : (vs.eraseIdxIfInBounds k).toList = vs.toList.eraseIdx k := by
  rw [Array.eraseIdxIfInBounds, dif_pos hk]; exact Array.toList_eraseIdx
theorem St.listTurn (S : St cx w H) {i : Nat} {a : Addr} {ws : Array Value} {n : Nat} {xs : List AV} (f : Array Value → Array Value) (hl : w.ι[i]? = some a) (hL : IsL w.s.heap a ws n) (hz : xs.length ≤ LIM) (hs : VRs cx w xs (f ws).toList) :
    Le No w ⟨w.ι, w.π, { w.s with heap := w.s.heap.update a (Obj.mapSeq f) }⟩ ∧ St cx ⟨w.ι, w.π, { w.s with heap := w.s.heap.update a (Obj.mapSeq f) }⟩ (H.set i (.list xs)) :=
  S.turn (t := w.s.toks) hl (fun b q hb e => (Heap.get?_update_other _ _ (Ne.symm hb)).trans e) fun l => ⟨_, _, IsL.update hL f, hz, hs.mono l⟩
/-- a list is turned, and c answered -/
theorem turn_post (S : St cx w H) {i : Nat} {a : Addr} {ws : Array Value} {n : Nat} {xs : List AV} {c : AV} {v : Value} {r : Except Str AV} {H' : AHeap} (f : Array Value → Array Value) (hl : w.ι[i]? = some a) (hL : IsL w.s.heap a ws n) (hz : xs.length ≤ LIM) (hs : VRs cx w xs (f ws).toList) (rc : VR cx w c v)
    (he : (do setAt i (.list xs); pure c : M AV) H = some (r, H')) : Post cx p w (VR cx) r H' v { w.s with heap := w.s.heap.update a (Obj.mapSeq f) } := by
  cases he
  obtain ⟨l, S'⟩ := S.listTurn f hl hL hz hs
  exact ⟨_, _, _, rfl, l.no, S', rc.mono l⟩
section
variable {i : Nat} {a : Addr} {xs : List AV} {ws : Array Value} {n : Nat} (hl : w.ι[i]? = some a) (hL : IsL w.s.heap a ws n) (hz : xs.length ≤ LIM) (hs : VRs cx w xs ws.toList)
include hl hL hz hs
theorem append_rf : ∀ {as : List AV} {vs : List Value}, VRs cx w as vs → Rf cx A p w (VR cx) (mAppend i xs as) (PySem.call (.builtin "list.append") (.ref a :: vs))
  | [], _, _ => .stuck
  | _ :: _ :: _, _, _ => .stuck
  | [c], vs, r => r.consE fun v us rc r0 => r0.nilE (ite_rf (fun h H S q H' he => call_meets F.slot_list_append ⟨_, hL, rfl⟩ F.entry_list_append (F.args_list_append_2 _ _) (list_append _ ws n v (by rw [hs.size]; exact Nat.le_trans hz LIM_le))
      ⟨hL, turn_post S (fun x1 => x1.push v) hl hL (by rw [List.length_append]; exact h) (by rw [Array.toList_push]; exact hs.append (.cons rc .nil)) .none he⟩) fun _ => .stuck)
theorem popAt_post {j : Nat} {y : AV} {yv : Value} (S : St cx w H) (hy : xs[j]? = some y) (ry : VR cx w y yv) {r : Except Str AV} {H' : AHeap} (he : popAt i xs j H = some (r, H')) : Post cx p w (VR cx) r H' yv { w.s with heap := w.s.heap.update a (Obj.mapSeq fun x1 => x1.eraseIdxIfInBounds j) } := by
  unfold popAt at he
  rw [hy] at he
  exact turn_post S (fun x1 => x1.eraseIdxIfInBounds j) hl hL (Nat.le_trans (List.length_eraseIdx_le xs j) hz) (by rw [toList_eraseIdx _ _ (by rw [hs.size]; exact (List.getElem?_eq_some_iff.mp hy).1)]; exact hs.eraseIdx j) ry he
theorem pop_rf {as : List AV} {vs : List Value} (r : VRs cx w as vs) : Rf cx A p w (VR cx) (mPop i xs as) (PySem.call (.builtin "list.pop") (.ref a :: vs)) := by
  have hLIM := LIM_is
  have hsz := hs.size
  have hw : ws.size ≤ sizeLine := by rw [hsz]; exact Nat.le_trans hz LIM_le
  match as, r with
  | [], r =>
    refine r.nilE ?_
    cases hy : xs[xs.length - 1]? with
    | none => show Rf cx A p w (VR cx) (popAt i xs (xs.length - 1)) _; unfold popAt; rw [hy]; exact .stuck
    | some y =>
      obtain ⟨yv, hyv, ry⟩ := hs.get hy
      exact fun H S q H' he => call_meets F.slot_list_pop ⟨_, hL, rfl⟩ F.entry_list_pop (F.args_list_pop_1 _) (MeetsSeq.list_pop_last _ ws n yv (by rw [← Array.getElem?_toList, hsz]; exact hyv) hw) ⟨hL, by rw [hsz]; exact popAt_post hl hL hz hs S hy ry he⟩
  | [c], r =>
    cases c with
    | int k =>
      refine r.consE fun v us rc r0 => r0.nilE (rc.intE fun t => ite_rf (fun hk => ?_) fun _ => .stuck)
      cases hy : xs[k.toNat]? with
      | none => unfold popAt; rw [hy]; exact .stuck
      | some y =>
        obtain ⟨yv, hyv, ry⟩ := hs.get hy
        exact fun H S q H' he => call_meets F.slot_list_pop ⟨_, hL, rfl⟩ F.entry_list_pop (F.args_list_pop_2 _ _) (MeetsSeq.list_pop_at _ ws n k _ k.toNat yv (fitsIndex_of hk.1 (by omega)) (seqIndex_of hk.1 (by omega)) (by rw [← Array.getElem?_toList]; exact hyv) hw) ⟨hL, popAt_post hl hL hz hs S hy ry he⟩
    | _ => exact .stuck
  | _ :: _ :: _, _ => exact .stuck
end
noncomputable def mtId : Mt → String
  | .append => "list.append"
  | .pop => "list.pop"
  | .clear => "list.clear"
  | .count => "list.count"
theorem methL_rf (R : Room A) {m : Mt} {i : Nat} {a : Addr} {xs as : List AV} {ws : Array Value} {n : Nat} {vs : List Value} (hl : w.ι[i]? = some a) (hL : IsL w.s.heap a ws n) (hz : xs.length ≤ LIM) (hs : VRs cx w xs ws.toList) (r : VRs cx w as vs) :
    Rf cx A p w (VR cx) (methL i xs as m) (PySem.call (.builtin (mtId m)) (.ref a :: vs)) := by
  cases m with
  | append => exact append_rf hl hL hz hs r
  | pop => exact pop_rf hl hL hz hs r
  | clear => exact .stuck
  | count => exact .stuck

-- built-in functions and types
noncomputable def biV : BI → Value
  | .len => .builtin "len"
  | .list => .type "list"
  | .tuple => .type "tuple"
  | .dict => .type "dict"
  | .int => .type "int"
  | .range => .type "range"
  | .min => .builtin "min"
  | .max => .builtin "max"
  | .any => .builtin "any"
  | .sorted => .builtin "sorted"
theorem small_of {a b : Int} (h : (small62 a && small62 b) = true) : Builtin.Range.small a b 1 = true := by
  unfold small62 at h
  simp only [Bool.and_eq_true, decide_eq_true_eq] at h
  exact small_one h.1.1 h.1.2 h.2.1 h.2.2
theorem range_count (a b : Int) : Builtin.Range.rangeSize a b 1 = ((b - a).toNat : Nat) := by
  rw [rangeSize_one]; split <;> omega
theorem VRs.at {xs : List AV} : ∀ {vs : List Value}, xs.length = vs.length → (∀ (j : Nat) a v, xs[j]? = some a → vs[j]? = some v → VR cx w a v) → VRs cx w xs vs := by
  induction xs with
  | nil => intro vs h _; rw [List.eq_nil_of_length_eq_zero h.symm]; exact .nil
  | cons a xs ih =>
    intro vs h k
    cases vs with
    | nil => cases h
    | cons v vs => exact .cons (k 0 a v rfl rfl) (ih (Nat.succ.inj h) fun j b u h1 h2 => k (j + 1) b u h1 h2)
theorem one_rf {as : List AV} {f : AV → M AV} {vs : List Value} {c : Value} (r : VRs cx w as vs) (k : ∀ a v, VR cx w a v → Rf cx A p w (VR cx) (f a) (PySem.call c [v])) : Rf cx A p w (VR cx) (one as f) (PySem.call c vs) := by
  match as, r with
  | [], _ => exact .stuck
  | _ :: _ :: _, _ => exact .stuck
  | [a], r => exact r.consE fun v us ra r0 => r0.nilE (k a v ra)
theorem len_rf {a : AV} {v : Value} (ra : VR cx w a v) : Rf cx A p w (VR cx) (do let xs ← seqOf a; pure (.int xs.length)) (PySem.call (.builtin "len") [v]) := .read (seqOf_rd ra) fun xs ⟨l, ws, n, e, hl, hz, hvs⟩ => by
  subst e
  have hsz := hvs.size
  have hLIM := LIM_is
  cases hl with
  | list hl => exact .leaf fun H S => PySem.Calls.call_len_list hl.isList (by omega) (by rw [hsz]; exact .tok S _ .int)
  | tuple hl => exact .leaf fun H S => P.len_tuple hl (by omega) (by rw [hsz]; exact .tok S _ .int)
theorem list_rf (hh : A.handled = none) {mu : Bool} {a : AV} {v : Value} (ra : VR cx w a v) : Rf cx A p w (VR cx) (bList mu a) (PySem.call (.type "list") [v]) := by
  have seqs : Rf cx A p w (VR cx) (do let xs ← seqOf a; newL mu xs) (PySem.call (.type "list") [v]) := .read (seqOf_rd ra) fun xs ⟨l, ws, n, e, hl, hz, hvs⟩ H S r H' he => by
    subst e
    have hw : ws.size ≤ sizeLine := by rw [hvs.size]; exact Nat.le_trans hz LIM_le
    cases hl with
    | list hl => exact call_list_seq l (.inl rfl) hl rfl rfl (fun h' c' hk hL => newL_post S he (t := w.s.toks) hk (get_size _) hL hvs) hw
    | tuple hl => exact call_list_seq l (.inr rfl) hl rfl rfl (fun h' c' hk hL => newL_post S he (t := w.s.toks) hk (get_size _) hL hvs) hw
  cases a with
  | range a b =>
    refine ra.rangeE fun d t u x hr hf => ite_rf (fun hsm H S r H' he => ?_) fun _ => .stuck
    have hlen := newL_len he
    unfold rangeL at hlen
    rw [List.length_map, List.length_range] at hlen
    refine call_list_range hh hr (small_of hsm) (range_count _ _) (Nat.le_trans hlen LIM_le) fun h' tk acc' c' hk hL hit => newL_post S he hk (get_size _) hL ?_
    unfold rangeL
    refine .at (by rw [List.length_map, List.length_range]; exact hit.1.symm) fun j a v h1 h2 => ?_
    rw [List.getElem?_map] at h1
    obtain ⟨i, h3, rfl⟩ := Option.map_eq_some_iff.mp h1
    obtain ⟨h4, h5⟩ := List.getElem?_eq_some_iff.mp h3
    rw [List.getElem_range] at h5
    subst h5
    obtain ⟨t, rfl⟩ := hit.2 j v (by rw [← Array.getElem?_toList]; exact h2)
    rw [Int.mul_one]; exact .int
  | _ => exact seqs
theorem tuple_rf {a : AV} {v : Value} (ra : VR cx w a v) : Rf cx A p w (VR cx) (do let xs ← listOf a; pure (.tup xs)) (PySem.call (.type "tuple") [v]) := .read (listOf_rd ra) fun xs ⟨l, ws, n, e, hl, hz, hvs⟩ => .leaf fun H S => by
  subst e
  refine call_tuple_list hl.isList (fun h' hk => ?_) (by rw [hvs.size]; exact Nat.le_trans hz LIM_le)
  have l1 : Le No w ⟨w.ι, w.π, { w.s with heap := h' }⟩ := .keeps hk
  have S₁ : St cx ⟨w.ι, w.π, { w.s with heap := h' }⟩ H := S.keeps (t := w.s.toks) hk
  exact ⟨w.ι, w.π, _, rfl, .trans (b := ⟨w.ι, w.π, { w.s with heap := h' }⟩) l1.no (.keeps (pushk _)), S₁.keeps (t := w.s.toks) (pushk _), .tup (IsT.new _ _) (S₁.new (get_size _)) hz ((hvs.mono l1).mono (p := No) (.keeps (pushk _)))⟩
theorem int_rf {a : AV} {v : Value} (ra : VR cx w a v) : Rf cx A p w (VR cx) (bInt a) (PySem.call (.type "int") [v]) := by
  cases a with
  | bool b => exact ra.boolE (.leaf fun H S => call_int_bool (.tok S _ .int))
  | _ => exact .stuck
theorem range_rf {as : List AV} {vs : List Value} (r : VRs cx w as vs) : Rf cx A p w (VR cx) (bRange as) (PySem.call (.type "range") vs) := by
  match as, r with
  | [], _ => exact .stuck
  | _ :: _ :: _ :: _, _ => exact .stuck
  | [a], r =>
    refine r.consE fun v us ra r0 => r0.nilE ?_
    cases a with
    | int i => exact ra.intE fun t => .leaf fun H S => call_range_1 ⟨w.ι, w.π, _, rfl, .keeps (pushk _), S.keeps (pushk _), ⟨_, _, _, _, rfl, IsRange.new .., S.new (get_size _)⟩⟩
    | _ => exact .stuck
  | [a, b], r =>
    refine r.consE fun v us ra r0 => r0.consE fun v' us' rb r1 => r1.nilE ?_
    cases a with
    | int i =>
      cases b with
      | int j => exact ra.intE fun t => rb.intE fun u => .leaf fun H S => call_range_2 ⟨w.ι, w.π, _, rfl, .keeps (pushk _), S.keeps (pushk _), ⟨_, _, _, _, rfl, IsRange.new .., S.new (get_size _)⟩⟩
      | _ => exact .stuck
    | _ => exact .stuck
theorem min_rf (hh : A.handled = none) {as : List AV} {vs : List Value} (r : VRs cx w as vs) : Rf cx A p w (VR cx) (bMin as) (PySem.call (.builtin "min") vs) := by
  match as, r with
  | [], _ => exact .stuck
  | [_], _ => exact .stuck
  | _ :: _ :: _ :: _, _ => exact .stuck
  | [a, b], r =>
    refine r.consE fun v us ra r0 => r0.consE fun v' us' rb r1 => r1.nilE ?_
    cases a with
    | int i =>
      cases b with
      | int j =>
        refine ra.intE fun t => rb.intE fun u => .leaf fun H S => min_two_ints hh fun h' tk hk => ⟨w.ι, w.π, _, rfl, .keeps hk, S.keeps hk, ?_⟩
        split <;> exact .int
      | _ => exact .stuck
    | _ => exact .stuck
theorem bi_rf (hh : A.handled = none) {mu : Bool} {b : BI} {as : List AV} {vs : List Value} (r : VRs cx w as vs) : Rf cx A p w (VR cx) (pBI mu b as) (PySem.call (biV b) vs) := by
  cases b with
  | len => exact one_rf r fun a v ra => len_rf ra
  | list => exact one_rf r fun a v ra => list_rf hh ra
  | tuple => exact one_rf r fun a v ra => tuple_rf ra
  | dict => exact .stuck
  | int => exact one_rf r fun a v ra => int_rf ra
  | range => exact range_rf r
  | min => exact min_rf hh r
  | max => exact .stuck
  | any => exact .stuck
  | sorted => exact .stuck
end
end Mine


set_option autoImplicit false
set_option linter.unusedVariables false
namespace Mine
open PySem PyProof.Rows PySem.SeqAt

/-- ev does what the machine's eval does, wherever I stands -/
def EvOK (cx : Cx) (A : Around) (env : Env) (I : Wl → Prop) (ev : Expr → M AV) : Prop := ∀ e w, I w → Rf cx A No w (VR cx) (ev e) (eval e env)
def Stable (I : Wl → Prop) : Prop := ∀ w w', I w → Le No w w' → I w'
section
variable {cx : Cx} {A : Around} {p : Addr → Prop} {w : Wl} {α β γ δ : Type} {R : Wl → α → β → Prop} {m : M α} {t : Sem β}
theorem Rf.pureL {b : γ} {k : γ → Sem β} (x : Rf cx A p w R m (k b)) : Rf cx A p w R m (Pure.pure b >>= k) := fun H S r H' h => wpAny_bind (wpAny_pure (x H S r H' h))
theorem Rf.pureR {a : γ} {f : γ → M α} (x : Rf cx A p w R (f a) t) : Rf cx A p w R (Pure.pure a >>= f) t := by rw [pure_bind]; exact x
theorem Rf.operate {R : Wl → α → Value → Prop} {t : Sem Value} {vs : List Value} (x : Rf cx A p w R m t) : Rf cx A p w R m (PySem.operate vs t) := fun H S r H' h => wpAny_operating (x H S r H' h)
theorem Rf.release {vs ks : List Value} (x : Rf cx A p w R m t) : Rf cx A p w R m (PySem.release vs ks >>= fun _ => t) := fun H S r H' h => wpAny_bind (wpAny_release' (x H S r H' h))
theorem Rf.wp {t' : Sem β} (x : Rf cx A p w R m t) (h : ∀ {Q : β → Shared → Prop} {E : Value → Shared → Prop}, wpAny (model cx.prog cx.w) A t Q E w.s → wpAny (model cx.prog cx.w) A t' Q E w.s) : Rf cx A p w R m t' := fun H S r H' e => h (x H S r H' e)
end
section
variable {cx : Cx} {A : Around} {w : Wl} {env : Env} {I : Wl → Prop} {ev : Expr → M AV}
theorem exOk_star {e : Expr} {r : List Expr} (h : exOk e = true) : starEach (e :: r) env = (false, eval e env) :: starEach r env := by
  cases e <;> first | rfl | (cases h; done)
theorem exOk_behind {op : CmpOp} {e : Expr} {t : Sem Value} (h : exOk e = true) : markedBehindIn op e t = t := by
  cases e <;> first | rfl | (cases h; done)
theorem exOk_set {e : Expr} {v : Value} (h : exOk e = true) : foldedSetIterable e env v = pure v := by
  cases e <;> first | rfl | (cases h; done)
def VRn (cx : Cx) (n : Nat) (w : Wl) (as : List AV) (vs : List Value) : Prop := VRs cx w as vs ∧ as.length = n
theorem all_rf (hst : Stable I) (hev : EvOK cx A env I ev) (pos : Pos) : ∀ (es : List Expr) {w : Wl}, es.all exOk = true → I w → Rf cx A No w (VRn cx es.length) (evAll ev es) (spliced (backTo pos (starEach es env)))
  | [], w, _, i => .pure ⟨rfl, rfl⟩
  | e :: r, w, h, i => by
    rw [List.all_cons, Bool.and_eq_true] at h
    rw [exOk_star h.1]
    exact .bind (hev e w i) fun w1 a v l1 r1 => .pureL (.bind (.holding (all_rf hst hev pos r h.2 (hst _ _ i l1))) fun w2 as vs l2 r2 => .pure ⟨.cons (r1.mono l2) r2.1, congrArg Nat.succ r2.2⟩)
theorem each_rf (hst : Stable I) (hev : EvOK cx A env I ev) (pos : Pos) (es : List Expr) (i : I w) : Rf cx A No w (VRn cx es.length) (evEach ev es) (spliced (backTo pos (starEach es env))) := ite_rf (fun h => all_rf hst hev pos es h i) fun _ => .stuck
theorem bOp_rf (hst : Stable I) (hev : EvOK cx A env I ev) (pos : Pos) (op : BoolOp) : ∀ (es : List Expr) {w : Wl}, I w → Rf cx A No w (VR cx) (bOp ev op es) (boolOp pos op (evalEach es env))
  | [], w, i => .stuck
  | [e], w, i => hev e w i
  | e :: e2 :: r, w, i => by
    show Rf cx A No w (VR cx) _ (boolOp pos op (eval e env :: eval e2 env :: evalEach r env))
    rw [boolOp]
    · refine .bind (hev e w i) fun w1 a v l1 r1 => .standAt (.bind (.holding (truth_rf r1)) fun w2 x y l2 ⟨q1, q2⟩ => ?_)
      subst q1; subst q2
      have hb := r1.mono l2
      have ih := bOp_rf hst hev pos op (e2 :: r) (hst _ _ (hst _ _ i l1) l2)
      cases op <;> cases x
      · exact .pure hb
      · exact ih
      · exact ih
      · exact .pure hb
    · exact fun q => nomatch q
theorem marked_cons {op op' : CmpOp} {ops : List CmpOp} {e e' : Expr} {es : List Expr} : markedEach (op :: op' :: ops) (e :: e' :: es) (evalEach (e :: e' :: es) env) = eval e env :: markedEach (op' :: ops) (e' :: es) (evalEach (e' :: es) env) := rfl
theorem compareChain_two {pos : Pos} {v : Value} {op op' : CmpOp} {ops : List CmpOp} {x : Sem Value} {T : List (Sem Value)} : compareChain pos v (op :: op' :: ops) (x :: T) = (do
    let rv ← holding [v] x
    standAt pos
    let c ← holding [v, rv] (compareOp op v rv)
    release [v, rv] [c]
    if ← holding [c, rv] (truthy c) then compareChain pos rv (op' :: ops) T else pure c) := by
  rw [compareChain]
  intro q
  cases q
theorem testChain_two {pos : Pos} {v : Value} {op op' : CmpOp} {ops : List CmpOp} {x : Sem Value} {T : List (Sem Value)} : testChain pos v (op :: op' :: ops) (x :: T) = (do
    let rv ← holding [v] x
    standAt pos
    let c ← holding [v, rv] (compareOp op v rv)
    release [v, rv] [c]
    if ← holding [c, rv] (truthy c) then testChain pos rv (op' :: ops) T else pure false) := by
  rw [testChain]
  intro q
  cases q
theorem truthB_rf {b : Bool} {p : Addr → Prop} {α β : Type} {R : Wl → α → β → Prop} {m : M α} {vs : List Value} {k : Bool → Sem β} (x : Rf cx A p w R m (k b)) : Rf cx A p w R m (holding vs (truthy (.bool b)) >>= k) := fun H S r H' h => wpAny_bind (wpAny_holding (wpAny_truthy_bool (x H S r H' h)))
/-- a truth -/
def Rt (w : Wl) (a b : Bool) : Prop := a = b
theorem chain_rf (R : Room A) (hst : Stable I) (hev : EvOK cx A env I ev) (pos : Pos) : ∀ (ops : List CmpOp) (es : List Expr) {w : Wl} {a : AV} {v : Value}, I w → VR cx w a v →
    Rf cx A No w Rb (chain ev a ops es) (compareChain pos v ops (markedEach ops es (evalEach es env)))
  | [], _, w, a, v, i, r => .stuck
  | [op], [], w, a, v, i, r => .stuck
  | [op], _ :: _ :: _, w, a, v, i, r => .stuck
  | _ :: _ :: _, [], w, a, v, i, r => .stuck
  | op :: op' :: ops, [e], w, a, v, i, r => .stuck
  | [op], [e], w, a, v, i, r => ite_rf (fun hs => by
    show Rf cx A No w Rb (ev e >>= fun b => pCmp op a b) (compareChain pos v [op] [markedBehindIn op e (eval e env)])
    rw [exOk_behind hs, compareChain]
    exact .bind (.holding (hev e w i)) fun w1 b u l1 r1 => .standAt (.operate (cmp_rf R (r.mono l1) r1))) fun _ => .stuck
  | op :: op' :: ops, e :: e' :: es, w, a, v, i, r => by
    rw [marked_cons, compareChain_two]
    refine .bind (.holding (hev e w i)) fun w1 b u l1 r1 => .standAt (.bind (.holding (cmp_rf R (r.mono l1) r1)) fun w2 c x l2 q => .release ?_)
    rw [show x = .bool c from q]
    refine truthB_rf ?_
    cases c with
    | true => exact chain_rf R hst hev pos (op' :: ops) (e' :: es) (hst _ _ (hst _ _ i l1) l2) (r1.mono l2)
    | false => exact .pure rfl
theorem testChain_rf (R : Room A) (hst : Stable I) (hev : EvOK cx A env I ev) (pos : Pos) : ∀ (ops : List CmpOp) (es : List Expr) {w : Wl} {a : AV} {v : Value}, I w → VR cx w a v →
    Rf cx A No w Rt (chain ev a ops es) (testChain pos v ops (markedEach ops es (evalEach es env)))
  | [], _, w, a, v, i, r => .stuck
  | [op], [], w, a, v, i, r => .stuck
  | [op], _ :: _ :: _, w, a, v, i, r => .stuck
  | _ :: _ :: _, [], w, a, v, i, r => .stuck
  | op :: op' :: ops, [e], w, a, v, i, r => .stuck
  | [op], [e], w, a, v, i, r => ite_rf (fun hs => by
    show Rf cx A No w Rt (ev e >>= fun b => pCmp op a b) (testChain pos v [op] [markedBehindIn op e (eval e env)])
    rw [exOk_behind hs, testChain]
    refine .bind (.holding (hev e w i)) fun w1 b u l1 r1 => .standAt (.map (.operate (cmp_rf R (r.mono l1) r1)) fun w2 c x l2 q => ?_)
    rw [show x = .bool c from q]
    exact .leaf fun H S => wpAny_holding (wpAny_truthy_bool (.here S rfl))) fun _ => .stuck
  | op :: op' :: ops, e :: e' :: es, w, a, v, i, r => by
    rw [marked_cons, testChain_two]
    refine .bind (.holding (hev e w i)) fun w1 b u l1 r1 => .standAt (.bind (.holding (cmp_rf R (r.mono l1) r1)) fun w2 c x l2 q => .release ?_)
    rw [show x = .bool c from q]
    refine truthB_rf ?_
    cases c with
    | true => exact testChain_rf R hst hev pos (op' :: ops) (e' :: es) (hst _ _ (hst _ _ i l1) l2) (r1.mono l2)
    | false => exact .pure rfl
/-- a test, as if, while and comprehensions ask it -/
def TeOK (cx : Cx) (A : Around) (env : Env) (I : Wl → Prop) (te : Expr → M Bool) : Prop := ∀ e w, I w → Rf cx A No w Rt (te e) (isTrue e env (eval e env))
theorem tests_rf {te : Expr → M Bool} (hst : Stable I) (hte : TeOK cx A env I te) (op : BoolOp) : ∀ (es : List Expr) {w : Wl}, I w → Rf cx A No w Rt (tests te op es) (allTrue op es env)
  | [], w, i => by rw [allTrue]; exact .pure rfl
  | e :: r, w, i => by
    rw [allTrue]
    refine .bind (hte e w i) fun w1 x y l1 q => ?_
    rw [← show x = y from q]
    have ih := tests_rf hst hte op r (hst _ _ i l1)
    cases op <;> cases x
    · exact .pure rfl
    · exact ih
    · exact ih
    · exact .pure rfl
theorem denT_rf (R : Room A) (hst : Stable I) (hev : EvOK cx A env I ev) : ∀ n : Nat, TeOK cx A env I (denT ev n)
  | 0 => fun e w i => .stuck
  | n + 1 => fun e w i => by
    have ih := denT_rf R hst hev n
    have fin : ∀ e, Rf cx A No w Rt (plainT ev e) (do let v ← eval e env; standAt e.pos; holding [v] (truthy v)) := fun e => ite_rf (fun _ =>
      .bind (hev e w i) fun w1 a v l1 r1 => .standAt (.holding ((truth_rf r1).mono fun _ _ _ _ q => q.1))) fun _ => .stuck
    cases e with
    | UnaryOp op x p =>
      cases op with
      | Not =>
        show Rf cx A No w Rt (denT ev n x >>= fun b => pure (!b)) (PySem.isTrue x env (eval x env) >>= fun b => pure (!b))
        exact .bind (ih x w i) fun w1 b c l q => .pure (congrArg not q)
      | _ => exact fin _
    | BoolOp op vs p => exact (tests_rf hst ih op vs i).wp fun h => wpAny_isTrue_BoolOp h
    | Compare l ops cs p => rw [arm_isTrue_Compare]; exact .bind (hev l w i) fun w1 a v l1 r1 => testChain_rf R hst hev _ ops cs (hst _ _ i l1) r1
    | IfExp t b o p => exact .stuck
    | _ => exact fin _
end
end Mine


set_option autoImplicit false
set_option linter.unusedVariables false
namespace Mine
open PySem PyProof.Rows PySem.SeqAt

/-- the frame's own objects: its names' dict and its cells -/
def Own (env : Env) (b : Addr) : Prop := b = env.locals ∨ ∃ n, env.cells.lookup n = some b
structure EnvK (env : Env) (sc : Scope) : Prop where
  kind : env.scope.kind = .function
  glob : env.globals = mainGlobals
  blt : env.builtins = builtinsNs
  klocal : ∀ x, isLocal sc x = true → env.kindOf x = some .local ∨ env.kindOf x = some .cell ∨ env.kindOf x = some .free
  kcell : ∀ x, sc.names.lookup x = some .cell → env.kindOf x = some .cell
  kglob : ∀ x, isGlob sc x = true → env.kindOf x = some .globalImplicit
/-- the frame holds the names' values σ -/
structure EnvR (cx : Cx) (env : Env) (sc : Scope) (ns : List Str) (σ : Loc) (w : Wl) : Prop where
  k : EnvK env sc
  pl : env.locals ∈ w.π
  nsm : ∃ m, w.s.heap.Ns env.locals m ∧ ∀ (x : Str) (i : Nat) (a : AV), ns.idxOf? x = some i → σ[i]? = some (some a) → env.kindOf x = some .local → ∃ v, m x = some v ∧ VR cx w a v
  cel : ∀ (x : Str) (i : Nat) (a : AV), ns.idxOf? x = some i → σ[i]? = some (some a) → (env.kindOf x = some .cell ∨ env.kindOf x = some .free) → ∃ c v, env.cells.lookup x = some c ∧ c ∈ w.π ∧ w.s.heap.IsCell c (some v) ∧ VR cx w a v
  has : ∀ x, ns.contains x = true → sc.names.lookup x = some .cell → ∃ c v, env.cells.lookup x = some c ∧ c ∈ w.π ∧ w.s.heap.IsCell c v
  cls : ∀ n c, env.cells.lookup n = some c → c ∈ w.π
structure Good (cx : Cx) (P : Pg) : Prop where
  g : cx.h₀.Ns mainGlobals cx.mg
  b : cx.h₀.Ns builtinsNs cx.mb
  nolim : cx.h₀.NoLimit
  glob : ∀ x a, P.glob x = some a → ∃ v, cx.mg x = some v ∧ ∀ w H, St cx w H → VR cx w a v
  bi : ∀ x b, biOf x = some b → cx.mg x = none ∧ cx.mb x = some (biV b)
  isi : cx.mg "isinstance" = none ∧ cx.mb "isinstance" = some (.builtin "isinstance")
  ty : ∀ x t, tyOf x = some t → cx.mg x = none ∧ cx.mb x = some (.type (tyStr t))
  zip : cx.mg "zip" = none ∧ cx.mb "zip" = some (.type "zip")
  enum : cx.mg "enumerate" = none ∧ cx.mb "enumerate" = some (.type "enumerate")
/-- what is asked of the calls of the text's own defs -/
def CallOK (cx : Cx) (A : Around) (P : Pg) (cf : Str → List AV → M AV) : Prop := ∀ f, (P.fn f).isSome = true →
  (f == ("__debug__" : Str)) = false ∧ ∃ fa o fd, cx.mg f = some (.ref fa) ∧ cx.h₀.get? fa = some o ∧ o.data = .func fd ∧ ∀ w as vs, VRs cx w as vs → Rf cx A No w (VR cx) (cf f as) (PySem.call (.ref fa) vs)
section
variable {cx : Cx} {A : Around} {p : Addr → Prop} {w w' : Wl} {H : AHeap} {env : Env} {sc : Scope} {ns : List Str} {σ : Loc} {P : Pg}
theorem cell_keep {h h' : Heap} {c : Addr} {v : Option Value} (x : h.IsCell c v) (e : ∀ o, h.get? c = some o → h'.get? c = some o) : h'.IsCell c v := let ⟨o, h1, h2⟩ := x; ⟨o, e o h1, h2⟩
theorem EnvR.mono (x : EnvR cx env sc ns σ w) (l : Le p w w') (hp : ∀ b, Own env b → ¬ p b) : EnvR cx env sc ns σ w' where
  k := x.k
  pl := l.pv _ x.pl (hp _ (.inl rfl))
  nsm := let ⟨m, h1, h2⟩ := x.nsm; ⟨m, h1.at' fun o e => l.kp _ o x.pl (hp _ (.inl rfl)) e, fun y i a q1 q2 q3 => let ⟨v, r1, r2⟩ := h2 y i a q1 q2 q3; ⟨v, r1, r2.mono l⟩⟩
  cel := fun y i a q1 q2 q3 => let ⟨c, v, r1, r2, r3, r4⟩ := x.cel y i a q1 q2 q3; ⟨c, v, r1, l.pv _ r2 (hp _ (.inr ⟨y, r1⟩)), cell_keep r3 fun o e => l.kp _ o r2 (hp _ (.inr ⟨y, r1⟩)) e, r4.mono l⟩
  has := fun y q1 q2 => let ⟨c, v, r1, r2, r3⟩ := x.has y q1 q2; ⟨c, v, r1, l.pv _ r2 (hp _ (.inr ⟨y, r1⟩)), cell_keep r3 fun o e => l.kp _ o r2 (hp _ (.inr ⟨y, r1⟩)) e⟩
  cls := fun n c q => l.pv _ (x.cls n c q) (hp _ (.inr ⟨n, q⟩))
theorem EnvR.own (x : EnvR cx env sc ns σ w) {b : Addr} (h : Own env b) : b ∈ w.π := h.elim (fun e => e ▸ x.pl) fun ⟨n, q⟩ => x.cls n b q
theorem EnvR.stable : Stable (EnvR cx env sc ns σ) := fun _ _ x l => x.mono l fun _ _ z => z
theorem St.g (S : St cx w H) (G : Good cx P) : w.s.heap.Ns mainGlobals cx.mg := G.g.keeps fun b o e => (S.base b o e).1
theorem St.b (S : St cx w H) (G : Good cx P) : w.s.heap.Ns builtinsNs cx.mb := G.b.keeps fun b o e => (S.base b o e).1
/-- a name of the text's top, or a built-in one -/
theorem load_glob {x : Str} {pos : Pos} {v : Value} {E : Value → Shared → Prop} {Q : Value → Shared → Prop} (G : Good cx P) (S : St cx w H) (K : EnvK env sc) (hx : isGlob sc x = true) (hd : (x == ("__debug__" : Str)) = false) (hv : cx.mg x = some v) (h : Q v w.s) :
    wpAny (model cx.prog cx.w) A (eval (.Name x pos) env) Q E w.s := Calls.Name_function_global K.kind (K.kglob x hx) (Calls.loadGlobal_global (by rw [K.glob]; exact S.g G) hv h) hd
theorem load_bi {x : Str} {pos : Pos} {v : Value} {E : Value → Shared → Prop} {Q : Value → Shared → Prop} (G : Good cx P) (S : St cx w H) (K : EnvK env sc) (hx : isGlob sc x = true) (hd : (x == ("__debug__" : Str)) = false) (hv : cx.mg x = none ∧ cx.mb x = some v) (h : Q v w.s) :
    wpAny (model cx.prog cx.w) A (eval (.Name x pos) env) Q E w.s := Calls.Name_function_global K.kind (K.kglob x hx) (Calls.loadGlobal_builtin (by rw [K.glob]; exact S.g G) hv.1 (by rw [K.blt]; exact S.b G) hv.2 h) hd
theorem name_rf {x : Str} {pos : Pos} (I : EnvR cx env sc ns σ w) (hl : isLocal sc x = true) (hd : (x == ("__debug__" : Str) || x == ("__classdict__" : Str)) = false) : Rf cx A p w (VR cx) (nameV ns x σ) (eval (.Name x pos) env) := by
  rw [Bool.or_eq_false_iff] at hd
  unfold nameV
  cases hi : ns.idxOf? x with
  | none => exact .stuck
  | some i =>
    show Rf cx A p w (VR cx) (match σ[i]? with | some (some v) => pure v | _ => stuck) _
    cases hv : σ[i]? with
    | none => exact .stuck
    | some ov =>
      cases ov with
      | none => exact .stuck
      | some a =>
        refine .leaf fun H S => wpAny_Name ?_ hd.1
        rcases I.k.klocal x hl with k | k | k
        · obtain ⟨m, hm, hmv⟩ := I.nsm
          obtain ⟨v, q1, q2⟩ := hmv x i a hi hv k
          exact wpAny_loadName_local I.k.kind k hm q1 (.here S q2)
        · obtain ⟨c, v, q1, _, q2, q3⟩ := I.cel x i a hi hv (.inl k)
          exact wpAny_loadName_cell I.k.kind k q1 q2 (.here S q3)
        · obtain ⟨c, v, q1, _, q2, q3⟩ := I.cel x i a hi hv (.inr k)
          exact wpAny_loadName_free I.k.kind k q1 q2 (.here S q3) hd.2
theorem dName_rf {x : Str} {pos : Pos} (G : Good cx P) (I : EnvR cx env sc ns σ w) : Rf cx A p w (VR cx) (dName P sc ns σ x) (eval (.Name x pos) env) :=
  ite_rf (fun _ => .stuck) fun hd => ite_rf (fun hl => name_rf I hl (Bool.eq_false_iff.mpr hd)) fun _ => ite_rf (fun hg => by
    cases hx : P.glob x with
    | none => exact .stuck
    | some a =>
      obtain ⟨v, q1, q2⟩ := G.glob x a hx
      have hd := Bool.eq_false_iff.mpr hd
      rw [Bool.or_eq_false_iff] at hd
      exact .leaf fun H S => load_glob G S I.k hg hd.1 q1 (.here S (q2 w H S))) fun _ => .stuck
end

section
variable {cx : Cx} {A : Around} {w : Wl} {env : Env} {I : Wl → Prop} {ev : Expr → M AV}
theorem const_rf {c : Const} {k : Nat} {q : Pos} : Rf cx A No w (VR cx) (constV c) (eval (.Constant c k q) env) := by
  cases c with
  | none => exact .leaf fun H S => wpAny_Constant_none (.here S .none)
  | bool b => exact .leaf fun H S => wpAny_Constant_bool (.here S .bool)
  | int i => exact .leaf fun H S => wpAny_Constant_int (.tok S _ .int)
  | str x => exact .leaf fun H S => wpAny_Constant_str (.tok S _ .str)
  | _ => exact .stuck
theorem binop_rf {l r : Expr} {op : Operator} {q : Pos} {mu : Bool} (hst : Stable I) (hev : EvOK cx A env I ev) (i : I w) : Rf cx A No w (VR cx) (do let a ← ev l; let b ← ev r; pBin mu op a b) (eval (.BinOp l op r q) env) :=
  Rf.bind (hev l w i) fun w1 a v l1 r1 => .bind (.holding (hev r w1 (hst _ _ i l1))) fun w2 b u l2 r2 => .standAt (.operate (bin_rf (r1.mono l2) r2))
theorem not_rf {a : AV} {v : Value} (ra : VR cx w a v) : Rf cx A No w (VR cx) (do let b ← truth a; pure (.bool !b)) (unaryOp .Not v) := by
  cases a with
  | bool b => exact ra.boolE (.pureR (.leaf fun H S => not_value (wpAny_truthy_bool (.here S .bool))))
  | _ => exact .stuck
theorem unop_rf {x : Expr} {op : UnaryOp} {q : Pos} (hev : EvOK cx A env I ev) (i : I w) : Rf cx A No w (VR cx) (dUn ev op x) (eval (.UnaryOp op x q) env) := by
  cases op with
  | USub => exact Rf.bind (hev x w i) fun w1 a v l1 r1 => .standAt (.holding (neg_rf r1))
  | Not => exact Rf.bind (hev x w i) fun w1 a v l1 r1 => .standAt (.holding (not_rf r1))
  | _ => exact .stuck
theorem compare_rf (R : Room A) {l : Expr} {ops : List CmpOp} {cs : List Expr} {q : Pos} (hst : Stable I) (hev : EvOK cx A env I ev) (i : I w) : Rf cx A No w (VR cx) (do let a ← ev l; let b ← chain ev a ops cs; pure (.bool b)) (eval (.Compare l ops cs q) env) :=
  Rf.bind (hev l w i) fun w1 a v l1 r1 => by
    have := Rf.bind (k := Pure.pure) (chain_rf R hst hev q ops cs (hst _ _ i l1) r1) fun w2 b x l2 e => Rf.pure (R := VR cx) (a := .bool b) e
    rwa [bind_pure] at this
theorem tuple_lit_rf {es : List Expr} {k : Nat} {q : Pos} (hst : Stable I) (hev : EvOK cx A env I ev) (i : I w) : Rf cx A No w (VR cx) (if es.length ≤ 100 then (do let vs ← evEach ev es; pure (.tup vs)) else stuck) (eval (.Tuple es k q) env) :=
  ite_rf (fun hl => .standAt (.bind (each_rf hst hev q es i) fun w1 as vs l1 r1 => newTuple_rf (by rw [r1.2]; exact Nat.le_trans hl (by decide)) r1.1)) fun _ => .stuck
theorem list_lit_rf {es : List Expr} {q : Pos} {mu : Bool} (hst : Stable I) (hev : EvOK cx A env I ev) (i : I w) : Rf cx A No w (VR cx) (do let vs ← evEach ev es; newL mu vs) (eval (.List es q) env) :=
  .standAt (.bind (each_rf hst hev q es i) fun w1 as vs l1 r1 => newList_rf r1.1)

/-- the read of an item, once object and index are there -/
theorem sub_tail {value slice : Expr} {o i : Value} {s : Shared} {Q E : Value → Shared → Prop} (hs : Subs s o) (h : wpAny (model cx.prog cx.w) A (getItem o i) Q E s) :
    wpAny (model cx.prog cx.w) A (do let r ← subscripted slice (← getitemInPython o) o i; letTemporaryGo value o r; pure r) Q E s := by
  obtain ⟨T, id, hT, hl⟩ := hs
  rw [getitemInPython_of_ne hT.not_modules]
  have hg : wpAny (model cx.prog cx.w) A (getItem o i) (fun r s₃ => wpAny (model cx.prog cx.w) A (letTemporaryGo value o r >>= fun _ => pure r) Q E s₃) E s :=
    wpAny_mono h (fun r s₃ h₃ => wpAny_bind (wpAny_letTemporaryGo (wpAny_pure h₃))) fun _ _ x => x
  refine wpAny_bind (wpAny_bind (wpAny_specialOf hT hl (wpAny_pure (wpAny_bind ?_))))
  cases slice
  case Slice lo hi st q => cases st <;> exact wpAny_operating hg
  all_goals exact wpAny_operating hg
theorem item_at_rf {o i : Expr} {q : Pos} (hst : Stable I) (hev : EvOK cx A env I ev) (j : I w) : Rf cx A No w (VR cx) (do let ov ← ev o; let iv ← ev i; pItem ov iv) (eval (.Subscript o i q) env) :=
  Rf.bind (hev o w j) fun w1 a v l1 r1 => .bind (.holding (hev i w1 (hst _ _ j l1))) fun w2 b u l2 r2 => .standAt (item_rf (r1.mono l2) r2 fun hs h => sub_tail hs h)
def RPart (w : Wl) (k : Option Int) (v : Value) : Prop := IsPart v k
theorem sliceEnd_rf {e : Option Expr} (hev : EvOK cx A env I ev) (j : I w) : Rf cx A No w RPart (sliceEnd ev e) (evalPart e env) := by
  cases e with
  | none => rw [evalPart_none]; exact .pure .none
  | some e =>
    rw [evalPart_some]
    refine Rf.seqw (k := fun v => pure v) (hev e w j) (fun w1 a v l1 r1 => ?_) fun h => by have := wpAny_bind h; rwa [bind_pure] at this
    cases a with
    | int i => exact r1.intE fun t => .pureR (.pure (.int i t))
    | _ => exact .stuck
def RSl (w : Wl) (k : Option Int × Option Int) (v : Value) : Prop := ∃ a vl vu, v = .ref a ∧ w.s.heap.IsSliceOf a vl vu .none ∧ IsPart vl k.1 ∧ IsPart vu k.2
theorem slc_rf {lo hi : Option Expr} {sp : Pos} (hst : Stable I) (hev : EvOK cx A env I ev) (j : I w) : Rf cx A No w RSl (do let a ← sliceEnd ev lo; let b ← sliceEnd ev hi; pure (a, b)) (eval (.Slice lo hi none sp) env) :=
  Rf.bind (sliceEnd_rf hev j) fun w1 a vl l1 p1 => .bind (.holding (sliceEnd_rf hev (hst _ _ j l1))) fun w2 b vu l2 p2 => by
    show Rf cx A No w2 RSl (pure (a, b)) (holding [vl, vu] (evalPart none env) >>= fun s => newFields "slice" [vl, vu, s])
    rw [evalPart_none]
    exact fun H S r H' h => wpAny_bind (wpAny_holding (wpAny_pure (wpAny_newObj_type (by
      obtain ⟨rfl, rfl⟩ := pure_some h
      exact ⟨w2.ι, w2.π, _, rfl, .keeps (pushk _), S.keeps (t := w2.s.toks) (pushk _), _, vl, vu, rfl, Heap.IsSliceOf.new .., p1, p2⟩))))
theorem slice_at_rf {o : Expr} {lo hi : Option Expr} {sp q : Pos} {mu : Bool} (hst : Stable I) (hev : EvOK cx A env I ev) (j : I w) :
    Rf cx A No w (VR cx) (do let ov ← ev o; let a ← sliceEnd ev lo; let b ← sliceEnd ev hi; pSlice mu ov a b) (eval (.Subscript o (.Slice lo hi none sp) q) env) :=
  Rf.bind (hev o w j) fun w1 a v l1 r1 => by
    have := Rf.bind (f := fun k => pSlice mu a k.1 k.2) (Rf.holding (vs := [v]) (slc_rf (lo := lo) (hi := hi) (sp := sp) hst hev (hst _ _ j l1))) fun w2 k u l2 ⟨sl, vl, vu, e, hs, p1, p2⟩ => Rf.standAt (q := q) (t := (do let r ← subscripted (.Slice lo hi none sp) (← getitemInPython v) v u; letTemporaryGo o v r; pure r)) (slice_rf (A := A) (p := No) (mu := mu) (r1.mono l2) hs p1 p2 fun h1 h2 => e ▸ sub_tail h1 h2)
    simp only [bind_assoc, pure_bind] at this
    exact this
theorem sub_rf {o i : Expr} {q : Pos} {mu : Bool} (hst : Stable I) (hev : EvOK cx A env I ev) (j : I w) : Rf cx A No w (VR cx) (dSub ev mu o i) (eval (.Subscript o i q) env) := by
  cases i with
  | Slice lo hi st sp =>
    cases st with
    | none => exact slice_at_rf hst hev j
    | some e => exact .stuck
  | _ => exact item_at_rf hst hev j
end
end Mine


set_option autoImplicit false
set_option linter.unusedVariables false
namespace Mine
open PySem PyProof.Rows PySem.SeqAt

section
variable {cx : Cx} {A : Around} {p : Addr → Prop} {w w' w0 : Wl} {H : AHeap} {d : Addr}
theorem St.old (S : St cx w H) (hd : w.s.heap.get? d = none) {b : Addr} {o : Obj} (e : w.s.heap.get? b = some o) : b ≠ d := fun z => by rw [z, hd] at e; cases e
/-- new private objects -/
theorem St.hides (S : St cx w H) (ds : List Addr) {h' : Heap} {t : Nat} (hk : ∀ b o, w.s.heap.get? b = some o → h'.get? b = some o) (hd : ∀ d, d ∈ ds → w.s.heap.get? d = none) (hx : ∀ d, d ∈ ds → ∃ o, h'.get? d = some o) :
    Le No w ⟨w.ι, ds ++ w.π, { w.s with heap := h', toks := t }⟩ ∧ St cx ⟨w.ι, ds ++ w.π, { w.s with heap := h', toks := t }⟩ H := by
  have ne : ∀ {b : Addr} {o : Obj}, w.s.heap.get? b = some o → b ∉ w.π → b ∉ ds ++ w.π := fun e h1 h2 => (List.mem_append.mp h2).elim (fun h => S.old (hd _ h) e rfl) h1
  have l : Le No w ⟨w.ι, ds ++ w.π, { w.s with heap := h', toks := t }⟩ := ⟨⟨List.prefix_refl _, fun b o e h1 h2 => ⟨hk b o e, h1, ne e h2⟩⟩, fun _ h _ => List.mem_append_right _ h, fun b o _ _ e => hk b o e⟩
  refine ⟨l, ⟨fun b o e => let q := S.base b o e; ⟨hk b o q.1, q.2.1, ne q.1 q.2.2⟩, S.len, S.nodup, fun a ha h => ?_, fun a ha => ?_, fun i a o e1 e2 => (S.own i a o e1 e2).keep l.toLv (hk a), S.gens, S.os, S.sysm⟩⟩
  · obtain ⟨o, e⟩ := S.obj ha
    exact ne e (S.dj a ha) h
  · rcases List.mem_append.mp ha with h | h
    · exact hx a h
    · obtain ⟨o, e⟩ := S.pvx a h; exact ⟨o, hk a o e⟩
theorem St.hide (S : St cx w H) {h' : Heap} {t : Nat} (hk : ∀ b o, w.s.heap.get? b = some o → h'.get? b = some o) (hd : w.s.heap.get? d = none) (hx : ∃ o, h'.get? d = some o) :
    Le No w ⟨w.ι, d :: w.π, { w.s with heap := h', toks := t }⟩ ∧ St cx ⟨w.ι, d :: w.π, { w.s with heap := h', toks := t }⟩ H :=
  S.hides [d] hk (fun b e => List.mem_singleton.mp e ▸ hd) fun b e => List.mem_singleton.mp e ▸ hx
/-- private objects turn -/
theorem St.privs (S : St cx w H) {h' : Heap} {t : Nat} {p : Addr → Prop} (hd : ∀ b, p b → b ∈ w.π) (hk : ∀ b o, ¬ p b → w.s.heap.get? b = some o → h'.get? b = some o) (hx : ∀ b, p b → ∃ o, h'.get? b = some o) :
    Le p w ⟨w.ι, w.π, { w.s with heap := h', toks := t }⟩ ∧ St cx ⟨w.ι, w.π, { w.s with heap := h', toks := t }⟩ H := by
  have l : Le p w ⟨w.ι, w.π, { w.s with heap := h', toks := t }⟩ := ⟨⟨List.prefix_refl _, fun b o e h1 h2 => ⟨hk b o (fun z => h2 (hd b z)) e, h1, h2⟩⟩, fun _ h _ => h, fun b o _ h e => hk b o h e⟩
  refine ⟨l, ⟨fun b o e => let q := S.base b o e; ⟨hk b o (fun z => q.2.2 (hd b z)) q.1, q.2⟩, S.len, S.nodup, S.dj, fun a ha => ?_, fun i a o e1 e2 => (S.own i a o e1 e2).keep l.toLv fun o e => hk a o (fun z => S.dj a (List.mem_of_getElem? e1) (hd a z)) e, S.gens, S.os, S.sysm⟩⟩
  by_cases h : p a
  · exact hx a h
  · obtain ⟨o, e⟩ := S.pvx a ha; exact ⟨o, hk a o h e⟩
theorem St.priv (S : St cx w H) {h' : Heap} {t : Nat} (hd : d ∈ w.π) (hk : ∀ b o, b ≠ d → w.s.heap.get? b = some o → h'.get? b = some o) (hx : ∃ o, h'.get? d = some o) :
    Le (fun b => b = d) w ⟨w.ι, w.π, { w.s with heap := h', toks := t }⟩ ∧ St cx ⟨w.ι, w.π, { w.s with heap := h', toks := t }⟩ H := S.privs (fun b e => e ▸ hd) hk fun b e => e ▸ hx
def outP (π : List Addr) (d : Addr) : List Addr := π.filter fun b => decide (b ≠ d)
theorem mem_outP {π : List Addr} {b : Addr} : b ∈ outP π d ↔ b ∈ π ∧ b ≠ d := by unfold outP; rw [List.mem_filter, decide_eq_true_iff]
/-- a private object is let go -/
theorem St.drop (S : St cx w H) {h' : Heap} {t : Nat} (hd : d ∈ w.π) (hk : ∀ b o, b ≠ d → w.s.heap.get? b = some o → h'.get? b = some o) :
    Le (fun b => b = d) w ⟨w.ι, outP w.π d, { w.s with heap := h', toks := t }⟩ ∧ St cx ⟨w.ι, outP w.π d, { w.s with heap := h', toks := t }⟩ H := by
  have l : Le (fun b => b = d) w ⟨w.ι, outP w.π d, { w.s with heap := h', toks := t }⟩ := ⟨⟨List.prefix_refl _, fun b o e h1 h2 => ⟨hk b o (fun z => h2 (z ▸ hd)) e, h1, fun z => h2 (mem_outP.mp z).1⟩⟩, fun _ h q => mem_outP.mpr ⟨h, q⟩, fun b o _ h e => hk b o h e⟩
  exact ⟨l, ⟨fun b o e => let q := S.base b o e; ⟨hk b o (fun z => q.2.2 (z ▸ hd)) q.1, q.2.1, fun z => q.2.2 (mem_outP.mp z).1⟩, S.len, S.nodup, fun a ha z => S.dj a ha (mem_outP.mp z).1, fun a ha => let ⟨q1, q2⟩ := mem_outP.mp ha; let ⟨o, e⟩ := S.pvx a q1; ⟨o, hk a o q2 e⟩, fun i a o e1 e2 => (S.own i a o e1 e2).keep l.toLv fun o e => hk a o (fun z => S.dj a (List.mem_of_getElem? e1) (z ▸ hd)) e, S.gens, S.os, S.sysm⟩⟩
/-- a private object becomes one of the abstract heap -/
theorem St.adopt (S : St cx w H) {h' : Heap} {t : Nat} {o : AO} (hd : d ∈ w.π) (hk : ∀ b q, b ≠ d → w.s.heap.get? b = some q → h'.get? b = some q)
    (r : Le (fun b => b = d) w ⟨w.ι ++ [d], outP w.π d, { w.s with heap := h', toks := t }⟩ → OR cx ⟨w.ι ++ [d], outP w.π d, { w.s with heap := h', toks := t }⟩ d o) :
    Le (fun b => b = d) w ⟨w.ι ++ [d], outP w.π d, { w.s with heap := h', toks := t }⟩ ∧ St cx ⟨w.ι ++ [d], outP w.π d, { w.s with heap := h', toks := t }⟩ (H ++ [o]) := by
  have ne : ∀ {b : Addr}, b ∉ w.ι → b ∉ w.π → b ∉ w.ι ++ [d] := fun h1 h2 h3 => (List.mem_append.mp h3).elim h1 fun h => h2 (List.mem_singleton.mp h ▸ hd)
  have l : Le (fun b => b = d) w ⟨w.ι ++ [d], outP w.π d, { w.s with heap := h', toks := t }⟩ := ⟨⟨List.prefix_append _ _, fun b q e h1 h2 => ⟨hk b q (fun z => h2 (z ▸ hd)) e, ne h1 h2, fun z => h2 (mem_outP.mp z).1⟩⟩, fun _ h q => mem_outP.mpr ⟨h, q⟩, fun b o _ h e => hk b o h e⟩
  refine ⟨l, ⟨fun b q e => let z := S.base b q e; ⟨hk b q (fun y => z.2.2 (y ▸ hd)) z.1, ne z.2.1 z.2.2, fun y => z.2.2 (mem_outP.mp y).1⟩, by rw [List.length_append, List.length_append, S.len]; rfl, ?_, ?_, fun b hb => ?_, ?_, S.gens, S.os, S.sysm⟩⟩
  · exact List.nodup_append.mpr ⟨S.nodup, List.nodup_cons.mpr ⟨List.not_mem_nil, List.nodup_nil⟩, fun x hx y hy e => S.dj x hx (by rw [e, List.mem_singleton.mp hy]; exact hd)⟩
  · intro b hb z
    rcases List.mem_append.mp hb with h | h
    · exact S.dj b h (mem_outP.mp z).1
    · exact (mem_outP.mp z).2 (List.mem_singleton.mp h)
  · obtain ⟨h1, h2⟩ := mem_outP.mp hb
    obtain ⟨q, e⟩ := S.pvx b h1
    exact ⟨q, hk b q h2 e⟩
  · intro i b q e1 e2
    rcases Nat.lt_trichotomy i w.ι.length with h | h | h
    · rw [List.getElem?_append_left h] at e1
      rw [List.getElem?_append_left (S.len ▸ h)] at e2
      exact (S.own i b q e1 e2).keep l.toLv fun q' e => hk b q' (fun z => S.dj b (List.mem_of_getElem? e1) (z ▸ hd)) e
    · subst h
      rw [List.getElem?_concat_length] at e1
      rw [S.len, List.getElem?_concat_length] at e2
      cases e1; cases e2
      exact r l
    · rw [List.getElem?_eq_none (by rw [List.length_append]; exact h)] at e1; cases e1
end

section
variable {cx : Cx} {A : Around} {w : Wl} {env : Env} {I : Wl → Prop} {ev : Expr → M AV}
-- dicts
theorem strKey1_of {k : Option Expr} {x : Str} (h : strKey1 k = some x) : ∃ kd kp, k = some (.Constant (.str x) kd kp) := by
  cases k with
  | none => cases h
  | some e =>
    cases e with
    | Constant c kd kp =>
      cases c with
      | str y => cases h; exact ⟨kd, kp, rfl⟩
      | _ => cases h
    | _ => cases h
theorem strKeys_cons {k : Option Expr} {r : List (Option Expr)} {ks : List Str} (h : strKeys (k :: r) = some ks) : ∃ x kd kp ks', k = some (.Constant (.str x) kd kp) ∧ strKeys r = some ks' ∧ ks = x :: ks' := by
  obtain ⟨x, h1, h2⟩ := Option.bind_eq_some_iff.mp h
  obtain ⟨ks', h3, h4⟩ := Option.map_eq_some_iff.mp h2
  obtain ⟨kd, kp, e⟩ := strKey1_of h1
  exact ⟨x, kd, kp, ks', e, h3, h4.symm⟩
def RPairs (cx : Cx) (ks : List Str) (w : Wl) (as : List AV) (vs : List (Value × Value)) : Prop := allStrKeys vs = true ∧ (strPairs vs).map (·.1) = ks ∧ VRs cx w as ((strPairs vs).map (·.2)) ∧ as.length = ks.length
theorem constS_rf {x : Str} {kd : Nat} {kp : Pos} : Rf cx A No w (fun _ (_ : Unit) v => ∃ t, v = .str x t) (pure ()) (eval (.Constant (.str x) kd kp) env) := .leaf fun H S => wpAny_Constant_str (.tok S _ ⟨_, rfl⟩)
theorem pairs_rf (hst : Stable I) (hev : EvOK cx A env I ev) (pos : Pos) : ∀ (keys : List (Option Expr)) (vals : List Expr) {ks : List Str} {w : Wl}, I w → strKeys keys = some ks → ks.length = vals.length → Rf cx A No w (RPairs cx ks) (evAll ev vals) (evalPairs (pairTrees keys vals env pos))
  | [], [], ks, w, i, hk, hl => by cases hk; exact .leaf fun H S => pairTrees_nil_walk (.here S ⟨rfl, rfl, rfl, rfl⟩)
  | [], _ :: _, ks, w, i, hk, hl => by cases hk; cases hl
  | k :: keys, [], ks, w, i, hk, hl => by obtain ⟨x, kd, kp, ks', _, _, rfl⟩ := strKeys_cons hk; cases hl
  | k :: keys, e :: vals, ks, w, i, hk, hl => by
    obtain ⟨x, kd, kp, ks', rfl, hk', rfl⟩ := strKeys_cons hk
    rw [← pure_bind () fun _ => evAll ev (e :: vals)]
    refine Rf.bind constS_rf fun w1 _ kv l1 ⟨tk, hkv⟩ => ?_
    subst hkv
    have i1 := hst _ _ i l1
    refine .bind (t := holding [.str x tk] (do let x ← eval e env; standAt pos; pure x)) (.holding (.map (hev e w1 i1) fun w2 a v l2 r2 => .standAt (.pure r2))) fun w2 a v l2 r2 => ?_
    refine .bind (.holding (pairs_rf hst hev pos keys vals (hst _ _ i1 l2) hk' (Nat.succ.inj hl))) fun w3 as vs l3 ⟨q1, q2, q3, q4⟩ => .pure ⟨q1, congrArg (x :: ·) q2, .cons (r2.mono l3) q3, congrArg Nat.succ q4⟩
theorem zip_fst : ∀ {ks : List Str} {as : List AV}, as.length = ks.length → (ks.zip as).map (·.1) = ks
  | [], [], _ => rfl
  | [], _ :: _, h => by cases h
  | _ :: _, [], h => by cases h
  | k :: ks, a :: as, h => congrArg (k :: ·) (zip_fst (Nat.succ.inj h))
theorem zip_snd : ∀ {ks : List Str} {as : List AV}, as.length = ks.length → (ks.zip as).map (·.2) = as
  | [], [], _ => rfl
  | [], _ :: _, h => by cases h
  | _ :: _, [], h => by cases h
  | k :: ks, a :: as, h => congrArg (a :: ·) (zip_snd (Nat.succ.inj h))
theorem strKeys_all : ∀ {keys : List (Option Expr)} {ks : List Str}, strKeys keys = some ks → keys.all (·.isSome) = true ∧ keys.length = ks.length
  | [], _, h => by cases h; exact ⟨rfl, rfl⟩
  | k :: keys, ks, h => by
    obtain ⟨x, kd, kp, ks', rfl, hk', rfl⟩ := strKeys_cons h
    obtain ⟨q1, q2⟩ := strKeys_all hk'
    exact ⟨q1, congrArg Nat.succ q2⟩
theorem dict_lit_rf {keys : List (Option Expr)} {vals : List Expr} {q : Pos} (hst : Stable I) (hev : EvOK cx A env I ev) (i : I w) : Rf cx A No w (VR cx) (dDict ev keys vals) (eval (.Dict keys vals q) env) := by
  unfold dDict
  cases hk : strKeys keys with
  | none => exact .stuck
  | some ks =>
    refine ite_rf (fun ⟨hl1, hl2, hl3, hl4⟩ => ?_) fun _ => .stuck
    unfold evEach
    split
    · intro H S r H' h
      obtain ⟨k1, k2⟩ := strKeys_all hk
      have hdn : w.s.heap.get? w.s.heap.objs.size = none := get_size _
      obtain ⟨l0, S0⟩ := S.hide (t := w.s.toks) (pushk { cls := .type "dict", data := .dict #[] }) hdn ⟨_, Heap.get?_push_size _ rfl⟩
      have hnp := (S.new hdn).2
      refine wpAny_Dict_walk (knd := strKind cx.prog cx.w) k1 (k2.trans hl1) (fun z => by subst z; cases hk; exact hl3 rfl) (by rw [k2]; exact hl2) ?_
      refine wpAny_mono ((pairs_rf hst hev q keys vals (hst _ _ i l0) hk hl1).run S0 h fun w1 as vs H1 l1 S1 ⟨q1, q2, q3, q4⟩ h2 => ?_) (fun _ _ z => z) fun _ _ q => q.le l0
      cases h2
      have hd : w.s.heap.objs.size ∈ w1.π := l1.pv _ List.mem_cons_self id
      have hD1 : w1.s.heap.DictOf (strKind cx.prog cx.w) w.s.heap.objs.size [] := DictOf.at' (Heap.DictOf.new _) fun o ho => l1.kp _ o List.mem_cons_self id ho
      refine display_done_str q1 (by rw [q2]; exact hl4) hD1 fun h' hd' hs' => ?_
      obtain ⟨l2, S2⟩ := S1.adopt (t := w1.s.toks + vs.length) (o := .dict (ks.zip as)) hd hs'.extBut fun l2 => ⟨strPairs vs, hd', ⟨S.not_sys, by rw [List.length_zip]; exact Nat.le_trans (Nat.min_le_left _ _) (Nat.le_trans hl2 (by decide))⟩, by rw [q2, zip_fst q4], by rw [zip_snd q4]; exact q3.mono l2⟩
      exact ⟨_, _, _, rfl, (l0.no.trans (l1.no.trans l2)).weak (fun b hb e => hnp (e ▸ hb)), S2, .loc (by rw [← S1.len]; exact List.getElem?_concat_length)⟩
    · exact .stuck
end
end Mine


set_option autoImplicit false
set_option linter.unusedVariables false
namespace Mine
open PySem PyProof.Rows PySem.SeqAt

section
variable {cx : Cx} {A : Around} {w : Wl} {env : Env} {I : Wl → Prop} {ev : Expr → M AV}
/-- the arguments of a call -/
def RArgs (cx : Cx) (w : Wl) (as : List AV) (a : Args) : Prop := ∃ vs, a = ⟨vs, []⟩ ∧ VRs cx w as vs
theorem any_star (pos : Pos) : ∀ (es : List Expr), es.all exOk = true → (backTo pos (starEach es env)).any (·.1) = false
  | [], _ => rfl
  | e :: r, h => by
    rw [List.all_cons, Bool.and_eq_true] at h
    rw [exOk_star h.1]
    exact any_star pos r h.2
theorem len_star (pos : Pos) : ∀ (es : List Expr), es.all exOk = true → (backTo pos (starEach es env)).length = es.length ∧ (backTo pos (starEach es env)).all (fun x => !x.1) = true
  | [], _ => ⟨rfl, rfl⟩
  | e :: r, h => by
    rw [List.all_cons, Bool.and_eq_true] at h
    rw [exOk_star h.1]
    exact ⟨congrArg Nat.succ (len_star pos r h.2).1, (len_star pos r h.2).2⟩
theorem args_rf {f : Value} {pos : Pos} {es : List Expr} (hst : Stable I) (hev : EvOK cx A env I ev) (i : I w) (h : es.all exOk = true) : Rf cx A No w (RArgs cx) (evAll ev es) (evalArgs f true (backTo pos (starEach es env)) []) := by
  have x := all_rf hst hev pos es h i
  cases es with
  | nil => exact .leaf fun H S => evalArgs_nil3 (.here S ⟨[], rfl, rfl⟩)
  | cons e r =>
    rw [List.all_cons, Bool.and_eq_true] at h
    rw [exOk_star h.1] at x ⊢
    exact Rf.img (g := fun vs => (⟨vs, []⟩ : Args)) (t' := evalArgs f true ((false, eval e env) :: backTo pos (starEach r env)) []) x (fun w' a b q => ⟨b, rfl, q.1⟩) fun h => Calls.evalArgs_plain h
/-- a call of what the callee's name stands for -/
theorem each_call {es : List Expr} {α β : Type} {p : Addr → Prop} {R : Wl → α → β → Prop} {f : List AV → M α} {t : Sem β} (k : es.all exOk = true → Rf cx A p w R (evAll ev es >>= f) t) : Rf cx A p w R (evEach ev es >>= f) t := by
  unfold evEach
  split
  · exact k ‹_›
  · exact .stuck
theorem builtin_rf {id : String} {pos : Pos} {first : List Value} {es : List Expr} {f : List AV → M AV} (hst : Stable I) (hev : EvOK cx A env I ev) (i : I w)
    (k : ∀ w' as vs, Le No w w' → VRs cx w' as vs → Rf cx A No w' (VR cx) (f as) (PySem.call (.builtin id) (first ++ vs))) : Rf cx A No w (VR cx) (evEach ev es >>= f) (callWith pos (.builtin id) first (backTo pos (starEach es env)) []) :=
  each_call fun h => Rf.seqw (k := fun a => PySem.call (.builtin id) (first ++ a.pos) a.kw) (args_rf (f := .builtin id) (pos := pos) hst hev i h) (fun w' as a l ⟨vs, e, r⟩ => by subst e; exact k w' as vs l r) fun q => Calls.callWith_builtin (any_star pos es h) q
theorem type_rf {T : String} {pos : Pos} {es : List Expr} {f : List AV → M AV} (hst : Stable I) (hev : EvOK cx A env I ev) (i : I w)
    (k : ∀ w' as vs, Le No w w' → VRs cx w' as vs → Rf cx A No w' (VR cx) (f as) (PySem.call (.type T) vs)) : Rf cx A No w (VR cx) (evEach ev es >>= f) (callWith pos (.type T) [] (backTo pos (starEach es env)) []) :=
  each_call fun h => Rf.seqw (k := fun a => PySem.call (.type T) ([] ++ a.pos) a.kw) (args_rf (f := .type T) (pos := pos) hst hev i h) (fun w' as a l ⟨vs, e, r⟩ => by subst e; exact k w' as vs l r) fun q => PyProof.Rows.callWith_type (any_star pos es h) q
end
section
variable {cx : Cx} {A : Around} {w : Wl} {env : Env} {sc : Scope} {ns : List Str} {σ : Loc} {ev : Expr → M AV} {P : Pg}
/-- the callee's name gives v -/
theorem named_rf {f : Str} {fp q : Pos} {args : List Expr} {m : M AV} {v : Value} (hv : ∀ {H : AHeap} {Q E : Value → Shared → Prop}, St cx w H → Q v w.s → wpAny (model cx.prog cx.w) A (eval (.Name f fp) env) Q E w.s)
    (x : Rf cx A No w (VR cx) m (callWith q v [] (backTo q (starEach args env)) [])) : Rf cx A No w (VR cx) m (eval (.Call (.Name f fp) args [] q) env) := fun H S r H' h => Call_Name rfl (hv S (x H S r H' h))
theorem no_debug {α : Type} {g : Str → Option α} {x : Str} {b : α} (hg : g ("__debug__" : Str) = none) (h : g x = some b) : (x == ("__debug__" : Str)) = false := by
  cases hx : x == ("__debug__" : Str) with
  | false => rfl
  | true => rw [beq_iff_eq.mp hx, hg] at h; cases h
theorem bi_call {f : Str} {fp q : Pos} {args : List Expr} {b : BI} {mu : Bool} (hh : A.handled = none) (G : Good cx P) (hev : EvOK cx A env (EnvR cx env sc ns σ) ev) (i : EnvR cx env sc ns σ w) (hg : isGlob sc f = true) (hb : biOf f = some b) :
    Rf cx A No w (VR cx) (do let vs ← evEach ev args; pBI mu b vs) (eval (.Call (.Name f fp) args [] q) env) := by
  refine named_rf (fun S h => load_bi G S i.k hg (no_debug (g := biOf) (by decide) hb) (G.bi f b hb) h) ?_
  have bt : ∀ {id : String}, biV b = .builtin id → Rf cx A No w (VR cx) (do let vs ← evEach ev args; pBI mu b vs) (callWith q (biV b) [] (backTo q (starEach args env)) []) := fun {id} e => by
    rw [e]; exact builtin_rf EnvR.stable hev i fun w' as vs l r => by rw [List.nil_append, ← e]; exact bi_rf hh r
  have ty : ∀ {T : String}, biV b = .type T → Rf cx A No w (VR cx) (do let vs ← evEach ev args; pBI mu b vs) (callWith q (biV b) [] (backTo q (starEach args env)) []) := fun {T} e => by
    rw [e]; exact type_rf EnvR.stable hev i fun w' as vs l r => by rw [← e]; exact bi_rf hh r
  cases b with
  | len => exact bt rfl
  | list => exact ty rfl
  | tuple => exact ty rfl
  | dict => exact ty rfl
  | int => exact ty rfl
  | range => exact ty rfl
  | min => exact bt rfl
  | max => exact bt rfl
  | any => exact bt rfl
  | sorted => exact bt rfl
theorem isi1_rf {e : Expr} {x : Str} {t : Ty} {fp q tp : Pos} (G : Good cx P) (hev : EvOK cx A env (EnvR cx env sc ns σ) ev) (i : EnvR cx env sc ns σ w) (hg : isGlob sc ("isinstance" : Str) = true) (hx : isGlob sc x = true) (ht : tyOf x = some t) (he : exOk e = true) :
    Rf cx A No w (VR cx) (do let v ← ev e; let b ← pIsi v t; pure (.bool b)) (eval (.Call (.Name ("isinstance" : Str) fp) [e, .Name x tp] [] q) env) :=
  named_rf (fun S h => load_bi G S i.k hg (by decide) G.isi h) fun H S r H' h => by
    refine Calls.callWith_builtin (any_star q _ (by rw [List.all_cons, he]; rfl)) ?_
    rw [exOk_star he]
    refine Calls.evalArgs_plain (Calls.spliced_cons ((hev e w i).run S h fun w1 a v H1 l1 S1 r1 h1 => Calls.spliced_cons (load_bi G S1 i.k hx (no_debug (g := tyOf) (by decide) ht) (G.ty x t ht) (Calls.spliced_nil ?_))))
    have z := Rf.bind (k := Pure.pure) (isi_rf (A := A) (p := No) (t := t) r1) fun w2 b x l2 e => Rf.pure (R := VR cx) (a := .bool b) e
    rw [bind_pure] at z
    exact wpAny_mono (z H1 S1 r H' h1) (fun _ _ q => q.le l1) fun _ _ q => q.le l1
theorem isiTL_leaf {a : AV} {v : Value} {tp : Addr} (ra : VR cx w a v) (ht : w.s.heap.get? tp = some { cls := .type "tuple", data := .seq #[.type "tuple", .type "list"] }) : Rf cx A No w Rb (pIsiTL a) (PySem.call (.builtin "isinstance") [v, .ref tp]) := by
  have lists : ∀ {l : Addr} {vs : Array Value} {n : Nat}, IsL w.s.heap l vs n → Rf cx A No w Rb (pure true) (PySem.call (.builtin "isinstance") [.ref l, .ref tp]) := fun hl => .leaf fun H S =>
    IsiPair.tupleOfB (Tx := "list") (vs := [false, true]) (.cons (.of_false_list (by decide +kernel) F.isi_meta_tuple F.sub_list_tuple) (.cons (.of_true F.isi_meta_list F.sub_list_list) .nil)) ⟨_, hl, rfl⟩ ht rfl fun t => .tok S t rfl
  cases a with
  | none => exact ra.noneE (.leaf fun H S => IsiPair.tupleOfB (Tx := "NoneType") (vs := [false, false]) (.cons (.of_false_none (by decide +kernel) F.isi_meta_tuple F.sub_NoneType_tuple) (.cons (.of_false_none (by decide +kernel) F.isi_meta_list F.sub_NoneType_list) .nil)) rfl ht rfl fun t => .tok S t rfl)
  | bool b => exact ra.boolE (.leaf fun H S => IsiPair.tupleOfB (Tx := "bool") (vs := [false, false]) (.cons (.of_false_bool (by decide +kernel) F.isi_meta_tuple F.sub_bool_tuple) (.cons (.of_false_bool (by decide +kernel) F.isi_meta_list F.sub_bool_list) .nil)) rfl ht rfl fun t => .tok S t rfl)
  | int i => exact ra.intE fun u => .leaf fun H S => IsiPair.tupleOfB (Tx := "int") (vs := [false, false]) (.cons (.of_false_int (by decide +kernel) F.isi_meta_tuple F.sub_int_tuple) (.cons (.of_false_int (by decide +kernel) F.isi_meta_list F.sub_int_list) .nil)) rfl ht rfl fun t => .tok S t rfl
  | str x => exact ra.strE fun u => .leaf fun H S => IsiPair.tupleOfB (Tx := "str") (vs := [false, false]) (.cons (.of_false_str (by decide +kernel) F.isi_meta_tuple F.sub_str_tuple) (.cons (.of_false_str (by decide +kernel) F.isi_meta_list F.sub_str_list) .nil)) rfl ht rfl fun t => .tok S t rfl
  | tup xs => exact ra.tupE fun l vs n hl _ _ _ => .leaf fun H S => IsiPair.tupleOfB (Tx := "tuple") (vs := [true, false]) (.cons (.of_true F.isi_meta_tuple F.sub_tuple_tuple) (.cons (.of_false_tuple (by decide +kernel) F.isi_meta_list F.sub_tuple_list) .nil)) ⟨_, hl, rfl⟩ ht rfl fun t => .tok S t rfl
  | lst xs => exact ra.lstE fun l vs n hl _ _ _ => lists hl
  | loc i => exact ra.locE fun l h => .read (listAt_rd h) fun xs ⟨vs, n, hl, _⟩ => lists hl
  | _ => exact .stuck
theorem isi2_rf {e : Expr} {fp q tp1 tp2 tp3 : Pos} {k : Nat} {x y : Str} (G : Good cx P) (hev : EvOK cx A env (EnvR cx env sc ns σ) ev) (i : EnvR cx env sc ns σ w) (hg : isGlob sc ("isinstance" : Str) = true) (hx : isGlob sc x = true) (hy : isGlob sc y = true) (ht : isTL x y = true) (he : exOk e = true) :
    Rf cx A No w (VR cx) (do let v ← ev e; let b ← pIsiTL v; pure (.bool b)) (eval (.Call (.Name ("isinstance" : Str) fp) [e, .Tuple [.Name x tp1, .Name y tp2] k tp3] [] q) env) := by
  unfold isTL at ht
  rw [Bool.and_eq_true] at ht
  have h1 := of_decide_eq_true ht.1
  have h2 := of_decide_eq_true ht.2
  subst h1; subst h2
  refine named_rf (fun S h => load_bi G S i.k hg (by decide) G.isi h) fun H S r H' h => ?_
  refine Calls.callWith_builtin (any_star q _ (by rw [List.all_cons, he]; rfl)) ?_
  rw [exOk_star he]
  refine Calls.evalArgs_plain (Calls.spliced_cons ((hev e w i).run S h fun w1 a v H1 l1 S1 r1 h1 => Calls.spliced_cons (Tuple_ (k := k) ?_)))
  show wpAny _ _ (spliced [(false, eval (.Name ("tuple" : Str) tp1) env), (false, eval (.Name ("list" : Str) tp2) env)]) _ _ _
  refine Calls.spliced_cons (load_bi G S1 i.k hx (by decide) (G.ty _ .tuple (by decide)) (Calls.spliced_cons (load_bi G S1 i.k hy (by decide) (G.ty _ .list (by decide)) (Calls.spliced_nil ?_))))
  refine wpAny_newObj_type (Calls.spliced_nil ?_) (by size_fits)
  have l2 : Le No w1 ⟨w1.ι, w1.π, { w1.s with heap := w1.s.heap.push { cls := .type "tuple", data := .seq #[.type "tuple", .type "list"] } }⟩ := .keeps (pushk _)
  have z := Rf.bind (k := Pure.pure) (isiTL_leaf (A := A) (r1.mono l2) (Heap.get?_push_size _ rfl)) fun w2 b x l2 e => Rf.pure (R := VR cx) (a := .bool b) e
  rw [bind_pure] at z
  exact wpAny_mono (z H1 (S1.keeps (t := w1.s.toks) (pushk _)) r H' h1) (fun _ _ q => q.le (l1.trans l2)) fun _ _ q => q.le (l1.trans l2)

-- methods
theorem mt_slot (m : Mt) : ∃ x : Str, Slot "list" x (mtId m) ∧ typeOf (.builtin (mtId m)) = pure (.type "method_descriptor") ∧ ∀ y, mtOf y = some m → y = x := by
  have key : ∀ y, (mtOf y = some .append → y = ("append" : Str)) ∧ (mtOf y = some .pop → y = ("pop" : Str)) ∧ (mtOf y = some .clear → y = ("clear" : Str)) ∧ (mtOf y = some .count → y = ("count" : Str)) := fun y => by
    unfold mtOf
    split
    · exact ⟨fun _ => ‹_›, fun h => (nomatch h), fun h => (nomatch h), fun h => (nomatch h)⟩
    split
    · exact ⟨fun h => (nomatch h), fun _ => ‹_›, fun h => (nomatch h), fun h => (nomatch h)⟩
    split
    · exact ⟨fun h => (nomatch h), fun h => (nomatch h), fun _ => ‹_›, fun h => (nomatch h)⟩
    split
    · exact ⟨fun h => (nomatch h), fun h => (nomatch h), fun h => (nomatch h), fun _ => ‹_›⟩
    · exact ⟨fun h => (nomatch h), fun h => (nomatch h), fun h => (nomatch h), fun h => (nomatch h)⟩
  cases m with
  | append => exact ⟨_, F.slot_list_append, by kernel_rfl, fun y => (key y).1⟩
  | pop => exact ⟨_, F.slot_list_pop, by kernel_rfl, fun y => (key y).2.1⟩
  | clear => exact ⟨_, F.slot_list_clear, by kernel_rfl, fun y => (key y).2.2.1⟩
  | count => exact ⟨_, F.slot_list_count, by kernel_rfl, fun y => (key y).2.2.2⟩
theorem plainBase_attr {o : Expr} {m : Str} (h : plainBase o = true) : attributeBase o m env (eval o env) = eval o env := by
  cases o <;> first | (cases h; done) | rfl
theorem pMeth_rf (R : Room A) {k : Mt} {o : AV} {l : Addr} {as : List AV} {vs : List Value} (ro : VR cx w o (.ref l)) (r : VRs cx w as vs) : Rf cx A No w (VR cx) (pMethK k o as) (PySem.call (.builtin (mtId k)) (.ref l :: vs)) := by
  cases o with
  | loc i => obtain ⟨a, e, h⟩ := ro; cases e; exact .read (listAt_rd h) fun xs ⟨ws, n, hL, hz, hs⟩ => methL_rf R h hL hz hs r
  | lst xs =>
    obtain ⟨a, ws, n, e, hL, _, hz, hs⟩ := ro
    cases e
    exact .stuck
  | _ => exact .stuck
theorem meth_rf (R : Room A) {o : Expr} {m : Str} {k : Mt} {ap q : Pos} {args : List Expr} (hev : EvOK cx A env (EnvR cx env sc ns σ) ev) (i : EnvR cx env sc ns σ w) (hm : mtOf m = some k) (hb : (plainBase o && ap.endLine == q.line && decide (args.length ≤ 2) && args.all exOk) = true) :
    Rf cx A No w (VR cx) (do let ov ← ev o; let _ ← listOf ov; let vs ← evAll ev args; pMethK k ov vs) (eval (.Call (.Attribute o m ap) args [] q) env) := fun H S r H' h => by
  rw [Bool.and_eq_true, Bool.and_eq_true, Bool.and_eq_true] at hb
  obtain ⟨⟨⟨hb1, hb2⟩, hb3⟩, hb4⟩ := hb
  obtain ⟨x, hs1, hs2, hs3⟩ := mt_slot k
  have hm' := hs3 m hm
  subst hm'
  refine wpAny_Call_method_late (trees := backTo q (starEach args env)) (plainBase_attr hb1) ?_ hb2 rfl ((hev o w i).run S h fun w1 a v H1 l1 S1 r1 h1 => ?_)
  · rw [(len_star q args hb4).2]
    show (true && decide _) = true
    rw [Bool.true_and, decide_eq_true_iff]
    exact Nat.lt_of_le_of_lt (of_decide_eq_true hb3) (by decide)
  · refine bind_inv h1 (fun xs H2 g1 g2 => ?_) fun e g1 g2 => (by obtain ⟨_, c, e', _⟩ := listOf_rd r1 H1 S1 _ H' g1; cases e')
    obtain ⟨rfl, c, e', l, vs, n, rfl, hL, hz, hvs⟩ := listOf_rd r1 H1 S1 _ H2 g1
    refine ⟨"list", mtId k, F.plainAttrs_list, hs1, hs2, ⟨_, hL, rfl⟩, fun a' z => by cases z; exact ⟨_, hL, rfl⟩, ?_⟩
    have z := Rf.seqw (f := pMethK k a) (T := callWith q (.builtin (mtId k)) [.ref l] (backTo q (starEach args env)) []) (k := fun a => PySem.call (.builtin (mtId k)) ([.ref l] ++ a.pos) a.kw) (args_rf (f := .builtin (mtId k)) (pos := q) EnvR.stable hev (EnvR.stable _ _ i l1) hb4)
      (fun w' as a' l ⟨vs, e, r⟩ => by subst e; exact pMeth_rf R (r1.mono l) r) fun z => Calls.callWith_builtin (any_star q args hb4) z
    exact wpAny_mono (z _ S1 r H' g2) (fun _ _ q => q.le l1) fun _ _ q => q.le l1
theorem fn_rf {f : Str} {fp q : Pos} {args : List Expr} {cf : Str → List AV → M AV} (G : Good cx P) (C : CallOK cx A P cf) (hev : EvOK cx A env (EnvR cx env sc ns σ) ev) (i : EnvR cx env sc ns σ w) (hg : isGlob sc f = true) (hf : (P.fn f).isSome = true) :
    Rf cx A No w (VR cx) (do let vs ← evEach ev args; cf f vs) (eval (.Call (.Name f fp) args [] q) env) := by
  obtain ⟨hd, fa, o, fd, q1, q2, q3, q4⟩ := C f hf
  refine named_rf (fun S h => load_glob G S i.k hg hd q1 h) (each_call fun h H S r H' hh => Calls.callWith_function (o := o) (fd := fd) ((args_rf (f := .ref fa) (pos := q) EnvR.stable hev i h).run S hh fun w1 as a H1 l1 S1 ⟨vs, e, r1⟩ h1 => ?_))
  subst e
  exact ⟨⟨(S1.base _ _ q2).1, q3⟩, wpAny_mono (q4 w1 as vs r1 H1 S1 r H' h1) (fun _ _ q => q.le l1) fun _ _ q => q.le l1⟩
/-- list(zip(a, b)) -/
def ZipOK (cx : Cx) (A : Around) : Prop := ∀ w a b v u mu H r H', VR cx w a v → VR cx w b u → St cx w H → pZip mu a b H = some (r, H') →
  wpAny (model cx.prog cx.w) A (PySem.call (.type "zip") [v, u]) (fun z s1 => wpAny (model cx.prog cx.w) A (PySem.call (.type "list") [z]) (Post cx No w (VR cx) r H') (PostX cx No w r H') s1) (PostX cx No w r H') w.s
theorem nameOf1_of {e : Expr} {x : Str × Pos} (h : nameOf1 e = some x) : e = .Name x.1 x.2 := by
  cases e with
  | Name y q => cases h; rfl
  | _ => cases h
theorem pairN_of {es : List Expr} {x y : Str × Pos} (h : pairN es = some (x, y)) : es = [.Name x.1 x.2, .Name y.1 y.2] := by
  match es, h with
  | [a, b], h =>
    unfold pairN at h
    cases ha : nameOf1 a with
    | none => simp only [ha] at h; cases h
    | some z =>
      simp only [ha] at h
      obtain ⟨u, h1, h2⟩ := Option.map_eq_some_iff.mp h
      cases h2
      rw [nameOf1_of ha, nameOf1_of h1]
theorem callOf_of {e : Expr} {f : Str} {args : List Expr} (h : callOf e = some (f, args)) : ∃ fp p, e = .Call (.Name f fp) args [] p := by
  cases e with
  | Call g as kws p =>
    cases kws with
    | nil =>
      obtain ⟨z, h1, h2⟩ := Option.map_eq_some_iff.mp (show (nameOf1 g).map (fun x => (x.1, as)) = some (f, args) from h)
      cases h2
      exact ⟨z.2, p, by rw [nameOf1_of h1]⟩
    | cons _ _ => cases h
  | _ => cases h
theorem isZip_of {args : List Expr} {x y : Expr} (h : isZip sc args = some (x, y)) : ∃ zp q, args = [.Call (.Name ("zip" : Str) zp) [x, y] [] q] ∧ isGlob sc ("zip" : Str) = true := by
  match args, h with
  | [e], h =>
    unfold isZip at h
    simp only at h
    split at h
    · rename_i z x' y' hc
      split at h
      · rename_i hz
        cases h
        obtain ⟨fp, p, rfl⟩ := callOf_of hc
        obtain ⟨rfl, h2⟩ := hz
        exact ⟨fp, p, rfl, h2⟩
      · cases h
    · cases h
theorem zip_rf {f : Str} {fp q : Pos} {args : List Expr} {x y : Expr} {mu : Bool} (Z : ZipOK cx A) (G : Good cx P) (hev : EvOK cx A env (EnvR cx env sc ns σ) ev) (i : EnvR cx env sc ns σ w) (hg : isGlob sc f = true) (hb : biOf f = some .list) (hz : isZip sc args = some (x, y)) :
    Rf cx A No w (VR cx) (do let vs ← evEach ev [x, y]; pZipL mu vs) (eval (.Call (.Name f fp) args [] q) env) := by
  obtain ⟨zp, q', rfl, hgz⟩ := isZip_of hz
  refine named_rf (fun S h => load_bi G S i.k hg (no_debug (g := biOf) (by decide) hb) (G.bi f .list hb) h) (each_call fun h H S r H' hh => ?_)
  refine PyProof.Rows.callWith_type rfl (Calls.evalArgs_plain (Calls.spliced_cons (Call_Name rfl (load_bi G S i.k hgz (by decide) G.zip ?_))))
  refine PyProof.Rows.callWith_type (any_star q' _ h) ((args_rf (f := .type "zip") (pos := q') EnvR.stable hev i h).run S hh fun w1 as a H1 l1 S1 ⟨vs, e, r1⟩ h1 => ?_)
  subst e
  match as, r1, h1 with
  | [a, b], r1, h1 =>
    refine r1.consE fun v us ra r0 => r0.consE fun v' us' rb r2 => r2.nilE ?_
    refine wpAny_mono (Z w1 a b v v' mu H1 r H' ra rb S1 h1) (fun z s2 h2 => Calls.spliced_nil ?_) fun _ _ q => q.le l1
    exact wpAny_mono h2 (fun _ _ q => q.le l1) fun _ _ q => q.le l1
  | [], _, h1 => cases h1
  | [_], _, h1 => cases h1
  | _ :: _ :: _ :: _, _, h1 => cases h1
theorem call_rf {f : Expr} {args : List Expr} {q : Pos} {mu : Bool} {cf : Str → List AV → M AV} (hh : A.handled = none) (R : Room A) (Z : ZipOK cx A) (G : Good cx P) (C : CallOK cx A P cf) (hev : EvOK cx A env (EnvR cx env sc ns σ) ev) (i : EnvR cx env sc ns σ w) :
    Rf cx A No w (VR cx) (dCall P ev cf mu sc f args q) (eval (.Call f args [] q) env) := by
  cases f with
  | Attribute o m ap =>
    show Rf cx A No w (VR cx) (match mtOf m with | some k => _ | none => stuck) _
    cases hm : mtOf m with
    | none => exact .stuck
    | some k => exact ite_rf (fun hb => meth_rf R hev i hm hb) fun _ => .stuck
  | Name f fp =>
    refine ite_rf (fun hg => ite_rf (fun hf => ?_) fun hf => ?_) fun _ => .stuck
    · subst hf
      match args with
      | [] => exact .stuck
      | [_] => exact .stuck
      | _ :: _ :: _ :: _ => exact .stuck
      | [e, t] =>
        refine ite_rf (fun he => ?_) fun _ => .stuck
        cases t with
        | Name t tp =>
          refine ite_rf (fun hx => ?_) fun _ => .stuck
          cases ht : tyOf t with
          | none => exact .stuck
          | some t => exact isi1_rf G hev i hg hx ht he
        | Tuple es k tp =>
          show Rf cx A No w (VR cx) (match pairN es with | some (t, u) => _ | none => stuck) _
          cases hp : pairN es with
          | none => exact .stuck
          | some tu =>
            obtain ⟨t, u⟩ := tu
            refine ite_rf (fun hx => ?_) fun _ => .stuck
            rw [Bool.and_eq_true, Bool.and_eq_true] at hx
            rw [pairN_of hp]
            exact isi2_rf G hev i hg hx.1.2 hx.2 hx.1.1 he
        | _ => exact .stuck
    · show Rf cx A No w (VR cx) (match biOf f with | some b => _ | none => _) _
      cases hb : biOf f with
      | none => exact ite_rf (fun hf => fn_rf G C hev i hg hf) fun _ => .stuck
      | some b =>
        show Rf cx A No w (VR cx) (dBI ev mu sc b args) _
        unfold dBI
        cases hz : (if b = .list then isZip sc args else none : Option (Expr × Expr)) with
        | none => exact bi_call hh G hev i hg hb
        | some xy =>
          obtain ⟨x, y⟩ := xy
          split at hz
          · rename_i hl; subst hl; exact zip_rf Z G hev i hg hb hz
          · cases hz
  | _ => exact .stuck
end
end Mine


set_option autoImplicit false
set_option linter.unusedVariables false
namespace Mine
open PySem PyProof.Rows PySem.SeqAt

/-- the iterator at it walks the items xs, i of them are through -/
inductive ItI (cx : Cx) (w : Wl) (it : Addr) (xs : List AV) (i : Nat) : Prop
  | list (l : Addr) (vs : Array Value) (n : Nat) (h1 : w.s.heap.IsListIter it l i) (h2 : IsL w.s.heap l vs n) (h3 : Fz w l) (h4 : VRs cx w xs vs.toList)
  | tup (l : Addr) (vs : Array Value) (n : Nat) (h1 : w.s.heap.IsTupleIter it l i) (h2 : IsT w.s.heap l vs n) (h3 : Fz w l) (h4 : VRs cx w xs vs.toList)
  | range (a b : Int) (e : xs = rangeL a b) (h1 : IsRangeIter w.s.heap it (a + i) (((b - a).toNat : Int) - i) 1)
def ItR (cx : Cx) (w : Wl) (it : Addr) (i : Nat) : Src → Prop
  | .items xs => ItI cx w it xs i
  | .at l => ∃ a, w.ι[l]? = some a ∧ w.s.heap.IsListIter it a i
  | .enum _ => False
section
variable {cx : Cx} {A : Around} {p : Addr → Prop} {w w' : Wl} {H : AHeap} {it : Addr} {i : Nat}
theorem ItR.mono (l : Le p w w') (hp : it ∈ w.π) (hn : ¬ p it) : ∀ {src : Src}, ItR cx w it i src → ItR cx w' it i src
  | .items _, .list a vs n h1 h2 h3 h4 => .list a vs n (h1.at fun o e => l.kp _ o hp hn e) (l.fz' h2 h3).1 (l.fz' h2 h3).2 (h4.mono l)
  | .items _, .tup a vs n ⟨o, e, q⟩ h2 h3 h4 => .tup a vs n ⟨o, l.kp _ o hp hn e, q⟩ (l.fz' h2 h3).1 (l.fz' h2 h3).2 (h4.mono l)
  | .items _, .range a b e h1 => .range a b e (l.kp _ _ hp hn h1)
  | .at _, ⟨a, h1, h2⟩ => ⟨a, prefix_get l.pre h1, h2.at fun o e => l.kp _ o hp hn e⟩
/-- what a turn of the iterator gives -/
def RNext (cx : Cx) (it : Addr) (i : Nat) (src : Src) (w : Wl) (r : Option AV) (o : Option Value) : Prop := match r with
  | none => o = none
  | some a => ∃ v, o = some v ∧ VR cx w a v ∧ it ∈ w.π ∧ ItR cx w it (i + 1) src
theorem rangeL_get {a b : Int} {i : Nat} : (rangeL a b)[i]? = if i < (b - a).toNat then some (.int (a + i)) else none := by
  unfold rangeL
  rw [List.getElem?_map]
  by_cases h : i < (b - a).toNat
  · rw [List.getElem?_range h, if_pos h]; rfl
  · rw [List.getElem?_eq_none (by rw [List.length_range]; exact Nat.not_lt.mp h), if_neg h]; rfl
/-- the iterator turns -/
theorem next_item (S : St cx w H) (hp : it ∈ w.π) {h' : Heap} {t : Nat} (hk : ∀ b o, b ≠ it → w.s.heap.get? b = some o → h'.get? b = some o) {src : Src} {a : AV} {v : Value}
    (k : Le (fun b => b = it) w ⟨w.ι, w.π, { w.s with heap := h', toks := t }⟩ → VR cx ⟨w.ι, w.π, { w.s with heap := h', toks := t }⟩ a v ∧ ItR cx ⟨w.ι, w.π, { w.s with heap := h', toks := t }⟩ it (i + 1) src)
    (hx : ∃ o, h'.get? it = some o) : Post cx (fun b => b = it) w (RNext cx it i src) (.ok (some a)) H (some v) { w.s with heap := h', toks := t } :=
  let q := S.priv (t := t) hp hk hx; ⟨w.ι, w.π, _, rfl, q.1, q.2, v, rfl, (k q.1).1, hp, (k q.1).2⟩
theorem next_end (S : St cx w H) (hp : it ∈ w.π) {h' : Heap} {t : Nat} (hk : ∀ b o, b ≠ it → w.s.heap.get? b = some o → h'.get? b = some o) {src : Src} : Post cx (fun b => b = it) w (RNext cx it i src) (.ok none) H none { w.s with heap := h', toks := t } :=
  let q := S.drop (t := t) hp hk; ⟨w.ι, _, _, rfl, q.1, q.2, rfl⟩
theorem ne_vs {vs : Array Value} {xs : List AV} (h4 : VRs cx w xs vs.toList) (hx : xs[i]? = none) : vs[i]? = none := by
  rw [Array.getElem?_eq_none_iff, h4.size]; exact List.getElem?_eq_none_iff.mp hx
theorem nextL_rf (hh : A.handled = none) (hp : it ∈ w.π) {l : Addr} {vs : Array Value} {n : Nat} {xs : List AV} {src : Src} (h1 : w.s.heap.IsListIter it l i) (h2 : IsL w.s.heap l vs n) (h4 : VRs cx w xs vs.toList)
    (k : ∀ {h' : Heap} {t : Nat}, Le (fun b => b = it) w ⟨w.ι, w.π, { w.s with heap := h', toks := t }⟩ → h'.IsListIter it l (i + 1) → ItR cx ⟨w.ι, w.π, { w.s with heap := h', toks := t }⟩ it (i + 1) src) :
    Rf cx A (fun b => b = it) w (RNext cx it i src) (pure xs[i]?) (pyNext (.ref it)) := .leaf fun H S => by
  cases hx : xs[i]? with
  | none => exact wpAny_pyNext_list_end hh h1 h2.isList (ne_vs h4 hx) fun h' he => next_end S (t := w.s.toks) hp he
  | some a =>
    obtain ⟨v, hv, rv⟩ := h4.get hx
    exact wpAny_pyNext_list_item h1 h2.isList (x := v) (by rw [← Array.getElem?_toList]; exact hv) fun h' hit hs => next_item S (t := w.s.toks) hp hs.extBut (fun l => ⟨rv.mono l, k l hit⟩) (let ⟨o, e, _⟩ := hit; ⟨o, e⟩)
theorem next_rf (hh : A.handled = none) (hp : it ∈ w.π) : ∀ {src : Src}, ItR cx w it i src → Rf cx A (fun b => b = it) w (RNext cx it i src) (src.get i) (pyNext (.ref it))
  | .items xs, .list a vs n h1 h2 h3 h4 => nextL_rf hh hp h1 h2 h4 fun l hit => .list a vs n hit (l.fz' h2 h3).1 (l.fz' h2 h3).2 (h4.mono l)
  | .at j, ⟨a, h1, h2⟩ => .read (listAt_rd h1) fun xs ⟨vs, n, hL, hz, hs⟩ => nextL_rf hh hp h2 hL hs fun l hit => ⟨a, h1, hit⟩
  | .items xs, .tup a vs n h1 h2 h3 h4 => .leaf fun H S => by
    have hT : w.s.heap.IsTuple a vs := ⟨_, h2, rfl, n, rfl⟩
    cases hx : xs[i]? with
    | none => exact wpAny_pyNext_tuple_end hh h1 hT (ne_vs h4 hx) fun h' he => next_end S (t := w.s.toks) hp he
    | some c =>
      obtain ⟨v, hv, rv⟩ := h4.get hx
      exact wpAny_pyNext_tuple_item h1 hT (x := v) (by rw [← Array.getElem?_toList]; exact hv) fun h' hit hs => next_item S (t := w.s.toks) hp hs.extBut (fun l => ⟨rv.mono l, .tup a vs n hit (l.fz' h2 h3).1 (l.fz' h2 h3).2 (h4.mono l)⟩) (let ⟨o, e, _⟩ := hit; ⟨o, e⟩)
  | .items xs, .range a b e h1 => .leaf fun H S => by
    rw [e, rangeL_get]
    split
    · refine wpAny_pyNext_range_item h1 (by omega) fun h' hit hs => next_item S (t := w.s.toks + 1) hp hs.extBut (fun l => ⟨.int, .range a b rfl ?_⟩) ⟨_, hit⟩
      have e1 : a + ((i + 1 : Nat) : Int) = a + i + 1 := by omega
      have e2 : ((b - a).toNat : Int) - ((i + 1 : Nat) : Int) = ((b - a).toNat : Int) - i - 1 := by omega
      rw [e1, e2]; exact hit
    · exact wpAny_pyNext_range_end hh h1 (by omega) fun h' he => next_end S (t := w.s.toks) hp he
/-- an iterator is made: it is private -/
def RIter (cx : Cx) (w₀ w : Wl) (src : Src) (v : Value) : Prop := ∃ it, v = .ref it ∧ it ∈ w.π ∧ ItR cx w it 0 src ∧ w₀.s.heap.get? it = none
theorem iter_post (S : St cx w H) {o : Obj} {src : Src} (k : Le No w ⟨w.ι, w.s.heap.objs.size :: w.π, { w.s with heap := w.s.heap.push o }⟩ → ItR cx ⟨w.ι, w.s.heap.objs.size :: w.π, { w.s with heap := w.s.heap.push o }⟩ w.s.heap.objs.size 0 src) (hf : o.isFreed = false) :
    Post cx No w (RIter cx w) (.ok src) H (.ref w.s.heap.objs.size) { w.s with heap := w.s.heap.push o } :=
  let q := S.hide (t := w.s.toks) (pushk o) (get_size _) ⟨o, Heap.get?_push_size _ hf⟩; ⟨w.ι, _, src, rfl, q.1, q.2, _, rfl, List.mem_cons_self, k q.1, get_size _⟩
theorem iter_rf {a : AV} {v : Value} (ra : VR cx w a v) : Rf cx A No w (RIter cx w) (srcOf a) (pyIter v) := by
  cases a with
  | tup xs => exact ra.tupE fun l vs n h1 h2 h3 h4 => .leaf fun H S => wpAny_pyIter_tuple ⟨_, h1, rfl, _, rfl⟩ (iter_post S (fun q => .tup l vs n ⟨_, Heap.get?_push_size _ rfl, rfl, rfl⟩ (q.fz' h1 h2).1 (q.fz' h1 h2).2 (h4.mono q)) rfl)
  | lst xs => exact ra.lstE fun l vs n h1 h2 h3 h4 => .leaf fun H S => wpAny_pyIter_list h1.isList (iter_post S (fun q => .list l vs n ⟨_, Heap.get?_push_size _ rfl, rfl, rfl⟩ (q.fz' h1 h2).1 (q.fz' h1 h2).2 (h4.mono q)) rfl)
  | range a b => exact ra.rangeE fun d t u x hr hf => ite_rf (fun hsm => .leaf fun H S => wpAny_pyIter_range hr (small_of hsm) (iter_post S (fun q => .range a b rfl (by rw [range_count, show ((0 : Nat) : Int) = 0 from rfl, Int.add_zero, Int.sub_zero]; exact Heap.get?_push_size _ rfl)) rfl)) fun _ => .stuck
  | loc i => exact ra.locE fun l h => .read (listAt_rd h) fun xs ⟨vs, n, hL, _⟩ => .leaf fun H S => wpAny_pyIter_list hL.isList (iter_post S (fun q => ⟨l, h, _, Heap.get?_push_size _ rfl, rfl, rfl⟩) rfl)
  | _ => exact .stuck
/-- an iterator is its own iterator -/
theorem self_iter {Q : Value → Shared → Prop} {E : Value → Shared → Prop} (h : Q (.ref it) w.s) : ∀ {src : Src}, ItR cx w it i src → wpAny (model cx.prog cx.w) A (pyIter (.ref it)) Q E w.s
  | .items _, .list _ _ _ h1 _ _ _ => wpAny_pyIter_listiter h1 h
  | .items _, .tup _ _ _ h1 _ _ _ => wpAny_pyIter_tupleiter h1 h
  | .items _, .range _ _ _ h1 => wpAny_pyIter_rangeiter h1 h
  | .at _, ⟨_, _, h1⟩ => wpAny_pyIter_listiter h1 h
end
end Mine


set_option autoImplicit false
set_option linter.unusedVariables false
namespace Mine
open PySem PyProof.Rows PySem.SeqAt

section
variable {cx : Cx} {A : Around} {env : Env} {sc : Scope} {ns : List Str} {σ : Loc}
theorem closureFor_some {scope : Scope} (h : ∀ y, (y, NameKind.free) ∈ scope.names → ∃ c, env.cells.lookup y = some c) :
    ∃ cl, closureFor scope env = pure cl ∧ (∀ y, (y, NameKind.free) ∈ scope.names → cl.lookup y = env.cells.lookup y) ∧ ∀ y c, cl.lookup y = some c → env.cells.lookup y = some c := by
  have go : ∀ (names : List (Str × NameKind)) (acc : List (Str × Addr)), (∀ y, (y, NameKind.free) ∈ names → ∃ c, env.cells.lookup y = some c) →
      (∀ y c, acc.lookup y = some c → env.cells.lookup y = some c) →
      ∃ cl, (forIn (m := Sem) names acc fun x r => if (x.2 == NameKind.free) = true then (do let c ← cellOf env x.1; pure (ForInStep.yield ((x.1, c) :: r))) else pure (ForInStep.yield r)) = pure cl ∧
        (∀ y c, cl.lookup y = some c → env.cells.lookup y = some c) ∧ (∀ y, (y, NameKind.free) ∈ names → ∃ c, cl.lookup y = some c) ∧ (∀ y c, acc.lookup y = some c → ∃ c', cl.lookup y = some c') := by
    intro names
    induction names with
    | nil => intro acc _ ha; exact ⟨acc, rfl, ha, fun y hy => (nomatch hy), fun y c hc => ⟨c, hc⟩⟩
    | cons x r ih =>
      intro acc hn ha
      rw [List.forIn_cons]
      by_cases hx : x.2 = .free
      · obtain ⟨c, hc⟩ := hn x.1 (by rw [← hx]; exact List.mem_cons_self)
        have hcell : cellOf env x.1 = pure c := by unfold cellOf; rw [hc]
        rw [if_pos (by rw [hx]; rfl), hcell]
        simp only [pure_bind]
        have ha' : ∀ y c', ((x.1, c) :: acc).lookup y = some c' → env.cells.lookup y = some c' := fun y c' h' => by
          rw [List.lookup_cons] at h'
          cases hb : y == x.1 with
          | true => rw [hb] at h'; cases h'; rw [beq_iff_eq.mp hb]; exact hc
          | false => rw [hb] at h'; exact ha y c' h'
        obtain ⟨cl, e1, e2, e3, e4⟩ := ih ((x.1, c) :: acc) (fun y hy => hn y (List.mem_cons_of_mem _ hy)) ha'
        refine ⟨cl, e1, e2, fun y hy => ?_, fun y c' h' => ?_⟩
        · rcases List.mem_cons.mp hy with q | q
          · exact e4 y c (by rw [← q, List.lookup_cons, beq_self_eq_true])
          · exact e3 y q
        · cases hb : y == x.1 with
          | true => exact e4 y c (by rw [List.lookup_cons, hb])
          | false => exact e4 y c' (by rw [List.lookup_cons, hb]; exact h')
      · rw [if_neg (fun z => hx (by simpa using z))]
        simp only [pure_bind]
        obtain ⟨cl, e1, e2, e3, e4⟩ := ih acc (fun y hy => hn y (List.mem_cons_of_mem _ hy)) ha
        refine ⟨cl, e1, e2, fun y hy => ?_, e4⟩
        rcases List.mem_cons.mp hy with q | q
        · exact absurd (by rw [← q]) hx
        · exact e3 y q
  obtain ⟨cl, e1, e2, e3, _⟩ := go scope.names [] h (fun y c hc => by cases hc)
  refine ⟨cl, ?_, fun y hy => ?_, e2⟩
  · have e0 : closureFor scope env = ((forIn (m := Sem) scope.names ([] : List (Str × Addr)) fun x r => if (x.2 == NameKind.free) = true then (do let c ← cellOf env x.1; pure (ForInStep.yield ((x.1, c) :: r))) else pure (ForInStep.yield r)) >>= fun cs => pure cs) := by
      unfold closureFor
      congr 1
    rw [e0, e1]; rfl
  · obtain ⟨c, hc⟩ := e3 y hy
    rw [hc, e2 y c hc]
/-- the kind that a name of the comprehension has, seen from its frame -/
def relK (env : Env) (y : Str) (k : NameKind) : NameKind := if (k == NameKind.free && env.scope.kind == .function && env.kindOf y == some .cell) then NameKind.cell else k
theorem relabel_lookup (y : Str) : ∀ (names : List (Str × NameKind)),
    (names.map fun (n, k) => if (k == NameKind.free && env.scope.kind == .function && env.kindOf n == some .cell) then (n, NameKind.cell) else (n, k)).lookup y = (names.lookup y).map (relK env y)
  | [] => rfl
  | (n, k) :: r => by
    have ih := relabel_lookup y r
    show List.lookup y ((if (k == NameKind.free && env.scope.kind == .function && env.kindOf n == some .cell) = true then (n, NameKind.cell) else (n, k)) :: _) = _
    rw [show (if (k == NameKind.free && env.scope.kind == .function && env.kindOf n == some .cell) = true then (n, NameKind.cell) else (n, k)) = (n, relK env n k) from by unfold relK; split <;> rfl, List.lookup_cons, List.lookup_cons]
    cases hx : y == n with
    | true => rw [beq_iff_eq.mp hx]; rfl
    | false => exact ih
theorem lookup_mem {names : List (Str × NameKind)} {y : Str} {k : NameKind} (h : names.lookup y = some k) : (y, k) ∈ names := by
  induction names with
  | nil => cases h
  | cons p r ih =>
    rw [List.lookup_cons] at h
    cases hb : y == p.1 with
    | true => rw [hb] at h; cases h; rw [beq_iff_eq.mp hb]; exact List.mem_cons_self
    | false => rw [hb] at h; exact List.mem_cons_of_mem _ (ih h)
structure CompOK (sc : Scope) (ns : List Str) (scope : Scope) (x : Str) : Prop where
  kind : scope.kind = .function
  own : scope.names.lookup x = some .local
  no0 : (".0" : Str) ∉ ns
  loc : ∀ y, (y, NameKind.local) ∈ scope.names → (y = x ∨ y = (".0" : Str)) ∧ scope.names.lookup y = some .local
  free : ∀ y, (y, NameKind.free) ∈ scope.names → sc.names.lookup y = some .cell ∧ ns.contains y = true
  kinds : ∀ y k, (y, k) ∈ scope.names → k = .local ∨ k = .free ∨ k = .globalImplicit
theorem compOk_of {scope : Scope} {x : Str} (h : compOk sc ns scope x = true) : CompOK sc ns scope x := by
  unfold compOk at h
  rw [Bool.and_eq_true, Bool.and_eq_true, Bool.and_eq_true, List.all_eq_true] at h
  obtain ⟨⟨⟨h1, h2⟩, h3⟩, h4⟩ := h
  refine ⟨by simpa using h1, by simpa using h2, by simpa using h3, fun y hy => ?_, fun y hy => ?_, fun y k hy => ?_⟩
  · have := h4 _ hy
    simpa using this
  · have := h4 _ hy
    simpa using this
  · have h5 := h4 _ hy
    cases k with
    | «local» => exact .inl rfl
    | free => exact .inr (.inl rfl)
    | globalImplicit => exact .inr (.inr rfl)
    | _ => cases h5
theorem idxOf_cons_ne {x y : Str} (h : y ≠ x) : (x :: ns).idxOf? y = (ns.idxOf? y).map (· + 1) := by
  rw [List.idxOf?_cons, if_neg (by simpa using Ne.symm h)]
theorem EnvR.comp {w : Wl} {scope : Scope} {x : Str} {cl : List (Str × Addr)} {C : Addr} {m : Str → Option Value} {a : AV} {v : Value} (e : EnvR cx env sc ns σ w) (ok : CompOK sc ns scope x) (hcl : (∀ y, (y, NameKind.free) ∈ scope.names → cl.lookup y = env.cells.lookup y) ∧ ∀ y c, cl.lookup y = some c → env.cells.lookup y = some c)
    (hC : C ∈ w.π) (hn : w.s.heap.Ns C m) (hx : m x = some v) (r : VR cx w a v) : EnvR cx (compEnvC scope cl C env) scope (x :: ns) (some a :: σ) w := by
  have hk : ∀ y, (compEnvC scope cl C env).kindOf y = (scope.names.lookup y).map (relK env y) := fun y => relabel_lookup (env := env) y scope.names
  have hlook : ∀ y k, scope.names.lookup y = some k → k = .local ∨ k = .free ∨ k = .globalImplicit := fun y k q => ok.kinds y k (lookup_mem q)
  have kf : ∀ y, relK env y .free = .cell ∨ relK env y .free = .free := fun y => by unfold relK; split; exact .inl rfl; exact .inr rfl
  refine ⟨⟨?_, e.k.glob, e.k.blt, ?_, ?_, ?_⟩, hC, ⟨m, hn, ?_⟩, ?_, ?_, fun n c q => e.cls n c (hcl.2 n c q)⟩
  · show (relabel scope env).kind = _; exact ok.kind
  · intro y hy
    rw [hk]
    unfold isLocal at hy
    cases hl : scope.names.lookup y with
    | none => rw [hl] at hy; cases hy
    | some k =>
      rcases hlook y k hl with q | q | q
      · subst q; exact .inl rfl
      · subst q; rcases kf y with z | z
        · exact .inr (.inl (congrArg some z))
        · exact .inr (.inr (congrArg some z))
      · subst q; rw [hl] at hy; cases hy
  · intro y h2
    rcases hlook y _ h2 with q | q | q <;> cases q
  · intro y hy
    rw [hk]
    unfold isGlob at hy
    cases hl : scope.names.lookup y with
    | none => rw [hl] at hy; cases hy
    | some k =>
      rcases hlook y k hl with q | q | q
      · subst q; rw [hl] at hy; cases hy
      · subst q; rw [hl] at hy; cases hy
      · subst q; rfl
  · intro y i b h1 h2 h3
    rw [hk] at h3
    obtain ⟨k, hl, h3⟩ := Option.map_eq_some_iff.mp h3
    rcases hlook y k hl with q | q | q
    · subst q
      by_cases hyx : y = x
      · subst hyx
        rw [List.idxOf?_cons, beq_self_eq_true] at h1
        cases h1; cases h2
        exact ⟨v, hx, r⟩
      · rcases (ok.loc y (lookup_mem hl)).1 with hy | hy
        · exact absurd hy hyx
        · rw [idxOf_cons_ne hyx, List.idxOf?_eq_none_iff.mpr (by rw [hy]; exact ok.no0)] at h1; cases h1
    · subst q; rcases kf y with z | z <;> rw [z] at h3 <;> cases h3
    · subst q; cases h3
  · intro y i b h1 h2 h3
    rw [hk] at h3
    cases hl : scope.names.lookup y with
    | none => rw [hl] at h3; rcases h3 with h3 | h3 <;> cases h3
    | some k =>
      rw [hl] at h3
      rcases hlook y k hl with q | q | q
      · subst q; rcases h3 with h3 | h3 <;> cases h3
      · subst q
        obtain ⟨f1, f2⟩ := ok.free y (lookup_mem hl)
        have hyx : y ≠ x := fun q => by subst q; rw [ok.own] at hl; cases hl
        rw [idxOf_cons_ne hyx] at h1
        obtain ⟨j, hi, rfl⟩ := Option.map_eq_some_iff.mp h1
        obtain ⟨c, u, q1, q2, q3, q4⟩ := e.cel y j b hi h2 (.inl (e.k.kcell y f1))
        exact ⟨c, u, (hcl.1 y (lookup_mem hl)).trans q1, q2, q3, q4⟩
      · subst q; rcases h3 with h3 | h3 <;> cases h3
  · intro y h1 h2
    rcases hlook y _ h2 with q | q | q <;> cases q
end
end Mine


set_option autoImplicit false
set_option linter.unusedVariables false
namespace Mine
open PySem PyProof.Rows PySem.SeqAt

noncomputable def compBody (te : AV → Expr → M Bool) (ev : AV → Expr → M AV) (ifs : List Expr) (elt : Expr) (v : AV) : M (Option AV) := do
  let t ← ifs1 (te v) ifs
  if t then do
    let y ← ev v elt
    pure (some y)
  else pure none
/-- the private objects of a comprehension -/
def P3 (it C D : Addr) : Addr → Prop := fun b => b = it ∨ b = C ∨ b = D
section
variable {cx : Cx} {A : Around} {p : Addr → Prop} {w w' w₁ : Wl} {H : AHeap} {env : Env} {sc : Scope} {ns : List Str} {σ : Loc} {src : Src} {it C D : Addr} {i : Nat} {acc : List AV}
theorem noX_ok {α : Type} {m : M α} {H H' : AHeap} {r : Except Str α} (h : noX m H = some (r, H')) : ∃ a, r = .ok a ∧ m H = some (.ok a, H') := by
  unfold noX at h
  split at h
  · rename_i a H1 e; cases h; exact ⟨a, rfl, e⟩
  · cases h
/-- where a comprehension stands, ahead of a turn -/
structure CL (cx : Cx) (env : Env) (sc : Scope) (ns : List Str) (σ : Loc) (w₁ : Wl) (it C D : Addr) (src : Src) (i : Nat) (acc : List AV) (w : Wl) (H : AHeap) : Prop where
  S : St cx w H
  X : Le (P3 it C D) w₁ w
  E : EnvR cx env sc ns σ w
  pI : it ∈ w.π
  J : ItR cx w it i src
  pD : D ∈ w.π
  L : ∃ vs n, IsL w.s.heap D vs n ∧ VRs cx w acc vs.toList
  pC : C ∈ w.π
  N : ∃ m, w.s.heap.Ns C m
structure CLs (env : Env) (it C D : Addr) : Prop where
  iC : it ≠ C
  iD : it ≠ D
  cD : C ≠ D
  oI : ¬ Own env it
  oC : ¬ Own env C
  oD : ¬ Own env D
theorem ns_keep {h h' : Heap} {a : Addr} (x : ∃ m, h.Ns a m) (e : ∀ o, h.get? a = some o → h'.get? a = some o) : ∃ m, h'.Ns a m := let ⟨m, h1⟩ := x; ⟨m, h1.at' e⟩
theorem lst_keep {acc : List AV} (l : Le p w w') (hp : D ∈ w.π) (hn : ¬ p D) (x : ∃ vs n, IsL w.s.heap D vs n ∧ VRs cx w acc vs.toList) : ∃ vs n, IsL w'.s.heap D vs n ∧ VRs cx w' acc vs.toList := let ⟨vs, n, h1, h2⟩ := x; ⟨vs, n, l.kp _ _ hp hn h1, h2.mono l⟩
theorem CL.mono {H' : AHeap} (c : CL cx env sc ns σ w₁ it C D src i acc w H) (l : Le No w w') (S : St cx w' H') : CL cx env sc ns σ w₁ it C D src i acc w' H' :=
  ⟨S, c.X.trans l.no, EnvR.stable _ _ c.E l, l.pv _ c.pI id, c.J.mono l c.pI id, l.pv _ c.pD id, lst_keep l c.pD id c.L, l.pv _ c.pC id, ns_keep c.N fun o e => l.kp _ o c.pC id e⟩
theorem turn_rf (hh : A.handled = none) (c : CL cx env sc ns σ w₁ it C D src i acc w H) : Rf cx A (fun b => b = it) w (RNext cx it i src) (src.get i) (pyNext (.ref it)) := next_rf hh c.pI c.J
theorem CL.turnI {H' : AHeap} {j : Nat} (K : CLs env it C D) (c : CL cx env sc ns σ w₁ it C D src i acc w H) (l : Le (fun b => b = it) w w') (S : St cx w' H') (pI : it ∈ w'.π) (J : ItR cx w' it j src) : CL cx env sc ns σ w₁ it C D src j acc w' H' :=
  ⟨S, c.X.trans (l.weak fun b _ h => .inl h), c.E.mono l fun b hb h => K.oI (h ▸ hb), pI, J, l.pv _ c.pD (Ne.symm K.iD), lst_keep l c.pD (Ne.symm K.iD) c.L, l.pv _ c.pC (Ne.symm K.iC), ns_keep c.N fun o e => l.kp _ o c.pC (Ne.symm K.iC) e⟩
theorem CL.turnC {H' : AHeap} (K : CLs env it C D) (c : CL cx env sc ns σ w₁ it C D src i acc w H) (l : Le (fun b => b = C) w w') (S : St cx w' H') (pC : C ∈ w'.π) (N : ∃ m, w'.s.heap.Ns C m) : CL cx env sc ns σ w₁ it C D src i acc w' H' :=
  ⟨S, c.X.trans (l.weak fun b _ h => .inr (.inl h)), c.E.mono l fun b hb h => K.oC (h ▸ hb), l.pv _ c.pI K.iC, c.J.mono l c.pI K.iC, l.pv _ c.pD (Ne.symm K.cD), lst_keep l c.pD (Ne.symm K.cD) c.L, pC, N⟩
/-- an item is added -/
theorem CL.add (K : CLs env it C D) (c : CL cx env sc ns σ w₁ it C D src i acc w H) {a : AV} {v : Value} {Q : Value → Shared → Prop} {E : Value → Shared → Prop} (r : VR cx w a v) (hz : acc.length < LIM)
    (hQ : ∀ u w', CL cx env sc ns σ w₁ it C D src i (acc ++ [a]) w' H → Q u w'.s) : wpAny (model cx.prog cx.w) A (PySem.call (.builtin "list.append") [.ref D, v]) Q E w.s := by
  obtain ⟨vs, n, l1, l2⟩ := c.L
  refine call_meets F.slot_list_append ⟨_, l1, rfl⟩ F.entry_list_append (F.args_list_append_2 _ _) (list_append _ vs n v (by rw [l2.size]; exact Nat.le_trans (Nat.le_of_lt hz) LIM_le)) ⟨l1, hQ _ ⟨w.ι, w.π, { w.s with heap := w.s.heap.update D (Obj.mapSeq (·.push v)) }⟩ ?_⟩
  have hk : ∀ b o, b ≠ D → w.s.heap.get? b = some o → (w.s.heap.update D (Obj.mapSeq (·.push v))).get? b = some o := fun b o hb e => (Heap.get?_update_other _ _ (Ne.symm hb)).trans e
  have hL := IsL.update l1 (·.push v)
  obtain ⟨l, S⟩ := c.S.priv (t := w.s.toks) c.pD hk ⟨_, hL⟩
  exact ⟨S, c.X.trans (l.weak fun b _ h => .inr (.inr h)), c.E.mono l fun b hb h => K.oD (h ▸ hb), c.pI, c.J.mono l c.pI K.iD, c.pD, ⟨_, _, hL, by rw [Array.toList_push]; exact (l2.append (.cons r .nil)).mono l⟩, c.pC, ns_keep c.N fun o e => hk C o K.cD e⟩
theorem ifs_rf {te : Expr → M Bool} {I : Wl → Prop} {env' : Env} (hte : TeOK cx A env' I te) (i : I w) {ifs : List Expr} :
    Rf cx A No w Rt (ifs1 te ifs) (forIn ifs true fun c r => if r = true then do let ok ← PySem.isTrue c env' (eval c env'); pure (ForInStep.yield ok) else pure (ForInStep.yield r)) := by
  match ifs with
  | [] => exact .leaf fun H S => wpAny_tests_nil (.here S rfl)
  | [e] => exact (hte e w i).wp fun h => wpAny_tests_one h
  | _ :: _ :: _ => exact .stuck
theorem compLoop_sound {elt iter : Expr} {x : Str} {px pos : Pos} {ifs : List Expr} {scope : Scope} {cl : List (Str × Addr)} {ys : List AV} {te : AV → Expr → M Bool} {ev : AV → Expr → M AV} {R : Result → Shared → Prop} {H3 : AHeap}
    (hh : A.handled = none) (ok : CompOK sc ns scope x) (hcl : (∀ y, (y, NameKind.free) ∈ scope.names → cl.lookup y = env.cells.lookup y) ∧ ∀ y c, cl.lookup y = some c → env.cells.lookup y = some c) (K : CLs env it C D)
    (hev : ∀ env' a, EvOK cx A env' (EnvR cx env' scope (x :: ns) (some a :: σ)) (ev a)) (hte : ∀ env' a, TeOK cx A env' (EnvR cx env' scope (x :: ns) (some a :: σ)) (te a))
    (hR : ∀ w', St cx w' H3 → Le (P3 it C D) w₁ w' → EnvR cx env sc ns σ w' → D ∈ w'.π → (∃ vs n, IsL w'.s.heap D vs n ∧ VRs cx w' ys vs.toList) → C ∈ w'.π → (∃ m, w'.s.heap.Ns C m) → R (.ok .next) w'.s)
    (f : Nat) (i : Nat) (hc : CL cx env sc ns σ w₁ it C D src i acc w H) (hl : compLoop src (compBody te ev ifs elt) f i acc H = some (.ok ys, H3)) :
    codeAny (model cx.prog cx.w) A (.compLoop (.ListComp elt [⟨.Name x px, iter, ifs, 0⟩] scope pos) 0 (.ref it) (.ref D) (compEnvC scope cl C env)) R w.s := by
  refine codeAny_compLoop_tests (fun k s' => ∃ w H' i acc, w.s = s' ∧ CL cx env sc ns σ w₁ it C D src i acc w H' ∧ compLoop src (compBody te ev ifs elt) k i acc H' = some (.ok ys, H3)) ?_ f ⟨w, H, i, acc, rfl, hc, hl⟩
  clear hc hl
  rintro k s ⟨w, H, i, acc, rfl, c, hl⟩
  cases k with
  | zero => cases hl
  | succ k =>
    unfold compLoop at hl
    refine wpAny_mono ((turn_rf hh c).run c.S hl fun w1 r o H1 l1 S1 hr h2 => ?_) (fun _ _ z => z) fun _ _ ⟨_, _, _, e, _⟩ => nomatch e
    cases r with
    | none =>
      have hr : o = none := hr
      subst hr
      obtain ⟨e1, rfl⟩ := pure_some h2
      cases e1
      exact hR w1 S1 (c.X.trans (l1.weak fun b _ h => .inl h)) (c.E.mono l1 fun b hb h => K.oI (h ▸ hb)) (l1.pv _ c.pD (Ne.symm K.iD)) (lst_keep l1 c.pD (Ne.symm K.iD) c.L) (l1.pv _ c.pC (Ne.symm K.iC)) (ns_keep c.N fun o e => l1.kp _ o c.pC (Ne.symm K.iC) e)
    | some a =>
      obtain ⟨v, rfl, rv, pI, J'⟩ := hr
      have c1 := c.turnI K l1 S1 pI J'
      obtain ⟨m, hm⟩ := c1.N
      refine wpAny_assign_Name (wpAny_storeName_local (env := compEnvC scope cl C env) (lookup_relabel_local ok.own) hm (fun h'' hn'' hs'' => ?_) (by simp [compEnvC, relabel, ok.kind]))
      obtain ⟨l2, S2⟩ := c1.S.priv (t := w1.s.toks + 1) c1.pC hs''.extBut (let ⟨o, _, _, e, _⟩ := hn''; ⟨o, e⟩)
      have c2 := c1.turnC K l2 S2 c1.pC ⟨_, hn''⟩
      have I2 : EnvR cx (compEnvC scope cl C env) scope (x :: ns) (some a :: σ) ⟨w1.ι, w1.π, { w1.s with heap := h'', toks := w1.s.toks + 1 }⟩ := c2.E.comp ok hcl c1.pC hn'' (by simp) (rv.mono l2)
      refine bind_inv h2 (fun b H2 h3 h4 => ?_) fun x h3 h4 => by cases h4
      obtain ⟨b', e', h3⟩ := noX_ok h3
      cases e'
      refine wpAny_mono ((ifs_rf (hte _ a) I2 (ifs := ifs)).run c2.S h3 fun w3 t t' H3' l3 S3 ht h5 => ?_) (fun _ _ z => z) fun _ _ ⟨_, _, _, e, _⟩ => nomatch e
      have c3 := c2.mono l3 S3
      rw [← show t = t' from ht]
      cases t with
      | false =>
        obtain ⟨e1, rfl⟩ := pure_some h5
        cases e1
        exact ⟨k, Nat.lt_succ_self _, w3, _, _, _, rfl, c3, h4⟩
      | true =>
        refine wpAny_mono ((hev _ a elt w3 (EnvR.stable _ _ I2 l3)).run (f := fun y => pure (some y)) c3.S h5 fun w4 y u H5 l4 S4 r4 h6 => ?_) (fun _ _ z => z) fun _ _ ⟨_, _, _, e, _⟩ => nomatch e
        obtain ⟨e1, rfl⟩ := pure_some h6
        cases e1
        have h4 : (if acc.length < LIM then compLoop src (compBody te ev ifs elt) k (i + 1) (acc ++ [y]) else stuck : M (List AV)) _ = some (.ok ys, H3) := h4
        split at h4
        · exact (c3.mono l4 S4).add K r4 ‹_› fun _ w5 c5 => ⟨k, Nat.lt_succ_self _, w5, _, _, _, rfl, c5, h4⟩
        · cases h4
theorem listAt_ok {l : Nat} {H H' : AHeap} {r : Except Str (List AV)} (h : listAt l H = some (r, H')) : ∃ a, r = .ok a := by
  refine bind_inv h (fun o H1 h1 h2 => ?_) fun x h1 h2 => ?_
  · cases o with
    | list xs => exact ⟨xs, (pure_some h2).1⟩
    | dict _ => cases h2
  · unfold objAt at h1
    split at h1 <;> cases h1
theorem get_ok {H H' : AHeap} : ∀ {src : Src} {r : Except Str (Option AV)}, src.get i H = some (r, H') → ∃ a, r = .ok a
  | .items xs, r, h => ⟨_, (pure_some h).1⟩
  | .at l, r, h => bind_inv h (fun xs H1 h1 h2 => ⟨_, (pure_some h2).1⟩) fun x h1 h2 => by obtain ⟨a, e⟩ := listAt_ok h1; cases e
  | .enum s, r, h => bind_inv h (fun xs H1 h1 h2 => ⟨_, (pure_some h2).1⟩) fun x h1 h2 => by obtain ⟨a, e⟩ := get_ok (src := s) h1; cases e
theorem compLoop_ok {body : AV → M (Option AV)} : ∀ (f i : Nat) (acc : List AV) {H H' : AHeap} {r : Except Str (List AV)}, compLoop src body f i acc H = some (r, H') → ∃ a, r = .ok a
  | 0, _, _, _, _, _, h => nomatch h
  | f + 1, i, acc, H, H', r, h => by
    unfold compLoop at h
    refine bind_inv h (fun o H1 h1 h2 => ?_) fun x h1 h2 => by obtain ⟨a, e⟩ := get_ok h1; cases e
    cases o with
    | none => exact ⟨_, (pure_some h2).1⟩
    | some v =>
      refine bind_inv h2 (fun b H2 h3 h4 => ?_) fun x h3 h4 => by obtain ⟨a, e, _⟩ := noX_ok h3; cases e
      cases b with
      | none => exact compLoop_ok f (i + 1) acc h4
      | some y =>
        have h4 : (if acc.length < LIM then compLoop src body f (i + 1) (acc ++ [y]) else stuck : M (List AV)) H2 = some (r, H') := h4
        split at h4
        · exact compLoop_ok f (i + 1) _ h4
        · cases h4
theorem comp_core {elt iter : Expr} {x : Str} {px pos pos' : Pos} {ifs : List Expr} {scope : Scope} {mu : Bool} {ei : Expr → M AV} {te : AV → Expr → M Bool} {ev : AV → Expr → M AV} {use : Option (Value → Sem Unit)} {Q : Value → Shared → Prop} {r : Except Str AV} {H' : AHeap}
    (hh : A.handled = none) (ok : CompOK sc ns scope x) (hx : exOk iter = true) (hi : EvOK cx A env (EnvR cx env sc ns σ) ei)
    (hev : ∀ env' a, EvOK cx A env' (EnvR cx env' scope (x :: ns) (some a :: σ)) (ev a)) (hte : ∀ env' a, TeOK cx A env' (EnvR cx env' scope (x :: ns) (some a :: σ)) (te a)) (S : St cx w H) (I : EnvR cx env sc ns σ w)
    (h : (do let iv ← ei iter; let src ← srcOf iv; let ys ← compLoop src (compBody te ev ifs elt) FUEL 0 []; newL mu ys : M AV) H = some (r, H'))
    (hfin : ∀ D C w' a, r = .ok a → Le No w w' → St cx w' H' → VR cx w' a (.ref D) → EnvR cx env sc ns σ w' → C ∈ w'.π → C ∉ w.π → ¬ Own env C → (∃ m, w'.s.heap.Ns C m) → compPost (model cx.prog cx.w) A (PostX cx No w r H') use Q (.ref D) C (.ok .next) w'.s) :
    wpAny (model cx.prog cx.w) A (comprehension (.ListComp elt [⟨.Name x px, iter, ifs, 0⟩] scope pos) scope env pos' (newList []) false (eval iter env) use) Q (PostX cx No w r H') w.s := by
  obtain ⟨cl, hclos, hcl⟩ := closureFor_some (env := env) (scope := scope) (fun y hy => by
    obtain ⟨f1, f2⟩ := ok.free y hy
    obtain ⟨c, v, q, _⟩ := I.has y f2 f1
    exact ⟨c, q⟩)
  refine wpAny_comprehension_free (use := use) rfl (fun v => exOk_set hx) hclos ok.kind (fun z hz hl => (ok.loc z.1 (by rw [← hl]; exact hz)).2) ((hi iter w I).run S h fun w1 iv xv H1 l1 S1 r1 h1 => ?_)
  refine wpAny_mono ((iter_rf r1).run S1 h1 fun w2 src itv H2 l2 S2 ⟨it, e, pI, J, hitn⟩ h2 => ?_) (fun _ _ z => z) fun _ _ q => q.le l1
  subst e
  -- the list
  have hDn : w2.s.heap.get? w2.s.heap.objs.size = none := get_size _
  obtain ⟨l3, S3⟩ := S2.hide (t := w2.s.toks) (pushk { cls := .type "list", dict := none, data := .seq ([] : List Value).toArray }) hDn ⟨_, Heap.get?_push_size _ rfl⟩
  refine wpAny_newObj_type (wpAny_newFunctionEnv (fun z hz => by rcases ok.kinds z.1 z.2 hz with q | q | q <;> rw [q] <;> simp) (by intro y hy; simp at hy) (fun h4 hns hsb => ?_) ok.kind)
  dsimp only at hns hsb ⊢
  have hD3 : IsL (w2.s.heap.push { cls := .type "list", dict := none, data := .seq ([] : List Value).toArray }) w2.s.heap.objs.size #[] 0 := Heap.get?_push_size _ rfl
  have hGs : (w2.s.heap.push { cls := .type "list", dict := none, data := .seq ([] : List Value).toArray }).objs.size = w2.s.heap.objs.size + 1 := Heap.size_push ..
  generalize w2.s.heap.push { cls := .type "list", dict := none, data := .seq ([] : List Value).toArray } = G at hns hsb l3 S3 hD3 hGs ⊢
  have hk4 : ∀ b o, G.get? b = some o → h4.get? b = some o := fun b o e => hsb.extBut b o (Nat.ne_of_lt (Heap.lt_size e)) (Heap.get?_push_of_some _ e)
  obtain ⟨l4, S4⟩ := S3.hide (t := w2.s.toks + 0) hk4 (get_size _) (let ⟨o, _, _, e, _⟩ := hns; ⟨o, e⟩)
  have I1 := EnvR.stable _ _ I l1
  have I2 := EnvR.stable _ _ I1 l2
  have I4 := EnvR.stable _ _ (EnvR.stable _ _ I2 l3) l4
  obtain ⟨oi, hoi⟩ := S2.pvx it pI
  have iD : it ≠ w2.s.heap.objs.size := Nat.ne_of_lt (Heap.lt_size hoi)
  have iC : it ≠ G.objs.size := by rw [hGs]; exact Nat.ne_of_lt (Nat.lt_succ_of_lt (Heap.lt_size hoi))
  have cD : G.objs.size ≠ w2.s.heap.objs.size := by rw [hGs]; exact Nat.succ_ne_self _
  have old : ∀ {b : Addr}, Own env b → b < w2.s.heap.objs.size ∧ b ≠ it := fun {b} hb => by
    obtain ⟨o, e⟩ := S1.pvx b (I1.own hb)
    obtain ⟨o2, e2⟩ := S2.pvx b (I2.own hb)
    exact ⟨Heap.lt_size e2, fun z => by rw [z, hitn] at e; cases e⟩
  have K : CLs env it G.objs.size w2.s.heap.objs.size := ⟨iC, iD, cD, fun h => (old h).2 rfl, fun h => absurd (old h).1 (by rw [hGs]; exact Nat.not_lt.mpr (Nat.le_succ _)), fun h => Nat.lt_irrefl _ (old h).1⟩
  have c0 : CL cx env sc ns σ ⟨w2.ι, G.objs.size :: w2.s.heap.objs.size :: w2.π, { w2.s with heap := h4, toks := w2.s.toks + 0 }⟩ it G.objs.size w2.s.heap.objs.size src 0 [] ⟨w2.ι, G.objs.size :: w2.s.heap.objs.size :: w2.π, { w2.s with heap := h4, toks := w2.s.toks + 0 }⟩ H2 :=
    ⟨S4, .refl _, I4, List.mem_cons_of_mem _ (List.mem_cons_of_mem _ pI), (J.mono l3 pI id).mono l4 (List.mem_cons_of_mem _ pI) id, List.mem_cons_of_mem _ List.mem_cons_self, ⟨#[], 0, hk4 _ _ hD3, rfl⟩, List.mem_cons_self, ⟨_, hns⟩⟩
  refine bind_inv h2 (fun ys H3 h5 h6 => ?_) fun e h5 h6 => by obtain ⟨a, e⟩ := compLoop_ok _ _ _ h5; cases e
  have hz := newL_len h6
  have np : ∀ b, b ∈ w.π → ¬ P3 it G.objs.size w2.s.heap.objs.size b := fun b hb h => by
    obtain ⟨o, e⟩ := S1.pvx b (l1.pv b hb id)
    obtain ⟨o2, e2⟩ := S2.pvx b (l2.pv b (l1.pv b hb id) id)
    rcases h with h | h | h
    · rw [h, hitn] at e; cases e
    · rw [h] at e2; exact absurd (Heap.lt_size e2) (by rw [hGs]; exact Nat.not_lt.mpr (Nat.le_succ _))
    · rw [h] at e2; exact Nat.lt_irrefl _ (Heap.lt_size e2)
  have lw : ∀ {w'}, Le (P3 it G.objs.size w2.s.heap.objs.size) ⟨w2.ι, G.objs.size :: w2.s.heap.objs.size :: w2.π, { w2.s with heap := h4, toks := w2.s.toks + 0 }⟩ w' → Le No w w' := fun l => (l1.no.trans (l2.no.trans (l3.no.trans (l4.no.trans l)))).weak fun b hb h => np b hb h
  have loop : codeAny (model cx.prog cx.w) A (.compLoop (.ListComp elt [⟨.Name x px, iter, ifs, 0⟩] scope pos) 0 (.ref it) (.ref w2.s.heap.objs.size) (compEnvC scope cl G.objs.size env)) (compPost (model cx.prog cx.w) A (PostX cx No w r H') use Q (.ref w2.s.heap.objs.size) G.objs.size) { w2.s with heap := h4, toks := w2.s.toks + 0 } := by
    refine compLoop_sound hh ok hcl K hev hte (fun w5 S5 l5 I5 pD ⟨vs, n, hL, hvs⟩ pC hN => ?_) FUEL 0 c0 h5
    have oc : ¬ Own env G.objs.size := K.oC
    have nc : G.objs.size ∉ w.π := fun hb => np _ hb (.inr (.inl rfl))
    unfold newL at h6
    rw [if_pos hz] at h6
    cases mu with
    | false =>
      obtain ⟨rfl, rfl⟩ := pure_some h6
      obtain ⟨l6, S6⟩ := S5.drop (t := w5.s.toks) pD fun _ _ _ e => e
      have l7 := l5.trans (l6.weak fun b _ h => .inr (.inr h))
      exact hfin _ _ ⟨w5.ι, outP w5.π w2.s.heap.objs.size, { w5.s with heap := w5.s.heap, toks := w5.s.toks }⟩ _ rfl (lw l7) S6 (.lst hL ⟨fun z => S5.dj _ z pD, fun z => (mem_outP.mp z).2 rfl⟩ hz (hvs.mono l6)) (I5.mono l6 fun b hb h => K.oD (h ▸ hb)) (mem_outP.mpr ⟨pC, cD⟩) nc oc hN
    | true =>
      cases h6
      obtain ⟨l6, S6⟩ := S5.adopt (t := w5.s.toks) (o := .list ys) pD (fun _ _ _ e => e) fun l6 => ⟨vs, n, hL, hz, hvs.mono l6⟩
      have l7 := l5.trans (l6.weak fun b _ h => .inr (.inr h))
      exact hfin _ _ ⟨w5.ι ++ [w2.s.heap.objs.size], outP w5.π w2.s.heap.objs.size, { w5.s with heap := w5.s.heap, toks := w5.s.toks }⟩ _ rfl (lw l7) S6 (.loc (by rw [← S5.len]; exact List.getElem?_concat_length)) (I5.mono l6 fun b hb h => K.oD (h ▸ hb)) (mem_outP.mpr ⟨pC, cD⟩) nc oc hN
  exact codeAny_compStart_list loop (self_iter (w := ⟨w2.ι, G.objs.size :: w2.s.heap.objs.size :: w2.π, { w2.s with heap := h4, toks := w2.s.toks + 0 }⟩) loop c0.J)
/-- the plain comprehension: its variable's dict is let go -/
theorem comp_rf {elt iter : Expr} {x : Str} {px pos : Pos} {ifs : List Expr} {scope : Scope} {mu : Bool} {ei : Expr → M AV} {te : AV → Expr → M Bool} {ev : AV → Expr → M AV}
    (hh : A.handled = none) (ok : CompOK sc ns scope x) (hx : exOk iter = true) (hi : EvOK cx A env (EnvR cx env sc ns σ) ei)
    (hev : ∀ env' a, EvOK cx A env' (EnvR cx env' scope (x :: ns) (some a :: σ)) (ev a)) (hte : ∀ env' a, TeOK cx A env' (EnvR cx env' scope (x :: ns) (some a :: σ)) (te a)) (I : EnvR cx env sc ns σ w) :
    Rf cx A No w (VR cx) (do let iv ← ei iter; let src ← srcOf iv; let ys ← compLoop src (compBody te ev ifs elt) FUEL 0 []; newL mu ys) (eval (.ListComp elt [⟨.Name x px, iter, ifs, 0⟩] scope pos) env) := fun H S r H' h => by
  rw [eval_ListComp]
  refine comp_core (use := none) (mu := mu) hh ok hx hi hev hte S I h fun D C w' a e l S' rv I' pC nC oC ⟨m, hN⟩ => ⟨m, hN, fun h' hs => ?_⟩
  subst e
  obtain ⟨l2, S2⟩ := S'.drop (t := w'.s.toks) pC hs.extBut
  exact ⟨_, _, a, rfl, (l.no.trans l2).weak (fun b hb h => nC (h ▸ hb)), S2, rv.mono l2⟩
end
end Mine


set_option autoImplicit false
set_option linter.unusedVariables false
namespace Mine
open PySem PyProof.Rows PySem.SeqAt

section
variable {cx : Cx} {A : Around} {w : Wl} {P : Pg} {cf : Str → List AV → M AV}
theorem compGen_of {gens : List Comprehension} {x : Str} {iter : Expr} {ifs : List Expr} (h : compGen gens = some (x, iter, ifs)) : ∃ px, gens = [⟨.Name x px, iter, ifs, 0⟩] := by
  match gens, h with
  | [⟨tg, it, fs, k⟩], h =>
    have h' : (if k = 0 then (nameOf1 tg).map fun x => (x.1, it, fs) else none) = some (x, iter, ifs) := h
    split at h'
    · rename_i h0
      obtain ⟨y, h1, h2⟩ := Option.map_eq_some_iff.mp h'
      cases h2
      rw [nameOf1_of h1, h0]
      exact ⟨y.2, rfl⟩
    · cases h'
theorem dComp_cases {sc : Scope} {ns : List Str} {T : M AV → Prop} {elt : Expr} {gens : List Comprehension} {scope : Scope} {n : Nat} {mu : Bool} {ev : Expr → M AV} {ec : Str → AV → Expr → M AV} (h0 : T stuck)
    (h1 : ∀ x px iter ifs, gens = [⟨.Name x px, iter, ifs, 0⟩] → CompOK sc ns scope x → exOk iter = true → T (do let iv ← ev iter; let src ← srcOf iv; let ys ← compLoop src (compBody (fun v => denT (ec x v) n) (fun v => ec x v) ifs elt) FUEL 0 []; newL mu ys)) : T (dComp ev ec n mu sc ns scope elt gens) := by
  unfold dComp
  cases hg : compGen gens with
  | none => exact h0
  | some q =>
    obtain ⟨x, iter, ifs⟩ := q
    obtain ⟨px, e⟩ := compGen_of hg
    show T (if compOk sc ns scope x && exOk iter then _ else stuck)
    by_cases hok : (compOk sc ns scope x && exOk iter) = true
    · rw [if_pos hok]; rw [Bool.and_eq_true] at hok; exact h1 x px iter ifs e (compOk_of hok.1) hok.2
    · rw [if_neg hok]; exact h0
theorem den_rf (hh : A.handled = none) (R : Room A) (Z : ZipOK cx A) (G : Good cx P) (C : CallOK cx A P cf) : ∀ (n : Nat) (env : Env) (sc : Scope) (ns : List Str) (σ : Loc), EvOK cx A env (EnvR cx env sc ns σ) (den P cf n sc ns σ)
  | 0, env, sc, ns, σ => fun e w i => .stuck
  | n + 1, env, sc, ns, σ => fun e w i => by
    have ih := den_rf hh R Z G C n
    have hev := ih env sc ns σ
    have hst : Stable (EnvR cx env sc ns σ) := EnvR.stable
    cases e with
    | Constant c k p => exact const_rf
    | Name x p => exact dName_rf G i
    | BoolOp op vs p => rw [arm_eval_BoolOp]; exact bOp_rf hst hev _ _ _ i
    | BinOp l op r p => exact binop_rf hst hev i
    | UnaryOp op x p => exact unop_rf hev i
    | Compare l ops cs p => exact compare_rf R hst hev i
    | Tuple es k p => exact tuple_lit_rf hst hev i
    | List es p => exact list_lit_rf hst hev i
    | Dict keys vals p => exact dict_lit_rf hst hev i
    | Subscript o j p => exact sub_rf hst hev i
    | ListComp elt gens scope p =>
      refine dComp_cases (T := fun m => Rf cx A No w (VR cx) m (eval (.ListComp elt gens scope p) env)) .stuck fun x px iter ifs e ok hx => ?_
      subst e
      exact comp_rf hh ok hx hev (fun env' a => ih env' scope (x :: ns) (some a :: σ)) (fun env' a => denT_rf R EnvR.stable (ih env' scope (x :: ns) (some a :: σ)) n) i
    | Call f args kws p =>
      cases kws with
      | nil => exact call_rf hh R Z G C hev i
      | cons _ _ => exact .stuck
    | _ => exact .stuck
end
end Mine


set_option autoImplicit false
set_option linter.unusedVariables false
namespace Mine
open PySem PyProof.Rows PySem.SeqAt

/-- a def's frame -/
structure FrS (env : Env) (sc : Scope) : Prop where
  scp : env.scope = sc
  ll : ∀ n c, env.cells.lookup n = some c → c ≠ env.locals
  inj : ∀ n n' c, env.cells.lookup n = some c → env.cells.lookup n' = some c → n = n'
  nofree : ∀ x, isLocal sc x = true → sc.names.lookup x = some .local ∨ sc.names.lookup x = some .cell
/-- the names' values, behind an assignment -/
def RL (cx : Cx) (env : Env) (sc : Scope) (ns : List Str) {β : Type} (w : Wl) (σ : Loc) (_ : β) : Prop := EnvR cx env sc ns σ w
section
variable {cx : Cx} {A : Around} {p : Addr → Prop} {w w' : Wl} {H : AHeap} {env : Env} {sc : Scope} {ns : List Str} {σ : Loc} {P : Pg} {cf : Str → List AV → M AV}
theorem idx_get {x : Str} {i : Nat} (h : ns.idxOf? x = some i) : ∃ q : i < ns.length, ns[i] = x := by
  rw [List.idxOf?, List.findIdx?_eq_some_iff_getElem] at h
  exact ⟨h.1, beq_iff_eq.mp h.2.1⟩
theorem set_get {x y : Str} {i j : Nat} {a b : AV} (hi : ns.idxOf? x = some i) (h1 : ns.idxOf? y = some j) (h2 : (σ.set i (some a))[j]? = some (some b)) : (y = x ∧ b = a) ∨ (y ≠ x ∧ σ[j]? = some (some b)) := by
  rw [List.getElem?_set] at h2
  split at h2
  · rename_i e
    subst e
    obtain ⟨q1, e1⟩ := idx_get hi
    obtain ⟨q2, e2⟩ := idx_get h1
    split at h2
    · cases h2; exact .inl ⟨e2.symm.trans e1, rfl⟩
    · cases h2
  · rename_i e
    exact .inr ⟨fun q => by subst q; rw [hi] at h1; cases h1; exact e rfl, h2⟩
/-- a name of the frame's own is bound -/
theorem bindN_rf {x : Str} {q : Pos} {a : AV} {v : Value} (F : FrS env sc) (hx : isLocal sc x = true) (I : EnvR cx env sc ns σ w) (r : VR cx w a v) : Rf cx A (Own env) w (RL cx env sc ns) (setN ns x a σ) (assign (.Name x q) env v) := by
  unfold setN
  cases hi : ns.idxOf? x with
  | none => exact .stuck
  | some i =>
    have hk : ∀ y, env.kindOf y = sc.names.lookup y := fun y => by rw [← F.scp]; rfl
    refine .leaf fun H S => wpAny_assign_Name ?_
    obtain ⟨m, hm, hv⟩ := I.nsm
    rcases F.nofree x hx with hl | hl
    · refine wpAny_storeName_local ((hk x).trans hl) hm (fun h' hn hs => ?_) (by rw [I.k.kind]; rfl)
      obtain ⟨l, S'⟩ := S.priv (t := w.s.toks + 1) I.pl hs.extBut (let ⟨o, _, _, e, _⟩ := hn; ⟨o, e⟩)
      have kc : ∀ {n c u}, env.cells.lookup n = some c → c ∈ w.π → w.s.heap.IsCell c u → h'.IsCell c u := fun h1 h2 h3 => cell_keep h3 fun o e => l.kp _ o h2 (F.ll _ _ h1) e
      refine ⟨_, _, _, rfl, l.weak fun b _ e => .inl e, S', ⟨I.k, I.pl, ⟨_, hn, fun y j b h1 h2 h3 => ?_⟩, fun y j b h1 h2 h3 => ?_, fun y h1 h2 => ?_, I.cls⟩⟩
      · rcases set_get hi h1 h2 with ⟨rfl, rfl⟩ | ⟨hne, h4⟩
        · exact ⟨v, if_pos rfl, r.mono l⟩
        · obtain ⟨u, q1, q2⟩ := hv y j b h1 h4 h3
          exact ⟨u, (if_neg hne).trans q1, q2.mono l⟩
      · rcases set_get hi h1 h2 with ⟨rfl, rfl⟩ | ⟨hne, h4⟩
        · rw [hk, hl] at h3; rcases h3 with h3 | h3 <;> cases h3
        · obtain ⟨c, u, q1, q2, q3, q4⟩ := I.cel y j b h1 h4 h3
          exact ⟨c, u, q1, q2, kc q1 q2 q3, q4.mono l⟩
      · obtain ⟨c, u, q1, q2, q3⟩ := I.has y h1 h2
        exact ⟨c, u, q1, q2, kc q1 q2 q3⟩
    · obtain ⟨qi, ei⟩ := idx_get hi
      obtain ⟨c, u0, hc, hp, hc0⟩ := I.has x (List.contains_iff_mem.mpr (ei ▸ List.getElem_mem qi)) hl
      refine wpAny_storeName_cell I.k.kind ((hk x).trans hl) hc hc0 fun h' hcv hs => ?_
      obtain ⟨l, S'⟩ := S.priv (t := w.s.toks) hp hs.extBut (let ⟨o, e, _⟩ := hcv; ⟨o, e⟩)
      have kc : ∀ {n d u}, n ≠ x → env.cells.lookup n = some d → d ∈ w.π → w.s.heap.IsCell d u → h'.IsCell d u := fun h0 h1 h2 h3 => cell_keep h3 fun o e => l.kp _ o h2 (fun z => h0 (F.inj _ _ c (z ▸ h1) hc)) e
      refine ⟨_, _, _, rfl, l.weak fun b _ e => .inr ⟨x, e ▸ hc⟩, S', ⟨I.k, I.pl, ⟨m, hm.at' fun o e => l.kp _ o I.pl (fun z => F.ll _ _ hc z.symm) e, fun y j b h1 h2 h3 => ?_⟩, fun y j b h1 h2 h3 => ?_, fun y h1 h2 => ?_, I.cls⟩⟩
      · rcases set_get hi h1 h2 with ⟨rfl, rfl⟩ | ⟨hne, h4⟩
        · rw [hk, hl] at h3; cases h3
        · obtain ⟨u, q1, q2⟩ := hv y j b h1 h4 h3
          exact ⟨u, q1, q2.mono l⟩
      · rcases set_get hi h1 h2 with ⟨rfl, rfl⟩ | ⟨hne, h4⟩
        · exact ⟨c, v, hc, hp, hcv, r.mono l⟩
        · obtain ⟨d, u, q1, q2, q3, q4⟩ := I.cel y j b h1 h4 h3
          exact ⟨d, u, q1, q2, kc hne q1 q2 q3, q4.mono l⟩
      · by_cases hyx : y = x
        · subst hyx; exact ⟨c, _, hc, hp, hcv⟩
        · obtain ⟨d, u, q1, q2, q3⟩ := I.has y h1 h2
          exact ⟨d, u, q1, q2, kc hyx q1 q2 q3⟩
/-- x, y = .. -/
theorem pair_rf {x y : Str} {px py q : Pos} {k : Nat} {v : Value} {a b : AV} (hh : A.handled = none) (F : FrS env sc) (hx : isLocal sc x = true) (hy : isLocal sc y = true) (I : EnvR cx env sc ns σ w) (r : VR cx w (.tup [a, b]) v) :
    Rf cx A (Own env) w (RL cx env sc ns) (do let σ ← setN ns x a σ; setN ns y b σ) (assign (.Tuple [.Name x px, .Name y py] k q) env v) := r.tupE fun ta vs n ht hf hz hs => by
  obtain ⟨v1, us, e1, r1, v2, us2, e2, r2, e3⟩ := hs
  subst e3; subst e2
  have hvs : vs = #[v1, v2] := by rw [← Array.toList_inj, e1]
  subst hvs
  intro H S r' H' h
  refine wpAny_assign_Tuple (items := #[v1, v2]) hh ⟨_, ht, rfl, n, rfl⟩ rfl rfl fun h' he => ?_
  have hk : ∀ b o, w.s.heap.get? b = some o → h'.get? b = some o := fun b o e => he b o (Nat.ne_of_lt (Heap.lt_size e)) e
  have l : Le (Own env) w ⟨w.ι, w.π, { w.s with heap := h', toks := w.s.toks }⟩ := .keeps hk
  have I' := EnvR.stable _ _ I (Le.keeps (w := w) (s' := { w.s with heap := h', toks := w.s.toks }) hk)
  refine assignInOrder_cons (wpAny_mono ((bindN_rf F hx I' (r1.mono l)).run (S.keeps hk) h fun w1 σ1 _ H1 l1 S1 I1 h1 => ?_) (fun _ _ z => z) fun _ _ z => z.le l)
  refine assignInOrder_cons (wpAny_mono (bindN_rf F hy I1 (r2.mono (l.trans l1)) H1 S1 _ _ h1) (fun _ _ z => assignInOrder_nil (z.le (l.trans l1))) fun _ _ z => z.le (l.trans l1))
theorem assign_rf {ev : Loc → Expr → M AV} {t : Expr} {a : AV} {v : Value} (hh : A.handled = none) (F : FrS env sc) (hev : EvOK cx A env (EnvR cx env sc ns σ) (ev σ)) (I : EnvR cx env sc ns σ w) (r : VR cx w a v) :
    Rf cx A (Own env) w (RL cx env sc ns) (assignTo ev sc ns a σ t) (assign t env v) := by
  cases t with
  | Name x q => exact ite_rf (fun hx => bindN_rf F hx I r) fun _ => .stuck
  | Subscript o i q =>
    rw [assign_Subscript]
    exact Rf.no (.bind (.holding (hev o w I)) fun w1 a1 v1 l1 r1 => .bind (.holding (hev i w1 (EnvR.stable _ _ I l1))) fun w2 a2 v2 l2 r2 => .standAt (.bind (.holding (store_rf (r1.mono l2) r2 (r.mono (l1.trans l2)))) fun w3 _ _ l3 _ =>
      .leaf fun H S => wpAny_release' (.here S (EnvR.stable _ _ I ((l1.trans l2).trans l3)))))
  | Tuple es k q =>
    show Rf cx A (Own env) w _ (match pairN es with | some (x, y) => assignP sc ns a σ x.1 y.1 | none => stuck) _
    cases hp : pairN es with
    | none => exact .stuck
    | some xy =>
      obtain ⟨⟨x, px⟩, y, py⟩ := xy
      rw [pairN_of hp]
      cases a with
      | tup xs =>
        match xs with
        | [] => exact .stuck
        | [_] => exact .stuck
        | _ :: _ :: _ :: _ => exact .stuck
        | [a, b] => exact ite_rf (fun hxy => by rw [Bool.and_eq_true] at hxy; exact pair_rf hh F hxy.1 hxy.2 I r) fun _ => .stuck
      | _ => exact .stuck
  | _ => exact .stuck
end
end Mine


set_option autoImplicit false
set_option linter.unusedVariables false
namespace Mine
open PySem PyProof.Rows PySem.SeqAt

/-- behind a statement -/
def RS (cx : Cx) (env : Env) (sc : Scope) (ns : List Str) (w : Wl) : Res → Flow → Prop
  | .next σ, f => f = .next ∧ EnvR cx env sc ns σ w
  | .ret a, f => ∃ v, f = .ret v ∧ VR cx w a v ∧ ∀ b, Own env b → b ∈ w.π
/-- behind a statement that only goes on -/
def RF (cx : Cx) (env : Env) (sc : Scope) (ns : List Str) (w : Wl) (σ : Loc) (f : Flow) : Prop := f = .next ∧ EnvR cx env sc ns σ w
section
variable {cx : Cx} {A : Around} {p q : Addr → Prop} {w w' w₁ : Wl} {H H' : AHeap} {env : Env} {sc : Scope} {ns : List Str} {σ : Loc} {P : Pg} {cf : Str → List AV → M AV}
theorem PostX.no {α : Type} {r : Except Str α} {e : Value} {s' : Shared} {C : Prop} (x : PostX cx p w r H' e s') : C := let ⟨_, _, _, _, _, _, z⟩ := x; z.elim
theorem next_st {st : Stmt} {rest : List Stmt} {m0 : M Loc} {m : Loc → M Res} (x : Rf cx A (Own env) w (RF cx env sc ns) m0 (exec st env)) (y : ∀ w' σ', EnvR cx env sc ns σ' w' → Rf cx A (Own env) w' (RS cx env sc ns) (m σ') (execs rest env)) :
    Rf cx A (Own env) w (RS cx env sc ns) (m0 >>= m) (execs (st :: rest) env) := by
  rw [arm_execs_cons]
  exact .bind x fun w1 σ' f l r => r.1 ▸ y w1 σ' r.2
theorem goOn_st {st : Stmt} {rest : List Stmt} {m0 : M Res} {m : Loc → M Res} (x : Rf cx A (Own env) w (RS cx env sc ns) m0 (exec st env)) (y : ∀ w' σ', EnvR cx env sc ns σ' w' → Rf cx A (Own env) w' (RS cx env sc ns) (m σ') (execs rest env)) :
    Rf cx A (Own env) w (RS cx env sc ns) (m0 >>= goOn m) (execs (st :: rest) env) := by
  rw [arm_execs_cons]
  refine .bind x fun w1 r f l hr => ?_
  cases r with
  | next σ' => exact hr.1 ▸ y w1 σ' hr.2
  | ret a => obtain ⟨v, e, h⟩ := hr; subst e; exact .pure ⟨v, rfl, h⟩

/-- what a for walks: its private objects q, where it stands J -/
structure Wkr (cx : Cx) (A : Around) (target : Expr) (it : Value) (src : Src) (q : Addr → Prop) (J : Nat → Wl → Prop) : Prop where
  keep : ∀ p i w w', Le p w w' → (∀ b, q b → ¬ p b) → J i w → J i w'
  turn : ∀ i w H r H' (K : Shared → Prop) (KK : Value → Shared → Prop) (E : Value → Shared → Prop), J i w → St cx w H → src.get i H = some (.ok r, H') → (∀ w1, r = none → Le q w w1 → St cx w1 H' → K w1.s) →
    (∀ w1 a v, r = some a → Le q w w1 → St cx w1 H' → VR cx w1 a v → J (i + 1) w1 → KK v w1.s) →
    wpAny (model cx.prog cx.w) A (pyNext it) (fun r s1 => match r with | none => K s1 | some v => wpAny (model cx.prog cx.w) A (letOwnedTupleGo target it v) (fun _ s2 => KK v s2) E s1) E w.s
def OQ (env : Env) (q : Addr → Prop) : Addr → Prop := fun b => Own env b ∨ q b
theorem for_code {target : Expr} {body : List Stmt} {it : Value} {src : Src} {J : Nat → Wl → Prop} {bm : AV → Loc → M Res} {r : Except Str Res} (W : Wkr cx A target it src q J) (ho : ∀ b, q b → ¬ Own env b)
    (hb : ∀ σ w a v H r H', EnvR cx env sc ns σ w → VR cx w a v → St cx w H → bm a σ H = some (r, H') → wpAny (model cx.prog cx.w) A (assign target env v) (fun _ s2 => wpAny (model cx.prog cx.w) A (execs body env) (Post cx (Own env) w (RS cx env sc ns) r H') (PostX cx (Own env) w r H') s2) (PostX cx (Own env) w r H') w.s)
    (k i : Nat) (S : St cx w H) (X : Le (OQ env q) w₁ w) (I : EnvR cx env sc ns σ w) (j : J i w) (h : forLoop src bm k i σ H = some (r, H')) :
    codeAny (model cx.prog cx.w) A (.forLoop target it body [] env) (fun res s' => ∃ f, res = .ok f ∧ Post cx (OQ env q) w₁ (RS cx env sc ns) r H' f s') w.s := by
  refine codeAny_forLoop_any (fun k s => ∃ w H σ i, w.s = s ∧ St cx w H ∧ Le (OQ env q) w₁ w ∧ EnvR cx env sc ns σ w ∧ J i w ∧ forLoop src bm k i σ H = some (r, H')) ?_ k ⟨w, H, σ, i, rfl, S, X, I, j, h⟩
  clear S X I j h
  rintro k s ⟨w, H, σ, i, rfl, S, X, I, j, h⟩
  cases k with
  | zero => cases h
  | succ k =>
    unfold forLoop at h
    refine bind_inv h (fun o H1 h1 h2 => ?_) fun x h1 h2 => by obtain ⟨a, e⟩ := get_ok h1; cases e
    refine W.turn i w H o H1 _ _ _ j S h1 (fun w1 e l S1 => ?_) fun w1 a v e l S1 rv j1 => ?_
    · subst e
      obtain ⟨rfl, rfl⟩ := pure_some h2
      exact wpAny_execs_nil ⟨_, rfl, _, _, _, rfl, X.trans (l.weak fun _ _ h => .inr h), S1, rfl, I.mono l fun b h1 h2 => ho b h2 h1⟩
    · subst e
      have X1 := X.trans (l.weak fun _ _ h => .inr h)
      refine bind_inv h2 (fun r1 H2 h3 h4 => ?_) fun x h3 h4 => wpAny_mono (hb σ w1 a v H1 _ _ (I.mono l fun b h1 h2 => ho b h2 h1) rv S1 h3) (fun _ _ z => wpAny_mono z (fun f _ ⟨_, _, _, e, _⟩ => nomatch e) fun _ _ z => z.no) fun _ _ z => z.no
      refine wpAny_mono (hb σ w1 a v H1 _ _ (I.mono l fun b h1 h2 => ho b h2 h1) rv S1 h3) (fun _ _ z => wpAny_mono z (fun f s3 ⟨ι, π, r2, e, l2, S2, hr⟩ => ?_) fun _ _ z => z.no) fun _ _ z => z.no
      cases e
      have X2 := X1.trans (l2.weak fun _ _ h => .inl h)
      cases r1 with
      | next σ3 =>
        obtain ⟨e, I3⟩ := hr
        subst e
        exact ⟨k, Nat.lt_succ_self _, _, H2, σ3, i + 1, rfl, S2, X2, I3, W.keep _ _ _ _ l2 ho j1, h4⟩
      | ret a =>
        obtain ⟨rfl, rfl⟩ := pure_some h4
        obtain ⟨u, e, z⟩ := hr
        subst e
        exact ⟨_, rfl, _, _, _, rfl, X2, S2, u, rfl, z⟩
theorem while_code {test : Expr} {body : List Stmt} {tm : Loc → M Bool} {bm : Loc → M Res} {r : Except Str Res} (ht : ∀ σ w, EnvR cx env sc ns σ w → Rf cx A No w Rt (tm σ) (isTrue test env (eval test env))) (hb : ∀ σ w, EnvR cx env sc ns σ w → Rf cx A (Own env) w (RS cx env sc ns) (bm σ) (execs body env))
    (k : Nat) (S : St cx w H) (X : Le (Own env) w₁ w) (I : EnvR cx env sc ns σ w) (h : whileLoop tm bm k σ H = some (r, H')) :
    codeAny (model cx.prog cx.w) A (.whileLoop test body [] env) (fun res s' => ∃ f, res = .ok f ∧ Post cx (Own env) w₁ (RS cx env sc ns) r H' f s') w.s := by
  refine codeAny_whileLoop (fun k s => ∃ w H σ, w.s = s ∧ St cx w H ∧ Le (Own env) w₁ w ∧ EnvR cx env sc ns σ w ∧ whileLoop tm bm k σ H = some (r, H')) ?_ k ⟨w, H, σ, rfl, S, X, I, h⟩
  clear S X I h
  rintro k s ⟨w, H, σ, rfl, S, X, I, h⟩
  cases k with
  | zero => cases h
  | succ k =>
    unfold whileLoop at h
    refine wpAny_mono ((ht σ w I).run S h fun w1 b c H1 l S1 hc h2 => ?_) (fun _ _ z => z) fun _ _ z => z.no
    rw [← show b = c from hc]
    have I1 := EnvR.stable _ _ I l
    have X1 := X.trans l.no
    cases b with
    | false =>
      obtain ⟨rfl, rfl⟩ := pure_some h2
      exact wpAny_execs_nil ⟨_, rfl, _, _, _, rfl, X1, S1, rfl, I1⟩
    | true =>
      refine wpAny_mono ((hb σ w1 I1).run S1 h2 fun w2 r1 f H2 l2 S2 hr h4 => ?_) (fun _ _ z => z) fun _ _ z => z.no
      have X2 := X1.trans l2
      cases r1 with
      | next σ3 =>
        obtain ⟨e, I3⟩ := hr
        subst e
        exact ⟨k, Nat.lt_succ_self _, _, H2, σ3, rfl, S2, X2, I3, h4⟩
      | ret a =>
        obtain ⟨rfl, rfl⟩ := pure_some h4
        obtain ⟨u, e, z⟩ := hr
        subst e
        exact ⟨_, rfl, _, _, _, rfl, X2, S2, u, rfl, z⟩
theorem while_rf {test : Expr} {body : List Stmt} {pos : Pos} {tm : Loc → M Bool} {bm : Loc → M Res} (ht : ∀ σ w, EnvR cx env sc ns σ w → Rf cx A No w Rt (tm σ) (isTrue test env (eval test env))) (hb : ∀ σ w, EnvR cx env sc ns σ w → Rf cx A (Own env) w (RS cx env sc ns) (bm σ) (execs body env)) (I : EnvR cx env sc ns σ w) :
    Rf cx A (Own env) w (RS cx env sc ns) (whileLoop tm bm FUEL σ) (exec (.While test body [] pos) env) := fun H S r H' h =>
  wpAny_While (codeAny_mono (while_code ht hb FUEL S (.refl _) I h) fun res s' ⟨f, e, z⟩ => by subst e; exact z)
theorem drop_wp {e : Expr} {pos : Pos} {v : Value} {Q : Flow → Shared → Prop} {E : Value → Shared → Prop} {s : Shared} (h : Q .next s) : wpAny (model cx.prog cx.w) A (dropValue e pos v) Q E s := by
  unfold dropValue
  split
  · exact wpAny_pure h
  · exact wpAny_bind (wpAny_standAt (wpAny_bind (wpAny_runValue (codeAny_builtin entry_let_go (show wpAny _ _ (ret .none) _ _ s from wpAny_pure (wpAny_pure h))))))
  · exact wpAny_pure h
theorem den_sc {n : Nat} {x : Expr} {g : List Comprehension} {c : Scope} {pos : Pos} : den P cf n sc ns σ (.SetComp x g c pos) = stuck := by cases n <;> rfl
theorem den_dc {n : Nat} {x y : Expr} {g : List Comprehension} {c : Scope} {pos : Pos} : den P cf n sc ns σ (.DictComp x y g c pos) = stuck := by cases n <;> rfl
theorem ex_cases {T : Expr → Prop} (hl : ∀ a b c d, T (.ListComp a b c d)) (hs : ∀ a b c d, T (.SetComp a b c d)) (hd : ∀ a b c d f, T (.DictComp a b c d f))
    (ho : ∀ e, (∀ t l env, swapsWith e t l env = pure false) → (isTupE e = false → ∀ ts k p env, swappedStores [.Tuple ts k p] e env = pure none) → T e) (e : Expr) : T e := by
  cases e with
  | ListComp => exact hl _ _ _ _
  | SetComp => exact hs _ _ _ _
  | DictComp => exact hd _ _ _ _ _
  | Tuple => exact ho _ (fun _ _ _ => rfl) (fun h => nomatch h)
  | _ => exact ho _ (fun _ _ _ => rfl) (fun _ _ _ _ _ => rfl)
theorem expr_rf {n : Nat} {e : Expr} {pos : Pos} (hev : EvOK cx A env (EnvR cx env sc ns σ) (den P cf n sc ns σ)) (hn : noComp e = true) (I : EnvR cx env sc ns σ w) :
    Rf cx A (Own env) w (RF cx env sc ns) (do let _ ← den P cf n sc ns σ e; pure σ) (exec (.Expr e pos) env) := by
  revert hn
  refine ex_cases (T := fun e => noComp e = true → Rf cx A (Own env) w (RF cx env sc ns) (do let _ ← den P cf n sc ns σ e; pure σ) (exec (.Expr e pos) env)) (fun _ _ _ _ hn => nomatch hn) (fun _ _ _ _ _ => by rw [den_sc]; exact .stuck) (fun _ _ _ _ _ _ => by rw [den_dc]; exact .stuck) (fun e hsw _ _ => ?_) e
  rw [arm_exec_Expr, show interactive env = false by unfold interactive; rw [I.k.kind]; rfl, hsw]
  refine .standAt (.pureL ?_)
  exact .no (.bind (hev e w I) fun w1 a v l r => .leaf fun H S => drop_wp (.here S ⟨rfl, EnvR.stable _ _ I l⟩))
end
end Mine


set_option autoImplicit false
set_option linter.unusedVariables false
namespace Mine
open PySem PyProof.Rows PySem.SeqAt

/-- the list l, walked by its iterator -/
def LiR (cx : Cx) (w : Wl) (it : Addr) (i : Nat) (l : Addr) : Src → Prop
  | .items xs => ∃ vs n, w.s.heap.IsListIter it l i ∧ IsL w.s.heap l vs n ∧ Fz w l ∧ VRs cx w xs vs.toList
  | .at k => w.s.heap.IsListIter it l i ∧ w.ι[k]? = some l
  | .enum _ => False
section
variable {cx : Cx} {A : Around} {p q : Addr → Prop} {w w' w₁ : Wl} {H H' : AHeap} {env : Env} {sc : Scope} {ns : List Str} {σ : Loc} {P : Pg} {cf : Str → List AV → M AV} {it l en : Addr} {i j : Nat}
theorem LiR.iter : ∀ {src : Src}, LiR cx w it i l src → w.s.heap.IsListIter it l i
  | .items _, ⟨_, _, h, _⟩ => h
  | .at _, h => h.1
theorem LiR.turn (x : Lv w w') (hi : w'.s.heap.IsListIter it l j) : ∀ {src : Src}, LiR cx w it i l src → LiR cx w' it j l src
  | .items _, ⟨vs, n, _, h2, h3, h4⟩ => ⟨vs, n, hi, (x.fz' h2 h3).1, (x.fz' h2 h3).2, h4.lv x⟩
  | .at _, h => ⟨hi, prefix_get x.pre h.2⟩
theorem LiR.get (S : St cx w H) {r : Option AV} : ∀ {src : Src}, LiR cx w it i l src → src.get i H = some (.ok r, H') → H' = H ∧ ∃ vs n xs, IsL w.s.heap l vs n ∧ VRs cx w xs vs.toList ∧ r = xs[i]?
  | .items xs, ⟨vs, n, _, h2, _, h4⟩, h => by
    obtain ⟨e, e2⟩ := pure_some h
    cases e
    exact ⟨e2, vs, n, xs, h2, h4, rfl⟩
  | .at k, ⟨_, hk⟩, h => bind_inv h (fun xs H1 h1 h2 => by
      obtain ⟨e1, c, e2, vs, n, hL, hz, hs⟩ := listAt_rd hk H S _ _ h1
      cases e2
      obtain ⟨e3, e4⟩ := pure_some h2
      cases e3
      exact ⟨e4.trans e1, vs, n, xs, hL, hs, rfl⟩) fun x h1 h2 => nomatch h2
theorem enum_src {a : AV} {v : Value} (r : VR cx w a v) : Rd cx w (do let _ ← listOf a; srcOf a) fun src => ∃ l, v = .ref l ∧ (∃ vs n, IsL w.s.heap l vs n) ∧ ∀ w' it, Le No w w' → w'.s.heap.IsListIter it l 0 → LiR cx w' it 0 l src := by
  cases a with
  | lst xs => exact .bind (K := fun _ => True) (.pure trivial) fun _ _ => r.lstE fun l vs n h1 h2 h3 h4 => .pure ⟨l, rfl, ⟨vs, n, h1⟩, fun w' it q hi => ⟨vs, n, hi, (q.fz' h1 h2).1, (q.fz' h1 h2).2, h4.mono q⟩⟩
  | loc k => exact r.locE fun l h => .bind (listAt_rd h) fun xs ⟨vs, n, hL, _⟩ => .bind (listAt_rd h) fun xs _ => .pure ⟨l, rfl, ⟨vs, n, hL⟩, fun w' it q hi => ⟨hi, prefix_get q.pre h⟩⟩
  | _ => exact .stuck
/-- a plain for -/
theorem name_walk {x : Str} {px : Pos} {src : Src} (hh : A.handled = none) : Wkr cx A (.Name x px) (.ref it) src (fun b => b = it) fun i w => it ∈ w.π ∧ ItR cx w it i src where
  keep := fun p i w w' l h j => ⟨l.pv _ j.1 (h it rfl), j.2.mono l j.1 (h it rfl)⟩
  turn := fun i w H r H' K KK E j S h k0 k1 => wpAny_mono (next_rf hh j.1 j.2 H S _ _ h) (fun o s1 ⟨ι, π, a, e, l, S1, hr⟩ => by
    cases e
    cases r with
    | none => rw [show o = none from hr]; exact k0 _ rfl l S1
    | some a =>
      obtain ⟨v, e, rv, pI, J⟩ := hr
      subst e
      exact wpAny_pure (k1 ⟨ι, π, s1⟩ a v rfl l S1 rv ⟨pI, J⟩)) fun _ _ ⟨_, _, _, e, _⟩ => nomatch e
/-- for .. in enumerate(..) -/
structure EnR (cx : Cx) (w : Wl) (en it l : Addr) (i : Nat) (src : Src) : Prop where
  pE : en ∈ w.π
  pI : it ∈ w.π
  N : ∃ old, IsEnum w.s.heap en it i old
  J : LiR cx w it i l src
theorem enum_walk {es : List Expr} {k : Nat} {pt : Pos} {src : Src} (hh : A.handled = none) (hne : en ≠ it) : Wkr cx A (.Tuple es k pt) (.ref en) (.enum src) (fun b => b = en ∨ b = it) fun i w => EnR cx w en it l i src where
  keep := fun p i w w' x h j => ⟨x.pv _ j.pE (h en (.inl rfl)), x.pv _ j.pI (h it (.inr rfl)), let ⟨old, e⟩ := j.N; ⟨old, x.kp _ _ j.pE (h en (.inl rfl)) e⟩, j.J.turn x.toLv (j.J.iter.at fun o e => x.kp _ o j.pI (h it (.inr rfl)) e)⟩
  turn := fun i w H r H' K KK E j S h k0 k1 => by
    refine bind_inv h (fun o H1 h1 h2 => ?_) fun x h1 h2 => nomatch h2
    obtain ⟨e1, e2⟩ := pure_some h2
    cases e1
    subst e2
    obtain ⟨e3, vs, n, xs, hL, hV, e4⟩ := j.J.get S h1
    subst e3; subst e4
    obtain ⟨old, hN⟩ := j.N
    cases hx : xs[i]? with
    | none =>
      refine wpAny_pyNext_enum_end hh hN j.J.iter hL.isList (ne_vs hV hx) fun h' hext => ?_
      obtain ⟨l1, S1⟩ := S.drop (t := w.s.toks) j.pI hext
      exact k0 _ (by rw [hx]; rfl) (l1.weak fun b _ e => .inr e) S1
    | some a =>
      obtain ⟨v, hv, rv⟩ := hV.get hx
      refine wpAny_pyNext_enum_item (x := v) hN j.J.iter hL.isList (by rw [← Array.getElem?_toList]; exact hv) hne fun h' hN' hI' hT hsz hk => ?_
      refine wpAny_letOwnedTupleGo_enum hN' fun h'' hN'' hsb => ?_
      have hTen : w.s.heap.objs.size ≠ en := Ne.symm (Nat.ne_of_lt (Heap.lt_size hN))
      have hI'' : h''.IsListIter it l (i + 1) := hI'.at fun o e => hsb.extBut _ o (Ne.symm hne) e
      obtain ⟨l1, S1⟩ := S.privs (t := w.s.toks + 1) (h' := h'') (p := fun b => b = en ∨ b = it) (fun b e => e.elim (fun e => e ▸ j.pE) fun e => e ▸ j.pI)
        (fun b o q e => hsb.extBut b o (fun z => q (.inl z)) (hk b o (fun z => q (.inl z)) (fun z => q (.inr z)) e)) (fun b e => e.elim (fun e => e ▸ ⟨_, hN''⟩) fun e => e ▸ (let ⟨o, q, _⟩ := hI''; ⟨o, q⟩))
      exact k1 _ (.tup [.int i, a]) _ (by rw [hx]; rfl) l1 S1 (.tup (n := 0) (hsb.extBut _ _ hTen hT) (S.new (get_size _)) (show 2 ≤ LIM by decide) (.cons .int (.cons (rv.mono l1) .nil)))
        ⟨j.pE, j.pI, ⟨v, hN''⟩, j.J.turn l1.toLv hI''⟩
theorem Post.weak {α β : Type} {R : Wl → α → β → Prop} {r : Except Str α} {b : β} {s' : Shared} (x : Post cx p w R r H' b s') (h : ∀ d, d ∈ w.π → p d → q d) : Post cx q w R r H' b s' := let ⟨ι, π, a, e, l, z⟩ := x; ⟨ι, π, a, e, l.weak h, z⟩
/-- a new object is none of the frame's -/
theorem EnvR.new (I : EnvR cx env sc ns σ w) (S : St cx w H) {b : Addr} (hb : w.s.heap.get? b = none) : ¬ Own env b := fun h => by
  obtain ⟨o, e⟩ := S.pvx b (I.own h)
  rw [hb] at e; cases e
theorem St.none (S : St cx w H) {b : Addr} (hb : w.s.heap.get? b = none) : b ∉ w.π := (S.new hb).2
section
variable {ev : Loc → Expr → M AV} {bm : Loc → M Res} {body : List Stmt} (hh : A.handled = none) (F : FrS env sc) (hev : ∀ σ, EvOK cx A env (EnvR cx env sc ns σ) (ev σ)) (hb : ∀ σ w, EnvR cx env sc ns σ w → Rf cx A (Own env) w (RS cx env sc ns) (bm σ) (execs body env))
include hh F hev hb
theorem turn_wp {t : Expr} (σ : Loc) (w : Wl) (a : AV) (v : Value) (H : AHeap) (r : Except Str Res) (H' : AHeap) (I : EnvR cx env sc ns σ w) (rv : VR cx w a v) (S : St cx w H) (h : (do let σ' ← assignTo ev sc ns a σ t; bm σ' : M Res) H = some (r, H')) :
    wpAny (model cx.prog cx.w) A (assign t env v) (fun _ s2 => wpAny (model cx.prog cx.w) A (execs body env) (Post cx (Own env) w (RS cx env sc ns) r H') (PostX cx (Own env) w r H') s2) (PostX cx (Own env) w r H') w.s :=
  (assign_rf hh F (hev σ) I rv).run S h fun w1 σ1 _ H1 l S1 I1 h1 => wpAny_mono (hb σ1 w1 I1 H1 S1 r H' h1) (fun _ _ z => z.le l) fun _ _ z => z.le l
theorem forN_rf {x : Str} {px pos : Pos} {iter : Expr} (hx : exOk iter = true) (I : EnvR cx env sc ns σ w) :
    Rf cx A (Own env) w (RS cx env sc ns) (do let v ← ev σ iter; let src ← srcOf v; forLoop src (fun v σ => do let σ' ← assignTo ev sc ns v σ (.Name x px); bm σ') FUEL 0 σ) (exec (.For (.Name x px) iter body [] pos) env) := fun H S r H' h => by
  refine wpAny_For (wpAny_mono ((hev σ iter w I).run S h fun w1 a v H1 l1 S1 r1 h1 => ?_) (fun _ _ z => z) fun _ _ z => z.no) fun v => exOk_set hx
  have I1 := EnvR.stable _ _ I l1
  refine wpAny_mono ((iter_rf r1).run S1 h1 fun w2 src itv H2 l2 S2 ⟨it, e, pI, J, hn⟩ h2 => ?_) (fun _ _ z => z) fun _ _ z => z.no
  subst e
  refine codeAny_mono (for_code (w₁ := w) (name_walk hh) (fun b e => e ▸ I1.new S1 hn) (turn_wp hh F hev hb) FUEL 0 S2 (l1.trans l2).no (EnvR.stable _ _ I1 l2) ⟨pI, J⟩ h2) fun res s' ⟨f, e, z⟩ => ?_
  subst e
  exact z.weak fun d hd h => h.elim id fun e => (S1.none hn (e ▸ l1.pv d hd id)).elim
theorem forE_rf (G : Good cx P) {f : Str} {fp cp pos pt : Pos} {es : List Expr} {k : Nat} {e : Expr} (hx : exOk e = true) (hf : f = ("enumerate" : Str)) (hg : isGlob sc f = true) (I : EnvR cx env sc ns σ w) :
    Rf cx A (Own env) w (RS cx env sc ns) (do let v ← ev σ e; let _ ← listOf v; let src ← srcOf v; forLoop (.enum src) (fun v σ => do let σ' ← assignTo ev sc ns v σ (.Tuple es k pt); bm σ') FUEL 0 σ) (exec (.For (.Tuple es k pt) (.Call (.Name f fp) [e] [] cp) body [] pos) env) := fun H S r H' h => by
  subst hf
  have htr : backTo cp (starEach [e] env) = [(false, eval e env)] := by rw [exOk_star hx]; rfl
  refine wpAny_For (Call_Name htr (load_bi G S I.k hg (by decide) G.enum ?_))
  refine PyProof.Rows.callWith_type rfl (Calls.evalArgs_plain (Calls.spliced_cons (wpAny_mono ((hev σ e w I).run S h fun w1 a v H1 l1 S1 r1 h1 => Calls.spliced_nil ?_) (fun _ _ z => z) fun _ _ z => z.no)))
  have I1 := EnvR.stable _ _ I l1
  rw [← bind_assoc] at h1
  refine bind_inv h1 (fun src H2 h2 h3 => ?_) fun x h2 h3 => by obtain ⟨_, c, e, _⟩ := enum_src r1 H1 S1 _ _ h2; cases e
  obtain ⟨e1, c, e2, l, e3, ⟨vs, n, hL⟩, hJ⟩ := enum_src r1 H1 S1 _ _ h2
  cases e2
  subst e1; subst e3
  show wpAny _ _ (PySem.call (.type "enumerate") [.ref l]) _ _ _
  refine call_enumerate_list hL.isList fun h' hN hI hsz hk => ?_
  have hn1 : w1.s.heap.get? w1.s.heap.objs.size = none := get_size _
  have hn2 : w1.s.heap.get? (w1.s.heap.objs.size + 1) = none := Heap.get?_none_of_le (Nat.le_succ _)
  obtain ⟨l2, S2⟩ := S1.hides (t := w1.s.toks) [w1.s.heap.objs.size + 1, w1.s.heap.objs.size] hk (fun d e => (List.mem_cons.mp e).elim (fun e => e ▸ hn2) fun e => List.mem_singleton.mp e ▸ hn1)
    fun d e => (List.mem_cons.mp e).elim (fun e => e ▸ ⟨_, hN⟩) fun e => List.mem_singleton.mp e ▸ (let ⟨o, q, _⟩ := hI; ⟨o, q⟩)
  have I2 := EnvR.stable _ _ I1 l2
  refine wpAny_pyIter_enum hN (codeAny_mono (for_code (w₁ := w) (q := fun b => b = w1.s.heap.objs.size + 1 ∨ b = w1.s.heap.objs.size) (enum_walk (l := l) hh (Nat.succ_ne_self _)) (fun b e => e.elim (fun e => e ▸ I1.new S1 hn2) fun e => e ▸ I1.new S1 hn1) (turn_wp hh F hev hb) FUEL 0 S2 (l1.trans l2).no I2
    ⟨List.mem_cons_self, List.mem_cons_of_mem _ List.mem_cons_self, ⟨_, hN⟩, hJ _ _ l2 hI⟩ h3) fun res s' ⟨f, e, z⟩ => ?_)
  subst e
  exact z.weak fun d hd h => h.elim id fun e => (e.elim (fun e => S1.none hn2 (e ▸ l1.pv d hd id)) fun e => S1.none hn1 (e ▸ l1.pv d hd id)).elim
end
end
end Mine


set_option autoImplicit false
set_option linter.unusedVariables false
namespace Mine
open PySem PyProof.Rows PySem.SeqAt

section
variable {cx : Cx} {A : Around} {p q : Addr → Prop} {w w' w₁ : Wl} {H H' : AHeap} {env : Env} {sc : Scope} {ns : List Str} {σ : Loc} {P : Pg} {cf : Str → List AV → M AV}
/-- the comprehension whose list is bound before its variable is let go -/
theorem swap_rf {elt iter : Expr} {x y : Str} {px pos yp sp : Pos} {ifs : List Expr} {scope : Scope} {mu : Bool} {ei : Expr → M AV} {te : AV → Expr → M Bool} {ev : AV → Expr → M AV}
    (hh : A.handled = none) (F : FrS env sc) (hy : isLocal sc y = true) (ok : CompOK sc ns scope x) (hx : exOk iter = true) (hi : EvOK cx A env (EnvR cx env sc ns σ) ei)
    (hev : ∀ env' a, EvOK cx A env' (EnvR cx env' scope (x :: ns) (some a :: σ)) (ev a)) (hte : ∀ env' a, TeOK cx A env' (EnvR cx env' scope (x :: ns) (some a :: σ)) (te a)) (I : EnvR cx env sc ns σ w) :
    Rf cx A (Own env) w (RF cx env sc ns) (do let a ← (do let iv ← ei iter; let src ← srcOf iv; let ys ← compLoop src (compBody te ev ifs elt) FUEL 0 []; newL mu ys); setN ns y a σ)
      (do standAt sp; evalThenUse (.ListComp elt [⟨.Name x px, iter, ifs, 0⟩] scope pos) env (assign (.Name y yp) env); return .next) := .standAt fun H S r H' h => by
  show wpAny _ A ((do let _ ← comprehension (.ListComp elt [⟨.Name x px, iter, ifs, 0⟩] scope pos) scope env _ (newList []) false (eval iter env) (some (assign (.Name y yp) env))) >>= fun _ => pure Flow.next) _ _ _
  refine wpAny_bind (wpAny_bind ?_)
  refine bind_inv h (fun a H1 h1 h2 => ?_) fun e h1 h2 => ?_
  · refine wpAny_mono (comp_core (Q := fun _ s' => Post cx (Own env) w (RF cx env sc ns) r H' .next s') (use := some (assign (.Name y yp) env)) (mu := mu) hh ok hx hi hev hte S I h1 fun D C w' a' e l S' rv I' pC nC oC ⟨m, hN⟩ => ?_) (fun _ _ z => wpAny_pure (wpAny_pure z)) fun _ _ z => z.no
    cases e
    refine wpAny_mono (bindN_rf F hy I' rv H1 S' _ _ h2) (fun _ s2 ⟨ι, π, σ', e, l2, S2, I2⟩ => ⟨m, hN.at' fun o e => l2.kp _ o pC oC e, fun h' hs => ?_⟩) fun _ _ z => z.no
    obtain ⟨l3, S3⟩ := S2.drop (t := s2.toks) (l2.pv _ pC oC) hs.extBut
    exact ⟨_, _, σ', e, ((l.no.trans (l2.weak fun b _ h => .inl h)).trans (l3.weak fun b _ h => .inr h)).weak (p := fun b => Own env b ∨ b = C) fun b hb h => h.elim id fun e => (nC (e ▸ hb)).elim, S3, rfl, EnvR.mono I2 l3 fun b hb h => oC (h ▸ hb)⟩
  · exact wpAny_mono (comp_core (Q := fun _ _ => False) (use := some (assign (.Name y yp) env)) (mu := mu) hh ok hx hi hev hte S I h1 fun D C w' a' e l S' rv I' pC nC oC hN => nomatch e) (fun _ _ z => z.elim) fun _ _ z => z.no
theorem exec_assign1 {t e : Expr} {pos : Pos} (hs : swapsWith e (some t) pos.line env = pure false) (hw : swappedStores [t] e env = pure none) (ht : (assignEach [t] env).map (·.2) = [assign t env]) :
    exec (.Assign [t] e pos) env = (do standAt pos; let v ← eval e env; assign t env v; pure .next) := by
  rw [arm_exec_Assign]
  show (do standAt pos; if ← swapsWith e (some t) pos.line env then _ else _) = _
  rw [hs]
  simp only [pure_bind, Bool.false_eq_true, if_false, hw]
  rw [ht]
  rfl
/-- an expression leaves the frame as it is -/
theorem EvOK.here {ev : Expr → M AV} {e : Expr} (hev : EvOK cx A env (EnvR cx env sc ns σ) ev) (I : EnvR cx env sc ns σ w) : Rf cx A p w (fun w' a b => EnvR cx env sc ns σ w' ∧ VR cx w' a b) (ev e) (eval e env) :=
  .no ((hev e w I).mono fun w' a b l r => ⟨EnvR.stable _ _ I l, r⟩)
/-- an assignment, its target's part g -/
theorem asg_rf {ev : Expr → M AV} {t e : Expr} {pos : Pos} {g : AV → M Loc} (hs : swapsWith e (some t) pos.line env = pure false) (hw : swappedStores [t] e env = pure none) (ht : (assignEach [t] env).map (·.2) = [assign t env])
    (hev : EvOK cx A env (EnvR cx env sc ns σ) ev) (I : EnvR cx env sc ns σ w) (hg : ∀ w1 a v, EnvR cx env sc ns σ w1 → VR cx w1 a v → Rf cx A (Own env) w1 (RL cx env sc ns) (g a) (assign t env v)) :
    Rf cx A (Own env) w (RF cx env sc ns) (ev e >>= g) (exec (.Assign [t] e pos) env) := by
  rw [exec_assign1 hs hw ht]
  exact .standAt (.bind (hev.here I) fun w1 a v l r => .map (hg w1 a v r.1 r.2) fun w2 σ' _ l2 I2 => .pure ⟨rfl, I2⟩)
section
variable {n : Nat} (hh : A.handled = none) (R : Room A) (Z : ZipOK cx A) (G : Good cx P) (C : CallOK cx A P cf) (F : FrS env sc)
include hh R Z G C F
theorem asgN_rf {x : Str} {e : Expr} {xp pos : Pos} (hx : isLocal sc x = true) (I : EnvR cx env sc ns σ w) : Rf cx A (Own env) w (RF cx env sc ns) (do let v ← den P cf n sc ns σ e; setN ns x v σ) (exec (.Assign [.Name x xp] e pos) env) := by
  have go : swapsWith e (some (.Name x xp)) pos.line env = pure false → Rf cx A (Own env) w (RF cx env sc ns) (do let v ← den P cf n sc ns σ e; setN ns x v σ) (exec (.Assign [.Name x xp] e pos) env) := fun hs =>
    asg_rf hs rfl rfl (den_rf hh R Z G C n env sc ns σ) I fun w1 a v I1 r => bindN_rf F hx I1 r
  refine ex_cases (T := fun e => (swapsWith e (some (.Name x xp)) pos.line env = pure false → Rf cx A (Own env) w (RF cx env sc ns) (do let v ← den P cf n sc ns σ e; setN ns x v σ) (exec (.Assign [.Name x xp] e pos) env)) → Rf cx A (Own env) w (RF cx env sc ns) (do let v ← den P cf n sc ns σ e; setN ns x v σ) (exec (.Assign [.Name x xp] e pos) env)) (fun elt gens scope lp go => ?_) (fun _ _ _ _ _ => by rw [den_sc]; exact .stuck) (fun _ _ _ _ _ _ => by rw [den_dc]; exact .stuck) (fun e hsw _ go => go (hsw _ _ _)) e go
  have hb : ∃ b, swapsWith (.ListComp elt gens scope lp) (some (.Name x xp)) pos.line env = pure b := ⟨_, rfl⟩
  obtain ⟨b, hb⟩ := hb
  cases b with
  | false => exact go hb
  | true =>
    rw [exec_Assign_Name_used _ _ _ _ hb]
    cases n with
    | zero => exact .stuck
    | succ n =>
      refine dComp_cases (T := fun m => Rf cx A (Own env) w (RF cx env sc ns) (m >>= fun v => setN ns x v σ) _) .stuck fun z px iter ifs e ok hz => ?_
      subst e
      have ih := den_rf hh R Z G C n
      exact swap_rf hh F hx ok hz (ih env sc ns σ) (fun env' a => ih env' scope (z :: ns) (some a :: σ)) (fun env' a => denT_rf R EnvR.stable (ih env' scope (z :: ns) (some a :: σ)) n) I
omit hh R Z G C F in
theorem tg_cases {T : Expr → Prop} (hn : ∀ x p, T (.Name x p)) (hs : ∀ o i p, T (.Subscript o i p)) (ht : ∀ es k p, T (.Tuple es k p)) (ho : ∀ t, (∀ ev sc ns m σ e, bAssign ev sc ns m σ e t = stuck) → T t) (t : Expr) : T t := by
  cases t with
  | Name => exact hn _ _
  | Subscript => exact hs _ _ _
  | Tuple => exact ht _ _ _
  | _ => exact ho _ fun _ _ _ _ _ _ => rfl
theorem bAssign_rf {m : Loc → M Res} {rest : List Stmt} {e t : Expr} {pos : Pos} (hm : ∀ w' σ', EnvR cx env sc ns σ' w' → Rf cx A (Own env) w' (RS cx env sc ns) (m σ') (execs rest env)) (I : EnvR cx env sc ns σ w) :
    Rf cx A (Own env) w (RS cx env sc ns) (bAssign (den P cf n sc ns σ) sc ns m σ e t) (execs (.Assign [t] e pos :: rest) env) := by
  have hev := den_rf hh R Z G C n env sc ns σ
  refine tg_cases (T := fun t => Rf cx A (Own env) w (RS cx env sc ns) (bAssign (den P cf n sc ns σ) sc ns m σ e t) (execs (.Assign [t] e pos :: rest) env)) (fun x xp => ?_) (fun o i tp => ?_) (fun es k tp => ?_) (fun t hst => by rw [hst]; exact .stuck) t
  · refine ite_rf (fun hx => ?_) fun _ => .stuck
    have := next_st (m := m) (asgN_rf (n := n) (xp := xp) (pos := pos) (e := e) hh R Z G C F hx I) hm
    rwa [bind_assoc] at this
  · have go : ∀ e, swapsWith e (some (.Subscript o i tp)) pos.line env = pure false → Rf cx A (Own env) w (RS cx env sc ns) (bAssign (den P cf n sc ns σ) sc ns m σ e (.Subscript o i tp)) (execs (.Assign [.Subscript o i tp] e pos :: rest) env) := fun e hs => by
      have := next_st (m := m) (asg_rf (e := e) (g := fun a => do let ov ← den P cf n sc ns σ o; let iv ← den P cf n sc ns σ i; pStore ov iv a; pure σ) (pos := pos) hs rfl rfl hev I fun w1 a v I1 r => assign_rf (t := .Subscript o i tp) hh F hev I1 r) hm
      simp only [bind_assoc, pure_bind] at this
      exact this
    exact ex_cases (T := fun e => Rf cx A (Own env) w (RS cx env sc ns) (bAssign (den P cf n sc ns σ) sc ns m σ e (.Subscript o i tp)) (execs (.Assign [.Subscript o i tp] e pos :: rest) env)) (fun _ _ _ _ => go _ rfl) (fun _ _ _ _ => by show Rf _ _ _ _ _ (den P cf n sc ns σ _ >>= _) _; rw [den_sc]; exact .stuck) (fun _ _ _ _ _ => by show Rf _ _ _ _ _ (den P cf n sc ns σ _ >>= _) _; rw [den_dc]; exact .stuck) (fun e hsw _ => go e (hsw _ _ _)) e
  · show Rf cx A (Own env) w _ (match pairN es with | some (x, y) => _ | none => stuck) _
    cases hp : pairN es with
    | none => exact .stuck
    | some xy =>
      obtain ⟨⟨x, px⟩, y, py⟩ := xy
      rw [pairN_of hp]
      refine ite_rf (fun _ => .stuck) fun hc => ?_
      have hc := Bool.eq_false_iff.mpr hc
      rw [Bool.or_eq_false_iff, Bool.or_eq_false_iff, Bool.not_eq_false', Bool.not_eq_false'] at hc
      have go : ∀ e, swapsWith e (some (.Tuple [.Name x px, .Name y py] k tp)) pos.line env = pure false → swappedStores [.Tuple [.Name x px, .Name y py] k tp] e env = pure none → Rf cx A (Own env) w (RS cx env sc ns) (do let v ← den P cf n sc ns σ e; let p ← pairOf v; let σ1 ← setN ns x p.1 σ; let σ2 ← setN ns y p.2 σ1; m σ2) (execs (.Assign [.Tuple [.Name x px, .Name y py] k tp] e pos :: rest) env) := fun e hs hw => by
        have := next_st (m := m) (asg_rf (e := e) (g := fun v => do let p ← pairOf v; let σ1 ← setN ns x p.1 σ; setN ns y p.2 σ1) (pos := pos) hs hw rfl hev I fun w1 a v I1 r => ?_) hm
        · simpa only [bind_assoc] using this
        · unfold pairOf
          split
          · exact .pureR (pair_rf hh F hc.1.2 hc.2 I1 r)
          · exact .stuck
      exact ex_cases (T := fun e => isTupE e = false → Rf cx A (Own env) w (RS cx env sc ns) (do let v ← den P cf n sc ns σ e; let p ← pairOf v; let σ1 ← setN ns x p.1 σ; let σ2 ← setN ns y p.2 σ1; m σ2) (execs (.Assign [.Tuple [.Name x px, .Name y py] k tp] e pos :: rest) env)) (fun _ _ _ _ _ => go _ rfl rfl) (fun _ _ _ _ _ => by rw [den_sc]; exact .stuck) (fun _ _ _ _ _ _ => by rw [den_dc]; exact .stuck) (fun e hsw hst ht => go e (hsw _ _ _) (hst ht _ _ _ _)) e hc.1.1
end
end
end Mine


set_option autoImplicit false
set_option linter.unusedVariables false
namespace Mine
open PySem PyProof.Rows PySem.SeqAt

section
variable {cx : Cx} {A : Around} {w : Wl} {env : Env} {sc : Scope} {ns : List Str} {σ : Loc} {P : Pg} {cf : Str → List AV → M AV}
theorem enumArg_of {it e : Expr} (h : enumArg sc it = some e) : ∃ f fp cp, it = .Call (.Name f fp) [e] [] cp ∧ (f = ("enumerate" : Str) ∧ isGlob sc f = true) ∧ exOk e = true := by
  unfold enumArg at h
  cases hc : callOf it with
  | none => rw [hc] at h; cases h
  | some q =>
    obtain ⟨f, as⟩ := q
    rw [hc] at h
    obtain ⟨fp, p, rfl⟩ := callOf_of hc
    match as, h with
    | [x], h =>
      have h' : (if (f = ("enumerate" : Str) ∧ isGlob sc f = true) ∧ exOk x = true then some x else none) = some e := h
      split at h'
      · rename_i hf
        cases h'
        exact ⟨f, fp, p, rfl, hf⟩
      · cases h'
    | [], h => cases h
    | _ :: _ :: _, h => cases h
section
variable {n : Nat} (hh : A.handled = none) (R : Room A) (Z : ZipOK cx A) (G : Good cx P) (C : CallOK cx A P cf) (F : FrS env sc)
include hh R Z G C F
theorem bFor_rf {m bm : Loc → M Res} {rest body : List Stmt} {t it : Expr} {pos : Pos} (hb : ∀ σ w, EnvR cx env sc ns σ w → Rf cx A (Own env) w (RS cx env sc ns) (bm σ) (execs body env)) (hm : ∀ w' σ', EnvR cx env sc ns σ' w' → Rf cx A (Own env) w' (RS cx env sc ns) (m σ') (execs rest env)) (I : EnvR cx env sc ns σ w) :
    Rf cx A (Own env) w (RS cx env sc ns) (bFor (fun σ e => den P cf n sc ns σ e) sc ns bm m σ t it) (execs (.For t it body [] pos :: rest) env) := by
  have hev := fun σ => den_rf hh R Z G C n env sc ns σ
  cases t with
  | Name x px =>
    refine ite_rf (fun hx => ?_) fun _ => .stuck
    have := goOn_st (m := m) (forN_rf (pos := pos) (x := x) (px := px) hh F hev hb hx I) hm
    simp only [bind_assoc] at this
    exact this
  | Tuple es k pt =>
    show Rf cx A (Own env) w _ (match pairN es with | some (x, y) => _ | none => stuck) _
    cases hp : pairN es with
    | none => exact .stuck
    | some xy =>
      obtain ⟨⟨x, px⟩, y, py⟩ := xy
      show Rf cx A (Own env) w _ (match enumArg sc it with | some e => _ | none => stuck) _
      cases he : enumArg sc it with
      | none => exact .stuck
      | some e =>
        obtain ⟨f, fp, cp, rfl, hf, hx⟩ := enumArg_of he
        rw [pairN_of hp]
        have := goOn_st (m := m) (forE_rf (pos := pos) (fp := fp) (cp := cp) (pt := pt) (k := k) (es := [.Name x px, .Name y py]) hh F hev hb G hx hf.1 hf.2 I) hm
        simp only [bind_assoc] at this
        exact this
  | _ => exact .stuck
end
theorem denB_rf (hh : A.handled = none) (R : Room A) (Z : ZipOK cx A) (G : Good cx P) (C : CallOK cx A P cf) (F : FrS env sc) : ∀ (n : Nat) (body : List Stmt) (σ : Loc) (w : Wl), EnvR cx env sc ns σ w → Rf cx A (Own env) w (RS cx env sc ns) (denB P cf sc ns n body σ) (execs body env)
  | n, [], σ, w, I => by
    have : denB P cf sc ns n [] σ = pure (.next σ) := by cases n <;> rfl
    rw [this]
    exact .leaf fun H S => wpAny_execs_nil (.here S ⟨rfl, I⟩)
  | 0, _ :: _, σ, w, I => .stuck
  | n + 1, st :: rest, σ, w, I => by
    have ih := denB_rf hh R Z G C F n
    have hev := fun σ => den_rf hh R Z G C n env sc ns σ
    have hm : ∀ w' σ', EnvR cx env sc ns σ' w' → Rf cx A (Own env) w' (RS cx env sc ns) (denB P cf sc ns n rest σ') (execs rest env) := fun w' σ' I' => ih rest σ' w' I'
    cases st with
    | Pass p =>
      have := next_st (m0 := pure σ) (m := denB P cf sc ns n rest) (st := .Pass p) (.leaf fun H S => wpAny_Pass (.here S ⟨rfl, I⟩)) hm
      rwa [pure_bind] at this
    | Return v p =>
      rw [arm_execs_cons]
      cases v with
      | none => exact .leaf fun H S => wpAny_bind (wpAny_Return_none (wpAny_pure (.here S ⟨_, rfl, .none, fun b h => I.own h⟩)))
      | some e => exact .no (Rf.seqw (k := fun v => pure (.ret v)) (hev σ e w I) (fun w1 a v l r => .pure ⟨v, rfl, r, fun b h => (EnvR.stable _ _ I l).own h⟩) fun h => wpAny_bind (wpAny_Return_some h))
    | Expr e p =>
      refine ite_rf (fun hn => ?_) fun _ => .stuck
      have := next_st (m := denB P cf sc ns n rest) (expr_rf (pos := p) (hev σ) hn I) hm
      simp only [bind_assoc, pure_bind] at this
      exact this
    | Assign ts e p =>
      match ts with
      | [t] => exact bAssign_rf hh R Z G C F hm I
      | [] => exact .stuck
      | _ :: _ :: _ => exact .stuck
    | If t b o p =>
      have : Rf cx A (Own env) w (RS cx env sc ns) (do let c ← denT (den P cf n sc ns σ) n t; match c with | true => denB P cf sc ns n b σ | false => denB P cf sc ns n o σ) (exec (.If t b o p) env) := by
        rw [arm_exec_If]
        refine .standAt (.bind (.no ((denT_rf R EnvR.stable (hev σ) n t w I).mono (R' := fun w' a b => EnvR cx env sc ns σ w' ∧ a = b) fun w' a b l r => ⟨EnvR.stable _ _ I l, r⟩)) fun w1 c c' l r => ?_)
        rw [← r.2]
        cases c with
        | true => exact ih b σ w1 r.1
        | false => exact ih o σ w1 r.1
      have := goOn_st (m := denB P cf sc ns n rest) this hm
      rw [bind_assoc] at this
      refine (congrArg (fun f => Rf cx A (Own env) w (RS cx env sc ns) (denT (den P cf n sc ns σ) n t >>= f) (execs (.If t b o p :: rest) env)) (funext fun c => ?_)).mp this
      cases c <;> rfl
    | For t it b o p =>
      cases o with
      | nil => exact bFor_rf hh R Z G C F (fun σ w I => ih b σ w I) hm I
      | cons _ _ => exact .stuck
    | While t b o p =>
      cases o with
      | nil => exact goOn_st (m := denB P cf sc ns n rest) (while_rf (fun σ w I => denT_rf R EnvR.stable (hev σ) n t w I) (fun σ w I => ih b σ w I) I) hm
      | cons _ _ => exact .stuck
    | _ => exact .stuck
end
end Mine


set_option autoImplicit false
set_option linter.unusedVariables false
namespace Mine
open PySem PyProof.Rows PySem.SeqAt

structure FnOK (cx : Cx) (f : Str) (fn : Fn) : Prop where
  nd : (f == ("__debug__" : Str)) = false
  chk : fnChk fn = true
  obj : ∃ fa o pm cd doc params, cx.mg f = some (.ref fa) ∧ cx.h₀.get? fa = some o ∧ o.data = .func (Calls.docDef f params fn.body fn.scope pm cd doc) ∧ cx.h₀.CodeRec cd f ∧
    (∀ vs : List Value, vs.length = fn.params.length → bindArgs (Calls.docDef f params fn.body fn.scope pm cd doc) ⟨vs, []⟩ = pure (fn.params.zip vs))

theorem cellsFrom_acc {x : Str} : ∀ (names : List (Str × NameKind)) (n : Nat) (acc : List (Str × Addr)), (acc.lookup x).isSome = true → ((cellsFrom n names acc).lookup x).isSome = true
  | [], _, _, h => h
  | (y, k) :: r, n, acc, h => by
    unfold cellsFrom
    split
    · refine cellsFrom_acc r (n + 1) _ ?_
      rw [List.lookup_cons]
      cases hb : x == y with
      | true => rfl
      | false => exact h
    · exact cellsFrom_acc r n acc h
theorem cellsFrom_has {x : Str} : ∀ (names : List (Str × NameKind)) (n : Nat) (acc : List (Str × Addr)), names.lookup x = some .cell → ((cellsFrom n names acc).lookup x).isSome = true
  | [], _, _, h => by cases h
  | (y, k) :: r, n, acc, h => by
    rw [List.lookup_cons] at h
    unfold cellsFrom
    cases hb : x == y with
    | true =>
      rw [hb] at h
      cases h
      simp only [beq_self_eq_true, if_true]
      exact cellsFrom_acc r (n + 1) _ (by rw [List.lookup_cons, hb]; rfl)
    | false =>
      rw [hb] at h
      split
      · exact cellsFrom_has r (n + 1) _ h
      · exact cellsFrom_has r n acc h

theorem bindL_other {kd : Str → Option NameKind} {x : Str} : ∀ (b : List (Str × Value)) (m : Str → Option Value), x ∉ b.map (·.1) → bindL kd b m x = m x
  | [], _, _ => rfl
  | (y, v) :: r, m, h => by
    have h1 : x ≠ y := fun q => h (by rw [q]; exact List.mem_cons_self)
    have h2 : x ∉ r.map (·.1) := fun q => h (List.mem_cons_of_mem _ q)
    unfold bindL
    rw [bindL_other r _ h2]
    split
    · simp [h1]
    · rfl
theorem bindL_get {kd : Str → Option NameKind} {x : Str} {v : Value} (hk : kd x = some .local) : ∀ (b : List (Str × Value)) (m : Str → Option Value), (b.map (·.1)).Nodup → (x, v) ∈ b → bindL kd b m x = some v
  | [], _, _, h => by cases h
  | (y, w) :: r, m, hn, h => by
    rw [List.map_cons, List.nodup_cons] at hn
    unfold bindL
    rcases List.mem_cons.mp h with q | q
    · cases q
      rw [bindL_other r _ hn.1, if_pos hk]; simp
    · exact bindL_get hk r _ hn.2 q
theorem bindC_other {kd : Str → Option NameKind} {x : Str} : ∀ (b : List (Str × Value)) (m : Str → Option Value), x ∉ b.map (·.1) → bindC kd b m x = m x
  | [], _, _ => rfl
  | (y, v) :: r, m, h => by
    have h1 : x ≠ y := fun q => h (by rw [q]; exact List.mem_cons_self)
    have h2 : x ∉ r.map (·.1) := fun q => h (List.mem_cons_of_mem _ q)
    unfold bindC
    rw [bindC_other r _ h2]
    split
    · rfl
    · simp [h1]
theorem bindC_get {kd : Str → Option NameKind} {x : Str} {v : Value} (hk : ¬ kd x = some .local) : ∀ (b : List (Str × Value)) (m : Str → Option Value), (b.map (·.1)).Nodup → (x, v) ∈ b → bindC kd b m x = some v
  | [], _, _, h => by cases h
  | (y, w) :: r, m, hn, h => by
    rw [List.map_cons, List.nodup_cons] at hn
    unfold bindC
    rcases List.mem_cons.mp h with q | q
    · cases q
      rw [bindC_other r _ hn.1, if_neg hk]; simp
    · exact bindC_get hk r _ hn.2 q

theorem zip_fst' {xs : List Str} {ys : List Value} (h : xs.length = ys.length) : (xs.zip ys).map (·.1) = xs := List.map_fst_zip (Nat.le_of_eq h)
section
variable {cx : Cx} {A : Around} {w : Wl} {H : AHeap} {P : Pg}
/-- the names that hold arguments -/
theorem args_at {fn : Fn} {as : List AV} {vs : List Value} {x : Str} {i : Nat} {a : AV} (ht : fn.names.take fn.params.length = fn.params) (hl : as.length = fn.params.length) (r : VRs cx w as vs) (h1 : fn.names.idxOf? x = some i)
    (h2 : (as.map some ++ List.replicate (fn.names.length - as.length) none : Loc)[i]? = some (some a)) : ∃ v, (x, v) ∈ fn.params.zip vs ∧ VR cx w a v := by
  obtain ⟨q1, q2⟩ := idx_get h1
  have hi : i < as.length := by
    rcases Nat.lt_or_ge i as.length with q | q
    · exact q
    · rw [List.getElem?_append_right (by rw [List.length_map]; exact q), List.getElem?_replicate] at h2
      split at h2 <;> cases h2
  rw [List.getElem?_append_left (by rw [List.length_map]; exact hi), List.getElem?_map, Option.map_eq_some_iff] at h2
  obtain ⟨b, ha, e⟩ := h2
  cases e
  obtain ⟨v, hv, rv⟩ := r.get ha
  have hpx : fn.params[i]? = some x := by
    rw [← ht, List.getElem?_take, if_pos (hl ▸ hi), List.getElem?_eq_getElem q1, q2]
  exact ⟨v, List.mem_of_getElem? (List.getElem?_zip_eq_some.mpr ⟨hpx, hv⟩), rv⟩
structure FnC (fn : Fn) : Prop where
  kind : fn.scope.kind = .function
  co : fn.scope.isCoroutine = false
  gen : fn.scope.isGenerator = false
  names : ∀ y k, (y, k) ∈ fn.scope.names → (k = .local ∨ k = .cell) ∨ k = .globalImplicit
  nd : fn.params.Nodup
  take : fn.names.take fn.params.length = fn.params
  ps : ∀ x, x ∈ fn.params → fn.scope.names.lookup x = some .local ∨ fn.scope.names.lookup x = some .cell
theorem fnC {fn : Fn} (h : fnChk fn = true) : FnC fn := by
  unfold fnChk at h
  rw [Bool.and_eq_true, Bool.and_eq_true, Bool.and_eq_true, Bool.and_eq_true, Bool.and_eq_true, Bool.and_eq_true, List.all_eq_true, List.all_eq_true, Bool.not_eq_true', Bool.not_eq_true', beq_iff_eq, beq_iff_eq, decide_eq_true_iff] at h
  obtain ⟨⟨⟨⟨⟨⟨k1, k2⟩, k3⟩, k4⟩, k5⟩, k6⟩, k7⟩ := h
  refine ⟨k1, k2, k3, fun y k hy => ?_, k5, k6, fun x hx => ?_⟩
  · have := k4 (y, k) hy
    rw [Bool.or_eq_true, Bool.or_eq_true, beq_iff_eq, beq_iff_eq, beq_iff_eq] at this
    exact this
  · have := k7 x hx
    rw [Bool.or_eq_true, beq_iff_eq, beq_iff_eq] at this
    exact this
/-- a call's own objects -/
noncomputable def ownL (env : Env) : List Addr := env.locals :: env.cells.filterMap fun z => env.cells.lookup z.1
theorem mem_ownL {env : Env} {b : Addr} : b ∈ ownL env ↔ Own env b := by
  unfold ownL
  rw [List.mem_cons, List.mem_filterMap]
  exact or_congr_right ⟨fun ⟨z, _, e⟩ => ⟨z.1, e⟩, fun ⟨n, e⟩ => ⟨(n, b), mem_of_lookup e, e⟩⟩
/-- a call's frame, ahead of its body -/
theorem frame_in {fn : Fn} {f : Str} {fa : Addr} {cd : Value} {as : List AV} {vs : List Value} {h₁ : Heap} {tk : Nat} (K : FnC fn) (hlen : as.length = fn.params.length) (r : VRs cx w as vs) (S : St cx w H)
    (Fr : Fr w.s.heap w.s.heap.objs.size h₁ (bindL (envOfC f fn.scope w.s.heap.objs.size fa cd).kindOf (fn.params.zip vs) fun _ => none))
    (Cl : Cl w.s.heap.objs.size (cellsFrom (w.s.heap.objs.size + 1) fn.scope.names []) h₁ (bindC (envOfC f fn.scope w.s.heap.objs.size fa cd).kindOf (fn.params.zip vs) fun _ => none)) :
    FrS (envOfC f fn.scope w.s.heap.objs.size fa cd) fn.scope ∧ (∀ b, Own (envOfC f fn.scope w.s.heap.objs.size fa cd) b → b ∉ w.π) ∧ ∃ w', w'.s = { w.s with heap := h₁, toks := tk } ∧ Le No w w' ∧ St cx w' H ∧
      EnvR cx (envOfC f fn.scope w.s.heap.objs.size fa cd) fn.scope fn.names (as.map some ++ List.replicate (fn.names.length - as.length) none) w' := by
  have hzf : (fn.params.zip vs).map (·.1) = fn.params := zip_fst' (by rw [← r.length, hlen])
  generalize henv : envOfC f fn.scope w.s.heap.objs.size fa cd = env at Fr Cl ⊢
  have hloc : env.locals = w.s.heap.objs.size := by rw [← henv]; rfl
  have hcs : env.cells = cellsFrom (w.s.heap.objs.size + 1) fn.scope.names [] := by rw [← henv]; rfl
  have hscp : env.scope = fn.scope := by rw [← henv]; rfl
  have hkd : ∀ y, env.kindOf y = fn.scope.names.lookup y := fun y => by rw [← henv]; rfl
  rw [← hcs] at Cl
  rw [← hloc] at Fr Cl
  have new : ∀ b, Own env b → w.s.heap.get? b = none := fun b h => Heap.get?_none_of_le (hloc ▸ h.elim (fun e => Nat.le_of_eq e.symm) fun ⟨n, e⟩ => Nat.le_of_lt (Cl.above n b (mem_of_lookup e)))
  obtain ⟨l, S'⟩ := S.hides (ownL env) (t := tk) Fr.keep (fun d h => new d (mem_ownL.mp h)) fun d h => (mem_ownL.mp h).elim (fun e => let ⟨o, _, _, q, _⟩ := Fr.ns; ⟨o, e ▸ q⟩) fun ⟨n, e⟩ => let ⟨o, q, _⟩ := Cl.cell n d e; ⟨o, q⟩
  have pv : ∀ {b}, Own env b → b ∈ ownL env ++ w.π := fun h => List.mem_append_left _ (mem_ownL.mpr h)
  have nofree : ∀ x, isLocal fn.scope x = true → fn.scope.names.lookup x = some .local ∨ fn.scope.names.lookup x = some .cell := fun x hx => by
    unfold isLocal at hx
    cases hl : fn.scope.names.lookup x with
    | none => rw [hl] at hx; cases hx
    | some k =>
      rcases K.names _ _ (lookup_mem hl) with (q | q) | q
      · subst q; exact .inl rfl
      · subst q; exact .inr rfl
      · subst q; rw [hl] at hx; cases hx
  have cell : ∀ {x}, fn.scope.names.lookup x = some .cell → ∃ c, env.cells.lookup x = some c := fun hx => by
    rw [hcs]; exact Option.isSome_iff_exists.mp (cellsFrom_has fn.scope.names (w.s.heap.objs.size + 1) [] hx)
  refine ⟨⟨hscp, fun n c hc e => Nat.lt_irrefl _ (e ▸ Cl.above n c (mem_of_lookup hc)), fun n n' c a1 a2 => name_of_addr Cl.apart (mem_of_lookup a1) (mem_of_lookup a2), nofree⟩, fun b h => S.none (new b h), _, rfl, l, S',
    ⟨⟨by rw [hscp]; exact K.kind, by rw [← henv]; rfl, by rw [← henv]; rfl, fun x hx => (nofree x hx).imp (fun q => (hkd x).trans q) fun q => .inl ((hkd x).trans q), fun x hx => (hkd x).trans hx, fun x hx => ?_⟩, pv (.inl rfl), ⟨_, Fr.ns, fun x i a h1 h2 h3 => ?_⟩, fun x i a h1 h2 h3 => ?_, fun x h1 h2 => ?_, fun n c h => pv (.inr ⟨n, h⟩)⟩⟩
  · rw [hkd]
    unfold isGlob at hx
    split at hx
    · assumption
    · cases hx
  · obtain ⟨v, m1, m2⟩ := args_at K.take hlen r h1 h2
    exact ⟨v, bindL_get h3 _ _ (by rw [hzf]; exact K.nd) m1, m2.mono l⟩
  · obtain ⟨v, m1, m2⟩ := args_at K.take hlen r h1 h2
    have hnl : ¬ env.kindOf x = some .local := fun q => by rcases h3 with h3 | h3 <;> rw [q] at h3 <;> cases h3
    have hc : fn.scope.names.lookup x = some .cell := by
      rw [hkd] at h3
      rcases h3 with h3 | h3
      · exact h3
      · rcases K.names _ _ (lookup_mem h3) with (q | q) | q <;> cases q
    obtain ⟨c, hc'⟩ := cell hc
    have hcell := Cl.cell x c hc'
    rw [bindC_get hnl _ _ (by rw [hzf]; exact K.nd) m1] at hcell
    exact ⟨c, v, hc', pv (.inr ⟨x, hc'⟩), hcell, m2.mono l⟩
  · obtain ⟨c, hc'⟩ := cell h2
    exact ⟨c, _, hc', pv (.inr ⟨x, hc'⟩), Cl.cell x c hc'⟩
theorem callP_rf (hZ : ∀ A : Around, A.handled = none → ZipOK cx A) (hP : ∀ f fn, P.fn f = some fn → FnOK cx f fn) (G : Good cx P) : ∀ (n : Nat) (A : Around), A.handled = none → A.units + 3 * n + 100 < cLine → A.depth + n < recursionLimit → CallOK cx A P (callP P n)
  | n, A, hh, hu, hd => fun f hf => by
    obtain ⟨fn, hf⟩ := Option.isSome_iff_exists.mp hf
    obtain ⟨nd, chk, fa, o, pm, cd, doc, params, q1, q2, q3, q4, q5⟩ := hP f fn hf
    refine ⟨nd, fa, o, _, q1, q2, q3, fun w as vs r => ?_⟩
    cases n with
    | zero => exact .stuck
    | succ n =>
      unfold callP
      rw [hf]
      refine ite_rf (fun hlen => fun H S r' H' h => ?_) fun _ => .stuck
      have K := fnC chk
      have hvl : vs.length = fn.params.length := by rw [← r.length]; exact hlen
      have hzf : (fn.params.zip vs).map (·.1) = fn.params := zip_fst' hvl.symm
      have kp : ∀ b o, cx.h₀.get? b = some o → w.s.heap.get? b = some o := fun b o e => (S.base b o e).1
      refine wpAny_call (call_cells_ret (binds := fn.params.zip vs) (Nat.lt_of_le_of_lt (Nat.le_add_right _ _) hd) (kp _ _ q2) q3 (G.nolim.keeps kp) (q4.keeps kp) (q5 vs hvl) (fun z hz => ?_) (fun h₁ tk Fr Cl => ?_) K.co K.gen K.kind)
      · exact (K.ps z.1 (by rw [← hzf]; exact List.mem_map_of_mem hz)).imp id fun q => ⟨q, cellsFrom_has _ _ _ q⟩
      · obtain ⟨F, hO, w1, e1, l1, S1, I1⟩ := frame_in (tk := tk) K hlen r S Fr Cl
        rw [← e1]
        have C' := callP_rf hZ hP G n (A.deeper (envOfC f fn.scope w.s.heap.objs.size fa cd)) hh (by show A.units + 3 + 3 * n + 100 < cLine; omega) (by show A.depth + 1 + n < recursionLimit; omega)
        have R' : Room (A.deeper (envOfC f fn.scope w.s.heap.objs.size fa cd)) := by unfold Room; show A.units + 3 + 100 < cLine; omega
        refine wpAny_mono ((denB_rf (A := A.deeper _) hh R' (hZ _ hh) G C' F EFUEL fn.body _ w1 I1).run S1 h (K := fun f s' => Post cx No w (VR cx) r' H' (match f with | .ret v => v | _ => .none) s') fun w2 res fl H2 l2 S2 hr h2 => ?_) (fun _ _ z => z) fun _ _ z => z.no
        have l3 : Le No w w2 := (l1.no.trans l2).weak fun b hb h => hO b h hb
        cases res with
        | next σ' =>
          obtain ⟨rfl, rfl⟩ := pure_some h2
          rw [hr.1]
          exact ⟨_, _, _, rfl, l3, S2, .none⟩
        | ret a =>
          obtain ⟨v, e, rv, _⟩ := hr
          obtain ⟨rfl, rfl⟩ := pure_some h2
          subst e
          exact ⟨_, _, _, rfl, l3, S2, rv⟩
end
theorem lookup_zip {ps : List Str} {vs : List Value} {x : Str} (hl : ps.length ≤ vs.length) (hx : x ∈ ps) : ((ps.zip vs).lookup x).isSome = true := by
  induction ps generalizing vs with
  | nil => cases hx
  | cons p ps ih =>
    cases vs with
    | nil => simp at hl
    | cons v vs =>
      rw [List.zip_cons_cons, List.lookup_cons]
      cases hb : x == p with
      | true => rfl
      | false =>
        rcases List.mem_cons.mp hx with q | q
        · rw [q] at hb; simp at hb
        · exact ih (by simpa using hl) q
theorem fm_congr {α β : Type} {f g : α → Option β} : ∀ {l : List α}, (∀ x ∈ l, f x = g x) → l.filterMap f = l.filterMap g
  | [], _ => rfl
  | x :: r, h => by rw [List.filterMap_cons, List.filterMap_cons, h x List.mem_cons_self, fm_congr fun y hy => h y (List.mem_cons_of_mem _ hy)]
theorem binds_zip {ps : List Str} {vs : List Value} (hl : ps.length = vs.length) (hn : ps.Nodup) : (ps.filterMap fun n => ((ps.zip vs).lookup n).map (n, ·)) = ps.zip vs := by
  induction ps generalizing vs with
  | nil => rfl
  | cons p ps ih =>
    cases vs with
    | nil => simp at hl
    | cons v vs =>
      rw [List.nodup_cons] at hn
      rw [List.zip_cons_cons, List.filterMap_cons]
      simp only [List.lookup_cons, beq_self_eq_true, Option.map_some]
      congr 1
      refine (fm_congr fun n hm => ?_).trans (ih (by simpa using hl) hn.2)
      have hne : (n == p) = false := by
        cases hb : n == p with
        | false => rfl
        | true => exact absurd (beq_iff_eq.mp hb ▸ hm) hn.1
      rw [hne]

theorem bindArgs_plain {name : Str} {params : Arguments} {body : List Stmt} {scope : Scope} {pm cd doc : Value} {ps : List Str} {vs : List Value} (h1 : params.posonlyargs = []) (h2 : params.args.map (·.arg) = ps) (h3 : params.vararg = none) (h4 : params.kwonlyargs = []) (h5 : params.kwarg = none)
    (hn : ps.Nodup) (hl : vs.length = ps.length) : bindArgs (Calls.docDef name params body scope pm cd doc) ⟨vs, []⟩ = pure (ps.zip vs) := by
  unfold bindArgs
  have hm : (List.filter (fun n => ((ps.zip vs).lookup n).isNone) ps).isEmpty = true := by
    rw [List.isEmpty_iff, List.filter_eq_nil_iff]
    intro x hx q
    have := lookup_zip (vs := vs) (by omega) hx
    cases hz : (ps.zip vs).lookup x with
    | none => rw [hz] at this; cases this
    | some v => rw [hz] at q; cases q
  have hs : seqItems? Value.none = pure none := rfl
  simp only [Calls.docDef, h1, h2, h3, h4, h5, List.map_nil, List.nil_append, List.forIn_nil, pure_bind, hs, Option.getD_none, Array.toList_empty, List.length_nil, Nat.zero_sub, List.drop_nil, Nat.sub_zero, List.take_length, List.drop_length, List.zip_nil_left, hl, Nat.lt_irrefl, gt_iff_lt, decide_false, Bool.false_and, Bool.false_eq_true, if_false, hm, Bool.not_true, List.isEmpty_nil, List.append_nil]
  rw [binds_zip (by omega) hn]
end Mine


set_option autoImplicit false
set_option linter.unusedVariables false
set_option maxRecDepth 100000
namespace Mine
open PySem PyProof.Rows

/-- an iterator over a list or a tuple -/
inductive SIt (h : Heap) (it a : Addr) (xs : Array Value) (i : Nat) : Prop
  | list : h.IsListIter it a i → h.IsList a xs → SIt h it a xs i
  | tup : h.IsTupleIter it a i → h.IsTuple a xs → SIt h it a xs i
theorem SIt.keep {h h' : Heap} {it a : Addr} {xs : Array Value} {i : Nat} (x : SIt h it a xs i) (h1 : ∀ o, h.get? it = some o → h'.get? it = some o) (h2 : ∀ o, h.get? a = some o → h'.get? a = some o) : SIt h' it a xs i := by
  cases x with
  | list p q => exact .list (p.at h1) (q.at h2)
  | tup p q =>
    obtain ⟨o, e, r⟩ := p
    obtain ⟨o', e', r'⟩ := q
    exact .tup ⟨o, h1 o e, r⟩ ⟨o', h2 o' e', r'⟩
theorem SIt.lt {h : Heap} {it a : Addr} {xs : Array Value} {i : Nat} (x : SIt h it a xs i) : it < h.objs.size ∧ a < h.objs.size := by
  cases x with
  | list p q => obtain ⟨o, e, _⟩ := p; obtain ⟨o', e', _⟩ := q; exact ⟨Heap.lt_size e, Heap.lt_size e'⟩
  | tup p q => obtain ⟨o, e, _⟩ := p; obtain ⟨o', e', _⟩ := q; exact ⟨Heap.lt_size e, Heap.lt_size e'⟩

section
variable {prog : Program} {w : World} {A : Around} {E : Value → Shared → Prop} {s : Shared}

theorem nextOf_tuple_item {it t : Addr} {i : Nat} {items : Array Value} {x : Value} {Q : Value → Shared → Prop} (hit : s.heap.IsTupleIter it t i) (ht : s.heap.IsTuple t items) (hx : items[i]? = some x)
    (hQ : ∀ h', h'.IsTupleIter it t (i + 1) → Heap.SameBut it s.heap h' → Q x { s with heap := h' }) : wpAny (model prog w) A (Builtin.SmallTypes.nextOf (.ref it)) Q E s := by
  obtain ⟨o, ho, hc, hd⟩ := id hit
  obtain ⟨ol, hol, _, nl, hdl⟩ := ht
  unfold Builtin.SmallTypes.nextOf
  refine wpAny_bind (wpAny_callSpecial?_slot (name := Str.ofString "__next__") hit.typeIs F.slot_tuple_iterator_next (wpAny_call_entry F.slot_tuple_iterator_next hit.typeIs F.entry_tuple_iterator_next ?_ (F.args_tuple_iterator_next_1 _)))
  show wpAny _ _ (field (.ref it) 0 >>= _) _ _ s
  refine wpAny_bind (wpAny_field ho hd (x := .ref t) rfl ?_)
  show wpAny _ _ (if (Value.ref t == Value.none) = true then _ else _) _ _ s
  rw [if_neg (show ¬ ((Value.ref t == Value.none) = true) from Bool.false_ne_true)]
  show wpAny _ _ (field (.ref it) 1 >>= _) _ _ s
  refine wpAny_bind (wpAny_field ho hd (x := .int i 0) rfl ?_)
  show wpAny _ _ (seqItems? (.ref t) >>= _) _ _ s
  refine wpAny_bind (wpAny_seqItems hol hdl ?_)
  simp only [Int.toNat_natCast, hx]
  refine wpAny_bind (wpAny_setField ho hd (by simp) (wpAny_pure ⟨x, rfl, wpAny_pure (hQ _ ?_ (Heap.SameBut.update ..))⟩))
  exact ⟨_, Heap.get?_update_self _ ho (Obj.isFreed_of_fields (Obj.data_mapFields hd _)), (Obj.cls_mapFields ..).trans hc, by rw [Obj.data_mapFields hd]; simp [rawInt]⟩

theorem nextOf_tuple_end {it t : Addr} {i : Nat} {items : Array Value} {Q : Value → Shared → Prop} (hh : A.handled = none) (hit : s.heap.IsTupleIter it t i) (ht : s.heap.IsTuple t items) (hx : items[i]? = none)
    (hE : ∀ h' e, Heap.ExtBut it s.heap h' → (∃ o, h'.get? e = some o ∧ o.cls = .type "StopIteration") → E (.ref e) { s with heap := h' }) : wpAny (model prog w) A (Builtin.SmallTypes.nextOf (.ref it)) Q E s := by
  obtain ⟨o, ho, hc, hd⟩ := id hit
  obtain ⟨ol, hol, _, nl, hdl⟩ := ht
  unfold Builtin.SmallTypes.nextOf
  refine wpAny_bind (wpAny_callSpecial?_slot (name := Str.ofString "__next__") hit.typeIs F.slot_tuple_iterator_next (wpAny_call_entry F.slot_tuple_iterator_next hit.typeIs F.entry_tuple_iterator_next ?_ (F.args_tuple_iterator_next_1 _)))
  show wpAny _ _ (field (.ref it) 0 >>= _) _ _ s
  refine wpAny_bind (wpAny_field ho hd (x := .ref t) rfl ?_)
  show wpAny _ _ (if (Value.ref t == Value.none) = true then _ else _) _ _ s
  rw [if_neg (show ¬ ((Value.ref t == Value.none) = true) from Bool.false_ne_true)]
  show wpAny _ _ (field (.ref it) 1 >>= _) _ _ s
  refine wpAny_bind (wpAny_field ho hd (x := .int i 0) rfl ?_)
  show wpAny _ _ (seqItems? (.ref t) >>= _) _ _ s
  refine wpAny_bind (wpAny_seqItems hol hdl ?_)
  simp only [Int.toNat_natCast, hx]
  refine wpAny_bind (wpAny_rule (wpAny_bind (wpAny_setField ho hd (by simp) ?_)))
  show wpAny _ _ (newExc (.type "StopIteration") [] >>= _) _ _ _
  refine wpAny_bind ?_
  simp only [newExc, newTuple]
  refine wpAny_bind (wpAny_newObj_type ?_ (by size_fits))
  refine wpAny_bind (m := firstArgMember _ _) (wpAny_of_eq (a := Value.none) (by first | rfl | (simp only [firstArgMember]; rfl)) ?_)
  refine wpAny_newObj_type ?_ (by size_fits)
  simp only [raiseNew]
  refine wpAny_bind (wpAny_handled ?_)
  first | rw [show A.in1.handled = none from hh] | rw [hh]
  refine wpAny_bind (wpAny_pure (wpAny_throw ?_))
  exact hE _ _ (((Heap.SameBut.update ..).extBut.push _).push _) ⟨_, Heap.get?_push_size _ rfl, rfl⟩

theorem nextOf_item {it a : Addr} {xs : Array Value} {i : Nat} {x : Value} {Q : Value → Shared → Prop} (hit : SIt s.heap it a xs i) (hne : a ≠ it) (hx : xs[i]? = some x)
    (hQ : ∀ h', SIt h' it a xs (i + 1) → Heap.SameBut it s.heap h' → Q x { s with heap := h' }) : wpAny (model prog w) A (Builtin.SmallTypes.nextOf (.ref it)) Q E s := by
  cases hit with
  | list p q => exact wpAny_nextOf_list_item p q hx fun h' p' hs => hQ h' (.list p' (q.extBut hs.extBut hne)) hs
  | tup p q => exact nextOf_tuple_item p q hx fun h' p' hs => hQ h' (.tup p' (q.extBut hs.extBut hne)) hs
theorem nextOf_end {it a : Addr} {xs : Array Value} {i : Nat} {Q : Value → Shared → Prop} (hh : A.handled = none) (hit : SIt s.heap it a xs i) (hx : xs[i]? = none)
    (hE : ∀ h' e, Heap.ExtBut it s.heap h' → (∃ o, h'.get? e = some o ∧ o.cls = .type "StopIteration") → E (.ref e) { s with heap := h' }) : wpAny (model prog w) A (Builtin.SmallTypes.nextOf (.ref it)) Q E s := by
  cases hit with
  | list p q => exact wpAny_nextOf_list_end hh p q hx hE
  | tup p q => exact nextOf_tuple_end hh p q hx hE

/-- a zip object, with its marks on its own tuple -/
abbrev IsZ (h : Heap) (z TI TO : Addr) (f0 f1 : Value) : Prop :=
  h.get? z = some { cls := .type "zip", dict := none, data := .fields #[f0, f1, .bool false, .ref TI, .ref TO], slots := #[] }
structure ZA (z TI TO i1 i2 a1 a2 : Addr) : Prop where
  TIz : TI ≠ z
  TOz : TO ≠ z
  i1z : i1 ≠ z
  i2z : i2 ≠ z
  TITO : TI ≠ TO
  TIi1 : TI ≠ i1
  TIi2 : TI ≠ i2
  TOi1 : TO ≠ i1
  TOi2 : TO ≠ i2
  i12 : i1 ≠ i2
  a1z : a1 ≠ z
  a1TO : a1 ≠ TO
  a1i1 : a1 ≠ i1
  a1i2 : a1 ≠ i2
  a2z : a2 ≠ z
  a2TO : a2 ≠ TO
  a2i1 : a2 ≠ i1
  a2i2 : a2 ≠ i2
end
end Mine


set_option autoImplicit false
set_option linter.unusedVariables false
set_option maxRecDepth 100000
namespace Mine
open PySem PyProof.Rows
section
variable {prog : Program} {w : World} {A : Around} {E : Value → Shared → Prop} {s : Shared}

theorem wpAny_alive {M : Model} {a : Addr} {Q : Option Obj → Shared → Prop} (h : Q (s.heap.get? a) s) : wpAny M A (loadIfAlive a) Q E s := fun Γ p _ => by
  unfold loadIfAlive
  rw [Sem.wp_loadIfAlive]
  exact (Sem.wp_pure ..).mpr h

/-- zip's next, its own tuple handed out and alive -/
theorem zipB_item {z TI TO i1 i2 a1 a2 T : Addr} {k : Nat} {xs ys : Array Value} {x y f1 : Value} {o : Obj} {Q : Value → Shared → Prop} (D : ZA z TI TO i1 i2 a1 a2)
    (hz : IsZ s.heap z TI TO (rawInt T) f1) (hf : f1 = .bool false ∨ f1 = .bool true) (hT : s.heap.get? T = some o) (hTI : IsPair s.heap TI (.ref i1) (.ref i2))
    (h1 : SIt s.heap i1 a1 xs k) (h2 : SIt s.heap i2 a2 ys k) (hx : xs[k]? = some x) (hy : ys[k]? = some y)
    (hQ : ∀ h', IsZ h' z TI TO (rawInt T) (.bool true) → SIt h' i1 a1 xs (k + 1) → SIt h' i2 a2 ys (k + 1) → IsPair h' s.heap.objs.size x y →
      (∀ c o, c ≠ z → c ≠ i1 → c ≠ i2 → s.heap.get? c = some o → h'.get? c = some o) → Q (.ref s.heap.objs.size) { s with heap := h' }) :
    wpAny (model prog w) A (Builtin.«zip.__next__» ⟨[.ref z], []⟩) (fun fin s' => ∃ v, fin = .done (.ret v) ∧ Q v s') E s := by
  show wpAny _ _ (field (.ref z) 2 >>= _) _ _ _
  refine wpAny_bind (wpAny_field hz rfl (x := .bool false) rfl ?_)
  show wpAny _ _ (field (.ref z) 3 >>= _) _ _ _
  refine wpAny_bind (wpAny_field hz rfl (x := .ref TI) rfl ?_)
  refine wpAny_bind (wpAny_seqItems hTI rfl ?_)
  show wpAny _ _ (Builtin.SmallTypes.ownedTupleIsFree (.ref z) >>= _) _ _ _
  refine wpAny_bind ?_
  have free : ∀ Q' : Bool → Shared → Prop, (∀ h', IsZ h' z TI TO (rawInt T) (.bool true) → Heap.SameBut z s.heap h' → Q' false { s with heap := h' }) → wpAny (model prog w) A (Builtin.SmallTypes.ownedTupleIsFree (.ref z)) Q' E s := by
    intro Q' hq
    unfold Builtin.SmallTypes.ownedTupleIsFree
    refine wpAny_bind (wpAny_field hz rfl (x := rawInt T) rfl ?_)
    show wpAny _ _ (loadIfAlive ((T : Int)).toNat >>= _) _ _ _
    rw [Int.toNat_natCast]
    refine wpAny_bind (wpAny_alive ?_)
    rw [hT]
    show wpAny _ _ (field (.ref z) 1 >>= _) _ _ _
    refine wpAny_bind (wpAny_field hz rfl (x := f1) rfl ?_)
    rcases hf with rfl | rfl
    · show wpAny _ _ (setField (.ref z) 1 (.bool true) >>= _) _ _ _
      refine wpAny_bind (wpAny_setField_rec hz (by simp) fun h' hz' hs' => wpAny_pure (hq h' hz' hs'))
    · refine wpAny_pure (hq s.heap hz ⟨rfl, fun _ _ => rfl⟩)
  refine free _ fun h₁ hz₁ hs₁ => ?_
  simp only [Bool.false_eq_true, if_false]
  rw [← Array.forIn_toList]
  simp only [List.forIn_cons, List.forIn_nil]
  refine wpAny_bind (wpAny_bind (wpAny_bind (wpAny_holding ?_)))
  show wpAny _ _ (Builtin.SmallTypes.nextOf (.ref i1) >>= _) _ _ _
  refine wpAny_bind (nextOf_item (h1.keep (fun o e => hs₁.extBut _ _ D.i1z e) (fun o e => hs₁.extBut _ _ D.a1z e)) D.a1i1 hx fun h₂ h1₂ hs₂ => wpAny_pure ?_)
  refine wpAny_pure ?_
  refine wpAny_bind (wpAny_bind (wpAny_holding ?_))
  show wpAny _ _ (Builtin.SmallTypes.nextOf (.ref i2) >>= _) _ _ _
  have h2₂ : SIt h₂ i2 a2 ys k := (h2.keep (fun o e => hs₁.extBut _ _ D.i2z e) (fun o e => hs₁.extBut _ _ D.a2z e)).keep (fun o e => hs₂.extBut _ _ D.i12.symm e) (fun o e => hs₂.extBut _ _ D.a2i1 e)
  refine wpAny_bind (nextOf_item h2₂ D.a2i2 hy fun h₃ h2₃ hs₃ => wpAny_pure ?_)
  refine wpAny_pure ?_
  refine wpAny_pure ?_
  refine wpAny_bind (wpAny_newTuple (hsz := by show 2 ≤ sizeLine; decide) ?_)
  have hsz : h₃.objs.size = s.heap.objs.size := by rw [hs₃.1, hs₂.1, hs₁.1]
  have h1₃ : SIt h₃ i1 a1 xs (k + 1) := h1₂.keep (fun o e => hs₃.extBut _ _ D.i12 e) (fun o e => hs₃.extBut _ _ D.a1i2 e)
  have hz₃ : IsZ h₃ z TI TO (rawInt T) (.bool true) := hs₃.extBut _ _ D.i2z.symm (hs₂.extBut _ _ D.i1z.symm hz₁)
  refine wpAny_pure ⟨_, rfl, ?_⟩
  show Q (.ref h₃.objs.size) _
  rw [hsz]
  refine hQ _ (Heap.get?_push_of_some _ hz₃) (h1₃.keep (fun o e => Heap.get?_push_of_some _ e) (fun o e => Heap.get?_push_of_some _ e)) (h2₃.keep (fun o e => Heap.get?_push_of_some _ e) (fun o e => Heap.get?_push_of_some _ e)) ?_ fun c o c1 c2 c3 e => Heap.get?_push_of_some _ (hs₃.extBut _ _ c3 (hs₂.extBut _ _ c2 (hs₁.extBut _ _ c1 e)))
  rw [← hsz]
  exact Heap.get?_push_size _ rfl
theorem zipB_end {z TI TO i1 i2 a1 a2 T : Addr} {k : Nat} {xs ys : Array Value} {f1 : Value} {o : Obj} {Q : Fin → Shared → Prop} (hh : A.handled = none) (D : ZA z TI TO i1 i2 a1 a2)
    (hz : IsZ s.heap z TI TO (rawInt T) f1) (hf : f1 = .bool false ∨ f1 = .bool true) (hT : s.heap.get? T = some o) (hTI : IsPair s.heap TI (.ref i1) (.ref i2))
    (h1 : SIt s.heap i1 a1 xs k) (hx : xs[k]? = none)
    (hE : ∀ h' e, (∀ c o, c ≠ z → c ≠ i1 → s.heap.get? c = some o → h'.get? c = some o) → (∃ o, h'.get? e = some o ∧ o.cls = .type "StopIteration") → E (.ref e) { s with heap := h' }) :
    wpAny (model prog w) A (Builtin.«zip.__next__» ⟨[.ref z], []⟩) Q E s := by
  show wpAny _ _ (field (.ref z) 2 >>= _) _ _ _
  refine wpAny_bind (wpAny_field hz rfl (x := .bool false) rfl ?_)
  show wpAny _ _ (field (.ref z) 3 >>= _) _ _ _
  refine wpAny_bind (wpAny_field hz rfl (x := .ref TI) rfl ?_)
  refine wpAny_bind (wpAny_seqItems hTI rfl ?_)
  show wpAny _ _ (Builtin.SmallTypes.ownedTupleIsFree (.ref z) >>= _) _ _ _
  refine wpAny_bind ?_
  have free : ∀ Q' : Bool → Shared → Prop, (∀ h', IsZ h' z TI TO (rawInt T) (.bool true) → Heap.SameBut z s.heap h' → Q' false { s with heap := h' }) → wpAny (model prog w) A (Builtin.SmallTypes.ownedTupleIsFree (.ref z)) Q' E s := by
    intro Q' hq
    unfold Builtin.SmallTypes.ownedTupleIsFree
    refine wpAny_bind (wpAny_field hz rfl (x := rawInt T) rfl ?_)
    show wpAny _ _ (loadIfAlive ((T : Int)).toNat >>= _) _ _ _
    rw [Int.toNat_natCast]
    refine wpAny_bind (wpAny_alive ?_)
    rw [hT]
    show wpAny _ _ (field (.ref z) 1 >>= _) _ _ _
    refine wpAny_bind (wpAny_field hz rfl (x := f1) rfl ?_)
    rcases hf with rfl | rfl
    · show wpAny _ _ (setField (.ref z) 1 (.bool true) >>= _) _ _ _
      refine wpAny_bind (wpAny_setField_rec hz (by simp) fun h' hz' hs' => wpAny_pure (hq h' hz' hs'))
    · refine wpAny_pure (hq s.heap hz ⟨rfl, fun _ _ => rfl⟩)
  refine free _ fun h₁ hz₁ hs₁ => ?_
  simp only [Bool.false_eq_true, if_false]
  rw [← Array.forIn_toList]
  simp only [List.forIn_cons, List.forIn_nil]
  refine wpAny_bind (wpAny_bind (wpAny_bind (wpAny_holding ?_)))
  show wpAny _ _ (Builtin.SmallTypes.nextOf (.ref i1) >>= _) _ _ _
  refine wpAny_bind (nextOf_end hh (h1.keep (fun o e => hs₁.extBut _ _ D.i1z e) (fun o e => hs₁.extBut _ _ D.a1z e)) hx fun h₂ e hs₂ he => ?_)
  exact hE h₂ e (fun c o c1 c2 x => hs₂ _ _ c2 (hs₁.extBut _ _ c1 x)) he

/-- zip's next, its own tuple free -/
theorem zipA_item {z TI TO i1 i2 a1 a2 : Addr} {k : Nat} {xs ys : Array Value} {x y a b : Value} {Q : Value → Shared → Prop} (D : ZA z TI TO i1 i2 a1 a2)
    (hz : IsZ s.heap z TI TO .none (.bool false)) (hTI : IsPair s.heap TI (.ref i1) (.ref i2)) (hTO : IsPair s.heap TO a b)
    (h1 : SIt s.heap i1 a1 xs k) (h2 : SIt s.heap i2 a2 ys k) (hx : xs[k]? = some x) (hy : ys[k]? = some y)
    (hQ : ∀ h', IsZ h' z TI TO (rawInt s.heap.objs.size) (.bool false) → IsPair h' TO x y → SIt h' i1 a1 xs (k + 1) → SIt h' i2 a2 ys (k + 1) → IsPair h' s.heap.objs.size x y →
      (∀ c o, c ≠ z → c ≠ TO → c ≠ i1 → c ≠ i2 → s.heap.get? c = some o → h'.get? c = some o) → Q (.ref s.heap.objs.size) { s with heap := h' }) :
    wpAny (model prog w) A (Builtin.«zip.__next__» ⟨[.ref z], []⟩) (fun fin s' => ∃ v, fin = .done (.ret v) ∧ Q v s') E s := by
  show wpAny _ _ (field (.ref z) 2 >>= _) _ _ _
  refine wpAny_bind (wpAny_field hz rfl (x := .bool false) rfl ?_)
  show wpAny _ _ (field (.ref z) 3 >>= _) _ _ _
  refine wpAny_bind (wpAny_field hz rfl (x := .ref TI) rfl ?_)
  refine wpAny_bind (wpAny_seqItems hTI rfl ?_)
  show wpAny _ _ (Builtin.SmallTypes.ownedTupleIsFree (.ref z) >>= _) _ _ _
  refine wpAny_bind ?_
  unfold Builtin.SmallTypes.ownedTupleIsFree
  refine wpAny_bind (wpAny_field hz rfl (x := .none) rfl (wpAny_pure ?_))
  simp only [if_true]
  refine wpAny_bind (wpAny_rule ?_)
  refine wpAny_bind (wpAny_field hz rfl (x := .ref TO) rfl ?_)
  refine wpAny_bind (wpAny_setField_rec hz (by simp) fun h₁ hz₁ hs₁ => ?_)
  replace hz₁ : IsZ h₁ z TI TO .ellipsis (.bool false) := hz₁
  refine wpAny_bind ?_
  simp only [List.zipIdx_cons, List.zipIdx_nil, List.forIn_cons, List.forIn_nil]
  refine wpAny_bind (wpAny_bind (wpAny_onRaise ?_))
  show wpAny _ _ (Builtin.SmallTypes.nextOf (.ref i1) >>= _) _ _ _
  refine wpAny_bind (nextOf_item (h1.keep (fun o e => hs₁.extBut _ _ D.i1z e) (fun o e => hs₁.extBut _ _ D.a1z e)) D.a1i1 hx fun h₂ h1₂ hs₂ => wpAny_pure ?_)
  have hTO₂ : IsPair h₂ TO a b := hs₂.extBut _ _ D.TOi1 (hs₁.extBut _ _ D.TOz hTO)
  refine wpAny_bind (wpAny_seqItems hTO₂ rfl ?_)
  refine wpAny_bind (wpAny_updateSeq_pair hTO₂ fun h₃ hTO₃ hs₃ => ?_)
  replace hTO₃ : IsPair h₃ TO x b := hTO₃
  refine wpAny_bind (wpAny_letGo (wpAny_pure ?_))
  refine wpAny_bind (wpAny_bind (wpAny_onRaise ?_))
  show wpAny _ _ (Builtin.SmallTypes.nextOf (.ref i2) >>= _) _ _ _
  have h2₃ : SIt h₃ i2 a2 ys k := ((h2.keep (fun o e => hs₁.extBut _ _ D.i2z e) (fun o e => hs₁.extBut _ _ D.a2z e)).keep (fun o e => hs₂.extBut _ _ D.i12.symm e) (fun o e => hs₂.extBut _ _ D.a2i1 e)).keep (fun o e => hs₃.extBut _ _ D.TOi2.symm e) (fun o e => hs₃.extBut _ _ D.a2TO e)
  refine wpAny_bind (nextOf_item h2₃ D.a2i2 hy fun h₄ h2₄ hs₄ => wpAny_pure ?_)
  have hTO₄ : IsPair h₄ TO x b := hs₄.extBut _ _ D.TOi2 hTO₃
  refine wpAny_bind (wpAny_seqItems hTO₄ rfl ?_)
  refine wpAny_bind (wpAny_updateSeq_pair hTO₄ fun h₅ hTO₅ hs₅ => ?_)
  replace hTO₅ : IsPair h₅ TO x y := hTO₅
  refine wpAny_bind (wpAny_letGo (wpAny_pure (wpAny_pure ?_)))
  refine wpAny_bind (wpAny_seqItems hTO₅ rfl ?_)
  refine wpAny_bind (wpAny_newTuple ?_)
  have hsz : h₅.objs.size = s.heap.objs.size := by rw [hs₅.1, hs₄.1, hs₃.1, hs₂.1, hs₁.1]
  have hz₅ : IsZ h₅ z TI TO .ellipsis (.bool false) := hs₅.extBut _ _ D.TOz.symm (hs₄.extBut _ _ D.i2z.symm (hs₃.extBut _ _ D.TOz.symm (hs₂.extBut _ _ D.i1z.symm hz₁)))
  have hk₅ : ∀ c o, c ≠ z → c ≠ TO → c ≠ i1 → c ≠ i2 → s.heap.get? c = some o → h₅.get? c = some o := fun c o c1 c2 c3 c4 e =>
    hs₅.extBut _ _ c2 (hs₄.extBut _ _ c4 (hs₃.extBut _ _ c2 (hs₂.extBut _ _ c3 (hs₁.extBut _ _ c1 e))))
  have h1₅ : SIt h₅ i1 a1 xs (k + 1) := ((h1₂.keep (fun o e => hs₃.extBut _ _ D.TOi1.symm e) (fun o e => hs₃.extBut _ _ D.a1TO e)).keep (fun o e => hs₄.extBut _ _ D.i12 e) (fun o e => hs₄.extBut _ _ D.a1i2 e)).keep (fun o e => hs₅.extBut _ _ D.TOi1.symm e) (fun o e => hs₅.extBut _ _ D.a1TO e)
  have h2₅ : SIt h₅ i2 a2 ys (k + 1) := h2₄.keep (fun o e => hs₅.extBut _ _ D.TOi2.symm e) (fun o e => hs₅.extBut _ _ D.a2TO e)
  have hzlt : z < h₅.objs.size := Heap.lt_size hz₅
  show wpAny _ _ (Builtin.SmallTypes.ownedTupleHandOut (.ref z) (.ref h₅.objs.size) >>= _) _ _ _
  refine wpAny_bind ?_
  unfold Builtin.SmallTypes.ownedTupleHandOut
  have hz₆ : IsZ (h₅.push { cls := .type "tuple", data := .seq #[x, y] }) z TI TO .ellipsis (.bool false) := Heap.get?_push_of_some _ hz₅
  refine wpAny_bind (wpAny_setField_rec hz₆ (by simp) fun h₇ hz₇ hs₇ => ?_)
  replace hz₇ : IsZ h₇ z TI TO (rawInt h₅.objs.size) (.bool false) := hz₇
  refine wpAny_setField_rec hz₇ (by simp) fun h₈ hz₈ hs₈ => ?_
  replace hz₈ : IsZ h₈ z TI TO (rawInt h₅.objs.size) (.bool false) := hz₈
  have up : ∀ c o, c ≠ z → h₅.get? c = some o → h₈.get? c = some o := fun c o c1 e => hs₈.extBut _ _ c1 (hs₇.extBut _ _ c1 (Heap.get?_push_of_some _ e))
  have hT₈ : IsPair h₈ h₅.objs.size x y := hs₈.extBut _ _ (Nat.ne_of_gt hzlt) (hs₇.extBut _ _ (Nat.ne_of_gt hzlt) (Heap.get?_push_size _ rfl))
  rw [hsz] at hz₈ hT₈
  refine wpAny_pure ⟨_, rfl, ?_⟩
  show Q (.ref h₅.objs.size) _
  rw [hsz]
  exact hQ h₈ hz₈ (up _ _ D.TOz hTO₅) (h1₅.keep (fun o e => up _ o D.i1z e) (fun o e => up _ o D.a1z e)) (h2₅.keep (fun o e => up _ o D.i2z e) (fun o e => up _ o D.a2z e)) hT₈ fun c o c1 c2 c3 c4 e => up c o c1 (hk₅ c o c1 c2 c3 c4 e)

theorem zipA_end {z TI TO i1 i2 a1 a2 : Addr} {k : Nat} {xs : Array Value} {a b : Value} {Q : Fin → Shared → Prop} (hh : A.handled = none) (D : ZA z TI TO i1 i2 a1 a2)
    (hz : IsZ s.heap z TI TO .none (.bool false)) (hTI : IsPair s.heap TI (.ref i1) (.ref i2)) (hTO : IsPair s.heap TO a b) (h1 : SIt s.heap i1 a1 xs k) (hx : xs[k]? = none)
    (hE : ∀ h' e, (∀ c o, c ≠ z → c ≠ i1 → s.heap.get? c = some o → h'.get? c = some o) → (∃ o, h'.get? e = some o ∧ o.cls = .type "StopIteration") → E (.ref e) { s with heap := h' }) :
    wpAny (model prog w) A (Builtin.«zip.__next__» ⟨[.ref z], []⟩) Q E s := by
  show wpAny _ _ (field (.ref z) 2 >>= _) _ _ _
  refine wpAny_bind (wpAny_field hz rfl (x := .bool false) rfl ?_)
  show wpAny _ _ (field (.ref z) 3 >>= _) _ _ _
  refine wpAny_bind (wpAny_field hz rfl (x := .ref TI) rfl ?_)
  refine wpAny_bind (wpAny_seqItems hTI rfl ?_)
  show wpAny _ _ (Builtin.SmallTypes.ownedTupleIsFree (.ref z) >>= _) _ _ _
  refine wpAny_bind ?_
  unfold Builtin.SmallTypes.ownedTupleIsFree
  refine wpAny_bind (wpAny_field hz rfl (x := .none) rfl (wpAny_pure ?_))
  simp only [if_true]
  refine wpAny_bind (wpAny_rule ?_)
  refine wpAny_bind (wpAny_field hz rfl (x := .ref TO) rfl ?_)
  refine wpAny_bind (wpAny_setField_rec hz (by simp) fun h₁ hz₁ hs₁ => ?_)
  replace hz₁ : IsZ h₁ z TI TO .ellipsis (.bool false) := hz₁
  refine wpAny_bind ?_
  simp only [List.zipIdx_cons, List.zipIdx_nil, List.forIn_cons, List.forIn_nil]
  refine wpAny_bind (wpAny_bind (wpAny_onRaise ?_))
  show wpAny _ _ (Builtin.SmallTypes.nextOf (.ref i1) >>= _) _ _ _
  refine wpAny_bind (nextOf_end hh (h1.keep (fun o e => hs₁.extBut _ _ D.i1z e) (fun o e => hs₁.extBut _ _ D.a1z e)) hx fun h₂ e hs₂ he => ?_)
  obtain ⟨oe, hoe, hce⟩ := he
  have hz₂ : IsZ h₂ z TI TO .ellipsis (.bool false) := hs₂ _ _ D.i1z.symm hz₁
  have hez : e ≠ z := fun x => by subst x; rw [hz₂] at hoe; cases hoe; simp at hce
  refine wpAny_setField_rec hz₂ (by simp) fun h₃ _ hs₃ => hE h₃ e (fun c o c1 c3 x => hs₃.extBut _ _ c1 (hs₂ _ _ c3 (hs₁.extBut _ _ c1 x))) ⟨oe, hs₃.extBut _ _ hez hoe, hce⟩
end
end Mine


set_option autoImplicit false
set_option linter.unusedVariables false
set_option maxRecDepth 100000
namespace Mine
open PySem PyProof.Rows

theorem zip_no_len : typeLookup (.type "zip") "__len__" = pure none := by rw [typeLookup_type, builtinLookup_eq_fast]; kernel_rfl
theorem zip_no_hint : typeLookup (.type "zip") "__length_hint__" = pure none := by rw [typeLookup_type, builtinLookup_eq_fast]; kernel_rfl

/-- a zip over two sequences, i items drawn -/
structure Zs (h : Heap) (z TI TO i1 i2 a1 a2 : Addr) (xs ys : Array Value) (i : Nat) : Prop where
  ti : IsPair h TI (.ref i1) (.ref i2)
  s1 : SIt h i1 a1 xs i
  s2 : SIt h i2 a2 ys i
  to : ∃ o, h.get? TO = some o
  zz : (IsZ h z TI TO .none (.bool false) ∧ ∃ a b, IsPair h TO a b) ∨ ∃ T f1 x y, IsZ h z TI TO (rawInt (T : Nat)) f1 ∧ (f1 = .bool false ∨ f1 = .bool true) ∧ IsPair h T x y

theorem SIt.notpair {h : Heap} {it a T : Addr} {xs : Array Value} {i : Nat} {x y : Value} (p : SIt h it a xs i) (q : IsPair h T x y) : T ≠ it := by
  rintro rfl
  cases p with
  | list p _ => obtain ⟨o, e, c, _⟩ := p; rw [q] at e; cases e; simp at c
  | tup p _ => obtain ⟨o, e, c, _⟩ := p; rw [q] at e; cases e; simp at c
theorem IsZ.notpair {h : Heap} {z TI TO T : Addr} {f0 f1 x y : Value} (p : IsZ h z TI TO f0 f1) (q : IsPair h T x y) : T ≠ z := by
  rintro rfl
  have e := Option.some.inj ((show h.get? T = _ from q).symm.trans p)
  exact absurd (congrArg Obj.cls e) (by simp)
theorem pair_ne_list {h : Heap} {T S : Addr} {x y : Value} {acc : Array Value} {c : Nat} (q : IsPair h T x y) (p : h.get? S = some { cls := .type "list", dict := none, data := .seq acc c, slots := #[] }) : T ≠ S := by
  rintro rfl
  have e := Option.some.inj ((show h.get? T = _ from q).symm.trans p)
  exact absurd (congrArg Obj.cls e) (by simp)

theorem Zs.type {s : Shared} {z TI TO i1 i2 a1 a2 : Addr} {xs ys : Array Value} {i : Nat} (Z : Zs s.heap z TI TO i1 i2 a1 a2 xs ys i) : s.TypeIs (.ref z) "zip" := by
  rcases Z.zz with ⟨h, _⟩ | ⟨T, f1, x, y, h, _⟩
  · exact ⟨_, h, rfl⟩
  · exact ⟨_, h, rfl⟩
theorem Zs.keep {h h' : Heap} {z TI TO i1 i2 a1 a2 : Addr} {xs ys : Array Value} {i : Nat} (Z : Zs h z TI TO i1 i2 a1 a2 xs ys i) (hk : ∀ c ∈ [z, TI, TO, i1, i2, a1, a2], ∀ o, h.get? c = some o → h'.get? c = some o) (hp : ∀ T x y, IsPair h T x y → IsPair h' T x y) : Zs h' z TI TO i1 i2 a1 a2 xs ys i where
  ti := hp _ _ _ Z.ti
  s1 := Z.s1.keep (hk _ (by simp)) (hk _ (by simp))
  s2 := Z.s2.keep (hk _ (by simp)) (hk _ (by simp))
  to := let ⟨o, e⟩ := Z.to; ⟨o, hk TO (by simp) o e⟩
  zz := by
    rcases Z.zz with ⟨h, a, b, q⟩ | ⟨T, f1, x, y, h, e, q⟩
    · exact .inl ⟨hk z (by simp) _ h, a, b, hp _ _ _ q⟩
    · exact .inr ⟨T, f1, x, y, hk z (by simp) _ h, e, hp _ _ _ q⟩

section
variable {prog : Program} {w : World} {A : Around} {E : Value → Shared → Prop} {s : Shared} {z TI TO i1 i2 a1 a2 : Addr} {xs ys : Array Value} {i : Nat}

theorem zs_next {x y : Value} {Q : Option Value → Shared → Prop} (D : ZA z TI TO i1 i2 a1 a2) (Z : Zs s.heap z TI TO i1 i2 a1 a2 xs ys i) (hx : xs[i]? = some x) (hy : ys[i]? = some y)
    (hQ : ∀ h', Zs h' z TI TO i1 i2 a1 a2 xs ys (i + 1) → IsPair h' s.heap.objs.size x y → (∀ c o, c ≠ z → c ≠ TO → c ≠ i1 → c ≠ i2 → s.heap.get? c = some o → h'.get? c = some o) → Q (some (.ref s.heap.objs.size)) { s with heap := h' }) :
    wpAny (model prog w) A (pyNext (.ref z)) Q E s := by
  have hT := Z.type
  unfold pyNext
  refine wpAny_bind (wpAny_attempt (wpAny_callSpecial?_slot (name := Str.ofString "__next__") hT F.slot_zip_next (wpAny_call_entry F.slot_zip_next hT F.entry_zip_next ?_ (F.args_zip_next_1 _))))
  rcases Z.zz with ⟨hz, a, b, q⟩ | ⟨T, f1, x0, y0, hz, hf, q⟩
  · refine zipA_item D hz Z.ti q Z.s1 Z.s2 hx hy fun h' g1 g0 g2 g3 g4 g5 => wpAny_pure (hQ h' ⟨g5 _ _ D.TIz D.TITO D.TIi1 D.TIi2 Z.ti, g2, g3, ⟨_, g0⟩, .inr ⟨_, _, x, y, g1, .inl rfl, g4⟩⟩ g4 g5)
  · refine zipB_item D hz hf q Z.ti Z.s1 Z.s2 hx hy fun h' g1 g2 g3 g4 g5 => wpAny_pure (hQ h' ⟨g5 _ _ D.TIz D.TIi1 D.TIi2 Z.ti, g2, g3, (let ⟨o, e⟩ := Z.to; ⟨o, g5 _ _ D.TOz D.TOi1 D.TOi2 e⟩), .inr ⟨T, _, x0, y0, g1, .inr rfl, g5 _ _ (hz.notpair q) (Z.s1.notpair q) (Z.s2.notpair q) q⟩⟩ g4 fun c o c1 _ c3 c4 e => g5 c o c1 c3 c4 e)
theorem zs_done {Q : Option Value → Shared → Prop} (hh : A.handled = none) (D : ZA z TI TO i1 i2 a1 a2) (Z : Zs s.heap z TI TO i1 i2 a1 a2 xs ys i) (hx : xs[i]? = none)
    (hQ : ∀ h', (∀ c o, c ≠ z → c ≠ i1 → s.heap.get? c = some o → h'.get? c = some o) → Q none { s with heap := h' }) :
    wpAny (model prog w) A (pyNext (.ref z)) Q E s := by
  have hT := Z.type
  unfold pyNext
  rcases Z.zz with ⟨hz, a, b, q⟩ | ⟨T, f1, x0, y0, hz, hf, q⟩
  · refine wpAny_bind (wpAny_attempt (wpAny_callSpecial?_slot (name := Str.ofString "__next__") hT F.slot_zip_next (wpAny_call_entry F.slot_zip_next hT F.entry_zip_next (zipA_end hh D hz Z.ti q Z.s1 hx fun h' e hk he => ?_) (F.args_zip_next_1 _))))
    obtain ⟨o, ho, hc⟩ := he
    refine wpAny_bind (wpAny_isInstance (T := "StopIteration") (b := true) ⟨o, ho, hc⟩ isSubtype_stop ?_)
    exact wpAny_pure (hQ _ hk)
  · refine wpAny_bind (wpAny_attempt (wpAny_callSpecial?_slot (name := Str.ofString "__next__") hT F.slot_zip_next (wpAny_call_entry F.slot_zip_next hT F.entry_zip_next (zipB_end (ys := ys) hh D hz hf q Z.ti Z.s1 hx fun h' e hk he => ?_) (F.args_zip_next_1 _))))
    obtain ⟨o, ho, hc⟩ := he
    refine wpAny_bind (wpAny_isInstance (T := "StopIteration") (b := true) ⟨o, ho, hc⟩ isSubtype_stop ?_)
    exact wpAny_pure (hQ _ hk)

/-- what has been put into the list so far -/
structure Pr (h : Heap) (no : List Addr) (xs ys acc : Array Value) (i : Nat) : Prop where
  size : acc.size = i
  at_ : ∀ j, j < i → ∃ T x y, acc[j]? = some (.ref T) ∧ xs[j]? = some x ∧ ys[j]? = some y ∧ IsPair h T x y ∧ ∀ b, b ∈ no → b < T
theorem Pr.keep {h h' : Heap} {no : List Addr} {acc : Array Value} (p : Pr h no xs ys acc i) (hk : ∀ b o, b ∉ no → h.get? b = some o → h'.get? b = some o) : Pr h' no xs ys acc i :=
  ⟨p.size, fun j hj => let ⟨T, x, y, e1, e2, e3, e4, e5⟩ := p.at_ j hj; ⟨T, x, y, e1, e2, e3, hk _ _ (fun h => Nat.lt_irrefl _ (e5 _ h)) e4, e5⟩⟩
theorem Pr.push {h : Heap} {no : List Addr} {acc : Array Value} {T : Addr} {x y : Value} (p : Pr h no xs ys acc i) (hx : xs[i]? = some x) (hy : ys[i]? = some y) (hT : IsPair h T x y) (hn : ∀ b, b ∈ no → b < T) : Pr h no xs ys (acc.push (.ref T)) (i + 1) := by
  refine ⟨by rw [Array.size_push, p.size], fun j hj => ?_⟩
  by_cases hji : j < i
  · obtain ⟨T', x', y', e1, e2, e3, e4, e5⟩ := p.at_ j hji
    exact ⟨T', x', y', by rw [Array.getElem?_push_lt (by rw [p.size]; exact hji)]; rw [← e1]; exact (Array.getElem?_eq_getElem _).symm, e2, e3, e4, e5⟩
  · have : j = i := by omega
    subst this
    exact ⟨T, x, y, by rw [← p.size]; exact Array.getElem?_push_size, hx, hy, hT, hn⟩

theorem zip_loop {R : Result → Shared → Prop} {S : Addr} {res : Value} (hh : A.handled = none) (D : ZA z TI TO i1 i2 a1 a2) (hl : ys.size = xs.size) (hn : xs.size ≤ sizeLine) (hS : S ∉ [z, TI, TO, i1, i2, a1, a2]) :
    ∀ (k i : Nat) (s : Shared) (acc : Array Value) (c : Nat), xs.size - i = k → i ≤ xs.size → Zs s.heap z TI TO i1 i2 a1 a2 xs ys i → s.heap.get? S = some { cls := .type "list", dict := none, data := .seq acc c, slots := #[] } → Pr s.heap [S, z, TO, i1, i2] xs ys acc i →
    (∀ h' acc' c', (∀ b o, b ∉ [S, z, TO, i1, i2] → s.heap.get? b = some o → h'.get? b = some o) → h'.get? S = some { cls := .type "list", dict := none, data := .seq acc' c', slots := #[] } → Pr h' [S, z, TO, i1, i2] xs ys acc' xs.size → R (.ok (.ret res)) { s with heap := h' }) →
    codeAny (model prog w) A (.builtin "list.extend.loop" ⟨[.ref S, .ref z, res], []⟩) R s := by
  simp only [List.mem_cons, List.not_mem_nil, or_false, not_or] at hS
  obtain ⟨n1, n2, n3, n4, n5, n6, n7⟩ := hS
  intro k
  induction k with
  | zero =>
    intro i s acc c hk hi Z hSl hP hR
    have hin : i = xs.size := by omega
    subst hin
    refine codeAny_builtin F.entry_extend_loop ?_
    rw [Around.under_plainId F.plain_extend_loop _]
    show wpAny _ A.in1 (pyNext (.ref z) >>= _) _ _ s
    refine wpAny_bind (zs_done hh D Z (Array.getElem?_eq_none (Nat.le_refl _)) fun h' hk' => ?_)
    have hk2 : ∀ b o, b ∉ [S, z, TO, i1, i2] → s.heap.get? b = some o → h'.get? b = some o := fun b o hb e => hk' b o (fun q => hb (by simp [q])) (fun q => hb (by simp [q])) e
    exact wpAny_pure (hR h' acc c hk2 (hk' S _ n1 n4 hSl) (hP.keep hk2))
  | succ k ih =>
    intro i s acc c hk hi Z hSl hP hR
    have hlt : i < xs.size := by omega
    refine codeAny_builtin F.entry_extend_loop ?_
    rw [Around.under_plainId F.plain_extend_loop _]
    show wpAny _ A.in1 (pyNext (.ref z) >>= _) _ _ s
    have hx := Array.getElem?_eq_getElem hlt
    have hy := Array.getElem?_eq_getElem (xs := ys) (i := i) (by omega)
    refine wpAny_bind (zs_next D Z hx hy fun h' Z' hT hk' => ?_)
    have hS' := hk' S _ n1 n3 n4 n5 hSl
    have hlS := Heap.lt_size hSl
    have hlz : z < s.heap.objs.size := by rcases Z.zz with ⟨q, _⟩ | ⟨_, _, _, _, q, _⟩ <;> exact Heap.lt_size q
    have hl1 := Z.s1.lt.1
    have hl2 := Z.s2.lt.1
    have hlT : TO < s.heap.objs.size := let ⟨_, e⟩ := Z.to; Heap.lt_size e
    have hTn : ∀ b, b ∈ [S, z, TO, i1, i2] → b < s.heap.objs.size := fun b hm => by
      simp only [List.mem_cons, List.not_mem_nil, or_false] at hm
      rcases hm with q | q | q | q | q <;> rw [q] <;> assumption
    have hk2 : ∀ b o, b ∉ [S, z, TO, i1, i2] → s.heap.get? b = some o → h'.get? b = some o := fun b o hb e => hk' b o (fun q => hb (by simp [q])) (fun q => hb (by simp [q])) (fun q => hb (by simp [q])) (fun q => hb (by simp [q])) e
    show wpAny _ A.in1 (updateSeq S (·.push (.ref s.heap.objs.size)) >>= _) _ _ _
    refine wpAny_bind ?_
    have hP' := (hP.keep hk2).push hx hy hT hTn
    have hu : ∀ b o, b ≠ S → h'.get? b = some o → (h'.update S (Obj.mapSeq (·.push (.ref s.heap.objs.size)))).get? b = some o := fun b o hb e => (Heap.get?_update_other _ _ (Ne.symm hb)).trans e
    have hpair : ∀ T x y, IsPair h' T x y → IsPair (h'.update S (Obj.mapSeq (·.push (.ref s.heap.objs.size)))) T x y := fun T x y q => hu T _ (pair_ne_list q hS') q
    refine wpAny_updateSeq hS' rfl (wpAny_pure ⟨plainId_quiet F.plain_extend_loop _, ih (i + 1) _ (acc.push (.ref s.heap.objs.size)) _ (by omega) hlt (Z'.keep (fun b hb o e => hu b o (fun q => ?_) e) hpair) (Heap.get?_update_self _ hS' rfl) (hP'.keep fun b o hb e => hu b o (fun q => hb (by simp [q])) e) fun h'' acc' c' hm hS'' hacc' => ?_⟩)
      (by rw [hP.size]; omega) (by show (acc.push _).size ≤ sizeLine + 1; rw [Array.size_push, hP.size]; omega)
    · subst q
      simp only [List.mem_cons, List.not_mem_nil, or_false] at hb
      rcases hb with q | q | q | q | q | q | q
      · exact n1 q
      · exact n2 q
      · exact n3 q
      · exact n4 q
      · exact n5 q
      · exact n6 q
      · exact n7 q
    · exact hR h'' acc' c' (fun b o hb e => hm b o hb (hu b o (fun q => hb (by simp [q])) (hk2 b o hb e))) hS'' hacc'
end
end Mine


set_option autoImplicit false
set_option linter.unusedVariables false
set_option maxRecDepth 100000
namespace Mine
open PySem PyProof.Rows

section
variable {prog : Program} {w : World} {A : Around} {s : Shared} {R : Result → Shared → Prop} {z TI TO i1 i2 a1 a2 : Addr} {xs ys : Array Value}

theorem extend_zip {S : Addr} {res : Value} {c₀ : Nat} (hh : A.handled = none) (D : ZA z TI TO i1 i2 a1 a2) (hz : IsZ s.heap z TI TO .none (.bool false)) (Z : Zs s.heap z TI TO i1 i2 a1 a2 xs ys 0) (hl : ys.size = xs.size) (hn : xs.size ≤ sizeLine) (hS : S ∉ [z, TI, TO, i1, i2, a1, a2])
    (hSl : s.heap.get? S = some { cls := .type "list", data := .seq #[] c₀ })
    (hR : ∀ h' acc' c', (∀ b o, b ∉ [S, z, TO, i1, i2] → s.heap.get? b = some o → h'.get? b = some o) → h'.get? S = some { cls := .type "list", dict := none, data := .seq acc' c', slots := #[] } → Pr h' [S, z, TO, i1, i2] xs ys acc' xs.size → R (.ok (.ret res)) { s with heap := h' }) :
    wpAny (model prog w) A.in1 (Builtin.List.listExtendWith (.ref S) (.ref z) res)
      (fun fin s' => match fin with | .done f => R (.ok f) s' | .again c' => c'.quiet = true ∧ codeAny (model prog w) A c' R s') (fun e s' => R (.error e) s') s := by
  have hSz : S ≠ z := fun e => hS (by rw [e]; simp)
  have hT := Z.type
  unfold Builtin.List.listExtendWith
  refine wpAny_bind (wpAny_typeOf hT ?_)
  have h1 : Builtin.List.listSameRef (.ref S) (.ref z) = false := by simp [Builtin.List.listSameRef, hSz]
  have h2 : (Value.type "zip" == Value.type "list") = false := by decide
  have h3 : (Value.type "zip" == Value.type "tuple") = false := by decide
  simp only [h1, h2, h3, Bool.or_false, Bool.false_eq_true, if_false]
  refine wpAny_bind (wpAny_pyIter_zip (TI := TI) (TO := TO) (f0 := .none) hz ?_)
  refine wpAny_bind (wpAny_holding ?_)
  unfold Builtin.List.listLengthHint
  refine wpAny_bind (wpAny_specialOf hT zip_no_len ?_)
  show wpAny _ A.in1 (specialOf (Value.ref z) (Str.ofString "__length_hint__") >>= _) _ _ _
  refine wpAny_bind (wpAny_specialOf hT zip_no_hint ?_)
  refine wpAny_pure ?_
  show wpAny _ A.in1 (rule "list.extend.makes-room" >>= fun _ => Builtin.List.listTouch (.ref S) >>= fun _ => again (.builtin "list.extend.loop" ⟨[.ref S, .ref z, res], []⟩)) _ _ _
  refine wpAny_bind (wpAny_rule ?_)
  refine wpAny_bind ?_
  show wpAny _ A.in1 (updateSeq S (·.push .none) >>= fun _ => updateSeq S (·.pop)) _ _ _
  refine wpAny_bind (wpAny_updateSeq hSl rfl ?_)
  have hS₂ := Heap.get?_update_self (Obj.mapSeq (·.push Value.none)) hSl rfl
  refine wpAny_updateSeq (hz := by seq_fits) hS₂ rfl ?_
  have hS₃ := Heap.get?_update_self (Obj.mapSeq (·.pop)) hS₂ rfl
  have oth : ∀ b o, b ≠ S → s.heap.get? b = some o → ((s.heap.update S (Obj.mapSeq (·.push Value.none))).update S (Obj.mapSeq (·.pop))).get? b = some o :=
    fun b o hb e => (Heap.get?_update_other _ _ (Ne.symm hb)).trans ((Heap.get?_update_other _ _ (Ne.symm hb)).trans e)
  refine wpAny_pure ⟨plainId_quiet F.plain_extend_loop _, zip_loop hh D hl hn hS xs.size 0 _ #[] _ (Nat.sub_zero _) (Nat.zero_le _) (Z.keep (fun b hb o e => oth b o (fun h => hS (h ▸ hb)) e) fun T x y q => oth T _ (fun e => ?_) q) hS₃ ⟨rfl, fun j hj => absurd hj (Nat.not_lt_zero _)⟩ fun h' acc' c' hm hS' hacc => ?_⟩
  · exact pair_ne_list q hSl e
  · exact hR h' acc' c' (fun b o hb e => hm b o hb (oth b o (fun q => hb (by simp [q])) e)) hS' hacc

theorem init_zip {S : Addr} (hh : A.handled = none) (D : ZA z TI TO i1 i2 a1 a2) (hz : IsZ s.heap z TI TO .none (.bool false)) (Z : Zs s.heap z TI TO i1 i2 a1 a2 xs ys 0) (hl : ys.size = xs.size) (hn : xs.size ≤ sizeLine) (hS : S ∉ [z, TI, TO, i1, i2, a1, a2])
    (hSl : s.heap.get? S = some { cls := .type "list", data := .seq #[] })
    (hR : ∀ h' acc' c', (∀ b o, b ∉ [S, z, TO, i1, i2] → s.heap.get? b = some o → h'.get? b = some o) → h'.get? S = some { cls := .type "list", dict := none, data := .seq acc' c', slots := #[] } → Pr h' [S, z, TO, i1, i2] xs ys acc' xs.size → R (.ok (.ret .none)) { s with heap := h' }) :
    wpAny (model prog w) A.in1 (Builtin.«list.__init__» ⟨[.ref S, .ref z], []⟩)
      (fun fin s' => match fin with | .done f => R (.ok f) s' | .again c' => c'.quiet = true ∧ codeAny (model prog w) A c' R s') (fun e s' => R (.error e) s') s := by
  show wpAny _ A.in1 (do let old ← Builtin.List.listItems (.ref S); Builtin.List.listUpdate (.ref S) (fun _ => #[]); letGo old.toList.reverse; Builtin.List.listExtendWith (.ref S) (.ref z) .none) _ _ s
  refine wpAny_bind ?_
  unfold Builtin.List.listItems
  refine wpAny_bind (wpAny_seqItems hSl rfl (wpAny_pure ?_))
  show wpAny _ A.in1 (updateSeq S (fun _ => #[]) >>= fun _ => letGo (#[] : Array Value).toList.reverse >>= fun _ => Builtin.List.listExtendWith (.ref S) (.ref z) .none) _ _ s
  refine wpAny_bind (wpAny_updateSeq hSl rfl ?_)
  have hS₂ := Heap.get?_update_self (Obj.mapSeq (fun _ => (#[] : Array Value))) hSl rfl
  have oth : ∀ b o, b ≠ S → s.heap.get? b = some o → (s.heap.update S (Obj.mapSeq (fun _ => (#[] : Array Value)))).get? b = some o :=
    fun b o hb e => (Heap.get?_update_other _ _ (Ne.symm hb)).trans e
  refine wpAny_bind (wpAny_letGo ?_)
  refine extend_zip hh D (oth z _ (fun e => hS (by rw [← e]; simp)) hz) (Z.keep (fun b hb o e => oth b o (fun h => hS (h ▸ hb)) e) fun T x y q => oth T _ (fun e => pair_ne_list q hSl e) q) hl hn hS hS₂ fun h' acc' c' hm hS' hacc => ?_
  exact hR h' acc' c' (fun b o hb e => hm b o hb (oth b o (fun q => hb (by simp [q])) e)) hS' hacc
end

section
variable {prog : Program} {w : World} {A : Around} {E : Value → Shared → Prop} {s : Shared} {z TI TO i1 i2 a1 a2 : Addr} {xs ys : Array Value}
theorem list_zip {Q : Value → Shared → Prop} (hh : A.handled = none) (D : ZA z TI TO i1 i2 a1 a2) (hz : IsZ s.heap z TI TO .none (.bool false)) (Z : Zs s.heap z TI TO i1 i2 a1 a2 xs ys 0) (hl : ys.size = xs.size) (hn : xs.size ≤ sizeLine)
    (hQ : ∀ h' acc' c', (∀ b o, b ∉ [z, TO, i1, i2] → s.heap.get? b = some o → h'.get? b = some o) → h'.get? s.heap.objs.size = some { cls := .type "list", dict := none, data := .seq acc' c', slots := #[] } → Pr h' [s.heap.objs.size, z, TO, i1, i2] xs ys acc' xs.size → Q (.ref s.heap.objs.size) { s with heap := h' }) :
    wpAny (model prog w) A (call (.type "list") [.ref z]) Q E s := by
  have hlz : z < s.heap.objs.size := Heap.lt_size hz
  have hlI : TI < s.heap.objs.size := Heap.lt_size Z.ti
  have hlT : TO < s.heap.objs.size := let ⟨_, e⟩ := Z.to; Heap.lt_size e
  have hS : s.heap.objs.size ∉ [z, TI, TO, i1, i2, a1, a2] := fun hm => by
    simp only [List.mem_cons, List.not_mem_nil, or_false] at hm
    rcases hm with q | q | q | q | q | q | q
    · exact absurd q (Nat.ne_of_gt hlz)
    · exact absurd q (Nat.ne_of_gt hlI)
    · exact absurd q (Nat.ne_of_gt hlT)
    · exact absurd q (Nat.ne_of_gt Z.s1.lt.1)
    · exact absurd q (Nat.ne_of_gt Z.s2.lt.1)
    · exact absurd q (Nat.ne_of_gt Z.s1.lt.2)
    · exact absurd q (Nat.ne_of_gt Z.s2.lt.2)
  refine callType_codes (Q₁ := fun obj s₁ => obj = .ref s.heap.objs.size ∧ s₁ = { s with heap := s.heap.push { cls := .type "list", data := .seq #[] } }) F.called_list (F.typeCall_list_1 _) F.entry_list_init
    (code_list_new _ ⟨rfl, rfl⟩) fun obj s₁ h₁ => ?_
  obtain ⟨rfl, rfl⟩ := h₁
  have hSl : (s.heap.push { cls := .type "list", data := .seq #[] }).get? s.heap.objs.size = some { cls := .type "list", data := .seq #[] } := Heap.get?_push_size _ rfl
  refine ⟨⟨_, hSl, rfl⟩, F.args_list_init_2 _ _, init_zip (A := A.in1) hh D (Heap.get?_push_of_some _ hz) (Z.keep (fun b hb o e => Heap.get?_push_of_some _ e) fun T x y q => Heap.get?_push_of_some _ q) hl hn hS hSl fun h' acc' c' hk hS' hacc => ?_⟩
  refine ⟨rfl, hQ h' acc' c' (fun b o hb e => hk b o (fun hm => ?_) (Heap.get?_push_of_some _ e)) hS' hacc⟩
  rcases List.mem_cons.mp hm with q | q
  · exact absurd (q ▸ Heap.lt_size e) (Nat.lt_irrefl _)
  · exact hb q

theorem za_new {n l1 l2 : Addr} (h1 : l1 < n) (h2 : l2 < n) : ZA (n + 4) (n + 2) (n + 3) n (n + 1) l1 l2 :=
  let D := zipApart_new h1 h2
  ⟨D.TIz, D.TOz, D.i1z, D.i2z, D.TITO, D.TIi1, D.TIi2, D.TOi1, D.TOi2, D.i12, D.l1z, D.l1TO, D.l1i1, D.l1i2, D.l2z, D.l2TO, D.l2i1, D.l2i2⟩

theorem zip_lists {l1 l2 : Addr} {Q : Value → Shared → Prop} (hl1 : s.heap.IsList l1 xs) (hl2 : s.heap.IsList l2 ys)
    (h : ∀ h', IsZ h' (s.heap.objs.size + 4) (s.heap.objs.size + 2) (s.heap.objs.size + 3) .none (.bool false) → Zs h' (s.heap.objs.size + 4) (s.heap.objs.size + 2) (s.heap.objs.size + 3) s.heap.objs.size (s.heap.objs.size + 1) l1 l2 xs ys 0 →
      (∀ c o, s.heap.get? c = some o → h'.get? c = some o) → Q (.ref (s.heap.objs.size + 4)) { s with heap := h' }) :
    wpAny (model prog w) A (call (.type "zip") [.ref l1, .ref l2]) Q E s :=
  call_zip_2 hl1 hl2 fun h' g1 g2 g3 g4 g5 g6 g7 => h h' g1 ⟨g2, .list g4 (hl1.at fun o e => g7 _ o e), .list g5 (hl2.at fun o e => g7 _ o e), ⟨_, g3⟩, .inl ⟨g1, _, _, g3⟩⟩ g7
end
end Mine


set_option autoImplicit false
set_option linter.unusedVariables false
set_option maxRecDepth 100000
namespace Mine
open PySem PyProof.Rows

abbrev zT1 (h : Heap) (l1 : Addr) : Heap := h.push { cls := .type "tuple_iterator", data := .fields #[.ref l1, .int 0 0] }
abbrev zT2 (h : Heap) (l1 l2 : Addr) : Heap := (zT1 h l1).push { cls := .type "tuple_iterator", data := .fields #[.ref l2, .int 0 0] }
abbrev zT3 (h : Heap) (l1 l2 : Addr) : Heap := (zT2 h l1 l2).push { cls := .type "tuple", data := .seq #[.ref h.objs.size, .ref (zT1 h l1).objs.size] }
abbrev zT4 (h : Heap) (l1 l2 : Addr) : Heap := (zT3 h l1 l2).push { cls := .type "tuple", data := .seq #[.none, .none] }
abbrev zT5 (h : Heap) (l1 l2 : Addr) : Heap := (zT4 h l1 l2).push { cls := .type "zip", data := .fields #[.none, .bool false, .bool false, .ref (zT2 h l1 l2).objs.size, .ref (zT3 h l1 l2).objs.size] }

theorem meets_zipT (l1 l2 : Addr) (xs ys : Array Value) :
    Meets (Builtin.«zip.__new__» ⟨[.type "zip", .ref l1, .ref l2], []⟩) (fun _ R s => s.heap.IsTuple l1 xs ∧ s.heap.IsTuple l2 ys ∧ R (.ok (.ret (.ref (zT4 s.heap l1 l2).objs.size))) { s with heap := zT5 s.heap l1 l2 }) :=
  .of_wp fun prog w A R s h => by
    obtain ⟨hp, g, d, tk, os⟩ := s; obtain ⟨hl1, hl2, h⟩ := h
    have hsub := sub_zip
    have hL1 : Heap.IsTuple (Shared.heap ⟨hp, g, d, tk, os⟩) l1 xs := hl1
    have hL2 : Heap.IsTuple (Shared.heap ⟨hp.push { cls := .type "tuple_iterator", data := .fields #[.ref l1, .int 0 0] }, g, d, tk, os⟩) l2 ys := Heap.IsTuple.push hl2 _
    wp_walk using wpAny_pyIter_tuple hL1, wpAny_pyIter_tuple hL2
    exact ⟨_, rfl, h⟩

section
variable {prog : Program} {w : World} {A : Around} {E : Value → Shared → Prop} {s : Shared} {xs ys : Array Value}
theorem zip_tuples {l1 l2 : Addr} {Q : Value → Shared → Prop} (hl1 : s.heap.IsTuple l1 xs) (hl2 : s.heap.IsTuple l2 ys)
    (h : ∀ h', IsZ h' (s.heap.objs.size + 4) (s.heap.objs.size + 2) (s.heap.objs.size + 3) .none (.bool false) → Zs h' (s.heap.objs.size + 4) (s.heap.objs.size + 2) (s.heap.objs.size + 3) s.heap.objs.size (s.heap.objs.size + 1) l1 l2 xs ys 0 →
      (∀ c o, s.heap.get? c = some o → h'.get? c = some o) → Q (.ref (s.heap.objs.size + 4)) { s with heap := h' }) :
    wpAny (model prog w) A (call (.type "zip") [.ref l1, .ref l2]) Q E s := by
  refine callType_new F.called_zip (by decide) (F.typeCall_zip_2 _ _) (F.newCall_zip_2 _ _) (fun obj => F.args_object_init_3 obj _ _) F.entry_zip_new (meets_zipT l1 l2 xs ys) ⟨hl1, hl2, ?_⟩
  have z1 : (zT1 s.heap l1).objs.size = s.heap.objs.size + 1 := Heap.size_push ..
  have z2 : (zT2 s.heap l1 l2).objs.size = s.heap.objs.size + 2 := by rw [Heap.size_push, z1]
  have z3 : (zT3 s.heap l1 l2).objs.size = s.heap.objs.size + 3 := by rw [Heap.size_push, z2]
  have z4 : (zT4 s.heap l1 l2).objs.size = s.heap.objs.size + 4 := by rw [Heap.size_push, z3]
  have g5 : (zT5 s.heap l1 l2).get? (zT4 s.heap l1 l2).objs.size = some _ := Heap.get?_push_size _ rfl
  have g4 : (zT5 s.heap l1 l2).get? (zT3 s.heap l1 l2).objs.size = some _ := Heap.get?_push_of_some _ (Heap.get?_push_size _ rfl)
  have g3 : (zT5 s.heap l1 l2).get? (zT2 s.heap l1 l2).objs.size = some _ := Heap.get?_push_of_some _ (Heap.get?_push_of_some _ (Heap.get?_push_size _ rfl))
  have g2 : (zT5 s.heap l1 l2).get? (zT1 s.heap l1).objs.size = some _ := Heap.get?_push_of_some _ (Heap.get?_push_of_some _ (Heap.get?_push_of_some _ (Heap.get?_push_size _ rfl)))
  have g1 : (zT5 s.heap l1 l2).get? s.heap.objs.size = some _ := Heap.get?_push_of_some _ (Heap.get?_push_of_some _ (Heap.get?_push_of_some _ (Heap.get?_push_of_some _ (Heap.get?_push_size _ rfl))))
  have kp : ∀ c o, s.heap.get? c = some o → (zT5 s.heap l1 l2).get? c = some o := fun c o x => Heap.get?_push_of_some _ (Heap.get?_push_of_some _ (Heap.get?_push_of_some _ (Heap.get?_push_of_some _ (Heap.get?_push_of_some _ x))))
  show _ ∧ _
  rw [z2, z3, z4] at g5
  rw [z1, z2] at g3
  rw [z3] at g4
  rw [z1] at g2
  rw [z4]
  refine ⟨⟨_, g5, rfl⟩, h _ g5 ⟨g3, .tup ⟨_, g1, rfl, rfl⟩ (let ⟨o, e, r⟩ := hl1; ⟨o, kp _ _ e, r⟩), .tup ⟨_, g2, rfl, rfl⟩ (let ⟨o, e, r⟩ := hl2; ⟨o, kp _ _ e, r⟩), ⟨_, g4⟩, .inl ⟨g5, _, _, g4⟩⟩ kp⟩
end
end Mine


set_option autoImplicit false
set_option linter.unusedVariables false
set_option maxRecDepth 100000
namespace Mine
open PySem PyProof.Rows
section
variable {cx : Cx} {A : Around} {w w' : Wl} {H H' : AHeap}
theorem vrs_of_get : ∀ {L : List AV} {M : List Value}, L.length = M.length → (∀ (j : Nat) a, L[j]? = some a → ∃ v, M[j]? = some v ∧ VR cx w a v) → VRs cx w L M
  | [], [], _, _ => .nil
  | [], _ :: _, h, _ => by cases h
  | _ :: _, [], h, _ => by cases h
  | a :: L, v :: M, hl, hg => by
    obtain ⟨v', e, r⟩ := hg 0 a rfl
    cases e
    exact .cons r (vrs_of_get (Nat.succ.inj hl) fun j b hb => hg (j + 1) b hb)
/-- the tuples that a zip has made -/
theorem zip_vrs {xs ys : List AV} {vs ws acc : Array Value} {no : List Addr} (r1 : VRs cx w' xs vs.toList) (r2 : VRs cx w' ys ws.toList) (hlen : xs.length = ys.length)
    (hT : ∀ T, (∀ b, b ∈ no → b < T) → Fz w' T) (p : Pr w'.s.heap no vs ws acc vs.size) : VRs cx w' (List.zipWith (fun x y => .tup [x, y]) xs ys) acc.toList := by
  refine vrs_of_get (by rw [List.length_zipWith, ← hlen, Nat.min_self]; exact (r1.size.symm.trans p.size.symm : xs.length = acc.size)) fun j a ha => ?_
  rw [List.getElem?_zipWith] at ha
  cases hx : xs[j]? with
  | none => rw [hx] at ha; cases ha
  | some x =>
    cases hy : ys[j]? with
    | none => rw [hx, hy] at ha; cases ha
    | some y =>
      rw [hx, hy] at ha
      cases ha
      obtain ⟨v, e1, q1⟩ := r1.get hx
      obtain ⟨u, e2, q2⟩ := r2.get hy
      obtain ⟨T, x', y', g1, g2, g3, g4, g5⟩ := p.at_ j (by rw [r1.size]; exact (List.getElem?_eq_some_iff.mp hx).1)
      rw [Array.getElem?_toList] at e1 e2
      rw [e1] at g2; cases g2
      rw [e2] at g3; cases g3
      exact ⟨.ref T, by rw [Array.getElem?_toList]; exact g1, .tup (n := 0) g4 (hT T g5) (show 2 ≤ LIM by decide) (.cons q1 (.cons q2 .nil))⟩
/-- a list or a tuple -/
def KSq (cx : Cx) (w : Wl) (a : AV) (v : Value) (xs : List AV) : Prop := ∃ l vs n, v = .ref l ∧ VRs cx w xs vs.toList ∧ xs.length ≤ LIM ∧ ((isTp a = true ∧ IsT w.s.heap l vs n) ∨ (isTp a = false ∧ IsL w.s.heap l vs n))
theorem seq_kind {a : AV} {v : Value} (ra : VR cx w a v) : Rd cx w (seqOf a) (KSq cx w a v) := by
  cases a with
  | tup ys => exact ra.tupE fun l vs n h1 _ h3 h4 => .pure ⟨l, vs, n, rfl, h4, h3, .inl ⟨rfl, h1⟩⟩
  | lst ys => exact ra.lstE fun l vs n h1 _ h3 h4 => .pure ⟨l, vs, n, rfl, h4, h3, .inr ⟨rfl, h1⟩⟩
  | loc i => exact ra.locE fun l h => (listAt_rd h).mono fun xs ⟨vs, n, h1, h3, h4⟩ => ⟨l, vs, n, rfl, h4, h3, .inr ⟨rfl, h1⟩⟩
  | _ => exact .stuck
theorem zip_ok (hh : A.handled = none) : ZipOK cx A := fun w a b v u mu H r H' ra rb S h => by
  refine bind_inv h (fun xs H1 h1 h2 => ?_) fun x h1 _ => by obtain ⟨_, c, e, _⟩ := seq_kind ra H S _ _ h1; cases e
  obtain ⟨e1, c, e2, l1, vs, n1, e3, r1, z1, k1⟩ := seq_kind ra H S _ _ h1
  cases e2
  subst e1; subst e3
  refine bind_inv h2 (fun ys H2 h3 h4 => ?_) fun x h1 _ => by obtain ⟨_, c, e, _⟩ := seq_kind rb H1 S _ _ h1; cases e
  obtain ⟨e1, c, e2, l2, ws, n2, e3, r2, z2, k2⟩ := seq_kind rb H1 S _ _ h3
  cases e2
  subst e1; subst e3
  split at h4
  case isFalse => cases h4
  case isTrue hc =>
    rw [Bool.and_eq_true, beq_iff_eq, decide_eq_true_iff] at hc
    obtain ⟨hk, hlen⟩ := hc
    have fin : ∀ h', IsZ h' (w.s.heap.objs.size + 4) (w.s.heap.objs.size + 2) (w.s.heap.objs.size + 3) .none (.bool false) → Zs h' (w.s.heap.objs.size + 4) (w.s.heap.objs.size + 2) (w.s.heap.objs.size + 3) w.s.heap.objs.size (w.s.heap.objs.size + 1) l1 l2 vs ws 0 →
        (∀ c o, w.s.heap.get? c = some o → h'.get? c = some o) → l1 < w.s.heap.objs.size → l2 < w.s.heap.objs.size → wpAny (model cx.prog cx.w) A (PySem.call (.type "list") [.ref (w.s.heap.objs.size + 4)]) (Post cx No w (VR cx) r H') (PostX cx No w r H') { w.s with heap := h' } := by
      intro h' hz Z kp q1 q2
      refine list_zip hh (za_new q1 q2) hz Z (by rw [r1.size, r2.size, hlen]) (by rw [r1.size]; exact Nat.le_trans z1 LIM_le) fun h'' acc c' hk2 hL hP => ?_
      have hkk : ∀ b o, w.s.heap.get? b = some o → h''.get? b = some o := fun b o e => hk2 b o (fun hm => by
        have hb := Heap.lt_size e
        simp only [List.mem_cons, List.not_mem_nil, or_false] at hm
        rcases hm with q | q | q | q
        · exact absurd (q ▸ hb) (Nat.not_lt.mpr (Nat.le_add_right _ _))
        · exact absurd (q ▸ hb) (Nat.not_lt.mpr (Nat.le_add_right _ _))
        · exact absurd (q ▸ hb) (Nat.lt_irrefl _)
        · exact absurd (q ▸ hb) (Nat.not_lt.mpr (Nat.le_add_right _ _))) (kp b o e)
      have hlt : w.s.heap.objs.size + 4 < h'.objs.size := Heap.lt_size hz
      have hD : w.s.heap.get? h'.objs.size = none := Heap.get?_none_of_le (Nat.le_of_lt (Nat.lt_of_le_of_lt (Nat.le_add_right _ _) hlt))
      have hT : ∀ T, (∀ b, b ∈ [h'.objs.size, w.s.heap.objs.size + 4, w.s.heap.objs.size + 3, w.s.heap.objs.size, w.s.heap.objs.size + 1] → b < T) → Fz w T ∧ T ≠ h'.objs.size := fun T h =>
        ⟨S.new (Heap.get?_none_of_le (Nat.le_of_lt (h _ (List.mem_cons_of_mem _ (List.mem_cons_of_mem _ (List.mem_cons_of_mem _ List.mem_cons_self)))))), Nat.ne_of_gt (h _ List.mem_cons_self)⟩
      have l := Le.keeps (p := No) (w := w) (s' := { w.s with heap := h'' }) hkk
      unfold newL at h4
      split at h4
      case isFalse => cases h4
      case isTrue hz3 =>
        cases mu with
        | false =>
          obtain ⟨rfl, rfl⟩ := pure_some h4
          exact ⟨w.ι, w.π, _, rfl, l, S.keeps (t := w.s.toks) hkk, .lst (n := c') hL (S.new hD) hz3 (zip_vrs (r1.mono l) (r2.mono l) hlen (fun T h => (hT T h).1) hP)⟩
        | true =>
          cases h4
          obtain ⟨e, S2⟩ := S.alloc (t := w.s.toks) (h' := h'') (a := h'.objs.size) (o := .list (List.zipWith (fun x y => .tup [x, y]) xs ys)) hkk hD (fun e => ⟨acc, c', hL, hz3, zip_vrs (r1.mono e) (r2.mono e) hlen (fun T h => ⟨fun hm => (List.mem_append.mp hm).elim (hT T h).1.1 fun q => (hT T h).2 (List.mem_singleton.mp q), (hT T h).1.2⟩) hP⟩)
          exact ⟨_, _, _, rfl, e, S2, .loc (by rw [← S.len]; exact List.getElem?_concat_length)⟩
    rcases k1 with ⟨t1, k1⟩ | ⟨t1, k1⟩
    · rcases k2 with ⟨t2, k2⟩ | ⟨t2, k2⟩
      · exact zip_tuples ⟨_, k1, rfl, _, rfl⟩ ⟨_, k2, rfl, _, rfl⟩ fun h' hz Z kp => fin h' hz Z kp (Heap.lt_size k1) (Heap.lt_size k2)
      · rw [t1, t2] at hk; cases hk
    · rcases k2 with ⟨t2, k2⟩ | ⟨t2, k2⟩
      · rw [t1, t2] at hk; cases hk
      · exact zip_lists k1.isList k2.isList fun h' hz Z kp => fin h' hz Z kp (Heap.lt_size k1) (Heap.lt_size k2)
end
end Mine


set_option autoImplicit false
set_option linter.unusedVariables false
namespace Mine
open PySem PyProof.Rows


noncomputable def mkFn (a : Arguments) (b : List Stmt) (sc : Scope) : Fn :=
  let ps := a.args.map (·.arg)
  ⟨ps, ps ++ (sc.names.filterMap fun (x, k) => if (k == .local || k == .cell) && !ps.contains x then some x else none), b, sc⟩
noncomputable def fnSt (f : Str) : Stmt → Option Fn
  | .FunctionDef n a b [] _ _ sc _ _ _ => if n = f then some (mkFn a b sc) else none
  | _ => none
noncomputable def fnOf (p : Program) (f : Str) : Option Fn := p.main.body.findSome? (fnSt f)
noncomputable def recSt : Stmt → Option DefRec
  | .FunctionDef n a b [] _ _ sc _ _ pos => some ⟨n, a, b, sc, pos⟩
  | _ => none
noncomputable def recs (p : Program) : List DefRec := p.main.body.filterMap recSt
noncomputable def defChk (d : DefRec) : Bool := fnChk (mkFn d.params d.body d.scope) && d.name != ("__debug__" : Str) && d.params.posonlyargs.isEmpty && d.params.vararg.isNone && d.params.kwonlyargs.isEmpty && d.params.kwarg.isNone

/-- the block at a path: the statement's number, then body (0) or orelse (1) -/
noncomputable def subB : Stmt → Nat → List Stmt
  | .If _ b _ _, 0 => b
  | .If _ _ o _, _ => o
  | .For _ _ b _ _, _ => b
  | .While _ b _ _, _ => b
  | _, _ => []
noncomputable def bAt : List Stmt → List (Nat × Nat) → List Stmt
  | b, [] => b
  | b, (i, k) :: r => match b[i]? with
    | some s => bAt (subB s k) r
    | none => []

noncomputable def eachM : List (M AV) → M (List AV)
  | [] => pure []
  | m :: r => do
    let v ← m
    let vs ← eachM r
    pure (v :: vs)
noncomputable def lookG : List (Str × AV) → Str → Option AV
  | [], _ => none
  | p :: r, x => if x = p.1 then some p.2 else lookG r x
noncomputable def AllG (Q : Str → AV → Prop) : List (Str × AV) → Prop
  | [] => True
  | p :: r => Q p.1 p.2 ∧ AllG Q r
theorem AllG.look {Q : Str → AV → Prop} : ∀ {l : List (Str × AV)}, AllG Q l → ∀ {x : Str} {a : AV}, lookG l x = some a → Q x a
  | [], _, _, _, e => nomatch e
  | p :: r, h, x, a, e => by
    have e : (if x = p.1 then some p.2 else lookG r x) = some a := e
    by_cases q : x = p.1
    · rw [if_pos q] at e
      cases e; rw [q]; exact h.1
    · rw [if_neg q] at e
      exact h.2.look e
noncomputable def fnD (P : Pg) (f : Str) : Fn := (P.fn f).getD ⟨[], [], [], default⟩
/-- what is left of a block of f, from its i-th statement on, with fuel n -/
noncomputable def tl (P : Pg) (cf : Str → List AV → M AV) (f : Str) (path : List (Nat × Nat)) (i n : Nat) (σ : Loc) : M Res := denB P cf (fnD P f).scope (fnD P f).names n ((bAt (fnD P f).body path).drop i) σ
/-- a turn of the for that stands at path, i -/
noncomputable def forB (P : Pg) (cf : Str → List AV → M AV) (f : Str) (path : List (Nat × Nat)) (i n : Nat) (v : AV) (σ : Loc) : M Res := match (bAt (fnD P f).body path)[i]? with
  | some (.For t _ b _ _) => do
    let σ' ← assignTo (fun σ e => den P cf n (fnD P f).scope (fnD P f).names σ e) (fnD P f).scope (fnD P f).names v σ t
    denB P cf (fnD P f).scope (fnD P f).names n b σ'
  | _ => stuck
noncomputable def whileT (P : Pg) (cf : Str → List AV → M AV) (f : Str) (path : List (Nat × Nat)) (i n : Nat) (σ : Loc) : M Bool := match (bAt (fnD P f).body path)[i]? with
  | some (.While t _ _ _) => denT (den P cf n (fnD P f).scope (fnD P f).names σ) n t
  | _ => stuck
noncomputable def whileB (P : Pg) (cf : Str → List AV → M AV) (f : Str) (path : List (Nat × Nat)) (i n : Nat) (σ : Loc) : M Res := match (bAt (fnD P f).body path)[i]? with
  | some (.While _ b _ _) => denB P cf (fnD P f).scope (fnD P f).names n b σ
  | _ => stuck

theorem b_some {α β : Type} {m : M α} {f : α → M β} {H H1 : AHeap} {a : α} (h1 : m H = some (.ok a, H1)) : (m >>= f) H = f a H1 := by
  show (Option.bind (m H) _) = _
  rw [h1]; rfl
theorem bind_of {α β : Type} {m : M α} {f : α → M β} {H H1 : AHeap} {a : α} {r : Except Str β × AHeap} (h1 : m H = some (.ok a, H1)) (h2 : f a H1 = some r) : (m >>= f) H = some r := (b_some h1).trans h2

theorem callR {P : Pg} {n : Nat} {f : Str} {as : List AV} {σ : Loc} (hf : P.fn f = some (fnD P f)) (hl : as.length = (fnD P f).params.length) (hσ : as.map some ++ List.replicate ((fnD P f).names.length - as.length) none = σ) {a : AV} {H H' : AHeap}
    (h : tl P (callP P n) f [] 0 40 σ H = some (.ok (.ret a), H')) : callP P (n + 1) f as H = some (.ok a, H') := by
  unfold callP
  rw [hf]
  simp only [hl, if_true]
  rw [hl] at hσ
  rw [hσ]
  exact b_some h
theorem callN {P : Pg} {n : Nat} {f : Str} {as : List AV} {σ : Loc} (hf : P.fn f = some (fnD P f)) (hl : as.length = (fnD P f).params.length) (hσ : as.map some ++ List.replicate ((fnD P f).names.length - as.length) none = σ) {σ' : Loc} {H H' : AHeap}
    (h : tl P (callP P n) f [] 0 40 σ H = some (.ok (.next σ'), H')) : callP P (n + 1) f as H = some (.ok .none, H') := by
  unfold callP
  rw [hf]
  simp only [hl, if_true]
  rw [hl] at hσ
  rw [hσ]
  exact b_some h

theorem callQ {P : Pg} {n : Nat} {f : Str} {as : List AV} {σ : Loc} (hf : P.fn f = some (fnD P f)) (hl : as.length = (fnD P f).params.length) (hσ : as.map some ++ List.replicate ((fnD P f).names.length - as.length) none = σ) {a : AV}
    (h : tl P (callP P n) f [] 0 40 σ = pure (.ret a)) : callP P (n + 1) f as = pure a := by
  funext H
  exact callR hf hl hσ (by rw [h]; rfl)

theorem e_each0 : eachM [] = pure [] := rfl
theorem e_eachp {a : AV} {r : List (M AV)} : eachM (pure a :: r) = (do let vs ← eachM r; pure (a :: vs)) := rfl
theorem e_go_next {m : Loc → M Res} {σ : Loc} : goOn m (.next σ) = m σ := rfl
theorem e_go_ret {m : Loc → M Res} {a : AV} : goOn m (.ret a) = pure (.ret a) := rfl
theorem e_truth {b : Bool} : truth (.bool b) = pure b := rfl
theorem e_lt {i j : Int} : pCmp .Lt (.int i) (.int j) = pure (decide (i < j)) := rfl
theorem e_le {i j : Int} : pCmp .LtE (.int i) (.int j) = pure (decide (i ≤ j)) := rfl
theorem e_gt {i j : Int} : pCmp .Gt (.int i) (.int j) = pure (decide (j < i)) := rfl
theorem e_eqi {i j : Int} : pCmp .Eq (.int i) (.int j) = pure (decide (i = j)) := by
  funext H
  show some (Except.ok (i == j), H) = some (Except.ok (decide (i = j)), H)
  have : (i == j) = decide (i = j) := by by_cases h : i = j <;> simp [h]
  rw [this]
theorem e_len_lst {mu : Bool} {xs : List AV} : pBI mu .len [.lst xs] = pure (.int xs.length) := rfl
theorem e_len_tup {mu : Bool} {xs : List AV} : pBI mu .len [.tup xs] = pure (.int xs.length) := rfl
theorem e_item_lst {xs : List AV} {k : Nat} {a : AV} (h : xs[k]? = some a) : pItem (.lst xs) (.int k) = pure a := by
  have hk : k < xs.length := (List.getElem?_eq_some_iff.mp h).1
  have hi : idx (k : Int) xs.length = some k := by
    unfold idx
    rw [if_pos (by omega), if_pos (by omega)]; simp
  funext H
  show (ofOpt ((idx (k : Int) xs.length).bind fun j => xs[j]?) : M AV) H = _
  rw [hi]
  show (ofOpt xs[k]? : M AV) H = _
  rw [h]; rfl
theorem e_item_tup {xs : List AV} {k : Nat} {a : AV} (h : xs[k]? = some a) : pItem (.tup xs) (.int k) = pure a := by
  have hk : k < xs.length := (List.getElem?_eq_some_iff.mp h).1
  have hi : idx (k : Int) xs.length = some k := by
    unfold idx
    rw [if_pos (by omega), if_pos (by omega)]; simp
  funext H
  show (ofOpt ((idx (k : Int) xs.length).bind fun j => xs[j]?) : M AV) H = _
  rw [hi]
  show (ofOpt xs[k]? : M AV) H = _
  rw [h]; rfl
theorem e_newL {xs : List AV} (h : xs.length ≤ LIM) : newL false xs = pure (.lst xs) := by
  funext H; unfold newL; rw [if_pos h]
theorem m_add {mu : Bool} {i j : Int} : pBin mu .Add (.int i) (.int j) = pure (.int (i + j)) := rfl
theorem m_sub {mu : Bool} {i j : Int} : pBin mu .Sub (.int i) (.int j) = pure (.int (i - j)) := rfl
theorem m_mulL {mu : Bool} {i j : Int} (h : i.natAbs < 2 ^ 64) : pBin mu .Mult (.int i) (.int j) = pure (.int (i * j)) := if_pos (.inr h)
theorem m_mulR {mu : Bool} {i j : Int} (h : j.natAbs < 2 ^ 64) : pBin mu .Mult (.int i) (.int j) = pure (.int (i * j)) := if_pos (.inl h)
theorem m_mod {mu : Bool} {i j : Int} (h : j ≠ 0) : pBin mu .Mod (.int i) (.int j) = pure (.int (i.fmod j)) := if_neg h
theorem m_div {mu : Bool} {i j : Int} (h : j ≠ 0 ∧ j.natAbs < 1073741824) : pBin mu .FloorDiv (.int i) (.int j) = pure (.int (i.fdiv j)) := if_neg (by omega)
theorem fmod_lt (a : Int) {b : Int} (h : 0 < b) : 0 ≤ a.fmod b ∧ a.fmod b < b := ⟨Int.fmod_nonneg_of_pos a h, Int.fmod_lt_of_pos a h⟩
end Mine


set_option autoImplicit false
set_option linter.unusedVariables false
namespace Mine
open PySem PyProof.Rows PySem.SeqAt PySem.W


theorem items_ints : ∀ {xs : List WData} {R : WRecords}, WShape.hasItems R xs .int = true → ∃ ns : List Int, xs = ns.map .int
  | [], _, _ => ⟨[], rfl⟩
  | d :: r, R, h => by
    have h' : WShape.has R d .int = true ∧ WShape.hasItems R r .int = true := by simpa [WShape.hasItems] using h
    obtain ⟨i, rfl⟩ := hasW_int h'.1
    obtain ⟨ns, rfl⟩ := items_ints h'.2
    exact ⟨i :: ns, rfl⟩

theorem law_args {l : OpenLaw} {args : List WData} (hm : l.most = some 63) (hb : l.bound = none) (hpre : l.row.toRowW.claim.pre args = true) : ∃ ns : List Int, ns.length ≤ 63 ∧ args = [.list (ns.map .int)] := by
  obtain ⟨h1, h2⟩ := pre_splitW hpre
  have h1' : WShape.hasAll [] args [.list .int] = true := h1
  obtain ⟨d, r, rfl, hd, hr⟩ := hasAllW_cons h1'
  have := hasAllW_nil hr
  subst this
  obtain ⟨xs, rfl, hx⟩ := hasW_list hd
  obtain ⟨ns, rfl⟩ := items_ints hx
  refine ⟨ns, ?_, rfl⟩
  have h3 : l.pre.holds [] { args := [.list (ns.map .int)] } = true := h2
  unfold OpenLaw.pre at h3
  rw [hm, hb] at h3
  have h4 := (holds_andW h3).1
  simp [WTm.holds, WTm.value] at h4
  have h5 : less? (WData.int 63) (WData.int ns.length) = some (decide ((63 : Int) < ns.length)) := by simp [less?, Num.less?]
  rw [h5] at h4
  by_cases hc : (63 : Int) < ns.length
  · rw [decide_eq_true hc] at h4; cases h4
  · omega

theorem ints_read {R : WRecords} {cl : Str → Option Addr} {h : Heap} {cx : Cx} {w : Wl} : ∀ {ns : List Int} {vs : List Value} {as : List Addr}, ReadsAllW R cl h vs (ns.map .int) as → VRs cx w (ns.map .int) vs
  | [], vs, as, r => by cases r; exact .nil
  | n :: ns, vs, as, r => by
    cases r with
    | cons r1 r2 => cases r1; exact .cons .int (ints_read r2)

/-- the built-in names that are used -/
noncomputable def usedNames : List Str := ["len", "list", "tuple", "dict", "int", "range", "min", "max", "any", "sorted", "isinstance", "bool", "str", "zip", "enumerate"]
noncomputable def freeOk (q : Program) (loose : List Str) : Bool := usedNames.all fun x => !startupNames.contains x && !(looseW q loose).contains x && !((recsOf q).map (·.name)).contains x && !((litsOf q).map (·.1)).contains x && !((clssOf q (looseW q loose)).map (·.name)).contains x

theorem free_of {q : Program} {loose : List Str} {mean : ExcName → Option Value} {mg mb : Str → Option Value} {h : Heap} (T : Top q (looseW q loose) mean mg mb h) (hf : freeOk q loose = true) {x : Str} (hx : x ∈ usedNames) : mg x = none := by
  have := List.all_eq_true.mp hf x hx
  simp only [Bool.and_eq_true, Bool.not_eq_true', List.contains_eq_mem, decide_eq_false_iff_not] at this
  obtain ⟨⟨⟨⟨a1, a2⟩, a3⟩, a4⟩, a5⟩ := this
  exact T.free x a1 a2 a3 a4 a5

theorem boot_bi : ∀ x b, biOf x = some b → x ∈ usedNames ∧ bootBuiltins x = some (biV b) ∧ x ≠ "__name__" := by
  intro x b h
  unfold biOf at h
  repeat' (split at h)
  all_goals first | (cases h; done) | skip
  all_goals (cases h; subst_vars; exact ⟨by decide, by decide +kernel, by decide⟩)
theorem boot_ty : ∀ x t, tyOf x = some t → x ∈ usedNames ∧ bootBuiltins x = some (.type (tyStr t)) ∧ x ≠ "__name__" := by
  intro x b h
  unfold tyOf at h
  repeat' (split at h)
  all_goals first | (cases h; done) | skip
  all_goals (cases h; subst_vars; exact ⟨by decide, by decide +kernel, by decide⟩)

structure DefIs (q : Program) (f : Str) (fn : Fn) : Prop where
  chk : fnChk fn = true
  nd : (f == ("__debug__" : Str)) = false
  dfn : ∃ d ∈ recsOf q, d.name = f ∧ d.body = fn.body ∧ d.scope = fn.scope ∧ d.params.posonlyargs = [] ∧ d.params.args.map (·.arg) = fn.params ∧ d.params.vararg = none ∧ d.params.kwonlyargs = [] ∧ d.params.kwarg = none

theorem walk_law {l : OpenLaw} {q : Program} {loose : List Str} {XP : (Str → Option Value) → Heap → Prop} {YP : World → Heap → Prop} {d : DefRec} {kwd : List (Str × Expr)} {P : Pg} {N : Nat}
    (hm : l.most = some 63) (hbd : l.bound = none) (hfree : freeOk q loose = true) (hfn : ∀ f fn, P.fn f = some fn → DefIs q f fn) (hdn : d.name = ("law" : Str)) (hN : N ≤ 200)
    (hgl : ∀ (w : World) (mean : ExcName → Option Value) (mg mb : Str → Option Value) (h : Heap) (os : OsState), XP mg h → YP w h → Top q (looseW q loose) mean mg mb h → ∀ x a, P.glob x = some a → ∃ v, mg x = some v ∧ ∀ w' H, St ⟨l.prog, w, h, os, mg, mb⟩ w' H → VR ⟨l.prog, w, h, os, mg, mb⟩ w' a v)
    (hrun : ∀ ns : List Int, ns.length ≤ 63 → ∃ H', callP P N ("law" : Str) [.lst (ns.map .int)] [] = some (.ok (.bool true), H')) :
    WalkO q loose XP YP l.row.toRowW d kwd fun f vs => PySem.call f vs := by
  intro w s₀ s₁ mg mb G Y fa o pm cd doc dV kV ho hod hcd hD hmg hgens args vals as hpre hlay hrd hwl hlo
  obtain ⟨ns, hlen, rfl⟩ := law_args hm hbd hpre
  have T := G.T
  let cx : Cx := ⟨l.prog, w, s₁.heap, s₁.os, mg, mb⟩
  have hG : Good cx P := by
    refine ⟨T.g, T.b, T.nolimit, fun x a hx => hgl w _ mg mb s₁.heap s₁.os G.X Y T x a hx, ?_, ?_, ?_, ?_, ?_⟩
    · intro x b hx
      obtain ⟨h1, h2, h3⟩ := boot_bi x b hx
      exact ⟨free_of T hfree h1, (T.builtins x h3).trans h2⟩
    · exact ⟨free_of T hfree (by decide), (T.builtins _ (by decide)).trans (by decide +kernel)⟩
    · intro x t hx
      obtain ⟨h1, h2, h3⟩ := boot_ty x t hx
      exact ⟨free_of T hfree h1, (T.builtins x h3).trans h2⟩
    · exact ⟨free_of T hfree (by decide), (T.builtins _ (by decide)).trans (by decide +kernel)⟩
    · exact ⟨free_of T hfree (by decide), (T.builtins _ (by decide)).trans (by decide +kernel)⟩
  have hF : ∀ f fn, P.fn f = some fn → FnOK cx f fn := fun f fn hf => by
    obtain ⟨c1, c2, d', hd', rfl, e1, e2, e3, e4, e5, e6, e7⟩ := hfn f fn hf
    obtain ⟨a', o', pm', cd', doc', g1, g2, g3, g4⟩ := T.fn d' hd'
    refine ⟨c2, c1, a', o', pm', cd', doc', d'.params, g1, g2, by rw [← e1, ← e2]; exact g3, g4, fun vs hvs => ?_⟩
    have hnd : fn.params.Nodup := by
      unfold fnChk at c1
      simp only [Bool.and_eq_true, decide_eq_true_eq] at c1
      exact c1.1.1.2
    exact bindArgs_plain e3 e4 e5 e6 e7 hnd hvs
  have hS : St cx ⟨[], [], s₁⟩ [] := ⟨fun _ _ e => ⟨e, List.not_mem_nil, List.not_mem_nil⟩, rfl, List.nodup_nil, fun _ h => (nomatch h), fun _ h => (nomatch h), fun l a o h _ => (nomatch h), hgens, rfl, let ⟨_, ⟨o, _, _, ho, _⟩, _⟩ := T.nodigits; ⟨o, ho⟩⟩
  have hC : CallOK cx callerA P (callP P N) := callP_rf (fun A hh => zip_ok hh) hF hG N callerA rfl (by show 4 + 3 * N + 100 < cLine; have : cLine = 9900 := rfl; omega) (by show 1 + claimMargin + N < recursionLimit; have : claimMargin = 300 := rfl; have : recursionLimit = 1000 := rfl; omega)
  obtain ⟨H', hr⟩ := hrun ns hlen
  have hsome : (P.fn ("law" : Str)).isSome = true := by
    cases N with
    | zero => cases hr
    | succ n =>
      unfold callP at hr
      cases hf : P.fn ("law" : Str) with
      | none => rw [hf] at hr; cases hr
      | some fn => rfl
  obtain ⟨_, fa', o', fd', r1, r2, r3, r4⟩ := hC _ hsome
  rw [hdn] at hmg
  have hfa : fa' = fa := by
    have : some (Value.ref fa') = some (.ref fa) := r1.symm.trans hmg
    injection this with this
    injection this
  subst hfa
  cases hrd with
  | cons rd1 rd2 =>
    cases rd2
    cases hwl with
    | cons w1 w2 =>
      cases w1 with
      | @list a vs xs hga hwa =>
        have hv : VRs cx ⟨[], [], s₁⟩ [.lst (ns.map .int)] [.ref a] := by
          refine .cons (.lst (n := 0) hga ⟨List.not_mem_nil, List.not_mem_nil⟩ (by rw [List.length_map]; exact Nat.le_trans hlen (by decide)) ?_) .nil
          cases rd1 with
          | list q1 q2 q3 q4 =>
            rw [hga] at q1
            cases q1
            cases q3
            exact ints_read q4
        refine wpAny_mono (r4 _ _ [.ref a] hv [] hS _ _ hr) (fun v s' ⟨ι', π', c, e, l, S', rv⟩ => ?_) fun _ _ z => z.no
        cases e
        rw [show v = .bool true from rv]
        refine GoodW.toG ⟨.inl ⟨_, .bool true, [], rfl, fun _ => rfl, .bool true, ?_, fun _ => ⟨List.nodup_nil, fun _ h => (nomatch h)⟩⟩, fun b o e => (S'.base b o e).1, S'.os, S'.gens⟩
        exact postW_of (X := true) rfl (by show WTm.value [] (.eq .res (.lit (.bool true))) _ = _; simp [WTm.value, same_self]) rfl
end Mine


set_option autoImplicit false
set_option linter.unusedVariables false
namespace Mine
open PySem PyProof.Rows PySem.W

theorem defs_ok {p q : Program} (hr : recsOf q = recs p) (hc : (recs p).all defChk = true) : ∀ f fn, fnOf p f = some fn → DefIs q f fn := by
  intro f fn h
  unfold fnOf at h
  obtain ⟨st, hst, h1⟩ := List.exists_of_findSome?_eq_some h
  unfold fnSt at h1
  split at h1
  · rename_i n a b x1 x2 sc x3 x4 pos
    split at h1
    · rename_i hn
      subst hn
      cases h1
      have hd : (⟨n, a, b, sc, pos⟩ : DefRec) ∈ recs p := List.mem_filterMap.mpr ⟨_, hst, rfl⟩
      have hk := List.all_eq_true.mp hc _ hd
      unfold defChk at hk
      simp only [Bool.and_eq_true, bne_iff_ne, ne_eq, List.isEmpty_iff, Option.isNone_iff_eq_none] at hk
      obtain ⟨⟨⟨⟨⟨k1, k2⟩, k3⟩, k4⟩, k5⟩, k6⟩ := hk
      exact ⟨k1, beq_eq_false_iff_ne.mpr k2, _, hr ▸ hd, rfl, rfl, rfl, k3, rfl, k4, k5, k6⟩
    · cases h1
  · cases h1

end Mine


set_option autoImplicit false
set_option linter.unusedVariables false
namespace Mine
open PySem PyProof.Rows PySem.W

noncomputable def keepSt : Stmt → Bool
  | .Assign [.Name x _] _ _ => !(x == ("__name__" : Str))
  | _ => true
/-- the text but for the settings of __name__ -/
noncomputable def viewOf (p : Program) : Program := { p with main := { p.main with body := p.main.body.filter keepSt } }
noncomputable def noDef : DefRec × List (Str × Expr) := (⟨"", ⟨[], [], none, [], [], none, []⟩, [], default, default⟩, [])
noncomputable def lawDef (q : Program) : DefRec × List (Str × Expr) := (defOf q "law").getD noDef

/-- the text's own tables: a name, where it stands, and what stands there -/
abbrev Tbl := List (Str × Addr × (Params → Obj))
noncomputable def tblF (D : Tbl) (s : Shared) : List (Option Obj) := D.map fun d => s.heap.get? d.2.1
noncomputable def tblA (D : Tbl) (w : World) : List (Option Obj) := D.map fun d => some (d.2.2 w.params)
noncomputable def tblP (D : Tbl) (w : World) (h : Heap) : Prop := ∀ d ∈ D, h.get? d.2.1 = some (d.2.2 w.params)
noncomputable def isAt (a : Addr) : Option Value → Bool
  | some (.ref b) => Nat.beq b a
  | _ => false
noncomputable def tblX (D : Tbl) (s : Shared) : Bool := D.all fun d => isAt d.2.1 (s.heap.nsMap mainGlobals d.1)
noncomputable def tblXP (D : Tbl) (mg : Str → Option Value) : Prop := ∀ d ∈ D, mg d.1 = some (.ref d.2.1)
theorem isAt_of {a : Addr} {v : Option Value} (h : isAt a v = true) : v = some (.ref a) := by
  unfold isAt at h
  split at h
  · rw [Nat.eq_of_beq_eq_true h]
  · cases h

/-- a law holds: its top ends well, its text is well said, and its calls answer true -/
theorem head_law {l : OpenLaw} {q : Program} {loose : List Str} {D : Tbl} {N n : Nat} {P : Pg} (k : l.wellSaid = true)
    (hl : LeftO l.row.prog q loose (fun s => xlAt q [] s && recOk (RowW.records l.row.toRowW) s && tblX D s) (tblF D) (tblA D) N)
    (hdef : defOf q l.row.name = some (lawDef q)) (hp : l.row.prog.theDef l.row.name = some ((lawDef q).1.params, (lawDef q).1.body, (lawDef q).1.scope)) (hk : kwWritten? (lawDef q).1.params.kwonlyargs (lawDef q).1.params.kw_defaults = some (lawDef q).2)
    (hwr : (!l.row.writes || l.row.records.isEmpty) = true) (ok : (chainsOk q && opensWell l.row.prog && (frees l.row.toRowW && l.row.within.isEmpty)) = true) (hb : l.row.prog.bare) (hw : l.row.toRowW.promised)
    (hm : l.most = some 63) (hbd : l.bound = none) (hfree : freeOk q loose = true) (hfn : ∀ f fn, P.fn f = some fn → DefIs q f fn) (hdn : (lawDef q).1.name = ("law" : Str)) (hN : n ≤ 200)
    (hgl : ∀ (w : World) (mean : ExcName → Option Value) (mg mb : Str → Option Value) (h : Heap) (os : OsState), tblXP D mg → tblP D w h → Top q (looseW q loose) mean mg mb h → ∀ x a, P.glob x = some a → ∃ v, mg x = some v ∧ ∀ w' H, St ⟨l.prog, w, h, os, mg, mb⟩ w' H → VR ⟨l.prog, w, h, os, mg, mb⟩ w' a v)
    (hrun : ∀ ns : List Int, ns.length ≤ 63 → ∃ H', callP P n ("law" : Str) [.lst (ns.map .int)] [] = some (.ok (.bool true), H')) : l.Holds :=
  holds_law k fun said => holds_open (q := q) (loose := loose) (XP := fun mg h => XL q [] mg h ∧ tblXP D mg) (YP := tblP D) (N := N) hl (fun w s e d hd => (List.map_inj_left.mp e) d hd) (fun w h h' y hk d hd => hk _ _ (y d hd))
    (fun s e => ⟨xl_of s (Bool.and_eq_true_iff.mp (Bool.and_eq_true_iff.mp e).1).1, fun d hd => isAt_of (List.all_eq_true.mp (Bool.and_eq_true_iff.mp e).2 d hd)⟩) (fun mg h h' x hk => ⟨XL.keeps mg h h' x.1 hk, x.2⟩) hdef hp hk
    (fun s e => recFacts_of (Bool.and_eq_true_iff.mp (Bool.and_eq_true_iff.mp e).1).2) hwr said ok hb hw (walk_law hm hbd hfree hfn hdn hN (fun w mean mg mb h os x y T => hgl w mean mg mb h os x.2 y T) hrun)

/-- a table of texts by texts -/
noncomputable def dObj (es : List (Str × Tok × Str × Tok)) (n : Nat) (P : Params) : Obj := { cls := .type "dict", data := .dict (es.map fun e => (⟨PyData.keyHash P e.1, .str e.1 e.2.1, .str e.2.2.1 e.2.2.2⟩ : DictEntry)).toArray n }
noncomputable def tObj (es : List (Str × Tok)) (P : Params) : Obj := { cls := .type "tuple", data := .seq (es.map fun e => Value.str e.1 e.2).toArray }
theorem strs_vrs {cx : Cx} {w : Wl} : ∀ es : List (Str × Tok), VRs cx w (es.map fun e => .str e.1) (es.map fun e => Value.str e.1 e.2)
  | [] => .nil
  | e :: r => .cons .str (strs_vrs r)
/-- what stands in the text's top -/
abbrev Gl (cx : Cx) (x : Str) (a : AV) : Prop := ∃ v, cx.mg x = some v ∧ ∀ w H, St cx w H → VR cx w a v
theorem gl_tup {cx : Cx} {D : Tbl} {x : Str} {a : Addr} {es : List (Str × Tok)} (X : tblXP D cx.mg) (Y : tblP D cx.w cx.h₀) (hd : (x, a, tObj es) ∈ D) (hl : decide (es.length < 100) = true) : Gl cx x (.tup (es.map fun e => .str e.1)) :=
  ⟨.ref a, X _ hd, fun w H S => .tup (n := 0) (S.base _ _ (Y _ hd)).1 (S.base _ _ (Y _ hd)).2 (by rw [List.length_map]; exact Nat.le_trans (Nat.le_of_lt (of_decide_eq_true hl)) (by decide)) (strs_vrs es)⟩
theorem gl_int {cx : Cx} {h : Heap} {q : Program} {loose : List Str} {mean : ExcName → Option Value} {x : Str} {i : Int} (T : Top q loose mean cx.mg cx.mb h) (hv : valOf q x = some (.int i)) : Gl cx x (.int i) := by
  obtain ⟨v, h1, h2⟩ := T.const x _ hv
  have h3 := h2 h
  cases h3
  exact ⟨_, h1, fun _ _ _ => .int⟩
theorem pairs_str {prog : Program} {w : World} : ∀ es : List (Str × Tok × Str × Tok), Pairs (strKind prog w) (es.map fun e => (⟨PyData.keyHash w.params e.1, .str e.1 e.2.1, .str e.2.2.1 e.2.2.2⟩ : DictEntry)) (es.map fun e => (e.1, Value.str e.2.2.1 e.2.2.2))
  | [] => .nil
  | e :: r => .cons (strKind_is prog w e.1 e.2.1) rfl (pairs_str r)
theorem strs_of : ∀ es : List (Str × Tok × Str × Tok), StrVs (es.map fun e => e.2.2.1) (es.map fun e => Value.str e.2.2.1 e.2.2.2)
  | [] => rfl
  | e :: r => ⟨_, _, rfl, strs_of r⟩
theorem gl_dict {cx : Cx} {D : Tbl} {x : Str} {a : Addr} {es : List (Str × Tok × Str × Tok)} {n : Nat} (X : tblXP D cx.mg) (Y : tblP D cx.w cx.h₀) (hd : (x, a, dObj es n) ∈ D) (hn : (es.map (·.1)).Nodup) : Gl cx x (.cdict (es.map fun e => (e.1, e.2.2.1))) := by
  refine ⟨_, X _ hd, fun w H S => ⟨a, es.map fun e => (e.1, Value.str e.2.2.1 e.2.2.2), rfl, ⟨_, _, _, (S.base _ _ (Y _ hd)).1, ⟨rfl, rfl, rfl⟩, rfl, fun e he => ?_, ?_, ?_⟩, (S.base _ _ (Y _ hd)).2, ?_, ?_⟩⟩
  · rw [List.mem_toArray, List.mem_map] at he
    obtain ⟨e', _, rfl⟩ := he
    exact ⟨e'.1, strKind_is _ _ _ _, rfl⟩
  · rw [List.toList_toArray]; exact pairs_str es
  · rw [List.map_map]; exact hn
  · rw [List.map_map, List.map_map]; rfl
  · rw [List.map_map, List.map_map]; exact strs_of es
end Mine


set_option autoImplicit false
set_option linter.unusedVariables false
namespace Mine
open PySem PyProof.Rows

/-- m runs from H and leaves what Q says -/
noncomputable def Rn {α : Type} (m : M α) (H : AHeap) (Q : α → AHeap → Prop) : Prop := ∃ a H', m H = some (.ok a, H') ∧ Q a H'
noncomputable def Fl (I : Loc → AHeap → Prop) (Q : AV → AHeap → Prop) : Res → AHeap → Prop
  | .next σ, H => I σ H
  | .ret v, H => Q v H

section
variable {α β : Type} {m : M α} {f : α → M β} {H H1 : AHeap} {a : α} {Q : β → AHeap → Prop} {R R' : α → AHeap → Prop}
theorem Rn.bind (h : Rn m H fun a H1 => Rn (f a) H1 Q) : Rn (m >>= f) H Q := by
  obtain ⟨a, H1, h1, b, H2, h2, q⟩ := h
  exact ⟨b, H2, bind_of h1 h2, q⟩
theorem Rn.pure (h : R a H) : Rn (Pure.pure a : M α) H R := ⟨a, H, rfl, h⟩
theorem Rn.mono (h : Rn m H R) (k : ∀ a H', R a H' → R' a H') : Rn m H R' := let ⟨a, H', e, q⟩ := h; ⟨a, H', e, k _ _ q⟩
theorem Rn.eq (e : m = Pure.pure a) (h : R a H) : Rn m H R := by rw [e]; exact .pure h
theorem Rn.of (e : m H = some (.ok a, H1)) (h : R a H1) : Rn m H R := ⟨a, H1, e, h⟩
theorem Rn.bof (e : m H = some (.ok a, H1)) (h : Rn (f a) H1 Q) : Rn (m >>= f) H Q := .bind (.of e h)
theorem Rn.then (h : Rn m H R) (k : ∀ a H1, R a H1 → Rn (f a) H1 Q) : Rn (m >>= f) H Q := .bind (h.mono k)
end

theorem listAt_is {H : AHeap} {l : Nat} {xs : List AV} (h : H[l]? = some (.list xs)) : listAt l H = some (.ok xs, H) :=
  bind_of (a := .list xs) (H1 := H) (by unfold objAt; rw [h]) rfl
theorem rdM_is {H : AHeap} {a : AV} {d : PyData} (h : rd H 8 a = some d) : rdM a H = some (.ok d, H) := by unfold rdM; rw [h]
theorem eq_is {H : AHeap} {a b : AV} {d e : PyData} (h1 : rd H 8 a = some d) (h2 : rd H 8 b = some e) : pCmp .Eq a b H = some (.ok (PyData.eqv d e), H) := bind_of (rdM_is h1) (bind_of (rdM_is h2) rfl)
theorem Rn.noX {α : Type} {m : M α} {H : AHeap} {Q : α → AHeap → Prop} (h : Rn m H Q) : Rn (noX m) H Q := let ⟨a, H', e, q⟩ := h; ⟨a, H', by unfold Mine.noX; rw [e], q⟩
theorem noX_pure {α : Type} {a : α} : noX (pure a) = pure a := rfl
theorem FUEL_is : FUEL = 100000 := rfl

theorem forR_go {src : Src} {body : AV → Loc → M Res} (g : Nat → Option AV) (N : Nat) (I : Nat → Loc → AHeap → Prop) {Q : Res → AHeap → Prop}
    (hN : g N = none) (hg : ∀ i σ H, i ≤ N → I i σ H → src.get i H = some (.ok (g i), H))
    (hs : ∀ i σ H, i < N → I i σ H → ∃ a, g i = some a ∧ Rn (body a σ) H (Fl (I (i + 1)) fun v H' => Q (.ret v) H')) (he : ∀ σ H, I N σ H → Q (.next σ) H) :
    ∀ (k fuel i : Nat) (σ : Loc) (H : AHeap), i + k = N → k < fuel → I i σ H → Rn (forLoop src body fuel i σ) H Q
  | 0, 0, i, σ, H, _, hf, _ => absurd hf (Nat.lt_irrefl _)
  | 0, f + 1, i, σ, H, hk, hf, h => by
    have : i = N := hk
    subst this
    unfold forLoop
    refine .bof (hg i σ H (Nat.le_refl _) h) ?_
    rw [hN]
    exact .pure (he _ _ h)
  | k + 1, 0, i, σ, H, _, hf, _ => absurd hf (Nat.not_lt_zero _)
  | k + 1, f + 1, i, σ, H, hk, hf, h => by
    unfold forLoop
    have hi : i < N := by omega
    refine .bof (hg i σ H (Nat.le_of_lt hi) h) ?_
    obtain ⟨a, ha, hr⟩ := hs i σ H hi h
    rw [ha]
    refine .then hr fun r H1 q => ?_
    cases r with
    | next σ' => exact forR_go g N I hN hg hs he k f (i + 1) σ' H1 (by omega) (by omega) q
    | ret v => exact .pure q

/-- a for over what g hands out, N turns -/
theorem forR {src : Src} {body : AV → Loc → M Res} {σ : Loc} {H : AHeap} (g : Nat → Option AV) (N : Nat) (I : Nat → Loc → AHeap → Prop) {Q : Res → AHeap → Prop} (hF : N < 100000)
    (hN : g N = none) (hg : ∀ i σ H, i ≤ N → I i σ H → src.get i H = some (.ok (g i), H)) (h0 : I 0 σ H)
    (hs : ∀ i σ H, i < N → I i σ H → ∃ a, g i = some a ∧ Rn (body a σ) H (Fl (I (i + 1)) fun v H' => Q (.ret v) H')) (he : ∀ σ H, I N σ H → Q (.next σ) H) :
    Rn (forLoop src body FUEL 0 σ) H Q := forR_go g N I hN hg hs he N FUEL 0 σ H (Nat.zero_add _) (by rw [FUEL_is]; exact hF) h0

/-- a for over a frozen list -/
theorem forI {xs : List AV} {body : AV → Loc → M Res} {σ : Loc} {H : AHeap} (I : Nat → Loc → AHeap → Prop) {Q : Res → AHeap → Prop} (hF : xs.length < 100000) (h0 : I 0 σ H)
    (hs : ∀ i a σ H, xs[i]? = some a → I i σ H → Rn (body a σ) H (Fl (I (i + 1)) fun v H' => Q (.ret v) H')) (he : ∀ σ H, I xs.length σ H → Q (.next σ) H) :
    Rn (forLoop (.items xs) body FUEL 0 σ) H Q :=
  forR (fun i => xs[i]?) xs.length I hF (List.getElem?_eq_none (Nat.le_refl _)) (fun _ _ _ _ _ => rfl) h0 (fun i σ H hi h => ⟨xs[i], List.getElem?_eq_getElem hi, hs i _ σ H (List.getElem?_eq_getElem hi) h⟩) he
/-- a for over a list of the heap, which no turn touches -/
theorem forA {l : Nat} {xs : List AV} {body : AV → Loc → M Res} {σ : Loc} {H : AHeap} (I : Nat → Loc → AHeap → Prop) {Q : Res → AHeap → Prop} (hF : xs.length < 100000) (h0 : I 0 σ H)
    (hl : ∀ i σ H, I i σ H → H[l]? = some (.list xs))
    (hs : ∀ i a σ H, xs[i]? = some a → I i σ H → Rn (body a σ) H (Fl (I (i + 1)) fun v H' => Q (.ret v) H')) (he : ∀ σ H, I xs.length σ H → Q (.next σ) H) :
    Rn (forLoop (.at l) body FUEL 0 σ) H Q :=
  forR (fun i => xs[i]?) xs.length I hF (List.getElem?_eq_none (Nat.le_refl _)) (fun i σ H _ h => bind_of (listAt_is (hl i σ H h)) rfl) h0
    (fun i σ H hi h => ⟨xs[i], List.getElem?_eq_getElem hi, hs i _ σ H (List.getElem?_eq_getElem hi) h⟩) he
/-- for i, x in enumerate(a frozen list) -/
theorem forE {xs : List AV} {body : AV → Loc → M Res} {σ : Loc} {H : AHeap} (I : Nat → Loc → AHeap → Prop) {Q : Res → AHeap → Prop} (hF : xs.length < 100000) (h0 : I 0 σ H)
    (hs : ∀ i a σ H, xs[i]? = some a → I i σ H → Rn (body (.tup [.int i, a]) σ) H (Fl (I (i + 1)) fun v H' => Q (.ret v) H')) (he : ∀ σ H, I xs.length σ H → Q (.next σ) H) :
    Rn (forLoop (.enum (.items xs)) body FUEL 0 σ) H Q :=
  forR (fun i => (xs[i]?).map fun v => .tup [.int i, v]) xs.length I hF (by simp) (fun _ _ _ _ _ => rfl) h0
    (fun i σ H hi h => ⟨_, by rw [List.getElem?_eq_getElem hi]; rfl, hs i _ σ H (List.getElem?_eq_getElem hi) h⟩) he

theorem whR_go {test : Loc → M Bool} {body : Loc → M Res} (I : Nat → Loc → AHeap → Prop) {Q : Res → AHeap → Prop}
    (hs : ∀ n σ H, I n σ H → Rn (test σ) H fun b H1 => (b = false ∧ Q (.next σ) H1) ∨ (b = true ∧ Rn (body σ) H1 (Fl (fun σ' H' => ∃ m, m < n ∧ I m σ' H') fun v H' => Q (.ret v) H'))) :
    ∀ (fuel n : Nat) (σ : Loc) (H : AHeap), n < fuel → I n σ H → Rn (whileLoop test body fuel σ) H Q
  | 0, n, _, _, hf, _ => absurd hf (Nat.not_lt_zero _)
  | f + 1, n, σ, H, hf, h => by
    unfold whileLoop
    refine .then (hs n σ H h) fun b H1 q => ?_
    obtain ⟨rfl, q⟩ | ⟨rfl, q⟩ := q
    · exact .pure q
    · refine .then q fun r H2 q => ?_
      cases r with
      | next σ' =>
        obtain ⟨m, hm, hI⟩ := q
        exact whR_go I hs f m σ' H2 (by omega) hI
      | ret v => exact .pure q
theorem whR {test : Loc → M Bool} {body : Loc → M Res} {σ : Loc} {H : AHeap} (n : Nat) (I : Nat → Loc → AHeap → Prop) {Q : Res → AHeap → Prop} (hF : n < 100000) (h0 : I n σ H)
    (hs : ∀ n σ H, I n σ H → Rn (test σ) H fun b H1 => (b = false ∧ Q (.next σ) H1) ∨ (b = true ∧ Rn (body σ) H1 (Fl (fun σ' H' => ∃ m, m < n ∧ I m σ' H') fun v H' => Q (.ret v) H'))) :
    Rn (whileLoop test body FUEL σ) H Q := whR_go I hs FUEL n σ H (by rw [FUEL_is]; exact hF) h0

theorem LIMis : LIM = 1048576 := by decide
/-- a comprehension over a frozen list whose body is pure -/
theorem compM_go {xs : List AV} {body : AV → M (Option AV)} {g : AV → AV} (h : ∀ a ∈ xs, body a = pure (some (g a))) :
    ∀ (k fuel i : Nat) (acc : List AV), i + k = xs.length → k < fuel → acc.length + k < LIM → compLoop (.items xs) body fuel i acc = pure (acc ++ (xs.drop i).map g)
  | 0, 0, i, acc, _, hf, _ => absurd hf (Nat.lt_irrefl _)
  | 0, f + 1, i, acc, hk, hf, _ => by
    unfold compLoop
    show (do let r ← (pure xs[i]? : M _); _) = _
    rw [List.getElem?_eq_none (by omega), pure_bind, List.drop_of_length_le (by omega)]
    simp
  | k + 1, 0, i, acc, _, hf, _ => absurd hf (Nat.not_lt_zero _)
  | k + 1, f + 1, i, acc, hk, hf, hL => by
    unfold compLoop
    have hi : i < xs.length := by omega
    show (do let r ← (pure xs[i]? : M _); _) = _
    rw [List.getElem?_eq_getElem hi, pure_bind]
    simp only [h _ (List.getElem_mem hi), noX_pure, pure_bind]
    rw [if_pos (by omega), compM_go h k f (i + 1) _ (by omega) (by omega) (by rw [List.length_append]; simp; omega), List.drop_eq_getElem_cons hi, List.map_cons, List.append_assoc]
    rfl
theorem compM {xs : List AV} {body : AV → M (Option AV)} (g : AV → AV) (hl : xs.length < 100000) (h : ∀ a ∈ xs, body a = pure (some (g a))) : compLoop (.items xs) body FUEL 0 [] = pure (xs.map g) := by
  have := compM_go h xs.length FUEL 0 [] (Nat.zero_add _) (by rw [FUEL_is]; exact hl) (by rw [LIMis]; simp; omega)
  simpa using this

theorem callRn {P : Pg} {n : Nat} {f : Str} {as : List AV} {σ : Loc} {H : AHeap} {Q : AV → AHeap → Prop} (hf : P.fn f = some (fnD P f)) (hl : as.length = (fnD P f).params.length) (hσ : as.map some ++ List.replicate ((fnD P f).names.length - as.length) none = σ)
    (h : Rn (tl P (callP P n) f [] 0 40 σ) H (Fl (fun _ H' => Q .none H') Q)) : Rn (callP P (n + 1) f as) H Q := by
  obtain ⟨r, H', h1, q⟩ := h
  cases r with
  | next σ' => exact ⟨_, _, callN hf hl hσ h1, q⟩
  | ret a => exact ⟨_, _, callR hf hl hσ h1, q⟩
/-- pure facts of the primitives -/
theorem srcOf_lst {xs : List AV} : srcOf (.lst xs) = pure (.items xs) := rfl
theorem listOf_lst {xs : List AV} : listOf (.lst xs) = pure xs := rfl
theorem small62_of {i : Int} (h : -1000000 ≤ i ∧ i ≤ 1000000) : small62 i = true := by unfold small62; simp; omega
theorem srcOf_range {a b : Int} (ha : -1000000 ≤ a ∧ a ≤ 1000000) (hb : -1000000 ≤ b ∧ b ≤ 1000000) : srcOf (.range a b) = pure (.items (rangeL a b)) := by
  show (if small62 a && small62 b then pure (Src.items (rangeL a b)) else stuck) = _
  rw [small62_of ha, small62_of hb]; rfl
theorem e_range1 {mu : Bool} {n : Int} : pBI mu .range [.int n] = pure (.range 0 n) := rfl
theorem rangeL_length (a b : Int) : (rangeL a b).length = (b - a).toNat := by unfold rangeL; simp
theorem rangeL_at {a b : Int} {i : Nat} {x : AV} (h : (rangeL a b)[i]? = some x) : x = .int (a + i) ∧ i < (b - a).toNat := by
  unfold rangeL at h
  rw [List.getElem?_map] at h
  cases h1 : (List.range (b - a).toNat)[i]? with
  | none => rw [h1] at h; cases h
  | some j =>
    rw [h1] at h; cases h
    have := List.getElem?_eq_some_iff.mp h1
    obtain ⟨h2, h3⟩ := this
    rw [List.length_range] at h2
    rw [List.getElem_range] at h3
    subst h3; exact ⟨rfl, h2⟩
theorem mem_rangeL {a b : Int} {x : AV} (h : x ∈ rangeL a b) : ∃ i : Nat, x = .int (a + i) ∧ i < (b - a).toNat := by
  obtain ⟨i, hi⟩ := List.mem_iff_getElem?.mp h
  exact ⟨i, rangeL_at hi⟩
theorem e_isnoneI {i : Int} : pCmp .IsNot (.int i) .none = pure true := rfl
theorem listOf_loc {H : AHeap} {l : Nat} {xs : List AV} (h : H[l]? = some (.list xs)) : listOf (.loc l) H = some (.ok xs, H) := listAt_is h
theorem seqOf_loc {H : AHeap} {l : Nat} {xs : List AV} (h : H[l]? = some (.list xs)) : seqOf (.loc l) H = some (.ok xs, H) := listAt_is h
theorem srcOf_loc {H : AHeap} {l : Nat} {xs : List AV} (h : H[l]? = some (.list xs)) : srcOf (.loc l) H = some (.ok (.at l), H) := bind_of (listAt_is h) rfl
theorem len_loc {mu : Bool} {H : AHeap} {l : Nat} {xs : List AV} (h : H[l]? = some (.list xs)) : pBI mu .len [.loc l] H = some (.ok (.int xs.length), H) :=
  bind_of (seqOf_loc h) rfl
theorem idx_nat {k n : Nat} (h : k < n) : idx (k : Int) n = some k := by
  unfold idx
  rw [if_pos (by omega), if_pos (by omega)]; simp
theorem e_itT {xs : List AV} {k : Int} {a : AV} (h : ((idx k xs.length).bind fun j => xs[j]?) = some a) : pItem (.tup xs) (.int k) = pure a := by
  funext H
  show (ofOpt ((idx k xs.length).bind fun j => xs[j]?) : M AV) H = _
  rw [h]; rfl
theorem item_loc {H : AHeap} {l k : Nat} {xs : List AV} {a : AV} (h : H[l]? = some (.list xs)) (hk : xs[k]? = some a) : pItem (.loc l) (.int k) H = some (.ok a, H) := by
  refine bind_of (seqOf_loc h) ?_
  rw [idx_nat (List.getElem?_eq_some_iff.mp hk).1]
  show (ofOpt xs[k]? : M AV) H = _
  rw [hk]; rfl
theorem meth_loc {H : AHeap} {l : Nat} {xs vs : List AV} {m : Str} {k : Mt} {r : Except Str AV × AHeap} (hm : mtOf m = some k) (h : H[l]? = some (.list xs)) (e : methL l xs vs k H = some r) : pMeth m (.loc l) vs H = some r := by
  unfold pMeth
  rw [hm]
  exact bind_of (listAt_is h) e
theorem append_loc {H : AHeap} {l : Nat} {xs : List AV} {v : AV} (h : H[l]? = some (.list xs)) (hl : xs.length < LIM) : pMeth "append" (.loc l) [v] H = some (.ok .none, H.set l (.list (xs ++ [v]))) := meth_loc (k := .append) rfl h (by
  show (if xs.length < LIM then _ else _ : M AV) H = _
  rw [if_pos hl]; rfl)
theorem popAt_is {H : AHeap} {l k : Nat} {xs : List AV} {v : AV} (hk : xs[k]? = some v) : popAt l xs k H = some (.ok v, H.set l (.list (xs.eraseIdx k))) := by unfold popAt; rw [hk]; rfl
theorem mapM_ok {α β : Type} {f : α → Option β} : ∀ {xs : List α}, (∀ x ∈ xs, ∃ y, f x = some y) → ∃ ys, xs.mapM f = some ys ∧ ys.length = xs.length
  | [], _ => ⟨[], by simp, rfl⟩
  | x :: r, h => by
    obtain ⟨y, hy⟩ := h x (List.mem_cons_self ..)
    obtain ⟨ys, h1, h2⟩ := mapM_ok (xs := r) fun z hz => h z (List.mem_cons_of_mem _ hz)
    exact ⟨y :: ys, by simp [hy, h1], by simp [h2]⟩
theorem eqv_nil (ds : List PyData) : PyData.eqv (.list ds) (.list []) = ds.isEmpty := by cases ds <;> rfl
theorem rd_nil {H : AHeap} {n : Nat} : rd H (n + 1) (.lst []) = some (.list []) := by simp [rd]
theorem eq_nil_loc {H : AHeap} {l : Nat} {xs : List AV} (h : H[l]? = some (.list xs)) (hx : ∀ x ∈ xs, ∃ d, rd H 7 x = some d) : pCmp .Eq (.loc l) (.lst []) H = some (.ok xs.isEmpty, H) := by
  obtain ⟨ds, h1, h2⟩ := mapM_ok hx
  have e1 : rd H 8 (.loc l) = some (.list ds) := by unfold rd; simp only [h, h1, Option.map_some]
  rw [eq_is e1 rd_nil, eqv_nil]
  have : ds.isEmpty = xs.isEmpty := by cases ds <;> cases xs <;> simp_all
  rw [this]
theorem ne_nil_loc {H : AHeap} {l : Nat} {xs : List AV} (h : H[l]? = some (.list xs)) (hx : ∀ x ∈ xs, ∃ d, rd H 7 x = some d) : pCmp .NotEq (.loc l) (.lst []) H = some (.ok !xs.isEmpty, H) :=
  bind_of (eq_nil_loc h hx) rfl
theorem rd_int {H : AHeap} {n : Nat} {i : Int} : rd H n (.int i) = some (.int i) := by unfold rd; rfl
theorem newT {H : AHeap} {xs : List AV} (h : xs.length ≤ LIM) : newL true xs H = some (.ok (.loc H.length), H ++ [.list xs]) := by unfold newL; rw [if_pos h]; rfl
theorem Rn.each0 {H : AHeap} {Q : List AV → AHeap → Prop} (h : Q [] H) : Rn (eachM []) H Q := .pure h
theorem Rn.eachC {m : M AV} {r : List (M AV)} {H : AHeap} {Q : List AV → AHeap → Prop} (h : Rn m H fun a H1 => Rn (eachM r) H1 fun vs H2 => Q (a :: vs) H2) : Rn (eachM (m :: r)) H Q :=
  .bind (h.mono fun a H1 q => .bind (q.mono fun vs H2 q => .pure q))
theorem Rn.eachE {m : M AV} {r : List (M AV)} {H H1 : AHeap} {a : AV} {Q : List AV → AHeap → Prop} (e : m H = some (.ok a, H1)) (h : Rn (eachM r) H1 fun vs H2 => Q (a :: vs) H2) : Rn (eachM (m :: r)) H Q := .eachC (.of e h)
theorem Rn.eachP {a : AV} {r : List (M AV)} {H : AHeap} {Q : List AV → AHeap → Prop} (h : Rn (eachM r) H fun vs H2 => Q (a :: vs) H2) : Rn (eachM (Pure.pure a :: r)) H Q := .eachC (.pure h)
/-- m answers a and leaves H as it is -/
theorem Rn.val {α : Type} {m : M α} {H : AHeap} {a : α} (h : Rn m H fun b H' => b = a ∧ H' = H) : m H = some (.ok a, H) := by
  obtain ⟨b, H', e, rfl, rfl⟩ := h
  exact e
theorem m_tup {mu : Bool} {x y : AV} {xs ys : List AV} (h : (x :: xs).length + (y :: ys).length ≤ LIM) : pBin mu .Add (.tup (x :: xs)) (.tup (y :: ys)) = pure (.tup ((x :: xs) ++ (y :: ys))) := by
  show (if (x :: xs).isEmpty || (y :: ys).isEmpty || decide (LIM < (x :: xs).length + (y :: ys).length) then stuck else pure (.tup ((x :: xs) ++ (y :: ys))) : M AV) = _
  rw [decide_eq_false (Nat.not_lt.mpr h)]; rfl
theorem e_eqs {a b : Str} (ha : PyData.strOk a = true) (hb : PyData.strOk b = true) : pCmp .Eq (.str a) (.str b) = pure (decide (a = b)) := by
  funext H
  have q : ∀ {x : Str}, PyData.strOk x = true → rd H 8 (.str x) = some (.str x) := fun h => by unfold rd; rw [if_pos h]
  rw [eq_is (q ha) (q hb)]
  show some (Except.ok (a == b), H) = some (Except.ok (decide (a = b)), H)
  by_cases h : a = b
  · subst h; simp
  · have : (a == b) = false := by simpa using h
    rw [this, decide_eq_false h]
theorem pop_last {H : AHeap} {l : Nat} {xs : List AV} {v : AV} (h : H[l]? = some (.list (xs ++ [v]))) : pMeth "pop" (.loc l) [] H = some (.ok v, H.set l (.list xs)) := meth_loc (k := .pop) rfl h (by
  have e : (xs ++ [v]).eraseIdx xs.length = xs := by rw [List.eraseIdx_append_of_length_le (Nat.le_refl _), Nat.sub_self]; exact List.append_nil _
  have := popAt_is (H := H) (l := l) (xs := xs ++ [v]) (k := xs.length) (v := v) List.getElem?_concat_length
  rw [e] at this
  show popAt l (xs ++ [v]) ((xs ++ [v]).length - 1) H = _
  rw [List.length_append]
  exact this)
theorem e_it0 {x : AV} {xs : List AV} : pItem (.tup (x :: xs)) (.int 0) = pure x := e_item_tup (k := 0) rfl
end Mine


set_option autoImplicit false
set_option linter.unusedVariables false
namespace Mine
open PySem PyProof.Rows

/-- the objects os stand at ls; H₀ is kept outside of ls -/
structure Fc (H₀ H : AHeap) (ls : List Nat) (os : List AO) : Prop where
  all : ∀ (j l : Nat) (o : AO), ls[j]? = some l → os[j]? = some o → H[l]? = some o
  nd : ls.Nodup
  len : H₀.length ≤ H.length
  out : ∀ l : Nat, l < H₀.length → l ∉ ls → H[l]? = H₀[l]?

theorem nd2 {l : List Nat} (h : l.Nodup) {a b : Nat} {i j : Nat} (ha : l[i]? = some a) (hb : l[j]? = some b) (hij : i ≠ j) : a ≠ b := by
  intro e
  subst e
  have h1 := (List.getElem?_eq_some_iff.mp ha)
  have h2 := (List.getElem?_eq_some_iff.mp hb)
  obtain ⟨p1, q1⟩ := h1
  obtain ⟨p2, q2⟩ := h2
  rcases Nat.lt_or_gt_of_ne hij with h' | h'
  · exact List.pairwise_iff_getElem.mp h i j p1 p2 h' (q1.trans q2.symm)
  · exact List.pairwise_iff_getElem.mp h j i p2 p1 h' (q2.trans q1.symm)

namespace Fc
variable {H₀ H : AHeap} {ls : List Nat} {os os' : List AO}
theorem upd (F : Fc H₀ H ls os) (j : Nat) {l : Nat} (x : AO) (hj : ls[j]? = some l) (hs : ∃ o, os[j]? = some o) (hx : os' = os.set j x) : Fc H₀ (H.set l x) ls os' where
  all := fun i m o hi ho => by
    subst hx
    by_cases hij : i = j
    · subst hij
      rw [hj] at hi; cases hi
      obtain ⟨o', ho'⟩ := hs
      have hl := (List.getElem?_eq_some_iff.mp (F.all i l o' hj ho')).1
      rw [List.getElem?_set_self (List.getElem?_eq_some_iff.mp ho').1] at ho
      rw [List.getElem?_set_self hl]; exact ho
    · rw [List.getElem?_set_ne (fun e => hij e.symm)] at ho
      rw [List.getElem?_set_ne (nd2 F.nd hj hi (fun e => hij e.symm))]
      exact F.all i m o hi ho
  nd := F.nd
  len := by rw [List.length_set]; exact F.len
  out := fun m h1 h2 => by
    have hne : l ≠ m := fun e => h2 (e ▸ List.mem_of_getElem? hj)
    rw [List.getElem?_set_ne hne]
    exact F.out m h1 h2
theorem lt (F : Fc H₀ H ls os) (hlen : ls.length = os.length) {l : Nat} (hl : l ∈ ls) : l < H.length := by
  obtain ⟨j, hj⟩ := List.mem_iff_getElem?.mp hl
  have h1 := (List.getElem?_eq_some_iff.mp hj).1
  have := F.all j l os[j] hj (List.getElem?_eq_getElem (by omega))
  exact (List.getElem?_eq_some_iff.mp this).1
/-- two new objects -/
theorem more2 (F : Fc H₀ H ls os) (hlen : ls.length = os.length) (a b : AO) : Fc H₀ (H ++ [a] ++ [b]) (ls ++ [H.length, H.length + 1]) (os ++ [a, b]) where
  all := fun j l o hj ho => by
    rw [List.append_assoc]
    by_cases hjl : j < ls.length
    · rw [List.getElem?_append_left hjl] at hj
      rw [List.getElem?_append_left (by omega)] at ho
      have := F.all j l o hj ho
      rw [List.getElem?_append_left (List.getElem?_eq_some_iff.mp this).1]; exact this
    · rw [List.getElem?_append_right (by omega)] at hj ho
      rw [← hlen] at ho
      match hk : j - ls.length, hj, ho with
      | 0, hj, ho => simp at hj ho; subst hj; subst ho; simp
      | 1, hj, ho => simp at hj ho; subst hj; subst ho; simp
      | k + 2, hj, ho => simp at hj
  nd := by
    rw [List.nodup_append]
    refine ⟨F.nd, by simp, fun x hx y hy => ?_⟩
    have := F.lt hlen hx
    simp at hy
    omega
  len := by have := F.len; simp; omega
  out := fun l h1 h2 => by
    have h3 : l < H.length := Nat.lt_of_lt_of_le h1 F.len
    rw [List.append_assoc, List.getElem?_append_left h3]
    exact F.out l h1 fun h => h2 (List.mem_append_left _ h)
end Fc

theorem dictAt_is {H : AHeap} {l : Nat} {es : List (Str × AV)} (h : H[l]? = some (.dict es)) : dictAt l H = some (.ok es, H) :=
  bind_of (a := .dict es) (H1 := H) (by unfold objAt; rw [h]) rfl
theorem dItem {H : AHeap} {l : Nat} {es : List (Str × AV)} {k : Str} {v : AV} (h : H[l]? = some (.dict es)) (hk : look es k = some v) : pItem (.loc l) (.str k) H = some (.ok v, H) :=
  bind_of (dictAt_is h) (by rw [hk]; rfl)
theorem dStore {H : AHeap} {l : Nat} {es es' : List (Str × AV)} {k : Str} {v : AV} (h : H[l]? = some (.dict es)) (hl : decide (es.length < 100) = true) (hk : put es k v = es') : pStore (.loc l) (.str k) v H = some (.ok (), H.set l (.dict es')) :=
  bind_of (dictAt_is h) (by
    have hl := of_decide_eq_true hl
    rw [if_pos (by have := LIMis; omega), hk]; rfl)
theorem lStore {H : AHeap} {l : Nat} {xs : List AV} {i : Nat} {v : AV} (h : H[l]? = some (.list xs)) (hi : i < xs.length) : pStore (.loc l) (.int i) v H = some (.ok (), H.set l (.list (xs.set i v))) :=
  bind_of (listAt_is h) (by rw [if_pos ⟨Int.natCast_nonneg _, Int.ofNat_lt.mpr hi⟩]; rfl)
theorem newDT {H : AHeap} {es : List (Str × AV)} : newD es H = some (.ok (.loc H.length), H ++ [.dict es]) := rfl

/-- what stands in a tower's state, and at the hand that does the step -/
structure Cn where
  st : Nat
  lb : Nat
  lsp : Nat
  lh : Nat
  lr : Nat
  hd : Nat
  w : Nat
  kp : Nat
  kind : Str
  boxes : List AV
  head : AV
  mark : Int
  spare : List AV
  hs : List AV
  time : Int
  rows : List AV
  prog : List AV
  place : Int
  wv : AV
  deed : AV
  begun : Int
  next : Str
  own : AV
  seen : AV
  inside : AV
  walk : AV
  kept : List AV
  row : AV
namespace Cn
noncomputable def sD (c : Cn) : List (Str × AV) := [("kind", .str c.kind), ("boxes", .loc c.lb), ("head", c.head), ("mark", .int c.mark), ("spare", .loc c.lsp), ("hands", .loc c.lh), ("time", .int c.time), ("rows", .loc c.lr)]
noncomputable def hD (c : Cn) : List (Str × AV) := [("program", .tup c.prog), ("place", .int c.place), ("work", c.wv)]
noncomputable def wD (c : Cn) : List (Str × AV) := [("deed", c.deed), ("begun", .int c.begun), ("next", .str c.next), ("own", c.own), ("seen", c.seen), ("inside", c.inside), ("walk", c.walk), ("kept", .loc c.kp), ("row", c.row)]
noncomputable def ls (c : Cn) : List Nat := [c.st, c.lb, c.lsp, c.lh, c.lr, c.hd, c.kp, c.w]
noncomputable def os (c : Cn) : List AO := [.dict c.sD, .list c.boxes, .list c.spare, .list c.hs, .list c.rows, .dict c.hD, .list c.kept, .dict c.wD]
noncomputable def u_head (c : Cn) (v : AV) : Cn := { c with head := v }
noncomputable def u_mark (c : Cn) (v : Int) : Cn := { c with mark := v }
noncomputable def u_time (c : Cn) (v : Int) : Cn := { c with time := v }
noncomputable def u_place (c : Cn) (v : Int) : Cn := { c with place := v }
noncomputable def u_wv (c : Cn) (v : AV) : Cn := { c with wv := v }
noncomputable def u_next (c : Cn) (v : Str) : Cn := { c with next := v }
noncomputable def u_own (c : Cn) (v : AV) : Cn := { c with own := v }
noncomputable def u_seen (c : Cn) (v : AV) : Cn := { c with seen := v }
noncomputable def u_inside (c : Cn) (v : AV) : Cn := { c with inside := v }
noncomputable def u_walk (c : Cn) (v : AV) : Cn := { c with walk := v }
noncomputable def u_row (c : Cn) (v : AV) : Cn := { c with row := v }
noncomputable def u_boxes (c : Cn) (v : List AV) : Cn := { c with boxes := v }
noncomputable def u_spare (c : Cn) (v : List AV) : Cn := { c with spare := v }
noncomputable def u_rows (c : Cn) (v : List AV) : Cn := { c with rows := v }
noncomputable def u_kept (c : Cn) (v : List AV) : Cn := { c with kept := v }
end Cn
abbrev Foc (H₀ H : AHeap) (c : Cn) : Prop := Fc H₀ H c.ls c.os
namespace Foc
variable {H₀ H : AHeap} {c : Cn}
theorem s (F : Foc H₀ H c) : H[c.st]? = some (.dict c.sD) := F.all 0 _ _ rfl rfl
theorem b (F : Foc H₀ H c) : H[c.lb]? = some (.list c.boxes) := F.all 1 _ _ rfl rfl
theorem sp (F : Foc H₀ H c) : H[c.lsp]? = some (.list c.spare) := F.all 2 _ _ rfl rfl
theorem h (F : Foc H₀ H c) : H[c.lh]? = some (.list c.hs) := F.all 3 _ _ rfl rfl
theorem r (F : Foc H₀ H c) : H[c.lr]? = some (.list c.rows) := F.all 4 _ _ rfl rfl
theorem d (F : Foc H₀ H c) : H[c.hd]? = some (.dict c.hD) := F.all 5 _ _ rfl rfl
theorem w (F : Foc H₀ H c) : H[c.w]? = some (.dict c.wD) := F.all 7 _ _ rfl rfl
theorem k (F : Foc H₀ H c) : H[c.kp]? = some (.list c.kept) := F.all 6 _ _ rfl rfl
-- what is read
theorem gKind (F : Foc H₀ H c) : pItem (.loc c.st) (.str "kind") H = some (.ok (.str c.kind), H) := dItem F.s (by kernel_rfl)
theorem gBoxes (F : Foc H₀ H c) : pItem (.loc c.st) (.str "boxes") H = some (.ok (.loc c.lb), H) := dItem F.s (by kernel_rfl)
theorem gHead (F : Foc H₀ H c) : pItem (.loc c.st) (.str "head") H = some (.ok c.head, H) := dItem F.s (by kernel_rfl)
theorem gMark (F : Foc H₀ H c) : pItem (.loc c.st) (.str "mark") H = some (.ok (.int c.mark), H) := dItem F.s (by kernel_rfl)
theorem gSpare (F : Foc H₀ H c) : pItem (.loc c.st) (.str "spare") H = some (.ok (.loc c.lsp), H) := dItem F.s (by kernel_rfl)
theorem gHands (F : Foc H₀ H c) : pItem (.loc c.st) (.str "hands") H = some (.ok (.loc c.lh), H) := dItem F.s (by kernel_rfl)
theorem gTime (F : Foc H₀ H c) : pItem (.loc c.st) (.str "time") H = some (.ok (.int c.time), H) := dItem F.s (by kernel_rfl)
theorem gRows (F : Foc H₀ H c) : pItem (.loc c.st) (.str "rows") H = some (.ok (.loc c.lr), H) := dItem F.s (by kernel_rfl)
theorem gProg (F : Foc H₀ H c) : pItem (.loc c.hd) (.str "program") H = some (.ok (.tup c.prog), H) := dItem F.d (by kernel_rfl)
theorem gPlace (F : Foc H₀ H c) : pItem (.loc c.hd) (.str "place") H = some (.ok (.int c.place), H) := dItem F.d (by kernel_rfl)
theorem gWork (F : Foc H₀ H c) : pItem (.loc c.hd) (.str "work") H = some (.ok c.wv, H) := dItem F.d (by kernel_rfl)
theorem gDeed (F : Foc H₀ H c) : pItem (.loc c.w) (.str "deed") H = some (.ok c.deed, H) := dItem F.w (by kernel_rfl)
theorem gBegun (F : Foc H₀ H c) : pItem (.loc c.w) (.str "begun") H = some (.ok (.int c.begun), H) := dItem F.w (by kernel_rfl)
theorem gNext (F : Foc H₀ H c) : pItem (.loc c.w) (.str "next") H = some (.ok (.str c.next), H) := dItem F.w (by kernel_rfl)
theorem gOwn (F : Foc H₀ H c) : pItem (.loc c.w) (.str "own") H = some (.ok c.own, H) := dItem F.w (by kernel_rfl)
theorem gSeen (F : Foc H₀ H c) : pItem (.loc c.w) (.str "seen") H = some (.ok c.seen, H) := dItem F.w (by kernel_rfl)
theorem gInside (F : Foc H₀ H c) : pItem (.loc c.w) (.str "inside") H = some (.ok c.inside, H) := dItem F.w (by kernel_rfl)
theorem gWalk (F : Foc H₀ H c) : pItem (.loc c.w) (.str "walk") H = some (.ok c.walk, H) := dItem F.w (by kernel_rfl)
theorem gKept (F : Foc H₀ H c) : pItem (.loc c.w) (.str "kept") H = some (.ok (.loc c.kp), H) := dItem F.w (by kernel_rfl)
theorem gRow (F : Foc H₀ H c) : pItem (.loc c.w) (.str "row") H = some (.ok c.row, H) := dItem F.w (by kernel_rfl)
-- what is written
theorem wHead (F : Foc H₀ H c) (v : AV) : Rn (pStore (.loc c.st) (.str "head") v) H fun _ H' => Foc H₀ H' (c.u_head v) := .of (dStore F.s (by kernel_rfl) (by kernel_rfl)) (F.upd 0 (.dict (c.u_head v).sD) rfl ⟨_, rfl⟩ rfl)
theorem wMark (F : Foc H₀ H c) (v : Int) : Rn (pStore (.loc c.st) (.str "mark") (.int v)) H fun _ H' => Foc H₀ H' (c.u_mark v) := .of (dStore F.s (by kernel_rfl) (by kernel_rfl)) (F.upd 0 (.dict (c.u_mark v).sD) rfl ⟨_, rfl⟩ rfl)
theorem wTime (F : Foc H₀ H c) (v : Int) : Rn (pStore (.loc c.st) (.str "time") (.int v)) H fun _ H' => Foc H₀ H' (c.u_time v) := .of (dStore F.s (by kernel_rfl) (by kernel_rfl)) (F.upd 0 (.dict (c.u_time v).sD) rfl ⟨_, rfl⟩ rfl)
theorem wPlace (F : Foc H₀ H c) (v : Int) : Rn (pStore (.loc c.hd) (.str "place") (.int v)) H fun _ H' => Foc H₀ H' (c.u_place v) := .of (dStore F.d (by kernel_rfl) (by kernel_rfl)) (F.upd 5 (.dict (c.u_place v).hD) rfl ⟨_, rfl⟩ rfl)
theorem wWork (F : Foc H₀ H c) (v : AV) : Rn (pStore (.loc c.hd) (.str "work") v) H fun _ H' => Foc H₀ H' (c.u_wv v) := .of (dStore F.d (by kernel_rfl) (by kernel_rfl)) (F.upd 5 (.dict (c.u_wv v).hD) rfl ⟨_, rfl⟩ rfl)
theorem wNext (F : Foc H₀ H c) (v : Str) : Rn (pStore (.loc c.w) (.str "next") (.str v)) H fun _ H' => Foc H₀ H' (c.u_next v) := .of (dStore F.w (by kernel_rfl) (by kernel_rfl)) (F.upd 7 (.dict (c.u_next v).wD) rfl ⟨_, rfl⟩ rfl)
theorem wOwn (F : Foc H₀ H c) (v : AV) : Rn (pStore (.loc c.w) (.str "own") v) H fun _ H' => Foc H₀ H' (c.u_own v) := .of (dStore F.w (by kernel_rfl) (by kernel_rfl)) (F.upd 7 (.dict (c.u_own v).wD) rfl ⟨_, rfl⟩ rfl)
theorem wSeen (F : Foc H₀ H c) (v : AV) : Rn (pStore (.loc c.w) (.str "seen") v) H fun _ H' => Foc H₀ H' (c.u_seen v) := .of (dStore F.w (by kernel_rfl) (by kernel_rfl)) (F.upd 7 (.dict (c.u_seen v).wD) rfl ⟨_, rfl⟩ rfl)
theorem wInside (F : Foc H₀ H c) (v : AV) : Rn (pStore (.loc c.w) (.str "inside") v) H fun _ H' => Foc H₀ H' (c.u_inside v) := .of (dStore F.w (by kernel_rfl) (by kernel_rfl)) (F.upd 7 (.dict (c.u_inside v).wD) rfl ⟨_, rfl⟩ rfl)
theorem wWalk (F : Foc H₀ H c) (v : AV) : Rn (pStore (.loc c.w) (.str "walk") v) H fun _ H' => Foc H₀ H' (c.u_walk v) := .of (dStore F.w (by kernel_rfl) (by kernel_rfl)) (F.upd 7 (.dict (c.u_walk v).wD) rfl ⟨_, rfl⟩ rfl)
theorem wRow (F : Foc H₀ H c) (v : AV) : Rn (pStore (.loc c.w) (.str "row") v) H fun _ H' => Foc H₀ H' (c.u_row v) := .of (dStore F.w (by kernel_rfl) (by kernel_rfl)) (F.upd 7 (.dict (c.u_row v).wD) rfl ⟨_, rfl⟩ rfl)
theorem wBox (F : Foc H₀ H c) {i : Nat} (hi : i < c.boxes.length) (v : AV) : Rn (pStore (.loc c.lb) (.int i) v) H fun _ H' => Foc H₀ H' (c.u_boxes (c.boxes.set i v)) := .of (lStore F.b hi) (F.upd 1 (.list (c.boxes.set i v)) rfl ⟨_, rfl⟩ rfl)
theorem wRows (F : Foc H₀ H c) {i : Nat} (hi : i < c.rows.length) (v : AV) : Rn (pStore (.loc c.lr) (.int i) v) H fun _ H' => Foc H₀ H' (c.u_rows (c.rows.set i v)) := .of (lStore F.r hi) (F.upd 4 (.list (c.rows.set i v)) rfl ⟨_, rfl⟩ rfl)
theorem aBox (F : Foc H₀ H c) (hl : c.boxes.length < 100000) (v : AV) : Rn (pMeth "append" (.loc c.lb) [v]) H fun _ H' => Foc H₀ H' (c.u_boxes (c.boxes ++ [v])) := .of (append_loc F.b (by have := LIMis; omega)) (F.upd 1 (.list (c.boxes ++ [v])) rfl ⟨_, rfl⟩ rfl)
theorem aSpare (F : Foc H₀ H c) (hl : c.spare.length < 100000) (v : AV) : Rn (pMeth "append" (.loc c.lsp) [v]) H fun _ H' => Foc H₀ H' (c.u_spare (c.spare ++ [v])) := .of (append_loc F.sp (by have := LIMis; omega)) (F.upd 2 (.list (c.spare ++ [v])) rfl ⟨_, rfl⟩ rfl)
theorem aRows (F : Foc H₀ H c) (hl : c.rows.length < 100000) (v : AV) : Rn (pMeth "append" (.loc c.lr) [v]) H fun _ H' => Foc H₀ H' (c.u_rows (c.rows ++ [v])) := .of (append_loc F.r (by have := LIMis; omega)) (F.upd 4 (.list (c.rows ++ [v])) rfl ⟨_, rfl⟩ rfl)
theorem aKept (F : Foc H₀ H c) (hl : c.kept.length < 100000) (v : AV) : Rn (pMeth "append" (.loc c.kp) [v]) H fun _ H' => Foc H₀ H' (c.u_kept (c.kept ++ [v])) := .of (append_loc F.k (by have := LIMis; omega)) (F.upd 6 (.list (c.kept ++ [v])) rfl ⟨_, rfl⟩ rfl)
theorem pSpare (F : Foc H₀ H c) {xs : List AV} {v : AV} (hs : c.spare = xs ++ [v]) : Rn (pMeth "pop" (.loc c.lsp) []) H fun a H' => a = v ∧ Foc H₀ H' (c.u_spare xs) := by
  have h := F.sp
  rw [hs] at h
  exact .of (pop_last h) ⟨rfl, F.upd 2 (.list xs) rfl ⟨_, rfl⟩ rfl⟩
end Foc
namespace Cn
noncomputable def ls0 (c : Cn) : List Nat := [c.st, c.lb, c.lsp, c.lh, c.lr, c.hd]
noncomputable def os0 (c : Cn) : List AO := [.dict c.sD, .list c.boxes, .list c.spare, .list c.hs, .list c.rows, .dict c.hD]
/-- a deed is begun -/
noncomputable def beg (c : Cn) (k w : Nat) (d : AV) (nx : Str) : Cn := { c with kp := k, w := w, deed := d, begun := c.time, next := nx, own := .none, seen := .none, inside := .none, walk := .none, kept := [], row := .none }
end Cn
abbrev Foc0 (H₀ H : AHeap) (c : Cn) : Prop := Fc H₀ H c.ls0 c.os0
namespace Foc0
variable {H₀ H : AHeap} {c : Cn}
theorem s (F : Foc0 H₀ H c) : H[c.st]? = some (.dict c.sD) := F.all 0 _ _ rfl rfl
theorem h (F : Foc0 H₀ H c) : H[c.lh]? = some (.list c.hs) := F.all 3 _ _ rfl rfl
theorem d (F : Foc0 H₀ H c) : H[c.hd]? = some (.dict c.hD) := F.all 5 _ _ rfl rfl
theorem gHands (F : Foc0 H₀ H c) : pItem (.loc c.st) (.str "hands") H = some (.ok (.loc c.lh), H) := dItem F.s (by kernel_rfl)
theorem gTime (F : Foc0 H₀ H c) : pItem (.loc c.st) (.str "time") H = some (.ok (.int c.time), H) := dItem F.s (by kernel_rfl)
theorem gProg (F : Foc0 H₀ H c) : pItem (.loc c.hd) (.str "program") H = some (.ok (.tup c.prog), H) := dItem F.d (by kernel_rfl)
theorem gPlace (F : Foc0 H₀ H c) : pItem (.loc c.hd) (.str "place") H = some (.ok (.int c.place), H) := dItem F.d (by kernel_rfl)
theorem gWork (F : Foc0 H₀ H c) : pItem (.loc c.hd) (.str "work") H = some (.ok c.wv, H) := dItem F.d (by kernel_rfl)
theorem wTime (F : Foc0 H₀ H c) (v : Int) : Rn (pStore (.loc c.st) (.str "time") (.int v)) H fun _ H' => Foc0 H₀ H' (c.u_time v) := .of (dStore F.s (by kernel_rfl) (by kernel_rfl)) (F.upd 0 (.dict (c.u_time v).sD) rfl ⟨_, rfl⟩ rfl)
theorem begun (F : Foc0 H₀ H c) (d : AV) (nx : Str) : Foc H₀ (H ++ [.list []] ++ [.dict (c.beg H.length (H.length + 1) d nx).wD]) (c.beg H.length (H.length + 1) d nx) := F.more2 rfl _ _
end Foc0
end Mine


set_option autoImplicit false
set_option linter.unusedVariables false
set_option maxRecDepth 100000
namespace Mine
open PySem PyProof.Rows

noncomputable def mixed (c k : Int) : Int := (((c + 7919 * k) * 48271).fmod 2147483647 * ((c + 7919 * k) * 48271).fmod 2147483647).fmod 2147483629
noncomputable def cellAt (ns : List Int) (k : Nat) : Int := match ns[k]? with
  | some c => mixed c k
  | none => 0
noncomputable def valueBy (c : Int) : Int := if c.fmod 4 = 0 then c.fdiv 4 * 7919 * 7919 * 7919 - 100000000000000000000 else (c.fdiv 4).fmod 5 - 1
theorem d4 : (4 : Int) ≠ 0 ∧ (4 : Int).natAbs < 1073741824 := ⟨by decide, by decide⟩
theorem d8 : (8 : Int) ≠ 0 ∧ (8 : Int).natAbs < 1073741824 := ⟨by decide, by decide⟩
theorem d32 : (32 : Int) ≠ 0 ∧ (32 : Int).natAbs < 1073741824 := ⟨by decide, by decide⟩

/-- the kinds of deeds -/
inductive Dk where
  | push | pop | top | swap | clear
noncomputable def deedK (k : Dk) (v : Int) : AV := match k with
  | .push => .tup [.str "push", .int v]
  | .pop => .tup [.str "pop"]
  | .top => .tup [.str "top"]
  | .swap => .tup [.str "swap", .int v]
  | .clear => .tup [.str "clear"]
noncomputable def plV (k : Dk) (v : Int) (xs : List Int) : List Int := match k with
  | .push => v :: xs
  | .clear => []
  | .top => xs
  | .pop => xs.tail
  | .swap => match xs with
    | [] => []
    | _ :: r => v :: r
theorem m_addL {xs ys : List AV} (h : xs.length + ys.length ≤ LIM) : pBin false .Add (.lst xs) (.lst ys) = pure (.lst (xs ++ ys)) := by
  show (do let a ← listOf (.lst xs); let b ← listOf (.lst ys); newL false (a ++ b)) = _
  show newL false (xs ++ ys) = _
  exact e_newL (by rw [List.length_append]; exact h)
theorem l0 {x : AV} {xs : List AV} : pItem (.lst (x :: xs)) (.int 0) = pure x := e_item_lst (k := 0) rfl
end Mine


set_option autoImplicit false
set_option linter.unusedVariables false
namespace Mine
open PySem PyProof.Rows

theorem compA_go {src : Src} {body : AV → M (Option AV)} (xs : List AV) (I : Nat → List AV → AHeap → Prop) (hl : xs.length < 100000)
    (hg : ∀ (i : Nat) acc H, I i acc H → src.get i H = some (.ok (xs[i]?), H))
    (hs : ∀ (i : Nat) a acc H, xs[i]? = some a → acc.length = i → I i acc H → Rn (body a) H fun o H' => ∃ y, o = some y ∧ I (i + 1) (acc ++ [y]) H') :
    ∀ (k fuel i : Nat) (acc : List AV) (H : AHeap), i + k = xs.length → acc.length = i → k < fuel → I i acc H → Rn (compLoop src body fuel i acc) H fun ys H' => I xs.length ys H' ∧ ys.length = xs.length
  | 0, 0, i, σ, H, _, _, hf, _ => absurd hf (Nat.lt_irrefl _)
  | 0, f + 1, i, acc, H, hk, ha, hf, h => by
    unfold compLoop
    refine .bof (hg i acc H h) ?_
    rw [List.getElem?_eq_none (by omega)]
    have : i = xs.length := by omega
    subst this
    exact .pure ⟨h, ha⟩
  | k + 1, 0, i, σ, H, _, _, hf, _ => absurd hf (Nat.not_lt_zero _)
  | k + 1, f + 1, i, acc, H, hk, hacc, hf, h => by
    unfold compLoop
    have hi : i < xs.length := by omega
    refine .bof (hg i acc H h) ?_
    have ha := List.getElem?_eq_getElem hi
    rw [ha]
    refine .then (hs i _ acc H ha hacc h).noX fun o H1 q => ?_
    obtain ⟨y, rfl, q⟩ := q
    have hL : acc.length < LIM := by have := LIMis; omega
    simp only [hL, if_true]
    exact compA_go xs I hl hg hs k f (i + 1) (acc ++ [y]) H1 (by omega) (by rw [List.length_append]; simp; omega) (by omega) q
/-- a comprehension without a test -/
theorem compA {src : Src} {body : AV → M (Option AV)} {H : AHeap} (xs : List AV) (I : Nat → List AV → AHeap → Prop) (hl : xs.length < 100000)
    (hg : ∀ (i : Nat) acc H, I i acc H → src.get i H = some (.ok (xs[i]?), H)) (h0 : I 0 [] H)
    (hs : ∀ (i : Nat) a acc H, xs[i]? = some a → acc.length = i → I i acc H → Rn (body a) H fun o H' => ∃ y, o = some y ∧ I (i + 1) (acc ++ [y]) H') :
    Rn (compLoop src body FUEL 0 []) H fun ys H' => I xs.length ys H' ∧ ys.length = xs.length :=
  compA_go xs I hl hg hs xs.length FUEL 0 [] H (Nat.zero_add _) rfl (by rw [FUEL_is]; exact hl) h0

theorem app_at {H : AHeap} {o : AO} : (H ++ [o])[H.length]? = some o := by simp
theorem app_lt {H : AHeap} {o : AO} {l : Nat} (h : l < H.length) : (H ++ [o])[l]? = H[l]? := List.getElem?_append_left h
theorem get_loc {H : AHeap} {l i : Nat} {xs : List AV} (h : H[l]? = some (.list xs)) : (Src.at l).get i H = some (.ok xs[i]?, H) := bind_of (listAt_is h) rfl
end Mine


set_option autoImplicit false
set_option linter.unusedVariables false
namespace Mine
open PySem PyProof.Rows

theorem e_neb (a b : Bool) : pCmp .NotEq (.bool a) (.bool b) = pure (a != b) := by cases a <;> cases b <;> kernel_rfl
noncomputable def prV (p : AV × AV) : AV := .tup [p.1, p.2]
theorem zip_map : ∀ (xs ys : List AV), List.zipWith (fun x y => AV.tup [x, y]) xs ys = (xs.zip ys).map prV
  | [], _ => by simp
  | _ :: _, [] => by simp
  | x :: xs, y :: ys => by
    show AV.tup [x, y] :: List.zipWith (fun x y => AV.tup [x, y]) xs ys = prV (x, y) :: (xs.zip ys).map prV
    rw [zip_map xs ys]; rfl
theorem set_far {H X : AHeap} {l : Nat} {o : AO} (h : H.length ≤ l) : (H ++ X).set l o = H ++ X.set (l - H.length) o := by
  rw [List.set_append, if_neg (by omega)]
theorem add_loc {H : AHeap} {l : Nat} {xs ys : List AV} (h : H[l]? = some (.list xs)) (hz : xs.length + ys.length ≤ LIM) : pBin true .Add (.loc l) (.lst ys) H = some (.ok (.loc H.length), H ++ [.list (xs ++ ys)]) :=
  bind_of (listOf_loc h) (show newL true (xs ++ ys) H = _ from newT (by rw [List.length_append]; exact hz))
theorem e_it1 {x y : AV} {xs : List AV} : pItem (.tup (x :: y :: xs)) (.int 1) = pure y := e_item_tup (k := 1) rfl
theorem e_nei {i j : Int} : pCmp .NotEq (.int i) (.int j) = pure (!decide (i = j)) := by
  show (pCmp .Eq (.int i) (.int j) >>= fun r => pure (!r)) = _
  rw [e_eqi]; rfl
theorem e_isN {a : AV} : pCmp .Is a .none = pure (pIsNone a) := rfl
end Mine


set_option autoImplicit false
set_option linter.unusedVariables false
namespace Mine
open PySem PyProof.Rows

structure Deed where
  k : Dk
  v : Int
noncomputable def deedV (d : Deed) : AV := deedK d.k d.v
inductive Kn where
  | marks | bare | new
  deriving DecidableEq
noncomputable def knS : Kn → Str
  | .marks => "marks"
  | .bare => "bare"
  | .new => "new"
inductive Nx where
  | take | look | see | put | check | walk
noncomputable def nxS : Nx → Str
  | .take => "take"
  | .look => "look"
  | .see => "see"
  | .put => "put"
  | .check => "check"
  | .walk => "walk"
inductive An where
  | none
  | int (i : Int)
  | tup (xs : List Int)
noncomputable def anV : An → AV
  | .none => .none
  | .int i => .int i
  | .tup xs => .tup (xs.map .int)
structure Wk where
  deed : Deed
  begun : Nat
  next : Nx
  own : Option Nat
  seen : Option (Option Nat × Nat)
  inside : Option (Int × Option Nat)
  walk : Option Nat
  kept : List Int
  row : Option Nat
structure Hd where
  prog : List Deed
  place : Nat
  work : Option Wk
structure Row where
  num : Nat
  place : Nat
  deed : Deed
  begun : Nat
  point : Nat
  fin : Option (Nat × An)
structure Tw where
  kind : Kn
  boxes : List (Int × Option Nat)
  head : Option Nat
  mark : Nat
  spare : List Nat
  hands : List Hd
  time : Nat
  rows : List Row
inductive Td where
  | take (b : Nat)
  | look (h : Option Nat) (m : Nat)
  | see (b : Nat) (v : Int) (u : Option Nat)
  | put (b : Bool)
  | rest

noncomputable def firstN : Dk → Nx
  | .push | .swap => .take
  | _ => .look
noncomputable def lookN : Dk → Nx
  | .push | .clear => .put
  | _ => .see
noncomputable def seeN : Dk → Nx
  | .top => .check
  | _ => .put
noncomputable def Tw.still (t : Tw) (x : Option Nat) (m : Nat) : Bool := decide (t.head = x) && (decide (t.kind ≠ .marks) || decide (t.mark = m))
/-- a deed's row, with its end -/
noncomputable def Tw.ends (t : Tw) (i p : Nat) (w : Wk) (a : An) : Tw := { t with rows := t.rows ++ [⟨i, p, w.deed, w.begun, t.time, some (t.time, a)⟩] }
noncomputable def Tw.below (t : Tw) (o : Nat) (u : Option Nat) : Tw := { t with boxes := t.boxes.set o (((t.boxes[o]?).getD (0, none)).1, u) }
noncomputable def Tw.box (t : Tw) (o : Nat) : Int × Option Nat := (t.boxes[o]?).getD (0, none)

noncomputable def opTake (t : Tw) (w : Wk) : Tw × Option Wk × Td :=
  if t.kind = .new ∨ t.spare = [] then ({ t with boxes := t.boxes ++ [(w.deed.v, none)] }, some { w with own := some t.boxes.length, next := .look }, .take t.boxes.length)
  else ({ t with spare := t.spare.dropLast, boxes := t.boxes.set (t.spare.getLastD 0) (w.deed.v, none) }, some { w with own := some (t.spare.getLastD 0), next := .look }, .take (t.spare.getLastD 0))
noncomputable def opLook (t : Tw) (i p : Nat) (w : Wk) : Tw × Option Wk × Td := match w.deed.k with
  | .push => (t.below (w.own.getD 0) t.head, some { w with seen := some (t.head, t.mark), next := .put }, .look t.head t.mark)
  | k => match t.head with
    | some h => (t, some { w with seen := some (some h, t.mark), next := lookN k }, .look (some h) t.mark)
    | none => match k with
      | .swap => (Tw.ends { t with spare := t.spare ++ [w.own.getD 0] } i p w .none, none, .look none t.mark)
      | .clear => (t.ends i p w (.tup []), none, .look none t.mark)
      | _ => (t.ends i p w .none, none, .look none t.mark)
noncomputable def opSee (t : Tw) (w : Wk) : Tw × Option Wk × Td :=
  let b := ((w.seen.getD (none, 0)).1).getD 0
  let r := t.box b
  match w.deed.k with
  | .swap => (t.below (w.own.getD 0) r.2, some { w with inside := some r, next := .put }, .see b r.1 r.2)
  | k => (t, some { w with inside := some r, next := seeN k }, .see b r.1 r.2)
noncomputable def opPut (t : Tw) (i p : Nat) (w : Wk) : Tw × Option Wk × Td :=
  let s := w.seen.getD (none, 0)
  let r := w.inside.getD (0, none)
  match t.still s.1 s.2 with
  | false => (t, some { w with next := .look }, .put false)
  | true => match w.deed.k with
    | .clear => ({ t with mark := t.mark + 1, head := none, rows := t.rows ++ [⟨i, p, w.deed, w.begun, t.time, none⟩] }, some { w with row := some t.rows.length, walk := t.head, next := .walk }, .put true)
    | .push => (Tw.ends { t with mark := t.mark + 1, head := w.own } i p w .none, none, .put true)
    | .pop => (Tw.ends { t with mark := t.mark + 1, head := r.2, spare := t.spare ++ [t.head.getD 0] } i p w (.int r.1), none, .put true)
    | _ => (Tw.ends { t with mark := t.mark + 1, head := w.own, spare := t.spare ++ [t.head.getD 0] } i p w (.int r.1), none, .put true)
noncomputable def opCheck (t : Tw) (i p : Nat) (w : Wk) : Tw × Option Wk × Td :=
  let s := w.seen.getD (none, 0)
  match t.still s.1 s.2 with
  | true => (t.ends i p w (.int (w.inside.getD (0, none)).1), none, .look t.head t.mark)
  | false => (t, some { w with next := .look }, .look t.head t.mark)
noncomputable def setFin (a : Nat × An) (r : Row) : Row := { r with fin := some a }
noncomputable def opWalk (t : Tw) (w : Wk) : Tw × Option Wk × Td :=
  let b := w.walk.getD 0
  let r := t.box b
  match r.2 with
  | some u => ({ t with spare := t.spare ++ [b] }, some { w with kept := w.kept ++ [r.1], walk := some u }, .see b r.1 (some u))
  | none => ({ t with spare := t.spare ++ [b], rows := t.rows.modify (w.row.getD 0) (setFin (t.time, .tup (w.kept ++ [r.1]))) }, none, .see b r.1 none)
noncomputable def op (t : Tw) (i p : Nat) (w : Wk) : Tw × Option Wk × Td := match w.next with
  | .take => opTake t w
  | .look => opLook t i p w
  | .see => opSee t w
  | .put => opPut t i p w
  | .check => opCheck t i p w
  | .walk => opWalk t w
noncomputable def newW (d : Deed) (time : Nat) : Wk := ⟨d, time, firstN d.k, none, none, none, none, [], none⟩
noncomputable def Hd.now (h : Hd) (time : Nat) : Option Wk := match h.work with
  | some w => some w
  | none => (h.prog[h.place]?).map fun d => newW d time
noncomputable def Hd.next (h : Hd) : Option Wk → Hd
  | some w => { h with work := some w }
  | none => { h with place := h.place + 1, work := none }
noncomputable def step (t : Tw) (i : Nat) : Tw × Td := match t.hands[i]? with
  | none => (t, .rest)
  | some h => match h.now t.time with
    | none => ({ t with time := t.time + 1 }, .rest)
    | some w => ({ (op t i h.place w).1 with hands := t.hands.set i (h.next (op t i h.place w).2.1), time := t.time + 1 }, (op t i h.place w).2.2)
end Mine


set_option autoImplicit false
set_option linter.unusedVariables false
namespace Mine
open PySem PyProof.Rows

noncomputable def IxOk (n : Nat) (x : Option Nat) : Prop := ∀ i, x = some i → i < n
theorem IxOk.mono {n m : Nat} {x : Option Nat} (h : IxOk n x) (hm : n ≤ m) : IxOk m x := fun i e => Nat.lt_of_lt_of_le (h i e) hm
theorem IxOk.none {n : Nat} : IxOk n none := fun i e => by cases e
theorem IxOk.some {n i : Nat} (h : i < n) : IxOk n (some i) := fun j e => by cases e; exact h
noncomputable def BsOk (n : Nat) (bs : List (Int × Option Nat)) : Prop := ∀ b ∈ bs, IxOk n b.2
/-- what is so of a tower at step k -/
structure TwOk (k : Nat) (t : Tw) : Prop where
  head : IxOk t.boxes.length t.head
  boxes : BsOk t.boxes.length t.boxes
  spare : ∀ i ∈ t.spare, i < t.boxes.length
  lb : t.boxes.length ≤ 60 + k
  ls : t.spare.length ≤ k
  lr : t.rows.length ≤ k
noncomputable def OwAt (n : Nat) (x : Option Nat) : Dk → Prop
  | .push => ∃ o, x = some o ∧ o < n
  | .swap => ∃ o, x = some o ∧ o < n
  | _ => True
noncomputable def OwOk (n : Nat) (w : Wk) : Prop := OwAt n w.own w.deed.k
theorem OwAt.mono {n m : Nat} {x : Option Nat} (hm : n ≤ m) : ∀ {k : Dk}, OwAt n x k → OwAt m x k
  | .push, ⟨o, h1, h2⟩ => ⟨o, h1, Nat.lt_of_lt_of_le h2 hm⟩
  | .swap, ⟨o, h1, h2⟩ => ⟨o, h1, Nat.lt_of_lt_of_le h2 hm⟩
  | .pop, h => h
  | .top, h => h
  | .clear, h => h
theorem OwAt.is {n o : Nat} (h : o < n) : ∀ k : Dk, OwAt n (some o) k
  | .push => ⟨o, rfl, h⟩
  | .swap => ⟨o, rfl, h⟩
  | .pop => trivial
  | .top => trivial
  | .clear => trivial
theorem OwOk.mono {n m : Nat} {w : Wk} (h : OwOk n w) (hm : n ≤ m) : OwOk m w := OwAt.mono hm h
noncomputable def StAt (n r : Nat) (w : Wk) : Nx → Prop
  | .take => w.row = none ∧ (w.deed.k = .push ∨ w.deed.k = .swap)
  | .look => w.row = none ∧ OwOk n w
  | .see => w.row = none ∧ OwOk n w ∧ (w.deed.k = .swap ∨ w.deed.k = .pop ∨ w.deed.k = .top) ∧ ∃ i m, i < n ∧ w.seen = some (some i, m)
  | .put => w.row = none ∧ OwOk n w ∧ w.deed.k ≠ .top ∧ ∃ x m, IxOk n x ∧ w.seen = some (x, m) ∧ (w.deed.k ≠ .push → x ≠ none) ∧ ((w.deed.k = .swap ∨ w.deed.k = .pop) → ∃ v b, w.inside = some (v, b) ∧ IxOk n b)
  | .check => w.row = none ∧ w.deed.k = .top ∧ ∃ x m v b, w.seen = some (x, m) ∧ w.inside = some (v, b)
  | .walk => w.deed.k = .clear ∧ (∃ i, i < n ∧ w.walk = some i) ∧ ∃ j, j < r ∧ w.row = some j
noncomputable def StOk (n r : Nat) (w : Wk) : Prop := StAt n r w w.next
/-- where a hand's work may stand, in a tower of n boxes and r rows -/
noncomputable def WkOk (k n r : Nat) (w : Wk) : Prop := w.kept.length ≤ k ∧ StOk n r w
theorem StAt.mono {n m r q : Nat} {w : Wk} (hm : n ≤ m) (hq : r ≤ q) : ∀ {x : Nx}, StAt n r w x → StAt m q w x
  | .take, h => h
  | .look, h => ⟨h.1, h.2.mono hm⟩
  | .see, ⟨h1, h2, h3, i, x, h4, h5⟩ => ⟨h1, h2.mono hm, h3, i, x, Nat.lt_of_lt_of_le h4 hm, h5⟩
  | .put, ⟨h1, h2, h3, x, y, h4, h5, h6, h7⟩ => ⟨h1, h2.mono hm, h3, x, y, h4.mono hm, h5, h6, fun q => let ⟨v, b, g1, g2⟩ := h7 q; ⟨v, b, g1, g2.mono hm⟩⟩
  | .check, h => h
  | .walk, ⟨h1, ⟨i, h2, h3⟩, j, h4, h5⟩ => ⟨h1, ⟨i, Nat.lt_of_lt_of_le h2 hm, h3⟩, j, Nat.lt_of_lt_of_le h4 hq, h5⟩
theorem StOk.mono {n m r q : Nat} {w : Wk} (h : StOk n r w) (hm : n ≤ m) (hq : r ≤ q) : StOk m q w := StAt.mono hm hq h
theorem WkOk.mono {k l n m r q : Nat} {w : Wk} (h : WkOk k n r w) (hk : k ≤ l) (hm : n ≤ m) (hq : r ≤ q) : WkOk l m q w := ⟨Nat.le_trans h.1 hk, h.2.mono hm hq⟩
structure HdOk (k n r : Nat) (h : Hd) : Prop where
  place : h.place ≤ h.prog.length
  work : ∀ w, h.work = some w → h.place < h.prog.length ∧ WkOk k n r w
theorem HdOk.mono {k l n m r q : Nat} {h : Hd} (x : HdOk k n r h) (hk : k ≤ l) (hm : n ≤ m) (hq : r ≤ q) : HdOk l m q h := ⟨x.place, fun w e => ⟨(x.work w e).1, (x.work w e).2.mono hk hm hq⟩⟩
/-- the whole tower, hands too -/
structure AllOk (k : Nat) (t : Tw) : Prop where
  tw : TwOk k t
  hd : ∀ h ∈ t.hands, HdOk k t.boxes.length t.rows.length h

theorem BsOk.mono {n m : Nat} {bs : List (Int × Option Nat)} (h : BsOk n bs) (hm : n ≤ m) : BsOk m bs := fun b hb => (h b hb).mono hm
theorem BsOk.app {n : Nat} {bs : List (Int × Option Nat)} {x : Int × Option Nat} (h : BsOk n bs) (hx : IxOk n x.2) : BsOk n (bs ++ [x]) := fun b hb => by
  rcases List.mem_append.mp hb with q | q
  · exact h b q
  · rw [List.mem_singleton.mp q]; exact hx
theorem BsOk.set {n o : Nat} {bs : List (Int × Option Nat)} {x : Int × Option Nat} (h : BsOk n bs) (hx : IxOk n x.2) : BsOk n (bs.set o x) := fun b hb => by
  rcases List.mem_or_eq_of_mem_set hb with q | q
  · exact h b q
  · rw [q]; exact hx
theorem BsOk.box {t : Tw} {n o : Nat} (h : BsOk n t.boxes) : IxOk n (t.box o).2 := by
  unfold Tw.box
  cases e : t.boxes[o]? with
  | none => exact .none
  | some b => exact h b (List.mem_of_getElem? e)
/-- how a step turns a tower -/
structure Gr (t t' : Tw) : Prop where
  kind : t'.kind = t.kind
  hands : t'.hands = t.hands
  time : t'.time = t.time
  bl : t.boxes.length ≤ t'.boxes.length
  rl : t.rows.length ≤ t'.rows.length
theorem Gr.refl (t : Tw) : Gr t t := ⟨rfl, rfl, rfl, Nat.le_refl _, Nat.le_refl _⟩

theorem lastD_mem {l : List Nat} (h : l ≠ []) : l.getLastD 0 ∈ l := by
  cases l with
  | nil => exact absurd rfl h
  | cons a r => rw [show (a :: r).getLastD 0 = (a :: r).getLast (List.cons_ne_nil _ _) from rfl]; exact List.getLast_mem _
section
variable {k : Nat} {t : Tw} {i p : Nat} {w : Wk}
noncomputable def OpOk (k : Nat) (t : Tw) (r : Tw × Option Wk × Td) : Prop := Gr t r.1 ∧ TwOk (k + 1) r.1 ∧ ∀ w', r.2.1 = some w' → WkOk (k + 1) r.1.boxes.length r.1.rows.length w'
theorem TwOk.up (T : TwOk k t) : TwOk (k + 1) t := ⟨T.head, T.boxes, T.spare, by have := T.lb; omega, Nat.le_succ_of_le T.ls, Nat.le_succ_of_le T.lr⟩
theorem TwOk.ends (T : TwOk k t) {s : Tw} {a : An} (h1 : s.boxes = t.boxes) (h2 : IxOk t.boxes.length s.head) (h3 : s.spare = t.spare ∨ ∃ j, j < t.boxes.length ∧ s.spare = t.spare ++ [j]) (h4 : s.rows = t.rows) (hk : s.kind = t.kind) (hh : s.hands = t.hands) (ht : s.time = t.time) {td : Td} : OpOk k t (s.ends i p w a, none, td) := by
  have lb := T.lb
  have ls := T.ls
  have lr := T.lr
  refine ⟨⟨hk, hh, ht, by show _ ≤ s.boxes.length; rw [h1]; exact Nat.le_refl _, by show _ ≤ (s.rows ++ [_]).length; rw [h4, List.length_append]; exact Nat.le_add_right _ _⟩, ⟨by show IxOk s.boxes.length _; rw [h1]; exact h2, by show BsOk s.boxes.length s.boxes; rw [h1]; exact T.boxes, ?_, by show s.boxes.length ≤ _; rw [h1]; omega, ?_, ?_⟩, fun w' e => by cases e⟩
  · show ∀ i ∈ s.spare, i < s.boxes.length
    rw [h1]
    rcases h3 with q | ⟨j, hj, q⟩
    · rw [q]; exact T.spare
    · rw [q]
      intro x hx
      rcases List.mem_append.mp hx with z | z
      · exact T.spare x z
      · rw [List.mem_singleton.mp z]; exact hj
  · show s.spare.length ≤ _
    rcases h3 with q | ⟨j, hj, q⟩
    · rw [q]; omega
    · rw [q, List.length_append]; exact Nat.succ_le_succ ls
  · show (s.rows ++ [_]).length ≤ _
    rw [h4, List.length_append]; exact Nat.succ_le_succ lr
theorem okTake (T : TwOk k t) (h1 : w.kept.length ≤ k) (h2 : w.row = none) : OpOk k t (opTake t w) := by
  have lb := T.lb
  have ow : ∀ {o m : Nat}, o < m → OwOk m { w with own := some o, next := .look } := fun {o m} ho => OwAt.is ho _
  unfold opTake
  split
  · have e : (t.boxes ++ [(w.deed.v, none)]).length = t.boxes.length + 1 := List.length_append
    refine ⟨⟨rfl, rfl, rfl, by show _ ≤ (t.boxes ++ [_]).length; omega, Nat.le_refl _⟩, ⟨T.head.mono (by show _ ≤ (t.boxes ++ [_]).length; omega), ?_, fun i hi => Nat.lt_of_lt_of_le (T.spare i hi) (by show _ ≤ (t.boxes ++ [_]).length; omega), by show (t.boxes ++ [_]).length ≤ _; omega, Nat.le_succ_of_le T.ls, Nat.le_succ_of_le T.lr⟩, fun w' q => ?_⟩
    · show BsOk (t.boxes ++ [_]).length (t.boxes ++ [_])
      rw [e]; exact (T.boxes.mono (Nat.le_succ _)).app .none
    · cases q
      exact ⟨Nat.le_succ_of_le h1, h2, ow (by show _ < (t.boxes ++ [_]).length; omega)⟩
  · rename_i hc
    have hne : t.spare ≠ [] := fun q => hc (.inr q)
    have hi := T.spare _ (lastD_mem hne)
    have e : (t.boxes.set (t.spare.getLastD 0) (w.deed.v, none)).length = t.boxes.length := List.length_set
    refine ⟨⟨rfl, rfl, rfl, Nat.le_of_eq e.symm, Nat.le_refl _⟩, ⟨T.head.mono (Nat.le_of_eq e.symm), (T.boxes.mono (Nat.le_of_eq e.symm)).set .none, fun i hi => Nat.lt_of_lt_of_le (T.spare i (List.dropLast_subset _ hi)) (Nat.le_of_eq e.symm), by show (t.boxes.set _ _).length ≤ _; omega, ?_, Nat.le_succ_of_le T.lr⟩, fun w' q => ?_⟩
    · show t.spare.dropLast.length ≤ _
      have := T.ls
      rw [List.length_dropLast]; omega
    · cases q
      exact ⟨Nat.le_succ_of_le h1, h2, ow (by show _ < (t.boxes.set _ _).length; omega)⟩
theorem below_ok (T : TwOk k t) {o : Nat} {u : Option Nat} (hu : IxOk t.boxes.length u) : Gr t (t.below o u) ∧ TwOk (k + 1) (t.below o u) ∧ (t.below o u).boxes.length = t.boxes.length := by
  have lb := T.lb
  have e : (t.below o u).boxes.length = t.boxes.length := List.length_set
  refine ⟨⟨rfl, rfl, rfl, Nat.le_of_eq e.symm, Nat.le_refl _⟩, ⟨T.head.mono (Nat.le_of_eq e.symm), (T.boxes.mono (Nat.le_of_eq e.symm)).set (hu.mono (Nat.le_of_eq e.symm)), fun i hi => Nat.lt_of_lt_of_le (T.spare i hi) (Nat.le_of_eq e.symm), by rw [e]; omega, Nat.le_succ_of_le T.ls, Nat.le_succ_of_le T.lr⟩, e⟩
theorem okLook (T : TwOk k t) (h1 : w.kept.length ≤ k) (h2 : w.row = none) (ho : OwOk t.boxes.length w) : OpOk k t (opLook t i p w) := by
  have rest : ∀ {kk : Dk}, w.deed.k = kk → kk ≠ .push → ∀ {x : Nat}, t.head = some x → OpOk k t (t, some { w with seen := some (some x, t.mark), next := lookN kk }, .look (some x) t.mark) := fun {kk} e hne {x} hx => by
    refine ⟨Gr.refl t, T.up, fun w' q => ?_⟩
    cases q
    refine ⟨Nat.le_succ_of_le h1, ?_⟩
    have hx' := T.head x hx
    cases kk with
    | push => exact absurd rfl hne
    | clear => exact ⟨h2, ho, by rw [show w.deed.k = .clear from e]; exact (fun q => by cases q), some x, t.mark, .some hx', rfl, (fun _ q => by cases q), fun q => by rw [show w.deed.k = .clear from e] at q; rcases q with q | q <;> cases q⟩
    | pop => exact ⟨h2, ho, .inr (.inl e), x, t.mark, hx', rfl⟩
    | top => exact ⟨h2, ho, .inr (.inr e), x, t.mark, hx', rfl⟩
    | swap => exact ⟨h2, ho, .inl e, x, t.mark, hx', rfl⟩
  unfold opLook
  cases hk : w.deed.k with
  | push =>
    obtain ⟨g, T1, e⟩ := below_ok (o := w.own.getD 0) T T.head
    refine ⟨g, T1, fun w' q => ?_⟩
    cases q
    refine ⟨Nat.le_succ_of_le h1, h2, ho.mono g.bl, by rw [show ({ w with seen := some (t.head, t.mark), next := Nx.put } : Wk).deed.k = .push from hk]; exact (fun q => by cases q), t.head, t.mark, T.head.mono g.bl, rfl, fun q => absurd hk q, fun q => ?_⟩
    rw [show ({ w with seen := some (t.head, t.mark), next := Nx.put } : Wk).deed.k = .push from hk] at q
    rcases q with q | q <;> cases q
  | swap =>
    cases hh : t.head with
    | some x => exact rest hk (fun q => by cases q) hh
    | none =>
      unfold OwOk at ho
      rw [hk] at ho
      obtain ⟨o, h3, h4⟩ := ho
      exact T.ends (s := { t with head := none, spare := t.spare ++ [w.own.getD 0] }) rfl .none (.inr ⟨o, h4, by rw [h3]; rfl⟩) rfl rfl rfl rfl
  | clear =>
    cases hh : t.head with
    | some x => exact rest hk (fun q => by cases q) hh
    | none => exact T.ends rfl T.head (.inl rfl) rfl rfl rfl rfl
  | pop =>
    cases hh : t.head with
    | some x => exact rest hk (fun q => by cases q) hh
    | none => exact T.ends rfl T.head (.inl rfl) rfl rfl rfl rfl
  | top =>
    cases hh : t.head with
    | some x => exact rest hk (fun q => by cases q) hh
    | none => exact T.ends rfl T.head (.inl rfl) rfl rfl rfl rfl
theorem okSee (T : TwOk k t) (h1 : w.kept.length ≤ k) (h2 : w.row = none) (ho : OwOk t.boxes.length w) (hw : w.deed.k = .swap ∨ w.deed.k = .pop ∨ w.deed.k = .top) {x m : Nat} (hx : x < t.boxes.length) (hs : w.seen = some (some x, m)) : OpOk k t (opSee t w) := by
  have hb := T.boxes.box (o := x)
  have eb : ((w.seen.getD (none, 0)).1).getD 0 = x := by rw [hs]; rfl
  unfold opSee
  simp only [eb]
  rcases hw with hk | hk | hk
  · rw [hk]
    obtain ⟨g, T1, e⟩ := below_ok (o := w.own.getD 0) T hb
    refine ⟨g, T1, fun w' q => ?_⟩
    cases q
    exact ⟨Nat.le_succ_of_le h1, h2, ho.mono g.bl, by rw [show ({ w with inside := some (t.box x), next := Nx.put } : Wk).deed.k = .swap from hk]; exact (fun q => by cases q), some x, m, (IxOk.some hx).mono g.bl, hs, (fun _ q => by cases q), fun _ => ⟨_, _, rfl, hb.mono g.bl⟩⟩
  · rw [hk]
    refine ⟨Gr.refl t, T.up, fun w' q => ?_⟩
    cases q
    exact ⟨Nat.le_succ_of_le h1, h2, ho, by rw [show ({ w with inside := some (t.box x), next := Nx.put } : Wk).deed.k = .pop from hk]; exact (fun q => by cases q), some x, m, .some hx, hs, (fun _ q => by cases q), fun _ => ⟨_, _, rfl, hb⟩⟩
  · rw [hk]
    refine ⟨Gr.refl t, T.up, fun w' q => ?_⟩
    cases q
    exact ⟨Nat.le_succ_of_le h1, h2, hk, some x, m, _, _, hs, rfl⟩
theorem still_head {x : Option Nat} {m : Nat} (h : t.still x m = true) : t.head = x := by
  unfold Tw.still at h
  rw [Bool.and_eq_true] at h
  exact of_decide_eq_true h.1
theorem okPut (T : TwOk k t) (h1 : w.kept.length ≤ k) (h2 : w.row = none) (ho : OwOk t.boxes.length w) (hw : w.deed.k ≠ .top) {x : Option Nat} {m : Nat} (hx : IxOk t.boxes.length x) (hs : w.seen = some (x, m)) (hne : w.deed.k ≠ .push → x ≠ none)
    (hi : (w.deed.k = .swap ∨ w.deed.k = .pop) → ∃ v b, w.inside = some (v, b) ∧ IxOk t.boxes.length b) : OpOk k t (opPut t i p w) := by
  have lb := T.lb
  have lr := T.lr
  have e1 : w.seen.getD (none, 0) = (x, m) := by rw [hs]; rfl
  unfold opPut
  simp only [e1]
  cases hb : t.still x m with
  | false =>
    refine ⟨Gr.refl t, T.up, fun w' q => ?_⟩
    cases q
    exact ⟨Nat.le_succ_of_le h1, h2, ho⟩
  | true =>
    have hh := still_head hb
    have hd : w.deed.k ≠ .push → ∃ j, j < t.boxes.length ∧ t.head = some j := fun q => by
      cases e : x with
      | none => exact absurd e (hne q)
      | some j => exact ⟨j, hx j e, by rw [hh, e]⟩
    cases hk : w.deed.k with
    | top => exact absurd hk hw
    | clear =>
      obtain ⟨j, hj, hj2⟩ := hd (by rw [hk]; exact fun q => by cases q)
      have er : (t.rows ++ [(⟨i, p, w.deed, w.begun, t.time, none⟩ : Row)]).length = t.rows.length + 1 := List.length_append
      refine ⟨⟨rfl, rfl, rfl, Nat.le_refl _, by show _ ≤ (t.rows ++ [_]).length; omega⟩, ⟨.none, T.boxes, T.spare, by show t.boxes.length ≤ _; omega, Nat.le_succ_of_le T.ls, by show (t.rows ++ [_]).length ≤ _; omega⟩, fun w' q => ?_⟩
      cases q
      exact ⟨Nat.le_succ_of_le h1, hk, ⟨j, hj, hj2⟩, t.rows.length, by show _ < (t.rows ++ [_]).length; omega, rfl⟩
    | push =>
      unfold OwOk at ho
      rw [hk] at ho
      obtain ⟨o, h3, h4⟩ := ho
      exact T.ends (s := { t with mark := t.mark + 1, head := w.own }) rfl (by show IxOk _ w.own; rw [h3]; exact .some h4) (.inl rfl) rfl rfl rfl rfl
    | pop =>
      obtain ⟨j, hj, hj2⟩ := hd (by rw [hk]; exact fun q => by cases q)
      obtain ⟨v, b, h5, h6⟩ := hi (.inr hk)
      exact T.ends (s := { t with mark := t.mark + 1, head := (w.inside.getD (0, none)).2, spare := t.spare ++ [t.head.getD 0] }) rfl (by show IxOk _ (w.inside.getD (0, none)).2; rw [h5]; exact h6) (.inr ⟨j, hj, by rw [hj2]; rfl⟩) rfl rfl rfl rfl
    | swap =>
      obtain ⟨j, hj, hj2⟩ := hd (by rw [hk]; exact fun q => by cases q)
      unfold OwOk at ho
      rw [hk] at ho
      obtain ⟨o, h3, h4⟩ := ho
      exact T.ends (s := { t with mark := t.mark + 1, head := w.own, spare := t.spare ++ [t.head.getD 0] }) rfl (by show IxOk _ w.own; rw [h3]; exact .some h4) (.inr ⟨j, hj, by rw [hj2]; rfl⟩) rfl rfl rfl rfl
theorem okCheck (T : TwOk k t) (h1 : w.kept.length ≤ k) (h2 : w.row = none) (hw : w.deed.k = .top) : OpOk k t (opCheck t i p w) := by
  unfold opCheck
  simp only
  cases t.still (w.seen.getD (none, 0)).1 (w.seen.getD (none, 0)).2 with
  | true => exact T.ends rfl T.head (.inl rfl) rfl rfl rfl rfl
  | false =>
    refine ⟨Gr.refl t, T.up, fun w' q => ?_⟩
    cases q
    exact ⟨Nat.le_succ_of_le h1, h2, by unfold OwOk; rw [show ({ w with next := Nx.look } : Wk).deed.k = .top from hw]; trivial⟩
theorem okWalk (T : TwOk k t) (h1 : w.kept.length ≤ k) (hw : w.deed.k = .clear) (hnx : w.next = .walk) {x j : Nat} (hx : x < t.boxes.length) (hwk : w.walk = some x) (hj : j < t.rows.length) (hr : w.row = some j) : OpOk k t (opWalk t w) := by
  have lb := T.lb
  have ls := T.ls
  have lr := T.lr
  have e1 : w.walk.getD 0 = x := by rw [hwk]; rfl
  have hbx := T.boxes.box (o := x)
  have hsp : ∀ i ∈ t.spare ++ [x], i < t.boxes.length := fun y hy => by
    rcases List.mem_append.mp hy with z | z
    · exact T.spare y z
    · rw [List.mem_singleton.mp z]; exact hx
  have els : (t.spare ++ [x]).length = t.spare.length + 1 := List.length_append
  unfold opWalk
  simp only [e1]
  cases hb : (t.box x).2 with
  | some u =>
    refine ⟨⟨rfl, rfl, rfl, Nat.le_refl _, Nat.le_refl _⟩, ⟨T.head, T.boxes, hsp, by show t.boxes.length ≤ _; omega, by show (t.spare ++ [x]).length ≤ _; omega, Nat.le_succ_of_le lr⟩, fun w' q => ?_⟩
    cases q
    refine ⟨by show (w.kept ++ [_]).length ≤ _; rw [List.length_append]; exact Nat.succ_le_succ h1, ?_⟩
    show StAt _ _ { w with kept := _, walk := _ } w.next
    rw [hnx]
    exact ⟨hw, ⟨u, hbx u hb, rfl⟩, j, hj, hr⟩
  | none =>
    have er : (t.rows.modify (w.row.getD 0) (setFin (t.time, .tup (w.kept ++ [(t.box x).1])))).length = t.rows.length := List.length_modify ..
    exact ⟨⟨rfl, rfl, rfl, Nat.le_refl _, Nat.le_of_eq er.symm⟩, ⟨T.head, T.boxes, hsp, by show t.boxes.length ≤ _; omega, by show (t.spare ++ [x]).length ≤ _; omega, by show (t.rows.modify _ _).length ≤ _; omega⟩, fun w' q => by cases q⟩
theorem op_wf (T : TwOk k t) (h : WkOk k t.boxes.length t.rows.length w) : OpOk k t (op t i p w) := by
  obtain ⟨h1, h⟩ := h
  unfold op
  unfold StOk at h
  cases hn : w.next with
  | take => rw [hn] at h; exact okTake T h1 h.1
  | look => rw [hn] at h; exact okLook T h1 h.1 h.2
  | see => rw [hn] at h; obtain ⟨a, b, c, x, m, d, e⟩ := h; exact okSee T h1 a b c d e
  | put => rw [hn] at h; obtain ⟨a, b, c, x, m, d, e, f, g⟩ := h; exact okPut T h1 a b c d e f g
  | check => rw [hn] at h; exact okCheck T h1 h.1 h.2.1
  | walk => rw [hn] at h; obtain ⟨a, ⟨x, b, c⟩, j, d, e⟩ := h; exact okWalk T h1 a hn b c d e
end
end Mine


set_option autoImplicit false
set_option linter.unusedVariables false
namespace Mine
open PySem PyProof.Rows

noncomputable def ixV : Option Nat → AV
  | none => .none
  | some i => .int i
noncomputable def natV (i : Nat) : AV := .int i
noncomputable def bxV (b : Int × Option Nat) : AV := .tup [.int b.1, ixV b.2]
noncomputable def seenV : Option (Option Nat × Nat) → AV
  | none => .none
  | some (x, m) => .tup [ixV x, .int m]
noncomputable def insV : Option (Int × Option Nat) → AV
  | none => .none
  | some b => bxV b
noncomputable def finT : Option (Nat × An) → AV
  | none => .none
  | some a => .int a.1
noncomputable def finA : Option (Nat × An) → AV
  | none => .none
  | some a => anV a.2
noncomputable def rwV (r : Row) : AV := .tup [.int r.num, .int r.place, deedV r.deed, .int r.begun, .int r.point, finT r.fin, finA r.fin]
noncomputable def tdV : Td → AV
  | .take b => .tup [.str "take", .int b]
  | .look h m => .tup [.str "look", ixV h, .int m]
  | .see b v u => .tup [.str "see", .int b, .int v, ixV u]
  | .put b => .tup [.str "put", .bool b]
  | .rest => .tup [.str "rest"]
structure Ly where
  st : Nat
  lb : Nat
  lsp : Nat
  lh : Nat
  lr : Nat
  hs : List AV
structure Lh where
  hd : Nat
  w : Nat
  kp : Nat
/-- the tower t, at the hand whose program is pr -/
noncomputable def cn (L : Ly) (l : Lh) (t : Tw) (pr : List Deed) (p : Nat) (wv : AV) (w : Wk) : Cn where
  st := L.st
  lb := L.lb
  lsp := L.lsp
  lh := L.lh
  lr := L.lr
  hd := l.hd
  w := l.w
  kp := l.kp
  kind := knS t.kind
  boxes := t.boxes.map bxV
  head := ixV t.head
  mark := t.mark
  spare := t.spare.map natV
  hs := L.hs
  time := t.time
  rows := t.rows.map rwV
  prog := pr.map deedV
  place := p
  wv := wv
  deed := deedV w.deed
  begun := w.begun
  next := nxS w.next
  own := ixV w.own
  seen := seenV w.seen
  inside := insV w.inside
  walk := ixV w.walk
  kept := w.kept.map .int
  row := ixV w.row
/-- the hand's word, as the text has it -/
noncomputable def dkS : Dk → Str
  | .push => "push"
  | .pop => "pop"
  | .top => "top"
  | .swap => "swap"
  | .clear => "clear"
noncomputable def dkR (k : Dk) (v : Int) : List AV := match k with
  | .push => [.int v]
  | .swap => [.int v]
  | _ => []
theorem deedK_is (k : Dk) (v : Int) : deedK k v = .tup (.str (dkS k) :: dkR k v) := by cases k <;> rfl
/-- behind a hand's step -/
noncomputable def Done (H₀ : AHeap) (L : Ly) (l : Lh) (pr : List Deed) (p : Nat) (r : Tw × Option Wk × Td) (told : AV) (H' : AHeap) : Prop :=
  told = tdV r.2.2 ∧ match r.2.1 with
    | some w' => Foc H₀ H' (cn L l r.1 pr p (.loc l.w) w')
    | none => ∃ w', Foc H₀ H' (cn L l r.1 pr (p + 1) .none w')
theorem foc_eq {H₀ H : AHeap} {c c' : Cn} (F : Foc H₀ H c) (e : c = c') : Foc H₀ H c' := e ▸ F
theorem box_at {t : Tw} {i : Nat} (h : i < t.boxes.length) : (t.boxes.map bxV)[i]? = some (.tup [.int (t.box i).1, ixV (t.box i).2]) := by
  rw [List.getElem?_map, List.getElem?_eq_getElem h]
  unfold Tw.box
  rw [List.getElem?_eq_getElem h]; rfl
theorem row_at {t : Tw} {j : Nat} (h : j < t.rows.length) : ∃ r : Row, t.rows[j]? = some r ∧ (t.rows.map rwV)[j]? = some (.tup [.int r.num, .int r.place, deedV r.deed, .int r.begun, .int r.point, finT r.fin, finA r.fin]) :=
  ⟨t.rows[j], List.getElem?_eq_getElem h, by rw [List.getElem?_map, List.getElem?_eq_getElem h]; rfl⟩
end Mine


set_option autoImplicit false
set_option linter.unusedVariables false
namespace Mine
open PySem PyProof.Rows
theorem newW_ok {k n r : Nat} {time : Nat} (d : Deed) : WkOk k n r (newW d time) := by
  refine ⟨Nat.zero_le _, ?_⟩
  show StAt n r (newW d time) (firstN d.k)
  cases hk : d.k with
  | push => exact ⟨rfl, .inl hk⟩
  | swap => exact ⟨rfl, .inr hk⟩
  | _ => exact ⟨rfl, by unfold OwOk; show OwAt n none d.k; rw [hk]; trivial⟩
theorem step_wf {k i : Nat} {t : Tw} (A : AllOk k t) : AllOk (k + 1) (step t i).1 := by
  have up : ∀ h ∈ t.hands, HdOk (k + 1) t.boxes.length t.rows.length h := fun h hm => (A.hd h hm).mono (Nat.le_succ _) (Nat.le_refl _) (Nat.le_refl _)
  unfold step
  cases hh : t.hands[i]? with
  | none => exact ⟨A.tw.up, up⟩
  | some h =>
    show AllOk (k + 1) (match h.now t.time with | none => _ | some w => _ : Tw × Td).1
    cases hn : h.now t.time with
    | none => exact ⟨⟨A.tw.up.head, A.tw.up.boxes, A.tw.up.spare, A.tw.up.lb, A.tw.up.ls, A.tw.up.lr⟩, up⟩
    | some w =>
      have HK := A.hd h (List.mem_of_getElem? hh)
      have hw : h.place < h.prog.length ∧ WkOk k t.boxes.length t.rows.length w := by
        unfold Hd.now at hn
        cases e : h.work with
        | some w1 => rw [e] at hn; cases hn; exact HK.work w e
        | none =>
          rw [e] at hn
          obtain ⟨d, h1, h2⟩ := Option.map_eq_some_iff.mp hn
          subst h2
          exact ⟨(List.getElem?_eq_some_iff.mp h1).1, newW_ok d⟩
      obtain ⟨G, T, W⟩ := op_wf (i := i) (p := h.place) A.tw hw.2
      refine ⟨⟨T.head, T.boxes, T.spare, T.lb, T.ls, T.lr⟩, fun h1 hm => ?_⟩
      rcases List.mem_or_eq_of_mem_set hm with q | q
      · exact (A.hd h1 q).mono (Nat.le_succ _) G.bl G.rl
      · subst q
        cases e : (op t i h.place w).2.1 with
        | some w' => exact ⟨Nat.le_of_lt hw.1, fun w2 q => by cases q; exact ⟨hw.1, W w' e⟩⟩
        | none => exact ⟨hw.1, fun w2 q => by cases q⟩
/-- the boxes that a tower begins with -/
noncomputable def bx0 (xs : List Int) : List (Int × Option Nat) := xs.mapIdx fun i v => (v, if i + 1 = xs.length then none else some (i + 1))
noncomputable def tw0 (kd : Kn) (xs : List Int) (ps : List (List Deed)) : Tw := ⟨kd, bx0 xs, if xs.length = 0 then none else some 0, 0, [], ps.map fun p => ⟨p, 0, none⟩, 0, []⟩
theorem bx0_len (xs : List Int) : (bx0 xs).length = xs.length := List.length_mapIdx
theorem bx0_at {xs : List Int} {i : Nat} {v : Int} (h : xs[i]? = some v) : (bx0 xs)[i]? = some (v, if i + 1 = xs.length then none else some (i + 1)) := by
  unfold bx0
  rw [List.getElem?_mapIdx, h]; rfl
theorem tw0_ok {kd : Kn} {xs : List Int} {ps : List (List Deed)} (hx : xs.length ≤ 60) : AllOk 0 (tw0 kd xs ps) where
  tw := by
    refine ⟨fun i e => ?_, fun b hb => ?_, fun i hi => (nomatch hi), ?_, Nat.le_refl _, Nat.le_refl _⟩
    · show i < (bx0 xs).length
      rw [bx0_len]
      have e : (if xs.length = 0 then none else some 0 : Option Nat) = some i := e
      split at e
      · cases e
      · cases e; omega
    · show IxOk (bx0 xs).length b.2
      rw [bx0_len]
      obtain ⟨i, hi⟩ := List.mem_iff_getElem?.mp hb
      have hl : i < xs.length := by have := (List.getElem?_eq_some_iff.mp hi).1; rw [show (tw0 kd xs ps).boxes = bx0 xs from rfl, bx0_len] at this; exact this
      have := bx0_at (List.getElem?_eq_getElem hl)
      rw [show (tw0 kd xs ps).boxes = bx0 xs from rfl, this] at hi
      cases hi
      show IxOk xs.length (if i + 1 = xs.length then none else some (i + 1))
      split
      · exact .none
      · exact .some (by omega)
    · show (bx0 xs).length ≤ _
      rw [bx0_len]; exact hx
  hd := fun h hm => by
    obtain ⟨p, _, rfl⟩ := List.mem_map.mp hm
    exact ⟨Nat.zero_le _, fun w e => nomatch e⟩
noncomputable def run (t : Tw) : List Nat → Tw
  | [] => t
  | i :: r => run (step t i).1 r
noncomputable def tolds (t : Tw) : List Nat → List Td
  | [] => []
  | i :: r => (step t i).2 :: tolds (step t i).1 r
theorem run_snoc : ∀ (t : Tw) (W : List Nat) (x : Nat), run t (W ++ [x]) = (step (run t W) x).1
  | _, [], _ => rfl
  | t, i :: r, x => run_snoc (step t i).1 r x
theorem tolds_snoc : ∀ (t : Tw) (W : List Nat) (x : Nat), tolds t (W ++ [x]) = tolds t W ++ [(step (run t W) x).2]
  | _, [], _ => rfl
  | t, i :: r, x => congrArg ((step t i).2 :: ·) (tolds_snoc (step t i).1 r x)
theorem tolds_len : ∀ (t : Tw) (W : List Nat), (tolds t W).length = W.length
  | _, [] => rfl
  | t, i :: r => congrArg Nat.succ (tolds_len (step t i).1 r)
theorem run_ok : ∀ {t : Tw} {k : Nat} (W : List Nat), AllOk k t → AllOk (k + W.length) (run t W)
  | _, _, [], A => A
  | t, k, i :: r, A => by
    have := run_ok r (step_wf (i := i) A)
    rw [Nat.add_assoc, Nat.add_comm 1] at this
    exact this
theorem step_hands (t : Tw) (i : Nat) {k : Nat} (A : AllOk k t) : (step t i).1.hands.length = t.hands.length := by
  unfold step
  cases hh : t.hands[i]? with
  | none => rfl
  | some h =>
    show (match h.now t.time with | none => _ | some w => _ : Tw × Td).1.hands.length = _
    cases h.now t.time with
    | none => rfl
    | some w => exact List.length_set ..
theorem run_hands : ∀ (t : Tw) (W : List Nat) {k : Nat}, AllOk k t → (run t W).hands.length = t.hands.length
  | _, [], _, _ => rfl
  | t, i :: r, _, A => (run_hands (step t i).1 r (step_wf A)).trans (step_hands t i A)
end Mine


set_option autoImplicit false
set_option linter.unusedVariables false
namespace Mine
open PySem PyProof.Rows

/-- the boxes from x on -/
def Ch (bs : List (Int × Option Nat)) : Option Nat → List Nat → Prop
  | x, [] => x = none
  | x, b :: r => x = some b ∧ ∃ v u, bs[b]? = some (v, u) ∧ Ch bs u r
def vl (bs : List (Int × Option Nat)) (c : List Nat) : List Int := c.map fun b => ((bs[b]?).getD (0, none)).1
theorem Ch.congr {bs bs' : List (Int × Option Nat)} : ∀ {c : List Nat} {x : Option Nat}, Ch bs x c → (∀ b ∈ c, bs'[b]? = bs[b]?) → Ch bs' x c
  | [], _, h, _ => h
  | b :: r, x, ⟨e, v, u, h1, h2⟩, h => ⟨e, v, u, (h b List.mem_cons_self).trans h1, h2.congr fun c hc => h c (List.mem_cons_of_mem _ hc)⟩
theorem vl_congr {bs bs' : List (Int × Option Nat)} {c : List Nat} (h : ∀ b ∈ c, bs'[b]? = bs[b]?) : vl bs' c = vl bs c := List.map_congr_left fun b hb => by rw [h b hb]
theorem Ch.lt {bs : List (Int × Option Nat)} : ∀ {c : List Nat} {x : Option Nat}, Ch bs x c → ∀ b ∈ c, b < bs.length
  | b :: r, x, ⟨_, _, _, h1, h2⟩, c, hc => (List.mem_cons.mp hc).elim (fun e => e ▸ (List.getElem?_eq_some_iff.mp h1).1) fun hc => h2.lt c hc
/-- who has box b: 0 the pile, 1 the spare ones, 2i+2 hand i (its own box), 2i+3 hand i (the chain it walks) -/
abbrev Ow := Nat → Nat
section
variable {t t' : Tw} {xs : List Int} {ps : List (List Deed)} {ow ow' : Ow} {i j : Nat} {h : Hd} {w : Wk} {pile : List Nat}
end
end Mine


set_option autoImplicit false
set_option linter.unusedVariables false
namespace Mine
open PySem PyProof.Rows

section
variable {t t' : Tw} {xs : List Int} {ps : List (List Deed)} {ow ow' : Ow} {i k : Nat} {h : Hd} {w w' : Wk} {pile : List Nat}
end
end Mine


set_option autoImplicit false
set_option linter.unusedVariables false
namespace Mine
open PySem PyProof.Rows

section
variable {t t' : Tw} {xs : List Int} {ps : List (List Deed)} {ow ow' : Ow} {i k : Nat} {h : Hd} {w w' : Wk} {pile : List Nat}
end
end Mine


set_option autoImplicit false
set_option linter.unusedVariables false
namespace Mine
open PySem PyProof.Rows

section
variable {t t' : Tw} {xs : List Int} {ps : List (List Deed)} {ow ow' : Ow} {i k : Nat} {h : Hd} {w w' : Wk} {pile : List Nat}
end
end Mine


set_option autoImplicit false
set_option linter.unusedVariables false
namespace Mine
open PySem PyProof.Rows

section
variable {t t' : Tw} {xs : List Int} {ps : List (List Deed)} {ow ow' : Ow} {i k : Nat} {h : Hd} {w w' : Wk} {pile : List Nat}
theorem ch0 (xs : List Int) : ∀ (n i : Nat), i + n = xs.length → Ch (bx0 xs) (if i = xs.length then none else some i) (List.range' i n) ∧ vl (bx0 xs) (List.range' i n) = xs.drop i
  | 0, i, h => by
    have h : i = xs.length := h
    rw [if_pos h, List.drop_of_length_le (Nat.le_of_eq h.symm)]
    exact ⟨rfl, rfl⟩
  | n + 1, i, h => by
    have hi : i < xs.length := by omega
    obtain ⟨g1, g2⟩ := ch0 xs n (i + 1) (by omega)
    have hb := bx0_at (List.getElem?_eq_getElem hi)
    rw [if_neg (Nat.ne_of_lt hi), List.range'_succ, List.drop_eq_getElem_cons hi, ← g2]
    refine ⟨⟨rfl, _, _, hb, g1⟩, ?_⟩
    show ((bx0 xs)[i]?.getD (0, none)).1 :: _ = _
    rw [hb]; rfl
end
end Mine


set_option autoImplicit false
set_option linter.unusedVariables false
namespace Mine
open PySem PyProof.Rows

/-- the tower t, hand i turned to x -/
noncomputable def Tw.hd (t : Tw) (i : Nat) (x : Hd) : Tw := { t with hands := t.hands.set i x }
theorem hd_hd (t : Tw) (i : Nat) (x y : Hd) : (t.hd i x).hd i y = t.hd i y := by
  unfold Tw.hd
  simp only [List.set_set]
theorem op_hd (t : Tw) (i j p : Nat) (x : Hd) (w : Wk) : op (t.hd j x) i p w = ((op t i p w).1.hd j x, (op t i p w).2) := by
  unfold op
  cases w.next with
  | take =>
    show opTake _ _ = (Tw.hd (opTake t w).1 j x, (opTake t w).2)
    unfold opTake
    by_cases h : t.kind = .new ∨ t.spare = []
    · rw [if_pos h, if_pos (show (t.hd j x).kind = .new ∨ (t.hd j x).spare = [] from h)]; rfl
    · rw [if_neg h, if_neg (show ¬ ((t.hd j x).kind = .new ∨ (t.hd j x).spare = []) from h)]; rfl
  | look =>
    show opLook _ _ _ _ = (Tw.hd (opLook t i p w).1 j x, (opLook t i p w).2)
    unfold opLook
    rw [show (t.hd j x).head = t.head from rfl]
    cases w.deed.k <;> cases t.head <;> rfl
  | see =>
    show opSee _ _ = (Tw.hd (opSee t w).1 j x, (opSee t w).2)
    unfold opSee
    cases w.deed.k <;> rfl
  | put =>
    show opPut _ _ _ _ = (Tw.hd (opPut t i p w).1 j x, (opPut t i p w).2)
    unfold opPut
    simp only [show ∀ x1 m, (t.hd j x).still x1 m = t.still x1 m from fun _ _ => rfl]
    cases t.still (w.seen.getD (none, 0)).1 (w.seen.getD (none, 0)).2 <;> cases w.deed.k <;> rfl
  | check =>
    show opCheck _ _ _ _ = (Tw.hd (opCheck t i p w).1 j x, (opCheck t i p w).2)
    unfold opCheck
    simp only [show ∀ x1 m, (t.hd j x).still x1 m = t.still x1 m from fun _ _ => rfl]
    cases t.still (w.seen.getD (none, 0)).1 (w.seen.getD (none, 0)).2 <;> rfl
  | walk =>
    show opWalk _ _ = (Tw.hd (opWalk t w).1 j x, (opWalk t w).2)
    unfold opWalk
    simp only [show ∀ b, (t.hd j x).box b = t.box b from fun _ => rfl]
    cases (t.box (w.walk.getD 0)).2 <;> rfl
theorem op_hands (t : Tw) (i p : Nat) (w : Wk) : (op t i p w).1.hands = t.hands ∧ (op t i p w).1.time = t.time := by
  unfold op
  cases w.next with
  | take =>
    show (opTake t w).1.hands = _ ∧ _
    unfold opTake
    by_cases h : t.kind = .new ∨ t.spare = []
    · rw [if_pos h]; exact ⟨rfl, rfl⟩
    · rw [if_neg h]; exact ⟨rfl, rfl⟩
  | look =>
    show (opLook t i p w).1.hands = _ ∧ (opLook t i p w).1.time = _
    unfold opLook
    cases w.deed.k <;> cases t.head <;> exact ⟨rfl, rfl⟩
  | see =>
    show (opSee t w).1.hands = _ ∧ (opSee t w).1.time = _
    unfold opSee
    cases w.deed.k <;> exact ⟨rfl, rfl⟩
  | put =>
    show (opPut t i p w).1.hands = _ ∧ (opPut t i p w).1.time = _
    unfold opPut
    simp only
    cases t.still (w.seen.getD (none, 0)).1 (w.seen.getD (none, 0)).2 <;> cases w.deed.k <;> exact ⟨rfl, rfl⟩
  | check =>
    show (opCheck t i p w).1.hands = _ ∧ (opCheck t i p w).1.time = _
    unfold opCheck
    simp only
    cases t.still (w.seen.getD (none, 0)).1 (w.seen.getD (none, 0)).2 <;> exact ⟨rfl, rfl⟩
  | walk =>
    show (opWalk t w).1.hands = _ ∧ (opWalk t w).1.time = _
    unfold opWalk
    simp only
    cases (t.box (w.walk.getD 0)).2 <;> exact ⟨rfl, rfl⟩
/-- a step of time -/
noncomputable def Tw.tick (t : Tw) : Tw := { t with time := t.time + 1 }
theorem step_now {t : Tw} {i : Nat} {h : Hd} {w : Wk} (hi : t.hands[i]? = some h) (hw : h.now t.time = some w) : step t i = ((op t i h.place w).1.tick.hd i (h.next (op t i h.place w).2.1), (op t i h.place w).2.2) := by
  unfold step
  rw [hi]
  show (match h.now t.time with | none => _ | some w => _ : Tw × Td) = _
  rw [hw]
  obtain ⟨h1, h2⟩ := op_hands t i h.place w
  unfold Tw.tick Tw.hd
  rw [h1, h2]
/-- hand i has work w -/
noncomputable def Tw.at (t : Tw) (i : Nat) (h : Hd) (w : Wk) : Tw := t.hd i { h with work := some w }
noncomputable def Tw.past (t : Tw) (i : Nat) (h : Hd) : Tw := t.hd i ⟨h.prog, h.place + 1, none⟩
theorem step_at {t : Tw} {i : Nat} {h : Hd} {w : Wk} (hi : i < t.hands.length) : step (t.at i h w) i = ((op t i h.place w).1.tick.hd i (h.next (op t i h.place w).2.1), (op t i h.place w).2.2) := by
  have e : (t.at i h w).hands[i]? = some { h with work := some w } := List.getElem?_set_self hi
  rw [step_now e rfl, show op (t.at i h w) i h.place w = _ from op_hd ..]
  refine Prod.ext ?_ rfl
  show Tw.hd (Tw.tick (Tw.hd _ i _)) i _ = _
  cases (op t i h.place w).2.1 <;> exact hd_hd (Tw.tick (op t i h.place w).1) i _ _
/-- hand i does n steps -/
noncomputable def turns (t : Tw) (i n : Nat) : Tw := run t (List.replicate n i)
theorem turns_succ (t : Tw) (i n : Nat) : turns t i (n + 1) = turns (step t i).1 i n := rfl
theorem turns_go {t t' : Tw} {i n : Nat} {h : Hd} {w w' : Wk} {td : Td} (hi : i < t.hands.length) (e : op t i h.place w = (t', some w', td)) : turns (t.at i h w) i (n + 1) = turns (t'.tick.at i h w') i n := by
  rw [turns_succ, step_at hi, e]; rfl
theorem turns_end {t t' : Tw} {i n : Nat} {h : Hd} {w : Wk} {td : Td} (hi : i < t.hands.length) (e : op t i h.place w = (t', none, td)) : turns (t.at i h w) i (n + 1) = turns (t'.tick.past i h) i n := by
  rw [turns_succ, step_at hi, e]; rfl
theorem turns_zero (t : Tw) (i : Nat) : turns t i 0 = t := rfl
theorem mod_last {rs : List Row} {r : Row} {f : Row → Row} : (rs ++ [r]).modify rs.length f = rs ++ [f r] := by
  induction rs with
  | nil => rfl
  | cons a l ih => rw [List.cons_append, List.length_cons, List.modify_succ_cons, ih]; rfl
section
variable {t : Tw} {i p : Nat} {w : Wk}
theorem op_take (h : w.next = .take) : op t i p w = opTake t w := by unfold op; rw [h]
theorem op_look (h : w.next = .look) : op t i p w = opLook t i p w := by unfold op; rw [h]
theorem op_see (h : w.next = .see) : op t i p w = opSee t w := by unfold op; rw [h]
theorem op_put (h : w.next = .put) : op t i p w = opPut t i p w := by unfold op; rw [h]
theorem op_check (h : w.next = .check) : op t i p w = opCheck t i p w := by unfold op; rw [h]
theorem op_walk (h : w.next = .walk) : op t i p w = opWalk t w := by unfold op; rw [h]
end
/-- the walk down a chain -/
theorem walks : ∀ (c : List Nat) {t : Tw} {i b j : Nat} {h : Hd} {w : Wk}, i < t.hands.length → w.next = .walk → w.walk = some b → w.row = some j → Ch t.boxes (some b) (b :: c) →
    turns (t.at i h w) i (c.length + 1) = Tw.past { t with spare := t.spare ++ (b :: c), rows := t.rows.modify j (setFin (t.time + c.length, .tup (w.kept ++ vl t.boxes (b :: c)))), time := t.time + c.length + 1 } i h
  | [], t, i, b, j, h, w, hi, h1, h2, h3, ⟨_, v, u, hb, hc⟩ => by
    cases hc
    have e : op t i h.place w = ({ t with spare := t.spare ++ [b], rows := t.rows.modify j (setFin (t.time, .tup (w.kept ++ [v]))) }, none, .see b v none) := by
      rw [op_walk h1]
      unfold opWalk
      rw [h2, h3]
      simp only [show t.box ((some b).getD 0) = (v, none) from by unfold Tw.box; rw [show (some b).getD 0 = b from rfl, hb]; rfl]
      rfl
    rw [turns_end hi e]
    show _ = Tw.past _ i h
    rw [show ([] : List Nat).length = 0 from rfl, turns_zero]
    rw [show vl t.boxes [b] = [v] from by show [((t.boxes[b]?).getD (0, none)).1] = _; rw [hb]; rfl]
    rfl
  | b' :: c, t, i, b, j, h, w, hi, h1, h2, h3, ⟨_, v, u, hb, hc⟩ => by
    have hu : u = some b' := hc.1
    subst hu
    have e : op t i h.place w = ({ t with spare := t.spare ++ [b] }, some { w with kept := w.kept ++ [v], walk := some b' }, .see b v (some b')) := by
      rw [op_walk h1]
      unfold opWalk
      rw [h2]
      simp only [show t.box ((some b).getD 0) = (v, some b') from by unfold Tw.box; rw [show (some b).getD 0 = b from rfl, hb]; rfl]
      rfl
    rw [List.length_cons, turns_go hi e, walks c (t := Tw.tick { t with spare := t.spare ++ [b] }) (w := { w with kept := w.kept ++ [v], walk := some b' }) (j := j) hi h1 rfl h3 hc]
    unfold Tw.past Tw.hd Tw.tick
    have ev : vl t.boxes (b :: b' :: c) = v :: vl t.boxes (b' :: c) := by show ((t.boxes[b]?).getD (0, none)).1 :: _ = _; rw [hb]; rfl
    simp only [ev, List.append_assoc, List.cons_append, List.nil_append]
    simp only [Nat.add_assoc, Nat.add_comm 1, Nat.add_left_comm 1]
end Mine


set_option autoImplicit false
set_option linter.unusedVariables false
namespace Mine
open PySem PyProof.Rows

/-- what a deed from its look on does, done alone: its steps, its point, the marks, the boxes, the head, what goes to the spare ones, the answer -/
noncomputable def cost : Dk → Nat → Nat
  | .push, _ => 2
  | _, 0 => 1
  | .clear, n + 1 => n + 3
  | _, _ + 1 => 3
noncomputable def ptAt : Dk → Nat → Nat
  | .push, _ => 1
  | _, 0 => 0
  | .clear, _ + 1 => 1
  | _, _ + 1 => 2
noncomputable def incM : Dk → Nat → Nat
  | .push, _ => 1
  | .top, _ => 0
  | _, 0 => 0
  | _, _ + 1 => 1
noncomputable def aB (t : Tw) (o : Nat) : Dk → List Nat → List (Int × Option Nat)
  | .push, _ => t.boxes.set o ((t.box o).1, t.head)
  | .swap, b :: _ => t.boxes.set o ((t.box o).1, (t.box b).2)
  | _, _ => t.boxes
noncomputable def aH (t : Tw) (o : Nat) : Dk → List Nat → Option Nat
  | .push, _ => some o
  | .swap, _ :: _ => some o
  | .pop, b :: _ => (t.box b).2
  | .clear, _ => none
  | _, _ => t.head
noncomputable def aS (o : Nat) : Dk → List Nat → List Nat
  | .swap, [] => [o]
  | .swap, b :: _ => [b]
  | .pop, b :: _ => [b]
  | .clear, p => p
  | _, _ => []
noncomputable def aA (t : Tw) : Dk → List Nat → An
  | .push, _ => .none
  | .clear, p => .tup (vl t.boxes p)
  | _, [] => .none
  | _, b :: _ => .int (t.box b).1
noncomputable def aPl (o : Nat) : Dk → List Nat → List Nat
  | .push, p => o :: p
  | .swap, _ :: r => o :: r
  | .pop, _ :: r => r
  | .clear, _ => []
  | _, p => p
noncomputable def aft1 (t : Tw) (i p o : Nat) (w : Wk) (pile : List Nat) : Tw where
  kind := t.kind
  boxes := aB t o w.deed.k pile
  head := aH t o w.deed.k pile
  mark := t.mark + incM w.deed.k pile.length
  spare := t.spare ++ aS o w.deed.k pile
  hands := t.hands
  time := t.time + cost w.deed.k pile.length
  rows := t.rows ++ [⟨i, p, w.deed, w.begun, t.time + ptAt w.deed.k pile.length, some (t.time + (cost w.deed.k pile.length - 1), aA t w.deed.k pile)⟩]
section
variable {t : Tw} {i p o : Nat} {w : Wk} {h : Hd}
theorem still_self (t : Tw) : t.still t.head t.mark = true := by
  unfold Tw.still
  simp
theorem still_some {b : Nat} (e : t.head = some b) : t.still (some b) t.mark = true := e ▸ still_self t
theorem ch_cons {b : Nat} {r : List Nat} (h : Ch t.boxes t.head (b :: r)) : t.head = some b ∧ ∃ v u, t.box b = (v, u) ∧ Ch t.boxes u r := by
  obtain ⟨e, v, u, h1, h2⟩ := h
  exact ⟨e, v, u, by unfold Tw.box; rw [h1]; rfl, h2⟩
theorem fromLook {pile : List Nat} (hi : i < t.hands.length) (hl : w.next = .look) (hk : w.kept = []) (hc : Ch t.boxes t.head pile) (ho : w.own = some o ∨ (w.deed.k ≠ .push ∧ w.deed.k ≠ .swap)) :
    turns (t.at i h w) i (cost w.deed.k pile.length) = (aft1 t i h.place o w pile).past i h := by
  unfold aft1
  cases hd : w.deed.k with
  | push =>
    have ho : w.own = some o := ho.elim id fun q => absurd hd q.1
    have e1 : op t i h.place w = (t.below o t.head, some { w with seen := some (t.head, t.mark), next := .put }, .look t.head t.mark) := by
      rw [op_look hl]
      unfold opLook
      rw [hd, ho]; rfl
    have e2 : op (t.below o t.head).tick i h.place { w with seen := some (t.head, t.mark), next := .put } = (Tw.ends { (t.below o t.head).tick with mark := t.mark + 1, head := w.own } i h.place { w with seen := some (t.head, t.mark), next := .put } .none, none, .put true) := by
      rw [op_put rfl]
      unfold opPut
      simp only [Option.getD_some, show (t.below o t.head).tick.still t.head t.mark = true from still_self t]
      rw [show ({ w with seen := some (t.head, t.mark), next := .put } : Wk).deed.k = .push from hd]; rfl
    rw [show cost .push pile.length = 2 from rfl, turns_go hi e1, turns_end (t := (t.below o t.head).tick) hi e2, turns_zero, ho]
    simp only [aS, List.append_nil]
    rfl
  | clear =>
    cases pile with
    | nil =>
      have e1 : op t i h.place w = (t.ends i h.place w (.tup []), none, .look none t.mark) := by
        rw [op_look hl]
        unfold opLook
        rw [hd, show t.head = none from hc]
      rw [show cost .clear ([] : List Nat).length = 1 from rfl, turns_end hi e1, turns_zero]
      simp only [aS, List.append_nil, aH]
      unfold Tw.ends Tw.tick
      rw [show t.head = none from hc]; rfl
    | cons b r =>
      obtain ⟨eh, v, u, hb, hc'⟩ := ch_cons hc
      have e1 : op t i h.place w = (t, some { w with seen := some (some b, t.mark), next := .put }, .look (some b) t.mark) := by
        rw [op_look hl]
        unfold opLook
        rw [hd, eh]; rfl
      have e2 : op t.tick i h.place { w with seen := some (some b, t.mark), next := .put } = ({ t.tick with mark := t.mark + 1, head := none, rows := t.rows ++ [⟨i, h.place, w.deed, w.begun, t.time + 1, none⟩] }, some { w with seen := some (some b, t.mark), row := some t.rows.length, walk := some b, next := .walk }, .put true) := by
        rw [op_put rfl]
        unfold opPut
        simp only [Option.getD_some, show t.tick.still (some b) t.mark = true from still_some eh]
        rw [show ({ w with seen := some (some b, t.mark), next := .put } : Wk).deed.k = .clear from hd]
        show (_, some { w with seen := _, row := _, walk := t.head, next := _ }, _) = _
        rw [eh]; rfl
      rw [List.length_cons, show cost .clear (r.length + 1) = (r.length + 1) + 1 + 1 from rfl, turns_go hi e1, turns_go (t := t.tick) hi e2]
      refine (walks r (b := b) (j := t.rows.length) ?_ rfl rfl rfl ?_).trans ?_
      · exact hi
      · exact eh ▸ hc
      unfold Tw.tick
      simp only [hk, List.nil_append, mod_last]
      unfold Tw.past Tw.hd setFin
      simp only [aS, aA, aH, aB, incM, ptAt, cost]
      rw [show t.time + 1 + 1 + r.length = t.time + (r.length + 2) by omega]
      rfl
  | pop =>
    cases pile with
    | nil =>
      have e1 : op t i h.place w = (t.ends i h.place w .none, none, .look none t.mark) := by
        rw [op_look hl]
        unfold opLook
        rw [hd, show t.head = none from hc]
      rw [show cost .pop ([] : List Nat).length = 1 from rfl, turns_end hi e1, turns_zero]
      simp only [aS, List.append_nil]
      rfl
    | cons b r =>
      obtain ⟨eh, v, u, hb, hc'⟩ := ch_cons hc
      have e1 : op t i h.place w = (t, some { w with seen := some (some b, t.mark), next := .see }, .look (some b) t.mark) := by
        rw [op_look hl]
        unfold opLook
        rw [hd, eh]; rfl
      have e2 : op t.tick i h.place { w with seen := some (some b, t.mark), next := .see } = (t.tick, some { w with seen := some (some b, t.mark), inside := some (v, u), next := .put }, .see b v u) := by
        rw [op_see rfl]
        unfold opSee
        simp only [Option.getD_some, show t.tick.box b = (v, u) from hb]
        rw [show ({ w with seen := some (some b, t.mark), next := .see } : Wk).deed.k = .pop from hd]; rfl
      have e3 : op t.tick.tick i h.place { w with seen := some (some b, t.mark), inside := some (v, u), next := .put } = (Tw.ends { t.tick.tick with mark := t.mark + 1, head := u, spare := t.spare ++ [b] } i h.place { w with seen := some (some b, t.mark), inside := some (v, u), next := .put } (.int v), none, .put true) := by
        rw [op_put rfl]
        unfold opPut
        simp only [Option.getD_some, show t.tick.tick.still (some b) t.mark = true from still_some eh]
        rw [show ({ w with seen := some (some b, t.mark), inside := some (v, u), next := .put } : Wk).deed.k = .pop from hd]
        show (Tw.ends { t.tick.tick with mark := _, head := _, spare := t.spare ++ [t.head.getD 0] } _ _ _ _, _, _) = _
        rw [eh]; rfl
      rw [List.length_cons, show cost .pop (r.length + 1) = 3 from rfl, turns_go hi e1, turns_go (t := t.tick) hi e2, turns_end (t := t.tick.tick) hi e3, turns_zero]
      simp only [aS, aA, aH, aB, hb]
      rfl
  | top =>
    cases pile with
    | nil =>
      have e1 : op t i h.place w = (t.ends i h.place w .none, none, .look none t.mark) := by
        rw [op_look hl]
        unfold opLook
        rw [hd, show t.head = none from hc]
      rw [show cost .top ([] : List Nat).length = 1 from rfl, turns_end hi e1, turns_zero]
      simp only [aS, List.append_nil]
      rfl
    | cons b r =>
      obtain ⟨eh, v, u, hb, hc'⟩ := ch_cons hc
      have e1 : op t i h.place w = (t, some { w with seen := some (some b, t.mark), next := .see }, .look (some b) t.mark) := by
        rw [op_look hl]
        unfold opLook
        rw [hd, eh]; rfl
      have e2 : op t.tick i h.place { w with seen := some (some b, t.mark), next := .see } = (t.tick, some { w with seen := some (some b, t.mark), inside := some (v, u), next := .check }, .see b v u) := by
        rw [op_see rfl]
        unfold opSee
        simp only [Option.getD_some, show t.tick.box b = (v, u) from hb]
        rw [show ({ w with seen := some (some b, t.mark), next := .see } : Wk).deed.k = .top from hd]; rfl
      have e3 : op t.tick.tick i h.place { w with seen := some (some b, t.mark), inside := some (v, u), next := .check } = (t.tick.tick.ends i h.place { w with seen := some (some b, t.mark), inside := some (v, u), next := .check } (.int v), none, .look t.head t.mark) := by
        rw [op_check rfl]
        unfold opCheck
        simp only [Option.getD_some, show t.tick.tick.still (some b) t.mark = true from still_some eh]
        rfl
      rw [List.length_cons, show cost .top (r.length + 1) = 3 from rfl, turns_go hi e1, turns_go (t := t.tick) hi e2, turns_end (t := t.tick.tick) hi e3, turns_zero]
      simp only [aS, aA, aH, aB, hb, List.append_nil]
      rfl
  | swap =>
    have ho : w.own = some o := ho.elim id fun q => absurd hd q.2
    cases pile with
    | nil =>
      have e1 : op t i h.place w = (Tw.ends { t with spare := t.spare ++ [o] } i h.place w .none, none, .look none t.mark) := by
        rw [op_look hl]
        unfold opLook
        rw [hd, show t.head = none from hc, ho]; rfl
      rw [show cost .swap ([] : List Nat).length = 1 from rfl, turns_end hi e1, turns_zero]
      rfl
    | cons b r =>
      obtain ⟨eh, v, u, hb, hc'⟩ := ch_cons hc
      have e1 : op t i h.place w = (t, some { w with seen := some (some b, t.mark), next := .see }, .look (some b) t.mark) := by
        rw [op_look hl]
        unfold opLook
        rw [hd, eh]; rfl
      have e2 : op t.tick i h.place { w with seen := some (some b, t.mark), next := .see } = (t.tick.below o u, some { w with seen := some (some b, t.mark), inside := some (v, u), next := .put }, .see b v u) := by
        rw [op_see rfl]
        unfold opSee
        simp only [Option.getD_some, show t.tick.box b = (v, u) from hb]
        rw [show ({ w with seen := some (some b, t.mark), next := .see } : Wk).deed.k = .swap from hd, ho]; rfl
      have e3 : op (t.tick.below o u).tick i h.place { w with seen := some (some b, t.mark), inside := some (v, u), next := .put } = (Tw.ends { (t.tick.below o u).tick with mark := t.mark + 1, head := some o, spare := t.spare ++ [b] } i h.place { w with seen := some (some b, t.mark), inside := some (v, u), next := .put } (.int v), none, .put true) := by
        rw [op_put rfl]
        unfold opPut
        simp only [Option.getD_some, show (t.tick.below o u).tick.still (some b) t.mark = true from still_some eh]
        rw [show ({ w with seen := some (some b, t.mark), inside := some (v, u), next := .put } : Wk).deed.k = .swap from hd]
        show (Tw.ends { (t.tick.below o u).tick with mark := _, head := w.own, spare := t.spare ++ [t.head.getD 0] } _ _ _ _, _, _) = _
        rw [eh, ho]; rfl
      rw [List.length_cons, show cost .swap (r.length + 1) = 3 from rfl, turns_go hi e1, turns_go (t := t.tick) hi e2, turns_end (t := (t.tick.below o u).tick) hi e3, turns_zero]
      simp only [aS, aA, aH, aB, hb]
      rfl
end
end Mine


set_option autoImplicit false
set_option linter.unusedVariables false
namespace Mine
open PySem PyProof.Rows

/-- the pile, the spare ones and X lie apart -/
structure SI (t : Tw) (pile X : List Nat) : Prop where
  ch : Ch t.boxes t.head pile
  nd : (pile ++ t.spare ++ X).Nodup
  lt : ∀ b ∈ pile ++ t.spare ++ X, b < t.boxes.length
theorem perm_by {a b : List Nat} (h : ∀ x, a.count x = b.count x) : a.Perm b := List.perm_iff_count.mpr h
section
variable {t t' : Tw} {i p o : Nat} {w : Wk} {h : Hd} {pile pile' X Y : List Nat}
theorem SI.perm (S : SI t pile X) (hc : Ch t'.boxes t'.head pile') (hl : t.boxes.length ≤ t'.boxes.length) (hp : (pile' ++ t'.spare ++ Y).Perm (pile ++ t.spare ++ X)) : SI t' pile' Y :=
  ⟨hc, hp.nodup_iff.mpr S.nd, fun b hb => Nat.lt_of_lt_of_le (S.lt b (hp.mem_iff.mp hb)) hl⟩
theorem set_o {bs : List (Int × Option Nat)} {x : Int × Option Nat} {c : List Nat} (h : o ∉ c) : ∀ b ∈ c, (bs.set o x)[b]? = bs[b]? := fun b hb => List.getElem?_set_ne fun (e : o = b) => h (by rw [e]; exact hb)
theorem vl_cons {bs : List (Int × Option Nat)} {b : Nat} {v : Int} {u : Option Nat} {c : List Nat} (h : bs[b]? = some (v, u)) : vl bs (b :: c) = v :: vl bs c := by
  show ((bs[b]?).getD (0, none)).1 :: _ = _
  rw [h]; rfl
/-- behind a deed that took no box -/
theorem siNo (S : SI t pile X) (h1 : w.deed.k ≠ .push) (h2 : w.deed.k ≠ .swap) : SI (aft1 t i p o w pile) (aPl o w.deed.k pile) X ∧ vl (aft1 t i p o w pile).boxes (aPl o w.deed.k pile) = plV w.deed.k w.deed.v (vl t.boxes pile) ∧ (aft1 t i p o w pile).boxes = t.boxes := by
  unfold aft1
  cases hk : w.deed.k with
  | push => exact absurd hk h1
  | swap => exact absurd hk h2
  | top => exact ⟨S.perm (t' := ⟨_, _, _, _, _, _, _, _⟩) S.ch (Nat.le_refl _) (perm_by fun x => by simp only [aS, aPl, List.append_nil]), rfl, rfl⟩
  | clear => exact ⟨S.perm (t' := ⟨_, _, _, _, _, _, _, _⟩) (show Ch _ none [] from rfl) (Nat.le_refl _) (perm_by fun x => by simp only [aS, aPl, List.count_append, List.count_nil]; omega), rfl, rfl⟩
  | pop =>
    cases pile with
    | nil => exact ⟨S.perm (t' := ⟨_, _, _, _, _, _, _, _⟩) S.ch (Nat.le_refl _) (perm_by fun x => by simp only [aS, aPl, List.append_nil]), rfl, rfl⟩
    | cons b r =>
      obtain ⟨e, v, u, h3, h4⟩ := S.ch
      refine ⟨S.perm (t' := ⟨_, _, _, _, _, _, _, _⟩) (show Ch t.boxes (t.box b).2 r from ?_) (Nat.le_refl _) (perm_by fun x => by simp only [aS, aPl, List.count_append, List.count_cons, List.count_nil]; omega), ?_, rfl⟩
      · unfold Tw.box; rw [h3]; exact h4
      · show vl t.boxes r = (vl t.boxes (b :: r)).tail
        rw [vl_cons h3]; rfl
/-- behind a deed that took box o -/
theorem siOwn {v : Int} {u : Option Nat} (S : SI t pile (o :: X)) (hb : t.boxes[o]? = some (w.deed.v, u)) (hk : w.deed.k = .push ∨ w.deed.k = .swap) : SI (aft1 t i p o w pile) (aPl o w.deed.k pile) X ∧ vl (aft1 t i p o w pile).boxes (aPl o w.deed.k pile) = plV w.deed.k w.deed.v (vl t.boxes pile) ∧ (aft1 t i p o w pile).boxes.length = t.boxes.length ∧ ∀ x ∈ X, (aft1 t i p o w pile).boxes[x]? = t.boxes[x]? := by
  have ol : o < t.boxes.length := (List.getElem?_eq_some_iff.mp hb).1
  have box : (t.box o).1 = w.deed.v := by unfold Tw.box; rw [hb]; rfl
  have nd := S.nd
  rw [List.nodup_append] at nd
  have nx : o ∉ X := (List.nodup_cons.mp nd.2.1).1
  have np : o ∉ pile := fun q => nd.2.2 o (List.mem_append_left _ q) o List.mem_cons_self rfl
  unfold aft1
  rcases hk with hk | hk <;> rw [hk]
  · have e : (t.boxes.set o ((t.box o).1, t.head))[o]? = some (w.deed.v, t.head) := by rw [List.getElem?_set_self ol, box]
    refine ⟨S.perm (t' := ⟨_, _, _, _, _, _, _, _⟩) (show Ch (t.boxes.set o ((t.box o).1, t.head)) (some o) (o :: pile) from ⟨rfl, _, _, e, S.ch.congr (set_o np)⟩) (Nat.le_of_eq List.length_set.symm) (perm_by fun x => by simp only [aS, aPl, List.count_append, List.count_cons, List.count_nil]; omega), ?_, List.length_set, set_o nx⟩
    show vl (t.boxes.set o ((t.box o).1, t.head)) (o :: pile) = w.deed.v :: vl t.boxes pile
    rw [vl_cons e, vl_congr (set_o np)]
  · cases pile with
    | nil => exact ⟨S.perm (t' := ⟨_, _, _, _, _, _, _, _⟩) S.ch (Nat.le_refl _) (perm_by fun x => by simp only [aS, aPl, List.count_append, List.count_cons, List.count_nil]; omega), rfl, rfl, fun _ _ => rfl⟩
    | cons b r =>
      obtain ⟨eh, v', u', h3, h4⟩ := S.ch
      have e2 : (t.box b).2 = u' := by unfold Tw.box; rw [h3]; rfl
      have nr : o ∉ r := fun q => np (List.mem_cons_of_mem _ q)
      have e : (t.boxes.set o ((t.box o).1, (t.box b).2))[o]? = some (w.deed.v, u') := by rw [List.getElem?_set_self ol, box, e2]
      refine ⟨S.perm (t' := ⟨_, _, _, _, _, _, _, _⟩) (show Ch (t.boxes.set o ((t.box o).1, (t.box b).2)) (some o) (o :: r) from ⟨rfl, _, _, e, h4.congr (set_o nr)⟩) (Nat.le_of_eq List.length_set.symm) (perm_by fun x => by simp only [aS, aPl, List.count_append, List.count_cons, List.count_nil]; omega), ?_, List.length_set, set_o nx⟩
      show vl (t.boxes.set o ((t.box o).1, (t.box b).2)) (o :: r) = plV .swap w.deed.v (vl t.boxes (b :: r))
      rw [vl_cons e, vl_congr (set_o nr), vl_cons h3]; rfl
/-- the box that a take gives, what is spare then, the boxes -/
noncomputable def Tw.free (t : Tw) : Nat := if t.kind = .new ∨ t.spare = [] then t.boxes.length else t.spare.getLastD 0
noncomputable def Tw.less (t : Tw) : List Nat := if t.kind = .new ∨ t.spare = [] then t.spare else t.spare.dropLast
noncomputable def Tw.with (t : Tw) (v : Int) : Tw := { t with boxes := if t.kind = .new ∨ t.spare = [] then t.boxes ++ [(v, none)] else t.boxes.set t.free (v, none), spare := t.less }
theorem opTake_is : opTake t w = (t.with w.deed.v, some { w with own := some t.free, next := .look }, .take t.free) := by
  unfold opTake Tw.with Tw.less Tw.free
  by_cases h : t.kind = .new ∨ t.spare = []
  · simp only [if_pos h]
  · simp only [if_neg h]
theorem take_si {v : Int} (S : SI t pile X) : SI (t.with v) pile (t.free :: X) ∧ (t.with v).boxes[t.free]? = some (v, none) ∧ t.boxes.length ≤ (t.with v).boxes.length ∧ ∀ b ∈ pile ++ X, (t.with v).boxes[b]? = t.boxes[b]? := by
  unfold Tw.with Tw.less Tw.free
  by_cases h : t.kind = .new ∨ t.spare = []
  · simp only [if_pos h]
    have ap : ∀ b, b < t.boxes.length → (t.boxes ++ [(v, none)])[b]? = t.boxes[b]? := fun b q => List.getElem?_append_left q
    have l : ∀ b ∈ pile ++ X, b < t.boxes.length := fun b q => S.lt b (by rw [List.mem_append, List.mem_append]; rcases List.mem_append.mp q with z | z; exact .inl (.inl z); exact .inr z)
    refine ⟨⟨S.ch.congr fun b q => ap b (l b (List.mem_append_left _ q)), ?_, fun b q => ?_⟩, List.getElem?_concat_length, by show _ ≤ (t.boxes ++ [_]).length; rw [List.length_append]; exact Nat.le_add_right _ _, fun b q => ap b (l b q)⟩
    · rw [(perm_by (b := t.boxes.length :: (pile ++ t.spare ++ X)) fun x => by simp only [List.count_append, List.count_cons]; omega : List.Perm (pile ++ t.spare ++ (t.boxes.length :: X)) _).nodup_iff, List.nodup_cons]
      exact ⟨fun q => Nat.lt_irrefl _ (S.lt _ q), S.nd⟩
    · show b < (t.boxes ++ [_]).length
      rw [List.length_append]
      rcases List.mem_append.mp q with z | z
      · exact Nat.lt_succ_of_lt (S.lt b (List.mem_append_left _ z))
      · rcases List.mem_cons.mp z with z | z
        · rw [z]; exact Nat.lt_succ_self _
        · exact Nat.lt_succ_of_lt (S.lt b (List.mem_append_right _ z))
  · simp only [if_neg h]
    have hne : t.spare ≠ [] := fun q => h (.inr q)
    have es : t.spare = t.spare.dropLast ++ [t.spare.getLastD 0] := by
      rw [show t.spare.getLastD 0 = t.spare.getLast hne from by rw [List.getLastD_eq_getLast?, List.getLast?_eq_some_getLast hne]; rfl, List.dropLast_concat_getLast]
    generalize t.spare.getLastD 0 = f at es ⊢
    generalize t.spare.dropLast = l at es ⊢
    have nd := S.nd
    have lt := S.lt
    rw [es] at nd lt
    have pm : (pile ++ l ++ (f :: X)).Perm (pile ++ (l ++ [f]) ++ X) := perm_by fun x => by simp only [List.count_append, List.count_cons, List.count_nil]; omega
    have nd2 := pm.nodup_iff.mpr nd
    have hf : f < t.boxes.length := lt f (pm.mem_iff.mp (List.mem_append_right _ List.mem_cons_self))
    rw [List.nodup_append] at nd2
    have nfp : f ∉ pile := fun q => nd2.2.2 f (List.mem_append_left _ q) f List.mem_cons_self rfl
    have nfx : f ∉ X := (List.nodup_cons.mp nd2.2.1).1
    refine ⟨⟨S.ch.congr (set_o nfp), pm.nodup_iff.mpr nd, fun b q => ?_⟩, List.getElem?_set_self hf, Nat.le_of_eq List.length_set.symm, fun b q => ?_⟩
    · show b < (t.boxes.set f _).length
      rw [List.length_set]; exact lt b (pm.mem_iff.mp q)
    · refine List.getElem?_set_ne fun e => ?_
      rcases List.mem_append.mp q with z | z
      · exact nfp (e ▸ z)
      · exact nfx (e ▸ z)
noncomputable def anOf : Dk → List Int → An
  | .push, _ => .none
  | .clear, xs => .tup xs
  | _, [] => .none
  | _, x :: _ => .int x
/-- the steps of a whole deed -/
noncomputable def tkn : Dk → Nat
  | .push => 1
  | .swap => 1
  | _ => 0
noncomputable def size (k : Dk) (n : Nat) : Nat := tkn k + cost k n
noncomputable def spB (t : Tw) : Dk → List Nat
  | .push => t.less
  | .swap => t.less
  | _ => t.spare
noncomputable def lenB (t : Tw) : Dk → Nat
  | .push => (t.with 0).boxes.length
  | .swap => (t.with 0).boxes.length
  | _ => t.boxes.length
theorem with_len (v : Int) : (t.with v).boxes.length = (t.with 0).boxes.length := by
  unfold Tw.with
  by_cases h : t.kind = .new ∨ t.spare = []
  · simp only [if_pos h, List.length_append, List.length_singleton]
  · simp only [if_neg h, List.length_set]
/-- hand i has done deed d, alone -/
structure Dn (t : Tw) (i : Nat) (h : Hd) (d : Deed) (pile X : List Nat) (t1 : Tw) : Prop where
  run : turns t i (size d.k pile.length) = t1.past i h
  hands : t1.hands = t.hands
  kind : t1.kind = t.kind
  mark : t1.mark = t.mark + incM d.k pile.length
  time : t1.time = t.time + size d.k pile.length
  rows : t1.rows = t.rows ++ [⟨i, h.place, d, t.time, t.time + (tkn d.k + ptAt d.k pile.length), some (t.time + (size d.k pile.length - 1), anOf d.k (vl t.boxes pile))⟩]
  si : SI t1 (aPl t.free d.k pile) X
  vals : vl t1.boxes (aPl t.free d.k pile) = plV d.k d.v (vl t.boxes pile)
  spare : t1.spare = spB t d.k ++ aS t.free d.k pile
  keep : ∀ x ∈ X, t1.boxes[x]? = t.boxes[x]?
  len : t.boxes.length ≤ t1.boxes.length
  lenE : t1.boxes.length = lenB t d.k
theorem aA_is : ∀ k : Dk, aA t k pile = anOf k (vl t.boxes pile) := fun k => by
  cases k with
  | push => rfl
  | clear => rfl
  | _ =>
    cases pile with
    | nil => rfl
    | cons b r => rfl
theorem cost_pos : ∀ (k : Dk) (n : Nat), 0 < cost k n
  | .push, _ => Nat.zero_lt_succ _
  | .pop, 0 => Nat.zero_lt_succ _
  | .pop, _ + 1 => Nat.zero_lt_succ _
  | .top, 0 => Nat.zero_lt_succ _
  | .top, _ + 1 => Nat.zero_lt_succ _
  | .swap, 0 => Nat.zero_lt_succ _
  | .swap, _ + 1 => Nat.zero_lt_succ _
  | .clear, 0 => Nat.zero_lt_succ _
  | .clear, _ + 1 => Nat.zero_lt_succ _
theorem alone {d : Deed} (S : SI t pile X) (hh : t.hands[i]? = some h) (hw : h.work = none) (hd : h.prog[h.place]? = some d) : ∃ t1, Dn t i h d pile X t1 := by
  have hi : i < t.hands.length := (List.getElem?_eq_some_iff.mp hh).1
  have hn : h.now t.time = some (newW d t.time) := by unfold Hd.now; rw [hw, hd]; rfl
  -- the first step is the same whether the work is laid already or not
  have first : ∀ n, turns t i (n + 1) = turns (t.at i h (newW d t.time)) i (n + 1) := fun n => by
    rw [turns_succ, turns_succ, step_now hh hn, step_at hi]
  have fst : ∀ n, 0 < n → turns t i n = turns (t.at i h (newW d t.time)) i n := fun n hn => by
    obtain ⟨m, rfl⟩ : ∃ m, n = m + 1 := ⟨n - 1, by omega⟩
    exact first m
  have cp := cost_pos d.k pile.length
  have own : (d.k = .push ∨ d.k = .swap) → ∃ t1, Dn t i h d pile X t1 := fun hk => by
    have e1 : op t i h.place (newW d t.time) = (t.with d.v, some { newW d t.time with own := some t.free, next := .look }, .take t.free) := by
      rw [op_take (by show firstN d.k = _; rcases hk with q | q <;> rw [q] <;> rfl), opTake_is]; rfl
    obtain ⟨S1, hb, hl, hf⟩ := take_si (v := d.v) S
    have S2 : SI (t.with d.v).tick pile (t.free :: X) := ⟨S1.ch, S1.nd, S1.lt⟩
    have tk1 : tkn d.k = 1 := by rcases hk with q | q <;> rw [q] <;> rfl
    have hfp := fun b q => hf b (List.mem_append_left _ q)
    have R := fromLook (t := (t.with d.v).tick) (i := i) (h := h) (w := { newW d t.time with own := some t.free, next := .look }) (o := t.free) (pile := pile) hi rfl rfl S2.ch (.inl rfl)
    obtain ⟨g1, g2, g3, g4⟩ := siOwn (v := d.v) (i := i) (p := h.place) (w := { newW d t.time with own := some t.free, next := .look }) S2 hb hk
    refine ⟨aft1 (t.with d.v).tick i h.place t.free { newW d t.time with own := some t.free, next := .look } pile, ⟨?_, rfl, rfl, rfl, ?_, ?_, g1, ?_, ?_, fun x q => (g4 x q).trans (hf x (List.mem_append_right _ q)), Nat.le_trans hl (Nat.le_of_eq g3.symm), ?_⟩⟩
    · unfold size
      rw [fst _ (by omega), tk1, Nat.add_comm, turns_go hi e1]
      exact R
    · show t.time + 1 + cost d.k pile.length = t.time + (tkn d.k + cost d.k pile.length)
      rw [tk1]; omega
    · show t.rows ++ [_] = _
      unfold size
      rw [tk1]
      show t.rows ++ [⟨i, h.place, d, t.time, t.time + 1 + ptAt d.k pile.length, some (t.time + 1 + (cost d.k pile.length - 1), aA (t.with d.v).tick d.k pile)⟩] = _
      rw [aA_is, show vl (t.with d.v).tick.boxes pile = vl t.boxes pile from vl_congr hfp, Nat.add_assoc, Nat.add_assoc, show 1 + (cost d.k pile.length - 1) = 1 + cost d.k pile.length - 1 by omega]
    · refine g2.trans ?_
      show plV d.k d.v (vl (t.with d.v).boxes pile) = _
      rw [vl_congr hfp]
    · show t.less ++ aS t.free d.k pile = _
      rcases hk with q | q <;> rw [q] <;> rfl
    · refine (g3.trans (with_len d.v)).trans ?_
      rcases hk with q | q <;> rw [q] <;> rfl
  have no : d.k ≠ .push → d.k ≠ .swap → ∃ t1, Dn t i h d pile X t1 := fun h1 h2 => by
    have tk0 : tkn d.k = 0 := by cases hk : d.k <;> first | rfl | exact absurd hk h1 | exact absurd hk h2
    have R := fromLook (t := t) (i := i) (h := h) (w := newW d t.time) (o := t.free) (pile := pile) hi (by show firstN d.k = _; cases hk : d.k <;> first | rfl | exact absurd hk h1 | exact absurd hk h2) rfl S.ch (.inr ⟨h1, h2⟩)
    obtain ⟨g1, g2, g3⟩ := siNo (i := i) (p := h.place) (o := t.free) (w := newW d t.time) S h1 h2
    refine ⟨aft1 t i h.place t.free (newW d t.time) pile, ⟨?_, rfl, rfl, rfl, ?_, ?_, g1, g2, ?_, fun x _ => by rw [g3], Nat.le_of_eq (by rw [g3]), ?_⟩⟩
    · unfold size
      rw [fst _ (by omega), tk0, Nat.zero_add]
      exact R
    · show t.time + cost d.k pile.length = _
      unfold size; rw [tk0, Nat.zero_add]
    · show t.rows ++ [_] = _
      unfold size; rw [tk0, Nat.zero_add, Nat.zero_add, ← aA_is]; rfl
    · show t.spare ++ aS t.free d.k pile = _
      cases hk : d.k <;> first | rfl | exact absurd hk h1 | exact absurd hk h2
    · rw [g3]
      cases hk : d.k <;> first | rfl | exact absurd hk h1 | exact absurd hk h2
  cases hk : d.k with
  | push => exact own (.inl hk)
  | swap => exact own (.inr hk)
  | _ => exact no (fun q => by rw [hk] at q; cases q) (fun q => by rw [hk] at q; cases q)
end
end Mine


set_option autoImplicit false
set_option linter.unusedVariables false
namespace Mine
open PySem PyProof.Rows

theorem run_app : ∀ (t : Tw) (a b : List Nat), run t (a ++ b) = run (run t a) b
  | _, [], _ => rfl
  | t, i :: r, b => run_app (step t i).1 r b
theorem si0 (kd : Kn) (xs : List Int) (ps : List (List Deed)) : SI (tw0 kd xs ps) (List.range' 0 xs.length) [] := by
  obtain ⟨g1, g2⟩ := ch0 xs xs.length 0 (Nat.zero_add _)
  refine ⟨?_, ?_, fun b hb => ?_⟩
  · show Ch (bx0 xs) (if xs.length = 0 then none else some 0) _
    simp only [eq_comm (a := (0 : Nat))] at g1
    exact g1
  · show (List.range' 0 xs.length ++ [] ++ []).Nodup
    rw [List.append_nil, List.append_nil]; exact List.nodup_range'
  · have hb : b ∈ List.range' 0 xs.length ++ [] ++ [] := hb
    rw [List.append_nil, List.append_nil] at hb
    exact g1.lt b hb
end Mine


set_option autoImplicit false
set_option linter.unusedVariables false
namespace Mine
open PySem PyProof.Rows

section
variable {t t1 t2 : Tw} {i p b : Nat} {pr ds es os : List Deed} {d : Deed} {pile pile' pile'' r X : List Nat}
theorem free_new (h : t.kind = .new) : t.free = t.boxes.length := by unfold Tw.free; rw [if_pos (.inl h)]
theorem free_last (h : t.kind ≠ .new) {l : List Nat} {x : Nat} (e : t.spare = l ++ [x]) : t.free = x ∧ t.less = l := by
  unfold Tw.free Tw.less
  have : ¬ (t.kind = .new ∨ t.spare = []) := fun q => q.elim h fun q => by rw [e] at q; exact absurd q (by simp)
  rw [if_neg this, if_neg this, e]
  exact ⟨by simp, by simp⟩
end
end Mine


set_option autoImplicit false
set_option linter.unusedVariables false
namespace Mine
open PySem PyProof.Rows

noncomputable def ahead : Dk → Nat
  | .clear => 1
  | .swap => 3
  | _ => 2
noncomputable def lastN : Dk → Nx
  | .top => .check
  | _ => .put
/-- hand i has come to its put or check -/
structure At (t : Tw) (d : Deed) (b m : Nat) (v0 : Int) (u : Option Nat) (X : List Nat) (o : Nat) (w : Wk) : Prop where
  deed : w.deed = d
  kept : w.kept = []
  seen : w.seen = some (some b, m)
  next : w.next = lastN d.k
  ins : (d.k = .pop ∨ d.k = .top ∨ d.k = .swap) → w.inside = some (v0, u)
  own : (d.k = .push ∨ d.k = .swap) → w.own = some o ∧ X = [o] ∧ (d.k = .push → t.boxes[o]? = some (d.v, some b)) ∧ (d.k = .swap → t.boxes[o]? = some (d.v, u))
  no : d.k ≠ .push → d.k ≠ .swap → X = [] ∧ w.own = none
section
variable {t t1 t2 : Tw} {i p b o m : Nat} {h : Hd} {w : Wk} {d : Deed} {pile r X : List Nat} {v0 : Int} {u : Option Nat}
theorem first_turn (hh : t.hands[i]? = some h) (hw : h.work = none) (hd : h.prog[h.place]? = some d) (n : Nat) : turns t i (n + 1) = turns (t.at i h (newW d t.time)) i (n + 1) := by
  have hn : h.now t.time = some (newW d t.time) := by unfold Hd.now; rw [hw, hd]; rfl
  rw [turns_succ, turns_succ, step_now hh hn, step_at (List.getElem?_eq_some_iff.mp hh).1]
theorem SI.below (S : SI t pile (o :: X)) {u : Option Nat} : SI (t.below o u) pile (o :: X) ∧ (t.below o u).boxes[o]? = some ((t.box o).1, u) ∧ vl (t.below o u).boxes pile = vl t.boxes pile := by
  have nd := S.nd
  rw [List.nodup_append] at nd
  have np : o ∉ pile := fun q => nd.2.2 o (List.mem_append_left _ q) o List.mem_cons_self rfl
  have ol : o < t.boxes.length := S.lt o (List.mem_append_right _ List.mem_cons_self)
  exact ⟨⟨S.ch.congr (set_o np), S.nd, fun x hx => by show x < (t.boxes.set o _).length; rw [List.length_set]; exact S.lt x hx⟩, List.getElem?_set_self ol, vl_congr (set_o np)⟩
theorem upto (S : SI t (b :: r) []) (hs : t.spare = []) (hh : t.hands[i]? = some h) (hw : h.work = none) (hd : h.prog[h.place]? = some d) (hb : t.boxes[b]? = some (v0, u)) :
    ∃ t1 w X o, turns t i (ahead d.k) = t1.at i h w ∧ SI t1 (b :: r) X ∧ t1.spare = [] ∧ t1.kind = t.kind ∧ t1.hands = t.hands ∧ vl t1.boxes (b :: r) = vl t.boxes (b :: r) ∧ t1.rows = t.rows ∧ t1.mark = t.mark ∧ t1.time = t.time + ahead d.k ∧ w.begun = t.time ∧ (d.k ≠ .push → d.k ≠ .swap → t1.boxes = t.boxes) ∧ At t1 d b t.mark v0 u X o w := by
  have hi : i < t.hands.length := (List.getElem?_eq_some_iff.mp hh).1
  have eh : t.head = some b := S.ch.1
  have F := first_turn hh hw hd
  have bx : t.box b = (v0, u) := by unfold Tw.box; rw [hb]; rfl
  have ls : t.less = [] := by unfold Tw.less; rw [if_pos (.inr hs), hs]
  obtain ⟨S1, hf, hl, hk⟩ := take_si (v := d.v) S
  have bf : (t.with d.v).box t.free = (d.v, none) := by unfold Tw.box; rw [hf]; rfl
  have bb : (t.with d.v).box b = (v0, u) := by unfold Tw.box; rw [hk b (List.mem_append_left _ List.mem_cons_self), hb]; rfl
  have vw : vl (t.with d.v).boxes (b :: r) = vl t.boxes (b :: r) := vl_congr fun x hx => hk x (List.mem_append_left _ hx)
  have look : ∀ {s : Tw} {w : Wk}, s.head = some b → s.mark = t.mark → w.deed = d → w.next = .look → d.k ≠ .push → op s i h.place w = (s, some { w with seen := some (some b, t.mark), next := lookN d.k }, .look (some b) t.mark) := fun {s w} e1 e2 e3 e4 hne => by
    rw [op_look e4]
    unfold opLook
    rw [e3, e1, e2]
    cases hk : d.k with
    | push => exact absurd hk hne
    | _ => rfl
  cases hk : d.k with
  | push =>
    have e1 : op t i h.place (newW d t.time) = (t.with d.v, some { newW d t.time with own := some t.free, next := .look }, .take t.free) := by
      rw [op_take (by show firstN d.k = _; rw [hk]; rfl), opTake_is]; rfl
    have e2 : op (t.with d.v).tick i h.place { newW d t.time with own := some t.free, next := .look } = ((t.with d.v).tick.below t.free (some b), some { newW d t.time with own := some t.free, seen := some (some b, t.mark), next := .put }, .look (some b) t.mark) := by
      rw [op_look rfl]
      unfold opLook
      rw [show ({ newW d t.time with own := some t.free, next := .look } : Wk).deed.k = .push from hk]
      rw [show (t.with d.v).tick.head = some b from eh]; rfl
    obtain ⟨S2, g1, g2⟩ := SI.below (t := (t.with d.v).tick) (u := some b) ⟨S1.ch, S1.nd, S1.lt⟩
    refine ⟨((t.with d.v).tick.below t.free (some b)).tick, { newW d t.time with own := some t.free, seen := some (some b, t.mark), next := .put }, [t.free], t.free, ?_, ⟨S2.ch, S2.nd, S2.lt⟩, ls, rfl, rfl, g2.trans vw, rfl, rfl, rfl, rfl, fun q => absurd rfl q, ⟨rfl, rfl, rfl, by rw [hk]; rfl, fun q => ?_, fun _ => ⟨rfl, rfl, fun _ => ?_, fun q => by rw [hk] at q; cases q⟩, fun q => absurd hk q⟩⟩
    · exact (F 1).trans ((turns_go hi e1).trans (turns_go (t := (t.with d.v).tick) (n := 0) hi e2))
    · rw [hk] at q; rcases q with q | q | q <;> cases q
    · refine g1.trans ?_
      rw [show ((t.with d.v).tick.box t.free).1 = d.v from congrArg Prod.fst bf]
  | swap =>
    have e1 : op t i h.place (newW d t.time) = (t.with d.v, some { newW d t.time with own := some t.free, next := .look }, .take t.free) := by
      rw [op_take (by show firstN d.k = _; rw [hk]; rfl), opTake_is]; rfl
    have e2 := look (s := (t.with d.v).tick) (w := { newW d t.time with own := some t.free, next := .look }) eh rfl rfl rfl (by rw [hk]; exact fun q => nomatch q)
    rw [hk] at e2
    have e3 : op (t.with d.v).tick.tick i h.place { newW d t.time with own := some t.free, seen := some (some b, t.mark), next := .see } = ((t.with d.v).tick.tick.below t.free u, some { newW d t.time with own := some t.free, seen := some (some b, t.mark), inside := some (v0, u), next := .put }, .see b v0 u) := by
      rw [op_see rfl]
      unfold opSee
      simp only [Option.getD_some, show (t.with d.v).tick.tick.box b = (v0, u) from bb]
      rw [show ({ newW d t.time with own := some t.free, seen := some (some b, t.mark), next := .see } : Wk).deed.k = .swap from hk]
    obtain ⟨S2, g1, g2⟩ := SI.below (t := (t.with d.v).tick.tick) (u := u) ⟨S1.ch, S1.nd, S1.lt⟩
    refine ⟨((t.with d.v).tick.tick.below t.free u).tick, { newW d t.time with own := some t.free, seen := some (some b, t.mark), inside := some (v0, u), next := .put }, [t.free], t.free, ?_, ⟨S2.ch, S2.nd, S2.lt⟩, ls, rfl, rfl, g2.trans vw, rfl, rfl, rfl, rfl, fun _ q => absurd rfl q, ⟨rfl, rfl, rfl, by rw [hk]; rfl, fun q => rfl, fun _ => ⟨rfl, rfl, (fun q => by rw [hk] at q; cases q), fun _ => ?_⟩, fun _ q => absurd hk q⟩⟩
    · exact (F 2).trans ((turns_go hi e1).trans ((turns_go (t := (t.with d.v).tick) (n := 1) hi e2).trans (turns_go (t := (t.with d.v).tick.tick) (n := 0) hi e3)))
    · refine g1.trans ?_
      rw [show ((t.with d.v).tick.tick.box t.free).1 = d.v from congrArg Prod.fst bf]
  | clear =>
    have e1 := look (s := t) (w := newW d t.time) eh rfl rfl (by show firstN d.k = _; rw [hk]; rfl) (by rw [hk]; exact fun q => nomatch q)
    rw [hk] at e1
    refine ⟨t.tick, { newW d t.time with seen := some (some b, t.mark), next := .put }, [], 0, ?_, ⟨S.ch, S.nd, S.lt⟩, hs, rfl, rfl, rfl, rfl, rfl, rfl, rfl, fun _ _ => rfl, ⟨rfl, rfl, rfl, by rw [hk]; rfl, fun q => ?_, fun q => ?_, fun _ _ => ⟨rfl, rfl⟩⟩⟩
    · exact (F 0).trans (turns_go (n := 0) hi e1)
    · rw [hk] at q; rcases q with q | q | q <;> cases q
    · rw [hk] at q; rcases q with q | q <;> cases q
  | pop =>
    have e1 := look (s := t) (w := newW d t.time) eh rfl rfl (by show firstN d.k = _; rw [hk]; rfl) (by rw [hk]; exact fun q => nomatch q)
    rw [hk] at e1
    have e2 : op t.tick i h.place { newW d t.time with seen := some (some b, t.mark), next := .see } = (t.tick, some { newW d t.time with seen := some (some b, t.mark), inside := some (v0, u), next := .put }, .see b v0 u) := by
      rw [op_see rfl]
      unfold opSee
      simp only [Option.getD_some, show t.tick.box b = (v0, u) from bx]
      rw [show ({ newW d t.time with seen := some (some b, t.mark), next := .see } : Wk).deed.k = .pop from hk]; rfl
    refine ⟨t.tick.tick, { newW d t.time with seen := some (some b, t.mark), inside := some (v0, u), next := .put }, [], 0, ?_, ⟨S.ch, S.nd, S.lt⟩, hs, rfl, rfl, rfl, rfl, rfl, rfl, rfl, fun _ _ => rfl, ⟨rfl, rfl, rfl, by rw [hk]; rfl, fun q => rfl, fun q => ?_, fun _ _ => ⟨rfl, rfl⟩⟩⟩
    · exact (F 1).trans ((turns_go (n := 1) hi e1).trans (turns_go (t := t.tick) (n := 0) hi e2))
    · rw [hk] at q; rcases q with q | q <;> cases q
  | top =>
    have e1 := look (s := t) (w := newW d t.time) eh rfl rfl (by show firstN d.k = _; rw [hk]; rfl) (by rw [hk]; exact fun q => nomatch q)
    rw [hk] at e1
    have e2 : op t.tick i h.place { newW d t.time with seen := some (some b, t.mark), next := .see } = (t.tick, some { newW d t.time with seen := some (some b, t.mark), inside := some (v0, u), next := .check }, .see b v0 u) := by
      rw [op_see rfl]
      unfold opSee
      simp only [Option.getD_some, show t.tick.box b = (v0, u) from bx]
      rw [show ({ newW d t.time with seen := some (some b, t.mark), next := .see } : Wk).deed.k = .top from hk]; rfl
    refine ⟨t.tick.tick, { newW d t.time with seen := some (some b, t.mark), inside := some (v0, u), next := .check }, [], 0, ?_, ⟨S.ch, S.nd, S.lt⟩, hs, rfl, rfl, rfl, rfl, rfl, rfl, rfl, fun _ _ => rfl, ⟨rfl, rfl, rfl, by rw [hk]; rfl, fun q => rfl, fun q => ?_, fun _ _ => ⟨rfl, rfl⟩⟩⟩
    · exact (F 1).trans ((turns_go (n := 1) hi e1).trans (turns_go (t := t.tick) (n := 0) hi e2))
    · rw [hk] at q; rcases q with q | q <;> cases q
end
end Mine


set_option autoImplicit false
set_option linter.unusedVariables false
namespace Mine
open PySem PyProof.Rows

theorem ch_hd {bs : List (Int × Option Nat)} : ∀ {c : List Nat} {x : Option Nat}, Ch bs x c → x = c.head?
  | [], _, h => h
  | _ :: _, _, h => h.1
noncomputable def isB : Kn → Bool
  | .bare => true
  | _ => false
end Mine


set_option autoImplicit false
set_option linter.unusedVariables false
namespace Mine
open PySem PyProof.Rows

/-- where hand i stands with its program os -/
structure PrG (t : Tw) (i : Nat) (os : List Deed) (pile X : List Nat) (vals : List Int) (p time mark : Nat) (rows : List Row) : Prop where
  si : SI t pile X
  vals : vl t.boxes pile = vals
  hand : t.hands[i]? = some ⟨os, p, none⟩
  time : t.time = time
  mark : t.mark = mark
  rows : t.rows = rows
structure GoS (t t' : Tw) (i : Nat) (X : List Nat) : Prop where
  kind : t'.kind = t.kind
  keep : ∀ x ∈ X, t'.boxes[x]? = t.boxes[x]?
  len : t.boxes.length ≤ t'.boxes.length
  hands : ∀ j, j ≠ i → t'.hands[j]? = t.hands[j]?
  hl : t'.hands.length = t.hands.length
section
variable {t : Tw} {i p time mark : Nat} {os : List Deed} {pile X : List Nat} {vals : List Int} {rows : List Row}
theorem PrG.go (P : PrG t i os pile X vals p time mark rows) {d : Deed} (hd : os[p]? = some d) :
    ∃ t', turns t i (size d.k pile.length) = t' ∧ PrG t' i os (aPl t.free d.k pile) X (plV d.k d.v vals) (p + 1) (time + size d.k pile.length) (mark + incM d.k pile.length) (rows ++ [⟨i, p, d, time, time + (tkn d.k + ptAt d.k pile.length), some (time + (size d.k pile.length - 1), anOf d.k vals)⟩]) ∧
      t'.spare = spB t d.k ++ aS t.free d.k pile ∧ GoS t t' i X ∧ t'.boxes.length = lenB t d.k := by
  have hi := (List.getElem?_eq_some_iff.mp P.hand).1
  obtain ⟨t1, D⟩ := alone P.si P.hand rfl hd
  refine ⟨_, D.run, ⟨⟨D.si.ch, D.si.nd, D.si.lt⟩, by rw [← P.vals]; exact D.vals, ?_, by rw [← P.time]; exact D.time, by rw [← P.mark]; exact D.mark, ?_⟩, D.spare, ⟨D.kind, D.keep, D.len, fun j hj => ?_, ?_⟩, D.lenE⟩
  · show (t1.hands.set i _)[i]? = _
    rw [D.hands, List.getElem?_set_self hi]
  · rw [← P.rows, ← P.time, ← P.vals]; exact D.rows
  · show (t1.hands.set i _)[j]? = _
    rw [D.hands, List.getElem?_set_ne (Ne.symm hj)]
  · show (t1.hands.set i _).length = _
    rw [D.hands, List.length_set]
end
end Mine


set_option autoImplicit false
set_option linter.unusedVariables false
namespace Mine
open PySem PyProof.Rows

/-- the boxes that boxes_from finds: down to the end, or to one that was found -/
def Bf (bs : List (Int × Option Nat)) : Option Nat → List Nat → List Nat → Prop
  | x, fd, [] => x = none ∨ ∃ b, x = some b ∧ b ∈ fd
  | x, fd, b :: r => x = some b ∧ b ∉ fd ∧ ∃ v u, bs[b]? = some (v, u) ∧ Bf bs u (fd ++ [b]) r
theorem Ch.bf {bs : List (Int × Option Nat)} : ∀ {c : List Nat} {x : Option Nat} {fd : List Nat}, Ch bs x c → c.Nodup → (∀ b ∈ c, b ∉ fd) → Bf bs x fd c
  | [], x, fd, h, _, _ => .inl h
  | b :: r, x, fd, ⟨e, v, u, h1, h2⟩, nd, hd => ⟨e, hd b List.mem_cons_self, v, u, h1, h2.bf (List.nodup_cons.mp nd).2 fun c hc q => by
    rcases List.mem_append.mp q with z | z
    · exact hd c (List.mem_cons_of_mem _ hc) z
    · rw [List.mem_singleton.mp z] at hc
      exact (List.nodup_cons.mp nd).1 hc⟩
theorem SI.bf {t : Tw} {pile X : List Nat} (S : SI t pile X) : Bf t.boxes t.head [] pile :=
  S.ch.bf (List.nodup_append.mp (List.nodup_append.mp S.nd).1).1 fun _ _ q => nomatch q
noncomputable def ps16 (one two : Int) : List (List Deed) := [[⟨.pop, 0⟩], [⟨.pop, 0⟩, ⟨.pop, 0⟩, ⟨.push, two⟩], [⟨.push, one⟩]]
noncomputable def W16 : List Nat := [0, 0, 1, 1, 1, 1, 1, 1, 2, 1, 1, 1]
noncomputable def hA : Hd := ⟨[⟨.pop, 0⟩], 0, none⟩
noncomputable def hB (two : Int) (p : Nat) : Hd := ⟨[⟨.pop, 0⟩, ⟨.pop, 0⟩, ⟨.push, two⟩], p, none⟩
noncomputable def hC (one : Int) : Hd := ⟨[⟨.push, one⟩], 0, none⟩
noncomputable def wT (one : Int) (time f : Nat) : Wk := { newW ⟨.push, one⟩ time with own := some f, next := .look }
/-- behind the first twelve steps -/
structure B16 (kd : Kn) (x0 one two : Int) (rest : List Int) (r : List Nat) (n : Nat) (s : Tw) (w0 w2 : Wk) (f g : Nat) : Prop where
  si : SI s (g :: r) [f]
  vals : vl s.boxes (g :: r) = two :: rest
  own : s.boxes[f]? = some (one, none)
  mark : s.mark = 3
  kind : s.kind = kd
  hl : s.hands.length = 3
  h0 : s.hands[0]? = some { hA with work := some w0 }
  h1 : s.hands[1]? = some (hB two 3)
  h2 : s.hands[2]? = some { hC one with work := some w2 }
  n0 : w0.next = .put
  s0 : w0.seen = some (some 0, 0)
  i0 : w0.inside = some (x0, some 1)
  o0 : w0.own = none
  d0 : w0.deed = ⟨.pop, 0⟩
  d2 : w2.deed = ⟨.push, one⟩
  o2 : w2.own = some f
  n2 : w2.next = .look
  old : kd ≠ .new → f = 1 ∧ g = 0 ∧ s.spare = [] ∧ s.boxes.length = n
  new : kd = .new → f = n ∧ g = n + 1 ∧ s.spare = [0, 1] ∧ s.boxes.length = n + 2
theorem with_new {t : Tw} {v : Int} (h : t.kind = .new) : (t.with v).boxes.length = t.boxes.length + 1 ∧ (t.with v).spare = t.spare := by
  unfold Tw.with Tw.less
  simp only [if_pos (Or.inl h : t.kind = .new ∨ t.spare = []), List.length_append, List.length_singleton, and_self]
theorem with_old {t : Tw} {v : Int} (h : t.kind ≠ .new) {l : List Nat} {x : Nat} (e : t.spare = l ++ [x]) : (t.with v).boxes.length = t.boxes.length ∧ (t.with v).spare = l := by
  have q : ¬ (t.kind = .new ∨ t.spare = []) := fun q => q.elim h fun q => by rw [e] at q; exact absurd q (by simp)
  refine ⟨?_, (free_last h e).2⟩
  unfold Tw.with
  simp only [if_neg q, List.length_set]
theorem base16 (kd : Kn) (x0 x1 one two : Int) (rest : List Int) : ∃ s w0 w2 f g, run (tw0 kd (x0 :: x1 :: rest) (ps16 one two)) W16 = s ∧ B16 kd x0 one two rest (List.range' 2 rest.length) (rest.length + 2) s w0 w2 f g := by
  have S0 := si0 kd (x0 :: x1 :: rest) (ps16 one two)
  have V0 : vl (tw0 kd (x0 :: x1 :: rest) (ps16 one two)).boxes (List.range' 0 (x0 :: x1 :: rest).length) = x0 :: x1 :: rest := (ch0 (x0 :: x1 :: rest) (x0 :: x1 :: rest).length 0 (Nat.zero_add _)).2
  have ep : List.range' 0 (x0 :: x1 :: rest).length = 0 :: 1 :: List.range' 2 rest.length := by
    rw [List.length_cons, List.length_cons, List.range'_succ, List.range'_succ]
  rw [ep] at S0 V0
  have H0 : (tw0 kd (x0 :: x1 :: rest) (ps16 one two)).hands = [hA, hB two 0, hC one] := rfl
  have K0 : (tw0 kd (x0 :: x1 :: rest) (ps16 one two)).kind = kd := rfl
  have Q0 : (tw0 kd (x0 :: x1 :: rest) (ps16 one two)).spare = [] := rfl
  have M0 : (tw0 kd (x0 :: x1 :: rest) (ps16 one two)).mark = 0 := rfl
  have T0 : (tw0 kd (x0 :: x1 :: rest) (ps16 one two)).time = 0 := rfl
  have R0 : (tw0 kd (x0 :: x1 :: rest) (ps16 one two)).rows = [] := rfl
  have B0 : (tw0 kd (x0 :: x1 :: rest) (ps16 one two)).boxes.length = rest.length + 2 := bx0_len _
  rw [show W16 = List.replicate 2 0 ++ (List.replicate 3 1 ++ (List.replicate 3 1 ++ ([2] ++ List.replicate 3 1))) from rfl]
  simp only [run_app]
  generalize tw0 kd (x0 :: x1 :: rest) (ps16 one two) = t0 at S0 V0 H0 K0 Q0 M0 T0 R0 B0 ⊢
  generalize List.range' 2 rest.length = r at S0 V0 ⊢
  obtain ⟨_, v0, u, hb, hc⟩ := S0.ch
  have hv0 : v0 = x0 := by
    rw [vl_cons hb] at V0
    exact (List.cons.inj V0).1
  subst hv0
  have eu : u = some 1 := ch_hd hc
  subst eu
  obtain ⟨t1, w0, X, o, g1, S1, s1, k1, hd1, v1, r1, m1, tm1, bg, bx1, A1⟩ := upto (i := 0) (h := hA) (d := ⟨.pop, 0⟩) S0 Q0 (by rw [H0]; rfl) rfl rfl hb
  obtain ⟨hX, ow0⟩ := A1.no (fun q => nomatch q) (fun q => nomatch q)
  subst hX
  rw [show run t0 (List.replicate 2 0) = t1.at 0 hA w0 from g1]
  have E1 : (t1.at 0 hA w0).hands = [{ hA with work := some w0 }, hB two 0, hC one] := by show t1.hands.set 0 _ = _; rw [hd1, H0]; rfl
  have P1 : PrG (t1.at 0 hA w0) 1 [⟨.pop, 0⟩, ⟨.pop, 0⟩, ⟨.push, two⟩] (0 :: 1 :: r) [] (v0 :: x1 :: rest) 0 2 0 [] :=
    ⟨⟨S1.ch, S1.nd, S1.lt⟩, v1.trans V0, by rw [E1]; rfl, tm1.trans (by rw [T0]; rfl), m1.trans M0, r1.trans R0⟩
  have K1 : (t1.at 0 hA w0).kind = kd := k1.trans K0
  have Q1 : (t1.at 0 hA w0).spare = [] := s1
  have B1 : (t1.at 0 hA w0).boxes.length = rest.length + 2 := (congrArg List.length (bx1 (fun q => nomatch q) (fun q => nomatch q))).trans B0
  generalize t1.at 0 hA w0 = t2 at P1 E1 K1 Q1 B1 ⊢
  obtain ⟨t3, r3, P3, s3, G3, b3⟩ := P1.go (d := ⟨.pop, 0⟩) rfl
  rw [show run t2 (List.replicate 3 1) = t3 from r3]
  have s3 : t3.spare = [0] := by rw [s3]; show t2.spare ++ [0] = _; rw [Q1]; rfl
  obtain ⟨t4, r4, P4, s4, G4, b4⟩ := P3.go (d := ⟨.pop, 0⟩) rfl
  rw [show run t3 (List.replicate 3 1) = t4 from r4]
  have s4 : t4.spare = [0] ++ [1] := by rw [s4]; show t3.spare ++ [1] = _; rw [s3]
  have P4 : PrG t4 1 [⟨.pop, 0⟩, ⟨.pop, 0⟩, ⟨.push, two⟩] r [] rest 2 8 2 t4.rows := ⟨P4.si, P4.vals, P4.hand, P4.time, P4.mark, rfl⟩
  have b4 : t4.boxes.length = rest.length + 2 := b4.trans (b3.trans B1)
  have K4 : t4.kind = kd := G4.kind.trans (G3.kind.trans K1)
  have h20 : t4.hands[2]? = some (hC one) := (G4.hands 2 (by decide)).trans ((G3.hands 2 (by decide)).trans (by rw [E1]; rfl))
  have h00 : t4.hands[0]? = some { hA with work := some w0 } := (G4.hands 0 (by decide)).trans ((G3.hands 0 (by decide)).trans (by rw [E1]; rfl))
  have hl4 : t4.hands.length = 3 := G4.hl.trans (G3.hl.trans (by rw [E1]; rfl))
  have st : (step t4 2).1 = (t4.with one).tick.at 2 (hC one) (wT one t4.time t4.free) := by
    rw [step_now h20 (w := newW ⟨.push, one⟩ t4.time) rfl, op_take rfl, opTake_is]; rfl
  rw [show run t4 [2] = _ from st]
  obtain ⟨S5, hf, hlen, hkeep⟩ := take_si (v := one) P4.si
  have P5 : PrG ((t4.with one).tick.at 2 (hC one) (wT one t4.time t4.free)) 1 [⟨.pop, 0⟩, ⟨.pop, 0⟩, ⟨.push, two⟩] r [t4.free] rest 2 9 2 t4.rows := by
    refine ⟨⟨S5.ch, S5.nd, S5.lt⟩, ?_, ?_, congrArg (· + 1) P4.time, P4.mark, P4.rows⟩
    · rw [← P4.vals]; exact vl_congr fun x hx => hkeep x (List.mem_append_left _ hx)
    · show (t4.hands.set 2 _)[1]? = _
      rw [List.getElem?_set_ne (by decide)]; exact P4.hand
  have F5 : ((t4.with one).tick.at 2 (hC one) (wT one t4.time t4.free)).boxes[t4.free]? = some (one, none) := hf
  have E52 : ((t4.with one).tick.at 2 (hC one) (wT one t4.time t4.free)).hands[2]? = some { hC one with work := some (wT one t4.time t4.free) } := List.getElem?_set_self (by show 2 < t4.hands.length; rw [hl4]; decide)
  have E50 : ((t4.with one).tick.at 2 (hC one) (wT one t4.time t4.free)).hands[0]? = some { hA with work := some w0 } := by
    show (t4.hands.set 2 _)[0]? = _
    rw [List.getElem?_set_ne (by decide)]; exact h00
  have E5l : ((t4.with one).tick.at 2 (hC one) (wT one t4.time t4.free)).hands.length = 3 := by show (t4.hands.set 2 _).length = 3; rw [List.length_set, hl4]
  have K5 : ((t4.with one).tick.at 2 (hC one) (wT one t4.time t4.free)).kind = kd := K4
  have B5 : kd ≠ .new → t4.free = 1 ∧ ((t4.with one).tick.at 2 (hC one) (wT one t4.time t4.free)).spare = [] ++ [0] ∧ ((t4.with one).tick.at 2 (hC one) (wT one t4.time t4.free)).boxes.length = rest.length + 2 := fun q => by
    have q' : t4.kind ≠ .new := by rw [K4]; exact q
    exact ⟨(free_last q' s4).1, (with_old (v := one) q' s4).2, (with_old (v := one) q' s4).1.trans b4⟩
  have N5 : kd = .new → t4.free = rest.length + 2 ∧ ((t4.with one).tick.at 2 (hC one) (wT one t4.time t4.free)).spare = [0, 1] ∧ ((t4.with one).tick.at 2 (hC one) (wT one t4.time t4.free)).boxes.length = rest.length + 3 := fun q => by
    have q' : t4.kind = .new := K4.trans q
    exact ⟨(free_new q').trans b4, (with_new (v := one) q').2.trans s4, (with_new (v := one) q').1.trans (by rw [b4])⟩
  generalize t4.free = f at *
  generalize (t4.with one).tick.at 2 (hC one) (wT one t4.time f) = t5 at *
  obtain ⟨t6, r6, P6, s6, G6, b6⟩ := P5.go (d := ⟨.push, two⟩) rfl
  have e6 : run t5 (List.replicate 3 1) = t6 := r6
  rw [e6]
  refine ⟨t6, w0, wT one t4.time f, f, t5.free, rfl, P6.si, P6.vals, (G6.keep f List.mem_cons_self).trans F5, P6.mark, G6.kind.trans K5, G6.hl.trans E5l, (G6.hands 0 (by decide)).trans E50, P6.hand, (G6.hands 2 (by decide)).trans E52, A1.next, by rw [A1.seen, M0], A1.ins (.inl rfl), ow0, A1.deed, rfl, rfl, rfl, fun q => ?_, fun q => ?_⟩
  · obtain ⟨q1, q2, q3⟩ := B5 q
    have q' : t5.kind ≠ .new := by rw [K5]; exact q
    refine ⟨q1, (free_last q' q2).1, ?_, ?_⟩
    · rw [s6]; show t5.less ++ [] = []; rw [(free_last q' q2).2]; rfl
    · rw [b6]; show (t5.with 0).boxes.length = _; rw [(with_old q' q2).1, q3]
  · obtain ⟨q1, q2, q3⟩ := N5 q
    have q' : t5.kind = .new := K5.trans q
    refine ⟨q1, (free_new q').trans q3, ?_, ?_⟩
    · rw [s6]; show (t5.with 0).spare ++ [] = _; rw [(with_new q').2, q2]; rfl
    · rw [b6]; show (t5.with 0).boxes.length = _; rw [(with_new q').1, q3]
/-- what places_of and values_on will see -/
structure V16 (t : Tw) (n : Nat) (pl sp : List Nat) (vals : List Int) (held : Option Nat) : Prop where
  len : t.boxes.length = n
  bf : Bf t.boxes t.head [] pl
  vals : vl t.boxes pl = vals
  spare : t.spare = sp
  hl : t.hands.length = 3
  h0 : ∃ h, t.hands[0]? = some h ∧ ∀ w, h.work = some w → w.own = none ∧ w.next ≠ .walk
  h1 : ∃ h, t.hands[1]? = some h ∧ h.work = none
  h2 : ∃ h, t.hands[2]? = some h ∧ (match held with | none => h.work = none | some f => ∃ w, h.work = some w ∧ w.own = some f ∧ w.next ≠ .walk)
section
variable {s : Tw} {one two x0 : Int} {w w0 w2 : Wk} {f g n : Nat} {kd : Kn} {rest : List Int} {r : List Nat}
theorem look2 (hh : s.hands[2]? = some { hC one with work := some w }) (hd : w.deed = ⟨.push, one⟩) (ho : w.own = some f) (hn : w.next = .look) :
    step s 2 = ((s.below f s.head).tick.hd 2 { hC one with work := some { w with seen := some (s.head, s.mark), next := .put } }, .look s.head s.mark) := by
  rw [step_now hh (w := w) rfl, op_look hn]
  unfold opLook
  simp only [hd, ho]
  rfl
theorem put2 (hh : s.hands[2]? = some { hC one with work := some w }) (hd : w.deed = ⟨.push, one⟩) (ho : w.own = some f) (hn : w.next = .put) (hs : w.seen = some (s.head, s.mark)) :
    step s 2 = ((Tw.ends { s with mark := s.mark + 1, head := some f } 2 0 w .none).tick.hd 2 ⟨[⟨.push, one⟩], 1, none⟩, .put true) := by
  rw [step_now hh (w := w) rfl, op_put hn]
  unfold opPut
  simp only [hs, Option.getD_some, still_self, hd, ho]
  rfl
theorem fails16 (B : B16 kd x0 one two rest r n s w0 w2 f g) (hk : kd ≠ .bare) : step s 0 = (s.tick.hd 0 { hA with work := some { w0 with next := .look } }, .put false) := by
  have st : s.still (some 0) 0 = false := by
    unfold Tw.still
    cases kd with
    | bare => exact absurd rfl hk
    | marks => simp only [B.kind, B.mark]; simp
    | new =>
      obtain ⟨_, q, _⟩ := B.new rfl
      rw [show s.head = some g from B.si.ch.1, decide_eq_false (fun z => by rw [Option.some.inj z] at q; cases q), Bool.false_and]
  rw [step_now B.h0 (w := w0) rfl, op_put B.n0]
  unfold opPut
  simp only [B.s0, Option.getD_some, st]
  rfl
theorem end16 (B : B16 kd x0 one two rest r n s w0 w2 f g) (hk : kd ≠ .bare) {sp : List Nat} {m : Nat} (hs : s.spare = sp) (hm : s.boxes.length = m) :
    ((step s 0).2 = .put false ∧ V16 (step s 0).1 m (g :: r) sp (two :: rest) (some f)) ∧
    ((step (step s 0).1 2).2 = .look (some g) 3 ∧ V16 (step (step s 0).1 2).1 m (g :: r) sp (two :: rest) (some f)) ∧
    ((step (step (step s 0).1 2).1 2).2 = .put true ∧ V16 (step (step (step s 0).1 2).1 2).1 m (f :: g :: r) sp (one :: two :: rest) none) := by
  rw [fails16 B hk]
  have eh : s.head = some g := B.si.ch.1
  have hl6 : (s.tick.hd 0 { hA with work := some { w0 with next := .look } }).hands.length = 3 := by show (s.hands.set 0 _).length = 3; rw [List.length_set, B.hl]
  have h06 : (s.tick.hd 0 { hA with work := some { w0 with next := .look } }).hands[0]? = some { hA with work := some { w0 with next := .look } } := List.getElem?_set_self (by show 0 < s.hands.length; rw [B.hl]; decide)
  have h16 : (s.tick.hd 0 { hA with work := some { w0 with next := .look } }).hands[1]? = some (hB two 3) := by show (s.hands.set 0 _)[1]? = _; rw [List.getElem?_set_ne (by decide)]; exact B.h1
  have h26 : (s.tick.hd 0 { hA with work := some { w0 with next := .look } }).hands[2]? = some { hC one with work := some w2 } := by show (s.hands.set 0 _)[2]? = _; rw [List.getElem?_set_ne (by decide)]; exact B.h2
  have S6 : SI (s.tick.hd 0 { hA with work := some { w0 with next := .look } }) (g :: r) [f] := ⟨B.si.ch, B.si.nd, B.si.lt⟩
  have V6 : vl (s.tick.hd 0 { hA with work := some { w0 with next := .look } }).boxes (g :: r) = two :: rest := B.vals
  have e6 : (s.tick.hd 0 { hA with work := some { w0 with next := .look } }).head = some g := eh
  have m6 : (s.tick.hd 0 { hA with work := some { w0 with next := .look } }).mark = 3 := B.mark
  have q6 : (s.tick.hd 0 { hA with work := some { w0 with next := .look } }).spare = sp := hs
  have l6 : (s.tick.hd 0 { hA with work := some { w0 with next := .look } }).boxes.length = m := hm
  have f6 : (s.tick.hd 0 { hA with work := some { w0 with next := .look } }).boxes[f]? = some (one, none) := B.own
  have wk0 : ∀ w, some { w0 with next := .look } = some w → w.own = none ∧ w.next ≠ .walk := fun w e => by cases e; exact ⟨B.o0, fun q => nomatch q⟩
  refine ⟨⟨rfl, l6, S6.bf, V6, q6, hl6, ⟨_, h06, wk0⟩, ⟨_, h16, rfl⟩, ⟨_, h26, w2, rfl, B.o2, by rw [B.n2]; exact fun q => nomatch q⟩⟩, ?_⟩
  show ((step (s.tick.hd 0 { hA with work := some { w0 with next := .look } }) 2).2 = _ ∧ V16 (step (s.tick.hd 0 { hA with work := some { w0 with next := .look } }) 2).1 _ _ _ _ _) ∧ ((step (step (s.tick.hd 0 { hA with work := some { w0 with next := .look } }) 2).1 2).2 = _ ∧ V16 (step (step (s.tick.hd 0 { hA with work := some { w0 with next := .look } }) 2).1 2).1 _ _ _ _ _)
  generalize s.tick.hd 0 { hA with work := some { w0 with next := .look } } = s6 at *
  obtain ⟨S7, g1, g2⟩ := S6.below (u := s6.head)
  have bo : (s6.box f).1 = one := by unfold Tw.box; rw [f6]; rfl
  rw [look2 h26 B.d2 B.o2 B.n2, e6, m6]
  rw [e6] at S7 g1 g2
  have l7 : (s6.below f (some g)).boxes.length = m := (List.length_set ..).trans l6
  have h07 : ((s6.below f (some g)).tick.hd 2 { hC one with work := some { w2 with seen := some (some g, 3), next := .put } }).hands[0]? = some { hA with work := some { w0 with next := .look } } := by show (s6.hands.set 2 _)[0]? = _; rw [List.getElem?_set_ne (by decide)]; exact h06
  have h17 : ((s6.below f (some g)).tick.hd 2 { hC one with work := some { w2 with seen := some (some g, 3), next := .put } }).hands[1]? = some (hB two 3) := by show (s6.hands.set 2 _)[1]? = _; rw [List.getElem?_set_ne (by decide)]; exact h16
  have h27 : ((s6.below f (some g)).tick.hd 2 { hC one with work := some { w2 with seen := some (some g, 3), next := .put } }).hands[2]? = some { hC one with work := some { w2 with seen := some (some g, 3), next := .put } } := List.getElem?_set_self (by show 2 < s6.hands.length; rw [hl6]; decide)
  have hl7 : ((s6.below f (some g)).tick.hd 2 { hC one with work := some { w2 with seen := some (some g, 3), next := .put } }).hands.length = 3 := by show (s6.hands.set 2 _).length = 3; rw [List.length_set, hl6]
  refine ⟨⟨rfl, l7, S7.bf, g2.trans V6, q6, hl7, ⟨_, h07, wk0⟩, ⟨_, h17, rfl⟩, ⟨_, h27, _, rfl, B.o2, fun q => nomatch q⟩⟩, ?_⟩
  have e8 := put2 (f := f) h27 B.d2 B.o2 rfl (by show some (some g, 3) = some (s6.head, s6.mark); rw [e6, m6])
  show (step _ 2).2 = _ ∧ V16 (step _ 2).1 _ _ _ _ _
  rw [e8]
  have nd : (f :: g :: r).Nodup := (perm_by (b := g :: r ++ [f]) fun x => by simp only [List.count_append, List.count_cons, List.count_nil]; omega : List.Perm (f :: g :: r) _).nodup_iff.mpr (by
    have := S6.nd
    rw [List.append_assoc, List.nodup_append] at this
    rw [List.nodup_append]
    exact ⟨this.1, (List.nodup_append.mp this.2.1).2.1, fun a ha b hb => this.2.2 a ha b (List.mem_append_right _ hb)⟩)
  have c8 : Ch (s6.below f (some g)).boxes (some f) (f :: g :: r) := ⟨rfl, _, _, g1, (show (s6.below f (some g)).head = some g from e6) ▸ S7.ch⟩
  refine ⟨rfl, l7, c8.bf nd fun _ _ q => (nomatch q), ?_, q6, ?_, ⟨{ hA with work := some { w0 with next := .look } }, ?_, wk0⟩, ⟨hB two 3, ?_, rfl⟩, ⟨⟨[⟨.push, one⟩], 1, none⟩, List.getElem?_set_self (Nat.lt_of_lt_of_eq (by decide : 2 < 3) hl7.symm), rfl⟩⟩
  · show vl (s6.below f (some g)).boxes (f :: g :: r) = _
    rw [vl_cons g1, g2, V6, bo]
  · show (List.set (List.set s6.hands 2 _) 2 _).length = 3
    rw [List.length_set, List.length_set, hl6]
  · show (List.set (List.set s6.hands 2 _) 2 _)[0]? = _
    rw [List.getElem?_set_ne (by decide), List.getElem?_set_ne (by decide)]; exact h06
  · show (List.set (List.set s6.hands 2 _) 2 _)[1]? = _
    rw [List.getElem?_set_ne (by decide), List.getElem?_set_ne (by decide)]; exact h16
theorem bare16 (B : B16 .bare x0 one two rest r n s w0 w2 f g) :
    ((step s 0).2 = .put true ∧ V16 (step s 0).1 n [1] [0] [one] (some 1)) ∧
    ((step (step s 0).1 2).2 = .look (some 1) 4 ∧ V16 (step (step s 0).1 2).1 n [1] [0] [one] (some 1)) ∧
    ((step (step (step s 0).1 2).1 2).2 = .put true ∧ V16 (step (step (step s 0).1 2).1 2).1 n [1] [0] [one] none) := by
  obtain ⟨rfl, rfl, q, hn⟩ := B.old (fun q => nomatch q)
  have eh : s.head = some 0 := B.si.ch.1
  have st : s.still (some 0) 0 = true := by unfold Tw.still; rw [eh, B.kind]; simp
  have e0 : step s 0 = ((Tw.ends { s with mark := s.mark + 1, head := some 1, spare := s.spare ++ [0] } 0 0 w0 (.int x0)).tick.hd 0 ⟨[⟨.pop, 0⟩], 1, none⟩, .put true) := by
    rw [step_now B.h0 (w := w0) rfl, op_put B.n0]
    unfold opPut
    simp only [B.s0, Option.getD_some, st, B.d0, B.i0, eh]
    rfl
  rw [e0]
  have hl6 : ((Tw.ends { s with mark := s.mark + 1, head := some 1, spare := s.spare ++ [0] } 0 0 w0 (.int x0)).tick.hd 0 ⟨[⟨.pop, 0⟩], 1, none⟩).hands.length = 3 := by show (s.hands.set 0 _).length = 3; rw [List.length_set, B.hl]
  have h06 : ((Tw.ends { s with mark := s.mark + 1, head := some 1, spare := s.spare ++ [0] } 0 0 w0 (.int x0)).tick.hd 0 ⟨[⟨.pop, 0⟩], 1, none⟩).hands[0]? = some ⟨[⟨.pop, 0⟩], 1, none⟩ := List.getElem?_set_self (by show 0 < s.hands.length; rw [B.hl]; decide)
  have h16 : ((Tw.ends { s with mark := s.mark + 1, head := some 1, spare := s.spare ++ [0] } 0 0 w0 (.int x0)).tick.hd 0 ⟨[⟨.pop, 0⟩], 1, none⟩).hands[1]? = some (hB two 3) := by show (s.hands.set 0 _)[1]? = _; rw [List.getElem?_set_ne (by decide)]; exact B.h1
  have h26 : ((Tw.ends { s with mark := s.mark + 1, head := some 1, spare := s.spare ++ [0] } 0 0 w0 (.int x0)).tick.hd 0 ⟨[⟨.pop, 0⟩], 1, none⟩).hands[2]? = some { hC one with work := some w2 } := by show (s.hands.set 0 _)[2]? = _; rw [List.getElem?_set_ne (by decide)]; exact B.h2
  have e6 : ((Tw.ends { s with mark := s.mark + 1, head := some 1, spare := s.spare ++ [0] } 0 0 w0 (.int x0)).tick.hd 0 ⟨[⟨.pop, 0⟩], 1, none⟩).head = some 1 := rfl
  have m6 : ((Tw.ends { s with mark := s.mark + 1, head := some 1, spare := s.spare ++ [0] } 0 0 w0 (.int x0)).tick.hd 0 ⟨[⟨.pop, 0⟩], 1, none⟩).mark = 4 := congrArg (· + 1) B.mark
  have q6 : ((Tw.ends { s with mark := s.mark + 1, head := some 1, spare := s.spare ++ [0] } 0 0 w0 (.int x0)).tick.hd 0 ⟨[⟨.pop, 0⟩], 1, none⟩).spare = [0] := congrArg (· ++ [0]) q
  have l6 : ((Tw.ends { s with mark := s.mark + 1, head := some 1, spare := s.spare ++ [0] } 0 0 w0 (.int x0)).tick.hd 0 ⟨[⟨.pop, 0⟩], 1, none⟩).boxes.length = n := hn
  have f6 : ((Tw.ends { s with mark := s.mark + 1, head := some 1, spare := s.spare ++ [0] } 0 0 w0 (.int x0)).tick.hd 0 ⟨[⟨.pop, 0⟩], 1, none⟩).boxes[1]? = some (one, none) := B.own
  have wk0 : ∀ w : Wk, none = some w → w.own = none ∧ w.next ≠ .walk := fun w e => nomatch e
  have bf : ∀ {bs : List (Int × Option Nat)} {u : Option Nat}, bs[1]? = some (one, u) → (u = none ∨ u = some 1) → Bf bs (some 1) [] [1] := fun h hu => ⟨rfl, (fun q => nomatch q), _, _, h, hu.imp id fun e => ⟨1, e, List.mem_cons_self⟩⟩
  refine ⟨⟨rfl, l6, e6 ▸ bf f6 (.inl rfl), vl_cons f6, q6, hl6, ⟨_, h06, wk0⟩, ⟨_, h16, rfl⟩, ⟨_, h26, w2, rfl, B.o2, by rw [B.n2]; exact fun q => nomatch q⟩⟩, ?_⟩
  generalize (Tw.ends { s with mark := s.mark + 1, head := some 1, spare := s.spare ++ [0] } 0 0 w0 (.int x0)).tick.hd 0 ⟨[⟨.pop, 0⟩], 1, none⟩ = s6 at *
  have bo : (s6.box 1).1 = one := by unfold Tw.box; rw [f6]; rfl
  show ((step s6 2).2 = _ ∧ V16 (step s6 2).1 _ _ _ _ _) ∧ ((step (step s6 2).1 2).2 = _ ∧ V16 (step (step s6 2).1 2).1 _ _ _ _ _)
  rw [look2 h26 B.d2 B.o2 B.n2, e6, m6]
  have l7 : (s6.below 1 (some 1)).boxes.length = n := (List.length_set ..).trans l6
  have g1 : (s6.below 1 (some 1)).boxes[1]? = some (one, some 1) := by
    have := List.getElem?_set_self (l := s6.boxes) (a := ((s6.box 1).1, some 1)) (List.getElem?_eq_some_iff.mp f6).1
    rw [bo] at this
    exact bo ▸ this
  have h07 : ((s6.below 1 (some 1)).tick.hd 2 { hC one with work := some { w2 with seen := some (some 1, 4), next := .put } }).hands[0]? = some ⟨[⟨.pop, 0⟩], 1, none⟩ := by show (s6.hands.set 2 _)[0]? = _; rw [List.getElem?_set_ne (by decide)]; exact h06
  have h17 : ((s6.below 1 (some 1)).tick.hd 2 { hC one with work := some { w2 with seen := some (some 1, 4), next := .put } }).hands[1]? = some (hB two 3) := by show (s6.hands.set 2 _)[1]? = _; rw [List.getElem?_set_ne (by decide)]; exact h16
  have h27 : ((s6.below 1 (some 1)).tick.hd 2 { hC one with work := some { w2 with seen := some (some 1, 4), next := .put } }).hands[2]? = some { hC one with work := some { w2 with seen := some (some 1, 4), next := .put } } := List.getElem?_set_self (by show 2 < s6.hands.length; rw [hl6]; decide)
  have hl7 : ((s6.below 1 (some 1)).tick.hd 2 { hC one with work := some { w2 with seen := some (some 1, 4), next := .put } }).hands.length = 3 := by show (s6.hands.set 2 _).length = 3; rw [List.length_set, hl6]
  refine ⟨⟨rfl, l7, e6 ▸ bf g1 (.inr rfl), vl_cons g1, q6, hl7, ⟨_, h07, wk0⟩, ⟨_, h17, rfl⟩, ⟨_, h27, _, rfl, B.o2, fun q => nomatch q⟩⟩, ?_⟩
  have e8 := put2 (f := 1) h27 B.d2 B.o2 rfl (by show some (some 1, 4) = some (s6.head, s6.mark); rw [e6, m6])
  show (step _ 2).2 = _ ∧ V16 (step _ 2).1 _ _ _ _ _
  rw [e8]
  refine ⟨rfl, l7, bf g1 (.inr rfl), vl_cons g1, q6, ?_, ⟨⟨[⟨.pop, 0⟩], 1, none⟩, ?_, wk0⟩, ⟨hB two 3, ?_, rfl⟩, ⟨⟨[⟨.push, one⟩], 1, none⟩, List.getElem?_set_self (Nat.lt_of_lt_of_eq (by decide : 2 < 3) hl7.symm), rfl⟩⟩
  · show (List.set (List.set s6.hands 2 _) 2 _).length = 3
    rw [List.length_set, List.length_set, hl6]
  · show (List.set (List.set s6.hands 2 _) 2 _)[0]? = _
    rw [List.getElem?_set_ne (by decide), List.getElem?_set_ne (by decide)]; exact h06
  · show (List.set (List.set s6.hands 2 _) 2 _)[1]? = _
    rw [List.getElem?_set_ne (by decide), List.getElem?_set_ne (by decide)]; exact h16
end
end Mine


set_option autoImplicit false
set_option linter.unusedVariables false
set_option maxRecDepth 100000
namespace Mine
open PySem PyProof.Rows
noncomputable def g_KINDS : AV := .tup [.str "marks", .str "bare", .str "new"]
noncomputable def g_MOST_VALUES : AV := .int 60
noncomputable def g_MOST_PROGRAMS : AV := .int 20
noncomputable def g_MOST_DEEDS : AV := .int 60
noncomputable def g_FIRST : AV := .cdict [("push", "take"), ("swap", "take"), ("pop", "look"), ("top", "look"), ("clear", "look")]
noncomputable def g_BEHIND_LOOK : AV := .cdict [("push", "put"), ("swap", "see"), ("pop", "see"), ("top", "see"), ("clear", "put")]
noncomputable def g_BEHIND_SEE : AV := .cdict [("swap", "put"), ("pop", "put"), ("top", "check")]
noncomputable def g_MOST_STEPS : AV := .int 2000
noncomputable def P16 : Pg := ⟨fnOf PySem.Challenge.pw_uf020017_16, lookG [("KINDS", g_KINDS), ("MOST_VALUES", g_MOST_VALUES), ("MOST_PROGRAMS", g_MOST_PROGRAMS), ("MOST_DEEDS", g_MOST_DEEDS), ("FIRST", g_FIRST), ("BEHIND_LOOK", g_BEHIND_LOOK), ("BEHIND_SEE", g_BEHIND_SEE), ("MOST_STEPS", g_MOST_STEPS)], fun p => ([(46, 12, 14), (55, 12, 91), (56, 76, 78), (56, 115, 117), (58, 12, 14), (76, 12, 42), (76, 13, 15), (184, 151, 153), (227, 16, 45), (235, 24, 73), (276, 20, 96), (276, 21, 31), (276, 33, 73), (276, 75, 95), (277, 19, 55), (280, 23, 57)] : List (Nat × Nat × Nat)).contains (p.line, p.col, p.endCol)⟩
theorem c_is_whole_0 (cf : Str → List AV → M AV) (v_thing : AV) : tl P16 cf "is_whole" [] 0 40 [some v_thing] = (do let y9 ← (do let v1 ← (do let v7 ← pure v_thing; let b8 ← pIsi v7 .int; pure (.bool b8)); let t2 ← truth v1; match t2 with | false => pure v1 | true => (do let v3 ← (do let v5 ← pure v_thing; let b6 ← pIsi v5 .bool; pure (.bool b6)); let b4 ← truth v3; pure (.bool !b4))); pure (.ret y9)) := by kernel_rfl
theorem c_need_all_0 (cf : Str → List AV → M AV) (v_start v_programs v_kind : AV) : tl P16 cf "need_all" [] 0 40 [some v_start, some v_programs, some v_kind, none, none, none] = (do let c1 ← (do let t2 ← (do let b3 ← (do let v6 ← (do let v4 ← pure v_kind; let b5 ← pIsi v4 .str; pure (.bool b5)); truth v6); pure (!b3)); match t2 with | true => pure true | false => (do let t7 ← (pCmp .NotIn v_kind g_KINDS); match t7 with | true => pure true | false => pure false)); match c1 with | true => (do let r ← stuck; goOn (tl P16 cf "need_all" [] 1 39) r) | false => (do let r ← pure (.next [some v_start, some v_programs, some v_kind, none, none, none]); goOn (tl P16 cf "need_all" [] 1 39) r)) := by kernel_rfl
theorem c_need_all_t_1 (cf : Str → List AV → M AV) (v_start : AV) (o_programs o_kind o_value o_program o_deed : Option AV) : tl P16 cf "need_all" [] 1 39 [some v_start, o_programs, o_kind, o_value, o_program, o_deed] = (do let c1 ← (do let v2 ← (pBI false .len [v_start]); pCmp .Gt v2 g_MOST_VALUES); match c1 with | true => (do let r ← stuck; goOn (tl P16 cf "need_all" [] 2 38) r) | false => (do let r ← pure (.next [some v_start, o_programs, o_kind, o_value, o_program, o_deed]); goOn (tl P16 cf "need_all" [] 2 38) r)) := by kernel_rfl
theorem c_need_all_t_2 (cf : Str → List AV → M AV) (v_start : AV) (o_programs o_kind o_value o_program o_deed : Option AV) : tl P16 cf "need_all" [] 2 38 [some v_start, o_programs, o_kind, o_value, o_program, o_deed] = (do let it1 ← pure v_start; let src2 ← srcOf it1; let r ← forLoop src2 (forB P16 cf "need_all" [] 2 37) FUEL 0 [some v_start, o_programs, o_kind, o_value, o_program, o_deed]; goOn (tl P16 cf "need_all" [] 3 37) r) := by kernel_rfl
theorem c_need_all_t_3 (cf : Str → List AV → M AV) (v_programs : AV) (o_start o_kind o_value o_program o_deed : Option AV) : tl P16 cf "need_all" [] 3 37 [o_start, some v_programs, o_kind, o_value, o_program, o_deed] = (do let c1 ← (do let v2 ← (pBI false .len [v_programs]); pCmp .Gt v2 g_MOST_PROGRAMS); match c1 with | true => (do let r ← stuck; goOn (tl P16 cf "need_all" [] 4 36) r) | false => (do let r ← pure (.next [o_start, some v_programs, o_kind, o_value, o_program, o_deed]); goOn (tl P16 cf "need_all" [] 4 36) r)) := by kernel_rfl
theorem c_need_all_for_2 (cf : Str → List AV → M AV) (o_start o_programs o_kind o_value o_program o_deed : Option AV) (a : AV) : forB P16 cf "need_all" [] 2 37 a [o_start, o_programs, o_kind, o_value, o_program, o_deed] = (do let c1 ← (do let b2 ← (do let v3 ← (cf "is_whole" [a]); truth v3); pure (!b2)); match c1 with | true => (do let r ← stuck; goOn (fun σ => pure (.next σ)) r) | false => (do let r ← pure (.next [o_start, o_programs, o_kind, some a, o_program, o_deed]); goOn (fun σ => pure (.next σ)) r)) := by kernel_rfl
theorem c_need_all_t_4 (cf : Str → List AV → M AV) (v_programs : AV) (o_start o_kind o_value o_program o_deed : Option AV) : tl P16 cf "need_all" [] 4 36 [o_start, some v_programs, o_kind, o_value, o_program, o_deed] = (do let it1 ← pure v_programs; let src2 ← srcOf it1; let r ← forLoop src2 (forB P16 cf "need_all" [] 4 35) FUEL 0 [o_start, some v_programs, o_kind, o_value, o_program, o_deed]; goOn (fun σ => pure (.next σ)) r) := by kernel_rfl
theorem c_need_all_for_4 (cf : Str → List AV → M AV) (o_start o_programs o_kind o_value o_program o_deed : Option AV) (a : AV) : forB P16 cf "need_all" [] 4 35 a [o_start, o_programs, o_kind, o_value, o_program, o_deed] = (do let c1 ← (do let v2 ← (pBI false .len [a]); pCmp .Gt v2 g_MOST_DEEDS); match c1 with | true => (do let r ← stuck; goOn (tl P16 cf "need_all" [(4, 0)] 1 34) r) | false => (do let r ← pure (.next [o_start, o_programs, o_kind, o_value, some a, o_deed]); goOn (tl P16 cf "need_all" [(4, 0)] 1 34) r)) := by kernel_rfl
theorem c_need_all_t40_1 (cf : Str → List AV → M AV) (v_program : AV) (o_start o_programs o_kind o_value o_deed : Option AV) : tl P16 cf "need_all" [(4, 0)] 1 34 [o_start, o_programs, o_kind, o_value, some v_program, o_deed] = (do let it1 ← pure v_program; let src2 ← srcOf it1; let r ← forLoop src2 (forB P16 cf "need_all" [(4, 0)] 1 33) FUEL 0 [o_start, o_programs, o_kind, o_value, some v_program, o_deed]; goOn (fun σ => pure (.next σ)) r) := by kernel_rfl
theorem c_need_all_for40_1 (cf : Str → List AV → M AV) (o_start o_programs o_kind o_value o_program o_deed : Option AV) (a : AV) : forB P16 cf "need_all" [(4, 0)] 1 33 a [o_start, o_programs, o_kind, o_value, o_program, o_deed] = (do let c1 ← (do let b2 ← (do let v3 ← (cf "is_deed" [a]); truth v3); pure (!b2)); match c1 with | true => (do let r ← stuck; goOn (fun σ => pure (.next σ)) r) | false => (do let r ← pure (.next [o_start, o_programs, o_kind, o_value, o_program, some a]); goOn (fun σ => pure (.next σ)) r)) := by kernel_rfl
theorem c_tower_of_0 (cf : Str → List AV → M AV) (v_start v_programs v_kind : AV) : tl P16 cf "tower_of" [] 0 40 [some v_start, some v_programs, some v_kind, none, none, none, none, none, none] = (do let _ ← (cf "need_all" [v_start, v_programs, v_kind]); (do let boxes1 ← (newL true []); (do let it2 ← pure v_start; let _ ← listOf it2; let src3 ← srcOf it2; let r ← forLoop (.enum src3) (forB P16 cf "tower_of" [] 2 37) FUEL 0 [some v_start, some v_programs, some v_kind, some boxes1, none, none, none, none, none]; goOn (tl P16 cf "tower_of" [] 3 37) r))) := by kernel_rfl
theorem c_tower_of_t_3 (cf : Str → List AV → M AV) (v_start : AV) (o_programs o_kind o_boxes o_number o_value o_below o_head o_hands : Option AV) : tl P16 cf "tower_of" [] 3 37 [some v_start, o_programs, o_kind, o_boxes, o_number, o_value, o_below, o_head, o_hands] = (do let c1 ← (do let v2 ← (pBI false .len [v_start]); pCmp .Gt v2 (.int 0)); match c1 with | true => (do let r ← pure (.next [some v_start, o_programs, o_kind, o_boxes, o_number, o_value, o_below, some (.int 0), o_hands]); goOn (tl P16 cf "tower_of" [] 5 35) r) | false => (do let r ← pure (.next [some v_start, o_programs, o_kind, o_boxes, o_number, o_value, o_below, some (.none), o_hands]); goOn (tl P16 cf "tower_of" [] 5 35) r)) := by kernel_rfl
theorem c_tower_of_for_2 (cf : Str → List AV → M AV) (v_start : AV) (o_programs o_kind o_boxes o_number o_value o_below o_head o_hands : Option AV) (a b : AV) : forB P16 cf "tower_of" [] 2 37 (.tup [a, b]) [some v_start, o_programs, o_kind, o_boxes, o_number, o_value, o_below, o_head, o_hands] = (do let below1 ← (pBin false .Add a (.int 1)); (do let c2 ← ((do let c3 ← (pBI false .len [v_start]); pCmp .Eq below1 c3)); match c2 with | true => (do let r ← pure (.next [some v_start, o_programs, o_kind, o_boxes, some a, some b, some (.none), o_head, o_hands]); goOn (tl P16 cf "tower_of" [(2, 0)] 2 35) r) | false => (do let r ← pure (.next [some v_start, o_programs, o_kind, o_boxes, some a, some b, some below1, o_head, o_hands]); goOn (tl P16 cf "tower_of" [(2, 0)] 2 35) r))) := by kernel_rfl
theorem c_tower_of_t_5 (cf : Str → List AV → M AV) (v_programs v_kind v_boxes v_head : AV) (o_start o_number o_value o_below o_hands : Option AV) : tl P16 cf "tower_of" [] 5 35 [o_start, some v_programs, some v_kind, some v_boxes, o_number, o_value, o_below, some v_head, o_hands] = (do let hands8 ← (do let it5 ← pure v_programs; let src6 ← srcOf it5; let ys7 ← compLoop src6 (fun u1 => (do let y2 ← (do let vs3 ← eachM [(pBI false .tuple [u1]), pure (.int 0), pure (.none)]; newD (List.zip (["program", "place", "work"] : List Str) vs3)); pure (some y2))) FUEL 0 []; newL true ys7); (do let y10 ← (do let vs9 ← eachM [pure v_kind, pure v_boxes, pure v_head, pure (.int 0), (newL true []), pure hands8, pure (.int 0), (newL true [])]; newD (List.zip (["kind", "boxes", "head", "mark", "spare", "hands", "time", "rows"] : List Str) vs9)); pure (.ret y10))) := by kernel_rfl
theorem c_tower_of_t20_2 (cf : Str → List AV → M AV) (v_boxes v_value v_below : AV) (o_start o_programs o_kind o_number o_head o_hands : Option AV) : tl P16 cf "tower_of" [(2, 0)] 2 35 [o_start, o_programs, o_kind, some v_boxes, o_number, some v_value, some v_below, o_head, o_hands] = (do let _ ← (do let o1 ← pure v_boxes; let _ ← listOf o1; (pMeth "append" o1 [.tup [v_value, v_below]])); pure (.next [o_start, o_programs, o_kind, some v_boxes, o_number, some v_value, some v_below, o_head, o_hands])) := by kernel_rfl
theorem c_boxes_from_0 (cf : Str → List AV → M AV) (v_state v_box : AV) : tl P16 cf "boxes_from" [] 0 40 [some v_state, some v_box, none] = (do let found1 ← (newL true []); (do let r ← whileLoop (whileT P16 cf "boxes_from" [] 1 38) (whileB P16 cf "boxes_from" [] 1 38) FUEL [some v_state, some v_box, some found1]; goOn (tl P16 cf "boxes_from" [] 2 38) r)) := by kernel_rfl
theorem c_boxes_from_t_2 (cf : Str → List AV → M AV) (v_found : AV) (o_state o_box : Option AV) : tl P16 cf "boxes_from" [] 2 38 [o_state, o_box, some v_found] = pure (.ret v_found) := by kernel_rfl
theorem c_boxes_from_while_1t (cf : Str → List AV → M AV) (v_box v_found : AV) (o_state : Option AV) : whileT P16 cf "boxes_from" [] 1 38 [o_state, some v_box, some v_found] = (do let t1 ← (pCmp .IsNot v_box (.none)); match t1 with | false => pure false | true => (do let t2 ← (pCmp .NotIn v_box v_found); match t2 with | false => pure false | true => pure true)) := by kernel_rfl
theorem c_boxes_from_while_1b (cf : Str → List AV → M AV) (v_state v_box v_found : AV) : whileB P16 cf "boxes_from" [] 1 38 [some v_state, some v_box, some v_found] = (do let _ ← (do let o1 ← pure v_found; let _ ← listOf o1; (pMeth "append" o1 [v_box])); (do let box4 ← (do let x3 ← (do let x2 ← (pItem v_state (.str "boxes")); pItem x2 v_box); pItem x3 (.int 1)); pure (.next [some v_state, some box4, some v_found]))) := by kernel_rfl
theorem c_head_of_0 (cf : Str → List AV → M AV) (v_state : AV) : tl P16 cf "head_of" [] 0 40 [some v_state] = (do let y2 ← (do let vs1 ← eachM [(pItem v_state (.str "head")), (pItem v_state (.str "mark"))]; pure (.tup vs1)); pure (.ret y2)) := by kernel_rfl
theorem c_values_on_0 (cf : Str → List AV → M AV) (v_state : AV) : tl P16 cf "values_on" [] 0 40 [some v_state] = (do let y11 ← (do let it7 ← (do let vs10 ← eachM [pure v_state, (pItem v_state (.str "head"))]; cf "boxes_from" vs10); let src8 ← srcOf it7; let ys9 ← compLoop src8 (fun u1 => (do let y2 ← (do let x4 ← (do let x3 ← (pItem v_state (.str "boxes")); pItem x3 u1); pItem x4 (.int 0)); pure (some y2))) FUEL 0 []; newL false ys9); pure (.ret y11)) := by kernel_rfl
theorem c_held_by_0 (cf : Str → List AV → M AV) (v_state v_work : AV) : tl P16 cf "held_by" [] 0 40 [some v_state, some v_work] = (do let c1 ← (pCmp .Is v_work (.none)); match c1 with | true => (do let r ← (do let y2 ← (newL false []); pure (.ret y2)); goOn (tl P16 cf "held_by" [] 1 39) r) | false => (do let r ← pure (.next [some v_state, some v_work]); goOn (tl P16 cf "held_by" [] 1 39) r)) := by kernel_rfl
theorem c_held_by_t_1 (cf : Str → List AV → M AV) (v_state v_work : AV) : tl P16 cf "held_by" [] 1 39 [some v_state, some v_work] = (do let c1 ← (do let v4 ← (pItem v_work (.str "next")); pCmp .Eq v4 (.str "walk")); match c1 with | true => (do let r ← (do let y3 ← (do let vs2 ← eachM [pure v_state, (pItem v_work (.str "walk"))]; cf "boxes_from" vs2); pure (.ret y3)); goOn (tl P16 cf "held_by" [] 2 38) r) | false => (do let r ← pure (.next [some v_state, some v_work]); goOn (tl P16 cf "held_by" [] 2 38) r)) := by kernel_rfl
theorem c_held_by_t_2 (cf : Str → List AV → M AV) (v_work : AV) (o_state : Option AV) : tl P16 cf "held_by" [] 2 38 [o_state, some v_work] = (do let c1 ← (do let v4 ← (pItem v_work (.str "own")); pCmp .IsNot v4 (.none)); match c1 with | true => (do let r ← (do let y3 ← (do let vs2 ← eachM [(pItem v_work (.str "own"))]; newL false vs2); pure (.ret y3)); goOn (tl P16 cf "held_by" [] 3 37) r) | false => (do let r ← pure (.next [o_state, some v_work]); goOn (tl P16 cf "held_by" [] 3 37) r)) := by kernel_rfl
theorem c_held_by_t_3 (cf : Str → List AV → M AV) (o_state o_work : Option AV) : tl P16 cf "held_by" [] 3 37 [o_state, o_work] = (do let y1 ← (newL false []); pure (.ret y1)) := by kernel_rfl
theorem c_places_of_0 (cf : Str → List AV → M AV) (v_state : AV) : tl P16 cf "places_of" [] 0 40 [some v_state, none, none, none] = (do let found6 ← (do let it3 ← (pItem v_state (.str "boxes")); let src4 ← srcOf it3; let ys5 ← compLoop src4 (fun u1 => (do let y2 ← (newL true []); pure (some y2))) FUEL 0 []; newL true ys5); (do let it7 ← (do let vs9 ← eachM [pure v_state, (pItem v_state (.str "head"))]; cf "boxes_from" vs9); let src8 ← srcOf it7; let r ← forLoop src8 (forB P16 cf "places_of" [] 1 38) FUEL 0 [some v_state, none, some found6, none]; goOn (tl P16 cf "places_of" [] 2 38) r)) := by kernel_rfl
theorem c_places_of_t_2 (cf : Str → List AV → M AV) (v_state : AV) (o_box o_found o_hand : Option AV) : tl P16 cf "places_of" [] 2 38 [some v_state, o_box, o_found, o_hand] = (do let it1 ← (pItem v_state (.str "spare")); let src2 ← srcOf it1; let r ← forLoop src2 (forB P16 cf "places_of" [] 2 37) FUEL 0 [some v_state, o_box, o_found, o_hand]; goOn (tl P16 cf "places_of" [] 3 37) r) := by kernel_rfl
theorem c_places_of_for_1 (cf : Str → List AV → M AV) (v_found : AV) (o_state o_box o_hand : Option AV) (a : AV) : forB P16 cf "places_of" [] 1 38 a [o_state, o_box, some v_found, o_hand] = (do let _ ← (do let o1 ← (pItem v_found a); let _ ← listOf o1; (pMeth "append" o1 [.str "pile"])); pure (.next [o_state, some a, some v_found, o_hand])) := by kernel_rfl
theorem c_places_of_t_3 (cf : Str → List AV → M AV) (v_state : AV) (o_box o_found o_hand : Option AV) : tl P16 cf "places_of" [] 3 37 [some v_state, o_box, o_found, o_hand] = (do let it1 ← (pItem v_state (.str "hands")); let src2 ← srcOf it1; let r ← forLoop src2 (forB P16 cf "places_of" [] 3 36) FUEL 0 [some v_state, o_box, o_found, o_hand]; goOn (tl P16 cf "places_of" [] 4 36) r) := by kernel_rfl
theorem c_places_of_for_2 (cf : Str → List AV → M AV) (v_found : AV) (o_state o_box o_hand : Option AV) (a : AV) : forB P16 cf "places_of" [] 2 37 a [o_state, o_box, some v_found, o_hand] = (do let _ ← (do let o1 ← (pItem v_found a); let _ ← listOf o1; (pMeth "append" o1 [.str "spare"])); pure (.next [o_state, some a, some v_found, o_hand])) := by kernel_rfl
theorem c_places_of_t_4 (cf : Str → List AV → M AV) (v_found : AV) (o_state o_box o_hand : Option AV) : tl P16 cf "places_of" [] 4 36 [o_state, o_box, some v_found, o_hand] = pure (.ret v_found) := by kernel_rfl
theorem c_places_of_for_3 (cf : Str → List AV → M AV) (v_state : AV) (o_box o_found o_hand : Option AV) (a : AV) : forB P16 cf "places_of" [] 3 36 a [some v_state, o_box, o_found, o_hand] = (do let it1 ← (do let vs3 ← eachM [pure v_state, (pItem a (.str "work"))]; cf "held_by" vs3); let src2 ← srcOf it1; let r ← forLoop src2 (forB P16 cf "places_of" [(3, 0)] 0 35) FUEL 0 [some v_state, o_box, o_found, some a]; goOn (fun σ => pure (.next σ)) r) := by kernel_rfl
theorem c_places_of_for30_0 (cf : Str → List AV → M AV) (v_found : AV) (o_state o_box o_hand : Option AV) (a : AV) : forB P16 cf "places_of" [(3, 0)] 0 35 a [o_state, o_box, some v_found, o_hand] = (do let _ ← (do let o1 ← (pItem v_found a); let _ ← listOf o1; (pMeth "append" o1 [.str "held"])); pure (.next [o_state, some a, some v_found, o_hand])) := by kernel_rfl
theorem c_need_hand_0 (cf : Str → List AV → M AV) (v_state v_hand : AV) : tl P16 cf "need_hand" [] 0 40 [some v_state, some v_hand] = (do let c1 ← (do let t2 ← (do let b3 ← (do let v4 ← (cf "is_whole" [v_hand]); truth v4); pure (!b3)); match t2 with | true => pure true | false => (do let t5 ← (do let b6 ← ((do let t7 ← pCmp .LtE (.int 0) v_hand; match t7 with | true => (do let c9 ← (do let vs8 ← eachM [(pItem v_state (.str "hands"))]; pBI false .len vs8); pCmp .Lt v_hand c9) | false => pure false)); pure (!b6)); match t5 with | true => pure true | false => pure false)); match c1 with | true => (do let r ← stuck; goOn (fun σ => pure (.next σ)) r) | false => (do let r ← pure (.next [some v_state, some v_hand]); goOn (fun σ => pure (.next σ)) r)) := by kernel_rfl
theorem c_is_still_0 (cf : Str → List AV → M AV) (v_state v_work : AV) : tl P16 cf "is_still" [] 0 40 [some v_state, some v_work] = (do let c1 ← (do let v2 ← (pItem v_state (.str "head")); (do let c4 ← (do let x3 ← (pItem v_work (.str "seen")); pItem x3 (.int 0)); pCmp .NotEq v2 c4)); match c1 with | true => (do let r ← pure (.ret (.bool false)); goOn (tl P16 cf "is_still" [] 1 39) r) | false => (do let r ← pure (.next [some v_state, some v_work]); goOn (tl P16 cf "is_still" [] 1 39) r)) := by kernel_rfl
theorem c_is_still_t_1 (cf : Str → List AV → M AV) (v_state v_work : AV) : tl P16 cf "is_still" [] 1 39 [some v_state, some v_work] = (do let y9 ← (do let v1 ← (do let v8 ← (pItem v_state (.str "kind")); let b7 ← pCmp .NotEq v8 (.str "marks"); pure (.bool b7)); let t2 ← truth v1; match t2 with | true => pure v1 | false => (do let v4 ← (pItem v_state (.str "mark")); let b3 ← (do let c6 ← (do let x5 ← (pItem v_work (.str "seen")); pItem x5 (.int 1)); pCmp .Eq v4 c6); pure (.bool b3))); pure (.ret y9)) := by kernel_rfl
theorem c_put_below_0 (cf : Str → List AV → M AV) (v_state v_box v_below : AV) : tl P16 cf "put_below" [] 0 40 [some v_state, some v_box, some v_below] = (do let v4 ← (do let vs3 ← eachM [(do let x2 ← (do let x1 ← (pItem v_state (.str "boxes")); pItem x1 v_box); pItem x2 (.int 0)), pure v_below]; pure (.tup vs3)); let o5 ← (pItem v_state (.str "boxes")); pStore o5 v_box v4; pure (.next [some v_state, some v_box, some v_below])) := by kernel_rfl
theorem c_come_to_point_0 (cf : Str → List AV → M AV) (v_state v_number v_work : AV) : tl P16 cf "come_to_point" [] 0 40 [some v_state, some v_number, some v_work, none] = (do let hand2 ← (do let x1 ← (pItem v_state (.str "hands")); pItem x1 v_number); (do let v4 ← (do let vs3 ← eachM [(pItem v_state (.str "rows"))]; pBI false .len vs3); pStore v_work (.str "row") v4; (do let _ ← (do let o5 ← (pItem v_state (.str "rows")); let _ ← listOf o5; (do let vs7 ← eachM [(do let vs6 ← eachM [pure v_number, (pItem hand2 (.str "place")), (pItem v_work (.str "deed")), (pItem v_work (.str "begun")), (pItem v_state (.str "time")), pure (.none), pure (.none)]; pure (.tup vs6))]; pMeth "append" o5 vs7)); pure (.next [some v_state, some v_number, some v_work, some hand2])))) := by kernel_rfl
theorem c_end_0 (cf : Str → List AV → M AV) (v_state v_number v_work v_answer : AV) : tl P16 cf "end" [] 0 40 [some v_state, some v_number, some v_work, some v_answer, none] = (do let c1 ← (do let v2 ← (pItem v_work (.str "row")); pCmp .Is v2 (.none)); match c1 with | true => (do let r ← (do let _ ← (cf "come_to_point" [v_state, v_number, v_work]); pure (.next [some v_state, some v_number, some v_work, some v_answer, none])); goOn (tl P16 cf "end" [] 1 39) r) | false => (do let r ← pure (.next [some v_state, some v_number, some v_work, some v_answer, none]); goOn (tl P16 cf "end" [] 1 39) r)) := by kernel_rfl
theorem c_end_t_1 (cf : Str → List AV → M AV) (v_state v_number v_work v_answer : AV) (o_row : Option AV) : tl P16 cf "end" [] 1 39 [some v_state, some v_number, some v_work, some v_answer, o_row] = (do let row3 ← (do let x1 ← (pItem v_state (.str "rows")); let x2 ← (pItem v_work (.str "row")); pItem x1 x2); (do let v10 ← (do let x8 ← (do let o4 ← pure row3; let i5 ← pure none; let j6 ← pure (some 5); pSlice false o4 i5 j6); let x9 ← (do let vs7 ← eachM [(pItem v_state (.str "time")), pure v_answer]; pure (.tup vs7)); pBin false .Add x8 x9); let o11 ← (pItem v_state (.str "rows")); let o12 ← (pItem v_work (.str "row")); pStore o11 o12 v10; (do let v16 ← (do let x15 ← (do let x14 ← (do let x13 ← (pItem v_state (.str "hands")); pItem x13 v_number); pItem x14 (.str "place")); pBin false .Add x15 (.int 1)); let o18 ← (do let x17 ← (pItem v_state (.str "hands")); pItem x17 v_number); pStore o18 (.str "place") v16; (do let o20 ← (do let x19 ← (pItem v_state (.str "hands")); pItem x19 v_number); pStore o20 (.str "work") (.none); pure (.next [some v_state, some v_number, some v_work, some v_answer, some row3]))))) := by kernel_rfl
theorem c_take_0 (cf : Str → List AV → M AV) (v_state v_work : AV) : tl P16 cf "take" [] 0 40 [some v_state, some v_work, none] = (do let c1 ← (do let t7 ← (do let v8 ← (pItem v_state (.str "kind")); pCmp .Eq v8 (.str "new")); match t7 with | true => pure true | false => (do let t9 ← (do let v10 ← (pItem v_state (.str "spare")); (do let c11 ← (newL false []); pCmp .Eq v10 c11)); match t9 with | true => pure true | false => pure false)); match c1 with | true => (do let r ← (do let box3 ← (do let vs2 ← eachM [(pItem v_state (.str "boxes"))]; pBI false .len vs2); (do let _ ← (do let o4 ← (pItem v_state (.str "boxes")); let _ ← listOf o4; (pMeth "append" o4 [.none])); pure (.next [some v_state, some v_work, some box3]))); goOn (tl P16 cf "take" [] 1 39) r) | false => (do let r ← (do let box6 ← (do let o5 ← (pItem v_state (.str "spare")); let _ ← listOf o5; (pMeth "pop" o5 [])); pure (.next [some v_state, some v_work, some box6])); goOn (tl P16 cf "take" [] 1 39) r)) := by kernel_rfl
theorem c_take_t_1 (cf : Str → List AV → M AV) (v_state v_work v_box : AV) : tl P16 cf "take" [] 1 39 [some v_state, some v_work, some v_box] = (do let v3 ← (do let vs2 ← eachM [(do let x1 ← (pItem v_work (.str "deed")); pItem x1 (.int 1)), pure (.none)]; pure (.tup vs2)); let o4 ← (pItem v_state (.str "boxes")); pStore o4 v_box v3; (do pStore v_work (.str "own") v_box; (do pStore v_work (.str "next") (.str "look"); pure (.ret (.tup [.str "take", v_box]))))) := by kernel_rfl
theorem c_look_0 (cf : Str → List AV → M AV) (v_state v_number v_work : AV) : tl P16 cf "look" [] 0 40 [some v_state, some v_number, some v_work, none, none, none] = (do let word2 ← (do let x1 ← (pItem v_work (.str "deed")); pItem x1 (.int 0)); (do let v3 ← (cf "head_of" [v_state]); pStore v_work (.str "seen") v3; (do let v4 ← (pItem g_BEHIND_LOOK word2); pStore v_work (.str "next") v4; (do let told6 ← (do let vs5 ← eachM [pure (.str "look"), (pItem v_state (.str "head")), (pItem v_state (.str "mark"))]; pure (.tup vs5)); (do let c7 ← (pCmp .Eq word2 (.str "push")); match c7 with | true => (do let r ← (do let _ ← (do let vs8 ← eachM [pure v_state, (pItem v_work (.str "own")), (pItem v_state (.str "head"))]; cf "put_below" vs8); pure (.next [some v_state, some v_number, some v_work, some word2, some told6, none])); goOn (tl P16 cf "look" [] 5 35) r) | false => (do let r ← (do let c9 ← (do let v13 ← (pItem v_state (.str "head")); pCmp .Is v13 (.none)); match c9 with | true => (do let r ← (do let c10 ← (pCmp .Eq word2 (.str "swap")); match c10 with | true => (do let r ← (do let _ ← (do let o11 ← (pItem v_state (.str "spare")); let _ ← listOf o11; (do let vs12 ← eachM [(pItem v_work (.str "own"))]; pMeth "append" o11 vs12)); pure (.next [some v_state, some v_number, some v_work, some word2, some told6, none])); goOn (tl P16 cf "look" [(4, 1), (0, 0)] 1 33) r) | false => (do let r ← pure (.next [some v_state, some v_number, some v_work, some word2, some told6, none]); goOn (tl P16 cf "look" [(4, 1), (0, 0)] 1 33) r)); goOn (fun σ => pure (.next σ)) r) | false => (do let r ← pure (.next [some v_state, some v_number, some v_work, some word2, some told6, none]); goOn (fun σ => pure (.next σ)) r)); goOn (tl P16 cf "look" [] 5 35) r)))))) := by kernel_rfl
theorem c_look_t41_00_1 (cf : Str → List AV → M AV) (v_word : AV) (o_state o_number o_work o_told o_answer : Option AV) : tl P16 cf "look" [(4, 1), (0, 0)] 1 33 [o_state, o_number, o_work, some v_word, o_told, o_answer] = (do let c1 ← (pCmp .Eq v_word (.str "clear")); match c1 with | true => (do let r ← pure (.next [o_state, o_number, o_work, some v_word, o_told, some (.tup [])]); goOn (tl P16 cf "look" [(4, 1), (0, 0)] 3 31) r) | false => (do let r ← pure (.next [o_state, o_number, o_work, some v_word, o_told, some (.none)]); goOn (tl P16 cf "look" [(4, 1), (0, 0)] 3 31) r)) := by kernel_rfl
theorem c_look_t_5 (cf : Str → List AV → M AV) (v_told : AV) (o_state o_number o_work o_word o_answer : Option AV) : tl P16 cf "look" [] 5 35 [o_state, o_number, o_work, o_word, some v_told, o_answer] = pure (.ret v_told) := by kernel_rfl
theorem c_look_t41_00_3 (cf : Str → List AV → M AV) (v_state v_number v_work v_answer : AV) (o_word o_told : Option AV) : tl P16 cf "look" [(4, 1), (0, 0)] 3 31 [some v_state, some v_number, some v_work, o_word, o_told, some v_answer] = (do let _ ← (cf "end" [v_state, v_number, v_work, v_answer]); pure (.next [some v_state, some v_number, some v_work, o_word, o_told, some v_answer])) := by kernel_rfl
theorem c_see_0 (cf : Str → List AV → M AV) (v_state v_work : AV) : tl P16 cf "see" [] 0 40 [some v_state, some v_work, none, none] = (do let box2 ← (do let x1 ← (pItem v_work (.str "seen")); pItem x1 (.int 0)); (do let v4 ← (do let x3 ← (pItem v_state (.str "boxes")); pItem x3 box2); pStore v_work (.str "inside") v4; (do let v7 ← (do let x6 ← (do let x5 ← (pItem v_work (.str "deed")); pItem x5 (.int 0)); pItem g_BEHIND_SEE x6); pStore v_work (.str "next") v7; (do let told9 ← (do let x8 ← (pItem v_work (.str "inside")); pBin false .Add (.tup [.str "see", box2]) x8); (do let c10 ← (do let v14 ← (do let x13 ← (pItem v_work (.str "deed")); pItem x13 (.int 0)); pCmp .Eq v14 (.str "swap")); match c10 with | true => (do let r ← (do let _ ← (do let vs12 ← eachM [pure v_state, (pItem v_work (.str "own")), (do let x11 ← (pItem v_work (.str "inside")); pItem x11 (.int 1))]; cf "put_below" vs12); pure (.next [some v_state, some v_work, some box2, some told9])); goOn (tl P16 cf "see" [] 5 35) r) | false => (do let r ← pure (.next [some v_state, some v_work, some box2, some told9]); goOn (tl P16 cf "see" [] 5 35) r)))))) := by kernel_rfl
theorem c_see_t_5 (cf : Str → List AV → M AV) (v_told : AV) (o_state o_work o_box : Option AV) : tl P16 cf "see" [] 5 35 [o_state, o_work, o_box, some v_told] = pure (.ret v_told) := by kernel_rfl
theorem c_put_0 (cf : Str → List AV → M AV) (v_state v_number v_work : AV) : tl P16 cf "put" [] 0 40 [some v_state, some v_number, some v_work, none, none] = (do let c1 ← (do let b2 ← (do let v3 ← (cf "is_still" [v_state, v_work]); truth v3); pure (!b2)); match c1 with | true => (do let r ← (do pStore v_work (.str "next") (.str "look"); pure (.ret (.tup [.str "put", .bool false]))); goOn (tl P16 cf "put" [] 1 39) r) | false => (do let r ← pure (.next [some v_state, some v_number, some v_work, none, none]); goOn (tl P16 cf "put" [] 1 39) r)) := by kernel_rfl
theorem c_put_t_1 (cf : Str → List AV → M AV) (v_state v_number v_work : AV) (o_word o_ahead : Option AV) : tl P16 cf "put" [] 1 39 [some v_state, some v_number, some v_work, o_word, o_ahead] = (do let word2 ← (do let x1 ← (pItem v_work (.str "deed")); pItem x1 (.int 0)); (do let ahead3 ← (pItem v_state (.str "head")); (do let v5 ← (do let x4 ← (pItem v_state (.str "mark")); pBin false .Add x4 (.int 1)); pStore v_state (.str "mark") v5; (do let c6 ← (pCmp .Eq word2 (.str "clear")); match c6 with | true => (do let r ← (do pStore v_state (.str "head") (.none); (do let _ ← (cf "come_to_point" [v_state, v_number, v_work]); (do pStore v_work (.str "walk") ahead3; (do pStore v_work (.str "next") (.str "walk"); pure (.next [some v_state, some v_number, some v_work, some word2, some ahead3]))))); goOn (tl P16 cf "put" [] 5 35) r) | false => (do let r ← (do let c7 ← (pCmp .Eq word2 (.str "push")); match c7 with | true => (do let r ← (do let v8 ← (pItem v_work (.str "own")); pStore v_state (.str "head") v8; (do let _ ← (cf "end" [v_state, v_number, v_work, .none]); pure (.next [some v_state, some v_number, some v_work, some word2, some ahead3]))); goOn (fun σ => pure (.next σ)) r) | false => (do let r ← (do let v9 ← (pItem v_work (.str "own")); pStore v_state (.str "head") v9; (do let c10 ← (pCmp .Eq word2 (.str "pop")); match c10 with | true => (do let r ← (do let v12 ← (do let x11 ← (pItem v_work (.str "inside")); pItem x11 (.int 1)); pStore v_state (.str "head") v12; pure (.next [some v_state, some v_number, some v_work, some word2, some ahead3])); goOn (tl P16 cf "put" [(4, 1), (0, 1)] 2 32) r) | false => (do let r ← pure (.next [some v_state, some v_number, some v_work, some word2, some ahead3]); goOn (tl P16 cf "put" [(4, 1), (0, 1)] 2 32) r))); goOn (fun σ => pure (.next σ)) r)); goOn (tl P16 cf "put" [] 5 35) r))))) := by kernel_rfl
theorem c_put_t41_01_2 (cf : Str → List AV → M AV) (v_state v_number v_work v_ahead : AV) (o_word : Option AV) : tl P16 cf "put" [(4, 1), (0, 1)] 2 32 [some v_state, some v_number, some v_work, o_word, some v_ahead] = (do let _ ← (do let o1 ← (pItem v_state (.str "spare")); let _ ← listOf o1; (pMeth "append" o1 [v_ahead])); (do let _ ← (do let vs3 ← eachM [pure v_state, pure v_number, pure v_work, (do let x2 ← (pItem v_work (.str "inside")); pItem x2 (.int 0))]; cf "end" vs3); pure (.next [some v_state, some v_number, some v_work, o_word, some v_ahead]))) := by kernel_rfl
theorem c_put_t_5 (cf : Str → List AV → M AV) (o_state o_number o_work o_word o_ahead : Option AV) : tl P16 cf "put" [] 5 35 [o_state, o_number, o_work, o_word, o_ahead] = pure (.ret (.tup [.str "put", .bool true])) := by kernel_rfl
theorem c_check_0 (cf : Str → List AV → M AV) (v_state v_number v_work : AV) : tl P16 cf "check" [] 0 40 [some v_state, some v_number, some v_work, none] = (do let told2 ← (do let vs1 ← eachM [pure (.str "look"), (pItem v_state (.str "head")), (pItem v_state (.str "mark"))]; pure (.tup vs1)); (do let c3 ← (do let v6 ← (cf "is_still" [v_state, v_work]); truth v6); match c3 with | true => (do let r ← (do let _ ← (do let vs5 ← eachM [pure v_state, pure v_number, pure v_work, (do let x4 ← (pItem v_work (.str "inside")); pItem x4 (.int 0))]; cf "end" vs5); pure (.next [some v_state, some v_number, some v_work, some told2])); goOn (tl P16 cf "check" [] 2 38) r) | false => (do let r ← (do pStore v_work (.str "next") (.str "look"); pure (.next [some v_state, some v_number, some v_work, some told2])); goOn (tl P16 cf "check" [] 2 38) r))) := by kernel_rfl
theorem c_check_t_2 (cf : Str → List AV → M AV) (v_told : AV) (o_state o_number o_work : Option AV) : tl P16 cf "check" [] 2 38 [o_state, o_number, o_work, some v_told] = pure (.ret v_told) := by kernel_rfl
theorem c_walk_0 (cf : Str → List AV → M AV) (v_state v_number v_work : AV) : tl P16 cf "walk" [] 0 40 [some v_state, some v_number, some v_work, none, none, none] = (do let box1 ← (pItem v_work (.str "walk")); (do let v4 ← (do let x2 ← (pItem v_state (.str "boxes")); pItem x2 box1); let pr3 ← pairOf v4; (do let _ ← (do let o5 ← (pItem v_work (.str "kept")); let _ ← listOf o5; (pMeth "append" o5 [pr3.1])); (do let _ ← (do let o6 ← (pItem v_state (.str "spare")); let _ ← listOf o6; (pMeth "append" o6 [box1])); (do pStore v_work (.str "walk") pr3.2; (do let c7 ← (pCmp .Is pr3.2 (.none)); match c7 with | true => (do let r ← (do let _ ← (do let vs9 ← eachM [pure v_state, pure v_number, pure v_work, (do let vs8 ← eachM [(pItem v_work (.str "kept"))]; pBI false .tuple vs8)]; cf "end" vs9); pure (.next [some v_state, some v_number, some v_work, some box1, some pr3.1, some pr3.2])); goOn (tl P16 cf "walk" [] 6 34) r) | false => (do let r ← pure (.next [some v_state, some v_number, some v_work, some box1, some pr3.1, some pr3.2]); goOn (tl P16 cf "walk" [] 6 34) r))))))) := by kernel_rfl
theorem c_walk_t_6 (cf : Str → List AV → M AV) (v_box v_value v_below : AV) (o_state o_number o_work : Option AV) : tl P16 cf "walk" [] 6 34 [o_state, o_number, o_work, some v_box, some v_value, some v_below] = pure (.ret (.tup [.str "see", v_box, v_value, v_below])) := by kernel_rfl
theorem c_work_of_0 (cf : Str → List AV → M AV) (v_state v_number : AV) : tl P16 cf "work_of" [] 0 40 [some v_state, some v_number, none, none] = (do let hand2 ← (do let x1 ← (pItem v_state (.str "hands")); pItem x1 v_number); (do let c3 ← (do let v10 ← (pItem hand2 (.str "work")); pCmp .Is v10 (.none)); match c3 with | true => (do let r ← (do let deed6 ← (do let x4 ← (pItem hand2 (.str "program")); let x5 ← (pItem hand2 (.str "place")); pItem x4 x5); (do let v9 ← (do let vs8 ← eachM [pure deed6, (pItem v_state (.str "time")), (do let x7 ← (pItem deed6 (.int 0)); pItem g_FIRST x7), pure (.none), pure (.none), pure (.none), pure (.none), (newL true []), pure (.none)]; newD (List.zip (["deed", "begun", "next", "own", "seen", "inside", "walk", "kept", "row"] : List Str) vs8)); pStore hand2 (.str "work") v9; pure (.next [some v_state, some v_number, some hand2, some deed6]))); goOn (tl P16 cf "work_of" [] 2 38) r) | false => (do let r ← pure (.next [some v_state, some v_number, some hand2, none]); goOn (tl P16 cf "work_of" [] 2 38) r))) := by kernel_rfl
theorem c_work_of_t_2 (cf : Str → List AV → M AV) (v_hand : AV) (o_state o_number o_deed : Option AV) : tl P16 cf "work_of" [] 2 38 [o_state, o_number, some v_hand, o_deed] = (do let y1 ← (pItem v_hand (.str "work")); pure (.ret y1)) := by kernel_rfl
theorem c_go_0 (cf : Str → List AV → M AV) (v_state v_number : AV) : tl P16 cf "go" [] 0 40 [some v_state, some v_number, none, none, none] = (do let hand2 ← (do let x1 ← (pItem v_state (.str "hands")); pItem x1 v_number); (do let c3 ← (do let t21 ← (do let v22 ← (pItem hand2 (.str "work")); pCmp .Is v22 (.none)); match t21 with | false => pure false | true => (do let t23 ← (do let v24 ← (pItem hand2 (.str "place")); (do let c26 ← (do let vs25 ← eachM [(pItem hand2 (.str "program"))]; pBI false .len vs25); pCmp .Eq v24 c26)); match t23 with | false => pure false | true => pure true)); match c3 with | true => (do let r ← pure (.next [some v_state, some v_number, some hand2, some (.tup [.str "rest"]), none]); goOn (tl P16 cf "go" [] 2 38) r) | false => (do let r ← (do let work4 ← (cf "work_of" [v_state, v_number]); (do let c5 ← (do let v20 ← (pItem work4 (.str "next")); pCmp .Eq v20 (.str "take")); match c5 with | true => (do let r ← (do let told6 ← (cf "take" [v_state, work4]); pure (.next [some v_state, some v_number, some hand2, some told6, some work4])); goOn (fun σ => pure (.next σ)) r) | false => (do let r ← (do let c7 ← (do let v19 ← (pItem work4 (.str "next")); pCmp .Eq v19 (.str "look")); match c7 with | true => (do let r ← (do let told8 ← (cf "look" [v_state, v_number, work4]); pure (.next [some v_state, some v_number, some hand2, some told8, some work4])); goOn (fun σ => pure (.next σ)) r) | false => (do let r ← (do let c9 ← (do let v18 ← (pItem work4 (.str "next")); pCmp .Eq v18 (.str "see")); match c9 with | true => (do let r ← (do let told10 ← (cf "see" [v_state, work4]); pure (.next [some v_state, some v_number, some hand2, some told10, some work4])); goOn (fun σ => pure (.next σ)) r) | false => (do let r ← (do let c11 ← (do let v17 ← (pItem work4 (.str "next")); pCmp .Eq v17 (.str "put")); match c11 with | true => (do let r ← (do let told12 ← (cf "put" [v_state, v_number, work4]); pure (.next [some v_state, some v_number, some hand2, some told12, some work4])); goOn (fun σ => pure (.next σ)) r) | false => (do let r ← (do let c13 ← (do let v16 ← (pItem work4 (.str "next")); pCmp .Eq v16 (.str "check")); match c13 with | true => (do let r ← (do let told14 ← (cf "check" [v_state, v_number, work4]); pure (.next [some v_state, some v_number, some hand2, some told14, some work4])); goOn (fun σ => pure (.next σ)) r) | false => (do let r ← (do let told15 ← (cf "walk" [v_state, v_number, work4]); pure (.next [some v_state, some v_number, some hand2, some told15, some work4])); goOn (fun σ => pure (.next σ)) r)); goOn (fun σ => pure (.next σ)) r)); goOn (fun σ => pure (.next σ)) r)); goOn (fun σ => pure (.next σ)) r)); goOn (fun σ => pure (.next σ)) r))); goOn (tl P16 cf "go" [] 2 38) r))) := by kernel_rfl
theorem c_go_t_2 (cf : Str → List AV → M AV) (v_state v_told : AV) (o_number o_hand o_work : Option AV) : tl P16 cf "go" [] 2 38 [some v_state, o_number, o_hand, some v_told, o_work] = (do let v2 ← (do let x1 ← (pItem v_state (.str "time")); pBin false .Add x1 (.int 1)); pStore v_state (.str "time") v2; pure (.ret v_told)) := by kernel_rfl
theorem c_woven_0 (cf : Str → List AV → M AV) (v_start v_programs v_weaving v_kind : AV) : tl P16 cf "woven" [] 0 40 [some v_start, some v_programs, some v_weaving, some v_kind, none, none, none] = (do let state1 ← (cf "tower_of" [v_start, v_programs, v_kind]); (do let c2 ← (do let v3 ← (pBI false .len [v_weaving]); pCmp .Gt v3 g_MOST_STEPS); match c2 with | true => (do let r ← stuck; goOn (tl P16 cf "woven" [] 2 38) r) | false => (do let r ← pure (.next [some v_start, some v_programs, some v_weaving, some v_kind, some state1, none, none]); goOn (tl P16 cf "woven" [] 2 38) r))) := by kernel_rfl
theorem c_woven_t_2 (cf : Str → List AV → M AV) (v_weaving : AV) (o_start o_programs o_kind o_state o_hand o_steps : Option AV) : tl P16 cf "woven" [] 2 38 [o_start, o_programs, some v_weaving, o_kind, o_state, o_hand, o_steps] = (do let it1 ← pure v_weaving; let src2 ← srcOf it1; let r ← forLoop src2 (forB P16 cf "woven" [] 2 37) FUEL 0 [o_start, o_programs, some v_weaving, o_kind, o_state, o_hand, o_steps]; goOn (tl P16 cf "woven" [] 3 37) r) := by kernel_rfl
theorem c_woven_t_3 (cf : Str → List AV → M AV) (v_weaving v_state : AV) (o_start o_programs o_kind o_hand o_steps : Option AV) : tl P16 cf "woven" [] 3 37 [o_start, o_programs, some v_weaving, o_kind, some v_state, o_hand, o_steps] = (do let steps6 ← (do let it3 ← pure v_weaving; let src4 ← srcOf it3; let ys5 ← compLoop src4 (fun u1 => (do let y2 ← (cf "go" [v_state, u1]); pure (some y2))) FUEL 0 []; newL false ys5); pure (.ret (.tup [v_state, steps6]))) := by kernel_rfl
theorem c_woven_for_2 (cf : Str → List AV → M AV) (v_state : AV) (o_start o_programs o_weaving o_kind o_hand o_steps : Option AV) (a : AV) : forB P16 cf "woven" [] 2 37 a [o_start, o_programs, o_weaving, o_kind, some v_state, o_hand, o_steps] = (do let _ ← (cf "need_hand" [v_state, a]); pure (.next [o_start, o_programs, o_weaving, o_kind, some v_state, some a, o_steps])) := by kernel_rfl
theorem c_mixed_0 (cf : Str → List AV → M AV) (v_cell v_k : AV) : tl P16 cf "_law_mixed" [] 0 40 [some v_cell, some v_k, none] = (do let left4 ← (do let x3 ← (do let x2 ← (do let x1 ← (pBin false .Mult (.int 7919) v_k); pBin false .Add v_cell x1); pBin false .Mult x2 (.int 48271)); pBin false .Mod x3 (.int 2147483647)); (do let y6 ← (do let x5 ← (pBin false .Mult left4 left4); pBin false .Mod x5 (.int 2147483629)); pure (.ret y6))) := by kernel_rfl
theorem c_cell_at_0 (cf : Str → List AV → M AV) (v_script v_k : AV) : tl P16 cf "_law_cell_at" [] 0 40 [some v_script, some v_k] = (do let c1 ← ((do let c4 ← (pBI false .len [v_script]); pCmp .Lt v_k c4)); match c1 with | true => (do let r ← (do let y3 ← (do let vs2 ← eachM [(pItem v_script v_k), pure v_k]; cf "_law_mixed" vs2); pure (.ret y3)); goOn (tl P16 cf "_law_cell_at" [] 1 39) r) | false => (do let r ← pure (.next [some v_script, some v_k]); goOn (tl P16 cf "_law_cell_at" [] 1 39) r)) := by kernel_rfl
theorem c_cell_at_t_1 (cf : Str → List AV → M AV) (o_script o_k : Option AV) : tl P16 cf "_law_cell_at" [] 1 39 [o_script, o_k] = pure (.ret (.int 0)) := by kernel_rfl
theorem c_alike_0 (cf : Str → List AV → M AV) (v_found v_due_here : AV) : tl P16 cf "_law_alike" [] 0 40 [some v_found, some v_due_here, none, none] = (do let rest1 ← (newL true [.tup [v_found, v_due_here]]); (do let r ← whileLoop (whileT P16 cf "_law_alike" [] 1 38) (whileB P16 cf "_law_alike" [] 1 38) FUEL [some v_found, some v_due_here, some rest1, none]; goOn (tl P16 cf "_law_alike" [] 2 38) r)) := by kernel_rfl
theorem c_alike_t_2 (cf : Str → List AV → M AV) (o_found o_due_here o_rest o_pair : Option AV) : tl P16 cf "_law_alike" [] 2 38 [o_found, o_due_here, o_rest, o_pair] = pure (.ret (.bool true)) := by kernel_rfl
theorem c_alike_while_1t (cf : Str → List AV → M AV) (v_rest : AV) (o_found o_due_here o_pair : Option AV) : whileT P16 cf "_law_alike" [] 1 38 [o_found, o_due_here, some v_rest, o_pair] = ((do let c1 ← (newL false []); pCmp .NotEq v_rest c1)) := by kernel_rfl
theorem c_alike_while_1b (cf : Str → List AV → M AV) (v_rest : AV) (o_found o_due_here o_pair : Option AV) : whileB P16 cf "_law_alike" [] 1 38 [o_found, o_due_here, some v_rest, o_pair] = (do let pair2 ← (do let o1 ← pure v_rest; let _ ← listOf o1; (pMeth "pop" o1 [])); (do let c3 ← (do let v46 ← (do let v44 ← (pItem pair2 (.int 1)); let b45 ← pIsiTL v44; pure (.bool b45)); truth v46); match c3 with | true => (do let r ← (do let c4 ← (do let v7 ← (do let v5 ← (pItem pair2 (.int 0)); let b6 ← pIsi v5 .tuple; pure (.bool b6)); (do let c10 ← (do let v8 ← (pItem pair2 (.int 1)); let b9 ← pIsi v8 .tuple; pure (.bool b9)); pCmp .NotEq v7 c10)); match c4 with | true => (do let r ← pure (.ret (.bool false)); goOn (tl P16 cf "_law_alike" [(1, 0), (1, 0)] 1 35) r) | false => (do let r ← pure (.next [o_found, o_due_here, some v_rest, some pair2]); goOn (tl P16 cf "_law_alike" [(1, 0), (1, 0)] 1 35) r)); goOn (fun σ => pure (.next σ)) r) | false => (do let r ← (do let c11 ← (do let t38 ← (do let v39 ← (pItem pair2 (.int 1)); pCmp .Is v39 (.none)); match t38 with | true => pure true | false => (do let t40 ← (do let v43 ← (do let v41 ← (pItem pair2 (.int 1)); let b42 ← pIsi v41 .bool; pure (.bool b42)); truth v43); match t40 with | true => pure true | false => pure false)); match c11 with | true => (do let r ← (do let c12 ← (do let t13 ← (do let v16 ← (do let v14 ← (pItem pair2 (.int 0)); let b15 ← pIsi v14 .bool; pure (.bool b15)); (do let c19 ← (do let v17 ← (pItem pair2 (.int 1)); let b18 ← pIsi v17 .bool; pure (.bool b18)); pCmp .NotEq v16 c19)); match t13 with | true => pure true | false => (do let t20 ← (do let v21 ← (pItem pair2 (.int 0)); (do let c22 ← (pItem pair2 (.int 1)); pCmp .NotEq v21 c22)); match t20 with | true => pure true | false => pure false)); match c12 with | true => (do let r ← pure (.ret (.bool false)); goOn (fun σ => pure (.next σ)) r) | false => (do let r ← pure (.next [o_found, o_due_here, some v_rest, some pair2]); goOn (fun σ => pure (.next σ)) r)); goOn (fun σ => pure (.next σ)) r) | false => (do let r ← (do let c23 ← (do let t24 ← (do let v27 ← (do let v25 ← (pItem pair2 (.int 0)); let b26 ← pIsi v25 .str; pure (.bool b26)); (do let c30 ← (do let v28 ← (pItem pair2 (.int 1)); let b29 ← pIsi v28 .str; pure (.bool b29)); pCmp .NotEq v27 c30)); match t24 with | true => pure true | false => (do let t31 ← (do let v34 ← (do let v32 ← (pItem pair2 (.int 0)); let b33 ← pIsi v32 .bool; pure (.bool b33)); truth v34); match t31 with | true => pure true | false => (do let t35 ← (do let v36 ← (pItem pair2 (.int 0)); (do let c37 ← (pItem pair2 (.int 1)); pCmp .NotEq v36 c37)); match t35 with | true => pure true | false => pure false))); match c23 with | true => (do let r ← pure (.ret (.bool false)); goOn (fun σ => pure (.next σ)) r) | false => (do let r ← pure (.next [o_found, o_due_here, some v_rest, some pair2]); goOn (fun σ => pure (.next σ)) r)); goOn (fun σ => pure (.next σ)) r)); goOn (fun σ => pure (.next σ)) r))) := by kernel_rfl
theorem c_alike_t10_10_1 (cf : Str → List AV → M AV) (v_pair : AV) (o_found o_due_here o_rest : Option AV) : tl P16 cf "_law_alike" [(1, 0), (1, 0)] 1 35 [o_found, o_due_here, o_rest, some v_pair] = (do let c1 ← (do let t2 ← (do let v5 ← (do let v3 ← (pItem v_pair (.int 0)); let b4 ← pIsi v3 .list; pure (.bool b4)); (do let c8 ← (do let v6 ← (pItem v_pair (.int 1)); let b7 ← pIsi v6 .list; pure (.bool b7)); pCmp .NotEq v5 c8)); match t2 with | true => pure true | false => (do let t9 ← (do let v11 ← (do let vs10 ← eachM [(pItem v_pair (.int 0))]; pBI false .len vs10); (do let c13 ← (do let vs12 ← eachM [(pItem v_pair (.int 1))]; pBI false .len vs12); pCmp .NotEq v11 c13)); match t9 with | true => pure true | false => pure false)); match c1 with | true => (do let r ← pure (.ret (.bool false)); goOn (tl P16 cf "_law_alike" [(1, 0), (1, 0)] 2 34) r) | false => (do let r ← pure (.next [o_found, o_due_here, o_rest, some v_pair]); goOn (tl P16 cf "_law_alike" [(1, 0), (1, 0)] 2 34) r)) := by kernel_rfl
theorem c_alike_t10_10_2 (cf : Str → List AV → M AV) (v_rest v_pair : AV) (o_found o_due_here : Option AV) : tl P16 cf "_law_alike" [(1, 0), (1, 0)] 2 34 [o_found, o_due_here, some v_rest, some v_pair] = (do let rest3 ← (do let x2 ← (do let vs1 ← eachM [(pItem v_pair (.int 0)), (pItem v_pair (.int 1))]; pZipL false vs1); pBin true .Add v_rest x2); pure (.next [o_found, o_due_here, some rest3, some v_pair])) := by kernel_rfl
theorem c_value_by_0 (cf : Str → List AV → M AV) (v_cell : AV) : tl P16 cf "_law_value_by" [] 0 40 [some v_cell] = (do let c1 ← (do let v8 ← (pBin false .Mod v_cell (.int 4)); pCmp .Eq v8 (.int 0)); match c1 with | true => (do let r ← (do let y7 ← (do let x5 ← (do let x4 ← (do let x3 ← (do let x2 ← (pBin false .FloorDiv v_cell (.int 4)); pBin false .Mult x2 (.int 7919)); pBin false .Mult x3 (.int 7919)); pBin false .Mult x4 (.int 7919)); let x6 ← (pBin false .Pow (.int 10) (.int 20)); pBin false .Sub x5 x6); pure (.ret y7)); goOn (tl P16 cf "_law_value_by" [] 1 39) r) | false => (do let r ← pure (.next [some v_cell]); goOn (tl P16 cf "_law_value_by" [] 1 39) r)) := by kernel_rfl
theorem c_value_by_t_1 (cf : Str → List AV → M AV) (v_cell : AV) : tl P16 cf "_law_value_by" [] 1 39 [some v_cell] = (do let y3 ← (do let x2 ← (do let x1 ← (pBin false .FloorDiv v_cell (.int 4)); pBin false .Mod x1 (.int 5)); pBin false .Sub x2 (.int 1)); pure (.ret y3)) := by kernel_rfl
theorem c_start_by_0 (cf : Str → List AV → M AV) (v_cell : AV) : tl P16 cf "_law_start_by" [] 0 40 [some v_cell, none] = (do let size1 ← (pBin false .Mod v_cell (.int 4)); (do let c2 ← (do let v6 ← (do let x5 ← (pBin false .FloorDiv v_cell (.int 4)); pBin false .Mod x5 (.int 8)); pCmp .Eq v6 (.int 1)); match c2 with | true => (do let r ← (do let size4 ← (do let x3 ← (pBin false .FloorDiv v_cell (.int 32)); pBin false .Mod x3 (.int 61)); pure (.next [some v_cell, some size4])); goOn (tl P16 cf "_law_start_by" [] 2 38) r) | false => (do let r ← pure (.next [some v_cell, some size1]); goOn (tl P16 cf "_law_start_by" [] 2 38) r))) := by kernel_rfl
theorem c_start_by_t_2 (cf : Str → List AV → M AV) (v_cell v_size : AV) : tl P16 cf "_law_start_by" [] 2 38 [some v_cell, some v_size] = (do let y10 ← (do let it7 ← (pBI false .range [v_size]); let src8 ← srcOf it7; let ys9 ← compLoop src8 (fun u1 => (do let y2 ← (do let vs4 ← eachM [(do let vs3 ← eachM [(pBin false .FloorDiv v_cell (.int 8)), pure u1]; cf "_law_mixed" vs3)]; cf "_law_value_by" vs4); pure (some y2))) FUEL 0 []; newL false ys9); pure (.ret y10)) := by kernel_rfl
theorem c_due_0 (cf : Str → List AV → M AV) (v_start v_kind v_one v_two : AV) : tl P16 cf "_law_due" [] 0 40 [some v_start, some v_kind, some v_one, some v_two, none, none, none, none, none, none] = (do let rest4 ← (do let o1 ← pure v_start; let i2 ← pure (some 2); let j3 ← pure none; pSlice false o1 i2 j3); (do let pile8 ← (do let x6 ← (do let vs5 ← eachM [(newL false [.str "pile"])]; newL false vs5); let x7 ← (pBI false .len [rest4]); pBin false .Mult x6 x7); (do let c9 ← (pCmp .Eq v_kind (.str "bare")); match c9 with | true => (do let r ← (do let away13 ← (do let x11 ← (do let vs10 ← eachM [(newL false [])]; newL false vs10); let x12 ← (pBI false .len [rest4]); pBin false .Mult x11 x12); (do let within16 ← (do let x15 ← (do let vs14 ← eachM [(newL false [.str "spare"]), (newL false [.str "pile", .str "held"])]; newL false vs14); pBin false .Add x15 away13); (do let steps17 ← (newL false [.tup [.str "put", .bool true], .tup [.str "look", .int 1, .int 4], .tup [.str "put", .bool true]]); (do let y24 ← (do let vs23 ← eachM [pure steps17, (do let x19 ← (do let vs18 ← eachM [(newL false [v_one])]; newL false vs18); pBin false .Mult x19 (.int 3)), (do let vs22 ← eachM [pure within16, pure within16, (do let x21 ← (do let vs20 ← eachM [(newL false [.str "spare"]), (newL false [.str "pile"])]; newL false vs20); pBin false .Add x21 away13)]; newL false vs22)]; pure (.tup vs23)); pure (.ret y24))))); goOn (tl P16 cf "_law_due" [] 3 37) r) | false => (do let r ← pure (.next [some v_start, some v_kind, some v_one, some v_two, some rest4, some pile8, none, none, none, none]); goOn (tl P16 cf "_law_due" [] 3 37) r)))) := by kernel_rfl
theorem c_due_t_3 (cf : Str → List AV → M AV) (v_start v_kind v_pile : AV) (o_one o_two o_rest o_away o_within o_steps o_places : Option AV) : tl P16 cf "_law_due" [] 3 37 [some v_start, some v_kind, o_one, o_two, o_rest, some v_pile, o_away, o_within, o_steps, o_places] = (do let steps1 ← (newL false [.tup [.str "put", .bool false], .tup [.str "look", .int 0, .int 3], .tup [.str "put", .bool true]]); (do let places9 ← (do let vs8 ← eachM [(do let x3 ← (do let vs2 ← eachM [(newL false [.str "pile"]), (newL false [.str "held"])]; newL false vs2); pBin false .Add x3 v_pile), (do let x5 ← (do let vs4 ← eachM [(newL false [.str "pile"]), (newL false [.str "held"])]; newL false vs4); pBin false .Add x5 v_pile), (do let x7 ← (do let vs6 ← eachM [(newL false [.str "pile"]), (newL false [.str "pile"])]; newL false vs6); pBin false .Add x7 v_pile)]; newL false vs8); (do let c10 ← (pCmp .Eq v_kind (.str "new")); match c10 with | true => (do let r ← (do let steps14 ← (do let vs13 ← eachM [pure (.tup [.str "put", .bool false]), (do let vs12 ← eachM [pure (.str "look"), (do let x11 ← (pBI false .len [v_start]); pBin false .Add x11 (.int 1)), pure (.int 3)]; pure (.tup vs12)), pure (.tup [.str "put", .bool true])]; newL false vs13); (do let places32 ← (do let x30 ← (do let x22 ← (do let vs21 ← eachM [(do let x19 ← (do let x17 ← (do let x16 ← (do let vs15 ← eachM [(newL false [.str "spare"])]; newL false vs15); pBin false .Mult x16 (.int 2)); pBin false .Add x17 v_pile); let x20 ← (do let vs18 ← eachM [(newL false [.str "held"]), (newL false [.str "pile"])]; newL false vs18); pBin false .Add x19 x20)]; newL false vs21); pBin false .Mult x22 (.int 2)); let x31 ← (do let vs29 ← eachM [(do let x27 ← (do let x25 ← (do let x24 ← (do let vs23 ← eachM [(newL false [.str "spare"])]; newL false vs23); pBin false .Mult x24 (.int 2)); pBin false .Add x25 v_pile); let x28 ← (do let vs26 ← eachM [(newL false [.str "pile"]), (newL false [.str "pile"])]; newL false vs26); pBin false .Add x27 x28)]; newL false vs29); pBin false .Add x30 x31); pure (.next [some v_start, some v_kind, o_one, o_two, o_rest, some v_pile, o_away, o_within, some steps14, some places32]))); goOn (tl P16 cf "_law_due" [] 6 34) r) | false => (do let r ← pure (.next [some v_start, some v_kind, o_one, o_two, o_rest, some v_pile, o_away, o_within, some steps1, some places9]); goOn (tl P16 cf "_law_due" [] 6 34) r)))) := by kernel_rfl
theorem c_due_t_6 (cf : Str → List AV → M AV) (v_one v_two v_rest v_steps v_places : AV) (o_start o_kind o_pile o_away o_within : Option AV) : tl P16 cf "_law_due" [] 6 34 [o_start, o_kind, some v_one, some v_two, some v_rest, o_pile, o_away, o_within, some v_steps, some v_places] = (do let y6 ← (do let vs5 ← eachM [pure v_steps, (do let vs4 ← eachM [(do let x1 ← (newL false [v_two]); pBin false .Add x1 v_rest), (do let x2 ← (newL false [v_two]); pBin false .Add x2 v_rest), (do let x3 ← (newL false [v_one, v_two]); pBin false .Add x3 v_rest)]; newL false vs4), pure v_places]; pure (.tup vs5)); pure (.ret y6)) := by kernel_rfl
theorem c_law_0 (cf : Str → List AV → M AV) (v_script : AV) : tl P16 cf "law" [] 0 40 [some v_script, none, none, none, none, none, none, none, none, none, none] = (do let start11 ← (do let x9 ← (do let it5 ← (pBI false .range [.int 2]); let src6 ← srcOf it5; let ys7 ← compLoop src6 (fun u1 => (do let y2 ← (do let vs3 ← eachM [(cf "_law_cell_at" [v_script, u1])]; cf "_law_value_by" vs3); pure (some y2))) FUEL 0 []; newL false ys7); let x10 ← (do let vs8 ← eachM [(cf "_law_cell_at" [v_script, .int 2])]; cf "_law_start_by" vs8); pBin false .Add x9 x10); (do let start15 ← (do let o12 ← pure start11; let i13 ← pure none; let j14 ← pure (some 58); pSlice false o12 i13 j14); (do let kind19 ← (do let x17 ← (newL false [.str "marks", .str "bare", .str "new"]); let x18 ← (do let x16 ← (cf "_law_cell_at" [v_script, .int 3]); pBin false .Mod x16 (.int 3)); pItem x17 x18); (do let one22 ← (do let vs21 ← eachM [(do let x20 ← (cf "_law_cell_at" [v_script, .int 3]); pBin false .FloorDiv x20 (.int 3))]; cf "_law_value_by" vs21); (do let two24 ← (do let vs23 ← eachM [(cf "_law_cell_at" [v_script, .int 4])]; cf "_law_value_by" vs23); tl P16 cf "law" [] 5 35 [some v_script, none, some start15, some kind19, some one22, some two24, none, none, none, none, none]))))) := by kernel_rfl
theorem c_law_t_5 (cf : Str → List AV → M AV) (v_start v_kind v_one v_two : AV) (o_script o_k o_programs o_weaving o_due_here o_turn o_found : Option AV) : tl P16 cf "law" [] 5 35 [o_script, o_k, some v_start, some v_kind, some v_one, some v_two, o_programs, o_weaving, o_due_here, o_turn, o_found] = (do let programs2 ← (do let vs1 ← eachM [(newL true [.tup [.str "pop"]]), (newL true [.tup [.str "pop"], .tup [.str "pop"], .tup [.str "push", v_two]]), (newL true [.tup [.str "push", v_one]])]; newL true vs1); (do let weaving3 ← (newL true [.int 0, .int 0, .int 1, .int 1, .int 1, .int 1, .int 1, .int 1, .int 2, .int 1, .int 1, .int 1]); (do let due_here4 ← (cf "_law_due" [v_start, v_kind, v_one, v_two]); (do let it5 ← (pBI false .range [.int 3]); let src6 ← srcOf it5; let r ← forLoop src6 (forB P16 cf "law" [] 8 31) FUEL 0 [o_script, o_k, some v_start, some v_kind, some v_one, some v_two, some programs2, some weaving3, some due_here4, o_turn, o_found]; goOn (tl P16 cf "law" [] 9 31) r)))) := by kernel_rfl
theorem c_law_t_9 (cf : Str → List AV → M AV) (o_script o_k o_start o_kind o_one o_two o_programs o_weaving o_due_here o_turn o_found : Option AV) : tl P16 cf "law" [] 9 31 [o_script, o_k, o_start, o_kind, o_one, o_two, o_programs, o_weaving, o_due_here, o_turn, o_found] = pure (.ret (.bool true)) := by kernel_rfl
theorem c_law_for_8 (cf : Str → List AV → M AV) (v_weaving : AV) (o_script o_k o_start o_kind o_one o_two o_programs o_due_here o_turn o_found : Option AV) (a : AV) : forB P16 cf "law" [] 8 31 a [o_script, o_k, o_start, o_kind, o_one, o_two, o_programs, some v_weaving, o_due_here, o_turn, o_found] = (do let weaving4 ← (do let x3 ← (do let vs2 ← eachM [(do let x1 ← (newL false [.int 0, .int 2, .int 2]); pItem x1 a)]; newL false vs2); pBin true .Add v_weaving x3); (do let it5 ← (pBI false .range [.int 2]); let src6 ← srcOf it5; let r ← forLoop src6 (forB P16 cf "law" [(8, 0)] 1 29) FUEL 0 [o_script, some a, o_start, o_kind, o_one, o_two, o_programs, some weaving4, o_due_here, o_turn, o_found]; goOn (fun σ => pure (.next σ)) r)) := by kernel_rfl
theorem c_law_for80_1 (cf : Str → List AV → M AV) (v_k v_start v_kind v_programs v_weaving v_due_here : AV) (o_script o_one o_two o_turn o_found : Option AV) (a : AV) : forB P16 cf "law" [(8, 0)] 1 29 a [o_script, some v_k, some v_start, some v_kind, o_one, o_two, some v_programs, some v_weaving, some v_due_here, o_turn, o_found] = (do let found1 ← (cf "woven" [v_start, v_programs, v_weaving, v_kind]); (do let c2 ← (do let t3 ← (do let b4 ← (do let v8 ← (do let vs7 ← eachM [(do let x5 ← (pItem found1 (.int 1)); pItem x5 (.int (-1))), (do let x6 ← (pItem v_due_here (.int 0)); pItem x6 v_k)]; cf "_law_alike" vs7); truth v8); pure (!b4)); match t3 with | true => pure true | false => (do let t9 ← (do let b10 ← (do let v14 ← (do let vs13 ← eachM [(do let vs11 ← eachM [(pItem found1 (.int 0))]; cf "values_on" vs11), (do let x12 ← (pItem v_due_here (.int 1)); pItem x12 v_k)]; cf "_law_alike" vs13); truth v14); pure (!b10)); match t9 with | true => pure true | false => pure false)); match c2 with | true => (do let r ← pure (.ret (.bool false)); goOn (tl P16 cf "law" [(8, 0), (1, 0)] 2 27) r) | false => (do let r ← pure (.next [o_script, some v_k, some v_start, some v_kind, o_one, o_two, some v_programs, some v_weaving, some v_due_here, some a, some found1]); goOn (tl P16 cf "law" [(8, 0), (1, 0)] 2 27) r))) := by kernel_rfl
theorem c_law_t80_10_2 (cf : Str → List AV → M AV) (v_k v_due_here v_found : AV) (o_script o_start o_kind o_one o_two o_programs o_weaving o_turn : Option AV) : tl P16 cf "law" [(8, 0), (1, 0)] 2 27 [o_script, some v_k, o_start, o_kind, o_one, o_two, o_programs, o_weaving, some v_due_here, o_turn, some v_found] = (do let c1 ← (do let b2 ← (do let v6 ← (do let vs5 ← eachM [(do let vs3 ← eachM [(pItem v_found (.int 0))]; cf "places_of" vs3), (do let x4 ← (pItem v_due_here (.int 2)); pItem x4 v_k)]; cf "_law_alike" vs5); truth v6); pure (!b2)); match c1 with | true => (do let r ← pure (.ret (.bool false)); goOn (fun σ => pure (.next σ)) r) | false => (do let r ← pure (.next [o_script, some v_k, o_start, o_kind, o_one, o_two, o_programs, o_weaving, some v_due_here, o_turn, some v_found]); goOn (fun σ => pure (.next σ)) r)) := by kernel_rfl
end Mine


set_option autoImplicit false
set_option linter.unusedVariables false
set_option maxRecDepth 100000
namespace Mine
open PySem PyProof.Rows
section
variable {H₀ H : AHeap} {c : Cn}

theorem s_head_of (n : Nat) (F : Foc H₀ H c) : callP P16 (n + 1) "head_of" [.loc c.st] H = some (.ok (.tup [c.head, .int c.mark]), H) := by
  refine callR (σ := [some (.loc c.st)]) (by kernel_rfl) (by kernel_rfl) (by kernel_rfl) ?_
  rw [c_head_of_0]
  refine Rn.val (.bind (.bind ?_))
  exact .eachE F.gHead (.eachE F.gMark (.each0 (.pure (.pure ⟨rfl, rfl⟩))))

/-- no box, or a box's number -/
noncomputable def Ix (a : AV) : Prop := a = .none ∨ ∃ i : Nat, a = .int i
noncomputable def eqIx : AV → AV → Bool
  | .none, .none => true
  | .int i, .int j => decide (i = j)
  | _, _ => false
theorem ne_ix {a b : AV} (ha : Ix a) (hb : Ix b) : pCmp .NotEq a b = pure (!eqIx a b) := by
  obtain rfl | ⟨i, rfl⟩ := ha <;> obtain rfl | ⟨j, rfl⟩ := hb
  · rfl
  · rfl
  · rfl
  · show (do let r ← pCmp .Eq (.int i) (.int j); pure (!r)) = _
    rw [e_eqi]; rfl
noncomputable def Kd (k : Str) : Prop := k = "marks" ∨ k = "bare" ∨ k = "new"
theorem kd_marks {k : Str} (h : Kd k) : pCmp .NotEq (.str k) (.str "marks") = pure (decide (k ≠ "marks")) := by
  obtain rfl | rfl | rfl := h <;> kernel_rfl
theorem kd_new {k : Str} (h : Kd k) : pCmp .Eq (.str k) (.str "new") = pure (decide (k = "new")) := by
  obtain rfl | rfl | rfl := h <;> kernel_rfl
noncomputable def stillB (c : Cn) (x : AV) (m : Int) : Bool := eqIx c.head x && (decide (c.kind ≠ "marks") || decide (c.mark = m))

theorem s_is_still (n : Nat) (F : Foc H₀ H c) {x : AV} {m : Int} (hk : Kd c.kind) (hh : Ix c.head) (hx : Ix x) (hs : c.seen = .tup [x, .int m]) :
    callP P16 (n + 1) "is_still" [.loc c.st, .loc c.w] H = some (.ok (.bool (stillB c x m)), H) := by
  refine callR (σ := [some (.loc c.st), some (.loc c.w)]) (by kernel_rfl) (by kernel_rfl) (by kernel_rfl) ?_
  have g := F.gSeen
  rw [hs] at g
  rw [c_is_still_0]
  refine Rn.val (.bind (.bof F.gHead (.bind (.bof g ?_))))
  rw [e_itT (k := 0) (a := x) rfl]
  refine .pure ?_
  rw [ne_ix hh hx]
  refine .pure ?_
  unfold stillB
  cases eqIx c.head x with
  | false => exact .pure ⟨rfl, rfl⟩
  | true =>
    show Rn (tl P16 _ "is_still" [] 1 39 _) H _
    rw [c_is_still_t_1]
    refine .bind (.bind (.bof F.gKind ?_))
    rw [kd_marks hk]
    refine .pure ?_
    rw [e_truth, pure_bind]
    cases decide (c.kind ≠ "marks") with
    | true => exact .pure (.pure ⟨rfl, rfl⟩)
    | false =>
      refine .bof F.gMark (.bind (.bind (.bof g ?_)))
      rw [e_itT (k := 1) (a := .int m) rfl]
      refine .pure ?_
      rw [e_eqi]
      exact .pure (.pure (.pure ⟨rfl, rfl⟩))

theorem s_put_below (n : Nat) (F : Foc H₀ H c) {i : Nat} {v u bel : AV} (hi : c.boxes[i]? = some (.tup [v, u])) :
    Rn (callP P16 (n + 1) "put_below" [.loc c.st, .int i, bel]) H fun a H' => Foc H₀ H' (c.u_boxes (c.boxes.set i (.tup [v, bel]))) := by
  refine callRn (σ := [some (.loc c.st), some (.int i), some bel]) (by kernel_rfl) (by kernel_rfl) (by kernel_rfl) ?_
  rw [c_put_below_0]
  refine .bind (.bind (.eachC (.bind (.bof F.gBoxes (.of (item_loc F.b hi) ?_)))))
  rw [e_itT (k := 0) (a := v) rfl]
  refine .pure (.eachP (.each0 (.pure (.bof F.gBoxes ?_))))
  exact .then (F.wBox (List.getElem?_eq_some_iff.mp hi).1 _) fun _ H1 F1 => .pure F1

noncomputable def row0 (c : Cn) (num : Nat) : AV := .tup [.int num, .int c.place, c.deed, .int c.begun, .int c.time, .none, .none]
theorem s_point (n : Nat) (F : Foc H₀ H c) {num : Nat} (hn : c.hs[num]? = some (.loc c.hd)) (hl : c.rows.length < 100000) :
    Rn (callP P16 (n + 1) "come_to_point" [.loc c.st, .int num, .loc c.w]) H fun a H' => Foc H₀ H' ((c.u_row (.int c.rows.length)).u_rows (c.rows ++ [row0 c num])) := by
  refine callRn (σ := [some (.loc c.st), some (.int num), some (.loc c.w), none]) (by kernel_rfl) (by kernel_rfl) (by kernel_rfl) ?_
  rw [c_come_to_point_0]
  refine .bind (.bof F.gHands (.of (item_loc F.h hn) ?_))
  refine .bind (.bind (.eachE F.gRows (.each0 (.of (len_loc F.r) ?_))))
  refine .then (F.wRow _) fun _ H1 F1 => ?_
  refine .bind (.bof F1.gRows (.bof (listOf_loc F1.r) ?_))
  refine .bind (.eachC (.bind (.eachP (.eachE F1.gPlace (.eachE F1.gDeed (.eachE F1.gBegun (.eachE F1.gTime (.eachP (.eachP (.each0 (.pure (.each0 ?_))))))))))))
  exact Rn.mono (F1.aRows hl (row0 c num)) fun _ H2 F2 => .pure F2

/-- a deed ends -/
theorem s_end_t (n : Nat) (F : Foc H₀ H c) {num k : Nat} {ans a1 a2 a3 a4 a5 a6 a7 : AV} {o : Option AV} (hn : c.hs[num]? = some (.loc c.hd)) (hr : c.row = .int k) (hk : c.rows[k]? = some (.tup [a1, a2, a3, a4, a5, a6, a7])) :
    Rn (tl P16 (callP P16 n) "end" [] 1 39 [some (.loc c.st), some (.int num), some (.loc c.w), some ans, o]) H fun r H' => (∃ σ, r = .next σ) ∧ Foc H₀ H' (((c.u_rows (c.rows.set k (.tup [a1, a2, a3, a4, a5, .int c.time, ans]))).u_place (c.place + 1)).u_wv .none) := by
  have g := F.gRow
  rw [hr] at g
  have L := LIMis
  rw [c_end_t_1]
  refine .bind (.bof F.gRows (.bof g (.of (item_loc F.r hk) ?_)))
  refine .bind (.bind ?_)
  simp only [pure_bind]
  rw [show pSlice false (.tup [a1, a2, a3, a4, a5, a6, a7]) none (some 5) = pure (.tup [a1, a2, a3, a4, a5]) from rfl]
  refine .pure (.bind (.bind (.eachE F.gTime (.eachP (.each0 (.pure ?_))))))
  rw [m_tup (by show 7 ≤ LIM; omega)]
  refine .pure (.bof F.gRows (.bof g ?_))
  refine .then (F.wRows (List.getElem?_eq_some_iff.mp hk).1 _) fun _ H1 F1 => ?_
  refine .bind (.bind (.bind (.bof F1.gHands (.of (item_loc F1.h hn) (.of F1.gPlace ?_)))))
  rw [m_add]
  refine .pure (.bind (.bof F1.gHands (.of (item_loc F1.h hn) ?_)))
  refine .then (F1.wPlace _) fun _ H2 F2 => ?_
  refine .bind (.bof F2.gHands (.of (item_loc F2.h hn) ?_))
  exact .then (F2.wWork _) fun _ H3 F3 => .pure ⟨⟨_, rfl⟩, F3⟩

theorem s_end_old (n : Nat) (F : Foc H₀ H c) {num k : Nat} {ans a1 a2 a3 a4 a5 a6 a7 : AV} (hn : c.hs[num]? = some (.loc c.hd)) (hr : c.row = .int k) (hk : c.rows[k]? = some (.tup [a1, a2, a3, a4, a5, a6, a7])) :
    Rn (callP P16 (n + 1) "end" [.loc c.st, .int num, .loc c.w, ans]) H fun a H' => Foc H₀ H' (((c.u_rows (c.rows.set k (.tup [a1, a2, a3, a4, a5, .int c.time, ans]))).u_place (c.place + 1)).u_wv .none) := by
  refine callRn (σ := [some (.loc c.st), some (.int num), some (.loc c.w), some ans, none]) (by kernel_rfl) (by kernel_rfl) (by kernel_rfl) ?_
  have g := F.gRow
  rw [hr] at g
  rw [c_end_0]
  refine .bind (.bof g ?_)
  rw [show pCmp .Is (.int (k : Int)) .none = pure false from rfl]
  refine .pure (.bind (.pure ?_))
  refine Rn.mono (s_end_t n F hn hr hk) ?_
  rintro r H' ⟨⟨σ, rfl⟩, F'⟩
  exact F'
theorem s_end_new (n : Nat) (F : Foc H₀ H c) {num : Nat} {ans : AV} (hn : c.hs[num]? = some (.loc c.hd)) (hr : c.row = .none) (hl : c.rows.length < 100000) :
    Rn (callP P16 (n + 2) "end" [.loc c.st, .int num, .loc c.w, ans]) H fun a H' => Foc H₀ H' ((((c.u_row (.int c.rows.length)).u_rows (c.rows ++ [.tup [.int num, .int c.place, c.deed, .int c.begun, .int c.time, .int c.time, ans]])).u_place (c.place + 1)).u_wv .none) := by
  refine callRn (σ := [some (.loc c.st), some (.int num), some (.loc c.w), some ans, none]) (by kernel_rfl) (by kernel_rfl) (by kernel_rfl) ?_
  have g := F.gRow
  rw [hr] at g
  rw [c_end_0]
  refine .bind (.bof g ?_)
  rw [show pCmp .Is AV.none .none = pure true from rfl]
  refine .pure (.bind (.then (s_point n F hn hl) fun _ H1 F1 => .pure ?_))
  refine Rn.mono (s_end_t (n + 1) F1 (k := c.rows.length) (a1 := .int num) (a2 := .int c.place) (a3 := c.deed) (a4 := .int c.begun) (a5 := .int c.time) (a6 := .none) (a7 := .none) hn rfl (by show (c.rows ++ [row0 c num])[c.rows.length]? = _; simp [row0])) ?_
  rintro r H' ⟨⟨σ, rfl⟩, F'⟩
  have e : (c.rows ++ [row0 c num]).set c.rows.length (.tup [.int num, .int c.place, c.deed, .int c.begun, .int c.time, .int c.time, ans]) = c.rows ++ [.tup [.int num, .int c.place, c.deed, .int c.begun, .int c.time, .int c.time, ans]] := by simp
  have F2 : Foc H₀ H' ((((c.u_row (.int c.rows.length)).u_rows ((c.rows ++ [row0 c num]).set c.rows.length (.tup [.int num, .int c.place, c.deed, .int c.begun, .int c.time, .int c.time, ans]))).u_place (c.place + 1)).u_wv .none) := F'
  rw [e] at F2
  exact F2
end
end Mine


set_option autoImplicit false
set_option linter.unusedVariables false
set_option maxRecDepth 100000
namespace Mine
open PySem PyProof.Rows
section
variable {H₀ H : AHeap} {c : Cn}

theorem s_take_t (n : Nat) (F : Foc H₀ H c) {w : Str} {v : AV} {i : Nat} (hd : c.deed = .tup [.str w, v]) (hi : i < c.boxes.length) :
    Rn (tl P16 (callP P16 n) "take" [] 1 39 [some (.loc c.st), some (.loc c.w), some (.int i)]) H fun r H' => r = .ret (.tup [.str "take", .int i]) ∧ Foc H₀ H' (((c.u_boxes (c.boxes.set i (.tup [v, .none]))).u_own (.int i)).u_next "look") := by
  have g := F.gDeed
  rw [hd] at g
  rw [c_take_t_1]
  refine .bind (.bind (.eachC (.bof g ?_)))
  rw [e_itT (k := 1) (a := v) rfl]
  refine .pure (.eachP (.each0 (.pure (.bof F.gBoxes ?_))))
  refine .then (F.wBox hi _) fun _ H1 F1 => ?_
  refine .then (F1.wOwn _) fun _ H2 F2 => ?_
  exact .then (F2.wNext _) fun _ H3 F3 => .pure ⟨rfl, F3⟩

noncomputable def SpOk (c : Cn) : Prop := ∀ x ∈ c.spare, ∃ i : Nat, x = .int i ∧ i < c.boxes.length
theorem SpOk.rd (h : SpOk c) (H : AHeap) : ∀ x ∈ c.spare, ∃ d, rd H 7 x = some d := fun x hx => by
  obtain ⟨i, rfl, _⟩ := h x hx
  exact ⟨_, rd_int⟩

theorem s_take_new (n : Nat) (F : Foc H₀ H c) {w : Str} {v : AV} (hk : Kd c.kind) (hs : SpOk c) (hd : c.deed = .tup [.str w, v]) (hl : c.boxes.length < 100000) (hn : c.kind = "new" ∨ c.spare = []) :
    Rn (callP P16 (n + 1) "take" [.loc c.st, .loc c.w]) H fun a H' => a = .tup [.str "take", .int c.boxes.length] ∧ Foc H₀ H' (((c.u_boxes (c.boxes ++ [.tup [v, .none]])).u_own (.int c.boxes.length)).u_next "look") := by
  refine callRn (σ := [some (.loc c.st), some (.loc c.w), none]) (by kernel_rfl) (by kernel_rfl) (by kernel_rfl) ?_
  have tail : Rn (do let r ← (do let box3 ← (do let vs2 ← eachM [(pItem (.loc c.st) (.str "boxes"))]; pBI false .len vs2); (do let _ ← (do let o4 ← (pItem (.loc c.st) (.str "boxes")); let _ ← listOf o4; (pMeth "append" o4 [.none])); pure (.next [some (.loc c.st), some (.loc c.w), some box3]))); goOn (tl P16 (callP P16 n) "take" [] 1 39) r) H
      (Fl (fun _ H' => AV.none = .tup [.str "take", .int c.boxes.length] ∧ Foc H₀ H' (((c.u_boxes (c.boxes ++ [.tup [v, .none]])).u_own (.int c.boxes.length)).u_next "look")) fun a H' => a = .tup [.str "take", .int c.boxes.length] ∧ Foc H₀ H' (((c.u_boxes (c.boxes ++ [.tup [v, .none]])).u_own (.int c.boxes.length)).u_next "look")) := by
    refine .bind (.bind (.bind (.eachE F.gBoxes (.each0 (.of (len_loc F.b) ?_)))))
    refine .bind (.bof F.gBoxes (.bof (listOf_loc F.b) ?_))
    refine Rn.mono (F.aBox hl .none) fun _ H1 F1 => .pure ?_
    refine Rn.mono (s_take_t n F1 (w := w) (v := v) (i := c.boxes.length) hd (by show _ < (c.boxes ++ [AV.none]).length; simp)) ?_
    rintro r H' ⟨rfl, F'⟩
    refine ⟨rfl, ?_⟩
    have e : (c.boxes ++ [AV.none]).set c.boxes.length (.tup [v, .none]) = c.boxes ++ [.tup [v, .none]] := by simp
    have F2 : Foc H₀ H' (((c.u_boxes ((c.boxes ++ [AV.none]).set c.boxes.length (.tup [v, .none]))).u_own (.int c.boxes.length)).u_next "look") := F'
    rw [e] at F2
    exact F2
  rw [c_take_0]
  refine .bind (.bind (.bof F.gKind ?_))
  rw [kd_new hk]
  refine .pure ?_
  by_cases hnew : c.kind = "new"
  · rw [decide_eq_true hnew]
    exact .pure tail
  · rw [decide_eq_false hnew]
    have hsp : c.spare = [] := hn.resolve_left hnew
    refine .bind (.bof F.gSpare ?_)
    rw [e_newL (by simp), pure_bind]
    refine .of (eq_nil_loc F.sp (hs.rd H)) ?_
    rw [hsp]
    exact .pure tail

theorem s_take_pop (n : Nat) (F : Foc H₀ H c) {w : Str} {v : AV} {i : Nat} {xs : List AV} (hk : Kd c.kind) (hs : SpOk c) (hd : c.deed = .tup [.str w, v]) (hn : c.kind ≠ "new") (hx : c.spare = xs ++ [.int i]) :
    Rn (callP P16 (n + 1) "take" [.loc c.st, .loc c.w]) H fun a H' => a = .tup [.str "take", .int i] ∧ Foc H₀ H' ((((c.u_spare xs).u_boxes (c.boxes.set i (.tup [v, .none]))).u_own (.int i)).u_next "look") := by
  refine callRn (σ := [some (.loc c.st), some (.loc c.w), none]) (by kernel_rfl) (by kernel_rfl) (by kernel_rfl) ?_
  rw [c_take_0]
  refine .bind (.bind (.bof F.gKind ?_))
  rw [kd_new hk]
  refine .pure ?_
  rw [decide_eq_false hn]
  refine .bind (.bof F.gSpare ?_)
  rw [e_newL (by simp), pure_bind]
  refine .of (eq_nil_loc F.sp (hs.rd H)) ?_
  rw [show c.spare.isEmpty = false from by rw [hx]; simp]
  refine .pure (.bind (.bind (.bof F.gSpare (.bof (listOf_loc F.sp) ?_))))
  refine Rn.mono (F.pSpare hx) ?_
  rintro a H1 ⟨rfl, F1⟩
  refine .pure ?_
  have hi : i < c.boxes.length := by
    obtain ⟨j, h1, h2⟩ := hs (.int i) (by rw [hx]; simp)
    cases h1
    exact h2
  refine Rn.mono (s_take_t n F1 (w := w) (v := v) (i := i) hd hi) ?_
  rintro r H' ⟨rfl, F'⟩
  exact ⟨rfl, F'⟩

noncomputable def Wd (w : Str) : Prop := w = "push" ∨ w = "swap" ∨ w = "pop" ∨ w = "top" ∨ w = "clear"
theorem Wd.ok {w : Str} (h : Wd w) : PyData.strOk w = true := by obtain rfl | rfl | rfl | rfl | rfl := h <;> kernel_rfl
noncomputable def blk (w : Str) : Str := if w = "push" ∨ w = "clear" then "put" else "see"
noncomputable def bse (w : Str) : Str := if w = "top" then "check" else "put"
noncomputable def fst (w : Str) : Str := if w = "push" ∨ w = "swap" then "take" else "look"
theorem g_look {w : Str} (h : Wd w) : pItem g_BEHIND_LOOK (.str w) = pure (.str (blk w)) := by obtain rfl | rfl | rfl | rfl | rfl := h <;> kernel_rfl
theorem g_first {w : Str} (h : Wd w) : pItem g_FIRST (.str w) = pure (.str (fst w)) := by obtain rfl | rfl | rfl | rfl | rfl := h <;> kernel_rfl
theorem g_see {w : Str} (h : w = "swap" ∨ w = "pop" ∨ w = "top") : pItem g_BEHIND_SEE (.str w) = pure (.str (bse w)) := by obtain rfl | rfl | rfl := h <;> kernel_rfl

noncomputable def tLook (c : Cn) : AV := .tup [.str "look", c.head, .int c.mark]
noncomputable def cLook (c : Cn) (w : Str) : Cn := (c.u_seen (.tup [c.head, .int c.mark])).u_next (blk w)

/-- look, up to its If -/
theorem s_look_go (n : Nat) (F : Foc H₀ H c) {num : Nat} {w : Str} {r : List AV} {Q : AV → AHeap → Prop} (hw : Wd w) (hd : c.deed = .tup (.str w :: r))
    (h : ∀ H', Foc H₀ H' (cLook c w) → Rn (match decide (w = "push") with
      | true => (do let r ← (do let _ ← (do let vs8 ← eachM [pure (.loc c.st), (pItem (.loc c.w) (.str "own")), (pItem (.loc c.st) (.str "head"))]; callP P16 (n + 1) "put_below" vs8); pure (.next [some (.loc c.st), some (.int num), some (.loc c.w), some (.str w), some (tLook c), none])); goOn (tl P16 (callP P16 (n + 1)) "look" [] 5 35) r)
      | false => (do let r ← (do let c9 ← (do let v13 ← (pItem (.loc c.st) (.str "head")); pCmp .Is v13 (.none)); match c9 with | true => (do let r ← (do let c10 ← (pCmp .Eq (.str w) (.str "swap")); match c10 with | true => (do let r ← (do let _ ← (do let o11 ← (pItem (.loc c.st) (.str "spare")); let _ ← listOf o11; (do let vs12 ← eachM [(pItem (.loc c.w) (.str "own"))]; pMeth "append" o11 vs12)); pure (.next [some (.loc c.st), some (.int num), some (.loc c.w), some (.str w), some (tLook c), none])); goOn (tl P16 (callP P16 (n + 1)) "look" [(4, 1), (0, 0)] 1 33) r) | false => (do let r ← pure (.next [some (.loc c.st), some (.int num), some (.loc c.w), some (.str w), some (tLook c), none]); goOn (tl P16 (callP P16 (n + 1)) "look" [(4, 1), (0, 0)] 1 33) r)); goOn (fun σ => pure (.next σ)) r) | false => (do let r ← pure (.next [some (.loc c.st), some (.int num), some (.loc c.w), some (.str w), some (tLook c), none]); goOn (fun σ => pure (.next σ)) r)); goOn (tl P16 (callP P16 (n + 1)) "look" [] 5 35) r)) H' (Fl (fun _ H' => Q .none H') Q)) :
    Rn (callP P16 (n + 2) "look" [.loc c.st, .int num, .loc c.w]) H Q := by
  refine callRn (σ := [some (.loc c.st), some (.int num), some (.loc c.w), none, none, none]) (by kernel_rfl) (by kernel_rfl) (by kernel_rfl) ?_
  have g := F.gDeed
  rw [hd] at g
  rw [c_look_0]
  refine .bind (.bof g ?_)
  rw [e_it0]
  refine .pure (.bof (s_head_of n F) ?_)
  refine .then (F.wSeen _) fun _ H1 F1 => ?_
  rw [g_look hw, pure_bind]
  refine .then (F1.wNext _) fun _ H2 F2 => ?_
  refine .bind (.bind (.eachP (.eachE F2.gHead (.eachE F2.gMark (.each0 (.pure ?_))))))
  rw [e_eqs hw.ok (by kernel_rfl), pure_bind]
  exact h H2 F2

theorem s_look_push (n : Nat) (F : Foc H₀ H c) {num o : Nat} {r : List AV} {v u : AV} (hd : c.deed = .tup (.str "push" :: r)) (ho : c.own = .int o) (hb : c.boxes[o]? = some (.tup [v, u])) :
    Rn (callP P16 (n + 2) "look" [.loc c.st, .int num, .loc c.w]) H fun a H' => a = tLook c ∧ Foc H₀ H' ((cLook c "push").u_boxes (c.boxes.set o (.tup [v, c.head]))) := by
  refine s_look_go n F (.inl rfl) hd fun H1 F1 => ?_
  rw [decide_eq_true rfl]
  have g := F1.gOwn
  rw [show (cLook c "push").own = .int o from ho] at g
  refine .bind (.bind (.bind (.eachP (.eachE g (.eachE F1.gHead (.each0 ?_))))))
  refine Rn.mono (s_put_below n F1 (i := o) (v := v) (u := u) hb) fun _ H2 F2 => .pure ?_
  show Rn (tl P16 _ "look" [] 5 35 _) _ _
  rw [c_look_t_5]
  exact .pure ⟨rfl, F2⟩

theorem s_look_some (n : Nat) (F : Foc H₀ H c) {num i : Nat} {w : Str} {r : List AV} (hw : Wd w) (hp : w ≠ "push") (hd : c.deed = .tup (.str w :: r)) (hh : c.head = .int i) :
    Rn (callP P16 (n + 2) "look" [.loc c.st, .int num, .loc c.w]) H fun a H' => a = tLook c ∧ Foc H₀ H' (cLook c w) := by
  refine s_look_go n F hw hd fun H1 F1 => ?_
  rw [decide_eq_false hp]
  have g := F1.gHead
  rw [show (cLook c w).head = .int i from hh] at g
  refine .bind (.bind (.bof g ?_))
  rw [show pCmp .Is (.int (i : Int)) .none = pure false from rfl]
  refine .pure (.pure ?_)
  show Rn (tl P16 _ "look" [] 5 35 _) _ _
  rw [c_look_t_5]
  exact .pure ⟨rfl, F1⟩

noncomputable def endNew (c : Cn) (num : Nat) (ans : AV) : Cn := ((((c.u_row (.int c.rows.length)).u_rows (c.rows ++ [.tup [.int num, .int c.place, c.deed, .int c.begun, .int c.time, .int c.time, ans]])).u_place (c.place + 1)).u_wv .none)
noncomputable def cLookN (c : Cn) (w : Str) : Cn := if w = "swap" then (cLook c w).u_spare (c.spare ++ [c.own]) else cLook c w
theorem s_look_none (n : Nat) (F : Foc H₀ H c) {num : Nat} {w : Str} {r : List AV} (hw : Wd w) (hp : w ≠ "push") (hd : c.deed = .tup (.str w :: r)) (hh : c.head = .none) (hn : c.hs[num]? = some (.loc c.hd)) (hr : c.row = .none) (hl : c.rows.length < 100000) (hl2 : c.spare.length < 100000) :
    Rn (callP P16 (n + 3) "look" [.loc c.st, .int num, .loc c.w]) H fun a H' => a = tLook c ∧ Foc H₀ H' (endNew (cLookN c w) num (if w = "clear" then .tup [] else .none)) := by
  refine s_look_go (n + 1) F hw hd fun H1 F1 => ?_
  rw [decide_eq_false hp]
  have g := F1.gHead
  rw [show (cLook c w).head = .none from hh] at g
  have tail : ∀ (H2 : AHeap), Foc H₀ H2 (cLookN c w) → Rn (tl P16 (callP P16 (n + 2)) "look" [(4, 1), (0, 0)] 1 33 [some (.loc c.st), some (.int num), some (.loc c.w), some (.str w), some (tLook c), none]) H2 fun r H' => (∃ o1 o2 o3 o4 o5, r = .next [o1, o2, o3, o4, some (tLook c), o5]) ∧ Foc H₀ H' (endNew (cLookN c w) num (if w = "clear" then .tup [] else .none)) := by
    intro H2 F2
    have e1 : (cLookN c w).hs[num]? = some (.loc (cLookN c w).hd) := by unfold cLookN; split <;> exact hn
    have e2 : (cLookN c w).row = .none := by unfold cLookN; split <;> exact hr
    have e3 : (cLookN c w).rows.length < 100000 := by unfold cLookN; split <;> exact hl
    have e4 : (cLookN c w).st = c.st := by unfold cLookN; split <;> rfl
    have e5 : (cLookN c w).w = c.w := by unfold cLookN; split <;> rfl
    have q := fun ans => s_end_new n F2 (num := num) (ans := ans) e1 e2 e3
    rw [e4, e5] at q
    rw [c_look_t41_00_1, e_eqs hw.ok (by kernel_rfl), pure_bind]
    by_cases hc : w = "clear"
    · rw [decide_eq_true hc, if_pos hc]
      refine .bind (.pure ?_)
      show Rn (tl P16 _ "look" [(4, 1), (0, 0)] 3 31 _) _ _
      rw [c_look_t41_00_3]
      exact .then (q _) fun _ H3 F3 => .pure ⟨⟨_, _, _, _, _, rfl⟩, F3⟩
    · rw [decide_eq_false hc, if_neg hc]
      refine .bind (.pure ?_)
      show Rn (tl P16 _ "look" [(4, 1), (0, 0)] 3 31 _) _ _
      rw [c_look_t41_00_3]
      exact .then (q _) fun _ H3 F3 => .pure ⟨⟨_, _, _, _, _, rfl⟩, F3⟩
  have fin : ∀ {r' : Res} {H' : AHeap}, (∃ o1 o2 o3 o4 o5, r' = .next [o1, o2, o3, o4, some (tLook c), o5]) ∧ Foc H₀ H' (endNew (cLookN c w) num (if w = "clear" then .tup [] else .none)) →
      Rn (goOn (fun σ => pure (.next σ)) r') H' fun a H1 => Rn (goOn (tl P16 (callP P16 (n + 2)) "look" [] 5 35) a) H1 (Fl (fun _ H' => AV.none = tLook c ∧ Foc H₀ H' (endNew (cLookN c w) num (if w = "clear" then .tup [] else .none))) fun a H' => a = tLook c ∧ Foc H₀ H' (endNew (cLookN c w) num (if w = "clear" then .tup [] else .none))) := by
    rintro r' H' ⟨⟨o1, o2, o3, o4, o5, rfl⟩, F'⟩
    refine .pure ?_
    show Rn (tl P16 _ "look" [] 5 35 _) _ _
    rw [c_look_t_5]
    exact .pure ⟨rfl, F'⟩
  refine .bind (.bind (.bof g ?_))
  rw [show pCmp .Is AV.none .none = pure true from rfl]
  refine .pure (.bind ?_)
  rw [e_eqs hw.ok (by kernel_rfl), pure_bind]
  by_cases hs : w = "swap"
  · rw [decide_eq_true hs]
    refine .bind (.bind (.bof F1.gSpare (.bof (listOf_loc F1.sp) (.bind (.eachE F1.gOwn (.each0 ?_))))))
    refine Rn.mono (F1.aSpare hl2 _) fun _ H2 F2 => .pure ?_
    refine Rn.mono (tail H2 ?_) fun r' H' q => fin q
    unfold cLookN
    rw [if_pos hs]
    exact F2
  · rw [decide_eq_false hs]
    refine .bind (.pure ?_)
    refine Rn.mono (tail H1 ?_) fun r' H' q => fin q
    unfold cLookN
    rw [if_neg hs]
    exact F1
end
end Mine


set_option autoImplicit false
set_option linter.unusedVariables false
set_option maxRecDepth 100000
namespace Mine
open PySem PyProof.Rows
section
variable {H₀ H : AHeap} {c : Cn}

noncomputable def cSee (c : Cn) (w : Str) (v b : AV) : Cn := (c.u_inside (.tup [v, b])).u_next (bse w)
theorem s_see_go (n : Nat) (F : Foc H₀ H c) {w : Str} {r : List AV} {i : Nat} {m v b : AV} {Q : AV → AHeap → Prop} (hw : w = "swap" ∨ w = "pop" ∨ w = "top") (hd : c.deed = .tup (.str w :: r)) (hs : c.seen = .tup [.int i, m]) (hb : c.boxes[i]? = some (.tup [v, b]))
    (h : ∀ H', Foc H₀ H' (cSee c w v b) → Rn (match decide (w = "swap") with
      | true => (do let r ← (do let _ ← (do let vs12 ← eachM [pure (.loc c.st), (pItem (.loc c.w) (.str "own")), (do let x11 ← (pItem (.loc c.w) (.str "inside")); pItem x11 (.int 1))]; callP P16 n "put_below" vs12); pure (.next [some (.loc c.st), some (.loc c.w), some (.int i), some (.tup [.str "see", .int i, v, b])])); goOn (tl P16 (callP P16 n) "see" [] 5 35) r)
      | false => (do let r ← pure (.next [some (.loc c.st), some (.loc c.w), some (.int i), some (.tup [.str "see", .int i, v, b])]); goOn (tl P16 (callP P16 n) "see" [] 5 35) r)) H' (Fl (fun _ H' => Q .none H') Q)) :
    Rn (callP P16 (n + 1) "see" [.loc c.st, .loc c.w]) H Q := by
  refine callRn (σ := [some (.loc c.st), some (.loc c.w), none, none]) (by kernel_rfl) (by kernel_rfl) (by kernel_rfl) ?_
  have g := F.gSeen
  rw [hs] at g
  have hok : PyData.strOk w = true := by obtain rfl | rfl | rfl := hw <;> kernel_rfl
  have L := LIMis
  rw [c_see_0]
  refine .bind (.bof g ?_)
  rw [e_it0]
  refine .pure (.bind (.bof F.gBoxes (.of (item_loc F.b hb) ?_)))
  refine .then (F.wInside _) fun _ H1 F1 => ?_
  have g1 := F1.gDeed
  rw [show (c.u_inside (.tup [v, b])).deed = .tup (.str w :: r) from hd] at g1
  refine .bind (.bind (.bof g1 ?_))
  rw [e_it0]
  refine .pure ?_
  rw [g_see hw]
  refine .pure ?_
  refine .then (F1.wNext _) fun _ H2 F2 => ?_
  refine .bind (.bof F2.gInside ?_)
  rw [show ((c.u_inside (.tup [v, b])).u_next (bse w)).inside = .tup [v, b] from rfl, m_tup (by show 4 ≤ LIM; omega)]
  refine .pure ?_
  have g2 := F2.gDeed
  rw [show ((c.u_inside (.tup [v, b])).u_next (bse w)).deed = .tup (.str w :: r) from hd] at g2
  refine .bind (.bind (.bof g2 ?_))
  rw [e_it0]
  refine .pure ?_
  rw [e_eqs hok (by kernel_rfl)]
  refine .pure ?_
  exact h H2 F2

theorem s_see_swap (n : Nat) (F : Foc H₀ H c) {r : List AV} {i o : Nat} {m v b v' b' : AV} (hd : c.deed = .tup (.str "swap" :: r)) (hs : c.seen = .tup [.int i, m]) (hb : c.boxes[i]? = some (.tup [v, b])) (ho : c.own = .int o) (hb' : c.boxes[o]? = some (.tup [v', b'])) :
    Rn (callP P16 (n + 2) "see" [.loc c.st, .loc c.w]) H fun a H' => a = .tup [.str "see", .int i, v, b] ∧ Foc H₀ H' ((cSee c "swap" v b).u_boxes (c.boxes.set o (.tup [v', b]))) := by
  refine s_see_go (n + 1) F (.inl rfl) hd hs hb fun H1 F1 => ?_
  rw [decide_eq_true rfl]
  have g := F1.gOwn
  rw [show (cSee c "swap" v b).own = .int o from ho] at g
  refine .bind (.bind (.bind (.eachP (.eachE g (.eachC (.bof F1.gInside ?_))))))
  rw [show (cSee c "swap" v b).inside = .tup [v, b] from rfl, e_itT (k := 1) (a := b) rfl]
  refine .pure (.each0 ?_)
  refine Rn.mono (s_put_below n F1 (i := o) (v := v') (u := b') hb') fun _ H2 F2 => .pure ?_
  show Rn (tl P16 _ "see" [] 5 35 _) _ _
  rw [c_see_t_5]
  exact .pure ⟨rfl, F2⟩
theorem s_see (n : Nat) (F : Foc H₀ H c) {w : Str} {r : List AV} {i : Nat} {m v b : AV} (hw : w = "pop" ∨ w = "top") (hd : c.deed = .tup (.str w :: r)) (hs : c.seen = .tup [.int i, m]) (hb : c.boxes[i]? = some (.tup [v, b])) :
    Rn (callP P16 (n + 1) "see" [.loc c.st, .loc c.w]) H fun a H' => a = .tup [.str "see", .int i, v, b] ∧ Foc H₀ H' (cSee c w v b) := by
  refine s_see_go n F (.inr hw) hd hs hb fun H1 F1 => ?_
  rw [decide_eq_false (by obtain rfl | rfl := hw <;> decide)]
  refine .bind (.pure ?_)
  show Rn (tl P16 _ "see" [] 5 35 _) _ _
  rw [c_see_t_5]
  exact .pure ⟨rfl, F1⟩

theorem s_put_no (n : Nat) (F : Foc H₀ H c) {num : Nat} {x : AV} {m : Int} (hk : Kd c.kind) (hh : Ix c.head) (hx : Ix x) (hs : c.seen = .tup [x, .int m]) (hb : stillB c x m = false) :
    Rn (callP P16 (n + 2) "put" [.loc c.st, .int num, .loc c.w]) H fun a H' => a = .tup [.str "put", .bool false] ∧ Foc H₀ H' (c.u_next "look") := by
  refine callRn (σ := [some (.loc c.st), some (.int num), some (.loc c.w), none, none]) (by kernel_rfl) (by kernel_rfl) (by kernel_rfl) ?_
  rw [c_put_0]
  refine .bind (.bind (.bof (s_is_still n F hk hh hx hs) ?_))
  rw [hb, e_truth]
  refine .pure (.pure ?_)
  refine .bind (.then (F.wNext _) fun _ H1 F1 => .pure ?_)
  exact .pure ⟨rfl, F1⟩

noncomputable def cPut (c : Cn) (w : Str) (num : Nat) (bi v : AV) : Cn :=
  if w = "clear" then ((((((c.u_mark (c.mark + 1)).u_head .none).u_row (.int c.rows.length)).u_rows (c.rows ++ [row0 c num])).u_walk c.head).u_next "walk")
  else if w = "push" then endNew ((c.u_mark (c.mark + 1)).u_head c.own) num .none
  else if w = "pop" then endNew ((((c.u_mark (c.mark + 1)).u_head c.own).u_head bi).u_spare (c.spare ++ [c.head])) num v
  else endNew (((c.u_mark (c.mark + 1)).u_head c.own).u_spare (c.spare ++ [c.head])) num v

theorem s_put_yes (n : Nat) (F : Foc H₀ H c) {num : Nat} {x v bi : AV} {m : Int} {w : Str} {r : List AV} (hw : w = "push" ∨ w = "clear" ∨ w = "swap" ∨ w = "pop") (hk : Kd c.kind) (hh : Ix c.head) (hx : Ix x) (hs : c.seen = .tup [x, .int m]) (hb : stillB c x m = true)
    (hd : c.deed = .tup (.str w :: r)) (hn : c.hs[num]? = some (.loc c.hd)) (hr : c.row = .none) (hl : c.rows.length < 100000) (hl2 : c.spare.length < 100000) (hi : (w = "swap" ∨ w = "pop") → c.inside = .tup [v, bi]) :
    Rn (callP P16 (n + 3) "put" [.loc c.st, .int num, .loc c.w]) H fun a H' => a = .tup [.str "put", .bool true] ∧ Foc H₀ H' (cPut c w num bi v) := by
  refine callRn (σ := [some (.loc c.st), some (.int num), some (.loc c.w), none, none]) (by kernel_rfl) (by kernel_rfl) (by kernel_rfl) ?_
  have hok : PyData.strOk w = true := by obtain rfl | rfl | rfl | rfl := hw <;> kernel_rfl
  rw [c_put_0]
  refine .bind (.bind (.bof (s_is_still (n + 1) F hk hh hx hs) ?_))
  rw [hb, e_truth]
  refine .pure (.pure (.bind (.pure ?_)))
  show Rn (tl P16 _ "put" [] 1 39 _) _ _
  have g := F.gDeed
  rw [hd] at g
  rw [c_put_t_1]
  refine .bind (.bof g ?_)
  rw [e_it0]
  refine .pure (.bof F.gHead (.bind (.bof F.gMark ?_)))
  rw [m_add]
  refine .pure ?_
  refine .then (F.wMark _) fun _ H1 F1 => ?_
  rw [e_eqs hok (by kernel_rfl), pure_bind]
  have fin : ∀ {o1 o2 o3 o4 o5 : Option AV} {H' : AHeap}, Foc H₀ H' (cPut c w num bi v) → Rn (goOn (tl P16 (callP P16 (n + 2)) "put" [] 5 35) (.next [o1, o2, o3, o4, o5])) H' (Fl (fun _ H' => AV.none = .tup [.str "put", .bool true] ∧ Foc H₀ H' (cPut c w num bi v)) fun a H' => a = .tup [.str "put", .bool true] ∧ Foc H₀ H' (cPut c w num bi v)) := by
    intro o1 o2 o3 o4 o5 H' F'
    show Rn (tl P16 _ "put" [] 5 35 _) _ _
    rw [c_put_t_5]
    exact .pure ⟨rfl, F'⟩
  by_cases h1 : w = "clear"
  · rw [decide_eq_true h1]
    have e : cPut c w num bi v = ((((((c.u_mark (c.mark + 1)).u_head .none).u_row (.int c.rows.length)).u_rows (c.rows ++ [row0 c num])).u_walk c.head).u_next "walk") := by unfold cPut; rw [if_pos h1]
    refine .bind (.then (F1.wHead _) fun _ H2 F2 => ?_)
    refine .then (s_point (n + 1) F2 (num := num) hn hl) fun _ H3 F3 => ?_
    refine .then (F3.wWalk c.head) fun _ H4 F4 => ?_
    refine .then (F4.wNext _) fun _ H5 F5 => .pure (fin ?_)
    rw [e]
    exact F5
  · rw [decide_eq_false h1]
    refine .bind ?_
    rw [e_eqs hok (by kernel_rfl), pure_bind]
    by_cases h2 : w = "push"
    · rw [decide_eq_true h2]
      have e : cPut c w num bi v = endNew ((c.u_mark (c.mark + 1)).u_head c.own) num .none := by unfold cPut; rw [if_neg h1, if_pos h2]
      refine .bind (.bof F1.gOwn (.then (F1.wHead _) fun _ H2 F2 => ?_))
      refine .then (s_end_new n F2 (num := num) (ans := .none) hn hr hl) fun _ H3 F3 => .pure (.pure (fin ?_))
      rw [e]
      exact F3
    · rw [decide_eq_false h2]
      have h3 : w = "swap" ∨ w = "pop" := by
        rcases hw with h | h | h | h
        · exact absurd h h2
        · exact absurd h h1
        · exact .inl h
        · exact .inr h
      have hin := hi h3
      refine .bind (.bof F1.gOwn (.then (F1.wHead _) fun _ H2 F2 => ?_))
      rw [e_eqs hok (by kernel_rfl), pure_bind]
      by_cases h4 : w = "pop"
      · rw [decide_eq_true h4]
        have e : cPut c w num bi v = endNew ((((c.u_mark (c.mark + 1)).u_head c.own).u_head bi).u_spare (c.spare ++ [c.head])) num v := by unfold cPut; rw [if_neg h1, if_neg h2, if_pos h4]
        have g2 := F2.gInside
        rw [show (Cn.u_head (c.u_mark (c.mark + 1)) (c.u_mark (c.mark + 1)).own).inside = .tup [v, bi] from hin] at g2
        refine .bind (.bind (.bof g2 ?_))
        rw [e_itT (k := 1) (a := bi) rfl]
        refine .pure (.then (F2.wHead _) fun _ H3 F3 => .pure ?_)
        show Rn (tl P16 _ "put" [(4, 1), (0, 1)] 2 32 _) _ _
        rw [c_put_t41_01_2]
        refine .bind (.bof F3.gSpare (.bof (listOf_loc F3.sp) ?_))
        refine Rn.mono (F3.aSpare hl2 c.head) fun _ H4 F4 => ?_
        have g4 := F4.gInside
        refine .bind (.bind (.eachP (.eachP (.eachP (.eachC (.bof g4 ?_))))))
        rw [show (Cn.u_spare (Cn.u_head (Cn.u_head (c.u_mark (c.mark + 1)) (c.u_mark (c.mark + 1)).own) bi) _).inside = .tup [v, bi] from hin, e_itT (k := 0) (a := v) rfl]
        refine .pure (.each0 ?_)
        refine Rn.mono (s_end_new n F4 (num := num) (ans := v) hn hr hl) fun _ H5 F5 => .pure (.pure (fin ?_))
        rw [e]
        exact F5
      · rw [decide_eq_false h4]
        have e : cPut c w num bi v = endNew (((c.u_mark (c.mark + 1)).u_head c.own).u_spare (c.spare ++ [c.head])) num v := by unfold cPut; rw [if_neg h1, if_neg h2, if_neg h4]
        refine .bind (.pure ?_)
        show Rn (tl P16 _ "put" [(4, 1), (0, 1)] 2 32 _) _ _
        rw [c_put_t41_01_2]
        refine .bind (.bof F2.gSpare (.bof (listOf_loc F2.sp) ?_))
        refine Rn.mono (F2.aSpare hl2 c.head) fun _ H4 F4 => ?_
        have g4 := F4.gInside
        refine .bind (.bind (.eachP (.eachP (.eachP (.eachC (.bof g4 ?_))))))
        rw [show (Cn.u_spare (Cn.u_head (c.u_mark (c.mark + 1)) (c.u_mark (c.mark + 1)).own) _).inside = .tup [v, bi] from hin, e_itT (k := 0) (a := v) rfl]
        refine .pure (.each0 ?_)
        refine Rn.mono (s_end_new n F4 (num := num) (ans := v) hn hr hl) fun _ H5 F5 => .pure (.pure (fin ?_))
        rw [e]
        exact F5

theorem s_check (n : Nat) (F : Foc H₀ H c) {num : Nat} {x v bi : AV} {m : Int} (hk : Kd c.kind) (hh : Ix c.head) (hx : Ix x) (hs : c.seen = .tup [x, .int m]) (hn : c.hs[num]? = some (.loc c.hd)) (hr : c.row = .none) (hl : c.rows.length < 100000) (hi : c.inside = .tup [v, bi]) :
    Rn (callP P16 (n + 3) "check" [.loc c.st, .int num, .loc c.w]) H fun a H' => a = tLook c ∧ Foc H₀ H' (if stillB c x m then endNew c num v else c.u_next "look") := by
  refine callRn (σ := [some (.loc c.st), some (.int num), some (.loc c.w), none]) (by kernel_rfl) (by kernel_rfl) (by kernel_rfl) ?_
  rw [c_check_0]
  refine .bind (.bind (.eachP (.eachE F.gHead (.eachE F.gMark (.each0 (.pure ?_))))))
  refine .bind (.bof (s_is_still (n + 1) F hk hh hx hs) ?_)
  rw [e_truth]
  refine .pure ?_
  cases hb : stillB c x m with
  | true =>
    have g4 := F.gInside
    rw [hi] at g4
    refine .bind (.bind (.bind (.eachP (.eachP (.eachP (.eachC (.bof g4 ?_)))))))
    rw [e_itT (k := 0) (a := v) rfl]
    refine .pure (.each0 ?_)
    refine Rn.mono (s_end_new n F (num := num) (ans := v) hn hr hl) fun _ H5 F5 => .pure ?_
    show Rn (tl P16 _ "check" [] 2 38 _) _ _
    rw [c_check_t_2]
    exact .pure ⟨rfl, F5⟩
  | false =>
    refine .bind (.then (F.wNext _) fun _ H1 F1 => .pure ?_)
    show Rn (tl P16 _ "check" [] 2 38 _) _ _
    rw [c_check_t_2]
    exact .pure ⟨rfl, F1⟩

noncomputable def cWalk (c : Cn) (i : Nat) (v b : AV) : Cn := ((c.u_kept (c.kept ++ [v])).u_spare (c.spare ++ [.int i])).u_walk b
noncomputable def cWalkE (c : Cn) (i k : Nat) (v b a1 a2 a3 a4 a5 : AV) : Cn := (((cWalk c i v b).u_rows (c.rows.set k (.tup [a1, a2, a3, a4, a5, .int c.time, .tup (c.kept ++ [v])]))).u_place (c.place + 1)).u_wv .none
theorem s_walk (n : Nat) (F : Foc H₀ H c) {num i k : Nat} {v b a1 a2 a3 a4 a5 a6 a7 : AV} (hw : c.walk = .int i) (hb : c.boxes[i]? = some (.tup [v, b])) (hx : Ix b) (hn : c.hs[num]? = some (.loc c.hd)) (hr : c.row = .int k) (hk : c.rows[k]? = some (.tup [a1, a2, a3, a4, a5, a6, a7])) (hl : c.kept.length < 100000) (hl2 : c.spare.length < 100000) :
    Rn (callP P16 (n + 3) "walk" [.loc c.st, .int num, .loc c.w]) H fun a H' => a = .tup [.str "see", .int i, v, b] ∧ Foc H₀ H' (if pIsNone b then cWalkE c i k v b a1 a2 a3 a4 a5 else cWalk c i v b) := by
  refine callRn (σ := [some (.loc c.st), some (.int num), some (.loc c.w), none, none, none]) (by kernel_rfl) (by kernel_rfl) (by kernel_rfl) ?_
  have g := F.gWalk
  rw [hw] at g
  rw [c_walk_0]
  refine .bof g (.bind (.bof F.gBoxes (.of (item_loc F.b hb) ?_)))
  rw [show pairOf (.tup [v, b]) = pure (v, b) from rfl, pure_bind]
  refine .bind (.bof F.gKept (.bof (listOf_loc F.k) ?_))
  refine Rn.mono (F.aKept hl _) fun _ H1 F1 => ?_
  refine .bind (.bof F1.gSpare (.bof (listOf_loc F1.sp) ?_))
  refine Rn.mono (F1.aSpare hl2 _) fun _ H2 F2 => ?_
  refine .then (F2.wWalk _) fun _ H3 F3 => ?_
  obtain rfl | ⟨j, rfl⟩ := hx
  · rw [show pCmp .Is AV.none .none = pure true from rfl, pure_bind]
    refine .bind (.bind (.bind (.eachP (.eachP (.eachP (.eachC (.bind (.eachE F3.gKept (.each0 ?_)))))))))
    refine .of (a := .tup (c.kept ++ [v])) (H1 := H3) ?_ ?_
    · exact bind_of (listOf_loc F3.k) rfl
    · refine .each0 ?_
      refine Rn.mono (s_end_old (n + 1) F3 (num := num) (k := k) (ans := .tup (c.kept ++ [v])) hn hr hk) fun _ H4 F4 => .pure ?_
      show Rn (tl P16 _ "walk" [] 6 34 _) _ _
      rw [c_walk_t_6, show pIsNone AV.none = true from rfl]
      exact .pure ⟨rfl, F4⟩
  · rw [show pCmp .Is (.int (j : Int)) .none = pure false from rfl, pure_bind]
    refine .bind (.pure ?_)
    show Rn (tl P16 _ "walk" [] 6 34 _) _ _
    rw [c_walk_t_6, show pIsNone (.int (j : Int)) = false from rfl]
    exact .pure ⟨rfl, F3⟩
end
end Mine


set_option autoImplicit false
set_option linter.unusedVariables false
set_option maxRecDepth 100000
namespace Mine
open PySem PyProof.Rows
section
variable {H₀ H : AHeap} {c : Cn}

theorem s_work_old (n : Nat) (F : Foc H₀ H c) {num : Nat} (hn : c.hs[num]? = some (.loc c.hd)) (hv : c.wv = .loc c.w) :
    callP P16 (n + 1) "work_of" [.loc c.st, .int num] H = some (.ok (.loc c.w), H) := by
  refine callR (σ := [some (.loc c.st), some (.int num), none, none]) (by kernel_rfl) (by kernel_rfl) (by kernel_rfl) ?_
  have g := F.gWork
  rw [hv] at g
  rw [c_work_of_0]
  refine Rn.val (.bind (.bof F.gHands (.of (item_loc F.h hn) (.bind (.bof g ?_)))))
  rw [show pCmp .Is (.loc c.w) .none = pure false from rfl]
  refine .pure (.bind (.pure ?_))
  show Rn (tl P16 _ "work_of" [] 2 38 _) _ _
  rw [c_work_of_t_2]
  exact .bof g (.pure ⟨rfl, rfl⟩)

theorem s_work_new (n : Nat) (F : Foc0 H₀ H c) {num p : Nat} {w : Str} {r : List AV} (hn : c.hs[num]? = some (.loc c.hd)) (hv : c.wv = .none) (hp : c.place = p) (hd : c.prog[p]? = some (.tup (.str w :: r))) (hw : Wd w) :
    Rn (callP P16 (n + 1) "work_of" [.loc c.st, .int num]) H fun a H' => a = .loc (H.length + 1) ∧ Foc H₀ H' ((c.beg H.length (H.length + 1) (.tup (.str w :: r)) (fst w)).u_wv (.loc (H.length + 1))) := by
  refine callRn (σ := [some (.loc c.st), some (.int num), none, none]) (by kernel_rfl) (by kernel_rfl) (by kernel_rfl) ?_
  have g := F.gWork
  rw [hv] at g
  have g2 := F.gPlace
  rw [hp] at g2
  have L := LIMis
  rw [c_work_of_0]
  refine .bind (.bof F.gHands (.of (item_loc F.h hn) (.bind (.bof g ?_))))
  rw [show pCmp .Is AV.none .none = pure true from rfl]
  refine .pure (.bind (.bind (.bof F.gProg (.bof g2 ?_))))
  rw [e_item_tup hd]
  refine .pure (.bind (.bind ?_))
  refine .eachP (.eachE F.gTime (.eachC ?_))
  rw [e_it0, pure_bind, g_first hw]
  refine .pure (.eachP (.eachP (.eachP (.eachP (.eachE (newT (by simp)) (.eachP (.each0 ?_)))))))
  have F1 := F.begun (.tup (.str w :: r)) (fst w)
  refine .of newDT ?_
  have e : (H ++ [AO.list []]).length = H.length + 1 := by simp
  rw [e]
  refine .then (F1.wWork (.loc (H.length + 1))) fun _ H2 F2 => .pure ?_
  show Rn (tl P16 _ "work_of" [] 2 38 _) _ _
  rw [c_work_of_t_2]
  exact .bof F2.gWork (.pure ⟨rfl, F2⟩)

/-- the step's own call -/
noncomputable def opCall (n : Nat) (c : Cn) (num : Nat) : M AV :=
  if c.next = "take" then callP P16 n "take" [.loc c.st, .loc c.w]
  else if c.next = "look" then callP P16 n "look" [.loc c.st, .int num, .loc c.w]
  else if c.next = "see" then callP P16 n "see" [.loc c.st, .loc c.w]
  else if c.next = "put" then callP P16 n "put" [.loc c.st, .int num, .loc c.w]
  else if c.next = "check" then callP P16 n "check" [.loc c.st, .int num, .loc c.w]
  else callP P16 n "walk" [.loc c.st, .int num, .loc c.w]

theorem s_go_t (n : Nat) (F : Foc H₀ H c) {o1 o2 o3 : Option AV} {told : AV} :
    Rn (tl P16 (callP P16 n) "go" [] 2 38 [some (.loc c.st), o1, o2, some told, o3]) H fun r H' => r = .ret told ∧ Foc H₀ H' (c.u_time (c.time + 1)) := by
  rw [c_go_t_2]
  refine .bind (.bof F.gTime ?_)
  rw [m_add]
  exact .pure (.then (F.wTime _) fun _ H1 F1 => .pure ⟨rfl, F1⟩)

theorem s_go (n : Nat) {num : Nat} {G : AV → Cn → Prop} {c : Cn} {H1 : AHeap} {hd : Nat} {hand : List (Str × AV)} {wv : AV} {place : Int} {prog : List AV}
    (g1 : pItem (.loc c.st) (.str "hands") H = some (.ok (.loc c.lh), H)) (g2 : pItem (.loc c.lh) (.int num) H = some (.ok (.loc hd), H)) (g3 : pItem (.loc hd) (.str "work") H = some (.ok wv, H))
    (g4 : pItem (.loc hd) (.str "place") H = some (.ok (.int place), H)) (g5 : pItem (.loc hd) (.str "program") H = some (.ok (.tup prog), H)) (hc : pIsNone wv = false ∨ place ≠ prog.length) (hok : PyData.strOk c.next = true)
    (hw : callP P16 (n + 1) "work_of" [.loc c.st, .int num] H = some (.ok (.loc c.w), H1)) (F : Foc H₀ H1 c)
    (hop : Rn (opCall (n + 1) c num) H1 fun told H2 => ∃ c2, c2.st = c.st ∧ Foc H₀ H2 c2 ∧ G told c2) :
    Rn (callP P16 (n + 2) "go" [.loc c.st, .int num]) H fun told H' => ∃ c2, Foc H₀ H' (c2.u_time (c2.time + 1)) ∧ G told c2 := by
  refine callRn (σ := [some (.loc c.st), some (.int num), none, none, none]) (by kernel_rfl) (by kernel_rfl) (by kernel_rfl) ?_
  have fin : ∀ {told : AV} {H2 : AHeap} {o1 o2 o3 : Option AV}, (∃ c2, c2.st = c.st ∧ Foc H₀ H2 c2 ∧ G told c2) → Rn (tl P16 (callP P16 (n + 1)) "go" [] 2 38 [some (.loc c.st), o1, o2, some told, o3]) H2 (Fl (fun _ H' => ∃ c2, Foc H₀ H' (c2.u_time (c2.time + 1)) ∧ G .none c2) fun told H' => ∃ c2, Foc H₀ H' (c2.u_time (c2.time + 1)) ∧ G told c2) := by
    rintro told H2 o1 o2 o3 ⟨c2, e, F2, q⟩
    rw [← e]
    refine Rn.mono (s_go_t (n + 1) F2) ?_
    rintro r H' ⟨rfl, F'⟩
    exact ⟨c2, F', q⟩
  rw [c_go_0]
  refine .bind (.bof g1 (.of g2 ?_))
  refine .bind (.bind (.bof g3 ?_))
  rw [show pCmp .Is wv .none = pure (pIsNone wv) from rfl]
  refine .pure ?_
  refine Rn.mono (R := fun b H' => b = false ∧ H' = H) ?_ ?_
  · cases hx : pIsNone wv with
    | false => exact .pure ⟨rfl, rfl⟩
    | true =>
      have hpl : place ≠ prog.length := hc.resolve_left (by rw [hx]; decide)
      refine .bind (.bof g4 (.bind (.bind (.eachE g5 (.each0 ?_)))))
      rw [e_len_tup]
      refine .pure ?_
      rw [e_eqi, decide_eq_false hpl]
      exact .pure (.pure ⟨rfl, rfl⟩)
  rintro b H' ⟨rfl, rfl⟩
  refine .bind (.bof hw ?_)
  unfold opCall at hop
  have cmp : ∀ x : Str, PyData.strOk x = true → pCmp .Eq (.str c.next) (.str x) = pure (decide (c.next = x)) := fun x hx => e_eqs hok hx
  refine .bind (.bof F.gNext ?_)
  rw [cmp _ (by kernel_rfl)]
  refine .pure ?_
  by_cases h1 : c.next = "take"
  · rw [if_pos h1] at hop
    rw [decide_eq_true h1]
    exact .bind (.then hop fun told H2 q => .pure (.pure (fin q)))
  rw [if_neg h1] at hop
  rw [decide_eq_false h1]
  refine .bind (.bind (.bof F.gNext ?_))
  rw [cmp _ (by kernel_rfl)]
  refine .pure ?_
  by_cases h2 : c.next = "look"
  · rw [if_pos h2] at hop
    rw [decide_eq_true h2]
    exact .bind (.then hop fun told H2 q => .pure (.pure (.pure (fin q))))
  rw [if_neg h2] at hop
  rw [decide_eq_false h2]
  refine .bind (.bind (.bof F.gNext ?_))
  rw [cmp _ (by kernel_rfl)]
  refine .pure ?_
  by_cases h3 : c.next = "see"
  · rw [if_pos h3] at hop
    rw [decide_eq_true h3]
    exact .bind (.then hop fun told H2 q => .pure (.pure (.pure (.pure (fin q)))))
  rw [if_neg h3] at hop
  rw [decide_eq_false h3]
  refine .bind (.bind (.bof F.gNext ?_))
  rw [cmp _ (by kernel_rfl)]
  refine .pure ?_
  by_cases h4 : c.next = "put"
  · rw [if_pos h4] at hop
    rw [decide_eq_true h4]
    exact .bind (.then hop fun told H2 q => .pure (.pure (.pure (.pure (.pure (fin q))))))
  rw [if_neg h4] at hop
  rw [decide_eq_false h4]
  refine .bind (.bind (.bof F.gNext ?_))
  rw [cmp _ (by kernel_rfl)]
  refine .pure ?_
  by_cases h5 : c.next = "check"
  · rw [if_pos h5] at hop
    rw [decide_eq_true h5]
    exact .bind (.then hop fun told H2 q => .pure (.pure (.pure (.pure (.pure (.pure (fin q)))))))
  rw [if_neg h5] at hop
  rw [decide_eq_false h5]
  exact .bind (.then hop fun told H2 q => .pure (.pure (.pure (.pure (.pure (.pure (fin q)))))))

theorem s_go_rest (n : Nat) (F : Foc0 H₀ H c) {num : Nat} (hn : c.hs[num]? = some (.loc c.hd)) (hv : c.wv = .none) (hp : c.place = c.prog.length) :
    Rn (callP P16 (n + 1) "go" [.loc c.st, .int num]) H fun told H' => told = .tup [.str "rest"] ∧ Foc0 H₀ H' (c.u_time (c.time + 1)) := by
  refine callRn (σ := [some (.loc c.st), some (.int num), none, none, none]) (by kernel_rfl) (by kernel_rfl) (by kernel_rfl) ?_
  have g := F.gWork
  rw [hv] at g
  rw [c_go_0]
  refine .bind (.bof F.gHands (.of (item_loc F.h hn) ?_))
  refine .bind (.bind (.bof g ?_))
  rw [show pCmp .Is AV.none .none = pure true from rfl]
  refine .pure (.bind (.bof F.gPlace (.bind (.bind (.eachE F.gProg (.each0 ?_))))))
  rw [e_len_tup]
  refine .pure ?_
  rw [e_eqi, decide_eq_true hp]
  refine .pure (.pure (.bind (.pure ?_)))
  show Rn (tl P16 _ "go" [] 2 38 _) _ _
  rw [c_go_t_2]
  refine .bind (.bof F.gTime ?_)
  rw [m_add]
  exact .pure (.then (F.wTime _) fun _ H1 F1 => .pure ⟨rfl, F1⟩)
end
end Mine


set_option autoImplicit false
set_option linter.unusedVariables false
set_option maxRecDepth 100000
namespace Mine
open PySem PyProof.Rows

noncomputable def lookA : Dk → An
  | .clear => .tup []
  | _ => .none
theorem modify_at {α : Type} {f : α → α} : ∀ {l : List α} {j : Nat} {a : α}, l[j]? = some a → l.modify j f = l.set j (f a)
  | [], _, _, h => by cases h
  | x :: r, 0, a, h => by cases h; rfl
  | x :: r, j + 1, a, h => by
    rw [List.modify_succ_cons, List.set_cons_succ, modify_at (l := r) (j := j) h]
theorem ix_ix (x : Option Nat) : Ix (ixV x) := match x with
  | none => .inl rfl
  | some i => .inr ⟨i, rfl⟩
theorem eqIx_is (x y : Option Nat) : eqIx (ixV x) (ixV y) = decide (x = y) := by
  cases x with
  | none => cases y <;> simp [ixV, eqIx]
  | some i => cases y with
    | none => simp [ixV, eqIx]
    | some j => exact decide_eq_decide.mpr (Int.ofNat_inj.trans ⟨fun h => by rw [h], fun h => Option.some.inj h⟩)
theorem knS_kd (k : Kn) : Kd (knS k) := by cases k <;> simp [Kd, knS]
theorem knS_inj {k j : Kn} : knS k = knS j ↔ k = j := by cases k <;> cases j <;> first | exact ⟨fun _ => rfl, fun _ => rfl⟩ | exact ⟨fun h => absurd h (by decide), fun h => by cases h⟩
theorem dkS_wd (k : Dk) : Wd (dkS k) := by cases k <;> simp [Wd, dkS]
theorem nxS_ok (x : Nx) : PyData.strOk (nxS x) = true := by cases x <;> kernel_rfl
section
variable {H₀ H : AHeap} {L : Ly} {l : Lh} {t : Tw} {pr : List Deed} {p i k : Nat} {w : Wk}
theorem still_c {wv : AV} {x : Option Nat} {m : Nat} : stillB (cn L l t pr p wv w) (ixV x) m = t.still x m := by
  unfold stillB Tw.still
  show (eqIx (ixV t.head) (ixV x) && (decide (knS t.kind ≠ knS .marks) || decide ((t.mark : Int) = (m : Int)))) = _
  rw [eqIx_is]
  congr 2
  · exact decide_eq_decide.mpr (not_congr knS_inj)
  · exact decide_eq_decide.mpr Int.ofNat_inj
theorem sp_c {wv : AV} (T : TwOk k t) : SpOk (cn L l t pr p wv w) := fun x hx => by
  obtain ⟨j, hj, rfl⟩ := List.mem_map.mp (show x ∈ t.spare.map natV from hx)
  exact ⟨j, rfl, by show _ < (t.boxes.map bxV).length; rw [List.length_map]; exact T.spare j hj⟩
theorem deed_c {wv : AV} : (cn L l t pr p wv w).deed = .tup (.str (dkS w.deed.k) :: dkR w.deed.k w.deed.v) := deedK_is _ _

theorem r_take (n : Nat) (F : Foc H₀ H (cn L l t pr p (.loc l.w) w)) (T : TwOk k t) (hk : k < 3000) (hw : w.deed.k = .push ∨ w.deed.k = .swap) :
    Rn (callP P16 (n + 1) "take" [.loc L.st, .loc l.w]) H (Done H₀ L l pr p (opTake t w)) := by
  have hd : (cn L l t pr p (.loc l.w) w).deed = .tup [.str (dkS w.deed.k), .int w.deed.v] := by
    rw [deed_c]; rcases hw with h | h <;> rw [h] <;> rfl
  have lb := T.lb
  unfold opTake
  by_cases hc : t.kind = .new ∨ t.spare = []
  · rw [if_pos hc]
    refine Rn.mono (s_take_new n F (knS_kd _) (sp_c T) hd (by show (t.boxes.map bxV).length < _; rw [List.length_map]; omega) ?_) ?_
    · exact hc.imp (fun h => by show knS t.kind = _; rw [h]; rfl) (fun h => by show t.spare.map natV = _; rw [h]; rfl)
    · rintro a H' ⟨rfl, F'⟩
      refine ⟨by show AV.tup [.str "take", .int ((t.boxes.map bxV).length : Nat)] = _; rw [List.length_map]; rfl, ?_⟩
      show Foc H₀ H' { cn L l t pr p (.loc l.w) w with boxes := (t.boxes ++ [(w.deed.v, none)]).map bxV, own := .int (t.boxes.length : Nat), next := "look" }
      rw [List.map_append, ← List.length_map (f := bxV)]
      exact F'
  · rw [if_neg hc]
    have hne : t.spare ≠ [] := fun q => hc (.inr q)
    have es : t.spare.map natV = t.spare.dropLast.map natV ++ [.int (t.spare.getLastD 0 : Nat)] := by
      have : t.spare = t.spare.dropLast ++ [t.spare.getLastD 0] := by
        cases hs : t.spare with
        | nil => exact absurd hs hne
        | cons a r => rw [show (a :: r).getLastD 0 = (a :: r).getLast (List.cons_ne_nil _ _) from rfl]; exact (List.dropLast_concat_getLast _).symm
      conv => lhs; rw [this]
      rw [List.map_append]; rfl
    refine Rn.mono (s_take_pop n F (knS_kd _) (sp_c T) hd (fun h => hc (.inl (knS_inj.mp (h.trans (show ("new" : Str) = knS .new from rfl))))) es) ?_
    rintro a H' ⟨rfl, F'⟩
    refine ⟨rfl, ?_⟩
    show Foc H₀ H' { cn L l t pr p (.loc l.w) w with boxes := (t.boxes.set (t.spare.getLastD 0) (w.deed.v, none)).map bxV, spare := t.spare.dropLast.map natV, own := .int (t.spare.getLastD 0 : Nat), next := "look" }
    rw [List.map_set]
    exact F'

theorem end_c {s : Tw} {a : An} {c : Cn} {w' : Wk} (F : Foc H₀ H (endNew c i (anV a))) (e : c = cn L l s pr p (.loc l.w) w') (hd : w'.deed = w.deed) (hb : w'.begun = w.begun) :
    ∃ w', Foc H₀ H (cn L l (s.ends i p w a) pr (p + 1) .none w') := by
  subst e
  refine ⟨{ w' with row := some s.rows.length }, ?_⟩
  have F' : Foc H₀ H { cn L l s pr (p + 1) .none w' with row := .int ((s.rows.map rwV).length : Nat), rows := s.rows.map rwV ++ [.tup [.int i, .int p, deedV w'.deed, .int w'.begun, .int s.time, .int s.time, anV a]] } := F
  show Foc H₀ H { cn L l s pr (p + 1) .none w' with row := .int (s.rows.length : Nat), rows := (s.rows ++ [(⟨i, p, w.deed, w.begun, s.time, some (s.time, a)⟩ : Row)]).map rwV }
  rw [List.map_append, ← List.length_map (f := rwV) (as := s.rows), ← hd, ← hb]
  exact F'

theorem below_map (t : Tw) (o : Nat) (u : Option Nat) : (t.below o u).boxes.map bxV = (t.boxes.map bxV).set o (.tup [.int (t.box o).1, ixV u]) := List.map_set

theorem r_look (n : Nat) (F : Foc H₀ H (cn L l t pr p (.loc l.w) w)) (T : TwOk k t) (hk : k < 3000) (hn : L.hs[i]? = some (.loc l.hd)) (hr : w.row = none) (ho : OwOk t.boxes.length w) :
    Rn (callP P16 (n + 3) "look" [.loc L.st, .int i, .loc l.w]) H (Done H₀ L l pr p (opLook t i p w)) := by
  have lr := T.lr
  have ls := T.ls
  have some_ : ∀ {kk : Dk}, w.deed.k = kk → kk ≠ .push → ∀ {x : Nat}, t.head = some x → Rn (callP P16 (n + 3) "look" [.loc L.st, .int i, .loc l.w]) H (Done H₀ L l pr p (t, some { w with seen := some (some x, t.mark), next := lookN kk }, .look (some x) t.mark)) := fun {kk} e hne {x} hx => by
    refine Rn.mono (s_look_some (n + 1) F (num := i) (i := x) (dkS_wd w.deed.k) (by rw [e]; cases kk <;> first | exact absurd rfl hne | decide) deed_c (by show ixV t.head = _; rw [hx]; rfl)) ?_
    rintro a H' ⟨rfl, F'⟩
    refine ⟨by show AV.tup [.str "look", ixV t.head, _] = _; rw [hx]; rfl, ?_⟩
    refine foc_eq F' ?_
    show ({ cn L l t pr p (.loc l.w) w with seen := .tup [ixV t.head, .int t.mark], next := blk (dkS w.deed.k) } : Cn) = { cn L l t pr p (.loc l.w) w with seen := .tup [ixV (some x), .int t.mark], next := nxS (lookN kk) }
    rw [hx, e]
    congr 1
    cases kk <;> kernel_rfl
  have none_ : ∀ {kk : Dk}, w.deed.k = kk → kk ≠ .push → kk ≠ .swap → t.head = none → Rn (callP P16 (n + 3) "look" [.loc L.st, .int i, .loc l.w]) H (Done H₀ L l pr p (t.ends i p w (lookA kk), none, .look none t.mark)) := fun {kk} e hne hns hx => by
    refine Rn.mono (s_look_none n F (num := i) (dkS_wd w.deed.k) (by rw [e]; cases kk <;> first | exact absurd rfl hne | decide) deed_c (by show ixV t.head = _; rw [hx]; rfl) hn (by show ixV w.row = _; rw [hr]; rfl) (by show (t.rows.map rwV).length < _; rw [List.length_map]; omega) (by show (t.spare.map natV).length < _; rw [List.length_map]; omega)) ?_
    rintro a H' ⟨rfl, F'⟩
    refine ⟨by show AV.tup [.str "look", ixV t.head, _] = _; rw [hx]; rfl, ?_⟩
    have e1 : (if dkS w.deed.k = "clear" then AV.tup [] else .none) = anV (lookA kk) := by
      rw [e]; cases kk <;> kernel_rfl
    rw [e1] at F'
    refine end_c (w' := { w with seen := some (t.head, t.mark), next := lookN kk }) F' ?_ rfl rfl
    unfold cLookN
    rw [if_neg (by rw [e]; cases kk <;> first | exact absurd rfl hns | decide)]
    show ({ cn L l t pr p (.loc l.w) w with seen := .tup [ixV t.head, .int t.mark], next := blk (dkS w.deed.k) } : Cn) = { cn L l t pr p (.loc l.w) w with seen := .tup [ixV t.head, .int t.mark], next := nxS (lookN kk) }
    rw [e]
    congr 1
    cases kk <;> kernel_rfl
  unfold opLook
  cases hk : w.deed.k with
  | push =>
    unfold OwOk at ho
    rw [hk] at ho
    obtain ⟨o, h1, h2⟩ := ho
    refine Rn.mono (s_look_push (n + 1) F (num := i) (o := o) (by rw [deed_c, hk]; rfl) (by show ixV w.own = _; rw [h1]; rfl) (box_at h2)) ?_
    rintro a H' ⟨rfl, F'⟩
    refine ⟨rfl, ?_⟩
    simp only [h1, Option.getD_some]
    show Foc H₀ H' { cn L l t pr p (.loc l.w) w with boxes := (t.below o t.head).boxes.map bxV, own := ixV (some o), seen := .tup [ixV t.head, .int t.mark], next := "put" }
    rw [below_map, ← h1]
    have e : blk "push" = "put" := by kernel_rfl
    rw [← e]
    exact F'
  | swap =>
    cases hh : t.head with
    | some x => exact some_ hk (fun q => by cases q) hh
    | none =>
      unfold OwOk at ho
      rw [hk] at ho
      obtain ⟨o, h1, h2⟩ := ho
      refine Rn.mono (s_look_none n F (num := i) (dkS_wd w.deed.k) (by rw [hk]; decide) deed_c (by show ixV t.head = _; rw [hh]; rfl) hn (by show ixV w.row = _; rw [hr]; rfl) (by show (t.rows.map rwV).length < _; rw [List.length_map]; omega) (by show (t.spare.map natV).length < _; rw [List.length_map]; omega)) ?_
      rintro a H' ⟨rfl, F'⟩
      refine ⟨by show AV.tup [.str "look", ixV t.head, _] = _; rw [hh]; rfl, ?_⟩
      have e1 : (if dkS w.deed.k = "clear" then AV.tup [] else .none) = anV .none := by rw [hk]; kernel_rfl
      rw [e1] at F'
      refine end_c (w' := { w with seen := some (t.head, t.mark), next := .see }) F' ?_ rfl rfl
      unfold cLookN
      rw [if_pos (by rw [hk]; rfl)]
      show ({ cn L l t pr p (.loc l.w) w with spare := t.spare.map natV ++ [ixV w.own], seen := .tup [ixV t.head, .int t.mark], next := blk (dkS w.deed.k) } : Cn) = { cn L l t pr p (.loc l.w) w with head := ixV none, spare := (t.spare ++ [w.own.getD 0]).map natV, seen := .tup [ixV t.head, .int t.mark], next := "see" }
      rw [hk, h1, hh, List.map_append]
      have e : blk (dkS .swap) = "see" := by kernel_rfl
      rw [e]
      show ({ cn L l t pr p (.loc l.w) w with head := ixV t.head, spare := _, seen := _, next := _ } : Cn) = _
      rw [hh]
      rfl
  | clear =>
    cases hh : t.head with
    | some x => exact some_ hk (fun q => by cases q) hh
    | none => exact none_ hk (fun q => by cases q) (fun q => by cases q) hh
  | pop =>
    cases hh : t.head with
    | some x => exact some_ hk (fun q => by cases q) hh
    | none => exact none_ hk (fun q => by cases q) (fun q => by cases q) hh
  | top =>
    cases hh : t.head with
    | some x => exact some_ hk (fun q => by cases q) hh
    | none => exact none_ hk (fun q => by cases q) (fun q => by cases q) hh

theorem r_see (n : Nat) (F : Foc H₀ H (cn L l t pr p (.loc l.w) w)) (T : TwOk k t) (hw : w.deed.k = .swap ∨ w.deed.k = .pop ∨ w.deed.k = .top) (ho : OwOk t.boxes.length w) {x m : Nat} (hx : x < t.boxes.length) (hs : w.seen = some (some x, m)) :
    Rn (callP P16 (n + 2) "see" [.loc L.st, .loc l.w]) H (Done H₀ L l pr p (opSee t w)) := by
  have eb : ((w.seen.getD (none, 0)).1).getD 0 = x := by rw [hs]; rfl
  have es : (cn L l t pr p (.loc l.w) w).seen = .tup [.int x, .int m] := by show seenV w.seen = _; rw [hs]; rfl
  have rest : ∀ {kk : Dk}, w.deed.k = kk → (dkS kk = "pop" ∨ dkS kk = "top") → Rn (callP P16 (n + 2) "see" [.loc L.st, .loc l.w]) H (Done H₀ L l pr p (t, some { w with inside := some (t.box x), next := seeN kk }, .see x (t.box x).1 (t.box x).2)) := fun {kk} e hp => by
    refine Rn.mono (s_see (n + 1) F (w := dkS w.deed.k) (by rw [e]; exact hp) deed_c es (box_at hx)) ?_
    rintro a H' ⟨rfl, F'⟩
    refine ⟨rfl, foc_eq F' ?_⟩
    show ({ cn L l t pr p (.loc l.w) w with inside := bxV (t.box x), next := bse (dkS w.deed.k) } : Cn) = { cn L l t pr p (.loc l.w) w with inside := bxV (t.box x), next := nxS (seeN kk) }
    rw [e]
    congr 1
    cases kk <;> kernel_rfl
  unfold opSee
  simp only [eb]
  rcases hw with hk | hk | hk
  · unfold OwOk at ho
    rw [hk] at ho
    obtain ⟨o, h1, h2⟩ := ho
    rw [hk, h1]
    refine Rn.mono (s_see_swap n F (by rw [deed_c, hk]; rfl) es (box_at hx) (o := o) (by show ixV w.own = _; rw [h1]; rfl) (box_at h2)) ?_
    rintro a H' ⟨rfl, F'⟩
    refine ⟨rfl, ?_⟩
    show Foc H₀ H' { cn L l t pr p (.loc l.w) w with boxes := (t.below o (t.box x).2).boxes.map bxV, own := ixV (some o), inside := bxV (t.box x), next := "put" }
    rw [below_map, ← h1]
    have e : bse "swap" = "put" := by kernel_rfl
    rw [← e]
    exact F'
  · rw [hk]; exact rest hk (.inl rfl)
  · rw [hk]; exact rest hk (.inr rfl)

theorem r_put (n : Nat) (F : Foc H₀ H (cn L l t pr p (.loc l.w) w)) (T : TwOk k t) (hk : k < 3000) (hn : L.hs[i]? = some (.loc l.hd)) (hr : w.row = none) (ho : OwOk t.boxes.length w) (hw : w.deed.k ≠ .top) {x : Option Nat} {m : Nat} (hs : w.seen = some (x, m)) (hne : w.deed.k ≠ .push → x ≠ none)
    (hi : (w.deed.k = .swap ∨ w.deed.k = .pop) → ∃ v b, w.inside = some (v, b) ∧ IxOk t.boxes.length b) : Rn (callP P16 (n + 3) "put" [.loc L.st, .int i, .loc l.w]) H (Done H₀ L l pr p (opPut t i p w)) := by
  have lr := T.lr
  have ls := T.ls
  have e1 : w.seen.getD (none, 0) = (x, m) := by rw [hs]; rfl
  have es : (cn L l t pr p (.loc l.w) w).seen = .tup [ixV x, .int m] := by show seenV w.seen = _; rw [hs]; rfl
  unfold opPut
  simp only [e1]
  cases hb : t.still x m with
  | false =>
    refine Rn.mono (s_put_no (n + 1) F (num := i) (knS_kd _) (ix_ix _) (ix_ix x) es (by rw [still_c]; exact hb)) ?_
    rintro a H' ⟨rfl, F'⟩
    exact ⟨rfl, F'⟩
  | true =>
    have hh := still_head hb
    have hx1 : ∀ {q : Nat}, x = some q → ixV t.head = .int q := fun {q} e => by rw [hh, e]; rfl
    have hwd : dkS w.deed.k = "push" ∨ dkS w.deed.k = "clear" ∨ dkS w.deed.k = "swap" ∨ dkS w.deed.k = "pop" := by
      cases hk : w.deed.k with
      | top => exact absurd hk hw
      | push => exact .inl rfl
      | clear => exact .inr (.inl rfl)
      | swap => exact .inr (.inr (.inl rfl))
      | pop => exact .inr (.inr (.inr rfl))
    obtain ⟨v, b, hin⟩ : ∃ v b, (w.deed.k = .swap ∨ w.deed.k = .pop) → w.inside = some (v, b) := by
      by_cases q : w.deed.k = .swap ∨ w.deed.k = .pop
      · obtain ⟨v, b, q1, _⟩ := hi q
        exact ⟨v, b, fun _ => q1⟩
      · exact ⟨0, none, fun z => absurd z q⟩
    have hdk : ∀ {y : Dk}, dkS w.deed.k = dkS y → w.deed.k = y := fun {y} q => by
      revert q
      cases w.deed.k <;> cases y <;> intro q <;> first | rfl | exact absurd q (by decide)
    refine Rn.mono (s_put_yes n F (num := i) (v := .int v) (bi := ixV b) hwd (knS_kd _) (ix_ix _) (ix_ix x) es (by rw [still_c]; exact hb) deed_c hn (by show ixV w.row = _; rw [hr]; rfl) (by show (t.rows.map rwV).length < _; rw [List.length_map]; omega) (by show (t.spare.map natV).length < _; rw [List.length_map]; omega)
      (fun q => by show insV w.inside = _; rw [hin (q.imp (fun z => hdk (y := .swap) z) fun z => hdk (y := .pop) z)]; rfl)) ?_
    rintro a H' ⟨rfl, F'⟩
    unfold cPut at F'
    have hj : w.deed.k ≠ .push → ∃ q, t.head = some q := fun z => by
      cases e : x with
      | none => exact absurd e (hne z)
      | some q => exact ⟨q, by rw [hh, e]⟩
    have hspare : ∀ {q : Nat}, t.head = some q → t.spare.map natV ++ [ixV t.head] = (t.spare ++ [t.head.getD 0]).map natV := fun {q} z => by rw [List.map_append, z]; rfl
    cases hk : w.deed.k with
    | top => exact absurd hk hw
    | clear =>
      rw [hk, if_pos (show dkS .clear = ("clear" : Str) from rfl)] at F'
      refine ⟨rfl, ?_⟩
      show Foc H₀ H' { cn L l t pr p (.loc l.w) w with mark := ((t.mark + 1 : Nat) : Int), head := .none, rows := (t.rows ++ [(⟨i, p, w.deed, w.begun, t.time, none⟩ : Row)]).map rwV, row := .int (t.rows.length : Nat), walk := ixV t.head, next := "walk" }
      rw [List.map_append, ← List.length_map (f := rwV) (as := t.rows)]
      exact F'
    | push =>
      rw [hk, if_neg (by decide), if_pos (show dkS .push = ("push" : Str) from rfl)] at F'
      exact ⟨rfl, end_c (s := { t with mark := t.mark + 1, head := w.own }) (w' := w) F' rfl rfl rfl⟩
    | pop =>
      rw [hk, if_neg (by decide), if_neg (by decide), if_pos (show dkS .pop = ("pop" : Str) from rfl)] at F'
      obtain ⟨q, hq⟩ := hj (by rw [hk]; exact fun z => by cases z)
      refine ⟨rfl, end_c (s := { t with mark := t.mark + 1, head := (w.inside.getD (0, none)).2, spare := t.spare ++ [t.head.getD 0] }) (w' := w) (a := .int (w.inside.getD (0, none)).1) (by rw [hin (.inr hk)]; exact F') ?_ rfl rfl⟩
      rw [hin (.inr hk)]
      show ({ cn L l t pr p (.loc l.w) w with mark := ((t.mark + 1 : Nat) : Int), head := ixV b, spare := t.spare.map natV ++ [ixV t.head] } : Cn) = { cn L l t pr p (.loc l.w) w with mark := ((t.mark + 1 : Nat) : Int), head := ixV b, spare := (t.spare ++ [t.head.getD 0]).map natV }
      rw [hspare hq]
    | swap =>
      rw [hk, if_neg (by decide), if_neg (by decide), if_neg (by decide)] at F'
      obtain ⟨q, hq⟩ := hj (by rw [hk]; exact fun z => by cases z)
      refine ⟨rfl, end_c (s := { t with mark := t.mark + 1, head := w.own, spare := t.spare ++ [t.head.getD 0] }) (w' := w) (a := .int (w.inside.getD (0, none)).1) (by rw [hin (.inl hk)]; exact F') ?_ rfl rfl⟩
      show ({ cn L l t pr p (.loc l.w) w with mark := ((t.mark + 1 : Nat) : Int), head := ixV w.own, spare := t.spare.map natV ++ [ixV t.head] } : Cn) = { cn L l t pr p (.loc l.w) w with mark := ((t.mark + 1 : Nat) : Int), head := ixV w.own, spare := (t.spare ++ [t.head.getD 0]).map natV }
      rw [hspare hq]

theorem r_check (n : Nat) (F : Foc H₀ H (cn L l t pr p (.loc l.w) w)) (T : TwOk k t) (hk : k < 3000) (hn : L.hs[i]? = some (.loc l.hd)) (hr : w.row = none) {x : Option Nat} {m : Nat} {v : Int} {b : Option Nat} (hs : w.seen = some (x, m)) (hi : w.inside = some (v, b)) :
    Rn (callP P16 (n + 3) "check" [.loc L.st, .int i, .loc l.w]) H (Done H₀ L l pr p (opCheck t i p w)) := by
  have lr := T.lr
  have e1 : w.seen.getD (none, 0) = (x, m) := by rw [hs]; rfl
  unfold opCheck
  simp only [e1]
  refine Rn.mono (s_check n F (num := i) (x := ixV x) (m := m) (v := .int v) (bi := ixV b) (knS_kd _) (ix_ix _) (ix_ix x) (by show seenV w.seen = _; rw [hs]; rfl) hn (by show ixV w.row = _; rw [hr]; rfl) (by show (t.rows.map rwV).length < _; rw [List.length_map]; omega) (by show insV w.inside = _; rw [hi]; rfl)) ?_
  rintro a H' ⟨rfl, F'⟩
  rw [still_c] at F'
  cases hb : t.still x m with
  | true =>
    rw [hb, if_pos rfl] at F'
    exact ⟨rfl, end_c (s := t) (w' := w) (a := .int (w.inside.getD (0, none)).1) (by rw [hi]; exact F') rfl rfl rfl⟩
  | false =>
    rw [hb, if_neg (by decide)] at F'
    exact ⟨rfl, F'⟩

theorem r_walk (n : Nat) (F : Foc H₀ H (cn L l t pr p (.loc l.w) w)) (T : TwOk k t) (hk : k < 3000) (hkp : w.kept.length ≤ k) (hn : L.hs[i]? = some (.loc l.hd)) {x j : Nat} (hx : x < t.boxes.length) (hwk : w.walk = some x) (hj : j < t.rows.length) (hr : w.row = some j) :
    Rn (callP P16 (n + 3) "walk" [.loc L.st, .int i, .loc l.w]) H (Done H₀ L l pr p (opWalk t w)) := by
  have ls := T.ls
  have e1 : w.walk.getD 0 = x := by rw [hwk]; rfl
  obtain ⟨r, hr1, hr2⟩ := row_at hj
  unfold opWalk
  simp only [e1]
  refine Rn.mono (s_walk n F (num := i) (i := x) (k := j) (by show ixV w.walk = _; rw [hwk]; rfl) (box_at hx) (ix_ix _) hn (by show ixV w.row = _; rw [hr]; rfl) hr2 (by show (w.kept.map AV.int).length < _; rw [List.length_map]; omega) (by show (t.spare.map natV).length < _; rw [List.length_map]; omega)) ?_
  rintro a H' ⟨rfl, F'⟩
  cases hb : (t.box x).2 with
  | some u =>
    rw [hb, show pIsNone (ixV (some u)) = false from rfl, if_neg (by decide)] at F'
    refine ⟨rfl, ?_⟩
    show Foc H₀ H' { cn L l t pr p (.loc l.w) w with spare := (t.spare ++ [x]).map natV, kept := (w.kept ++ [(t.box x).1]).map .int, walk := ixV (some u) }
    rw [List.map_append, List.map_append]
    exact F'
  | none =>
    rw [hb, show pIsNone (ixV none) = true from rfl, if_pos rfl] at F'
    refine ⟨rfl, { w with kept := w.kept ++ [(t.box x).1], walk := none }, ?_⟩
    have em : (t.rows.modify (w.row.getD 0) (setFin (t.time, .tup (w.kept ++ [(t.box x).1])))).map rwV = (t.rows.map rwV).set j (.tup [.int r.num, .int r.place, deedV r.deed, .int r.begun, .int r.point, .int t.time, .tup (w.kept.map .int ++ [.int (t.box x).1])]) := by
      rw [hr, Option.getD_some, modify_at hr1, List.map_set]
      congr 1
      show AV.tup [_, _, _, _, _, _, .tup ((w.kept ++ [(t.box x).1]).map .int)] = _
      rw [List.map_append]; rfl
    show Foc H₀ H' { cn L l t pr p (.loc l.w) w with spare := (t.spare ++ [x]).map natV, kept := (w.kept ++ [(t.box x).1]).map .int, walk := .none, rows := (t.rows.modify (w.row.getD 0) (setFin (t.time, .tup (w.kept ++ [(t.box x).1])))).map rwV, place := ((p + 1 : Nat) : Int), wv := .none }
    rw [em, List.map_append, List.map_append]
    exact F'

theorem r_op (n : Nat) (F : Foc H₀ H (cn L l t pr p (.loc l.w) w)) (T : TwOk k t) (hk : k < 3000) (hn : L.hs[i]? = some (.loc l.hd)) (h : WkOk k t.boxes.length t.rows.length w) :
    Rn (opCall (n + 3) (cn L l t pr p (.loc l.w) w) i) H (Done H₀ L l pr p (op t i p w)) := by
  obtain ⟨h1, h⟩ := h
  unfold op opCall
  unfold StOk at h
  have en : (cn L l t pr p (.loc l.w) w).next = nxS w.next := rfl
  cases hx : w.next with
  | take => rw [hx] at h en; have en : (cn L l t pr p (.loc l.w) w).next = ("take" : Str) := en; rw [if_pos en]; exact r_take (n + 2) F T hk h.2
  | look => rw [hx] at h en; have en : (cn L l t pr p (.loc l.w) w).next = ("look" : Str) := en; rw [if_neg (by rw [en]; decide), if_pos en]; exact r_look n F T hk hn h.1 h.2
  | see => rw [hx] at h en; have en : (cn L l t pr p (.loc l.w) w).next = ("see" : Str) := en; obtain ⟨a, b, c, x, m, d, e⟩ := h; rw [if_neg (by rw [en]; decide), if_neg (by rw [en]; decide), if_pos en]; exact r_see (n + 1) F T c b d e
  | put => rw [hx] at h en; have en : (cn L l t pr p (.loc l.w) w).next = ("put" : Str) := en; obtain ⟨a, b, c, x, m, d, e, f, g⟩ := h; rw [if_neg (by rw [en]; decide), if_neg (by rw [en]; decide), if_neg (by rw [en]; decide), if_pos en]; exact r_put n F T hk hn a b c e f g
  | check => rw [hx] at h en; have en : (cn L l t pr p (.loc l.w) w).next = ("check" : Str) := en; obtain ⟨a, b, x, m, v, y, c, d⟩ := h; rw [if_neg (by rw [en]; decide), if_neg (by rw [en]; decide), if_neg (by rw [en]; decide), if_neg (by rw [en]; decide), if_pos en]; exact r_check n F T hk hn a c d
  | walk => rw [hx] at h en; have en : (cn L l t pr p (.loc l.w) w).next = ("walk" : Str) := en; obtain ⟨a, ⟨x, b, c⟩, j, d, e⟩ := h; rw [if_neg (by rw [en]; decide), if_neg (by rw [en]; decide), if_neg (by rw [en]; decide), if_neg (by rw [en]; decide), if_neg (by rw [en]; decide)]; exact r_walk n F T hk h1 hn b c d e
end

end Mine


set_option autoImplicit false
set_option linter.unusedVariables false
set_option maxRecDepth 100000
namespace Mine
open PySem PyProof.Rows

/-- the state of g with the hand h -/
noncomputable def mix (g h : Cn) : Cn := { h with st := g.st, lb := g.lb, lsp := g.lsp, lh := g.lh, lr := g.lr, kind := g.kind, boxes := g.boxes, head := g.head, mark := g.mark, spare := g.spare, hs := g.hs, time := g.time, rows := g.rows }
theorem mix_self (c : Cn) : mix c c = c := by cases c; rfl
noncomputable def gl5 (c : Cn) : List Nat := [c.st, c.lb, c.lsp, c.lh, c.lr]
noncomputable def hlocs (h : Cn) : List Nat := match h.wv with
  | .none => [h.hd]
  | _ => [h.hd, h.kp, h.w]
/-- one hand's part of the heap -/
noncomputable def One (H : AHeap) (c : Cn) : Prop := (c.wv = .none ∧ Foc0 H H c) ∨ (c.wv = .loc c.w ∧ Foc H H c)
structure Rep (H : AHeap) (g : Cn) (hs : List Cn) : Prop where
  hsv : g.hs = hs.map fun h => .loc h.hd
  one : ∀ (i : Nat) h, hs[i]? = some h → One H (mix g h)
  ow : ∃ ow : Nat → Nat, (∀ l ∈ gl5 g, ow l = 0) ∧ ∀ (i : Nat) h, hs[i]? = some h → ∀ l ∈ hlocs h, ow l = i + 1

theorem mem8 {c : Cn} {l : Nat} (h : l ∈ c.ls) : l ∈ gl5 c ∨ l = c.hd ∨ l = c.kp ∨ l = c.w := by
  rcases List.mem_append.mp (show l ∈ gl5 c ++ [c.hd, c.kp, c.w] from h) with q | q
  · exact .inl q
  · exact .inr ((List.mem_cons.mp q).imp id fun q => (List.mem_cons.mp q).imp id fun q => List.mem_singleton.mp q)
theorem mem6 {c : Cn} {l : Nat} (h : l ∈ c.ls0) : l ∈ gl5 c ∨ l = c.hd := by
  rcases List.mem_append.mp (show l ∈ gl5 c ++ [c.hd] from h) with q | q
  · exact .inl q
  · exact .inr (List.mem_singleton.mp q)
theorem hl_none {c : Cn} (h : c.wv = .none) : hlocs c = [c.hd] := by unfold hlocs; rw [h]
theorem hl_loc {c : Cn} {l : Nat} (h : c.wv = .loc l) : hlocs c = [c.hd, c.kp, c.w] := by unfold hlocs; rw [h]

/-- a hand's part is kept where the state's own objects turn to those of c' and its own locs do not -/
theorem one_keep {H H' : AHeap} {g h c' : Cn} {L : List Nat} (O : One H (mix g h)) (e : gl5 c' = gl5 g) (F : ∀ (j l : Nat) (o : AO), (gl5 c')[j]? = some l → (c'.os)[j]? = some o → H'[l]? = some o) (hl : H.length ≤ H'.length) (hout : ∀ l, l < H.length → l ∉ L → H'[l]? = H[l]?) (hL : ∀ l ∈ hlocs h, l ∉ L) : One H' (mix c' h) := by
  have e1 : c'.st = g.st := (List.cons.inj e).1
  have e2 := (List.cons.inj e).2
  have e3 : c'.lb = g.lb := (List.cons.inj e2).1
  have e4 := (List.cons.inj e2).2
  have e5 : c'.lsp = g.lsp := (List.cons.inj e4).1
  have e6 := (List.cons.inj e4).2
  have e7 : c'.lh = g.lh := (List.cons.inj e6).1
  have e8 := (List.cons.inj e6).2
  have e9 : c'.lr = g.lr := (List.cons.inj e8).1
  have ls : (mix c' h).ls = (mix g h).ls := by show [c'.st, c'.lb, c'.lsp, c'.lh, c'.lr, h.hd, h.kp, h.w] = [g.st, g.lb, g.lsp, g.lh, g.lr, h.hd, h.kp, h.w]; rw [e1, e3, e5, e7, e9]
  have ls0 : (mix c' h).ls0 = (mix g h).ls0 := by show [c'.st, c'.lb, c'.lsp, c'.lh, c'.lr, h.hd] = [g.st, g.lb, g.lsp, g.lh, g.lr, h.hd]; rw [e1, e3, e5, e7, e9]
  have kp : ∀ {l : Nat} {o : AO}, l ∈ hlocs h → H[l]? = some o → H'[l]? = some o := fun hm ho => by
    rw [hout _ (List.getElem?_eq_some_iff.mp ho).1 (hL _ hm)]; exact ho
  rcases O with ⟨hv, O⟩ | ⟨hv, O⟩
  · refine .inl ⟨hv, ⟨?_, by rw [ls0]; exact O.nd, Nat.le_refl _, fun _ _ _ => rfl⟩⟩
    have m1 : h.hd ∈ hlocs h := by rw [hl_none (c := h) hv]; simp
    intro j l o hj ho
    match j, hj, ho with
    | 0, hj, ho => exact F 0 l o hj ho
    | 1, hj, ho => exact F 1 l o hj ho
    | 2, hj, ho => exact F 2 l o hj ho
    | 3, hj, ho => exact F 3 l o hj ho
    | 4, hj, ho => exact F 4 l o hj ho
    | 5, hj, ho =>
      have hj' : h.hd = l := Option.some.inj hj
      subst hj'
      exact kp m1 (O.all 5 h.hd o rfl ho)
    | j + 6, hj, ho => exact absurd hj (by simp [Cn.ls0])
  · refine .inr ⟨hv, ⟨?_, by rw [ls]; exact O.nd, Nat.le_refl _, fun _ _ _ => rfl⟩⟩
    have m1 : h.hd ∈ hlocs h ∧ h.kp ∈ hlocs h ∧ h.w ∈ hlocs h := by rw [hl_loc (c := h) (l := h.w) hv]; simp
    intro j l o hj ho
    match j, hj, ho with
    | 0, hj, ho => exact F 0 l o hj ho
    | 1, hj, ho => exact F 1 l o hj ho
    | 2, hj, ho => exact F 2 l o hj ho
    | 3, hj, ho => exact F 3 l o hj ho
    | 4, hj, ho => exact F 4 l o hj ho
    | 5, hj, ho =>
      have hj' : h.hd = l := Option.some.inj hj
      subst hj'
      exact kp m1.1 (O.all 5 h.hd o rfl ho)
    | 6, hj, ho =>
      have hj' : h.kp = l := Option.some.inj hj
      subst hj'
      exact kp m1.2.1 (O.all 6 h.kp o rfl ho)
    | 7, hj, ho =>
      have hj' : h.w = l := Option.some.inj hj
      subst hj'
      exact kp m1.2.2 (O.all 7 h.w o rfl ho)
    | j + 8, hj, ho => exact absurd hj (by simp [Cn.ls])

theorem One.lt {H : AHeap} {g h : Cn} (O : One H (mix g h)) {l : Nat} (hl : l ∈ hlocs h) : l < H.length := by
  rcases O with ⟨hv, O⟩ | ⟨hv, O⟩
  · rw [hl_none (c := h) hv] at hl
    simp at hl
    subst hl
    exact (List.getElem?_eq_some_iff.mp (O.all 5 h.hd _ rfl rfl)).1
  · rw [hl_loc (c := h) (l := h.w) hv] at hl
    simp at hl
    rcases hl with rfl | rfl | rfl
    · exact (List.getElem?_eq_some_iff.mp (O.all 5 h.hd _ rfl rfl)).1
    · exact (List.getElem?_eq_some_iff.mp (O.all 6 h.kp _ rfl rfl)).1
    · exact (List.getElem?_eq_some_iff.mp (O.all 7 h.w _ rfl rfl)).1

theorem Rep.step {H H' : AHeap} {g h c' : Cn} {hs : List Cn} {i : Nat} {L : List Nat} (R : Rep H g hs) (hi : hs[i]? = some h) (O : One H' c') (e : gl5 c' = gl5 g) (ehs : c'.hs = g.hs) (ehd : c'.hd = h.hd)
    (F : ∀ (j l : Nat) (o : AO), (gl5 c')[j]? = some l → (c'.os)[j]? = some o → H'[l]? = some o) (hl : H.length ≤ H'.length) (hout : ∀ l, l < H.length → l ∉ L → H'[l]? = H[l]?)
    (hL : ∀ l ∈ L, l ∈ gl5 g ∨ l ∈ hlocs h ∨ H.length ≤ l) (hn : ∀ l ∈ hlocs c', l ∈ hlocs h ∨ H.length ≤ l) : Rep H' c' (hs.set i c') where
  hsv := by
    rw [ehs, R.hsv, List.map_set]
    have hil := (List.getElem?_eq_some_iff.mp hi).1
    apply List.ext_getElem?
    intro j
    by_cases hij : i = j
    · subst hij
      rw [List.getElem?_set_self (by rw [List.length_map]; exact hil), List.getElem?_map, hi, ehd]; rfl
    · rw [List.getElem?_set_ne hij]
  one := fun j hj hjj => by
    obtain ⟨ow, o1, o2⟩ := R.ow
    by_cases hij : i = j
    · subst hij
      rw [List.getElem?_set_self (List.getElem?_eq_some_iff.mp hi).1] at hjj
      cases hjj
      rw [mix_self]; exact O
    · rw [List.getElem?_set_ne hij] at hjj
      have Oj := R.one j hj hjj
      refine one_keep Oj e F hl hout fun l hlm hLm => ?_
      have q := o2 j hj hjj l hlm
      rcases hL l hLm with z | z | z
      · rw [o1 l z] at q; omega
      · rw [o2 i h hi l z] at q; omega
      · exact absurd (Oj.lt hlm) (by omega)
  ow := by
    obtain ⟨ow, o1, o2⟩ := R.ow
    refine ⟨fun l => if l < H.length then ow l else i + 1, fun l hm => ?_, fun j hj hjj l hm => ?_⟩
    · rw [e] at hm
      have hlt : l < H.length := by
        have Oi := R.one i h hi
        have : ∃ o, H[l]? = some o := by
          simp only [gl5, List.mem_cons, List.not_mem_nil, or_false] at hm
          rcases Oi with ⟨_, Oi⟩ | ⟨_, Oi⟩
          · rcases hm with rfl | rfl | rfl | rfl | rfl
            · exact ⟨_, Oi.all 0 g.st _ rfl rfl⟩
            · exact ⟨_, Oi.all 1 g.lb _ rfl rfl⟩
            · exact ⟨_, Oi.all 2 g.lsp _ rfl rfl⟩
            · exact ⟨_, Oi.all 3 g.lh _ rfl rfl⟩
            · exact ⟨_, Oi.all 4 g.lr _ rfl rfl⟩
          · rcases hm with rfl | rfl | rfl | rfl | rfl
            · exact ⟨_, Oi.all 0 g.st _ rfl rfl⟩
            · exact ⟨_, Oi.all 1 g.lb _ rfl rfl⟩
            · exact ⟨_, Oi.all 2 g.lsp _ rfl rfl⟩
            · exact ⟨_, Oi.all 3 g.lh _ rfl rfl⟩
            · exact ⟨_, Oi.all 4 g.lr _ rfl rfl⟩
        obtain ⟨o, ho⟩ := this
        exact (List.getElem?_eq_some_iff.mp ho).1
      simp only [hlt, if_true]
      exact o1 l hm
    · by_cases hij : i = j
      · subst hij
        rw [List.getElem?_set_self (List.getElem?_eq_some_iff.mp hi).1] at hjj
        cases hjj
        rcases hn l hm with z | z
        · have hlt := (R.one i h hi).lt z
          simp only [hlt, if_true]
          exact o2 i h hi l z
        · have hlt : ¬ l < H.length := by omega
          simp only [hlt, if_false]
      · rw [List.getElem?_set_ne hij] at hjj
        have hlt := (R.one j hj hjj).lt hm
        simp only [hlt, if_true]
        exact o2 j hj hjj l hm

/-- what stands of the state in a Foc -/
theorem foc_g {H₀ H : AHeap} {c : Cn} (F : Foc H₀ H c) : ∀ (j l : Nat) (o : AO), (gl5 c)[j]? = some l → (c.os)[j]? = some o → H[l]? = some o := fun j l o hj ho => by
  match j, hj, ho with
  | 0, hj, ho => exact F.all 0 l o hj ho
  | 1, hj, ho => exact F.all 1 l o hj ho
  | 2, hj, ho => exact F.all 2 l o hj ho
  | 3, hj, ho => exact F.all 3 l o hj ho
  | 4, hj, ho => exact F.all 4 l o hj ho
  | j + 5, hj, ho => exact absurd hj (by simp [gl5])
theorem foc0_g {H₀ H : AHeap} {c : Cn} (F : Foc0 H₀ H c) : ∀ (j l : Nat) (o : AO), (gl5 c)[j]? = some l → (c.os)[j]? = some o → H[l]? = some o := fun j l o hj ho => by
  match j, hj, ho with
  | 0, hj, ho => exact F.all 0 l o hj ho
  | 1, hj, ho => exact F.all 1 l o hj ho
  | 2, hj, ho => exact F.all 2 l o hj ho
  | 3, hj, ho => exact F.all 3 l o hj ho
  | 4, hj, ho => exact F.all 4 l o hj ho
  | j + 5, hj, ho => exact absurd hj (by simp [gl5])
theorem foc_one {H₀ H : AHeap} {c : Cn} (F : Foc H₀ H c) (h : c.wv = .none ∨ c.wv = .loc c.w) : One H c := by
  rcases h with h | h
  · refine .inl ⟨h, ⟨?_, (List.nodup_append.mp (show (c.ls0 ++ [c.kp, c.w]).Nodup from F.nd)).1, Nat.le_refl _, fun _ _ _ => rfl⟩⟩
    intro j l o hj ho
    match j, hj, ho with
    | 0, hj, ho => exact F.all 0 l o hj ho
    | 1, hj, ho => exact F.all 1 l o hj ho
    | 2, hj, ho => exact F.all 2 l o hj ho
    | 3, hj, ho => exact F.all 3 l o hj ho
    | 4, hj, ho => exact F.all 4 l o hj ho
    | 5, hj, ho => exact F.all 5 l o hj ho
    | j + 6, hj, ho => exact absurd hj (by simp [Cn.ls0])
  · exact .inr ⟨h, ⟨F.all, F.nd, Nat.le_refl _, fun _ _ _ => rfl⟩⟩

noncomputable def wvOf (h : Hd) (l : Lh) : AV := match h.work with
  | none => .none
  | some _ => .loc l.w
/-- the hand h, as the heap has it -/
noncomputable def HIs (L : Ly) (h : Hd) (c : Cn) : Prop := ∃ l t w, c = cn L l t h.prog h.place (wvOf h l) w ∧ ∀ w', h.work = some w' → w = w'
noncomputable def Free (g : Cn) (hs : List Cn) (l : Nat) : Prop := l ∉ gl5 g ∧ ∀ (i : Nat) h, hs[i]? = some h → l ∉ hlocs h
structure TR (H : AHeap) (L : Ly) (t : Tw) (U : Nat → Prop) (g : Cn) (hs : List Cn) : Prop where
  gis : ∃ l pr p wv w, g = cn L l t pr p wv w
  rep : Rep H g hs
  len : hs.length = t.hands.length
  his : ∀ (i : Nat) h c, t.hands[i]? = some h → hs[i]? = some c → HIs L h c
  fr : ∀ x, U x → x < H.length ∧ Free g hs x
/-- the heap holds the tower t; U: what is none of its objects -/
noncomputable def TRep (H : AHeap) (L : Ly) (t : Tw) (U : Nat → Prop) : Prop := ∃ g hs, TR H L t U g hs
section
variable {H H' : AHeap} {L : Ly} {t t' : Tw} {U : Nat → Prop} {g c c' : Cn} {hs : List Cn} {i k : Nat} {h h' : Hd} {l l' : Lh} {w' : Wk} {Ls : List Nat}
theorem hd_in (c : Cn) : c.hd ∈ hlocs c := by
  unfold hlocs
  split <;> exact List.mem_cons_self
theorem trep_step (T : TR H L t U g hs) (hi : hs[i]? = some c) (O : One H' c') (ec : c' = cn L l' t' h'.prog h'.place (wvOf h' l') w') (hw' : ∀ w, h'.work = some w → w' = w) (eh : t'.hands = t.hands.set i h') (ehd : c'.hd = c.hd)
    (F : ∀ (j l : Nat) (o : AO), (gl5 c')[j]? = some l → (c'.os)[j]? = some o → H'[l]? = some o) (hl : H.length ≤ H'.length) (hout : ∀ l, l < H.length → l ∉ Ls → H'[l]? = H[l]?)
    (hL : ∀ l ∈ Ls, l ∈ gl5 c' ∨ l ∈ hlocs c ∨ H.length ≤ l) (hn : ∀ l ∈ hlocs c', l ∈ hlocs c ∨ H.length ≤ l) : TRep H' L t' U ∧ ∀ x, U x → H'[x]? = H[x]? := by
  obtain ⟨l0, pr, p, wv, w0, eg⟩ := T.gis
  have e5 : gl5 c' = gl5 g := by rw [ec, eg]; rfl
  have hil := (List.getElem?_eq_some_iff.mp hi).1
  refine ⟨⟨c', hs.set i c', ⟨_, _, _, _, _, ec⟩, T.rep.step (L := Ls) hi O e5 (by rw [ec, eg]; rfl) ehd F hl hout (fun l h => e5 ▸ hL l h) hn, by rw [List.length_set, T.len, eh, List.length_set], fun j h1 c1 q1 q2 => ?_, fun x hx => ?_⟩, fun x hx => ?_⟩
  · rw [eh] at q1
    by_cases hij : i = j
    · subst hij
      rw [List.getElem?_set_self (T.len ▸ hil)] at q1
      rw [List.getElem?_set_self hil] at q2
      cases q1; cases q2
      exact ⟨l', t', w', ec, hw'⟩
    · rw [List.getElem?_set_ne hij] at q1 q2
      exact T.his j h1 c1 q1 q2
  · obtain ⟨f0, f1, f2⟩ := T.fr x hx
    refine ⟨Nat.lt_of_lt_of_le f0 hl, by rw [e5]; exact f1, fun j c1 q1 hm => ?_⟩
    by_cases hij : i = j
    · subst hij
      rw [List.getElem?_set_self hil] at q1
      cases q1
      rcases hn x hm with z | z
      · exact f2 i c hi z
      · exact absurd f0 (Nat.not_lt.mpr z)
    · rw [List.getElem?_set_ne hij] at q1
      exact f2 j c1 q1 hm
  · obtain ⟨f0, f1, f2⟩ := T.fr x hx
    refine hout x f0 fun hm => ?_
    rcases hL x hm with z | z | z
    · exact f1 (e5 ▸ z)
    · exact f2 i c hi z
    · exact absurd f0 (Nat.not_lt.mpr z)
/-- behind the step of a hand at work -/
theorem trep_work (T : TR H L t U g hs) (hi : hs[i]? = some c) (F : Foc H H' (cn L l' t' h'.prog h'.place (wvOf h' l') w')) (hw' : ∀ w, h'.work = some w → w' = w) (eh : t'.hands = t.hands.set i h') (ehd : l'.hd = c.hd)
    (hl : (l'.kp ∈ hlocs c ∧ l'.w ∈ hlocs c) ∨ (H.length ≤ l'.kp ∧ H.length ≤ l'.w)) : TRep H' L t' U ∧ ∀ x, U x → H'[x]? = H[x]? := by
  have sub : ∀ x, x = l'.hd ∨ x = l'.kp ∨ x = l'.w → x ∈ hlocs c ∨ H.length ≤ x := fun x q => by
    rcases q with q | q | q
    · rw [q, ehd]; exact .inl (hd_in c)
    · rw [q]; exact hl.imp (·.1) (·.1)
    · rw [q]; exact hl.imp (·.2) (·.2)
  have hwv : wvOf h' l' = .none ∨ wvOf h' l' = .loc l'.w := by
    unfold wvOf
    split
    · exact .inl rfl
    · exact .inr rfl
  refine trep_step T hi (foc_one F hwv) rfl hw' eh ehd (foc_g F) F.len (fun l a b => F.out l a b) (fun l hm => ?_) fun l hm => ?_
  · rcases mem8 hm with q | q
    · exact .inl q
    · exact .inr (sub l q)
  · rcases hwv with q | q
    · rw [hl_none (c := cn L l' t' h'.prog h'.place (wvOf h' l') w') q] at hm
      exact sub l (.inl (List.mem_singleton.mp hm))
    · rw [hl_loc (c := cn L l' t' h'.prog h'.place (wvOf h' l') w') q] at hm
      exact sub l ((List.mem_cons.mp hm).imp id fun q => (List.mem_cons.mp q).imp id fun q => List.mem_singleton.mp q)
theorem done_is {r : Tw × Option Wk × Td} {told : AV} (D : Done H L l h.prog h.place r told H') : told = tdV r.2.2 ∧ ∃ w', Foc H H' (cn L l r.1 (h.next r.2.1).prog (h.next r.2.1).place (wvOf (h.next r.2.1) l) w') ∧ ∀ w, (h.next r.2.1).work = some w → w' = w := by
  obtain ⟨t1, o, td⟩ := r
  obtain ⟨e, D⟩ := D
  refine ⟨e, ?_⟩
  cases o with
  | some w1 => exact ⟨w1, D, fun w e => Option.some.inj e⟩
  | none => obtain ⟨w1, D⟩ := D; exact ⟨w1, D, fun w e => nomatch e⟩
theorem fst_is (k : Dk) : fst (dkS k) = nxS (firstN k) := by cases k <;> kernel_rfl
/-- a step of a hand at work, whose work is w -/
theorem go_work (n : Nat) {H1 : AHeap} {hd : Nat} {wv : AV} {w : Wk} (T : TR H L t U g hs) (hi : hs[i]? = some c) (A : AllOk k t) (hk : k < 3000) (hn : L.hs[i]? = some (.loc l.hd)) (ehd : l.hd = c.hd)
    (g1 : pItem (.loc L.st) (.str "hands") H = some (.ok (.loc L.lh), H)) (g2 : pItem (.loc L.lh) (.int i) H = some (.ok (.loc hd), H)) (g3 : pItem (.loc hd) (.str "work") H = some (.ok wv, H))
    (g4 : pItem (.loc hd) (.str "place") H = some (.ok (.int h.place), H)) (g5 : pItem (.loc hd) (.str "program") H = some (.ok (.tup (h.prog.map deedV)), H)) (hc : pIsNone wv = false ∨ (h.place : Int) ≠ (h.prog.map deedV).length)
    (hw : callP P16 (n + 4) "work_of" [.loc L.st, .int i] H = some (.ok (.loc l.w), H1)) (F : Foc H H1 (cn L l t h.prog h.place (.loc l.w) w)) (W : WkOk k t.boxes.length t.rows.length w) (hh : t.hands[i]? = some h) (hnow : h.now t.time = some w)
    (hl : (l.kp ∈ hlocs c ∧ l.w ∈ hlocs c) ∨ (H.length ≤ l.kp ∧ H.length ≤ l.w)) :
    Rn (callP P16 (n + 5) "go" [.loc L.st, .int i]) H fun told H' => told = tdV (step t i).2 ∧ TRep H' L (step t i).1 U ∧ ∀ x, U x → H'[x]? = H[x]? := by
  have es : step t i = ({ (op t i h.place w).1 with hands := t.hands.set i (h.next (op t i h.place w).2.1), time := t.time + 1 }, (op t i h.place w).2.2) := by unfold step; rw [hh]; show (match h.now t.time with | none => _ | some w => _) = _; rw [hnow]
  have O := op_wf (i := i) (p := h.place) A.tw W
  refine Rn.mono (s_go (n + 3) (num := i) (G := fun told c2 => told = tdV (op t i h.place w).2.2 ∧ ∃ w', c2 = cn L l (op t i h.place w).1 (h.next (op t i h.place w).2.1).prog (h.next (op t i h.place w).2.1).place (wvOf (h.next (op t i h.place w).2.1) l) w' ∧ ∀ w2, (h.next (op t i h.place w).2.1).work = some w2 → w' = w2)
    (hand := []) (c := cn L l t h.prog h.place (.loc l.w) w) g1 g2 g3 g4 g5 hc (nxS_ok w.next) hw F ((r_op (n + 1) F A.tw hk hn W).mono fun told H2 D => ?_)) fun told H' ⟨c2, F2, e, w', ec, hw'⟩ => ?_
  · obtain ⟨e, w', F', hw'⟩ := done_is D
    exact ⟨cn L l (op t i h.place w).1 (h.next (op t i h.place w).2.1).prog (h.next (op t i h.place w).2.1).place (wvOf (h.next (op t i h.place w).2.1) l) w', rfl, F', e, w', rfl, hw'⟩
  · subst ec
    rw [es]
    have F3 : Foc H H' (cn L l { (op t i h.place w).1 with hands := t.hands.set i (h.next (op t i h.place w).2.1), time := t.time + 1 } (h.next (op t i h.place w).2.1).prog (h.next (op t i h.place w).2.1).place (wvOf (h.next (op t i h.place w).2.1) l) w') := by
      have e2 : ((op t i h.place w).1.time : Int) + 1 = ((t.time + 1 : Nat) : Int) := by rw [O.1.time]; rfl
      have F2' : Foc H H' ((cn L l (op t i h.place w).1 (h.next (op t i h.place w).2.1).prog (h.next (op t i h.place w).2.1).place (wvOf (h.next (op t i h.place w).2.1) l) w').u_time (((op t i h.place w).1.time : Int) + 1)) := F2
      rw [e2] at F2'
      exact F2'
    exact ⟨e, trep_work T hi F3 hw' rfl ehd hl⟩
theorem go_step (n : Nat) (T : TRep H L t U) (A : AllOk k t) (hk : k < 3000) (hi : i < t.hands.length) :
    Rn (callP P16 (n + 5) "go" [.loc L.st, .int i]) H fun told H' => told = tdV (step t i).2 ∧ TRep H' L (step t i).1 U ∧ ∀ x, U x → H'[x]? = H[x]? := by
  obtain ⟨g, hs, T⟩ := T
  have hh := List.getElem?_eq_getElem hi
  have hc := List.getElem?_eq_getElem (T.len ▸ hi : i < hs.length)
  generalize t.hands[i] = h at hh
  generalize hs[i]'(T.len ▸ hi) = c at hc
  obtain ⟨l, t0, w, ec, hwe⟩ := T.his i h c hh hc
  obtain ⟨l0, pr, p, wv, w0, eg⟩ := T.gis
  have hn : L.hs[i]? = some (.loc l.hd) := by
    have := T.rep.hsv
    rw [eg] at this
    rw [show L.hs = hs.map fun h => .loc h.hd from this, List.getElem?_map, hc, ec]; rfl
  have HK := A.hd h (List.mem_of_getElem? hh)
  have O := T.rep.one i c hc
  rw [eg, ec] at O
  have ehd : l.hd = c.hd := by rw [ec]; rfl
  cases hwk : h.work with
  | some w1 =>
    have ew := hwe w1 hwk
    subst ew
    have ev : wvOf h l = .loc l.w := by unfold wvOf; rw [hwk]
    rw [ev] at ec O
    rcases O with ⟨q, _⟩ | ⟨_, F⟩
    · cases q
    · have F : Foc H H (cn L l t h.prog h.place (.loc l.w) w) := F
      obtain ⟨hp, W⟩ := HK.work w hwk
      exact go_work n T hc A hk hn ehd F.gHands (item_loc F.h hn) F.gWork F.gPlace F.gProg (.inl rfl) (s_work_old (n + 3) F hn rfl) F W hh (by unfold Hd.now; rw [hwk])
        (.inl (by rw [ec, hl_loc (c := cn L l t0 h.prog h.place (.loc l.w) w) rfl]; exact ⟨List.mem_cons_of_mem _ List.mem_cons_self, List.mem_cons_of_mem _ (List.mem_cons_of_mem _ List.mem_cons_self)⟩))
  | none =>
    have ev : wvOf h l = .none := by unfold wvOf; rw [hwk]
    rw [ev] at ec O
    rcases O with ⟨_, F⟩ | ⟨q, _⟩
    · have F : Foc0 H H (cn L l t h.prog h.place .none w) := F
      by_cases hp : h.place = h.prog.length
      · have es : step t i = ({ t with time := t.time + 1 }, .rest) := by
          unfold step; rw [hh]; show (match h.now t.time with | none => _ | some w => _) = _
          have : h.now t.time = none := by unfold Hd.now; rw [hwk]; show (h.prog[h.place]?).map _ = none; rw [List.getElem?_eq_none (Nat.le_of_eq hp.symm)]; rfl
          rw [this]
        refine Rn.mono (s_go_rest (n + 4) F (num := i) hn rfl (by show (h.place : Int) = ((h.prog.map deedV).length : Int); rw [List.length_map, hp])) fun told H' ⟨e, F'⟩ => ?_
        rw [es]
        refine ⟨e, trep_step (l' := l) (h' := h) (w' := w) (c' := cn L l { t with time := t.time + 1 } h.prog h.place .none w) (Ls := (cn L l t h.prog h.place .none w).ls0) T hc (.inl ⟨rfl, ⟨F'.all, F'.nd, Nat.le_refl _, fun _ _ _ => rfl⟩⟩) (by rw [ev]) hwe ?_ ehd (foc0_g F') F'.len (fun l a b => F'.out l a b) (fun x hm => ?_) fun x hm => ?_⟩
        · show t.hands = t.hands.set i h
          exact (List.ext_getElem? fun j => by
            by_cases hij : i = j
            · subst hij; rw [List.getElem?_set_self hi, hh]
            · rw [List.getElem?_set_ne hij])
        · rcases mem6 hm with q | q
          · exact .inl q
          · rw [show x = l.hd from q, ehd]; exact .inr (.inl (hd_in c))
        · rw [show x = l.hd from List.mem_singleton.mp hm, ehd]; exact .inl (hd_in c)
      · have hlt : h.place < h.prog.length := Nat.lt_of_le_of_ne HK.place hp
        have hd : (cn L l t h.prog h.place .none w).prog[h.place]? = some (.tup (.str (dkS h.prog[h.place].k) :: dkR h.prog[h.place].k h.prog[h.place].v)) := by
          show (h.prog.map deedV)[h.place]? = _
          rw [List.getElem?_map, List.getElem?_eq_getElem hlt, ← deedK_is]; rfl
        obtain ⟨a, H1, e1, e2, F1⟩ := s_work_new (n + 3) F (num := i) hn rfl rfl hd (dkS_wd _)
        subst e2
        have F2 : Foc H H1 (cn L ⟨l.hd, H.length + 1, H.length⟩ t h.prog h.place (.loc (H.length + 1)) (newW h.prog[h.place] t.time)) := by
          rw [← deedK_is, fst_is] at F1
          exact F1
        exact go_work (l := ⟨l.hd, H.length + 1, H.length⟩) n T hc A hk hn ehd F.gHands (item_loc F.h hn) F.gWork F.gPlace F.gProg (.inr (by rw [List.length_map]; exact fun q => hp (Int.ofNat_inj.mp q))) e1 F2 (newW_ok _) hh (by unfold Hd.now; rw [hwk]; show (h.prog[h.place]?).map _ = _; rw [List.getElem?_eq_getElem hlt]; rfl)
          (.inr ⟨Nat.le_refl _, Nat.le_succ _⟩)
    · cases q
end

end Mine


set_option autoImplicit false
set_option linter.unusedVariables false
set_option maxRecDepth 100000
namespace Mine
open PySem PyProof.Rows

theorem s_mixed (n : Nat) (c k : Int) : callP P16 (n + 1) "_law_mixed" [.int c, .int k] = pure (.int (mixed c k)) := by
  refine callQ (σ := [some (.int c), some (.int k), none]) (by kernel_rfl) (by kernel_rfl) (by kernel_rfl) ?_
  have h := fmod_lt ((c + 7919 * k) * 48271) (b := 2147483647) (by decide)
  rw [c_mixed_0, m_mulL (by decide), pure_bind, m_add, pure_bind, m_mulR (by decide), pure_bind, m_mod (by decide), pure_bind, m_mulL (by omega), pure_bind, m_mod (by decide)]
  rfl

theorem s_cell_at (n : Nat) (ns : List Int) (k : Nat) : callP P16 (n + 2) "_law_cell_at" [.lst (ns.map .int), .int k] = pure (.int (cellAt ns k)) := by
  refine callQ (σ := [some (.lst (ns.map .int)), some (.int k)]) (by kernel_rfl) (by kernel_rfl) (by kernel_rfl) ?_
  rw [c_cell_at_0, e_len_lst, pure_bind, e_lt, pure_bind]
  unfold cellAt
  cases hk : ns[k]? with
  | none =>
    have : ¬ ((k : Int) < (((ns.map AV.int).length : Nat) : Int)) := by rw [List.length_map]; rw [List.getElem?_eq_none_iff] at hk; omega
    rw [decide_eq_false this]
    simp only [pure_bind, e_go_next, c_cell_at_t_1]
  | some c =>
    have hlt := (List.getElem?_eq_some_iff.mp hk).1
    have : ((k : Int) < (((ns.map AV.int).length : Nat) : Int)) := by rw [List.length_map]; omega
    rw [decide_eq_true this]
    have hit : (ns.map AV.int)[k]? = some (.int c) := by rw [List.getElem?_map, hk]; rfl
    simp only [e_item_lst hit, e_eachp, e_each0, pure_bind, s_mixed, e_go_ret]

theorem s_value_by (n : Nat) (c : Int) : callP P16 (n + 1) "_law_value_by" [.int c] = pure (.int (valueBy c)) := by
  refine callQ (σ := [some (.int c)]) (by kernel_rfl) (by kernel_rfl) (by kernel_rfl) ?_
  rw [c_value_by_0, m_mod (by decide), pure_bind, e_eqi, pure_bind]
  unfold valueBy
  by_cases h : c.fmod 4 = 0
  · rw [decide_eq_true h, if_pos h]
    simp only [m_div (i := c) (j := 4) d4, pure_bind, m_mulR (j := 7919) (by decide)]
    rfl
  · rw [decide_eq_false h, if_neg h]
    simp only [pure_bind, e_go_next, c_value_by_t_1, m_div (i := c) (j := 4) d4, m_mod (j := 5) (by decide), m_sub]

theorem deed_is (n : Nat) (k : Dk) (v : Int) : callP P16 (n + 2) "is_deed" [deedK k v] = pure (.bool true) := by
  cases k <;> kernel_rfl

theorem s_start_t (n : Nat) (c m : Int) (hm : 0 ≤ m ∧ m ≤ 60) : ∃ L : List Int, L.length ≤ 60 ∧ tl P16 (callP P16 (n + 1)) "_law_start_by" [] 2 38 [some (.int c), some (.int m)] = pure (.ret (.lst (L.map .int))) := by
  have hb : ∀ a ∈ rangeL 0 m, (do let y2 ← (do let vs4 ← eachM [(do let vs3 ← eachM [(pBin false .FloorDiv (.int c) (.int 8)), pure a]; callP P16 (n + 1) "_law_mixed" vs3)]; callP P16 (n + 1) "_law_value_by" vs4); pure (some y2) : M (Option AV)) = pure (some ((fun a => match a with | .int i => AV.int (valueBy (mixed (c.fdiv 8) i)) | a => a) a)) := by
    intro a ha
    obtain ⟨i, rfl, hi⟩ := mem_rangeL ha
    simp only [m_div (i := c) d8, e_eachp, e_each0, pure_bind, s_mixed, s_value_by]
  refine ⟨(List.range (m - 0).toNat).map fun (k : Nat) => valueBy (mixed (c.fdiv 8) (0 + (k : Int))), ?_, ?_⟩
  · rw [List.length_map, List.length_range]; omega
  · rw [c_start_by_t_2, e_range1, pure_bind, srcOf_range (by omega) (by omega), pure_bind, compM _ (by rw [rangeL_length]; omega) hb, pure_bind, e_newL (by rw [List.length_map, rangeL_length]; have := LIMis; omega), pure_bind]
    unfold rangeL
    rw [List.map_map, List.map_map]
    rfl
theorem s_start_by (n : Nat) (c : Int) : ∃ L : List Int, L.length ≤ 60 ∧ callP P16 (n + 2) "_law_start_by" [.int c] = pure (.lst (L.map .int)) := by
  have h4 := fmod_lt c (b := 4) (by decide)
  have h61 := fmod_lt (c.fdiv 32) (b := 61) (by decide)
  by_cases h : (c.fdiv 4).fmod 8 = 1
  · obtain ⟨L, h1, h2⟩ := s_start_t n c ((c.fdiv 32).fmod 61) (by omega)
    refine ⟨L, h1, callQ (σ := [some (.int c), none]) (by kernel_rfl) (by kernel_rfl) (by kernel_rfl) ?_⟩
    rw [c_start_by_0, m_mod (by decide), pure_bind, m_div d4, pure_bind, m_mod (by decide), pure_bind, e_eqi, pure_bind, decide_eq_true h]
    simp only [m_div (i := c) d32, pure_bind, m_mod (j := 61) (by decide), e_go_next, h2]
  · obtain ⟨L, h1, h2⟩ := s_start_t n c (c.fmod 4) (by omega)
    refine ⟨L, h1, callQ (σ := [some (.int c), none]) (by kernel_rfl) (by kernel_rfl) (by kernel_rfl) ?_⟩
    rw [c_start_by_0, m_mod (by decide), pure_bind, m_div d4, pure_bind, m_mod (by decide), pure_bind, e_eqi, pure_bind, decide_eq_false h]
    simp only [pure_bind, e_go_next, h2]

end Mine


set_option autoImplicit false
set_option linter.unusedVariables false
set_option maxRecDepth 100000
namespace Mine
open PySem PyProof.Rows

noncomputable def Progs (H : AHeap) (lp : Nat) (PL : List Nat) (ps : List (List Deed)) : Prop :=
  H[lp]? = some (.list (PL.map .loc)) ∧ PL.length = ps.length ∧ (∀ (i q : Nat) p, PL[i]? = some q → ps[i]? = some p → H[q]? = some (.list (p.map deedV))) ∧ ∀ p ∈ ps, p.length ≤ 60
theorem s_whole (n : Nat) (i : Int) : callP P16 (n + 1) "is_whole" [.int i] = pure (.bool true) := by
  refine callQ (σ := [some (.int i)]) (by kernel_rfl) (by kernel_rfl) (by kernel_rfl) ?_
  rw [c_is_whole_0]; rfl
theorem kd_in (kd : Kn) : pCmp .NotIn (.str (knS kd)) g_KINDS = pure false := by cases kd <;> kernel_rfl
theorem deed_ok (n : Nat) (d : Deed) : callP P16 (n + 2) "is_deed" [deedV d] = pure (.bool true) := deed_is n d.k d.v
theorem s_need_all (n : Nat) {xs : List Int} {kd : Kn} {H : AHeap} {lp : Nat} {PL : List Nat} {ps : List (List Deed)} (hl : xs.length ≤ 60) (hP : Progs H lp PL ps) (hp : ps.length ≤ 20) :
    Rn (callP P16 (n + 3) "need_all" [.lst (xs.map .int), .loc lp, .str (knS kd)]) H fun _ H' => H' = H := by
  refine callRn (σ := [some (.lst (xs.map .int)), some (.loc lp), some (.str (knS kd)), none, none, none]) (by kernel_rfl) (by kernel_rfl) (by kernel_rfl) ?_
  rw [c_need_all_0, kd_in]
  simp only [pure_bind]
  rw [show pIsi (.str (knS kd)) .str = pure true from rfl]
  simp only [pure_bind, e_truth, Bool.not_true]
  show Rn (tl P16 _ "need_all" [] 1 39 _) _ _
  rw [c_need_all_t_1, e_len_lst, pure_bind, g_MOST_VALUES, e_gt, pure_bind, List.length_map, decide_eq_false (by omega)]
  refine .bind (.pure ?_)
  show Rn (tl P16 _ "need_all" [] 2 38 _) _ _
  rw [c_need_all_t_2, pure_bind, srcOf_lst, pure_bind]
  refine .then (forI (fun k σ H1 => H1 = H ∧ ∃ o1 o2 o3 o4 o5, σ = [o1, some (.loc lp), o2, o3, o4, o5]) (Q := fun r H1 => H1 = H ∧ ∃ o1 o2 o3 o4 o5, r = .next [o1, some (.loc lp), o2, o3, o4, o5]) (by rw [List.length_map]; omega) ⟨rfl, _, _, _, _, _, rfl⟩ ?_ ?_) ?_
  · rintro k a σ H1 ha ⟨rfl, o1, o2, o3, o4, o5, rfl⟩
    obtain ⟨v, _, rfl⟩ := List.mem_map.mp (List.mem_of_getElem? ha)
    rw [c_need_all_for_2, s_whole (n + 1)]
    simp only [pure_bind, e_truth, Bool.not_true]
    exact .pure ⟨rfl, _, _, _, _, _, rfl⟩
  · rintro σ H1 ⟨rfl, o1, o2, o3, o4, o5, rfl⟩
    exact ⟨rfl, _, _, _, _, _, rfl⟩
  rintro r H1 ⟨rfl, o1, o2, o3, o4, o5, rfl⟩
  obtain ⟨hP1, hP2, hP3, hP4⟩ := hP
  rw [e_go_next, c_need_all_t_3]
  refine .bind (.bof (len_loc hP1) ?_)
  rw [g_MOST_PROGRAMS, e_gt, List.length_map, decide_eq_false (by omega)]
  refine .pure (.bind (.pure ?_))
  show Rn (tl P16 _ "need_all" [] 4 36 _) _ _
  rw [c_need_all_t_4, pure_bind]
  refine .bof (srcOf_loc hP1) ?_
  refine .then (forA (xs := PL.map .loc) (fun k σ H2 => H2 = H1 ∧ ∃ o1 o2 o3 o4 o5 o6, σ = [o1, o2, o3, o4, o5, o6]) (Q := fun r H2 => H2 = H1 ∧ ∃ σ, r = .next σ) (by rw [List.length_map]; omega) ⟨rfl, _, _, _, _, _, _, rfl⟩ (fun i σ H2 q => by rw [q.1]; exact hP1) ?_ ?_) ?_
  · rintro k a σ H2 ha ⟨rfl, o1, o2, o3, o4, o5, o6, rfl⟩
    rw [List.getElem?_map, Option.map_eq_some_iff] at ha
    obtain ⟨q, hq, rfl⟩ := ha
    have hkp : k < ps.length := hP2 ▸ (List.getElem?_eq_some_iff.mp hq).1
    have hds := hP3 k q _ hq (List.getElem?_eq_getElem hkp)
    have hdl := hP4 _ (List.getElem_mem hkp)
    generalize ps[k] = p at hds hdl
    rw [c_need_all_for_4]
    refine .bind (.bof (len_loc hds) ?_)
    rw [g_MOST_DEEDS, e_gt, List.length_map, decide_eq_false (by omega)]
    refine .pure (.bind (.pure ?_))
    show Rn (tl P16 _ "need_all" [(4, 0)] 1 34 _) _ _
    rw [c_need_all_t40_1, pure_bind]
    refine .bof (srcOf_loc hds) ?_
    refine .then (forA (xs := p.map deedV) (fun k σ H3 => H3 = H2 ∧ ∃ o1 o2 o3 o4 o5 o6, σ = [o1, o2, o3, o4, o5, o6]) (Q := fun r H3 => H3 = H2 ∧ ∃ o1 o2 o3 o4 o5 o6, r = .next [o1, o2, o3, o4, o5, o6]) (by rw [List.length_map]; omega) ⟨rfl, _, _, _, _, _, _, rfl⟩ (fun i σ H3 q => by rw [q.1]; exact hds) ?_ ?_) ?_
    · rintro k a σ H3 ha ⟨rfl, o1, o2, o3, o4, o5, o6, rfl⟩
      obtain ⟨d, _, rfl⟩ := List.mem_map.mp (List.mem_of_getElem? ha)
      rw [c_need_all_for40_1, deed_ok n]
      simp only [pure_bind, e_truth, Bool.not_true]
      exact .pure ⟨rfl, _, _, _, _, _, _, rfl⟩
    · rintro σ H3 ⟨rfl, o1, o2, o3, o4, o5, o6, rfl⟩
      exact ⟨rfl, _, _, _, _, _, _, rfl⟩
    · rintro r H3 ⟨rfl, o1, o2, o3, o4, o5, o6, rfl⟩
      exact .pure ⟨rfl, _, _, _, _, _, _, rfl⟩
  · rintro σ H2 ⟨rfl, o1, o2, o3, o4, o5, o6, rfl⟩
    exact ⟨rfl, _, rfl⟩
  · rintro r H2 ⟨rfl, σ, rfl⟩
    exact .pure rfl

noncomputable def handD (p : List Deed) : AO := .dict [("program", .tup (p.map deedV)), ("place", .int 0), ("work", .none)]
/-- where a tower's objects lie that was made when n objects stood, b of them before its own -/
noncomputable def ly0 (b n m : Nat) : Ly := ⟨n + 3, b, n + 1, n, n + 2, (List.range m).map fun j => .loc (b + 1 + j)⟩
noncomputable def wk0 : Wk := newW ⟨.pop, 0⟩ 0
noncomputable def cn0 (b n m j : Nat) (t : Tw) (p : List Deed) : Cn := cn (ly0 b n m) ⟨b + 1 + j, 0, 0⟩ t p 0 .none wk0
theorem tail_at {X Y : AHeap} (k : Nat) : (X ++ Y)[X.length + k]? = Y[k]? := by rw [List.getElem?_append_right (Nat.le_add_right _ _), Nat.add_sub_cancel_left]
theorem mapIdx_at {α β : Type} {f : Nat → α → β} {ps : List α} {j : Nat} {y : β} (h : (ps.mapIdx f)[j]? = some y) : ∃ p, ps[j]? = some p ∧ y = f j p := by
  rw [List.getElem?_mapIdx, Option.map_eq_some_iff] at h
  obtain ⟨p, h1, h2⟩ := h
  exact ⟨p, h1, h2.symm⟩
theorem tower_rep {X : AHeap} {b : Nat} {kd : Kn} {xs : List Int} {ps : List (List Deed)} (hb : X[b]? = some (.list ((bx0 xs).map bxV))) (hX : X.length = b + 1 + ps.length) (hh : ∀ j p, ps[j]? = some p → X[b + 1 + j]? = some (handD p)) :
    TRep (X ++ [.list (ly0 b X.length ps.length).hs, .list [], .list [], .dict (cn0 b X.length ps.length 0 (tw0 kd xs ps) []).sD]) (ly0 b X.length ps.length) (tw0 kd xs ps) (fun x => x < b) := by
  have lt : ∀ {l : Nat} {o : AO} {Y : AHeap}, X[l]? = some o → (X ++ Y)[l]? = some o := fun h => by rw [List.getElem?_append_left (List.getElem?_eq_some_iff.mp h).1]; exact h
  have g5 : gl5 (cn0 b X.length ps.length 0 (tw0 kd xs ps) []) = [X.length + 3, b, X.length + 1, X.length, X.length + 2] := rfl
  refine ⟨cn0 b X.length ps.length 0 (tw0 kd xs ps) [], ps.mapIdx fun j p => cn0 b X.length ps.length j (tw0 kd xs ps) p, ⟨⟨_, _, _, _, _, rfl⟩, ⟨?_, fun j c hj => ?_, ?_⟩, by rw [List.length_mapIdx]; exact (List.length_map ..).symm, fun j h c e1 e2 => ?_, fun x hx => ⟨?_, fun hm => ?_, fun j c hj hm => ?_⟩⟩⟩
  · show (List.range ps.length).map (fun j => AV.loc (b + 1 + j)) = (ps.mapIdx fun j p => cn0 b X.length ps.length j (tw0 kd xs ps) p).map fun h => .loc h.hd
    refine List.ext_getElem? fun j => ?_
    rw [List.getElem?_map, List.getElem?_map, List.getElem?_mapIdx]
    by_cases hj : j < ps.length
    · rw [List.getElem?_range hj, List.getElem?_eq_getElem hj]; rfl
    · rw [List.getElem?_eq_none (by rw [List.length_range]; omega), List.getElem?_eq_none (by omega)]; rfl
  · obtain ⟨p, hp, rfl⟩ := mapIdx_at hj
    have hjl := (List.getElem?_eq_some_iff.mp hp).1
    refine .inl ⟨rfl, ⟨fun i l o hi ho => ?_, ?_, Nat.le_refl _, fun _ _ _ => rfl⟩⟩
    · match i, hi, ho with
      | 0, hi, ho => exact Option.some.inj hi ▸ Option.some.inj ho ▸ tail_at 3
      | 1, hi, ho => exact Option.some.inj hi ▸ Option.some.inj ho ▸ lt hb
      | 2, hi, ho => exact Option.some.inj hi ▸ Option.some.inj ho ▸ tail_at 1
      | 3, hi, ho => exact Option.some.inj hi ▸ Option.some.inj ho ▸ tail_at 0
      | 4, hi, ho => exact Option.some.inj hi ▸ Option.some.inj ho ▸ tail_at 2
      | 5, hi, ho => exact Option.some.inj hi ▸ Option.some.inj ho ▸ lt (hh j p hp)
      | i + 6, hi, ho => cases hi
    · show [X.length + 3, b, X.length + 1, X.length, X.length + 2, b + 1 + j].Nodup
      simp only [List.nodup_cons, List.mem_cons, List.not_mem_nil, or_false, not_or, List.nodup_nil, and_true, not_false_eq_true]
      omega
  · refine ⟨fun l => if b + 1 ≤ l ∧ l < b + 1 + ps.length then l - b else 0, fun l hm => if_neg ?_, fun j c hj l hm => ?_⟩
    · rw [g5] at hm
      simp only [List.mem_cons, List.not_mem_nil, or_false] at hm
      omega
    · obtain ⟨p, hp, rfl⟩ := mapIdx_at hj
      have hjl := (List.getElem?_eq_some_iff.mp hp).1
      have e : l = b + 1 + j := List.mem_singleton.mp hm
      show (if _ then _ else _) = _
      rw [if_pos (by omega)]; omega
  · obtain ⟨p, hp, rfl⟩ := mapIdx_at e2
    have e1 : (ps.map fun p => (⟨p, 0, none⟩ : Hd))[j]? = some h := e1
    rw [List.getElem?_map, hp] at e1
    cases e1
    exact ⟨_, _, wk0, rfl, fun w e => nomatch e⟩
  · rw [List.length_append]; omega
  · rw [g5] at hm
    simp only [List.mem_cons, List.not_mem_nil, or_false] at hm
    omega
  · obtain ⟨p, hp, rfl⟩ := mapIdx_at hj
    have e : x = b + 1 + j := List.mem_singleton.mp hm
    omega

end Mine


set_option autoImplicit false
set_option linter.unusedVariables false
set_option maxRecDepth 100000
namespace Mine
open PySem PyProof.Rows

theorem s_tower (n : Nat) {xs : List Int} {kd : Kn} {H : AHeap} {lp : Nat} {PL : List Nat} {ps : List (List Deed)} (hl : xs.length ≤ 60) (hP : Progs H lp PL ps) (hp : ps.length ≤ 20) :
    Rn (callP P16 (n + 4) "tower_of" [.lst (xs.map .int), .loc lp, .str (knS kd)]) H fun a H' => ∃ L, a = .loc L.st ∧ TRep H' L (tw0 kd xs ps) (fun x => x < H.length) ∧ ∀ x, x < H.length → H'[x]? = H[x]? := by
  have hLIM := LIMis
  refine callRn (σ := [some (.lst (xs.map .int)), some (.loc lp), some (.str (knS kd)), none, none, none, none, none, none]) (by kernel_rfl) (by kernel_rfl) (by kernel_rfl) ?_
  rw [c_tower_of_0]
  refine .then (s_need_all n hl hP hp) ?_
  rintro _ H1 rfl
  refine .bof (newT (Nat.zero_le _)) ?_
  rw [pure_bind, listOf_lst, pure_bind, srcOf_lst, pure_bind]
  refine .then (forE (fun k σ H2 => ∃ o1 o2 o3 o4 o5, σ = [some (.lst (xs.map .int)), some (.loc lp), some (.str (knS kd)), some (.loc H1.length), o1, o2, o3, o4, o5] ∧ H2 = H1 ++ [.list (((bx0 xs).take k).map bxV)])
    (Q := fun r H2 => ∃ o1 o2 o3 o4 o5, r = .next [some (.lst (xs.map .int)), some (.loc lp), some (.str (knS kd)), some (.loc H1.length), o1, o2, o3, o4, o5] ∧ H2 = H1 ++ [.list ((bx0 xs).map bxV)]) (by rw [List.length_map]; omega) ⟨_, _, _, _, _, rfl, rfl⟩ ?_ ?_) ?_
  · rintro k a σ H2 ha ⟨o1, o2, o3, o4, o5, rfl, rfl⟩
    rw [List.getElem?_map, Option.map_eq_some_iff] at ha
    obtain ⟨v, hv, rfl⟩ := ha
    have hk : k < xs.length := (List.getElem?_eq_some_iff.mp hv).1
    have hbx := bx0_at hv
    have htk : (bx0 xs).take (k + 1) = (bx0 xs).take k ++ [(v, if k + 1 = xs.length then none else some (k + 1))] := by rw [List.take_add_one, hbx]; rfl
    have tail : ∀ (bl : AV), bl = ixV (if k + 1 = xs.length then none else some (k + 1)) → Rn (tl P16 (callP P16 (n + 3)) "tower_of" [(2, 0)] 2 35 [some (.lst (xs.map .int)), some (.loc lp), some (.str (knS kd)), some (.loc H1.length), some (.int k), some (.int v), some bl, o4, o5]) (H1 ++ [.list (((bx0 xs).take k).map bxV)])
        (Fl (fun σ H2 => ∃ o1 o2 o3 o4 o5, σ = [some (.lst (xs.map .int)), some (.loc lp), some (.str (knS kd)), some (.loc H1.length), o1, o2, o3, o4, o5] ∧ H2 = H1 ++ [.list (((bx0 xs).take (k + 1)).map bxV)])
          fun v H' => ∃ o1 o2 o3 o4 o5, Res.ret v = .next [some (.lst (xs.map .int)), some (.loc lp), some (.str (knS kd)), some (.loc H1.length), o1, o2, o3, o4, o5] ∧ H' = H1 ++ [.list ((bx0 xs).map bxV)]) := by
      rintro bl rfl
      rw [c_tower_of_t20_2]
      refine .bind ?_
      rw [pure_bind]
      refine .bof (listOf_loc app_at) (.of (append_loc app_at (by rw [List.length_map, List.length_take]; omega)) ?_)
      refine .pure ⟨_, _, _, _, _, rfl, ?_⟩
      rw [htk, List.map_append, List.set_append_right _ _ (Nat.le_refl _), Nat.sub_self]; rfl
    rw [c_tower_of_for_2, m_add, pure_bind, e_len_lst, pure_bind, e_eqi, pure_bind, List.length_map]
    by_cases he : k + 1 = xs.length
    · rw [decide_eq_true (by omega)]
      exact .bind (.pure (tail .none (by rw [if_pos he]; rfl)))
    · rw [decide_eq_false (by omega)]
      exact .bind (.pure (tail (.int ((k : Int) + 1)) (by rw [if_neg he]; rfl)))
  · rintro σ H2 ⟨o1, o2, o3, o4, o5, rfl, rfl⟩
    exact ⟨_, _, _, _, _, rfl, by rw [List.length_map, ← bx0_len xs, List.take_length]⟩
  rintro r H2 ⟨o1, o2, o3, o4, o5, rfl, rfl⟩
  obtain ⟨hP1, hP2, hP3, hP4⟩ := hP
  have hlp : lp < H1.length := (List.getElem?_eq_some_iff.mp hP1).1
  have tail : ∀ (hd : AV), hd = ixV (tw0 kd xs ps).head → Rn (tl P16 (callP P16 (n + 3)) "tower_of" [] 5 35 [some (.lst (xs.map .int)), some (.loc lp), some (.str (knS kd)), some (.loc H1.length), o1, o2, o3, some hd, o5]) (H1 ++ [.list ((bx0 xs).map bxV)])
      (Fl (fun _ H' => ∃ L, AV.none = .loc L.st ∧ TRep H' L (tw0 kd xs ps) (fun x => x < H1.length) ∧ ∀ x, x < H1.length → H'[x]? = H1[x]?) fun a H' => ∃ L, a = .loc L.st ∧ TRep H' L (tw0 kd xs ps) (fun x => x < H1.length) ∧ ∀ x, x < H1.length → H'[x]? = H1[x]?) := by
    rintro hd rfl
    have at0 : ∀ {Y : AHeap} {x : Nat} {o : AO}, H1[x]? = some o → (H1 ++ [.list ((bx0 xs).map bxV)] ++ Y)[x]? = some o := fun h => by
      rw [List.append_assoc, List.getElem?_append_left (List.getElem?_eq_some_iff.mp h).1]; exact h
    rw [c_tower_of_t_5, pure_bind]
    refine .bind (.bof (srcOf_loc (l := lp) (xs := PL.map .loc) (by rw [app_lt hlp]; exact hP1)) ?_)
    refine .then (compA (PL.map .loc) (fun i acc H3 => H3 = H1 ++ [.list ((bx0 xs).map bxV)] ++ (ps.take i).map handD ∧ acc = (List.range i).map (fun j => .loc (H1.length + 1 + j))) (by rw [List.length_map]; omega) (fun i acc H3 q => get_loc (by rw [q.1]; exact at0 hP1)) ⟨(List.append_nil _).symm, rfl⟩ ?_) ?_
    · rintro i a acc H3 ha hacc ⟨rfl, rfl⟩
      rw [List.getElem?_map, Option.map_eq_some_iff] at ha
      obtain ⟨q, hq, rfl⟩ := ha
      have hip : i < ps.length := hP2 ▸ (List.getElem?_eq_some_iff.mp hq).1
      have hds := hP3 i q _ hq (List.getElem?_eq_getElem hip)
      refine .bind (.bind ?_)
      refine .eachE (a := .tup (ps[i].map deedV)) (bind_of (seqOf_loc (at0 hds)) rfl) (.eachP (.eachP (.each0 (.of newDT (.pure ⟨_, rfl, ?_, ?_⟩)))))
      · rw [List.take_add_one, List.getElem?_eq_getElem hip, List.map_append, ← List.append_assoc]; rfl
      · rw [List.range_succ, List.map_append]
        congr 1
        show [AV.loc _] = [AV.loc _]
        rw [List.length_append, List.length_append, List.length_map, List.length_take, Nat.min_eq_left (Nat.le_of_lt hip)]; rfl
    · rintro acc H3 ⟨⟨rfl, rfl⟩, hlen⟩
      rw [List.length_map, hP2, List.take_length]
      have hXl : (H1 ++ [AO.list ((bx0 xs).map bxV)] ++ ps.map handD).length = H1.length + 1 + ps.length := by rw [List.length_append, List.length_append, List.length_map]; rfl
      have R := tower_rep (kd := kd) (X := H1 ++ [AO.list ((bx0 xs).map bxV)] ++ ps.map handD) (b := H1.length) (xs := xs) (ps := ps) (by rw [List.append_assoc]; exact tail_at (Y := [AO.list ((bx0 xs).map bxV)] ++ ps.map handD) 0) hXl (fun j p hj => by
        rw [List.append_assoc, Nat.add_assoc, tail_at (Y := [AO.list ((bx0 xs).map bxV)] ++ ps.map handD) (1 + j), Nat.add_comm 1 j]
        show (ps.map handD)[j]? = _
        rw [List.getElem?_map, hj]; rfl)
      refine .of (newT (by rw [List.length_map, List.length_range]; omega)) ?_
      refine .bind (.bind (.eachP (.eachP (.eachP (.eachP (.eachE (newT (Nat.zero_le _)) (.eachP (.eachP (.eachE (newT (Nat.zero_le _)) (.each0 (.of newDT (.pure ?_))))))))))))
      have hXp : ∀ x, x < H1.length → (H1 ++ [AO.list ((bx0 xs).map bxV)] ++ ps.map handD)[x]? = H1[x]? := fun x hx => by rw [List.append_assoc, List.getElem?_append_left hx]
      generalize H1 ++ [AO.list ((bx0 xs).map bxV)] ++ ps.map handD = X at R hXl hXp ⊢
      have e1 : ∀ {a : AO}, (X ++ [a]).length = X.length + 1 := List.length_append ..
      have e2 : ∀ {a b : AO}, (X ++ [a] ++ [b]).length = X.length + 2 := fun {a b} => by rw [List.length_append, e1]; rfl
      have e3 : ∀ {a b c : AO}, (X ++ [a] ++ [b] ++ [c]).length = X.length + 3 := fun {a b c} => by rw [List.length_append, e2]; rfl
      refine ⟨ly0 H1.length X.length ps.length, congrArg AV.loc e3, ?_, fun x hx => ?_⟩
      · rw [e1, e2, List.append_assoc, List.append_assoc, List.append_assoc]
        exact R
      · rw [List.append_assoc, List.append_assoc, List.append_assoc, List.getElem?_append_left (by omega)]
        exact hXp x hx
  rw [e_go_next, c_tower_of_t_3, e_len_lst, pure_bind, e_gt, pure_bind, List.length_map]
  by_cases h0' : xs.length = 0
  · rw [decide_eq_false (by omega)]
    exact .bind (.pure (tail .none (by show _ = ixV (if xs.length = 0 then none else some 0); rw [if_pos h0']; rfl)))
  · rw [decide_eq_true (by omega)]
    exact .bind (.pure (tail (.int 0) (by show _ = ixV (if xs.length = 0 then none else some 0); rw [if_neg h0']; rfl)))
theorem TRep.reads {H : AHeap} {L : Ly} {t : Tw} {U : Nat → Prop} (T : TRep H L t U) (h : 0 < t.hands.length) : ∃ l pr p wv w, H[L.st]? = some (.dict (cn L l t pr p wv w).sD) ∧ H[L.lh]? = some (.list L.hs) ∧ L.hs.length = t.hands.length ∧ H[L.lb]? = some (.list (t.boxes.map bxV)) ∧ H[L.lr]? = some (.list (t.rows.map rwV)) := by
  obtain ⟨g, hs, T⟩ := T
  obtain ⟨l, pr, p, wv, w, eg⟩ := T.gis
  obtain ⟨c, hc⟩ : ∃ c, hs[0]? = some c := ⟨_, List.getElem?_eq_getElem (T.len ▸ h : 0 < hs.length)⟩
  have O := T.rep.one 0 c hc
  have hl : L.hs.length = t.hands.length := by
    have := T.rep.hsv
    rw [eg] at this
    rw [show L.hs = hs.map fun h => .loc h.hd from this, List.length_map, T.len]
  rw [eg] at O
  refine ⟨l, pr, p, wv, w, ?_⟩
  rcases O with ⟨_, F⟩ | ⟨_, F⟩
  · exact ⟨F.s, F.h, hl, F.all 1 _ _ rfl rfl, F.all 4 _ _ rfl rfl⟩
  · exact ⟨F.s, F.h, hl, F.b, F.r⟩
theorem s_need_hand (n : Nat) {H : AHeap} {c : Cn} {i : Nat} (h1 : H[c.st]? = some (.dict c.sD)) (h2 : H[c.lh]? = some (.list c.hs)) (hi : i < c.hs.length) :
    callP P16 (n + 2) "need_hand" [.loc c.st, .int i] H = some (.ok .none, H) := by
  refine callN (σ := [some (.loc c.st), some (.int i)]) (σ' := [some (.loc c.st), some (.int i)]) (by kernel_rfl) (by kernel_rfl) (by kernel_rfl) ?_
  rw [c_need_hand_0, s_whole n]
  simp only [pure_bind, e_truth, Bool.not_true]
  rw [e_le, decide_eq_true (by omega)]
  simp only [pure_bind]
  refine Rn.val (.bind (.bind (.bind (.bind (.bind (.eachE (dItem (v := .loc c.lh) h1 (by kernel_rfl)) (.each0 (.of (len_loc h2) ?_))))))))
  rw [e_lt, decide_eq_true (by omega)]
  exact .pure (.pure (.pure (.pure ⟨rfl, rfl⟩)))
theorem s_woven (n : Nat) {xs : List Int} {W : List Nat} {kd : Kn} {H : AHeap} {lp lw : Nat} {PL : List Nat} {ps : List (List Deed)} (hl : xs.length ≤ 60) (hP : Progs H lp PL ps) (hp : 1 ≤ ps.length ∧ ps.length ≤ 20) (hw : H[lw]? = some (.list (W.map natV))) (hW : ∀ i ∈ W, i < ps.length) (hWl : W.length ≤ 2000) :
    Rn (callP P16 (n + 6) "woven" [.lst (xs.map .int), .loc lp, .loc lw, .str (knS kd)]) H fun a H' => ∃ L, a = .tup [.loc L.st, .lst ((tolds (tw0 kd xs ps) W).map tdV)] ∧ TRep H' L (run (tw0 kd xs ps) W) (fun x => x < H.length) ∧ ∀ x, x < H.length → H'[x]? = H[x]? := by
  have hLIM := LIMis
  have hlw : lw < H.length := (List.getElem?_eq_some_iff.mp hw).1
  have A0 := tw0_ok (kd := kd) (ps := ps) hl
  have hh0 : (tw0 kd xs ps).hands.length = ps.length := List.length_map ..
  refine callRn (σ := [some (.lst (xs.map .int)), some (.loc lp), some (.loc lw), some (.str (knS kd)), none, none, none]) (by kernel_rfl) (by kernel_rfl) (by kernel_rfl) ?_
  rw [c_woven_0]
  refine .then (s_tower (n + 1) hl hP hp.2) ?_
  rintro a H1 ⟨L, rfl, T, hfr⟩
  have hw1 : H1[lw]? = some (.list (W.map natV)) := (hfr lw hlw).trans hw
  obtain ⟨l, pr, p, wv, w, rs, rh, rl, _⟩ := T.reads (by rw [hh0]; exact hp.1)
  refine .bind (.bof (len_loc hw1) ?_)
  rw [g_MOST_STEPS, e_gt, List.length_map, decide_eq_false (by omega)]
  refine .pure (.bind (.pure ?_))
  show Rn (tl P16 _ "woven" [] 2 38 _) _ _
  rw [c_woven_t_2, pure_bind]
  refine .bof (srcOf_loc hw1) ?_
  refine .then (forA (xs := W.map natV) (fun k σ H2 => H2 = H1 ∧ ∃ o1 o2 o3 o4 o5, σ = [o1, o2, some (.loc lw), o3, some (.loc L.st), o4, o5]) (Q := fun r H2 => H2 = H1 ∧ ∃ o1 o2 o3 o4 o5, r = .next [o1, o2, some (.loc lw), o3, some (.loc L.st), o4, o5]) (by rw [List.length_map]; omega) ⟨rfl, _, _, _, _, _, rfl⟩ (fun i σ H3 q => by rw [q.1]; exact hw1) ?_ ?_) ?_
  · rintro k a σ H2 ha ⟨rfl, o1, o2, o3, o4, o5, rfl⟩
    obtain ⟨i, hi, rfl⟩ := List.mem_map.mp (List.mem_of_getElem? ha)
    rw [c_woven_for_2]
    exact .bof (s_need_hand (n + 3) (c := cn L l (tw0 kd xs ps) pr p wv w) rs rh (by show i < L.hs.length; rw [rl, hh0]; exact hW i hi)) (.pure ⟨rfl, _, _, _, _, _, rfl⟩)
  · rintro σ H2 ⟨rfl, o1, o2, o3, o4, o5, rfl⟩
    exact ⟨rfl, _, _, _, _, _, rfl⟩
  rintro r H2 ⟨rfl, o1, o2, o3, o4, o5, rfl⟩
  rw [e_go_next, c_woven_t_3, pure_bind]
  refine .bind (.bof (srcOf_loc hw1) ?_)
  refine .then (compA (W.map natV) (fun i acc H3 => acc = (tolds (tw0 kd xs ps) (W.take i)).map tdV ∧ TRep H3 L (run (tw0 kd xs ps) (W.take i)) (fun x => x < H.length) ∧ ∀ x, x < H.length → H3[x]? = H2[x]?) (by rw [List.length_map]; omega) (fun i acc H3 q => get_loc ((q.2.2 lw hlw).trans hw1)) ⟨rfl, T, fun _ _ => rfl⟩ ?_) ?_
  · rintro i a acc H3 ha hacc ⟨rfl, T3, hf3⟩
    rw [List.getElem?_map, Option.map_eq_some_iff] at ha
    obtain ⟨x, hx, rfl⟩ := ha
    have hi : i < W.length := (List.getElem?_eq_some_iff.mp hx).1
    have A3 := run_ok (W.take i) A0
    rw [List.length_take, Nat.min_eq_left (Nat.le_of_lt hi), Nat.zero_add] at A3
    have htk : W.take (i + 1) = W.take i ++ [x] := by rw [List.take_add_one, hx]; rfl
    refine .then (go_step n T3 A3 (by omega) (by rw [run_hands _ _ A0, hh0]; exact hW x (List.mem_of_getElem? hx))) ?_
    rintro told H4 ⟨rfl, T4, hf4⟩
    rw [htk, tolds_snoc, run_snoc, List.map_append]
    exact .pure ⟨_, rfl, rfl, T4, fun y hy => (hf4 y hy).trans (hf3 y hy)⟩
  · rintro steps H3 ⟨⟨rfl, T3, hf3⟩, hlen⟩
    rw [List.length_map] at T3 hlen ⊢
    rw [List.take_length] at T3 ⊢
    rw [e_newL (by rw [List.length_map, tolds_len]; omega)]
    exact .pure (.pure ⟨L, rfl, T3, fun x hx => (hf3 x hx).trans (hfr x hx)⟩)

end Mine


set_option autoImplicit false
set_option linter.unusedVariables false
set_option maxRecDepth 100000
namespace Mine
open PySem PyProof.Rows

noncomputable def Lf (a : AV) : Prop := a = .none ∨ (∃ i, a = .int i) ∨ (∃ s, a = .str s ∧ PyData.strOk s = true) ∨ ∃ b, a = .bool b
theorem Lf.ne {a : AV} (h : Lf a) : pCmp .NotEq a a = pure false := by
  rcases h with rfl | ⟨i, rfl⟩ | ⟨s, rfl, hs⟩ | ⟨b, rfl⟩
  · kernel_rfl
  · rw [e_nei, decide_eq_true rfl]; rfl
  · show (do let r ← pCmp .Eq (.str s) (.str s); pure (!r)) = _
    rw [e_eqs hs hs, decide_eq_true rfl]; rfl
  · rw [e_neb, bne_self_eq_false]
theorem Lf.rd {a : AV} (h : Lf a) (H : AHeap) (n : Nat) : ∃ d, rd H n a = some d := by
  rcases h with rfl | ⟨i, rfl⟩ | ⟨s, rfl, hs⟩ | ⟨b, rfl⟩
  · exact ⟨_, by unfold Mine.rd; rfl⟩
  · exact ⟨_, rd_int⟩
  · exact ⟨_, by unfold Mine.rd; rw [if_pos hs]⟩
  · exact ⟨_, by unfold Mine.rd; rfl⟩
/-- a tuple or a list of xs -/
noncomputable def Sq (H : AHeap) : Bool → AV → List AV → Prop
  | true, a, xs => a = .tup xs
  | false, a, xs => a = .lst xs ∨ ∃ l, a = .loc l ∧ H[l]? = some (.list xs)
noncomputable def SmL (P : Nat → AV × AV → Prop) : Nat → List (AV × AV) → Prop
  | c, [] => c = 0
  | c, p :: r => ∃ a b, c = a + b ∧ P a p ∧ SmL P b r
/-- the same data, n levels deep at most, of size c -/
noncomputable def Sm (H : AHeap) : Nat → Nat → AV × AV → Prop
  | 0, c, p => c = 1 ∧ Lf p.1 ∧ p.2 = p.1
  | n + 1, c, p => (c = 1 ∧ Lf p.1 ∧ p.2 = p.1) ∨ ∃ k xs ys d, Sq H k p.1 xs ∧ Sq H k p.2 ys ∧ xs.length = ys.length ∧ c = d + 1 ∧ SmL (Sm H n) d (xs.zip ys)
theorem SmL.mono {P Q : Nat → AV × AV → Prop} (h : ∀ c p, P c p → Q c p) : ∀ {l : List (AV × AV)} {c : Nat}, SmL P c l → SmL Q c l
  | [], _, e => e
  | p :: r, c, ⟨a, b, e, h1, h2⟩ => ⟨a, b, e, h a p h1, h2.mono h⟩
theorem SmL.app {P : Nat → AV × AV → Prop} : ∀ {l r : List (AV × AV)} {c d : Nat}, SmL P c l → SmL P d r → SmL P (c + d) (l ++ r)
  | [], r, c, d, e, h => by
    have e : c = 0 := e
    rw [e, Nat.zero_add]; exact h
  | p :: l, r, c, d, ⟨a, b, e, h1, h2⟩, h => ⟨a, b + d, by rw [e, Nat.add_assoc], h1, h2.app h⟩
theorem SmL.snoc {P : Nat → AV × AV → Prop} {p : AV × AV} : ∀ {l : List (AV × AV)} {c : Nat}, SmL P c (l ++ [p]) → ∃ a b, c = a + b ∧ SmL P a l ∧ P b p
  | [], c, ⟨a, b, e, h1, h2⟩ => ⟨0, a, by rw [e, show b = 0 from h2, Nat.zero_add]; rfl, rfl, h1⟩
  | q :: l, c, ⟨a, b, e, h1, h2⟩ => let ⟨a', b', e', h3, h4⟩ := SmL.snoc h2; ⟨a + a', b', by rw [e, e', Nat.add_assoc], ⟨a, a', rfl, h1, h3⟩, h4⟩
theorem SmL.len {P : Nat → AV × AV → Prop} (h : ∀ c p, P c p → 1 ≤ c) : ∀ {l : List (AV × AV)} {c : Nat}, SmL P c l → l.length ≤ c
  | [], _, _ => Nat.zero_le _
  | p :: r, c, ⟨a, b, e, h1, h2⟩ => by rw [e, Nat.add_comm]; exact Nat.add_le_add (h2.len h) (h a p h1)
theorem SmL.mem {P : Nat → AV × AV → Prop} : ∀ {l : List (AV × AV)} {c : Nat}, SmL P c l → ∀ p ∈ l, ∃ a, P a p
  | q :: r, c, ⟨a, b, e, h1, h2⟩, p, hp => (List.mem_cons.mp hp).elim (fun e => e ▸ ⟨a, h1⟩) (h2.mem p)
theorem Sm.elim {H : AHeap} {n c : Nat} {p : AV × AV} {T : Prop} (h : Sm H n c p) (h1 : c = 1 → Lf p.1 → p.2 = p.1 → T) (h2 : ∀ m k xs ys d, n = m + 1 → Sq H k p.1 xs → Sq H k p.2 ys → xs.length = ys.length → c = d + 1 → SmL (Sm H m) d (xs.zip ys) → T) : T := by
  cases n with
  | zero => exact h1 h.1 h.2.1 h.2.2
  | succ n =>
    rcases h with h | ⟨k, xs, ys, d, q1, q2, q3, q4, q5⟩
    · exact h1 h.1 h.2.1 h.2.2
    · exact h2 n k xs ys d rfl q1 q2 q3 q4 q5
theorem Sm.up {H : AHeap} {n : Nat} : ∀ {c : Nat} {p : AV × AV}, Sm H n c p → Sm H (n + 1) c p := by
  induction n with
  | zero => exact fun h => .inl h
  | succ n ih => exact fun h => h.elim (fun q1 q2 q3 => .inl ⟨q1, q2, q3⟩) fun m k xs ys d e q1 q2 q3 q4 q5 => by cases e; exact .inr ⟨k, xs, ys, d, q1, q2, q3, q4, q5.mono fun _ _ h => ih h⟩
theorem Sm.pos {H : AHeap} {n c : Nat} {p : AV × AV} (h : Sm H n c p) : 1 ≤ c := h.elim (fun e _ _ => Nat.le_of_eq e.symm) fun _ _ _ _ _ _ _ _ _ e _ => e ▸ Nat.succ_le_succ (Nat.zero_le _)
theorem Sq.elim {H : AHeap} {T : Bool → AV → List AV → Prop} (h1 : ∀ xs, T true (.tup xs) xs) (h2 : ∀ xs, T false (.lst xs) xs) (h3 : ∀ l xs, H[l]? = some (.list xs) → T false (.loc l) xs) : ∀ {k : Bool} {a : AV} {xs : List AV}, Sq H k a xs → T k a xs
  | true, _, xs, rfl => h1 xs
  | false, _, xs, .inl rfl => h2 xs
  | false, _, xs, .inr ⟨l, rfl, h⟩ => h3 l xs h
theorem Sq.app {H X : AHeap} {k : Bool} {a : AV} {xs : List AV} (h : Sq H k a xs) : Sq (H ++ X) k a xs :=
  Sq.elim (T := fun k a xs => Sq (H ++ X) k a xs) (fun _ => rfl) (fun _ => .inl rfl) (fun l _ h => .inr ⟨l, rfl, by rw [List.getElem?_append_left (List.getElem?_eq_some_iff.mp h).1]; exact h⟩) h
theorem Sq.rd {H : AHeap} {n : Nat} {k : Bool} {a : AV} {xs : List AV} (q : Sq H k a xs) (h : ∀ x ∈ xs, ∃ d, rd H n x = some d) : ∃ d, rd H (n + 1) a = some d := by
  obtain ⟨ds, h1, _⟩ := mapM_ok (f := Mine.rd H n) h
  refine Sq.elim (T := fun k a xs => xs.mapM (Mine.rd H n) = some ds → ∃ d, Mine.rd H (n + 1) a = some d) (fun xs h1 => ⟨.tuple ds, ?_⟩) (fun xs h1 => ⟨.list ds, ?_⟩) (fun l xs hl h1 => ⟨.list ds, ?_⟩) q h1
  · unfold Mine.rd; rw [h1]; rfl
  · unfold Mine.rd; rw [h1]; rfl
  · unfold Mine.rd; simp only [hl, h1]; rfl
theorem zip_l {xs ys : List AV} (hl : xs.length = ys.length) {x : AV} (hx : x ∈ xs) : ∃ y, (x, y) ∈ xs.zip ys := by
  obtain ⟨i, hi⟩ := List.mem_iff_getElem?.mp hx
  have h1 := (List.getElem?_eq_some_iff.mp hi).1
  exact ⟨ys[i]'(hl ▸ h1), List.mem_iff_getElem?.mpr ⟨i, by rw [List.getElem?_zip_eq_some]; exact ⟨hi, List.getElem?_eq_getElem _⟩⟩⟩
theorem zip_r {xs ys : List AV} (hl : xs.length = ys.length) {y : AV} (hy : y ∈ ys) : ∃ x, (x, y) ∈ xs.zip ys := by
  obtain ⟨i, hi⟩ := List.mem_iff_getElem?.mp hy
  have h1 := (List.getElem?_eq_some_iff.mp hi).1
  exact ⟨xs[i]'(hl ▸ h1), List.mem_iff_getElem?.mpr ⟨i, by rw [List.getElem?_zip_eq_some]; exact ⟨List.getElem?_eq_getElem _, hi⟩⟩⟩
theorem Sm.rd {H X : AHeap} {n : Nat} : ∀ {c : Nat} {p : AV × AV}, Sm H n c p → (∃ d, rd (H ++ X) n p.1 = some d) ∧ ∃ d, rd (H ++ X) n p.2 = some d := by
  have lf : ∀ {c n : Nat} {p : AV × AV}, c = 1 → Lf p.1 → p.2 = p.1 → (∃ d, Mine.rd (H ++ X) n p.1 = some d) ∧ ∃ d, Mine.rd (H ++ X) n p.2 = some d := fun _ h e => ⟨h.rd _ _, e ▸ h.rd _ _⟩
  induction n with
  | zero => exact fun h => h.elim lf fun _ _ _ _ _ e => nomatch e
  | succ n ih =>
    intro c p h
    refine h.elim lf fun m k xs ys d e h1 h2 h3 h4 h5 => ?_
    cases e
    refine ⟨h1.app.rd fun x hx => ?_, h2.app.rd fun y hy => ?_⟩
    · obtain ⟨y, hy⟩ := zip_l h3 hx
      obtain ⟨a, h⟩ := h5.mem _ hy
      exact (ih h).1
    · obtain ⟨x, hx⟩ := zip_r h3 hy
      obtain ⟨a, h⟩ := h5.mem _ hx
      exact (ih h).2
theorem rd_pr {H : AHeap} {n : Nat} {p : AV × AV} (h1 : ∃ d, rd H n p.1 = some d) (h2 : ∃ d, rd H n p.2 = some d) : ∃ d, rd H (n + 1) (prV p) = some d := by
  obtain ⟨d, h1⟩ := h1
  obtain ⟨e, h2⟩ := h2
  exact ⟨.tuple [d, e], by unfold prV rd; simp only [List.mapM_cons, List.mapM_nil, h1, h2]; rfl⟩
theorem Sq.isTL {H : AHeap} {k : Bool} {a : AV} {xs : List AV} (h : Sq H k a xs) : pIsiTL a H = some (.ok true, H) :=
  Sq.elim (T := fun _ a _ => pIsiTL a H = some (.ok true, H)) (fun _ => rfl) (fun _ => rfl) (fun _ _ h => bind_of (listOf_loc h) rfl) h
theorem Sq.isT {H : AHeap} {k : Bool} {a : AV} {xs : List AV} (h : Sq H k a xs) : pIsi a .tuple H = some (.ok k, H) :=
  Sq.elim (T := fun k a _ => pIsi a .tuple H = some (.ok k, H)) (fun _ => rfl) (fun _ => rfl) (fun _ _ h => bind_of (listOf_loc h) rfl) h
theorem Sq.isL {H : AHeap} {k : Bool} {a : AV} {xs : List AV} (h : Sq H k a xs) : pIsi a .list H = some (.ok !k, H) :=
  Sq.elim (T := fun k a _ => pIsi a .list H = some (.ok !k, H)) (fun _ => rfl) (fun _ => rfl) (fun _ _ h => bind_of (listOf_loc h) rfl) h
theorem Sq.len {H : AHeap} {k : Bool} {a : AV} {xs : List AV} (h : Sq H k a xs) : pBI false .len [a] H = some (.ok (.int xs.length), H) :=
  Sq.elim (T := fun _ a xs => pBI false .len [a] H = some (.ok (.int xs.length), H)) (fun _ => rfl) (fun _ => rfl) (fun _ _ h => len_loc h) h
theorem Sq.seq {H : AHeap} {k : Bool} {a : AV} {xs : List AV} (h : Sq H k a xs) : seqOf a H = some (.ok xs, H) ∧ isTp a = k :=
  Sq.elim (T := fun k a xs => seqOf a H = some (.ok xs, H) ∧ isTp a = k) (fun _ => ⟨rfl, rfl⟩) (fun _ => ⟨rfl, rfl⟩) (fun _ _ h => ⟨seqOf_loc h, rfl⟩) h
theorem Sq.zip {H : AHeap} {k : Bool} {x y : AV} {xs ys : List AV} (hx : Sq H k x xs) (hy : Sq H k y ys) (hl : xs.length = ys.length) (hz : xs.length ≤ LIM) : pZipL false [x, y] H = some (.ok (.lst ((xs.zip ys).map prV)), H) := by
  refine bind_of hx.seq.1 (bind_of hy.seq.1 ?_)
  rw [hx.seq.2, hy.seq.2, decide_eq_true hl, zip_map, beq_self_eq_true, Bool.and_self, if_pos rfl, e_newL (by rw [List.length_map, List.length_zip]; omega)]; rfl
theorem leaf_turn (cf : Str → List AV → M AV) {H : AHeap} {l : Nat} {rest : List AV} {a : AV} {o1 o2 o3 : Option AV} (h : H[l]? = some (.list (rest ++ [prV (a, a)]))) (ha : Lf a) :
    Rn (whileB P16 cf "_law_alike" [] 1 38 [o1, o2, some (.loc l), o3]) H fun r H' => r = .next [o1, o2, some (.loc l), some (prV (a, a))] ∧ H' = H.set l (.list rest) := by
  have nn := ha.ne
  rw [c_alike_while_1b]
  simp only [pure_bind]
  refine .bind (.bof (listOf_loc h) (.of (pop_last h) ?_))
  rcases ha with rfl | ⟨i, rfl⟩ | ⟨s, rfl, hs⟩ | ⟨b, rfl⟩
  · exact .eq (by kernel_rfl) ⟨rfl, rfl⟩
  · simp only [prV, e_it0, e_it1, pure_bind, show pIsiTL (.int i) = pure false from rfl, e_truth, e_isN, pIsNone, show pIsi (.int i) .bool = pure false from rfl, show pIsi (.int i) .str = pure false from rfl, e_neb, nn, bne_self_eq_false, e_go_next]
    exact .pure ⟨rfl, rfl⟩
  · simp only [prV, e_it0, e_it1, pure_bind, show pIsiTL (.str s) = pure false from rfl, e_truth, e_isN, pIsNone, show pIsi (.str s) .bool = pure false from rfl, show pIsi (.str s) .str = pure true from rfl, e_neb, nn, bne_self_eq_false, e_go_next]
    exact .pure ⟨rfl, rfl⟩
  · cases b <;> exact .eq (by kernel_rfl) ⟨rfl, rfl⟩
theorem seq_turn (cf : Str → List AV → M AV) {H : AHeap} {l : Nat} {rest : List AV} {x y : AV} {xs ys : List AV} {k : Bool} {o1 o2 o3 : Option AV} (h : H[l]? = some (.list (rest ++ [prV (x, y)]))) (hx : Sq (H.set l (.list rest)) k x xs) (hy : Sq (H.set l (.list rest)) k y ys) (hl : xs.length = ys.length) (hL : rest.length + xs.length ≤ LIM) :
    Rn (whileB P16 cf "_law_alike" [] 1 38 [o1, o2, some (.loc l), o3]) H fun r H' => r = .next [o1, o2, some (.loc H.length), some (prV (x, y))] ∧ H' = H.set l (.list rest) ++ [.list (rest ++ (xs.zip ys).map prV)] := by
  have hlt : l < H.length := (List.getElem?_eq_some_iff.mp h).1
  have hs : (H.set l (.list rest))[l]? = some (.list rest) := List.getElem?_set_self hlt
  have hlen : (H.set l (.list rest)).length = H.length := List.length_set ..
  rw [c_alike_while_1b]
  simp only [pure_bind]
  refine .bind (.bof (listOf_loc h) (.of (pop_last h) ?_))
  generalize H.set l (.list rest) = G at hx hy hs hlen ⊢
  simp only [prV, e_it0, e_it1, pure_bind]
  refine .bind (.bind (.bof hy.isTL (.pure (.eq e_truth ?_))))
  refine .bind (.bind (.bind (.bof hx.isT (.pure (.bind (.bof hy.isT (.pure (.eq ((e_neb k k).trans (by rw [bne_self_eq_false])) ?_))))))))
  simp only [e_go_next, c_alike_t10_10_1, e_it0, e_it1, pure_bind, e_eachp, e_each0]
  refine .bind (.bind (.bind (.bof hx.isL (.pure (.bind (.bof hy.isL (.pure (.eq ((e_neb (!k) (!k)).trans (by rw [bne_self_eq_false])) ?_))))))))
  refine .bind (.bof hx.len (.bof hy.len (.eq (e_nei.trans (by rw [hl, decide_eq_true rfl, Bool.not_true])) ?_)))
  refine .pure ?_
  simp only [e_go_next, c_alike_t10_10_2, e_it0, e_it1, pure_bind, e_eachp, e_each0]
  refine .bind (.bof (hx.zip hy hl (Nat.le_trans (Nat.le_add_left _ _) hL)) (.of (add_loc hs (by rw [List.length_map, List.length_zip, ← hl, Nat.min_self]; exact hL)) ?_))
  rw [hlen]
  exact .pure (.pure ⟨rfl, rfl⟩)
theorem s_like (n : Nat) (H : AHeap) {a b : AV} {c : Nat} (h : Sm H 5 c (a, b)) (hc : c < 100000) : Rn (callP P16 (n + 1) "_law_alike" [a, b]) H fun r H' => r = .bool true ∧ ∃ X, H' = H ++ X := by
  have hL := LIMis
  refine callRn (σ := [some a, some b, none, none]) (by kernel_rfl) (by kernel_rfl) (by kernel_rfl) ?_
  rw [c_alike_0]
  refine .bof (newT (by show 1 ≤ LIM; omega)) ?_
  refine .then (whR c (fun m σ H2 => ∃ o1 o2 o3 l X rest, σ = [o1, o2, some (.loc l), o3] ∧ H2 = H ++ X ∧ H.length ≤ l ∧ H2[l]? = some (.list (rest.map prV)) ∧ SmL (Sm H 5) m rest ∧ m < 100000)
    (Q := fun r H2 => ∃ σ, r = .next σ ∧ ∃ o1 o2 o3 o4 X, σ = [o1, o2, o3, o4] ∧ H2 = H ++ X) hc ?_ ?_) ?_
  · exact ⟨_, _, _, H.length, _, [(a, b)], rfl, rfl, Nat.le_refl _, app_at, ⟨c, 0, rfl, h, rfl⟩, hc⟩
  · rintro m σ H2 ⟨o1, o2, o3, l, X, rest, rfl, rfl, hl, h1, h2, h3⟩
    rw [c_alike_while_1t, e_newL (Nat.zero_le _), pure_bind]
    refine .of (ne_nil_loc h1 fun x hx => ?_) ?_
    · obtain ⟨p, hp, rfl⟩ := List.mem_map.mp hx
      obtain ⟨a, q⟩ := h2.mem p hp
      exact rd_pr q.up.rd.1 q.up.rd.2
    rcases List.eq_nil_or_concat rest with rfl | ⟨r, p, rfl⟩
    · exact .inl ⟨rfl, _, rfl, _, _, _, _, X, rfl, rfl⟩
    rw [List.concat_eq_append] at h1 h2 ⊢
    rw [List.map_append] at h1
    obtain ⟨u, v, rfl, h4, h5⟩ := h2.snoc
    have hr := h4.len fun _ _ q => q.pos
    refine .inr ⟨by rw [List.map_append]; cases r.map prV <;> rfl, ?_⟩
    obtain ⟨x, y⟩ := p
    rcases h5 with ⟨rfl, lf, e⟩ | ⟨k, xs, ys, d, sx, sy, hxy, rfl, hd⟩
    · have e : y = x := e
      subst e
      refine (leaf_turn _ h1 lf).mono ?_
      rintro _ _ ⟨rfl, rfl⟩
      exact ⟨u, Nat.lt_succ_self u, _, _, _, l, _, r, rfl, set_far hl, hl, List.getElem?_set_self (List.getElem?_eq_some_iff.mp h1).1, h4, by omega⟩
    · have hz := hd.len fun _ _ q => q.pos
      rw [List.length_zip, ← hxy, Nat.min_self] at hz
      refine (seq_turn _ (k := k) (xs := xs) (ys := ys) h1 (set_far hl ▸ sx.app) (set_far hl ▸ sy.app) hxy (by rw [List.length_map]; omega)).mono ?_
      rintro _ _ ⟨rfl, rfl⟩
      refine ⟨u + d, by omega, _, _, _, (H ++ X).length, _, r ++ xs.zip ys, rfl, by rw [set_far hl, List.append_assoc], by rw [List.length_append]; exact Nat.le_add_right _ _, ?_, h4.app (hd.mono fun _ _ q => q.up), by omega⟩
      have := app_at (H := (H ++ X).set l (.list (r.map prV))) (o := .list (r.map prV ++ (xs.zip ys).map prV))
      rw [List.length_set] at this
      rw [List.map_append]
      exact this
  · rintro r H2 ⟨σ, rfl, o1, o2, o3, o4, X, rfl, rfl⟩
    rw [e_go_next, c_alike_t_2]
    exact .pure ⟨rfl, X, rfl⟩

end Mine


set_option autoImplicit false
set_option linter.unusedVariables false
set_option maxRecDepth 100000
namespace Mine
open PySem PyProof.Rows

theorem mapM_nats {H : AHeap} {n : Nat} : ∀ xs : List Nat, (xs.map natV).mapM (rd H n) = some (xs.map fun (i : Nat) => PyData.int (i : Int))
  | [] => rfl
  | x :: r => by
    rw [List.map_cons, List.mapM_cons, mapM_nats r]
    show (do let y ← rd H n (.int x); _) = _
    rw [rd_int]; rfl

theorem notin_nats {H : AHeap} {l b : Nat} {ds : List Nat} (h : H[l]? = some (.list (ds.map natV))) (hb : b ∉ ds) : pCmp .NotIn (.int b) (.loc l) H = some (.ok true, H) := by
  have e2 : rd H 8 (.loc l) = some (.list (ds.map fun (i : Nat) => PyData.int (i : Int))) := by unfold rd; simp only [h, mapM_nats]; rfl
  refine bind_of (a := false) (H1 := H) (bind_of (rdM_is rd_int) (bind_of (rdM_is e2) (bind_of (a := ds.map fun (i : Nat) => PyData.int (i : Int)) (H1 := H) rfl ?_))) rfl
  show some (Except.ok _, H) = some (Except.ok false, H)
  congr 3
  rw [List.any_eq_false]
  intro y hy
  obtain ⟨i, hi, rfl⟩ := List.mem_map.mp hy
  show ¬ ((i : Int) == (b : Int)) = true
  rw [beq_iff_eq]
  exact fun e => hb (Int.ofNat_inj.mp e ▸ hi)

/-- the hand h stands at hd -/
noncomputable def HandAt (H : AHeap) (hd : Nat) (h : Hd) : Prop := ∃ es, H[hd]? = some (.dict es) ∧ ((h.work = none ∧ look es "work" = some .none) ∨ ∃ w lw ws, h.work = some w ∧ look es "work" = some (.loc lw) ∧ H[lw]? = some (.dict ws) ∧ look ws "next" = some (.str (nxS w.next)) ∧ look ws "own" = some (ixV w.own))
theorem HandAt.app {H X : AHeap} {hd : Nat} {h : Hd} (A : HandAt H hd h) : HandAt (H ++ X) hd h := by
  have k : ∀ {l : Nat} {o : AO}, H[l]? = some o → (H ++ X)[l]? = some o := fun e => by rw [List.getElem?_append_left (List.getElem?_eq_some_iff.mp e).1]; exact e
  obtain ⟨es, h1, q⟩ := A
  refine ⟨es, k h1, q.imp id fun ⟨w, lw, ws, h2, h3, h4, h5⟩ => ⟨w, lw, ws, h2, h3, k h4, h5⟩⟩
theorem TRep.hand {H : AHeap} {L : Ly} {t : Tw} {U : Nat → Prop} (T : TRep H L t U) {i : Nat} {h : Hd} (hi : t.hands[i]? = some h) : ∃ hd, L.hs[i]? = some (.loc hd) ∧ HandAt H hd h := by
  obtain ⟨g, hs, T⟩ := T
  have hl : i < hs.length := T.len ▸ (List.getElem?_eq_some_iff.mp hi).1
  have hc := List.getElem?_eq_getElem hl
  obtain ⟨l, t', w, ec, hw⟩ := T.his i h _ hi hc
  have O := T.rep.one i _ hc
  obtain ⟨l0, pr, p, wv, w0, eg⟩ := T.gis
  have hsv := T.rep.hsv
  have ewv : (mix g hs[i]).wv = wvOf h l := by rw [ec]; rfl
  refine ⟨hs[i].hd, ?_, ?_⟩
  · rw [show L.hs = hs.map fun h => .loc h.hd from by rw [← hsv, eg]; rfl, List.getElem?_map, hc]; rfl
  · rcases O with ⟨e, F⟩ | ⟨e, F⟩
    · refine ⟨_, F.d, .inl ⟨?_, congrArg some e⟩⟩
      rw [e] at ewv
      unfold wvOf at ewv
      cases hq : h.work with
      | none => rfl
      | some w1 => rw [hq] at ewv; cases ewv
    · cases hq : h.work with
      | none =>
        rw [e] at ewv
        unfold wvOf at ewv
        rw [hq] at ewv; cases ewv
      | some w1 =>
        have := hw w1 hq
        subst this
        refine ⟨_, F.d, .inr ⟨w, _, _, hq, congrArg some e, F.w, ?_, ?_⟩⟩
        · show some (AV.str (mix g hs[i]).next) = _
          rw [ec]; rfl
        · show some (mix g hs[i]).own = _
          rw [ec]; rfl
noncomputable def heldOf (h : Hd) : List Nat := match h.work with
  | none => []
  | some w => (match w.own with | none => [] | some f => [f])
theorem nx_walk {x : Nx} (h : x ≠ .walk) : pCmp .Eq (.str (nxS x)) (.str "walk") = pure false := by
  cases x with
  | walk => exact absurd rfl h
  | _ => kernel_rfl
theorem s_held (n : Nat) {H : AHeap} {st hd : Nat} {h : Hd} (A : HandAt H hd h) (hw : ∀ w, h.work = some w → w.next ≠ .walk) :
    Rn (do let vs3 ← eachM [pure (.loc st), (pItem (.loc hd) (.str "work"))]; callP P16 (n + 1) "held_by" vs3 : M AV) H fun a H' => a = .lst ((heldOf h).map natV) ∧ H' = H := by
  have hL := LIMis
  obtain ⟨es, h1, ⟨hk, h2⟩ | ⟨w, lw, ws, hk, h2, h3, h4, h5⟩⟩ := A
  · refine .bind (.eachP (.eachE (dItem h1 h2) (.each0 ?_)))
    refine .eq (callQ (σ := [some (.loc st), some .none]) (by kernel_rfl) (by kernel_rfl) (by kernel_rfl) ?_) ⟨by unfold heldOf; rw [hk], rfl⟩
    rw [c_held_by_0, show pCmp .Is .none .none = pure true from by kernel_rfl, pure_bind, e_newL (Nat.zero_le _)]
    rfl
  · refine .bind (.eachP (.eachE (dItem h1 h2) (.each0 ?_)))
    refine callRn (σ := [some (.loc st), some (.loc lw)]) (by kernel_rfl) (by kernel_rfl) (by kernel_rfl) ?_
    rw [c_held_by_0, show pCmp .Is (.loc lw) .none = pure false from rfl, pure_bind]
    simp only [pure_bind, e_go_next]
    rw [c_held_by_t_1]
    refine .bind (.bof (dItem h3 h4) (.eq (nx_walk (hw w hk)) ?_))
    simp only [pure_bind, e_go_next]
    rw [c_held_by_t_2]
    refine .bind (.bof (dItem h3 h5) ?_)
    cases ho : w.own with
    | none =>
      rw [ho] at h5
      refine .eq (show pCmp .IsNot .none .none = pure false from by kernel_rfl) ?_
      simp only [pure_bind, e_go_next, c_held_by_t_3, e_newL (xs := []) (Nat.zero_le _)]
      exact .pure ⟨by unfold heldOf; simp only [hk, ho]; rfl, rfl⟩
    | some f =>
      rw [ho] at h5
      refine .eq (show pCmp .IsNot (.int (f : Int)) .none = pure true from rfl) ?_
      refine .bind (.bind (.bind (.eachE (dItem h3 h5) (.each0 (.eq (e_newL (by show 1 ≤ LIM; omega)) (.pure ?_))))))
      exact .pure ⟨by unfold heldOf; simp only [hk, ho]; rfl, rfl⟩
theorem in_nats {H : AHeap} {l b : Nat} {ds : List Nat} (h : H[l]? = some (.list (ds.map natV))) (hb : b ∈ ds) : pCmp .NotIn (.int b) (.loc l) H = some (.ok false, H) := by
  have e2 : rd H 8 (.loc l) = some (.list (ds.map fun (i : Nat) => PyData.int (i : Int))) := by unfold rd; simp only [h, mapM_nats]; rfl
  refine bind_of (a := true) (H1 := H) (bind_of (rdM_is rd_int) (bind_of (rdM_is e2) (bind_of (a := ds.map fun (i : Nat) => PyData.int (i : Int)) (H1 := H) rfl ?_))) rfl
  show some (Except.ok _, H) = some (Except.ok true, H)
  congr 3
  rw [List.any_eq_true]
  exact ⟨.int b, List.mem_map.mpr ⟨b, hb, rfl⟩, by show ((b : Int) == (b : Int)) = true; rw [beq_iff_eq]⟩
theorem bf_lt {bs : List (Int × Option Nat)} : ∀ {r fd : List Nat} {x : Option Nat}, Bf bs x fd r → ∀ b ∈ r, b < bs.length
  | b :: r, fd, x, ⟨_, _, _, _, h1, h2⟩, c, hc => (List.mem_cons.mp hc).elim (fun e => e ▸ (List.getElem?_eq_some_iff.mp h1).1) fun hc => bf_lt h2 c hc
theorem s_boxes_bf (n : Nat) {H : AHeap} {c : Cn} {bs : List (Int × Option Nat)} {x : Option Nat} {pile : List Nat} (h1 : H[c.st]? = some (.dict c.sD)) (h2 : H[c.lb]? = some (.list (bs.map bxV))) (hc : Bf bs x [] pile) (hl : pile.length ≤ 10000) :
    Rn (callP P16 (n + 1) "boxes_from" [.loc c.st, ixV x]) H fun a H' => a = .loc H.length ∧ H' = H ++ [.list (pile.map natV)] := by
  have hL := LIMis
  have l1 : c.st < H.length := (List.getElem?_eq_some_iff.mp h1).1
  have l2 : c.lb < H.length := (List.getElem?_eq_some_iff.mp h2).1
  refine callRn (σ := [some (.loc c.st), some (ixV x), none]) (by kernel_rfl) (by kernel_rfl) (by kernel_rfl) ?_
  rw [c_boxes_from_0]
  refine .bof (newT (Nat.zero_le _)) ?_
  refine .then (whR pile.length (fun m σ H2 => ∃ y done rest, pile = done ++ rest ∧ σ = [some (.loc c.st), some (ixV y), some (.loc H.length)] ∧ H2 = H ++ [.list (done.map natV)] ∧ Bf bs y done rest ∧ m = rest.length)
    (Q := fun r H2 => ∃ o1 o2, r = .next [o1, o2, some (.loc H.length)] ∧ H2 = H ++ [.list (pile.map natV)]) (by omega) ⟨x, [], pile, rfl, rfl, rfl, hc, rfl⟩ ?_) ?_
  · rintro m σ H2 ⟨y, done, rest, rfl, rfl, rfl, hr, rfl⟩
    rw [c_boxes_from_while_1t]
    cases rest with
    | nil =>
      rw [List.append_nil]
      rcases hr with rfl | ⟨b, rfl, hb⟩
      · exact .pure (.inl ⟨rfl, _, _, rfl, rfl⟩)
      · rw [show ixV (some b) = .int b from rfl, e_isnoneI, pure_bind]
        exact Rn.bof (in_nats app_at hb) (.pure (.inl ⟨rfl, _, _, rfl, rfl⟩))
    | cons b rest =>
      obtain ⟨rfl, hb, v, u, e1, e2⟩ := hr
      rw [show ixV (some b) = .int b from rfl, e_isnoneI, pure_bind]
      refine .bof (notin_nats app_at hb) (.pure (.inr ⟨rfl, ?_⟩))
      rw [c_boxes_from_while_1b]
      have hbx : (bs.map bxV)[b]? = some (bxV (v, u)) := by rw [List.getElem?_map, e1]; rfl
      have hdl : (done.map natV).length < LIM := by rw [List.length_map]; rw [List.length_append] at hl; omega
      rw [pure_bind]
      refine .bind ?_
      refine .bof (listOf_loc app_at) (.of (append_loc app_at hdl) ?_)
      rw [List.set_append_right _ _ (Nat.le_refl _), Nat.sub_self]
      show Rn _ (H ++ [.list (done.map natV ++ [.int b])]) _
      refine .bind (.bind (.bof (dItem (v := .loc c.lb) (by rw [app_lt l1]; exact h1) (by kernel_rfl)) (.of (item_loc (by rw [app_lt l2]; exact h2) hbx) ?_)))
      rw [show pItem (bxV (v, u)) (.int 1) = pure (ixV u) from e_it1]
      refine .pure (.pure ⟨rest.length, Nat.lt_succ_self _, u, done ++ [b], rest, by rw [List.append_assoc]; rfl, rfl, by rw [List.map_append]; rfl, e2, rfl⟩)
  · rintro r H2 ⟨o1, o2, rfl, rfl⟩
    rw [e_go_next, c_boxes_from_t_2]
    exact .pure ⟨rfl, rfl⟩
theorem s_values_bf (n : Nat) {H : AHeap} {c : Cn} {bs : List (Int × Option Nat)} {x : Option Nat} {pile : List Nat} (h1 : H[c.st]? = some (.dict c.sD)) (h2 : H[c.lb]? = some (.list (bs.map bxV))) (hx : c.head = ixV x) (hc : Bf bs x [] pile) (hl : pile.length ≤ 10000) :
    Rn (callP P16 (n + 2) "values_on" [.loc c.st]) H fun a H' => a = .lst ((vl bs pile).map .int) ∧ ∃ X, H' = H ++ X := by
  have hL := LIMis
  have l1 : c.st < H.length := (List.getElem?_eq_some_iff.mp h1).1
  have l2 : c.lb < H.length := (List.getElem?_eq_some_iff.mp h2).1
  refine callRn (σ := [some (.loc c.st)]) (by kernel_rfl) (by kernel_rfl) (by kernel_rfl) ?_
  rw [c_values_on_0]
  refine .bind (.bind (.bind ?_))
  refine .eachP (.eachE (dItem (v := c.head) h1 (by kernel_rfl)) (.each0 ?_))
  rw [hx]
  refine .mono (s_boxes_bf n h1 h2 hc hl) ?_
  rintro _ H2 ⟨rfl, rfl⟩
  refine .bof (srcOf_loc app_at) ?_
  refine .then (compA (pile.map natV) (fun i acc H3 => H3 = H ++ [.list (pile.map natV)] ∧ acc = (vl bs (pile.take i)).map .int) (by rw [List.length_map]; omega) (fun i acc H3 q => get_loc (by rw [q.1]; exact app_at)) ⟨rfl, rfl⟩ ?_) ?_
  · rintro i a acc H3 ha hacc ⟨rfl, rfl⟩
    rw [List.getElem?_map, Option.map_eq_some_iff] at ha
    obtain ⟨b, hb, rfl⟩ := ha
    have hlt := bf_lt hc b (List.mem_of_getElem? hb)
    have hbx : (bs.map bxV)[b]? = some (bxV bs[b]) := by rw [List.getElem?_map, List.getElem?_eq_getElem hlt]; rfl
    refine .bind (.bind (.bof (dItem (v := .loc c.lb) (by rw [app_lt l1]; exact h1) (by kernel_rfl)) (.of (item_loc (by rw [app_lt l2]; exact h2) hbx) ?_)))
    rw [show pItem (bxV bs[b]) (.int 0) = pure (.int bs[b].1) from e_it0]
    refine .pure (.pure ⟨_, rfl, rfl, ?_⟩)
    rw [List.take_add_one, hb]
    unfold vl
    rw [List.map_append, List.map_append]
    show _ = _ ++ [AV.int ((bs[b]?).getD (0, none)).1]
    rw [List.getElem?_eq_getElem hlt]; rfl
  · rintro ys H3 ⟨⟨rfl, rfl⟩, hlen⟩
    rw [List.length_map, List.take_length] at *
    rw [e_newL (by unfold vl; rw [List.length_map, List.length_map]; omega)]
    exact .pure (.pure ⟨rfl, _, rfl⟩)

end Mine


set_option autoImplicit false
set_option linter.unusedVariables false
set_option maxRecDepth 100000
namespace Mine
open PySem PyProof.Rows

theorem TRep.reads2 {H : AHeap} {L : Ly} {t : Tw} {U : Nat → Prop} (T : TRep H L t U) (h : 0 < t.hands.length) : ∃ l pr p wv w, H[L.st]? = some (.dict (cn L l t pr p wv w).sD) ∧ H[L.lh]? = some (.list L.hs) ∧ L.hs.length = t.hands.length ∧ H[L.lb]? = some (.list (t.boxes.map bxV)) ∧ H[L.lr]? = some (.list (t.rows.map rwV)) ∧ H[L.lsp]? = some (.list (t.spare.map natV)) := by
  obtain ⟨g, hs, T⟩ := T
  obtain ⟨l, pr, p, wv, w, eg⟩ := T.gis
  obtain ⟨c, hc⟩ : ∃ c, hs[0]? = some c := ⟨_, List.getElem?_eq_getElem (T.len ▸ h : 0 < hs.length)⟩
  have O := T.rep.one 0 c hc
  have hl : L.hs.length = t.hands.length := by
    have := T.rep.hsv
    rw [eg] at this
    rw [show L.hs = hs.map fun h => .loc h.hd from this, List.length_map, T.len]
  rw [eg] at O
  refine ⟨l, pr, p, wv, w, ?_⟩
  rcases O with ⟨_, F⟩ | ⟨_, F⟩
  · exact ⟨F.s, F.h, hl, F.all 1 _ _ rfl rfl, F.all 4 _ _ rfl rfl, F.all 2 _ _ rfl rfl⟩
  · exact ⟨F.s, F.h, hl, F.b, F.r, F.all 2 _ _ rfl rfl⟩

noncomputable def cells (n : Nat) (q : Nat → List AV) : AHeap := (List.range n).map fun j => .list (q j)
noncomputable def locs (B n : Nat) : List AV := (List.range n).map fun j => .loc (B + j)
noncomputable def updL (q : Nat → List AV) (b : Nat) (s : AV) (j : Nat) : List AV := if j = b then q j ++ [s] else q j
/-- the heap while places are told -/
noncomputable def PH (H : AHeap) (n : Nat) (q : Nat → List AV) (X : AHeap) : AHeap := H ++ (cells n q ++ (.list (locs H.length n) :: X))
section
variable {H X : AHeap} {n b : Nat} {q : Nat → List AV} {s : AV}
theorem cells_len : (cells n q).length = n := by unfold cells; rw [List.length_map, List.length_range]
theorem cells_at (h : b < n) : (cells n q)[b]? = some (.list (q b)) := by unfold cells; rw [List.getElem?_map, List.getElem?_range h]; rfl
theorem cells_set (h : b < n) : (cells n q).set b (.list (q b ++ [s])) = cells n (updL q b s) := by
  refine List.ext_getElem? fun j => ?_
  by_cases hj : j < n
  · rw [cells_at hj]
    unfold updL
    by_cases e : b = j
    · subst e; rw [List.getElem?_set_self (by rw [cells_len]; exact h), if_pos rfl]
    · rw [List.getElem?_set_ne e, cells_at hj, if_neg (Ne.symm e)]
  · rw [List.getElem?_eq_none (by rw [List.length_set, cells_len]; omega), List.getElem?_eq_none (by rw [cells_len]; omega)]
theorem PH.old {x : Nat} {o : AO} (h : H[x]? = some o) : (PH H n q X)[x]? = some o := by unfold PH; rw [List.getElem?_append_left (List.getElem?_eq_some_iff.mp h).1]; exact h
theorem PH.cell (h : b < n) : (PH H n q X)[H.length + b]? = some (.list (q b)) := by
  unfold PH
  rw [List.getElem?_append_right (Nat.le_add_right _ _), Nat.add_sub_cancel_left, List.getElem?_append_left (by rw [cells_len]; exact h), cells_at h]
theorem PH.tab {k : Nat} : (PH H n q X)[H.length + n + k]? = (AO.list (locs H.length n) :: X)[k]? := by
  unfold PH
  rw [Nat.add_assoc, List.getElem?_append_right (Nat.le_add_right _ _), Nat.add_sub_cancel_left, List.getElem?_append_right (by rw [cells_len]; exact Nat.le_add_right _ _), cells_len, Nat.add_sub_cancel_left]
theorem PH.upd (h : b < n) : (PH H n q X).set (H.length + b) (.list (q b ++ [s])) = PH H n (updL q b s) X := by
  unfold PH
  rw [List.set_append_right _ _ (Nat.le_add_right _ _), Nat.add_sub_cancel_left, List.set_append_left _ _ (by rw [cells_len]; exact h), cells_set h]
theorem locs_at (h : b < n) : (locs H.length n)[b]? = some (.loc (H.length + b)) := by unfold locs; rw [List.getElem?_map, List.getElem?_range h]; rfl
theorem mark1 {σ : Loc} (h : b < n) (hq : (q b).length < 100000) : Rn (do let _ ← (do let o1 ← (pItem (.loc (H.length + n)) (natV b)); let _ ← listOf o1; (pMeth "append" o1 [s])); pure (.next σ) : M Res) (PH H n q X) fun r H' => r = .next σ ∧ H' = PH H n (updL q b s) X := by
  have hL := LIMis
  refine .bind (.bof (item_loc (PH.tab (k := 0)) (locs_at h)) (.bof (listOf_loc (PH.cell h)) (.of (append_loc (PH.cell h) (by omega)) ?_)))
  rw [PH.upd h]
  exact .pure ⟨rfl, rfl⟩
/-- the marks of a list of boxes -/
noncomputable def qf (s : AV) (q : Nat → List AV) (bs : List Nat) : Nat → List AV := bs.foldl (fun q b => updL q b s) q
theorem qf_snoc (s : AV) (q : Nat → List AV) (bs : List Nat) (b : Nat) : qf s q (bs ++ [b]) = updL (qf s q bs) b s := by unfold qf; rw [List.foldl_append]; rfl
theorem qf_at (s : AV) : ∀ (bs : List Nat) (q : Nat → List AV) (j : Nat), qf s q bs j = q j ++ List.replicate (bs.count j) s
  | [], q, j => by show q j = q j ++ []; rw [List.append_nil]
  | b :: r, q, j => by
    show qf s (updL q b s) r j = _
    rw [qf_at s r, List.count_cons]
    unfold updL
    by_cases e : j = b
    · subst e
      rw [if_pos rfl, if_pos (beq_self_eq_true _), List.append_assoc, List.replicate_succ]; rfl
    · rw [if_neg e, if_neg (fun q => e (by rw [beq_iff_eq] at q; exact q.symm)), Nat.add_zero]
theorem qf_len (s : AV) (bs : List Nat) (q : Nat → List AV) (j : Nat) : (qf s q bs j).length ≤ (q j).length + bs.length := by
  rw [qf_at, List.length_append, List.length_replicate]
  exact Nat.add_le_add_left List.count_le_length _
end
/-- each box of bs is marked with s -/
theorem marks {src : Src} {body : AV → Loc → M Res} {s : AV} {H X : AHeap} {n : Nat} {st : AV} {bs : List Nat} {q : Nat → List AV} {o2 o4 : Option AV} (hg : ∀ q' i, src.get i (PH H n q' X) = some (.ok ((bs.map natV)[i]?), PH H n q' X))
    (hb : ∀ b o2, body (natV b) [some st, o2, some (.loc (H.length + n)), o4] = (do let _ ← (do let o1 ← (pItem (.loc (H.length + n)) (natV b)); let _ ← listOf o1; (pMeth "append" o1 [s])); pure (.next [some st, some (natV b), some (.loc (H.length + n)), o4])))
    (hlt : ∀ b ∈ bs, b < n) (hq : ∀ j, (q j).length ≤ 3000) (hl : bs.length ≤ 1000) :
    Rn (forLoop src body FUEL 0 [some st, o2, some (.loc (H.length + n)), o4]) (PH H n q X) fun r H' => ∃ o2, r = .next [some st, o2, some (.loc (H.length + n)), o4] ∧ H' = PH H n (qf s q bs) X := by
  refine forR (fun i => (bs.map natV)[i]?) bs.length (fun k σ H2 => ∃ o2, σ = [some st, o2, some (.loc (H.length + n)), o4] ∧ H2 = PH H n (qf s q (bs.take k)) X) (by omega) (List.getElem?_eq_none (by rw [List.length_map]; exact Nat.le_refl _)) (fun i σ H2 _ h => by obtain ⟨_, _, e⟩ := h; rw [e]; exact hg _ _) ⟨_, rfl, rfl⟩ (fun k σ H2 hk h => ?_) (fun σ H2 h => by rw [List.take_length] at h; obtain ⟨o2, e, e2⟩ := h; exact ⟨o2, by rw [e], e2⟩)
  obtain ⟨o2, rfl, rfl⟩ := h
  have hb1 := List.getElem?_eq_getElem hk
  refine ⟨natV bs[k], by rw [List.getElem?_map, hb1]; rfl, ?_⟩
  rw [hb, show bs.take (k + 1) = bs.take k ++ [bs[k]] from by rw [List.take_add_one, hb1]; rfl, qf_snoc]
  refine (mark1 (hlt _ (List.getElem_mem hk)) ?_).mono ?_
  · have h1 := qf_len s (bs.take k) q bs[k]
    have h2 : (bs.take k).length ≤ bs.length := by rw [List.length_take]; exact Nat.min_le_right _ _
    have h3 := hq bs[k]
    omega
  · rintro _ _ ⟨rfl, rfl⟩
    exact ⟨_, rfl, rfl⟩
theorem s_places (n : Nat) {H : AHeap} {L : Ly} {t : Tw} {U : Nat → Prop} (T : TRep H L t U) (hn : 0 < t.hands.length) {pl : List Nat} (hc : Bf t.boxes t.head [] pl) (hl : pl.length ≤ 1000) (hb : t.boxes.length ≤ 1000) (hs : ∀ b ∈ t.spare, b < t.boxes.length) (hsl : t.spare.length ≤ 1000)
    (hw : ∀ h ∈ t.hands, ∀ w, h.work = some w → w.next ≠ .walk) (hh : ∀ h ∈ t.hands, ∀ b ∈ heldOf h, b < t.boxes.length) (hhl : t.hands.length ≤ 20) :
    Rn (callP P16 (n + 3) "places_of" [.loc L.st]) H fun a H' => a = .loc (H.length + t.boxes.length) ∧ ∃ X, H' = PH H t.boxes.length (qf (.str "held") (qf (.str "spare") (qf (.str "pile") (fun _ => []) pl) t.spare) (t.hands.flatMap heldOf)) X := by
  have hL := LIMis
  obtain ⟨l, pr, p, wv, w, rs, rh, rhl, rb, rr, rsp⟩ := T.reads2 hn
  refine callRn (σ := [some (.loc L.st), none, none, none]) (by kernel_rfl) (by kernel_rfl) (by kernel_rfl) ?_
  rw [c_places_of_0]
  refine .bind (.bind (.of (dItem (v := .loc L.lb) rs (by kernel_rfl)) ?_))
  refine .bof (srcOf_loc rb) ?_
  refine .then (compA (t.boxes.map bxV) (fun i acc H3 => H3 = H ++ cells i (fun _ => []) ∧ acc = locs H.length i) (by rw [List.length_map]; omega) (fun i acc H3 q => get_loc (by rw [q.1, List.getElem?_append_left (List.getElem?_eq_some_iff.mp rb).1]; exact rb)) ⟨(List.append_nil _).symm, rfl⟩ ?_) ?_
  · rintro i a acc H3 ha hacc ⟨rfl, rfl⟩
    refine .bof (newT (Nat.zero_le _)) (.pure ⟨_, rfl, ?_, ?_⟩)
    · unfold cells
      rw [List.range_succ, List.map_append, List.append_assoc]; rfl
    · rw [List.length_append, cells_len]
      unfold locs
      rw [List.range_succ, List.map_append]; rfl
  rintro ys H3 ⟨⟨rfl, rfl⟩, _⟩
  rw [List.length_map]
  have nl : (H ++ cells t.boxes.length (fun _ => [])).length = H.length + t.boxes.length := by rw [List.length_append, cells_len]
  refine .of (newT (by unfold locs; rw [List.length_map, List.length_range]; omega)) ?_
  rw [nl, List.append_assoc]
  show Rn _ (PH H t.boxes.length (fun _ => []) []) _
  refine .bind (.bind (.eachP (.eachE (dItem (v := ixV t.head) (PH.old rs) (by kernel_rfl)) (.each0 ?_))))
  refine .mono (s_boxes_bf (n + 1) (c := cn L l t pr p wv w) (PH.old rs) (PH.old rb) hc (by omega)) ?_
  rintro _ H4 ⟨rfl, rfl⟩
  have pl1 : (PH H t.boxes.length (fun _ => []) []).length = H.length + t.boxes.length + 1 := by
    unfold PH
    rw [List.length_append, List.length_append, cells_len]; rfl
  rw [pl1, show PH H t.boxes.length (fun _ => []) [] ++ [AO.list (pl.map natV)] = PH H t.boxes.length (fun _ => []) [.list (pl.map natV)] from by unfold PH; rw [List.append_assoc, List.append_assoc]; rfl]
  have plt := bf_lt hc
  have atp : ∀ {q : Nat → List AV}, (PH H t.boxes.length q [.list (pl.map natV)])[H.length + t.boxes.length + 1]? = some (.list (pl.map natV)) := PH.tab
  refine .bof (srcOf_loc atp) ?_
  refine .then (marks (fun q' i => get_loc atp) (fun b o2 => c_places_of_for_1 _ _ _ _ _ _) plt (fun _ => Nat.zero_le _) hl) ?_
  rintro r H2 ⟨o2, rfl, rfl⟩
  rw [e_go_next, c_places_of_t_2]
  generalize hq1 : qf (.str "pile") (fun _ => []) pl = q1
  have hq1l : ∀ j, (q1 j).length ≤ 1000 := fun j => by
    rw [← hq1]
    have := qf_len (.str "pile") pl (fun _ => []) j
    have h3 : ([] : List AV).length = 0 := rfl
    omega
  refine .bof (dItem (v := .loc L.lsp) (PH.old rs) (by kernel_rfl)) ?_
  refine .bof (srcOf_loc (PH.old rsp)) ?_
  refine .then (marks (fun q' i => get_loc (PH.old rsp)) (fun b o2 => c_places_of_for_2 _ _ _ _ _ _) hs (fun j => Nat.le_trans (hq1l j) (by decide)) hsl) ?_
  rintro r H2 ⟨o2, rfl, rfl⟩
  rw [e_go_next, c_places_of_t_3]
  generalize hq2 : qf (.str "spare") q1 t.spare = q2
  have hq2l : ∀ j, (q2 j).length ≤ 2000 := fun j => by
    rw [← hq2]
    have := qf_len (.str "spare") t.spare q1 j
    have h3 := hq1l j
    omega
  have hol : ∀ h : Hd, (heldOf h).length ≤ 1 := fun h => by
    unfold heldOf
    cases h.work with
    | none => exact Nat.zero_le _
    | some w => cases hw : w.own <;> simp only [hw] <;> first | exact Nat.zero_le _ | exact Nat.le_refl _
  have hfl : ∀ k, ((t.hands.take k).flatMap heldOf).length ≤ 20 := fun k => by
    have : ∀ l : List Hd, (l.flatMap heldOf).length ≤ l.length := fun l => by
      induction l with
      | nil => exact Nat.le_refl _
      | cons h r ih => rw [List.flatMap_cons, List.length_append, List.length_cons]; have := hol h; omega
    have h1 := this (t.hands.take k)
    have h2 : (t.hands.take k).length ≤ t.hands.length := by rw [List.length_take]; exact Nat.min_le_right _ _
    omega
  refine .bof (dItem (v := .loc L.lh) (PH.old rs) (by kernel_rfl)) ?_
  refine .bof (srcOf_loc (PH.old rh)) ?_
  refine .then (forA (xs := L.hs) (fun k σ H2 => ∃ o2 o4, σ = [some (.loc L.st), o2, some (.loc (H.length + t.boxes.length)), o4] ∧ H2 = PH H t.boxes.length (qf (.str "held") q2 ((t.hands.take k).flatMap heldOf)) [.list (pl.map natV)])
    (Q := fun r H2 => ∃ o2 o4, r = .next [some (.loc L.st), o2, some (.loc (H.length + t.boxes.length)), o4] ∧ H2 = PH H t.boxes.length (qf (.str "held") q2 (t.hands.flatMap heldOf)) [.list (pl.map natV)]) (by rw [rhl]; omega) ⟨_, _, rfl, rfl⟩ (fun i σ H2 q => by obtain ⟨_, _, _, e⟩ := q; rw [e]; exact PH.old rh) ?_ ?_) ?_
  · rintro k a σ H2 ha ⟨o2, o4, rfl, rfl⟩
    have hk : k < t.hands.length := rhl ▸ (List.getElem?_eq_some_iff.mp ha).1
    obtain ⟨hd, e1, A⟩ := T.hand (List.getElem?_eq_getElem hk)
    rw [e1] at ha
    cases ha
    have hm := List.getElem_mem hk
    have tk : (t.hands.take (k + 1)).flatMap heldOf = (t.hands.take k).flatMap heldOf ++ heldOf t.hands[k] := by rw [List.take_add_one, List.getElem?_eq_getElem hk, List.flatMap_append]; show _ ++ [t.hands[k]].flatMap heldOf = _; rw [List.flatMap_cons, List.flatMap_nil, List.append_nil]
    rw [c_places_of_for_3]
    refine .then (s_held (n + 1) (st := L.st) (A.app (X := _)) (hw _ hm)) ?_
    rintro _ _ ⟨rfl, rfl⟩
    rw [srcOf_lst, pure_bind]
    refine .then (marks (src := .items ((heldOf t.hands[k]).map natV)) (fun q' i => rfl) (fun b o2 => c_places_of_for30_0 _ _ _ _ _ _) (hh _ hm) (fun j => ?_) (Nat.le_trans (hol _) (by decide))) ?_
    · have h1 := qf_len (.str "held") ((t.hands.take k).flatMap heldOf) q2 j
      have h2 := hfl k
      have h3 := hq2l j
      omega
    · rintro r H3 ⟨o2, rfl, rfl⟩
      refine .pure ⟨_, _, rfl, ?_⟩
      rw [tk]
      unfold qf
      rw [List.foldl_append]
  · rintro σ H2 ⟨o2, o4, rfl, rfl⟩
    rw [rhl, List.take_length]
    exact ⟨_, _, rfl, rfl⟩
  · rintro r H2 ⟨o2, o4, rfl, rfl⟩
    rw [e_go_next, c_places_of_t_4]
    exact .pure ⟨rfl, _, rfl⟩

end Mine


set_option autoImplicit false
set_option linter.unusedVariables false
set_option maxRecDepth 100000
namespace Mine
open PySem PyProof.Rows

noncomputable def sP : AV := .str "pile"
noncomputable def sS : AV := .str "spare"
noncomputable def sH : AV := .str "held"
noncomputable def Qp (pl sp hd : List Nat) (j : Nat) : List AV := List.replicate (pl.count j) sP ++ List.replicate (sp.count j) sS ++ List.replicate (hd.count j) sH
theorem qf_is (pl sp hd : List Nat) (j : Nat) : qf (.str "held") (qf (.str "spare") (qf (.str "pile") (fun _ => []) pl) sp) hd j = Qp pl sp hd j := by
  rw [qf_at, qf_at, qf_at]; rfl
noncomputable def td16 : Kn → Nat → Nat → Td
  | .bare, _, 1 => .look (some 1) 4
  | .bare, _, _ => .put true
  | .marks, _, 0 => .put false
  | .marks, _, 1 => .look (some 0) 3
  | .new, _, 0 => .put false
  | .new, m, 1 => .look (some (m + 3)) 3
  | _, _, _ => .put true
noncomputable def vals16 (one two : Int) (rest : List Int) : Kn → Nat → List Int
  | .bare, _ => [one]
  | _, 2 => one :: two :: rest
  | _, _ => two :: rest
noncomputable def plc16 (m : Nat) : Kn → Nat → List AV
  | .bare, 2 => [.lst [sS], .lst [sP]] ++ List.replicate m (.lst [])
  | .bare, _ => [.lst [sS], .lst [sP, sH]] ++ List.replicate m (.lst [])
  | .marks, 2 => [.lst [sP], .lst [sP]] ++ List.replicate m (.lst [sP])
  | .marks, _ => [.lst [sP], .lst [sH]] ++ List.replicate m (.lst [sP])
  | .new, 2 => List.replicate 2 (.lst [sS]) ++ List.replicate m (.lst [sP]) ++ [.lst [sP], .lst [sP]]
  | .new, _ => List.replicate 2 (.lst [sS]) ++ List.replicate m (.lst [sP]) ++ [.lst [sH], .lst [sP]]
theorem mid16 {m : Nat} {f : Nat → AV} {x : AV} (h : ∀ j, 2 ≤ j → j < m + 2 → f j = x) : (List.range' 2 m).map f = List.replicate m x := by
  rw [List.map_congr_left (g := fun _ => x) fun j hj => by rw [List.mem_range'_1] at hj; exact h j hj.1 (by omega), List.map_const', List.length_range']
theorem rng2 (m : Nat) : List.range (m + 2) = 0 :: 1 :: List.range' 2 m := by rw [List.range_eq_range', List.range'_succ, List.range'_succ]
theorem rng4 (m : Nat) : List.range (m + 4) = 0 :: 1 :: (List.range' 2 m ++ [m + 2, m + 3]) := by
  rw [List.range_eq_range', show m + 4 = (m + 2) + 1 + 1 from rfl, List.range'_succ, List.range'_succ, ← List.range'_append_1 (s := 0 + 1 + 1) (m := m) (n := 2)]
  rw [show 0 + 1 + 1 = 2 from rfl, Nat.add_comm 2 m]; rfl
theorem cnt_r {m j : Nat} : (List.range' 2 m).count j = if 2 ≤ j ∧ j < m + 2 then 1 else 0 := by
  rw [List.Nodup.count List.nodup_range']
  by_cases h : 2 ≤ j ∧ j < m + 2
  · rw [if_pos h, if_pos (List.mem_range'_1.mpr (by omega))]
  · rw [if_neg h, if_neg (fun q => h (by have := List.mem_range'_1.mp q; omega))]
theorem plc_is (m : Nat) : ((List.range (m + 2)).map (fun j => AV.lst (Qp [1] [0] [1] j)) = plc16 m .bare 0) ∧ ((List.range (m + 2)).map (fun j => AV.lst (Qp [1] [0] [] j)) = plc16 m .bare 2) ∧
    ((List.range (m + 2)).map (fun j => AV.lst (Qp (0 :: List.range' 2 m) [] [1] j)) = plc16 m .marks 0) ∧ ((List.range (m + 2)).map (fun j => AV.lst (Qp (1 :: 0 :: List.range' 2 m) [] [] j)) = plc16 m .marks 2) ∧
    ((List.range (m + 4)).map (fun j => AV.lst (Qp ((m + 3) :: List.range' 2 m) [0, 1] [m + 2] j)) = plc16 m .new 0) ∧ ((List.range (m + 4)).map (fun j => AV.lst (Qp ((m + 2) :: (m + 3) :: List.range' 2 m) [0, 1] [] j)) = plc16 m .new 2) := by
  have nb : ∀ {a j : Nat}, a ≠ j → (a == j) = false := fun h => by rw [beq_eq_false_iff_ne]; exact h
  have two : ∀ {f : Nat → AV} {a b x : AV}, f 0 = a → f 1 = b → (∀ j, 2 ≤ j → j < m + 2 → f j = x) → (List.range (m + 2)).map f = [a, b] ++ List.replicate m x := fun h0 h1 h => by
    rw [rng2, List.map_cons, List.map_cons, h0, h1, mid16 h]; rfl
  have four : ∀ {f : Nat → AV} {x c d : AV}, f 0 = .lst [sS] → f 1 = .lst [sS] → (∀ j, 2 ≤ j → j < m + 2 → f j = x) → f (m + 2) = c → f (m + 3) = d → (List.range (m + 4)).map f = List.replicate 2 (.lst [sS]) ++ List.replicate m x ++ [c, d] := fun {f x c d} h0 h1 h h2 h3 => by
    rw [rng4, List.map_cons, List.map_cons, h0, h1, List.map_append, mid16 h]
    show _ :: _ :: (List.replicate m x ++ [f (m + 2), f (m + 3)]) = _
    rw [h2, h3]; rfl
  have c0 : (List.range' 2 m).count 0 = 0 := by rw [cnt_r, if_neg (by omega)]
  have c1 : (List.range' 2 m).count 1 = 0 := by rw [cnt_r, if_neg (by omega)]
  have c2 : (List.range' 2 m).count (m + 2) = 0 := by rw [cnt_r, if_neg (by omega)]
  have c3 : (List.range' 2 m).count (m + 3) = 0 := by rw [cnt_r, if_neg (by omega)]
  have cj : ∀ j, 2 ≤ j → j < m + 2 → (List.range' 2 m).count j = 1 := fun j h1 h2 => by rw [cnt_r, if_pos ⟨h1, h2⟩]
  refine ⟨two rfl rfl fun j h1 h2 => ?_, two rfl rfl fun j h1 h2 => ?_, two ?_ ?_ fun j h1 h2 => ?_, two ?_ ?_ fun j h1 h2 => ?_, four ?_ ?_ (fun j h1 h2 => ?_) ?_ ?_, four ?_ ?_ (fun j h1 h2 => ?_) ?_ ?_⟩ <;> unfold Qp <;> simp only [List.count_cons, List.count_nil, c0, c1, c2, c3]
  · rw [nb (by omega : 1 ≠ j), nb (by omega : 0 ≠ j)]; rfl
  · rw [nb (by omega : 1 ≠ j), nb (by omega : 0 ≠ j)]; rfl
  · rfl
  · rfl
  · rw [cj j h1 h2, nb (by omega : 1 ≠ j), nb (by omega : 0 ≠ j)]; rfl
  · rfl
  · rfl
  · rw [cj j h1 h2, nb (by omega : 1 ≠ j), nb (by omega : 0 ≠ j)]; rfl
  · rw [nb (by omega : m + 3 ≠ 0), nb (by omega : m + 2 ≠ 0)]; rfl
  · rw [nb (by omega : m + 3 ≠ 1), nb (by omega : m + 2 ≠ 1)]; rfl
  · rw [cj j h1 h2, nb (by omega : m + 3 ≠ j), nb (by omega : m + 2 ≠ j), nb (by omega : 1 ≠ j), nb (by omega : 0 ≠ j)]; rfl
  · rw [nb (by omega : m + 3 ≠ m + 2), beq_self_eq_true, nb (by omega : 1 ≠ m + 2), nb (by omega : 0 ≠ m + 2)]; rfl
  · rw [nb (by omega : m + 2 ≠ m + 3), beq_self_eq_true, nb (by omega : 1 ≠ m + 3), nb (by omega : 0 ≠ m + 3)]; rfl
  · rw [nb (by omega : m + 3 ≠ 0), nb (by omega : m + 2 ≠ 0)]; rfl
  · rw [nb (by omega : m + 3 ≠ 1), nb (by omega : m + 2 ≠ 1)]; rfl
  · rw [cj j h1 h2, nb (by omega : m + 3 ≠ j), nb (by omega : m + 2 ≠ j), nb (by omega : 1 ≠ j), nb (by omega : 0 ≠ j)]; rfl
  · rw [nb (by omega : m + 3 ≠ m + 2), beq_self_eq_true, nb (by omega : 1 ≠ m + 2), nb (by omega : 0 ≠ m + 2)]; rfl
  · rw [nb (by omega : m + 2 ≠ m + 3), beq_self_eq_true, nb (by omega : 1 ≠ m + 3), nb (by omega : 0 ≠ m + 3)]; rfl
/-- what the law sees behind step k -/
structure See16 (kd : Kn) (one two : Int) (rest : List Int) (k : Nat) (t : Tw) : Prop where
  s : ∃ n pl sp held, V16 t n pl sp (vals16 one two rest kd k) held ∧ (List.range n).map (fun j => AV.lst (Qp pl sp held.toList j)) = plc16 rest.length kd k ∧ n ≤ rest.length + 4 ∧ pl.length ≤ rest.length + 2 ∧ (∀ b ∈ sp, b < n) ∧ (∀ b ∈ held.toList, b < n) ∧ sp.length ≤ 2
noncomputable def W3 (k : Nat) : List Nat := W16 ++ ([0, 2, 2] : List Nat).take k
theorem see16 (kd : Kn) (x0 x1 one two : Int) (rest : List Int) : ∀ k, k < 3 → See16 kd one two rest k (run (tw0 kd (x0 :: x1 :: rest) (ps16 one two)) (W3 (k + 1))) ∧ ∃ W', tolds (tw0 kd (x0 :: x1 :: rest) (ps16 one two)) (W3 (k + 1)) = W' ++ [td16 kd rest.length k] := by
  obtain ⟨s, w0, w2, f, g, hrun, B⟩ := base16 kd x0 x1 one two rest
  have e1 : run (tw0 kd (x0 :: x1 :: rest) (ps16 one two)) (W3 1) = (step s 0).1 := by rw [show W3 1 = W16 ++ [0] from rfl, run_snoc, hrun]
  have e2 : run (tw0 kd (x0 :: x1 :: rest) (ps16 one two)) (W3 2) = (step (step s 0).1 2).1 := by rw [show W3 2 = W3 1 ++ [2] from rfl, run_snoc, e1]
  have e3 : run (tw0 kd (x0 :: x1 :: rest) (ps16 one two)) (W3 3) = (step (step (step s 0).1 2).1 2).1 := by rw [show W3 3 = W3 2 ++ [2] from rfl, run_snoc, e2]
  have t1 : ∃ W', tolds (tw0 kd (x0 :: x1 :: rest) (ps16 one two)) (W3 1) = W' ++ [(step s 0).2] := ⟨_, by rw [show W3 1 = W16 ++ [0] from rfl, tolds_snoc, hrun]⟩
  have t2 : ∃ W', tolds (tw0 kd (x0 :: x1 :: rest) (ps16 one two)) (W3 2) = W' ++ [(step (step s 0).1 2).2] := ⟨_, by rw [show W3 2 = W3 1 ++ [2] from rfl, tolds_snoc, e1]⟩
  have t3 : ∃ W', tolds (tw0 kd (x0 :: x1 :: rest) (ps16 one two)) (W3 3) = W' ++ [(step (step (step s 0).1 2).1 2).2] := ⟨_, by rw [show W3 3 = W3 2 ++ [2] from rfl, tolds_snoc, e2]⟩
  have rl : (List.range' 2 rest.length).length = rest.length := List.length_range'
  obtain ⟨p1, p2, p3, p4, p5, p6⟩ := plc_is rest.length
  have fin : ((step s 0).2 = td16 kd rest.length 0 ∧ See16 kd one two rest 0 (step s 0).1) ∧ ((step (step s 0).1 2).2 = td16 kd rest.length 1 ∧ See16 kd one two rest 1 (step (step s 0).1 2).1) ∧ ((step (step (step s 0).1 2).1 2).2 = td16 kd rest.length 2 ∧ See16 kd one two rest 2 (step (step (step s 0).1 2).1 2).1) := by
    cases kd with
    | bare =>
      obtain ⟨⟨a1, v1⟩, ⟨a2, v2⟩, a3, v3⟩ := bare16 B
      have l1 : ∀ b ∈ [0], b < rest.length + 2 := fun b hb => by rw [List.mem_singleton.mp hb]; omega
      have l2 : ∀ b ∈ (some 1 : Option Nat).toList, b < rest.length + 2 := fun b hb => by rw [List.mem_singleton.mp hb]; omega
      exact ⟨⟨a1, ⟨_, _, _, _, v1, p1, by omega, (by show 1 ≤ _; omega), l1, l2, by decide⟩⟩, ⟨a2, ⟨_, _, _, _, v2, p1, by omega, (by show 1 ≤ _; omega), l1, l2, by decide⟩⟩, a3, ⟨_, _, _, _, v3, p2, by omega, (by show 1 ≤ _; omega), l1, fun _ h => (nomatch h), by decide⟩⟩
    | marks =>
      obtain ⟨rfl, rfl, q1, q2⟩ := B.old (fun q => nomatch q)
      obtain ⟨⟨a1, v1⟩, ⟨a2, v2⟩, a3, v3⟩ := end16 B (fun q => nomatch q) q1 q2
      have l1 : ∀ b ∈ ([] : List Nat), b < rest.length + 2 := fun b hb => nomatch hb
      have l2 : ∀ b ∈ (some 1 : Option Nat).toList, b < rest.length + 2 := fun b hb => by rw [List.mem_singleton.mp hb]; omega
      exact ⟨⟨a1, ⟨_, _, _, _, v1, p3, by omega, (by rw [List.length_cons, rl]; omega), l1, l2, by decide⟩⟩, ⟨a2, ⟨_, _, _, _, v2, p3, by omega, (by rw [List.length_cons, rl]; omega), l1, l2, by decide⟩⟩, a3, ⟨_, _, _, _, v3, p4, by omega, (by rw [List.length_cons, List.length_cons, rl]; omega), l1, fun _ h => (nomatch h), by decide⟩⟩
    | new =>
      obtain ⟨rfl, rfl, q1, q2⟩ := B.new rfl
      obtain ⟨⟨a1, v1⟩, ⟨a2, v2⟩, a3, v3⟩ := end16 B (fun q => nomatch q) q1 q2
      have l1 : ∀ b ∈ [0, 1], b < rest.length + 2 + 2 := fun b hb => by
        rcases List.mem_cons.mp hb with rfl | hb
        · omega
        · rw [List.mem_singleton.mp hb]; omega
      have l2 : ∀ b ∈ (some (rest.length + 2) : Option Nat).toList, b < rest.length + 2 + 2 := fun b hb => by rw [List.mem_singleton.mp hb]; omega
      exact ⟨⟨a1, ⟨_, _, _, _, v1, p5, by omega, (by rw [List.length_cons, rl]; omega), l1, l2, by decide⟩⟩, ⟨a2, ⟨_, _, _, _, v2, p5, by omega, (by rw [List.length_cons, rl]; omega), l1, l2, by decide⟩⟩, a3, ⟨_, _, _, _, v3, p6, by omega, (by rw [List.length_cons, List.length_cons, rl]; omega), l1, fun _ h => (nomatch h), by decide⟩⟩
  intro k hk
  match k, hk with
  | 0, _ => exact ⟨by rw [e1]; exact fin.1.2, by rw [fin.1.1] at t1; exact t1⟩
  | 1, _ => exact ⟨by rw [e2]; exact fin.2.1.2, by rw [fin.2.1.1] at t2; exact t2⟩
  | 2, _ => exact ⟨by rw [e3]; exact fin.2.2.2, by rw [fin.2.2.1] at t3; exact t3⟩

end Mine


set_option autoImplicit false
set_option linter.unusedVariables false
set_option maxRecDepth 100000
namespace Mine
open PySem PyProof.Rows

/-- the same list, or tuple, of small things -/
theorem SmL.self {H : AHeap} {n C : Nat} : ∀ {xs : List AV}, (∀ x ∈ xs, ∃ c, c ≤ C ∧ Sm H n c (x, x)) → ∃ c, c ≤ xs.length * C ∧ SmL (Sm H n) c (xs.zip xs)
  | [], _ => ⟨0, Nat.zero_le _, rfl⟩
  | x :: r, h => by
    obtain ⟨a, h1, h2⟩ := h x List.mem_cons_self
    obtain ⟨b, h3, h4⟩ := SmL.self (xs := r) fun y hy => h y (List.mem_cons_of_mem _ hy)
    refine ⟨a + b, ?_, a, b, rfl, h2, h4⟩
    rw [List.length_cons, Nat.succ_mul, Nat.add_comm]
    exact Nat.add_le_add h3 h1
theorem Sm.lf {H : AHeap} {a : AV} (h : Lf a) : ∀ n, Sm H n 1 (a, a)
  | 0 => ⟨rfl, h, rfl⟩
  | _ + 1 => .inl ⟨rfl, h, rfl⟩
theorem Sm.sq {H : AHeap} {n C : Nat} {k : Bool} {x y : AV} {xs : List AV} (hx : Sq H k x xs) (hy : Sq H k y xs) (h : ∀ x ∈ xs, ∃ c, c ≤ C ∧ Sm H n c (x, x)) : ∃ c, c ≤ xs.length * C + 1 ∧ Sm H (n + 1) c (x, y) :=
  let ⟨c, h1, h2⟩ := SmL.self h
  ⟨c + 1, Nat.succ_le_succ h1, .inr ⟨k, xs, xs, c, hx, hy, rfl, rfl, h2⟩⟩
theorem lf_int {i : Int} : Lf (.int i) := .inr (.inl ⟨i, rfl⟩)
theorem sm_ints {H : AHeap} {k : Bool} {x y : AV} {xs : List Int} (hx : Sq H k x (xs.map .int)) (hy : Sq H k y (xs.map .int)) (n : Nat) : ∃ c, c ≤ xs.length + 1 ∧ Sm H (n + 1) c (x, y) := by
  obtain ⟨c, h1, h2⟩ := Sm.sq (n := n) (C := 1) hx hy fun x hx => by
    obtain ⟨i, _, rfl⟩ := List.mem_map.mp hx
    exact ⟨1, Nat.le_refl _, Sm.lf lf_int n⟩
  rw [List.length_map, Nat.mul_one] at h1
  exact ⟨c, h1, h2⟩
theorem kind3 {c : Int} : ∃ kd : Kn, pItem (.lst [.str "marks", .str "bare", .str "new"]) (.int (c.fmod 3)) = pure (.str (knS kd)) := by
  have h := fmod_lt c (b := 3) (by decide)
  obtain ⟨j, hj⟩ := Int.eq_ofNat_of_zero_le h.1
  rw [hj]
  match j, (show j < 3 by omega) with
  | 0, _ => exact ⟨.marks, e_item_lst (k := 0) rfl⟩
  | 1, _ => exact ⟨.bare, e_item_lst (k := 1) rfl⟩
  | 2, _ => exact ⟨.new, e_item_lst (k := 2) rfl⟩
theorem rep_flat {α : Type} (x : α) : ∀ m : Nat, (List.replicate m [x]).flatten = List.replicate m x
  | 0 => rfl
  | m + 1 => by rw [List.replicate_succ, List.flatten_cons, rep_flat x m, List.replicate_succ]; rfl
theorem cut_drop {xs : List AV} {k : Nat} (h : k ≤ xs.length) : cut xs (some (k : Int)) none = xs.drop k := by
  have : clipA xs.length (k : Int) = k := by unfold clipA; rw [if_neg (by omega), Int.min_eq_left (by omega), Int.max_eq_right (by omega), Int.toNat_natCast]
  unfold cut
  simp only [Option.elim, this]
  exact List.take_of_length_le (by rw [List.length_drop]; exact Nat.le_refl _)

theorem mul_p {m : Nat} {x : AV} (hm : m ≤ 2000) : pBin false .Mult (.lst [x]) (.int m) = pure (.lst (List.replicate m x)) := by
  have hL := LIMis
  show (do let xs ← (pure [x] : M _); if (m : Int) < 0 ∨ 1048576 < (m : Int) ∨ LIM < (m : Int).toNat * xs.length then stuck else newL false (List.replicate (m : Int).toNat xs).flatten) = _
  rw [pure_bind, if_neg (by rw [Int.toNat_natCast]; show ¬ (_ ∨ _ ∨ LIM < m * 1); omega), Int.toNat_natCast, rep_flat]
  exact e_newL (by rw [List.length_replicate]; omega)

theorem nl0 : newL false [] = pure (.lst []) := e_newL (Nat.zero_le _)
theorem nl1 (a : AV) : newL false [a] = pure (.lst [a]) := e_newL (by have := LIMis; show 1 ≤ LIM; omega)
theorem nl2 (a b : AV) : newL false [a, b] = pure (.lst [a, b]) := e_newL (by have := LIMis; show 2 ≤ LIM; omega)
theorem nl3 (a b c : AV) : newL false [a, b, c] = pure (.lst [a, b, c]) := e_newL (by have := LIMis; show 3 ≤ LIM; omega)
theorem eq_bare (kd : Kn) : pCmp .Eq (.str (knS kd)) (.str "bare") = pure (isB kd) := by cases kd <;> kernel_rfl
theorem eq_new (kd : Kn) : pCmp .Eq (.str (knS kd)) (.str "new") = pure (decide (kd = .new)) := by cases kd <;> kernel_rfl
noncomputable def dSt (m : Nat) (kd : Kn) : AV := .lst [tdV (td16 kd m 0), tdV (td16 kd m 1), tdV (td16 kd m 2)]
noncomputable def dVl (one two : Int) (rest : List Int) (kd : Kn) : AV := .lst [.lst ((vals16 one two rest kd 0).map .int), .lst ((vals16 one two rest kd 1).map .int), .lst ((vals16 one two rest kd 2).map .int)]
noncomputable def dPl (m : Nat) (kd : Kn) : AV := .lst [.lst (plc16 m kd 0), .lst (plc16 m kd 1), .lst (plc16 m kd 2)]
noncomputable def due16 (one two : Int) (rest : List Int) (kd : Kn) : AV := .tup [dSt rest.length kd, dVl one two rest kd, dPl rest.length kd]
theorem du0 {one two : Int} {rest : List Int} {kd : Kn} : pItem (due16 one two rest kd) (.int 0) = pure (dSt rest.length kd) := e_it0
theorem du1 {one two : Int} {rest : List Int} {kd : Kn} : pItem (due16 one two rest kd) (.int 1) = pure (dVl one two rest kd) := e_it1
theorem du2 {one two : Int} {rest : List Int} {kd : Kn} : pItem (due16 one two rest kd) (.int 2) = pure (dPl rest.length kd) := e_item_tup (k := 2) rfl
theorem s_due (n : Nat) (kd : Kn) (x0 x1 one two : Int) {rest : List Int} (hl : rest.length ≤ 56) : callP P16 (n + 1) "_law_due" [.lst ((x0 :: x1 :: rest).map .int), .str (knS kd), .int one, .int two] = pure (due16 one two rest kd) := by
  have hL := LIMis
  refine callQ (σ := [some (.lst ((x0 :: x1 :: rest).map .int)), some (.str (knS kd)), some (.int one), some (.int two), none, none, none, none, none, none]) (by kernel_rfl) (by kernel_rfl) (by kernel_rfl) ?_
  have sl : pSlice false (.lst ((x0 :: x1 :: rest).map .int)) (some 2) none = pure (.lst (rest.map .int)) := by
    show newL false (cut ((x0 :: x1 :: rest).map .int) (some ((2 : Nat) : Int)) none) = _
    rw [cut_drop (by rw [List.length_map]; show 2 ≤ rest.length + 2; omega)]
    exact e_newL (by show (rest.map AV.int).length ≤ LIM; rw [List.length_map]; omega)
  have mm : ∀ x : AV, pBin false .Mult (.lst [x]) (.int (rest.length : Int)) = pure (.lst (List.replicate rest.length x)) := fun x => mul_p (by omega)
  have m2 : ∀ x : AV, pBin false .Mult (.lst [x]) (.int 2) = pure (.lst [x, x]) := fun x => mul_p (m := 2) (by decide)
  have m3 : ∀ x : AV, pBin false .Mult (.lst [x]) (.int 3) = pure (.lst [x, x, x]) := fun x => mul_p (m := 3) (by decide)
  have a1 : ∀ a b y : AV, pBin false .Add (.lst [a, b]) (.lst (List.replicate rest.length y)) = pure (.lst ([a, b] ++ List.replicate rest.length y)) := fun a b y => m_addL (by rw [List.length_replicate]; show 2 + _ ≤ _; omega)
  have a2 : ∀ a b y c d : AV, pBin false .Add (.lst ([a, b] ++ List.replicate rest.length y)) (.lst [c, d]) = pure (.lst ([a, b] ++ List.replicate rest.length y ++ [c, d])) := fun a b y c d => m_addL (by rw [List.length_append, List.length_replicate]; show 2 + _ + 2 ≤ _; omega)
  have a3 : ∀ a b c : AV, pBin false .Add (.lst [a, b]) (.lst [c]) = pure (.lst [a, b, c]) := fun a b c => m_addL (by show 3 ≤ _; omega)
  have v1 : ∀ a : AV, pBin false .Add (.lst [a]) (.lst (rest.map .int)) = pure (.lst (a :: rest.map .int)) := fun a => m_addL (by rw [List.length_map]; show 1 + _ ≤ _; omega)
  have v2 : ∀ a b : AV, pBin false .Add (.lst [a, b]) (.lst (rest.map .int)) = pure (.lst (a :: b :: rest.map .int)) := fun a b => m_addL (by rw [List.length_map]; show 2 + _ ≤ _; omega)
  have ln : pBI false .len [.lst ((x0 :: x1 :: rest).map .int)] = pure (.int ((rest.length : Int) + 2)) := by rw [e_len_lst, List.length_map]; rfl
  rw [c_due_0]
  simp only [pure_bind, sl, nl0, nl1, nl2, nl3, e_eachp, e_each0, e_len_lst (xs := rest.map .int), List.length_map, mm, eq_bare]
  cases kd with
  | bare =>
    simp only [isB, pure_bind, a1, m3, nl3, e_eachp, e_each0, e_go_ret]
    rfl
  | marks =>
    simp only [isB, e_go_next, c_due_t_3, nl1, nl2, nl3, e_eachp, e_each0, pure_bind, a1, eq_new, show decide (Kn.marks = Kn.new) = false from rfl, c_due_t_6, v1, v2]
    rfl
  | new =>
    simp only [isB, e_go_next, c_due_t_3, nl1, nl2, nl3, e_eachp, e_each0, pure_bind, a1, a2, a3, m2, eq_new, show decide (Kn.new = Kn.new) = true from rfl, ln, m_add, c_due_t_6, v1, v2]
    rfl
theorem it3 {a b c : AV} : ∀ {k : Nat} {x : AV}, ([a, b, c] : List AV)[k]? = some x → pItem (.lst [a, b, c]) (.int k) = pure x := fun h => e_item_lst h
theorem it_last {ys : List AV} {a : AV} : pItem (.lst (ys ++ [a])) (.int (-1)) = pure a := by
  show ofOpt ((idx (-1) (ys ++ [a]).length).bind fun j => (ys ++ [a])[j]?) = _
  have : idx (-1) (ys ++ [a]).length = some ys.length := by
    unfold idx
    rw [List.length_append, List.length_singleton, if_neg (by decide), if_pos (by omega)]
    congr 1
    omega
  rw [this]
  show ofOpt ((ys ++ [a])[ys.length]?) = _
  rw [List.getElem?_concat_length]; rfl
theorem at16 {one two : Int} {rest : List Int} {kd : Kn} : ∀ k : Nat, k < 3 → (pItem (dSt rest.length kd) (.int k) = pure (tdV (td16 kd rest.length k))) ∧
    (pItem (dVl one two rest kd) (.int k) = pure (.lst ((vals16 one two rest kd k).map .int))) ∧ (pItem (dPl rest.length kd) (.int k) = pure (.lst (plc16 rest.length kd k))) ∧
    ∃ i : Nat, i < 3 ∧ pItem (.lst [.int 0, .int 2, .int 2]) (.int k) = pure (natV i) ∧ W3 (k + 1) = W3 k ++ [i]
  | 0, _ => ⟨it3 rfl, it3 rfl, it3 rfl, 0, by decide, it3 rfl, rfl⟩
  | 1, _ => ⟨it3 rfl, it3 rfl, it3 rfl, 2, by decide, it3 rfl, rfl⟩
  | 2, _ => ⟨it3 rfl, it3 rfl, it3 rfl, 2, by decide, it3 rfl, rfl⟩
theorem sm_td {H : AHeap} (td : Td) (n : Nat) : ∃ c, c ≤ 5 ∧ Sm H (n + 1) c (tdV td, tdV td) := by
  have s : ∀ {x : Str}, PyData.strOk x = true → ∃ c, c ≤ 1 ∧ Sm H n c (.str x, .str x) := fun h => ⟨1, Nat.le_refl _, Sm.lf (.inr (.inr (.inl ⟨_, rfl, h⟩))) n⟩
  have i : ∀ {v : Int}, ∃ c, c ≤ 1 ∧ Sm H n c (.int v, .int v) := ⟨1, Nat.le_refl _, Sm.lf lf_int n⟩
  have b : ∀ {v : Bool}, ∃ c, c ≤ 1 ∧ Sm H n c (.bool v, .bool v) := ⟨1, Nat.le_refl _, Sm.lf (.inr (.inr (.inr ⟨_, rfl⟩))) n⟩
  have x : ∀ {v : Option Nat}, ∃ c, c ≤ 1 ∧ Sm H n c (ixV v, ixV v) := fun {v} => match v with
    | none => ⟨1, Nat.le_refl _, Sm.lf (.inl rfl) n⟩
    | some _ => i
  have all : ∀ {xs : List AV}, xs.length ≤ 4 → (∀ x ∈ xs, ∃ c, c ≤ 1 ∧ Sm H n c (x, x)) → ∃ c, c ≤ 5 ∧ Sm H (n + 1) c (.tup xs, .tup xs) := fun {xs} hl h => by
    obtain ⟨c, h1, h2⟩ := Sm.sq (k := true) (x := .tup xs) (y := .tup xs) rfl rfl h
    exact ⟨c, by omega, h2⟩
  have nil : ∀ x ∈ ([] : List AV), ∃ c, c ≤ 1 ∧ Sm H n c (x, x) := fun x h => nomatch h
  have cons : ∀ {a : AV} {r : List AV}, (∃ c, c ≤ 1 ∧ Sm H n c (a, a)) → (∀ x ∈ r, ∃ c, c ≤ 1 ∧ Sm H n c (x, x)) → ∀ x ∈ a :: r, ∃ c, c ≤ 1 ∧ Sm H n c (x, x) := fun h1 h2 x hx => (List.mem_cons.mp hx).elim (fun e => e ▸ h1) (h2 x)
  cases td with
  | take => exact all (by show 2 ≤ 4; decide) (cons (s (by kernel_rfl)) (cons i nil))
  | look => exact all (by show 3 ≤ 4; decide) (cons (s (by kernel_rfl)) (cons x (cons i nil)))
  | see => exact all (by show 4 ≤ 4; decide) (cons (s (by kernel_rfl)) (cons i (cons i (cons x nil))))
  | put => exact all (by show 2 ≤ 4; decide) (cons (s (by kernel_rfl)) (cons b nil))
  | rest => exact all (by show 1 ≤ 4; decide) (cons (s (by kernel_rfl)) nil)
theorem v16_held {t : Tw} {n : Nat} {pl sp : List Nat} {vals : List Int} {held : Option Nat} (V : V16 t n pl sp vals held) : t.hands.flatMap heldOf = held.toList ∧ (∀ h ∈ t.hands, ∀ w, h.work = some w → w.next ≠ .walk) ∧ ∀ h ∈ t.hands, ∀ b ∈ heldOf h, b ∈ held.toList := by
  obtain ⟨a, ha, ha2⟩ := V.h0
  obtain ⟨b, hb, hb2⟩ := V.h1
  obtain ⟨c, hc, hc2⟩ := V.h2
  have e : t.hands = [a, b, c] := by
    refine List.ext_getElem? fun j => ?_
    match j with
    | 0 => exact ha
    | 1 => exact hb
    | 2 => exact hc
    | j + 3 => rw [List.getElem?_eq_none (by rw [V.hl]; omega)]; rfl
  have h0 : heldOf a = [] := by
    unfold heldOf
    cases hw : a.work with
    | none => rfl
    | some w => simp only [(ha2 w hw).1]
  have h1 : heldOf b = [] := by unfold heldOf; rw [hb2]
  have h2 : heldOf c = held.toList ∧ ∀ w, c.work = some w → w.next ≠ .walk := by
    unfold heldOf
    cases held with
    | none => have hc2 : c.work = none := hc2; rw [hc2]; exact ⟨rfl, fun w q => nomatch q⟩
    | some f =>
      obtain ⟨w, q1, q2, q3⟩ := hc2
      rw [q1]
      simp only [q2]
      exact ⟨rfl, fun w' q => Option.some.inj q ▸ q3⟩
  rw [e]
  refine ⟨by rw [List.flatMap_cons, List.flatMap_cons, List.flatMap_cons, List.flatMap_nil, h0, h1, h2.1, List.append_nil]; rfl, fun h hm w hw => ?_, fun h hm x hx => ?_⟩
  · simp only [List.mem_cons, List.not_mem_nil, or_false] at hm
    rcases hm with rfl | rfl | rfl
    · exact (ha2 w hw).2
    · rw [hb2] at hw; cases hw
    · exact h2.2 w hw
  · simp only [List.mem_cons, List.not_mem_nil, or_false] at hm
    rcases hm with rfl | rfl | rfl
    · rw [h0] at hx; cases hx
    · rw [h1] at hx; cases hx
    · exact h2.1 ▸ hx

end Mine


set_option autoImplicit false
set_option linter.unusedVariables false
set_option maxRecDepth 100000
namespace Mine
open PySem PyProof.Rows

theorem Fc.app {H X : AHeap} {ls : List Nat} {os : List AO} (F : Fc H H ls os) : Fc (H ++ X) (H ++ X) ls os :=
  ⟨fun j l o h1 h2 => by have := F.all j l o h1 h2; rw [List.getElem?_append_left (List.getElem?_eq_some_iff.mp this).1]; exact this, F.nd, Nat.le_refl _, fun _ _ _ => rfl⟩
theorem TRep.app {H X : AHeap} {L : Ly} {t : Tw} {U : Nat → Prop} (T : TRep H L t U) : TRep (H ++ X) L t U := by
  obtain ⟨g, hs, T⟩ := T
  exact ⟨g, hs, T.gis, ⟨T.rep.hsv, fun i h hi => (T.rep.one i h hi).imp (fun q => ⟨q.1, Fc.app q.2⟩) (fun q => ⟨q.1, Fc.app q.2⟩), T.rep.ow⟩, T.len, T.his, fun x hx => ⟨by rw [List.length_append]; exact Nat.lt_of_lt_of_le (T.fr x hx).1 (Nat.le_add_right _ _), (T.fr x hx).2⟩⟩
theorem TRep.lt {H : AHeap} {L : Ly} {t : Tw} {U : Nat → Prop} (T : TRep H L t U) {x : Nat} (h : U x) : x < H.length := by
  obtain ⟨g, hs, T⟩ := T
  exact (T.fr x h).1

theorem cut58 {v0 v1 : Int} {ys : List Int} : ∃ rest : List Int, rest.length ≤ 56 ∧ cut ((v0 :: v1 :: ys).map .int) none (some 58) = (v0 :: v1 :: rest).map .int := by
  refine ⟨ys.take 56, by rw [List.length_take]; exact Nat.min_le_left _ _, ?_⟩
  unfold cut
  simp only [Option.elim, List.length_map, List.drop_zero, Nat.sub_zero]
  have ha : clipA (v0 :: v1 :: ys).length 58 = min (ys.length + 2) 58 := by
    unfold clipA
    rw [if_neg (by decide), show (v0 :: v1 :: ys).length = ys.length + 2 from rfl]
    rcases Nat.le_total (ys.length + 2) 58 with h | h
    · rw [Int.min_eq_right (show ((ys.length + 2 : Nat) : Int) ≤ 58 from Int.ofNat_le.mpr h), Int.max_eq_right (Int.natCast_nonneg _), Int.toNat_natCast, Nat.min_eq_left h]
    · rw [Int.min_eq_left (show (58 : Int) ≤ _ from Int.ofNat_le.mpr h), Nat.min_eq_right h]; rfl
  rw [ha, ← List.map_take]
  congr 1
  rcases Nat.le_total (ys.length + 2) 58 with h | h
  · rw [Nat.min_eq_left h, show ys.length + 2 = (v0 :: v1 :: ys).length from rfl, List.take_length, List.take_of_length_le (by omega)]
  · rw [Nat.min_eq_right h]; rfl
/-- the programs, as they lie on the heap -/
structure Pg16 (H : AHeap) (one two : Int) : Prop where
  a : H[0]? = some (.list [deedV ⟨.pop, 0⟩])
  b : H[1]? = some (.list [deedV ⟨.pop, 0⟩, deedV ⟨.pop, 0⟩, deedV ⟨.push, two⟩])
  c : H[2]? = some (.list [deedV ⟨.push, one⟩])
  l : H[3]? = some (.list [.loc 0, .loc 1, .loc 2])
theorem Pg16.keep {H H' : AHeap} {one two : Int} (T : Pg16 H one two) (k : ∀ x, x < H.length → H'[x]? = H[x]?) : Pg16 H' one two :=
  ⟨(k _ (List.getElem?_eq_some_iff.mp T.a).1).trans T.a, (k _ (List.getElem?_eq_some_iff.mp T.b).1).trans T.b, (k _ (List.getElem?_eq_some_iff.mp T.c).1).trans T.c, (k _ (List.getElem?_eq_some_iff.mp T.l).1).trans T.l⟩
theorem Pg16.progs {H : AHeap} {one two : Int} (T : Pg16 H one two) : Progs H 3 [0, 1, 2] (ps16 one two) := by
  refine ⟨T.l, rfl, fun i q p h1 h2 => ?_, fun p hp => ?_⟩
  · match i, h1, h2 with
    | 0, h1, h2 => cases h1; cases h2; exact T.a
    | 1, h1, h2 => cases h1; cases h2; exact T.b
    | 2, h1, h2 => cases h1; cases h2; exact T.c
    | _ + 3, h1, h2 => cases h1
  · unfold ps16 at hp
    simp only [List.mem_cons, List.not_mem_nil, or_false] at hp
    rcases hp with rfl | rfl | rfl
    · show 1 ≤ 60; decide
    · show 3 ≤ 60; decide
    · show 1 ≤ 60; decide
theorem W3_lt : ∀ k, k < 4 → ∀ i ∈ W3 k, i < 3
  | 0, _ => by decide
  | 1, _ => by decide
  | 2, _ => by decide
  | 3, _ => by decide
theorem W3_len (k : Nat) : (W3 k).length ≤ 15 := by
  unfold W3
  rw [List.length_append, List.length_take]
  exact Nat.add_le_add_left (Nat.min_le_right k 3) 12
theorem sm_strs {H : AHeap} {x y : AV} {pl sp hd : List Nat} {j n : Nat} (hx : Sq H false x (Qp pl sp hd j)) (hy : Sq H false y (Qp pl sp hd j)) : ∃ c, c ≤ (Qp pl sp hd j).length + 1 ∧ Sm H (n + 1) c (x, y) := by
  obtain ⟨c, h1, h2⟩ := Sm.sq (n := n) (C := 1) hx hy fun z hz => by
    have s : ∀ {x : Str}, PyData.strOk x = true → ∃ c, c ≤ 1 ∧ Sm H n c (.str x, .str x) := fun h => ⟨1, Nat.le_refl _, Sm.lf (.inr (.inr (.inl ⟨_, rfl, h⟩))) n⟩
    unfold Qp at hz
    rcases List.mem_append.mp hz with hz | hz
    · rcases List.mem_append.mp hz with hz | hz
      · rw [List.eq_of_mem_replicate hz]; exact s (by kernel_rfl)
      · rw [List.eq_of_mem_replicate hz]; exact s (by kernel_rfl)
    · rw [List.eq_of_mem_replicate hz]; exact s (by kernel_rfl)
  rw [Nat.mul_one] at h1
  exact ⟨c, h1, h2⟩
theorem SmL.by {P : Nat → AV × AV → Prop} {C : Nat} : ∀ {l : List (AV × AV)}, (∀ p ∈ l, ∃ c, c ≤ C ∧ P c p) → ∃ c, c ≤ l.length * C ∧ SmL P c l
  | [], _ => ⟨0, Nat.zero_le _, rfl⟩
  | p :: r, h => by
    obtain ⟨a, h1, h2⟩ := h p List.mem_cons_self
    obtain ⟨b, h3, h4⟩ := SmL.by (l := r) fun q hq => h q (List.mem_cons_of_mem _ hq)
    refine ⟨a + b, ?_, a, b, rfl, h2, h4⟩
    rw [List.length_cons, Nat.succ_mul, Nat.add_comm]
    exact Nat.add_le_add h3 h1
/-- the places told, and those due -/
theorem sm_plc {H X : AHeap} {n : Nat} {pl sp hd : List Nat} (hn : n ≤ 100) (hl : pl.length + sp.length + hd.length ≤ 100) :
    ∃ c, c < 100000 ∧ Sm (PH H n (Qp pl sp hd) X) 5 c (.loc (H.length + n), .lst ((List.range n).map fun j => .lst (Qp pl sp hd j))) := by
  have ql : ∀ j, (Qp pl sp hd j).length ≤ 100 := fun j => by
    unfold Qp
    rw [List.length_append, List.length_append, List.length_replicate, List.length_replicate, List.length_replicate]
    have h1 := List.count_le_length (a := j) (l := pl)
    have h2 := List.count_le_length (a := j) (l := sp)
    have h3 := List.count_le_length (a := j) (l := hd)
    omega
  have ll : (locs H.length n).length = ((List.range n).map fun j => AV.lst (Qp pl sp hd j)).length := by unfold locs; rw [List.length_map, List.length_map]
  obtain ⟨c, h1, h2⟩ := SmL.by (P := Sm (PH H n (Qp pl sp hd) X) 4) (C := 101) (l := (locs H.length n).zip ((List.range n).map fun j => AV.lst (Qp pl sp hd j))) fun p hp => by
    unfold locs at hp
    rw [List.zip_map', List.mem_map] at hp
    obtain ⟨j, hj, rfl⟩ := hp
    have hj := List.mem_range.mp hj
    obtain ⟨c, g1, g2⟩ := sm_strs (H := PH H n (Qp pl sp hd) X) (x := .loc (H.length + j)) (y := .lst (Qp pl sp hd j)) (n := 3) (.inr ⟨_, rfl, PH.cell hj⟩) (.inl rfl)
    exact ⟨c, Nat.le_trans g1 (Nat.succ_le_succ (ql j)), g2⟩
  have zl : ((locs H.length n).zip ((List.range n).map fun j => AV.lst (Qp pl sp hd j))).length ≤ n := by
    rw [List.length_zip]
    refine Nat.le_trans (Nat.min_le_left _ _) ?_
    unfold locs
    rw [List.length_map, List.length_range]; exact Nat.le_refl _
  have hm : ((locs H.length n).zip ((List.range n).map fun j => AV.lst (Qp pl sp hd j))).length * 101 ≤ 100 * 101 := Nat.mul_le_mul_right _ (Nat.le_trans zl hn)
  exact ⟨c + 1, by omega, .inr ⟨false, _, _, c, .inr ⟨_, rfl, PH.tab (k := 0)⟩, .inl rfl, ll, rfl, h2⟩⟩
theorem vals_len {one two : Int} {rest : List Int} (hr : rest.length ≤ 56) {kd : Kn} {k : Nat} : (vals16 one two rest kd k).length ≤ 58 := by
  have h1 : (one :: two :: rest).length ≤ 58 := Nat.add_le_add_right hr 2
  have h2 : (two :: rest).length ≤ 58 := Nat.le_trans (Nat.add_le_add_right hr 1) (by decide)
  unfold vals16
  split
  · exact (by decide : 1 ≤ 58)
  · exact h1
  · exact h2
theorem s_turn (kd : Kn) {x0 x1 one two : Int} {rest : List Int} (hr : rest.length ≤ 56) {k : Nat} (hk : k < 3) {H : AHeap} {lw : Nat} (P : Pg16 H one two) (hw : H[lw]? = some (.list ((W3 (k + 1)).map natV))) {o1 o10 o11 : Option AV} (a : AV) :
    Rn (forB P16 (callP P16 9) "law" [(8, 0)] 1 29 a [o1, some (.int k), some (.lst ((x0 :: x1 :: rest).map .int)), some (.str (knS kd)), some (.int one), some (.int two), some (.loc 3), some (.loc lw), some (due16 one two rest kd), o10, o11]) H fun r H' =>
      (∃ o10 o11, r = .next [o1, some (.int k), some (.lst ((x0 :: x1 :: rest).map .int)), some (.str (knS kd)), some (.int one), some (.int two), some (.loc 3), some (.loc lw), some (due16 one two rest kd), o10, o11]) ∧ ∀ x, x < H.length → H'[x]? = H[x]? := by
  have hL := LIMis
  obtain ⟨⟨n, pl, sp, held, V, hpl, hn, hpll, hsp, hhd, hspl⟩, W', htd⟩ := see16 kd x0 x1 one two rest k hk
  obtain ⟨i1, i2, i3, _⟩ := at16 (one := one) (two := two) (rest := rest) (kd := kd) k hk
  rw [c_law_for80_1]
  refine .bind (.mono (s_woven 3 (kd := kd) (xs := x0 :: x1 :: rest) (W := W3 (k + 1)) (lp := 3) (lw := lw) (PL := [0, 1, 2]) (by show rest.length + 2 ≤ 60; omega) P.progs (show 1 ≤ 3 ∧ 3 ≤ 20 from by decide) hw (fun i hi => W3_lt (k + 1) (by omega) i hi) (Nat.le_trans (W3_len _) (by decide))) ?_)
  rintro _ H3 ⟨Ly, rfl, T, hf3⟩
  generalize run (tw0 kd (x0 :: x1 :: rest) (ps16 one two)) (W3 (k + 1)) = t at V T
  have h0 : 0 < t.hands.length := by rw [V.hl]; decide
  obtain ⟨l, pr, p, wv, w, rs, _, _, rb, _⟩ := T.reads h0
  rw [htd, List.map_append]
  simp only [e_it0, e_it1, du0, du1, pure_bind, List.map_cons (l := []), List.map_nil (f := tdV), it_last, i1, i2, e_eachp, e_each0]
  obtain ⟨c, hc1, hc2⟩ := sm_td (H := H3) (td16 kd rest.length k) 4
  refine .bind (.bind (.bind (.bind ?_)))
  refine .mono (s_like 8 H3 hc2 (by omega)) ?_
  rintro _ H4 ⟨rfl, X4, rfl⟩
  have at3 : ∀ {X : AHeap} {x : Nat} {o : AO}, H3[x]? = some o → (H3 ++ X)[x]? = some o := fun h => by rw [List.getElem?_append_left (List.getElem?_eq_some_iff.mp h).1]; exact h
  rw [e_truth]
  refine .pure (.pure (.bind (.bind (.bind (.bind (.eachC ?_))))))
  refine .mono (s_values_bf 7 (c := cn Ly l t pr p wv w) (at3 rs) (at3 rb) rfl V.bf (by omega)) ?_
  rintro _ H5 ⟨rfl, X5, rfl⟩
  refine .eachP (.each0 ?_)
  rw [V.vals]
  obtain ⟨c, hc1, hc2⟩ := sm_ints (H := H3 ++ X4 ++ X5) (k := false) (xs := vals16 one two rest kd k) (.inl rfl) (.inl rfl) 4
  have vl16 : (vals16 one two rest kd k).length ≤ 58 := by
    exact vals_len hr
  refine .mono (s_like 8 _ hc2 (by omega)) ?_
  rintro _ H6 ⟨rfl, X6, rfl⟩
  rw [e_truth]
  refine .pure (.pure (.pure ?_))
  show Rn (tl P16 _ "law" [(8, 0), (1, 0)] 2 27 _) _ _
  rw [c_law_t80_10_2]
  simp only [e_it0, du2, pure_bind, i3, e_eachp, e_each0]
  rw [List.append_assoc, List.append_assoc]
  have T6 : TRep (H3 ++ (X4 ++ (X5 ++ X6))) Ly t fun x => x < H.length := T.app
  obtain ⟨f1, f2, f3⟩ := v16_held V
  refine .bind (.bind (.bind (.bind (.eachC ?_))))
  refine .mono (s_places 6 T6 h0 V.bf (by omega) (by rw [V.len]; omega) (by rw [V.spare, V.len]; exact hsp) (by rw [V.spare]; omega) f2 (fun h hm b hb => by rw [V.len]; exact hhd b (f3 h hm b hb)) (by rw [V.hl]; decide)) ?_
  rintro _ H7 ⟨rfl, X7, rfl⟩
  refine .eachP (.each0 ?_)
  rw [f1, V.spare, V.len, ← hpl, show qf (.str "held") (qf (.str "spare") (qf (.str "pile") (fun _ => []) pl) sp) held.toList = Qp pl sp held.toList from funext fun j => qf_is pl sp held.toList j]
  have hdl : held.toList.length ≤ 1 := by cases held with
    | none => exact Nat.zero_le _
    | some _ => exact Nat.le_refl _
  obtain ⟨c, hc1, hc2⟩ := sm_plc (H := H3 ++ (X4 ++ (X5 ++ X6))) (X := X7) (n := n) (pl := pl) (sp := sp) (hd := held.toList) (by omega) (by omega)
  refine .mono (s_like 8 _ hc2 hc1) ?_
  rintro _ H8 ⟨rfl, X8, rfl⟩
  rw [e_truth]
  refine .pure (.pure ?_)
  refine .pure ⟨⟨_, _, rfl⟩, fun x hx => ?_⟩
  have l3 : x < H3.length := T.lt hx
  unfold PH
  rw [List.append_assoc, List.append_assoc, List.getElem?_append_left l3]
  exact hf3 x hx
theorem law5 (kd : Kn) (x0 x1 one two : Int) {rest : List Int} (hrl : rest.length ≤ 56) (v : AV) : Rn (tl P16 (callP P16 9) "law" [] 5 35 [some v, none, some (.lst ((x0 :: x1 :: rest).map .int)), some (.str (knS kd)), some (.int one), some (.int two), none, none, none, none, none]) [] (Fl (fun _ _ => AV.none = .bool true) fun a _ => a = .bool true) := by
  have hL := LIMis
  rw [c_law_t_5, s_due 8 kd x0 x1 one two hrl]
  refine .bind (.bind (.eachE (newT (by show 1 ≤ LIM; omega)) (.eachE (newT (by show 3 ≤ LIM; omega)) (.eachE (newT (by show 1 ≤ LIM; omega)) (.each0 (.of (newT (by show 3 ≤ LIM; omega)) ?_))))))
  refine .bof (newT (by show 12 ≤ LIM; omega)) ?_
  rw [pure_bind, e_range1, pure_bind, srcOf_range (by decide) (by decide), pure_bind]
  refine .then (forI (xs := rangeL 0 3) (fun k σ H => ∃ o1 o2 o10 o11 lw, σ = [o1, o2, some (.lst ((x0 :: x1 :: rest).map .int)), some (.str (knS kd)), some (.int one), some (.int two), some (.loc 3), some (.loc lw), some (due16 one two rest kd), o10, o11] ∧ Pg16 H one two ∧ H[lw]? = some (.list ((W3 k).map natV)))
    (Q := fun r H => ∃ o1 o2 o3 o4 o5 o6 o7 o8 o9 o10 o11, r = .next [o1, o2, o3, o4, o5, o6, o7, o8, o9, o10, o11]) (by rw [rangeL_length]; decide) ⟨_, _, _, _, 4, rfl, ⟨rfl, rfl, rfl, rfl⟩, rfl⟩ ?_ ?_) ?_
  · rintro k a σ H ha ⟨o1, o2, o10, o11, lw, rfl, P, hw⟩
    obtain ⟨rfl, hk⟩ := rangeL_at ha
    have hk : k < 3 := hk
    obtain ⟨_, _, _, i, _, hi, hW⟩ := at16 (one := one) (two := two) (rest := rest) (kd := kd) k hk
    rw [Int.zero_add, c_law_for_8]
    simp only [nl3, pure_bind, hi, e_eachp, e_each0, nl1, e_range1]
    refine .bof (add_loc hw (by rw [List.length_map]; have := W3_len k; show _ + 1 ≤ _; omega)) ?_
    rw [srcOf_range (by decide) (by decide), pure_bind]
    have P1 : Pg16 (H ++ [.list ((W3 k).map natV ++ [natV i])]) one two := P.keep fun x hx => List.getElem?_append_left hx
    have hw1 : (H ++ [AO.list ((W3 k).map natV ++ [natV i])])[H.length]? = some (.list ((W3 (k + 1)).map natV)) := by rw [hW, List.map_append]; exact app_at
    refine .then (forI (xs := rangeL 0 2) (fun j σ H2 => ∃ o10 o11, σ = [o1, some (.int k), some (.lst ((x0 :: x1 :: rest).map .int)), some (.str (knS kd)), some (.int one), some (.int two), some (.loc 3), some (.loc H.length), some (due16 one two rest kd), o10, o11] ∧ Pg16 H2 one two ∧ H2[H.length]? = some (.list ((W3 (k + 1)).map natV)))
      (Q := fun r H2 => ∃ o10 o11, r = .next [o1, some (.int k), some (.lst ((x0 :: x1 :: rest).map .int)), some (.str (knS kd)), some (.int one), some (.int two), some (.loc 3), some (.loc H.length), some (due16 one two rest kd), o10, o11] ∧ Pg16 H2 one two ∧ H2[H.length]? = some (.list ((W3 (k + 1)).map natV))) (by rw [rangeL_length]; decide) ⟨_, _, rfl, P1, hw1⟩ ?_ ?_) ?_
    · rintro j a σ H2 ha ⟨o10, o11, rfl, P2, hw2⟩
      refine (s_turn kd hrl hk P2 hw2 a).mono ?_
      rintro _ H3 ⟨⟨o10, o11, rfl⟩, kp⟩
      exact ⟨_, _, rfl, P2.keep kp, (kp _ (List.getElem?_eq_some_iff.mp hw2).1).trans hw2⟩
    · rintro σ H2 ⟨o10, o11, rfl, P2, hw2⟩
      exact ⟨_, _, rfl, P2, hw2⟩
    · rintro r H2 ⟨o10, o11, rfl, P2, hw2⟩
      exact .pure ⟨_, _, _, _, _, rfl, P2, hw2⟩
  · rintro σ H ⟨o1, o2, o10, o11, lw, rfl, _⟩
    exact ⟨_, _, _, _, _, _, _, _, _, _, _, rfl⟩
  · rintro r H ⟨o1, o2, o3, o4, o5, o6, o7, o8, o9, o10, o11, rfl⟩
    rw [e_go_next, c_law_t_9]
    exact .pure rfl
theorem s_law (ns : List Int) (hns : ns.length ≤ 63) : Rn (callP P16 10 "law" [.lst (ns.map .int)]) [] fun a _ => a = .bool true := by
  have hL := LIMis
  refine callRn (n := 9) (σ := [some (.lst (ns.map .int)), none, none, none, none, none, none, none, none, none, none]) (by kernel_rfl) (by kernel_rfl) (by kernel_rfl) ?_
  obtain ⟨ys, hy, hs⟩ := s_start_by 7 (cellAt ns 2)
  obtain ⟨kd, hki⟩ := kind3 (c := cellAt ns 3)
  have c2 : callP P16 9 "_law_cell_at" [.lst (ns.map .int), .int 2] = _ := s_cell_at 7 ns 2
  have c3 : callP P16 9 "_law_cell_at" [.lst (ns.map .int), .int 3] = _ := s_cell_at 7 ns 3
  have c4 : callP P16 9 "_law_cell_at" [.lst (ns.map .int), .int 4] = _ := s_cell_at 7 ns 4
  have d3 : (3 : Int) ≠ 0 ∧ (3 : Int).natAbs < 1073741824 := ⟨by decide, by decide⟩
  have cmp : compLoop (.items (rangeL 0 2)) (fun u1 => (do let y2 ← (do let vs3 ← eachM [(callP P16 9 "_law_cell_at" [.lst (ns.map .int), u1])]; callP P16 9 "_law_value_by" vs3); pure (some y2))) FUEL 0 [] = pure [.int (valueBy (cellAt ns 0)), .int (valueBy (cellAt ns 1))] := by
    rw [compM (fun a => match a with | .int i => .int (valueBy (cellAt ns i.toNat)) | a => a) (by rw [rangeL_length]; decide) fun a ha => ?_]
    · rfl
    · obtain ⟨i, rfl, hi⟩ := mem_rangeL ha
      rw [Int.zero_add, s_cell_at 7 ns i]
      simp only [e_eachp, e_each0, pure_bind, s_value_by, Int.toNat_natCast]
  obtain ⟨rest, hrl, hcut⟩ := cut58 (v0 := valueBy (cellAt ns 0)) (v1 := valueBy (cellAt ns 1)) (ys := ys)
  have ad : pBin false .Add (.lst [.int (valueBy (cellAt ns 0)), .int (valueBy (cellAt ns 1))]) (.lst (ys.map .int)) = pure (.lst ((valueBy (cellAt ns 0) :: valueBy (cellAt ns 1) :: ys).map .int)) := m_addL (by rw [List.length_map]; show 2 + _ ≤ _; omega)
  have sl : pSlice false (.lst ((valueBy (cellAt ns 0) :: valueBy (cellAt ns 1) :: ys).map .int)) none (some 58) = pure (.lst ((valueBy (cellAt ns 0) :: valueBy (cellAt ns 1) :: rest).map .int)) := by
    show newL false (cut _ none (some 58)) = _
    rw [hcut]
    exact e_newL (by rw [List.length_map]; show rest.length + 2 ≤ LIM; omega)
  rw [c_law_0, e_range1, pure_bind, srcOf_range (by decide) (by decide), pure_bind, cmp, c2, c3, c4]
  simp only [pure_bind, nl2, nl3, e_eachp, e_each0, hs, ad, sl, m_mod (i := cellAt ns 3) (j := 3) (by decide), hki, m_div (i := cellAt ns 3) d3, s_value_by]
  exact law5 kd _ _ _ _ hrl _

end Mine


open PySem PySem.W PyProof.Rows
set_option Elab.async false
set_option maxRecDepth 100000
set_option maxHeartbeats 8000000
namespace Mine
noncomputable def t16_KINDS : List (Str × Tok) := [("marks", 305), ("bare", 306), ("new", 307)]
noncomputable def t16_FIRST : List (Str × Tok × Str × Tok) := [("push", 371, "take", 372), ("swap", 373, "take", 374), ("pop", 375, "look", 376), ("top", 377, "look", 378), ("clear", 379, "look", 380)]
noncomputable def t16_BEHIND_LOOK : List (Str × Tok × Str × Tok) := [("push", 387, "put", 388), ("swap", 389, "see", 390), ("pop", 391, "see", 392), ("top", 393, "see", 394), ("clear", 395, "put", 396)]
noncomputable def t16_BEHIND_SEE : List (Str × Tok × Str × Tok) := [("swap", 403, "put", 404), ("pop", 405, "put", 406), ("top", 407, "check", 408)]
noncomputable def D16 : Tbl := [("KINDS", 102, tObj t16_KINDS), ("FIRST", 146, dObj t16_FIRST 5), ("BEHIND_LOOK", 147, dObj t16_BEHIND_LOOK 5), ("BEHIND_SEE", 148, dObj t16_BEHIND_SEE 3)]
noncomputable def q16 : Program := viewOf PySem.Challenge.pw_uf020017_16
noncomputable def loose16 : List Str := ["FIRST", "BEHIND_LOOK", "BEHIND_SEE"]
noncomputable def top16 (w : World) : Prop := (openEnds treeTable PySem.Challenge.pw_uf020017_16 w 6000).map (fun s => (openSeen q16 loose16 (importedModules PySem.Challenge.pw_uf020017_16.main.body) (fun s => xlAt q16 [] s && recOk (RowW.records PySem.Challenge.rw_uf020017_16.row.toRowW) s && tblX D16 s) true s, tblF D16 s)) = some (openGood q16 loose16, tblA D16 w)
theorem left16a (w : World) : top16 (w.withFollow "special-get-raises" false) := by
  unfold top16 openEnds fencedOpening topFrom
  rw [PySem.W.Fast.te10274390034422433532, PySem.W.Fast.te14082659384304107361, PySem.W.Fast.te4187177175401517315, PySem.W.Fast.te14364793385576792824, PySem.W.Fast.te1435165496053646825, PySem.W.Fast.te14289696077712309145, PySem.W.Fast.te5923862056798008813]
  kernel_rfl
theorem left16b (w : World) : top16 (w.withFollow "special-get-raises" true) := by
  unfold top16 openEnds fencedOpening topFrom
  rw [PySem.W.Fast.te10274390034422433532, PySem.W.Fast.te14082659384304107361, PySem.W.Fast.te4187177175401517315, PySem.W.Fast.te14364793385576792824, PySem.W.Fast.te1435165496053646825, PySem.W.Fast.te14289696077712309145, PySem.W.Fast.te5923862056798008813]
  kernel_rfl
theorem left16 : LeftO PySem.Challenge.rw_uf020017_16.row.prog q16 loose16 (fun s => xlAt q16 [] s && recOk (RowW.records PySem.Challenge.rw_uf020017_16.row.toRowW) s && tblX D16 s) (tblF D16) (tblA D16) 6000 :=
  byRow2 (P := top16) "special-get-raises" left16a left16b
theorem said16 : PySem.Challenge.rw_uf020017_16.wellSaid = true := by
  rw [PySem.W.Fast.te9446332074065402090]
  kernel_rfl
theorem promised16 : PySem.Challenge.rw_uf020017_16.row.toRowW.promised := by
  w_witness2
theorem glob16 (w : World) (mean : ExcName → Option Value) (mg mb : Str → Option Value) (h : Heap) (os : OsState) (X : tblXP D16 mg) (Y : tblP D16 w h) (T : Top q16 (looseW q16 loose16) mean mg mb h) (x : Str) (a : AV) (hg : P16.glob x = some a) :
    Gl ⟨PySem.Challenge.rw_uf020017_16.prog, w, h, os, mg, mb⟩ x a := by
  exact AllG.look (Q := Gl ⟨PySem.Challenge.rw_uf020017_16.prog, w, h, os, mg, mb⟩) (l := [("KINDS", g_KINDS), ("MOST_VALUES", g_MOST_VALUES), ("MOST_PROGRAMS", g_MOST_PROGRAMS), ("MOST_DEEDS", g_MOST_DEEDS), ("FIRST", g_FIRST), ("BEHIND_LOOK", g_BEHIND_LOOK), ("BEHIND_SEE", g_BEHIND_SEE), ("MOST_STEPS", g_MOST_STEPS)]) ⟨gl_tup (cx := ⟨PySem.Challenge.rw_uf020017_16.prog, w, h, os, mg, mb⟩) X Y (es := t16_KINDS) (a := 102) (.head _) (by kernel_rfl), gl_int (cx := ⟨PySem.Challenge.rw_uf020017_16.prog, w, h, os, mg, mb⟩) T (i := 60) (by kernel_rfl), gl_int (cx := ⟨PySem.Challenge.rw_uf020017_16.prog, w, h, os, mg, mb⟩) T (i := 20) (by kernel_rfl), gl_int (cx := ⟨PySem.Challenge.rw_uf020017_16.prog, w, h, os, mg, mb⟩) T (i := 60) (by kernel_rfl), gl_dict (cx := ⟨PySem.Challenge.rw_uf020017_16.prog, w, h, os, mg, mb⟩) X Y (es := t16_FIRST) (a := 146) (n := 5) (.tail _ (.head _)) (by decide), gl_dict (cx := ⟨PySem.Challenge.rw_uf020017_16.prog, w, h, os, mg, mb⟩) X Y (es := t16_BEHIND_LOOK) (a := 147) (n := 5) (.tail _ (.tail _ (.head _))) (by decide), gl_dict (cx := ⟨PySem.Challenge.rw_uf020017_16.prog, w, h, os, mg, mb⟩) X Y (es := t16_BEHIND_SEE) (a := 148) (n := 3) (.tail _ (.tail _ (.tail _ (.head _)))) (by decide), gl_int (cx := ⟨PySem.Challenge.rw_uf020017_16.prog, w, h, os, mg, mb⟩) T (i := 2000) (by kernel_rfl), trivial⟩ hg
end Mine
theorem PySem.Challenge.cw_uf020017_16_holds : PySem.Challenge.rw_uf020017_16.Holds := by
  refine Mine.head_law (q := Mine.q16) (loose := Mine.loose16) (D := Mine.D16) (P := Mine.P16) (n := 10) Mine.said16 Mine.left16 (by kernel_rfl) (by kernel_rfl) (by kernel_rfl) (by kernel_rfl) (by kernel_rfl) ⟨rfl, rfl, rfl, rfl, rfl, by decide +kernel⟩ Mine.promised16 rfl rfl (by kernel_rfl) (Mine.defs_ok (by kernel_rfl) (by kernel_rfl)) (by kernel_rfl) (by decide)
    Mine.glob16 (fun ns hl => ?_)
  obtain ⟨a, H', h, rfl⟩ := Mine.s_law ns hl
  exact ⟨H', h⟩

