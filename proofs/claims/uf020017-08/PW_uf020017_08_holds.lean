import PyProof.Rows.All
import PyProof.P3Statements
import PyProof.Claim2
import PyProof.TableCode
import PyProof.Defs
import PyProof.Rows.Top
import PyProof.Rows.CellsFrame
import PyProof.ListOps
import PyProof.TupleOps
import PyProof.P3In
import PyProof.DictTable
import PyProof.RangeFor
import PyProof.SliceMore
import PyProof.Rows.RuleB_mul
import PyProof.Rows.RuleB_floordiv
import PyProof.Rows.RuleB_mod
import PyProof.Rows.RuleB_sub
import PyProof.Rows.RuleB_small
import PyProof.Rows.RuleU_int
import PyProof.Rows.IntRules
import PyProof.Rows.ListMul
import PyProof.Rows.ListMulArg
import PyProof.NeData
import PyProof.IsiPairs
import PyProof.IsiNone
import PyProof.IsiSeqPairs
import PyProof.IsiTupleAll
import PyProof.IsiTupleOf
import PyProof.ListIndexNeg
import PyProof.DictRoads
import PyProof.ListRange
import PyProof.TupleOfSeq
import PyProof.ListCopy
import PyProof.Rows.IntOr
import PyProof.Rows.RuleC_int
import PyProof.DictStraight
import PyProof.WalkInts
import PyProof.ConsumeWalk
import PyProof.Conv_int_bool
import PyProof.Rows.TupMore
import PyProof.DictCopy
import PyProof.LetGo
import KE.KRevSl
import PyProof.Rows.SortPure
import PyProof.Rows.SortWalk
import KE.KDictOf
import PyProof.Rows.Chain
import PyProof.Rows.TupSub
import PyProof.Rows.SeqSlice
import PyProof.CompFree
import PyProof.TupleIter
import PyProof.EnumMake
import PyProof.EnumStmt
import PyProof.Rows.Exc
import PyProof.Raises
import Wide.All
import OpenK.AllK
import Wide.FinOn
import PySem.Challenge.RW_uf020017_08
set_option Elab.async false
set_option tactic.hygienic false
set_option backward.match.sparseCases false
set_option genInjectivity false
set_option genSizeOf false
set_option bootstrap.genMatcherCode false
set_option autoImplicit false
set_option linter.unusedVariables false
namespace Mine
open PySem PyProof.Rows

inductive AV where
  | none
  | bool (b : Bool)
  | int (i : Int)
  | str (s : Str)
  | tup (xs : List AV)
  | lst (xs : List AV)
  | loc (l : Nat)
  | range (a b : Int)
  | cdict (es : List (Str × Str))

inductive AO where
  | list (xs : List AV)
  | dict (es : List (Str × AV))

abbrev AHeap := List AO

noncomputable def LIM : Nat := 2 ^ 20

abbrev M := ExceptT Str (StateT AHeap Option)
noncomputable def stuck {α : Type} : M α := fun u_ => none

noncomputable def FUEL : Nat := 100000

theorem no_some {α : Type} {x : α} {C : Prop} (h : (none : Option α) = some x) : C := nomatch h
theorem no_true {C : Prop} (h : false = true) : C := nomatch h
theorem byC {G : Prop} (h : ∀ C : Prop, (G → C) → C) : G := h G id
noncomputable def rd (H : AHeap) : Nat → AV → Option PyData
  | _, .none => some .none
  | _, .bool b => some (.bool b)
  | _, .int i => some (.int i)
  | _, .str x => if PyData.strOk x then some (.str x) else none
  | n + 1, .tup xs => (xs.mapM (rd H n)).map .tuple
  | n + 1, .lst xs => (xs.mapM (rd H n)).map .list
  | n + 1, .loc l => match H[l]? with
    | some (.list xs) => (xs.mapM (rd H n)).map .list
    | _ => none
  | _, _ => none

noncomputable def objAt (l : Nat) : M AO := fun H => match H[l]? with
  | some o => some (.ok o, H)
  | none => none
noncomputable def asList : AO → M (List AV)
  | .list xs => pure xs
  | .dict _ => stuck
noncomputable def asDict : AO → M (List (Str × AV))
  | .list _ => stuck
  | .dict es => pure es
noncomputable def setAt (l : Nat) (o : AO) : M Unit := fun H => some (.ok (), H.set l o)
noncomputable def listAt (l : Nat) : M (List AV) := do asList (← objAt l)
noncomputable def dictAt (l : Nat) : M (List (Str × AV)) := do asDict (← objAt l)
noncomputable def listOf : AV → M (List AV)
  | .lst xs => pure xs
  | .loc l => listAt l
  | _ => stuck
noncomputable def seqOf : AV → M (List AV)
  | .tup xs => pure xs
  | .lst xs => pure xs
  | .loc l => listAt l
  | _ => stuck
noncomputable def newO (o : AO) : M AV := fun H => some (.ok (.loc H.length), H ++ [o])
noncomputable def newL (mu : Bool) (xs : List AV) : M AV := if xs.length ≤ LIM then (match mu with
    | true => newO (.list xs)
    | false => pure (.lst xs)) else stuck
noncomputable def newD (es : List (Str × AV)) : M AV := newO (.dict es)

noncomputable def truth : AV → M Bool
  | .bool b => pure b
  | _ => stuck

noncomputable def isL : AV → Bool
  | .lst _ | .loc _ => true
  | _ => false
noncomputable def isTp : AV → Bool
  | .tup _ => true
  | _ => false

noncomputable def asI (v : AV) : Option Int := match v with
  | .int i => some i
  | _ => none
noncomputable def int2 (a b : AV) (f : Int → Int → M AV) : M AV := match asI a with
  | some i => match asI b with
    | some j => f i j
    | none => stuck
  | none => stuck
noncomputable def addTup (xs : List AV) (b : AV) : M AV := match b with
  | .tup ys => if xs.isEmpty || ys.isEmpty || decide (LIM < xs.length + ys.length) then stuck else pure (.tup (xs ++ ys))
  | _ => stuck
noncomputable def addSeq (mu : Bool) (a b : AV) : M AV := match a with
  | .tup xs => addTup xs b
  | a => do
    let xs ← listOf a
    let ys ← listOf b
    newL mu (xs ++ ys)
noncomputable def bAdd (mu : Bool) (a b : AV) : M AV := match asI a with
  | some i => match asI b with
    | some j => pure (.int (i + j))
    | none => stuck
  | none => addSeq mu a b
noncomputable def bMul (mu : Bool) (a b : AV) : M AV := match asI b with
  | some n => match asI a with
    | some i => if n.natAbs < 2 ^ 64 ∨ i.natAbs < 2 ^ 64 then pure (.int (i * n)) else stuck
    | none => do
      let xs ← listOf a
      if n < 0 ∨ 1048576 < n ∨ LIM < n.toNat * xs.length then stuck else newL mu (List.replicate n.toNat xs).flatten
  | none => stuck
noncomputable def pBin (mu : Bool) (op : Operator) (a b : AV) : M AV := match op with
  | .Add => bAdd mu a b
  | .Sub => int2 a b fun i j => pure (.int (i - j))
  | .Mult => bMul mu a b
  | .FloorDiv => int2 a b fun i j => if j = 0 ∨ 1073741824 ≤ j.natAbs then stuck else pure (.int (i.fdiv j))
  | .Mod => int2 a b fun i j => if j = 0 then stuck else pure (.int (i.fmod j))
  | .Pow => int2 a b fun i j => if i = 10 ∧ j = 20 then pure (.int 100000000000000000000) else stuck
  | _ => stuck

noncomputable def pNeg : AV → M AV
  | .int i => pure (.int (-i))
  | _ => stuck

noncomputable def cmpI (op : CmpOp) (i j : Int) : M Bool := match op with
  | .Lt => pure (decide (i < j))
  | .LtE => pure (decide (i ≤ j))
  | .Gt => pure (decide (j < i))
  | .GtE => pure (decide (j ≤ i))
  | _ => stuck
noncomputable def rdM (a : AV) : M PyData := fun H => match rd H 8 a with
  | some d => some (.ok d, H)
  | none => none
noncomputable def itemsD : PyData → M (List PyData)
  | .list ys => pure ys
  | .tuple ys => pure ys
  | _ => stuck
noncomputable def pEq (a b : AV) : M Bool := do
  let x ← rdM a
  let y ← rdM b
  pure (PyData.eqv x y)
noncomputable def pIn (a b : AV) : M Bool := do
  let x ← rdM a
  let y ← rdM b
  let ys ← itemsD y
  pure (ys.any fun y => PyData.eqv y x)
noncomputable def pIsNone : AV → Bool
  | .none => true
  | _ => false
noncomputable def pCmp (op : CmpOp) (a b : AV) : M Bool := match op with
  | .Eq => pEq a b
  | .NotEq => do let r ← pEq a b; pure (!r)
  | .In => pIn a b
  | .NotIn => do let r ← pIn a b; pure (!r)
  | .Is => match b with
    | .none => pure (pIsNone a)
    | _ => stuck
  | .IsNot => match b with
    | .none => pure (!pIsNone a)
    | _ => stuck
  | op => match asI a with
    | some i => match asI b with
      | some j => cmpI op i j
      | none => stuck
    | none => stuck

noncomputable def idx (k : Int) (n : Nat) : Option Nat := if 0 ≤ k then (if k < n then some k.toNat else none) else (if -k ≤ n then some (k + n).toNat else none)

noncomputable def look {α : Type} (es : List (Str × α)) (k : Str) : Option α := (es.find? fun e => e.1 = k).map (·.2)
noncomputable def put (es : List (Str × AV)) (k : Str) (v : AV) : List (Str × AV) :=
  if es.any (fun e => e.1 = k) then es.map (fun e => if e.1 = k then (e.1, v) else e) else es ++ [(k, v)]

noncomputable def ofOpt {α : Type} : Option α → M α
  | some a => pure a
  | none => stuck

noncomputable def pItem (o i : AV) : M AV := match i with
  | .str k => match o with
    | .cdict es => do let v ← ofOpt (look es k); pure (.str v)
    | .loc l => do
      let es ← dictAt l
      ofOpt (look es k)
    | _ => stuck
  | .int k => do
    let xs ← seqOf o
    ofOpt ((idx k xs.length).bind fun j => xs[j]?)
  | _ => stuck

noncomputable def clipA (n : Nat) (i : Int) : Nat := (max 0 (min (if i < 0 then i + n else i) n)).toNat

noncomputable def cut (xs : List AV) (lo hi : Option Int) : List AV :=
  let n := xs.length
  let a := lo.elim 0 (clipA n)
  let b := hi.elim n (clipA n)
  (xs.drop a).take (b - a)

noncomputable def pSlice (mu : Bool) (o : AV) (lo hi : Option Int) : M AV := match o with
  | .tup xs => match lo, hi with
    | none, some b => if 0 ≤ b ∧ b < xs.length then pure (.tup (xs.take b.toNat)) else stuck
    | _, _ => stuck
  | o => do
    let xs ← listOf o
    newL mu (cut xs lo hi)
noncomputable def storeK (l : Nat) (k : Str) (v : AV) : M Unit := do
  let es ← dictAt l
  if es.length < LIM then setAt l (.dict (put es k v)) else stuck
noncomputable def storeI (l : Nat) (k : Int) (v : AV) : M Unit := do
  let xs ← listAt l
  if 0 ≤ k ∧ k < xs.length then setAt l (.list (xs.set k.toNat v)) else stuck
noncomputable def pStore (o i v : AV) : M Unit := match o with
  | .loc l => (match i with
    | .str k => storeK l k v
    | .int k => storeI l k v
    | _ => stuck)
  | _ => stuck

inductive Ty where
  | int | bool | str | tuple | list
  deriving DecidableEq
noncomputable def tyOf (x : Str) : Option Ty :=
  if x = ("int" : Str) then some .int else if x = ("bool" : Str) then some .bool else if x = ("str" : Str) then some .str
  else if x = ("tuple" : Str) then some .tuple else if x = ("list" : Str) then some .list else none

noncomputable def isTy : AV → Option Ty
  | .bool _ => some .bool
  | .int _ => some .int
  | .str _ => some .str
  | .tup _ => some .tuple
  | .lst _ => some .list
  | .loc _ => some .list
  | _ => none
noncomputable def tyLe (u t : Ty) : Bool := decide (u = t) || (decide (u = .bool) && decide (t = .int))
noncomputable def pIsi (v : AV) (t : Ty) : M Bool := match v with
  | .none => pure false
  | .loc l => do
    let _ ← listAt l
    pure (tyLe .list t)
  | v => match isTy v with
    | some u => pure (tyLe u t)
    | none => stuck

inductive BI where
  | len | list | tuple | dict | int | range | min | max | any | sorted
  deriving DecidableEq
noncomputable def biOf (x : Str) : Option BI :=
  if x = ("len" : Str) then some .len else if x = ("list" : Str) then some .list else if x = ("tuple" : Str) then some .tuple
  else if x = ("dict" : Str) then some .dict else if x = ("int" : Str) then some .int else if x = ("range" : Str) then some .range
  else if x = ("min" : Str) then some .min else if x = ("max" : Str) then some .max else if x = ("any" : Str) then some .any
  else if x = ("sorted" : Str) then some .sorted else none

noncomputable def rangeL (a b : Int) : List AV := (List.range (b - a).toNat).map fun (k : Nat) => .int (a + (k : Int))
noncomputable def small62 (i : Int) : Bool := decide (-(2 ^ 62) ≤ i) && decide (i < 2 ^ 62)
noncomputable def intsOf : List AV → Option (List Int)
  | [] => some []
  | .int i :: r => (intsOf r).map (i :: ·)
  | _ => none
noncomputable def sortI (l : List Int) : List Int := l.mergeSort (fun a b => decide (a ≤ b))


noncomputable def one (vs : List AV) (f : AV → M AV) : M AV := match vs with
  | [v] => f v
  | _ => stuck
noncomputable def bList (mu : Bool) (v : AV) : M AV := match v with
  | .range a b => if small62 a && small62 b then newL mu (rangeL a b) else stuck
  | v => do let xs ← seqOf v; newL mu xs
noncomputable def bDict (v : AV) : M AV := match v with
  | .loc l => do
    let es ← dictAt l
    newD es
  | _ => stuck
noncomputable def bInt (v : AV) : M AV := match v with
  | .bool b => pure (.int (if b then 1 else 0))
  | _ => stuck
noncomputable def bRange (vs : List AV) : M AV := match vs with
  | [v] => match asI v with
    | some n => pure (.range 0 n)
    | none => stuck
  | [v, w] => match asI v with
    | some a => match asI w with
      | some b => pure (.range a b)
      | none => stuck
    | none => stuck
  | _ => stuck
noncomputable def bMin (vs : List AV) : M AV := match vs with
  | [v, w] => match asI v with
    | some a => match asI w with
      | some b => pure (.int (if b < a then b else a))
      | none => stuck
    | none => stuck
  | _ => stuck
noncomputable def pBI (mu : Bool) (b : BI) (vs : List AV) : M AV := match b with
  | .len => one vs fun v => do let xs ← seqOf v; pure (.int xs.length)
  | .list => one vs (bList mu)
  | .tuple => one vs fun v => do let xs ← listOf v; pure (.tup xs)
  | .dict => one vs bDict
  | .int => one vs bInt
  | .range => bRange vs
  | .min => bMin vs
  | .max => stuck
  | .any => stuck
  | .sorted => one vs fun v => do let xs ← listOf v; let is ← ofOpt (intsOf xs); if is.length < 128 then newL mu ((sortI is).map .int) else stuck

noncomputable def mAppend (l : Nat) (xs : List AV) : List AV → M AV
  | [v] => if xs.length < LIM then do
      setAt l (.list (xs ++ [v]))
      pure .none
    else stuck
  | _ => stuck
noncomputable def popAt (l : Nat) (xs : List AV) (i : Nat) : M AV := match xs[i]? with
  | some v => do
    setAt l (.list (xs.eraseIdx i))
    pure v
  | none => stuck
noncomputable def mPop (l : Nat) (xs : List AV) : List AV → M AV
  | [] => popAt l xs (xs.length - 1)
  | [v] => (match asI v with
    | some k => if 0 ≤ k ∧ k < xs.length then popAt l xs k.toNat else stuck
    | none => stuck)
  | _ => stuck
noncomputable def mClear (l : Nat) : List AV → M AV
  | [] => do
    setAt l (.list [])
    pure .none
  | _ => stuck
noncomputable def countM (xs : List AV) (v : AV) : M AV := fun H => match xs.mapM (rd H 7), rd H 8 v with
  | some ys, some y => some (.ok (.int (ys.countP fun z => PyData.eqv z y : Nat)), H)
  | _, _ => none
noncomputable def mCount (xs : List AV) : List AV → M AV
  | [v] => countM xs v
  | _ => stuck
inductive Mt where
  | append | pop | clear | count
noncomputable def mtOf (m : Str) : Option Mt :=
  if m = ("append" : Str) then some .append else if m = ("pop" : Str) then some .pop else if m = ("clear" : Str) then some .clear
  else if m = ("count" : Str) then some .count else none
noncomputable def methL (l : Nat) (xs vs : List AV) : Mt → M AV
  | .append => mAppend l xs vs
  | .pop => mPop l xs vs
  | .clear => mClear l vs
  | .count => mCount xs vs
noncomputable def methF (xs vs : List AV) (k : Mt) : M AV := stuck
noncomputable def pMethK (k : Mt) (o : AV) (vs : List AV) : M AV := match o with
  | .loc l => do
    let xs ← listAt l
    methL l xs vs k
  | .lst xs => methF xs vs k
  | _ => stuck
noncomputable def pMeth (m : Str) (o : AV) (vs : List AV) : M AV := match mtOf m with
  | some k => pMethK k o vs
  | none => stuck

inductive Src where
  | items (xs : List AV)
  | at (l : Nat)
  | enum (s : Src)
noncomputable def Src.get : Src → Nat → M (Option AV)
  | .items xs, i => pure xs[i]?
  | .at l, i => do
    let xs ← listAt l
    pure xs[i]?
  | .enum s, i => do
    let r ← s.get i
    pure (r.map fun v => .tup [.int i, v])

noncomputable def srcOf : AV → M Src
  | .tup xs => pure (.items xs)
  | .lst xs => pure (.items xs)
  | .range a b => if small62 a && small62 b then pure (.items (rangeL a b)) else stuck
  | .loc l => do
    let _ ← listAt l
    pure (.at l)
  | _ => stuck

noncomputable def exOk : Expr → Bool
  | .Starred _ _ => false
  | .Set _ _ _ => false
  | .IfExp _ _ _ _ => false
  | _ => true
noncomputable def evAll (ev : Expr → M AV) : List Expr → M (List AV)
  | [] => pure []
  | e :: r => do
    let v ← ev e
    let vs ← evAll ev r
    pure (v :: vs)
noncomputable def evEach (ev : Expr → M AV) (es : List Expr) : M (List AV) := if es.all exOk then evAll ev es else stuck

noncomputable def bOp (ev : Expr → M AV) (op : BoolOp) : List Expr → M AV
  | [] => stuck
  | [e] => ev e
  | e :: r => do
    let v ← ev e
    let t ← truth v
    match op with
    | .And => (match t with
      | false => pure v
      | true => bOp ev .And r)
    | .Or => (match t with
      | true => pure v
      | false => bOp ev .Or r)

noncomputable def chain (ev : Expr → M AV) (a : AV) : List CmpOp → List Expr → M Bool
  | [op], [e] => if exOk e then do
      let b ← ev e
      pCmp op a b
    else stuck
  | op :: op' :: ops, e :: e' :: es => do
    let b ← ev e
    let t ← pCmp op a b
    match t with
    | true => chain ev b (op' :: ops) (e' :: es)
    | false => pure false
  | _, _ => stuck

noncomputable def tests (te : Expr → M Bool) (op : BoolOp) : List Expr → M Bool
  | [] => pure (op == .And)
  | e :: r => do
    let t ← te e
    match op with
    | .And => (match t with
      | false => pure false
      | true => tests te .And r)
    | .Or => (match t with
      | true => pure true
      | false => tests te .Or r)

noncomputable def plainT (ev : Expr → M AV) (e : Expr) : M Bool := if exOk e then do
    let v ← ev e
    truth v
  else stuck
noncomputable def denT (ev : Expr → M AV) : Nat → Expr → M Bool
  | 0, _ => stuck
  | n + 1, e => match e with
    | .UnaryOp op x p => match op with
      | .Not => do let b ← denT ev n x; pure (!b)
      | op => plainT ev (.UnaryOp op x p)
    | .BoolOp op vs _ => tests (denT ev n) op vs
    | .Compare l ops cs _ => do let a ← ev l; chain ev a ops cs
    | e => plainT ev e

structure Fn where
  params : List Str
  names : List Str
  body : List Stmt
  scope : Scope

structure Pg where
  fn : Str → Option Fn
  glob : Str → Option AV
  mu : Pos → Bool

abbrev Loc := List (Option AV)

noncomputable def nameV (ns : List Str) (x : Str) (σ : Loc) : M AV := match ns.idxOf? x with
  | some i => match σ[i]? with
    | some (some v) => pure v
    | _ => stuck
  | none => stuck

noncomputable def isLocal (sc : Scope) (x : Str) : Bool := match sc.names.lookup x with
  | some .local | some .cell | some .free => true
  | _ => false
noncomputable def isGlob (sc : Scope) (x : Str) : Bool := match sc.names.lookup x with
  | some .globalImplicit => true
  | _ => false

noncomputable def constV : Const → M AV
  | .none => pure .none
  | .bool b => pure (.bool b)
  | .int i => pure (.int i)
  | .str s => pure (.str s)
  | _ => stuck

noncomputable def noX {α : Type} (m : M α) : M α := fun H => match m H with
  | some (.ok a, H') => some (.ok a, H')
  | _ => none
noncomputable def compLoop (src : Src) (body : AV → M (Option AV)) : Nat → Nat → List AV → M (List AV)
  | 0, _, _ => stuck
  | f + 1, i, acc => do
    match ← src.get i with
    | none => pure acc
    | some v => do
      match ← noX (body v) with
      | none => compLoop src body f (i + 1) acc
      | some y => if acc.length < LIM then compLoop src body f (i + 1) (acc ++ [y]) else stuck

noncomputable def ifs1 (te : Expr → M Bool) : List Expr → M Bool
  | [] => pure true
  | [e] => te e
  | _ => stuck

noncomputable def strKey1 : Option Expr → Option Str
  | some (.Constant (.str k) _ _) => some k
  | _ => none
noncomputable def strKeys : List (Option Expr) → Option (List Str)
  | [] => some []
  | k :: r => (strKey1 k).bind fun x => (strKeys r).map (x :: ·)

noncomputable def intM (v : AV) : M Int := ofOpt (asI v)
noncomputable def sliceEnd (ev : Expr → M AV) : Option Expr → M (Option Int)
  | none => pure none
  | some e => do
    let v ← ev e
    let i ← intM v
    pure (some i)

noncomputable def compOk (sc : Scope) (ns : List Str) (scope : Scope) (x : Str) : Bool :=
  scope.kind == .function && scope.names.lookup x == some .local && !(ns.contains (".0" : Str)) &&
  scope.names.all fun (y, k) => match k with
    | .local => (y == x || y == (".0" : Str)) && scope.names.lookup y == some .local
    | .free => sc.names.lookup y == some .cell && ns.contains y
    | .globalImplicit => true
    | _ => false
noncomputable def plainBase : Expr → Bool
  | .Name _ _ => true
  | .Subscript _ _ _ => true
  | _ => false

noncomputable def isTL (t u : Str) : Bool := decide (t = ("tuple" : Str)) && decide (u = ("list" : Str))
noncomputable def pIsiTL : AV → M Bool
  | .none => pure false
  | .bool _ => pure false
  | .int _ => pure false
  | .str _ => pure false
  | .tup _ => pure true
  | .lst _ => pure true
  | .loc l => do
    let _ ← listAt l
    pure true
  | _ => stuck

noncomputable def dName (P : Pg) (sc : Scope) (ns : List Str) (σ : Loc) (x : Str) : M AV :=
  if x == ("__debug__" : Str) || x == ("__classdict__" : Str) then stuck else if isLocal sc x then nameV ns x σ else if isGlob sc x then ofOpt (P.glob x) else stuck
noncomputable def dUn (ev : Expr → M AV) (op : UnaryOp) (x : Expr) : M AV := match op with
  | .USub => do let v ← ev x; pNeg v
  | .Not => do let v ← ev x; let b ← truth v; pure (.bool !b)
  | _ => stuck
noncomputable def dDict (ev : Expr → M AV) (keys : List (Option Expr)) (vals : List Expr) : M AV := match strKeys keys with
  | some ks => if ks.length = vals.length ∧ ks.length ≤ 15 ∧ ks ≠ [] ∧ ks.Nodup then do
      let vs ← evEach ev vals
      newD (ks.zip vs)
    else stuck
  | none => stuck
noncomputable def dSlice (ev : Expr → M AV) (mu : Bool) (o : Expr) (lo hi st : Option Expr) : M AV := match st with
  | none => do
    let ov ← ev o
    let a ← sliceEnd ev lo
    let b ← sliceEnd ev hi
    pSlice mu ov a b
  | some _ => stuck
noncomputable def dSub (ev : Expr → M AV) (mu : Bool) (o i : Expr) : M AV := match i with
  | .Slice lo hi st _ => dSlice ev mu o lo hi st
  | i => do
    let ov ← ev o
    let iv ← ev i
    pItem ov iv
noncomputable def nameOf1 : Expr → Option (Str × Pos)
  | .Name x p => some (x, p)
  | _ => none
noncomputable def compGen : List Comprehension → Option (Str × Expr × List Expr)
  | [g] => if g.is_async = 0 then (nameOf1 g.target).map fun x => (x.1, g.iter, g.ifs) else none
  | _ => none
noncomputable def pairN : List Expr → Option ((Str × Pos) × Str × Pos)
  | [a, b] => match nameOf1 a with
    | some x => (nameOf1 b).map fun y => (x, y)
    | none => none
  | _ => none
noncomputable def callOf : Expr → Option (Str × List Expr)
  | .Call f args kws _ => match kws with
    | [] => (nameOf1 f).map fun x => (x.1, args)
    | _ => none
  | _ => none
noncomputable def dIsi1 (ev : Expr → M AV) (sc : Scope) (e : Expr) (t : Expr) : M AV := match t with
  | .Name t _ => if isGlob sc t then (match tyOf t with
    | some t => do
      let v ← ev e
      let b ← pIsi v t
      pure (.bool b)
    | none => stuck) else stuck
  | .Tuple es _ _ => match pairN es with
    | some (t, u) => if isTL t.1 u.1 && isGlob sc t.1 && isGlob sc u.1 then do
        let v ← ev e
        let b ← pIsiTL v
        pure (.bool b)
      else stuck
    | none => stuck
  | _ => stuck
noncomputable def dIsi (ev : Expr → M AV) (sc : Scope) (args : List Expr) : M AV := match args with
  | [e, t] => if exOk e then dIsi1 ev sc e t else stuck
  | _ => stuck
noncomputable def dBI (ev : Expr → M AV) (mu : Bool) (sc : Scope) (b : BI) (args : List Expr) : M AV := do
  let vs ← evEach ev args
  pBI mu b vs
noncomputable def dCallN (P : Pg) (ev : Expr → M AV) (cf : Str → List AV → M AV) (mu : Bool) (sc : Scope) (f : Str) (args : List Expr) : M AV :=
  if isGlob sc f then (if f = ("isinstance" : Str) then dIsi ev sc args else match biOf f with
    | some b => dBI ev mu sc b args
    | none => if (P.fn f).isSome then do
        let vs ← evEach ev args
        cf f vs
      else stuck) else stuck
noncomputable def dCall (P : Pg) (ev : Expr → M AV) (cf : Str → List AV → M AV) (mu : Bool) (sc : Scope) (f : Expr) (args : List Expr) (p : Pos) : M AV := match f with
  | .Attribute o m ap => match mtOf m with
    | some k => if plainBase o && ap.endLine == p.line && decide (args.length ≤ 2) && args.all exOk then do
        let ov ← ev o
        let _ ← listOf ov
        let vs ← evAll ev args
        pMethK k ov vs
      else stuck
    | none => stuck
  | .Name f _ => dCallN P ev cf mu sc f args
  | _ => stuck

noncomputable def dComp (ev : Expr → M AV) (ec : Str → AV → Expr → M AV) (n : Nat) (mu : Bool) (sc : Scope) (ns : List Str) (scope : Scope) (elt : Expr) (gens : List Comprehension) : M AV := match compGen gens with
  | some (x, iter, ifs) => if compOk sc ns scope x && exOk iter then do
    let iv ← ev iter
    let src ← srcOf iv
    let ys ← compLoop src (fun v => do
      let t ← ifs1 (denT (ec x v) n) ifs
      if t then do
        let y ← ec x v elt
        pure (some y)
      else pure none) FUEL 0 []
    newL mu ys
    else stuck
  | none => stuck

noncomputable def den (P : Pg) (cf : Str → List AV → M AV) : Nat → Scope → List Str → Loc → Expr → M AV
  | 0, _, _, _, _ => stuck
  | n + 1, sc, ns, σ, e => match e with
    | .Constant c _ _ => constV c
    | .Name x _ => dName P sc ns σ x
    | .BoolOp op vs _ => bOp (den P cf n sc ns σ) op vs
    | .BinOp l op r p => do
      let a ← den P cf n sc ns σ l
      let b ← den P cf n sc ns σ r
      pBin (P.mu p) op a b
    | .UnaryOp op x _ => dUn (den P cf n sc ns σ) op x
    | .Compare l ops cs _ => do
      let a ← den P cf n sc ns σ l
      let b ← chain (den P cf n sc ns σ) a ops cs
      pure (.bool b)
    | .Tuple es _ _ => if es.length ≤ 100 then do let vs ← evEach (den P cf n sc ns σ) es; pure (.tup vs) else stuck
    | .List es p => do let vs ← evEach (den P cf n sc ns σ) es; newL (P.mu p) vs
    | .Dict ks vs _ => dDict (den P cf n sc ns σ) ks vs
    | .Subscript o i p => dSub (den P cf n sc ns σ) (P.mu p) o i
    | .ListComp elt gens scope p => dComp (den P cf n sc ns σ) (fun x v => den P cf n scope (x :: ns) (some v :: σ)) n (P.mu p) sc ns scope elt gens
    | .Call f args kws p => match kws with
      | [] => dCall P (den P cf n sc ns σ) cf (P.mu p) sc f args p
      | _ => stuck
    | _ => stuck

inductive Res where
  | next (σ : Loc)
  | ret (v : AV)

noncomputable def setN (ns : List Str) (x : Str) (v : AV) (σ : Loc) : M Loc := match ns.idxOf? x with
  | some i => pure (σ.set i (some v))
  | none => stuck

noncomputable def assignP (sc : Scope) (ns : List Str) (v : AV) (σ : Loc) (x y : Str) : M Loc := match v with
  | .tup vs => match vs with
    | [a, b] => if isLocal sc x && isLocal sc y then do
        let σ ← setN ns x a σ
        setN ns y b σ
      else stuck
    | _ => stuck
  | _ => stuck
noncomputable def assignTo (ev : Loc → Expr → M AV) (sc : Scope) (ns : List Str) (v : AV) (σ : Loc) : Expr → M Loc
  | .Name x _ => if isLocal sc x then setN ns x v σ else stuck
  | .Subscript o i _ => do
    let ov ← ev σ o
    let iv ← ev σ i
    pStore ov iv v
    pure σ
  | .Tuple es _ _ => match pairN es with
    | some (x, y) => assignP sc ns v σ x.1 y.1
    | none => stuck
  | _ => stuck

noncomputable def forLoop (src : Src) (body : AV → Loc → M Res) : Nat → Nat → Loc → M Res
  | 0, _, _ => stuck
  | f + 1, i, σ => do
    match ← src.get i with
    | none => pure (.next σ)
    | some v => do
      match ← body v σ with
      | .next σ' => forLoop src body f (i + 1) σ'
      | .ret w => pure (.ret w)

noncomputable def whileLoop (test : Loc → M Bool) (body : Loc → M Res) : Nat → Loc → M Res
  | 0, _ => stuck
  | f + 1, σ => do
    match ← test σ with
    | false => pure (.next σ)
    | true => do
      match ← body σ with
      | .next σ' => whileLoop test body f σ'
      | .ret w => pure (.ret w)

noncomputable def noComp : Expr → Bool
  | .ListComp _ _ _ _ => false
  | _ => true
noncomputable def isTupE : Expr → Bool
  | .Tuple _ _ _ => true
  | _ => false
noncomputable def pairOf : AV → M (AV × AV)
  | .tup [a, b] => pure (a, b)
  | _ => stuck

noncomputable def enumArg (sc : Scope) (it : Expr) : Option Expr := match callOf it with
  | some (f, [e]) => if (f = ("enumerate" : Str) ∧ isGlob sc f = true) ∧ exOk e = true then some e else none
  | _ => none
noncomputable def goOn (m : Loc → M Res) : Res → M Res
  | .next σ' => m σ'
  | .ret v => pure (.ret v)
noncomputable def bAssign (ev : Expr → M AV) (sc : Scope) (ns : List Str) (m : Loc → M Res) (σ : Loc) (e : Expr) (t : Expr) : M Res := match t with
  | .Name x _ => if isLocal sc x then do
      let v ← ev e
      let σ' ← setN ns x v σ
      m σ'
    else stuck
  | .Subscript o i _ => do
    let v ← ev e
    let ov ← ev o
    let iv ← ev i
    pStore ov iv v
    m σ
  | .Tuple es _ _ => match pairN es with
    | some (x, y) => if isTupE e || !isLocal sc x.1 || !isLocal sc y.1 then stuck else do
      let v ← ev e
      let p ← pairOf v
      let σ1 ← setN ns x.1 p.1 σ
      let σ2 ← setN ns y.1 p.2 σ1
      m σ2
    | none => stuck
  | _ => stuck
noncomputable def bFor (ev : Loc → Expr → M AV) (sc : Scope) (ns : List Str) (body : Loc → M Res) (m : Loc → M Res) (σ : Loc) (t it : Expr) : M Res := match t with
  | .Name x px => if exOk it then do
      let v ← ev σ it
      let src ← srcOf v
      let r ← forLoop src (fun v σ => do
        let σ' ← assignTo ev sc ns v σ (.Name x px)
        body σ') FUEL 0 σ
      goOn m r
    else stuck
  | .Tuple es k pt => match pairN es with
    | some (x, y) => match enumArg sc it with
      | some e => do
        let v ← ev σ e
        let _ ← listOf v
        let src ← srcOf v
        let r ← forLoop (.enum src) (fun v σ => do
          let σ' ← assignTo ev sc ns v σ (.Tuple [.Name x.1 x.2, .Name y.1 y.2] k pt)
          body σ') FUEL 0 σ
        goOn m r
      | none => stuck
    | none => stuck
  | _ => stuck

noncomputable def denB (P : Pg) (cf : Str → List AV → M AV) (sc : Scope) (ns : List Str) : Nat → List Stmt → Loc → M Res
  | _, [], σ => pure (.next σ)
  | 0, _ :: _, _ => stuck
  | n + 1, s :: rest, σ => match s with
    | .Pass _ => denB P cf sc ns n rest σ
    | .Return v _ => match v with
      | none => pure (.ret .none)
      | some e => do let v ← den P cf n sc ns σ e; pure (.ret v)
    | .Expr e _ => if noComp e then do
        let _ ← den P cf n sc ns σ e
        denB P cf sc ns n rest σ
      else stuck
    | .Assign ts e _ => match ts with
      | [t] => bAssign (den P cf n sc ns σ) sc ns (denB P cf sc ns n rest) σ e t
      | _ => stuck
    | .If t b o _ => do
      let c ← denT (den P cf n sc ns σ) n t
      match c with
      | true => do
        let r ← denB P cf sc ns n b σ
        goOn (denB P cf sc ns n rest) r
      | false => do
        let r ← denB P cf sc ns n o σ
        goOn (denB P cf sc ns n rest) r
    | .For t it b o _ => match o with
      | [] => bFor (fun σ e => den P cf n sc ns σ e) sc ns (denB P cf sc ns n b) (denB P cf sc ns n rest) σ t it
      | _ => stuck
    | .While t b o _ => match o with
      | [] => do
        let r ← whileLoop (fun σ => denT (den P cf n sc ns σ) n t) (denB P cf sc ns n b) FUEL σ
        goOn (denB P cf sc ns n rest) r
      | _ => stuck
    | _ => stuck

noncomputable def EFUEL : Nat := 40

noncomputable def callP (P : Pg) : Nat → Str → List AV → M AV
  | 0, _, _ => stuck
  | n + 1, f, args => match P.fn f with
    | none => stuck
    | some fn =>
      if args.length = fn.params.length then do
        match ← denB P (callP P n) fn.scope fn.names EFUEL fn.body (args.map some ++ List.replicate (fn.names.length - args.length) none) with
        | .ret v => pure v
        | .next _ => pure .none
      else stuck

noncomputable def fnChk (fn : Fn) : Bool :=
  fn.scope.kind == .function && !fn.scope.isCoroutine && !fn.scope.isGenerator &&
  (fn.scope.names.all fun (_, k) => k == .local || k == .cell || k == .globalImplicit) &&
  decide (fn.params.Nodup) && fn.names.take fn.params.length == fn.params &&
  fn.params.all fun x => fn.scope.names.lookup x == some .local || fn.scope.names.lookup x == some .cell

end Mine


set_option autoImplicit false
set_option linter.unusedVariables false
namespace Mine
open PySem PyProof.Rows

structure Cx where
  prog : Program
  w : World
  h₀ : Heap
  os₀ : OsState
  mg : Str → Option Value
  mb : Str → Option Value

structure Wl where
  ι : List Addr
  π : List Addr
  s : Shared
def No : Addr → Prop := fun u_ => False
structure Lv (w w' : Wl) : Prop where
  pre : w.ι <+: w'.ι
  fz : ∀ b o, w.s.heap.get? b = some o → b ∉ w.ι → b ∉ w.π → w'.s.heap.get? b = some o ∧ b ∉ w'.ι ∧ b ∉ w'.π
structure Le (p : Addr → Prop) (w w' : Wl) : Prop extends Lv w w' where
  pv : ∀ b, b ∈ w.π → ¬ p b → b ∈ w'.π
  kp : ∀ b o, b ∈ w.π → ¬ p b → w.s.heap.get? b = some o → w'.s.heap.get? b = some o
def Fz (w : Wl) (b : Addr) : Prop := b ∉ w.ι ∧ b ∉ w.π

theorem Le.refl {p : Addr → Prop} (w : Wl) : Le p w w := ⟨⟨List.prefix_refl _, fun u_ u_ e h1 h2 => ⟨e, h1, h2⟩⟩, fun u_ h u_ => h, fun u_ u_ u_ u_ e => e⟩
theorem Lv.trans {a b c : Wl} (x : Lv a b) (y : Lv b c) : Lv a c := ⟨x.pre.trans y.pre, fun d o e h1 h2 => let q := x.fz d o e h1 h2; y.fz d o q.1 q.2.1 q.2.2⟩
theorem Le.trans {p : Addr → Prop} {a b c : Wl} (x : Le p a b) (y : Le p b c) : Le p a c where
  toLv := x.toLv.trans y.toLv
  pv := fun d h q => y.pv d (x.pv d h q) q
  kp := fun d o h1 h2 e => y.kp d o (x.pv d h1 h2) h2 (x.kp d o h1 h2 e)
theorem Le.weak {p q : Addr → Prop} {a b : Wl} (x : Le p a b) (h : ∀ d, d ∈ a.π → p d → q d) : Le q a b := ⟨x.toLv, fun d h1 h2 => x.pv d h1 fun z => h2 (h d h1 z), fun d o h1 h2 e => x.kp d o h1 (fun z => h2 (h d h1 z)) e⟩
theorem Le.no {p : Addr → Prop} {a b : Wl} (x : Le No a b) : Le p a b := x.weak fun u_ u_ z => z.elim
theorem Le.keeps {p : Addr → Prop} {w : Wl} {s' : Shared} (hk : ∀ b o, w.s.heap.get? b = some o → s'.heap.get? b = some o) : Le p w ⟨w.ι, w.π, s'⟩ :=
  ⟨⟨List.prefix_refl _, fun b o e h1 h2 => ⟨hk b o e, h1, h2⟩⟩, fun u_ h u_ => h, fun b o u_ u_ e => hk b o e⟩
theorem Le.tok {p : Addr → Prop} {w : Wl} (t : Nat) : Le p w ⟨w.ι, w.π, { w.s with toks := t }⟩ := .keeps fun u_ u_ e => e

def StrVs : List Str → List Value → Prop
  | [], vs => vs = []
  | x :: r, vs => ∃ t us, vs = .str x t :: us ∧ StrVs r us
mutual
noncomputable def VR (cx : Cx) (w : Wl) : AV → Value → Prop
  | .none, v => v = .none
  | .bool b, v => v = .bool b
  | .int i, v => ∃ t, v = .int i t
  | .str x, v => ∃ t, v = .str x t
  | .tup xs, v => ∃ a vs n, v = .ref a ∧ IsT w.s.heap a vs n ∧ Fz w a ∧ xs.length ≤ LIM ∧ VRs cx w xs vs.toList
  | .lst xs, v => ∃ a vs n, v = .ref a ∧ IsL w.s.heap a vs n ∧ Fz w a ∧ xs.length ≤ LIM ∧ VRs cx w xs vs.toList
  | .loc l, v => ∃ a, v = .ref a ∧ w.ι[l]? = some a
  | .range a b, v => ∃ r t u x, v = .ref r ∧ IsRange w.s.heap r a b 1 t u x ∧ Fz w r
  | .cdict es, v => ∃ d kvs, v = .ref d ∧ w.s.heap.DictOf (strKind cx.prog cx.w) d kvs ∧ Fz w d ∧ kvs.map (·.1) = es.map (·.1) ∧ StrVs (es.map (·.2)) (kvs.map (·.2))
noncomputable def VRs (cx : Cx) (w : Wl) : List AV → List Value → Prop
  | [], vs => vs = []
  | a :: r, vs => ∃ v us, vs = v :: us ∧ VR cx w a v ∧ VRs cx w r us
end
section
variable {cx : Cx} {w w' : Wl} {p : Addr → Prop}
theorem VR.none : VR cx w .none .none := rfl
theorem VR.bool {b : Bool} : VR cx w (.bool b) (.bool b) := rfl
theorem VR.int {i : Int} {t : Tok} : VR cx w (.int i) (.int i t) := ⟨t, rfl⟩
theorem VR.str {x : Str} {t : Tok} : VR cx w (.str x) (.str x t) := ⟨t, rfl⟩
theorem VR.tup {a : Addr} {vs : Array Value} {n : Nat} {xs : List AV} (h1 : IsT w.s.heap a vs n) (h2 : Fz w a) (h3 : xs.length ≤ LIM) (h4 : VRs cx w xs vs.toList) : VR cx w (.tup xs) (.ref a) := ⟨a, vs, n, rfl, h1, h2, h3, h4⟩
theorem VR.lst {a : Addr} {vs : Array Value} {n : Nat} {xs : List AV} (h1 : IsL w.s.heap a vs n) (h2 : Fz w a) (h3 : xs.length ≤ LIM) (h4 : VRs cx w xs vs.toList) : VR cx w (.lst xs) (.ref a) := ⟨a, vs, n, rfl, h1, h2, h3, h4⟩
theorem VR.loc {l : Nat} {a : Addr} (h : w.ι[l]? = some a) : VR cx w (.loc l) (.ref a) := ⟨a, rfl, h⟩
theorem VRs.nil : VRs cx w [] [] := rfl
theorem VRs.cons {a : AV} {v : Value} {xs : List AV} {vs : List Value} (h1 : VR cx w a v) (h2 : VRs cx w xs vs) : VRs cx w (a :: xs) (v :: vs) := ⟨v, vs, rfl, h1, h2⟩

@[elab_as_elim] theorem VR.noneE {v : Value} {C : Value → Prop} (r : VR cx w .none v) (k : C .none) : C v := (show v = .none from r) ▸ k
@[elab_as_elim] theorem VR.boolE {b : Bool} {v : Value} {C : Value → Prop} (r : VR cx w (.bool b) v) (k : C (.bool b)) : C v := (show v = .bool b from r) ▸ k
@[elab_as_elim] theorem VR.intE {i : Int} {v : Value} {C : Value → Prop} (r : VR cx w (.int i) v) (k : ∀ t, C (.int i t)) : C v := by obtain ⟨t, e⟩ := r; exact e ▸ k t
@[elab_as_elim] theorem VR.strE {x : Str} {v : Value} {C : Value → Prop} (r : VR cx w (.str x) v) (k : ∀ t, C (.str x t)) : C v := by obtain ⟨t, e⟩ := r; exact e ▸ k t
@[elab_as_elim] theorem VR.tupE {xs : List AV} {v : Value} {C : Value → Prop} (r : VR cx w (.tup xs) v) (k : ∀ a vs n, IsT w.s.heap a vs n → Fz w a → xs.length ≤ LIM → VRs cx w xs vs.toList → C (.ref a)) : C v := by obtain ⟨a, vs, n, e, h1, h2, h3, h4⟩ := r; exact e ▸ k a vs n h1 h2 h3 h4
@[elab_as_elim] theorem VR.lstE {xs : List AV} {v : Value} {C : Value → Prop} (r : VR cx w (.lst xs) v) (k : ∀ a vs n, IsL w.s.heap a vs n → Fz w a → xs.length ≤ LIM → VRs cx w xs vs.toList → C (.ref a)) : C v := by obtain ⟨a, vs, n, e, h1, h2, h3, h4⟩ := r; exact e ▸ k a vs n h1 h2 h3 h4
@[elab_as_elim] theorem VR.locE {l : Nat} {v : Value} {C : Value → Prop} (r : VR cx w (.loc l) v) (k : ∀ a, w.ι[l]? = some a → C (.ref a)) : C v := by obtain ⟨a, e, h⟩ := r; exact e ▸ k a h
@[elab_as_elim] theorem VR.rangeE {a b : Int} {v : Value} {C : Value → Prop} (r : VR cx w (.range a b) v) (k : ∀ d t u x, IsRange w.s.heap d a b 1 t u x → Fz w d → C (.ref d)) : C v := by obtain ⟨d, t, u, x, e, h1, h2⟩ := r; exact e ▸ k d t u x h1 h2
@[elab_as_elim] theorem VRs.nilE {vs : List Value} {C : List Value → Prop} (r : VRs cx w [] vs) (k : C []) : C vs := (show vs = [] from r) ▸ k
@[elab_as_elim] theorem VRs.consE {a : AV} {xs : List AV} {vs : List Value} {C : List Value → Prop} (r : VRs cx w (a :: xs) vs) (k : ∀ v us, VR cx w a v → VRs cx w xs us → C (v :: us)) : C vs := by obtain ⟨v, us, e, h1, h2⟩ := r; exact e ▸ k v us h1 h2

theorem prefix_get {α : Type} {l l' : List α} (h : l <+: l') {i : Nat} {a : α} (e : l[i]? = some a) : l'[i]? = some a := by
  obtain ⟨t, rfl⟩ := h
  rw [List.getElem?_append_left (List.getElem?_eq_some_iff.mp e).1]; exact e
theorem DictOf.at' {h h' : Heap} {d : Addr} {kvs : List (Str × Value)} (x : h.DictOf (strKind cx.prog cx.w) d kvs) (e : ∀ o, h.get? d = some o → h'.get? d = some o) :
    h'.DictOf (strKind cx.prog cx.w) d kvs := by obtain ⟨o, es, ep, ho, r⟩ := x; exact ⟨o, es, ep, e o ho, r⟩
theorem DictOf.obj {h : Heap} {d : Addr} {kvs : List (Str × Value)} (x : h.DictOf (strKind cx.prog cx.w) d kvs) : ∃ o, h.get? d = some o := by obtain ⟨o, _, _, ho, _⟩ := x; exact ⟨o, ho⟩
theorem Lv.fz' (x : Lv w w') {b : Addr} {o : Obj} (e : w.s.heap.get? b = some o) (h : Fz w b) : w'.s.heap.get? b = some o ∧ Fz w' b := x.fz b o e h.1 h.2
mutual
theorem VR.go (x : Lv w w') : ∀ {a : AV} {v : Value}, VR cx w a v → VR cx w' a v
  | .none, _, h => h
  | .bool _, _, h => h
  | .int _, _, h => h
  | .str _, _, h => h
  | .tup _, _, h => by obtain ⟨a, vs, n, e, h1, h2, h3, h4⟩ := h; exact ⟨a, vs, n, e, (x.fz' h1 h2).1, (x.fz' h1 h2).2, h3, VRs.go x h4⟩
  | .lst _, _, h => by obtain ⟨a, vs, n, e, h1, h2, h3, h4⟩ := h; exact ⟨a, vs, n, e, (x.fz' h1 h2).1, (x.fz' h1 h2).2, h3, VRs.go x h4⟩
  | .loc _, _, h => by obtain ⟨a, e, h⟩ := h; exact ⟨a, e, prefix_get x.pre h⟩
  | .range _ _, _, h => by obtain ⟨d, t, u, y, e, h1, h2⟩ := h; exact ⟨d, t, u, y, e, (x.fz' h1 h2).1, (x.fz' h1 h2).2⟩
  | .cdict _, _, h => by obtain ⟨d, kvs, e, h1, h2, h3, h4⟩ := h; exact ⟨d, kvs, e, DictOf.at' h1 fun o q => (x.fz' q h2).1, (DictOf.obj h1).elim fun u_ q => (x.fz' q h2).2, h3, h4⟩
theorem VRs.go (x : Lv w w') : ∀ {xs : List AV} {vs : List Value}, VRs cx w xs vs → VRs cx w' xs vs
  | [], _, h => h
  | _ :: _, _, h => by obtain ⟨v, us, e, h1, h2⟩ := h; exact ⟨v, us, e, VR.go x h1, VRs.go x h2⟩
end
theorem VR.lv (x : Lv w w') {a : AV} {v : Value} (r : VR cx w a v) : VR cx w' a v := VR.go x r
theorem VRs.lv (x : Lv w w') {xs : List AV} {vs : List Value} (r : VRs cx w xs vs) : VRs cx w' xs vs := VRs.go x r
theorem VR.mono (x : Le p w w') {a : AV} {v : Value} (r : VR cx w a v) : VR cx w' a v := r.lv x.toLv
theorem VRs.mono (x : Le p w w') {a : List AV} {v : List Value} (r : VRs cx w a v) : VRs cx w' a v := r.lv x.toLv
namespace VRs
theorem length {xs : List AV} : ∀ {vs : List Value}, VRs cx w xs vs → xs.length = vs.length := by
  induction xs with
  | nil => intro vs h; rw [show vs = [] from h]; rfl
  | cons a r ih => intro vs h; obtain ⟨_, us, rfl, _, h⟩ := h; exact congrArg Nat.succ (ih h)
theorem get {xs : List AV} : ∀ {vs : List Value}, VRs cx w xs vs → ∀ {i : Nat} {a : AV}, xs[i]? = some a → ∃ v, vs[i]? = some v ∧ VR cx w a v := by
  induction xs with
  | nil => intro vs h i a e; cases e
  | cons a r ih =>
    intro vs h i b e
    obtain ⟨v, us, rfl, h1, h2⟩ := h
    cases i with
    | zero => cases e; exact ⟨v, rfl, h1⟩
    | succ i => exact ih h2 (i := i) e
theorem append {xs ys : List AV} {ws : List Value} : ∀ {vs : List Value}, VRs cx w xs vs → VRs cx w ys ws → VRs cx w (xs ++ ys) (vs ++ ws) := by
  induction xs with
  | nil => intro vs h y; rw [show vs = [] from h]; exact y
  | cons a r ih => intro vs h y; obtain ⟨v, us, rfl, h1, h2⟩ := h; exact ⟨v, _, rfl, h1, ih h2 y⟩
theorem drop {xs : List AV} : ∀ {vs : List Value} (n : Nat), VRs cx w xs vs → VRs cx w (xs.drop n) (vs.drop n) := by
  induction xs with
  | nil => intro vs n h; rw [show vs = [] from h, List.drop_nil, List.drop_nil]; exact .nil
  | cons a r ih =>
    intro vs n h
    cases n with
    | zero => exact h
    | succ n => obtain ⟨v, us, rfl, h1, h2⟩ := h; exact ih n h2
theorem take {xs : List AV} : ∀ {vs : List Value} (n : Nat), VRs cx w xs vs → VRs cx w (xs.take n) (vs.take n) := by
  induction xs with
  | nil => intro vs n h; rw [show vs = [] from h, List.take_nil, List.take_nil]; exact .nil
  | cons a r ih =>
    intro vs n h
    obtain ⟨v, us, rfl, h1, h2⟩ := h
    cases n with
    | zero => exact .nil
    | succ n => exact .cons h1 (ih n h2)
theorem set {xs : List AV} {a : AV} {v : Value} : ∀ {vs : List Value} (n : Nat), VRs cx w xs vs → VR cx w a v → VRs cx w (xs.set n a) (vs.set n v) := by
  induction xs with
  | nil => intro vs n h y; rw [show vs = [] from h]; exact .nil
  | cons b r ih =>
    intro vs n h y
    obtain ⟨u, us, rfl, h1, h2⟩ := h
    cases n with
    | zero => exact .cons y h2
    | succ n => exact .cons h1 (ih n h2 y)
theorem eraseIdx {xs : List AV} : ∀ {vs : List Value} (n : Nat), VRs cx w xs vs → VRs cx w (xs.eraseIdx n) (vs.eraseIdx n) := by
  induction xs with
  | nil => intro vs n h; rw [show vs = [] from h]; exact .nil
  | cons b r ih =>
    intro vs n h
    obtain ⟨u, us, rfl, h1, h2⟩ := h
    cases n with
    | zero => exact h2
    | succ n => exact .cons h1 (ih n h2)
theorem rep {xs : List AV} {vs : List Value} (x : VRs cx w xs vs) : ∀ k : Nat, VRs cx w (List.replicate k xs).flatten (List.replicate k vs).flatten
  | 0 => .nil
  | k + 1 => by rw [List.replicate_succ, List.replicate_succ, List.flatten_cons, List.flatten_cons]; exact x.append (rep x k)
theorem size {xs : List AV} {vs : Array Value} (x : VRs cx w xs vs.toList) : vs.size = xs.length := by rw [x.length]; rfl
end VRs

def OR (cx : Cx) (w : Wl) (a : Addr) : AO → Prop
  | .list xs => ∃ vs n, IsL w.s.heap a vs n ∧ xs.length ≤ LIM ∧ VRs cx w xs vs.toList
  | .dict es => ∃ kvs, w.s.heap.DictOf (strKind cx.prog cx.w) a kvs ∧ ((a == sysModules) = false ∧ es.length ≤ LIM) ∧ kvs.map (·.1) = es.map (·.1) ∧ VRs cx w (es.map (·.2)) (kvs.map (·.2))
theorem OR.go (x : Lv w w') {a : Addr} (e : ∀ q, w.s.heap.get? a = some q → w'.s.heap.get? a = some q) {o : AO} (h : OR cx w a o) : OR cx w' a o := by
  cases o with
  | list xs => obtain ⟨vs, n, h1, h2, h3⟩ := h; exact ⟨vs, n, e _ h1, h2, h3.go x⟩
  | dict es => obtain ⟨kvs, h1, h2, h3, h4⟩ := h; exact ⟨kvs, DictOf.at' h1 e, h2, h3, h4.go x⟩
theorem OR.keep (x : Lv w w') {a : Addr} (e : ∀ q, w.s.heap.get? a = some q → w'.s.heap.get? a = some q) {o : AO} (h : OR cx w a o) : OR cx w' a o := OR.go x e h
theorem OR.obj {a : Addr} {o : AO} (h : OR cx w a o) : ∃ q, w.s.heap.get? a = some q := by
  cases o with
  | list xs => obtain ⟨_, _, h1, _⟩ := h; exact ⟨_, h1⟩
  | dict es => obtain ⟨_, h1, _⟩ := h; exact DictOf.obj h1
structure St (cx : Cx) (w : Wl) (H : AHeap) : Prop where
  base : ∀ b o, cx.h₀.get? b = some o → w.s.heap.get? b = some o ∧ b ∉ w.ι ∧ b ∉ w.π
  len : w.ι.length = H.length
  nodup : w.ι.Nodup
  dj : ∀ a ∈ w.ι, a ∉ w.π
  pvx : ∀ a ∈ w.π, ∃ o, w.s.heap.get? a = some o
  own : ∀ (l : Nat) (a : Addr) (o : AO), w.ι[l]? = some a → H[l]? = some o → OR cx w a o
  gens : w.s.gens = #[]
  os : w.s.os = cx.os₀
  sysm : ∃ o, cx.h₀.get? cStatics = some o
end
end Mine


set_option autoImplicit false
set_option linter.unusedVariables false
namespace Mine
open PySem PyProof.Rows

def Post (cx : Cx) (p : Addr → Prop) (w : Wl) {α β : Type} (R : Wl → α → β → Prop) (r : Except Str α) (H' : AHeap) (b : β) (s' : Shared) : Prop :=
  ∃ ι π a, r = .ok a ∧ Le p w ⟨ι, π, s'⟩ ∧ St cx ⟨ι, π, s'⟩ H' ∧ R ⟨ι, π, s'⟩ a b
def PostX (cx : Cx) (p : Addr → Prop) (w : Wl) {α : Type} (r : Except Str α) (H' : AHeap) (e : Value) (s' : Shared) : Prop := False
theorem Post.el {cx : Cx} {p : Addr → Prop} {w : Wl} {α β : Type} {R : Wl → α → β → Prop} {r : Except Str α} {H' : AHeap} {b : β} {s' : Shared} {C : Prop} (h : Post cx p w R r H' b s') (k : ∀ ι π a, r = .ok a → Le p w ⟨ι, π, s'⟩ → St cx ⟨ι, π, s'⟩ H' → R ⟨ι, π, s'⟩ a b → C) : C := by
  obtain ⟨ι, π, a, e, l, S, q⟩ := h
  exact k ι π a e l S q
theorem Post.out {cx : Cx} {p : Addr → Prop} {w : Wl} {α β : Type} {R : Wl → α → β → Prop} {x : Str} {H' : AHeap} {b : β} {s' : Shared} {C : Prop} (h : Post cx p w R (.error x) H' b s') : C := h.el fun u_ u_ u_ e u_ u_ u_ => nomatch e
theorem PostX.out {cx : Cx} {p : Addr → Prop} {w : Wl} {α : Type} {r : Except Str α} {H' : AHeap} {e : Value} {s' : Shared} {C : Prop} (h : PostX cx p w r H' e s') : C := h.elim
def Rf (cx : Cx) (A : Around) (p : Addr → Prop) (w : Wl) {α β : Type} (R : Wl → α → β → Prop) (m : M α) (t : Sem β) : Prop :=
  ∀ H, St cx w H → ∀ r H', m H = some (r, H') → wpAny (model cx.prog cx.w) A t (Post cx p w R r H') (PostX cx p w r H') w.s

theorem pure_some {α : Type} {a : α} {r : Except Str α} {H H' : AHeap} (h : (pure a : M α) H = some (r, H')) : r = .ok a ∧ H' = H := by
  change some (Except.ok a, H) = some (r, H') at h; cases h; exact ⟨rfl, rfl⟩
theorem bindM {α β : Type} (m : M α) (f : α → M β) (H : AHeap) : (m >>= f) H = (m H).bind fun q => match q.1 with
    | .ok a => f a q.2
    | .error x => some (.error x, q.2) := by
  show Option.bind (m H) _ = _
  congr 1
  funext q
  obtain ⟨r, H1⟩ := q
  cases r <;> rfl
theorem bind_inv {α β : Type} {m : M α} {f : α → M β} {H : AHeap} {r : Except Str β} {H'' : AHeap} {C : Prop} (h : (m >>= f) H = some (r, H'')) (k : ∀ a H', m H = some (.ok a, H') → f a H' = some (r, H'') → C)
    (kx : ∀ x, m H = some (.error x, H'') → r = .error x → C) : C := by
  rw [bindM] at h
  cases hm : m H with
  | none => rw [hm] at h; cases h
  | some q =>
    rw [hm] at h
    obtain ⟨r1, H1⟩ := q
    cases r1 with
    | ok a => exact k a H1 hm h
    | error x => cases h; exact kx x hm rfl

section
variable {cx : Cx} {A : Around} {p : Addr → Prop} {w : Wl} {α β γ δ : Type} {R : Wl → α → β → Prop} {R' : Wl → γ → δ → Prop} {m : M α} {t : Sem β} {f : α → M γ} {k : β → Sem δ}
theorem Rf.stuck : Rf cx A p w R (Mine.stuck : M α) t := fun H S r H' h => nomatch h
theorem Post.here {a : α} {b : β} {H : AHeap} (S : St cx w H) (h : R w a b) : Post cx p w R (.ok a) H b w.s := ⟨w.ι, w.π, a, rfl, .refl _, S, h⟩
theorem Post.le {p : Addr → Prop} {w w' : Wl} {r : Except Str α} {H' : AHeap} {b : β} {s' : Shared} (l : Le p w w') (x : Post cx p w' R r H' b s') : Post cx p w R r H' b s' := x.el fun ι π c e l2 S q => ⟨ι, π, c, e, l.trans l2, S, q⟩
theorem PostX.le {p : Addr → Prop} {w w' : Wl} {r : Except Str α} {H' : AHeap} {b : Value} {s' : Shared} (l : Le p w w') (x : PostX cx p w' r H' b s') : PostX cx p w r H' b s' := x.elim
theorem Rf.run (x : Rf cx A p w R m t) {H : AHeap} (S : St cx w H) {r : Except Str γ} {H' : AHeap} (h : (m >>= f) H = some (r, H')) {K : β → Shared → Prop} (k : ∀ w1 a b H1, Le p w w1 → St cx w1 H1 → R w1 a b → f a H1 = some (r, H') → K b w1.s) :
    wpAny (model cx.prog cx.w) A t K (PostX cx p w r H') w.s := by
  refine bind_inv h (fun a H1 h1 h2 => ?_) fun e h1 h2 => ?_
  · refine wpAny_mono (x H S _ H1 h1) (fun b s1 z_ => z_.el fun ι π a' e l S1 r1 => ?_) fun u_ u_ z_ => z_.out
    cases e
    exact k _ a b H1 l S1 r1 h2
  · subst h2
    exact wpAny_mono (x H S _ H' h1) (fun b s1 z_ => z_.out) fun d s2 z_ => z_.out
theorem Rf.seqw {T : Sem δ} (x : Rf cx A p w R m t) (y : ∀ w' a b, Le p w w' → R w' a b → Rf cx A p w' R' (f a) (k b))
    (hT : ∀ {Q : δ → Shared → Prop} {E : Value → Shared → Prop}, wpAny (model cx.prog cx.w) A t (fun b s' => wpAny (model cx.prog cx.w) A (k b) Q E s') E w.s → wpAny (model cx.prog cx.w) A T Q E w.s) : Rf cx A p w R' (m >>= f) T := fun H S r H' h =>
  hT (x.run S h fun w1 a b H1 l S1 r1 h2 => wpAny_mono (y w1 a b l r1 H1 S1 r H' h2) (fun u_ u_ q => q.le l) fun u_ u_ q => q.le l)
theorem Rf.bind (x : Rf cx A p w R m t) (y : ∀ w' a b, Le p w w' → R w' a b → Rf cx A p w' R' (f a) (k b)) : Rf cx A p w R' (m >>= f) (t >>= k) := x.seqw y wpAny_bind
theorem Rf.img {R' : Wl → α → δ → Prop} {g : β → δ} {t' : Sem δ} (x : Rf cx A p w R m t) (hR : ∀ w' a b, R w' a b → R' w' a (g b))
    (h : ∀ {Q : δ → Shared → Prop} {E : Value → Shared → Prop}, wpAny (model cx.prog cx.w) A t (fun b s' => Q (g b) s') E w.s → wpAny (model cx.prog cx.w) A t' Q E w.s) : Rf cx A p w R' m t' := fun H S r H' e =>
  h (wpAny_mono (x H S r H' e) (fun b u_ z_ => z_.el fun ι π a e l s r => ⟨ι, π, a, e, l, s, hR _ a b r⟩) fun u_ u_ z => z)
theorem Rf.pure {a : α} {b : β} (h : R w a b) : Rf cx A p w R (Pure.pure a) (Pure.pure b) := fun H S r H' q => by
  obtain ⟨rfl, rfl⟩ := pure_some q
  exact wpAny_pure (Post.here S h)
theorem Rf.weak {q : Addr → Prop} (x : Rf cx A p w R m t) (h : ∀ d, d ∈ w.π → p d → q d) : Rf cx A q w R m t := fun H S r H' e =>
  wpAny_mono (x H S r H' e) (fun u_ u_ z_ => z_.el fun ι π a e l s r => ⟨ι, π, a, e, l.weak h, s, r⟩) fun u_ u_ z_ => z_.out
theorem Rf.no (x : Rf cx A No w R m t) : Rf cx A p w R m t := x.weak fun u_ u_ z => z.elim
theorem Rf.map {δ : Type} {R' : Wl → α → δ → Prop} {k : β → Sem δ} (x : Rf cx A p w R m t) (y : ∀ w' a b, Le p w w' → R w' a b → Rf cx A p w' R' (Pure.pure a) (k b)) : Rf cx A p w R' m (t >>= k) := by
  have := Rf.bind (f := Pure.pure) x y
  rwa [bind_pure] at this
theorem Rf.mono {R' : Wl → α → β → Prop} (x : Rf cx A p w R m t) (h : ∀ w' a b, Le p w w' → R w' a b → R' w' a b) : Rf cx A p w R' m t := fun H S r H' e =>
  wpAny_mono (x H S r H' e) (fun b u_ z_ => z_.el fun ι π a e l s r => ⟨ι, π, a, e, l, s, h _ a b l r⟩) fun u_ u_ z => z
theorem Rf.standAt {q : Pos} (x : Rf cx A p w R m t) : Rf cx A p w R m (PySem.standAt q >>= fun u_ => t) := fun H S r H' e => wpAny_bind (wpAny_standAt (x H S r H' e))
theorem Rf.holding {vs : List Value} (x : Rf cx A p w R m t) : Rf cx A p w R m (PySem.holding vs t) := fun H S r H' e => wpAny_holding (x H S r H' e)
def Rd (cx : Cx) (w : Wl) {γ : Type} (m : M γ) (K : γ → Prop) : Prop := ∀ H, St cx w H → ∀ r H', m H = some (r, H') → H' = H ∧ ∃ c, r = .ok c ∧ K c
theorem Rf.read {m : M γ} {f : γ → M α} {K : γ → Prop} (x : Rd cx w m K) (y : ∀ c, K c → Rf cx A p w R (f c) t) : Rf cx A p w R (m >>= f) t := fun H S r H' h =>
  bind_inv h (fun a H1 h1 h2 => by obtain ⟨rfl, c, e, hc⟩ := x H S _ H1 h1; cases e; exact y a hc H1 S r H' h2) fun e h1 h2 => by obtain ⟨_, c, e, _⟩ := x H S _ H' h1; cases e
theorem Rd.pure {c : γ} {K : γ → Prop} (h : K c) : Rd cx w (Pure.pure c) K := fun H S r H' e => by obtain ⟨rfl, rfl⟩ := pure_some e; exact ⟨rfl, c, rfl, h⟩
theorem Rd.stuck {K : γ → Prop} : Rd cx w (Mine.stuck : M γ) K := fun H S r H' e => nomatch e
theorem Rd.bind {m : M γ} {f : γ → M δ} {K : γ → Prop} {J : δ → Prop} (x : Rd cx w m K) (y : ∀ c, K c → Rd cx w (f c) J) : Rd cx w (m >>= f) J := fun H S r H' h =>
  bind_inv h (fun a H1 h1 h2 => by obtain ⟨rfl, c, e, hc⟩ := x H S _ H1 h1; cases e; exact y a hc H1 S r H' h2) fun e h1 h2 => by obtain ⟨_, c, e, _⟩ := x H S _ H' h1; cases e
theorem Rd.mono {m : M γ} {K J : γ → Prop} (x : Rd cx w m K) (y : ∀ c, K c → J c) : Rd cx w m J := fun H S r H' h => let ⟨e, c, h1, h2⟩ := x H S r H' h; ⟨e, c, h1, y c h2⟩
theorem Rd.opt {o : Option γ} : Rd cx w (ofOpt o) (fun c => o = some c) := by
  cases o with
  | none => exact .stuck
  | some c => exact .pure rfl
theorem Rf.leaf {c : α} (x : ∀ H, St cx w H → wpAny (model cx.prog cx.w) A t (Post cx p w R (.ok c) H) (PostX cx p w (.ok c : Except Str α) H) w.s) : Rf cx A p w R (Pure.pure c) t := fun H S r H' h => by
  obtain ⟨rfl, rfl⟩ := pure_some h
  exact x _ S
end

section
variable {cx : Cx} {A : Around} {p : Addr → Prop} {w : Wl} {H : AHeap}
theorem get_size (h : Heap) : h.get? h.objs.size = none := by
  cases e : h.get? h.objs.size with
  | none => rfl
  | some o => exact absurd (Heap.lt_size e) (Nat.lt_irrefl _)
namespace St
theorem obj (S : St cx w H) {a : Addr} (ha : a ∈ w.ι) : ∃ q, w.s.heap.get? a = some q := by
  obtain ⟨l, hl, e⟩ := List.mem_iff_getElem.mp ha
  exact (S.own l a (H[l]'(S.len ▸ hl)) (by rw [List.getElem?_eq_getElem hl, e]) (List.getElem?_eq_getElem _)).obj
theorem new (S : St cx w H) {a : Addr} (ha : w.s.heap.get? a = none) : Fz w a :=
  ⟨fun h => (S.obj h).elim fun u_ e => (nomatch ha.symm.trans e), fun h => (S.pvx a h).elim fun u_ e => nomatch ha.symm.trans e⟩
theorem not_sys (S : St cx w H) : (w.s.heap.objs.size == sysModules) = false := by
  obtain ⟨o, e⟩ := S.sysm
  have h1 := Heap.lt_size (S.base _ _ e).1
  exact beq_eq_false_iff_ne.mpr (Nat.ne_of_gt (Nat.lt_trans (by decide) h1))
theorem keeps (S : St cx w H) {h' : Heap} {t : Nat} (hk : ∀ b o, w.s.heap.get? b = some o → h'.get? b = some o) : St cx ⟨w.ι, w.π, { w.s with heap := h', toks := t }⟩ H where
  base := fun b o e => let q := S.base b o e; ⟨hk b o q.1, q.2⟩
  len := S.len
  nodup := S.nodup
  dj := S.dj
  pvx := fun a ha => let ⟨o, e⟩ := S.pvx a ha; ⟨o, hk a o e⟩
  own := fun l a o e1 e2 => (S.own l a o e1 e2).keep (w' := ⟨w.ι, w.π, { w.s with heap := h', toks := t }⟩) (Le.keeps (p := No) hk).toLv (hk a)
  gens := S.gens
  os := S.os
  sysm := S.sysm
theorem alloc (S : St cx w H) {h' : Heap} {t : Nat} {a : Addr} {o : AO} (hk : ∀ b q, w.s.heap.get? b = some q → h'.get? b = some q) (ha : w.s.heap.get? a = none)
    (r : Le No w ⟨w.ι ++ [a], w.π, { w.s with heap := h', toks := t }⟩ → OR cx ⟨w.ι ++ [a], w.π, { w.s with heap := h', toks := t }⟩ a o) :
    Le No w ⟨w.ι ++ [a], w.π, { w.s with heap := h', toks := t }⟩ ∧ St cx ⟨w.ι ++ [a], w.π, { w.s with heap := h', toks := t }⟩ (H ++ [o]) := by
  have hf := S.new ha
  have ne : ∀ {b : Addr} {q : Obj}, w.s.heap.get? b = some q → b ∉ w.ι → b ∉ w.ι ++ [a] := fun {b q} e h1 h2 => by
    rcases List.mem_append.mp h2 with h | h
    · exact h1 h
    · rw [List.mem_singleton.mp h, ha] at e; cases e
  have l : Le No w ⟨w.ι ++ [a], w.π, { w.s with heap := h', toks := t }⟩ := ⟨⟨List.prefix_append _ _, fun b q e h1 h2 => ⟨hk b q e, ne e h1, h2⟩⟩, fun u_ h u_ => h, fun b q u_ u_ e => hk b q e⟩
  refine ⟨l, ⟨fun b q e => let z := S.base b q e; ⟨hk b q z.1, ne z.1 z.2.1, z.2.2⟩, by rw [List.length_append, List.length_append, S.len]; rfl, ?_, ?_, fun b hb => let ⟨q, e⟩ := S.pvx b hb; ⟨q, hk b q e⟩, ?_, S.gens, S.os, S.sysm⟩⟩
  · exact List.nodup_append.mpr ⟨S.nodup, List.nodup_cons.mpr ⟨List.not_mem_nil, List.nodup_nil⟩, fun x hx y hy e => hf.1 (by rw [List.mem_singleton.mp hy] at e; exact e ▸ hx)⟩
  · intro b hb
    rcases List.mem_append.mp hb with h | h
    · exact S.dj b h
    · rw [List.mem_singleton.mp h]; exact hf.2
  · intro i b q e1 e2
    rcases Nat.lt_trichotomy i w.ι.length with h | h | h
    · rw [List.getElem?_append_left h] at e1
      rw [List.getElem?_append_left (S.len ▸ h)] at e2
      exact (S.own i b q e1 e2).keep l.toLv (hk b)
    · subst h
      rw [List.getElem?_concat_length] at e1
      rw [S.len, List.getElem?_concat_length] at e2
      cases e1; cases e2
      exact r l
    · rw [List.getElem?_eq_none (by rw [List.length_append]; exact h)] at e1; cases e1
theorem turn (S : St cx w H) {l : Nat} {a : Addr} {h' : Heap} {t : Nat} {o : AO} (hl : w.ι[l]? = some a) (hk : ∀ b q, b ≠ a → w.s.heap.get? b = some q → h'.get? b = some q)
    (r : Le No w ⟨w.ι, w.π, { w.s with heap := h', toks := t }⟩ → OR cx ⟨w.ι, w.π, { w.s with heap := h', toks := t }⟩ a o) :
    Le No w ⟨w.ι, w.π, { w.s with heap := h', toks := t }⟩ ∧ St cx ⟨w.ι, w.π, { w.s with heap := h', toks := t }⟩ (H.set l o) := by
  have hm : a ∈ w.ι := List.mem_of_getElem? hl
  have hp : ∀ b ∈ w.π, b ≠ a := fun b hb e => S.dj a hm (e ▸ hb)
  have le : Le No w ⟨w.ι, w.π, { w.s with heap := h', toks := t }⟩ := ⟨⟨List.prefix_refl _, fun b q e h1 h2 => ⟨hk b q (fun z => h1 (z ▸ hm)) e, h1, h2⟩⟩, fun u_ h u_ => h, fun b q h u_ e => hk b q (hp b h) e⟩
  refine ⟨le, ⟨fun b q e => let z := S.base b q e; ⟨hk b q (fun y => z.2.1 (y ▸ hm)) z.1, z.2⟩, by rw [List.length_set]; exact S.len, S.nodup, S.dj, fun b hb => let ⟨q, e⟩ := S.pvx b hb; ⟨q, hk b q (hp b hb) e⟩, fun i b q e1 e2 => ?_, S.gens, S.os, S.sysm⟩⟩
  by_cases hi : l = i
  · subst hi
    rw [hl] at e1; cases e1
    rw [List.getElem?_set_self ((S.len ▸ (List.getElem?_eq_some_iff.mp hl).1 :))] at e2
    cases e2
    exact r le
  · rw [List.getElem?_set_ne hi] at e2
    have hba : b ≠ a := fun z => hi (by
      refine byC fun C_ k_ => ?_
      obtain ⟨h1, q1⟩ := List.getElem?_eq_some_iff.mp hl
      obtain ⟨h2, q2⟩ := List.getElem?_eq_some_iff.mp e1
      refine k_ ?_
      clear k_ C_
      exact (List.getElem_inj S.nodup).mp (q1.trans (z.symm.trans q2.symm)))
    exact (S.own i b q e1 e2).keep le.toLv fun q' e => hk b q' hba e
end St
section
variable {R : Wl → AV → Value → Prop}
theorem Post.tok {α β : Type} {R : Wl → α → β → Prop} {a : α} {b : β} (S : St cx w H) (t : Nat) (h : R ⟨w.ι, w.π, { w.s with toks := t }⟩ a b) : Post cx p w R (.ok a) H b { w.s with toks := t } :=
  ⟨w.ι, w.π, a, rfl, .tok t, S.keeps (t := t) fun u_ u_ e => e, h⟩
end
set_option tactic.hygienic true in
theorem newL_post (S : St cx w H) {mu : Bool} {xs : List AV} {vs : Array Value} {r : Except Str AV} {H' : AHeap} {h' : Heap} {t : Nat} {d : Addr} {n : Nat} (he : newL mu xs H = some (r, H'))
    (hk : ∀ b q, w.s.heap.get? b = some q → h'.get? b = some q) (hd : w.s.heap.get? d = none) (hL : IsL h' d vs n) (x : VRs cx w xs vs.toList) : Post cx p w (VR cx) r H' (.ref d) { w.s with heap := h', toks := t } := by
  unfold newL at he
  split at he
  · rename_i hz
    cases mu with
    | true =>
      cases he
      obtain ⟨l, S1⟩ := S.alloc (t := t) hk hd (o := .list xs) (fun l => ⟨vs, n, hL, hz, x.mono l⟩)
      exact ⟨_, _, _, rfl, l.no, S1, .loc (by rw [← S.len]; exact List.getElem?_concat_length)⟩
    | false =>
      obtain ⟨rfl, rfl⟩ := pure_some he
      have l : Le No w ⟨w.ι, w.π, { w.s with heap := h', toks := t }⟩ := .keeps hk
      exact ⟨_, _, _, rfl, l.no, S.keeps hk, .lst hL (S.new hd) hz (x.mono l)⟩
  · cases he
theorem newL_len {mu : Bool} {xs : List AV} {q : Except Str AV × AHeap} (he : newL mu xs H = some q) : xs.length ≤ LIM := by
  unfold newL at he
  split at he
  · assumption
  · cases he
theorem LIM_le : LIM ≤ sizeLine := by decide
theorem LIM_is : LIM = 1048576 := by decide
theorem newList_rf {mu : Bool} {xs : List AV} {vs : List Value} (x : VRs cx w xs vs) : Rf cx A p w (VR cx) (newL mu xs) (newList vs) := fun H S r H' he =>
  wpAny_newObj_type (newL_post S he (t := w.s.toks) (fun b q e => Heap.get?_push_of_some _ e) (get_size _) (IsL.new _ _) x) (by
    show vs.toArray.size ≤ sizeLine
    rw [List.size_toArray, ← x.length]; exact Nat.le_trans (newL_len he) LIM_le)
theorem newTuple_rf {xs : List AV} {vs : List Value} (hl : xs.length ≤ LIM) (x : VRs cx w xs vs) : Rf cx A p w (VR cx) (pure (.tup xs)) (newTuple vs) := .leaf fun H S =>
  wpAny_newObj_type ⟨w.ι, w.π, _, rfl, .keeps fun b q e => Heap.get?_push_of_some _ e, S.keeps (t := w.s.toks) fun b q e => Heap.get?_push_of_some _ e, .tup (IsT.new _ _) (S.new (get_size _)) hl (x.mono (p := No) (.keeps fun b q e => Heap.get?_push_of_some _ e))⟩ (by
    show vs.toArray.size ≤ sizeLine
    rw [List.size_toArray, ← x.length]; exact Nat.le_trans hl LIM_le)

set_option tactic.hygienic true in
theorem listAt_rd {l : Nat} {a : Addr} (h : w.ι[l]? = some a) : Rd cx w (listAt l) fun xs => ∃ vs n, IsL w.s.heap a vs n ∧ xs.length ≤ LIM ∧ VRs cx w xs vs.toList := fun H S r H' e => by
  refine bind_inv e (fun o H1 h1 h2 => ?_) fun x h1 h2 => ?_
  · unfold objAt at h1
    split at h1
    · rename_i o' ho
      cases h1
      cases o with
      | list xs => obtain ⟨rfl, rfl⟩ := pure_some h2; exact ⟨rfl, xs, rfl, S.own l a _ h ho⟩
      | dict es => cases h2
    · cases h1
  · unfold objAt at h1
    split at h1 <;> cases h1
set_option tactic.hygienic true in
theorem dictAt_rd {l : Nat} {a : Addr} (h : w.ι[l]? = some a) : Rd cx w (dictAt l) fun es => OR cx w a (.dict es) := fun H S r H' e => by
  refine bind_inv e (fun o H1 h1 h2 => ?_) fun x h1 h2 => ?_
  · unfold objAt at h1
    split at h1
    · rename_i o' ho
      cases h1
      cases o with
      | dict xs => obtain ⟨rfl, rfl⟩ := pure_some h2; exact ⟨rfl, xs, rfl, S.own l a _ h ho⟩
      | list es => cases h2
    · cases h1
  · unfold objAt at h1
    split at h1 <;> cases h1
theorem listOf_rd {a : AV} {v : Value} (x : VR cx w a v) : Rd cx w (listOf a) fun xs => ∃ l vs n, v = .ref l ∧ IsL w.s.heap l vs n ∧ xs.length ≤ LIM ∧ VRs cx w xs vs.toList := by
  cases a with
  | lst xs => obtain ⟨l, vs, n, e, h1, _, h3, h4⟩ := x; exact .pure ⟨l, vs, n, e, h1, h3, h4⟩
  | loc i => obtain ⟨l, e, h⟩ := x; exact (listAt_rd h).mono fun xs ⟨vs, n, q⟩ => ⟨l, vs, n, e, q⟩
  | _ => exact .stuck
inductive IsSeq (h : Heap) (l : Addr) (vs : Array Value) (n : Nat) : Prop
  | list (x : IsL h l vs n)
  | tuple (x : IsT h l vs n)
theorem seqOf_rd {a : AV} {v : Value} (x : VR cx w a v) : Rd cx w (seqOf a) fun xs => ∃ l vs n, v = .ref l ∧ IsSeq w.s.heap l vs n ∧ xs.length ≤ LIM ∧ VRs cx w xs vs.toList := by
  cases a with
  | tup xs => obtain ⟨l, vs, n, e, h1, _, h3, h4⟩ := x; exact .pure ⟨l, vs, n, e, .tuple h1, h3, h4⟩
  | lst xs => obtain ⟨l, vs, n, e, h1, _, h3, h4⟩ := x; exact .pure ⟨l, vs, n, e, .list h1, h3, h4⟩
  | loc i => obtain ⟨l, e, h⟩ := x; exact (listAt_rd h).mono fun xs ⟨vs, n, q1, q⟩ => ⟨l, vs, n, e, .list q1, q⟩
  | _ => exact .stuck
theorem mul_fits_of {i j : Int} (h : j.natAbs < 2 ^ 64 ∨ i.natAbs < 2 ^ 64) : IntMulOk i j := by
  rcases h with h | h
  · exact .of_right (intBits_le_64 (by omega) (by omega))
  · exact .of_left (intBits_le_64 (by omega) (by omega))
theorem int2_rf {a b : AV} {f : Int → Int → M AV} {op : Operator} {v u : Value} {R : Wl → AV → Value → Prop} (ra : VR cx w a v) (rb : VR cx w b u) (k : ∀ i j t s, Rf cx A p w R (f i j) (binaryOp op (.int i t) (.int j s))) : Rf cx A p w R (int2 a b f) (binaryOp op v u) := by
  cases a with
  | int i =>
    cases b with
    | int j =>
      refine byC fun C_ k_ => ?_
      obtain ⟨t, rfl⟩ := ra
      obtain ⟨s, rfl⟩ := rb
      refine k_ ?_
      clear k_ C_
      exact k i j t s
    | _ => exact .stuck
  | _ => exact .stuck
theorem ite_rf {c : Prop} [Decidable c] {α β : Type} {R : Wl → α → β → Prop} {m n : M α} {t : Sem β} (h1 : c → Rf cx A p w R m t) (h2 : ¬ c → Rf cx A p w R n t) : Rf cx A p w R (if c then m else n) t := by
  split
  · exact h1 ‹_›
  · exact h2 ‹_›
theorem addList_rf {mu : Bool} {a b : AV} {v u : Value} (ra : VR cx w a v) (rb : VR cx w b u) : Rf cx A p w (VR cx) (do let xs ← listOf a; let ys ← listOf b; newL mu (xs ++ ys)) (binaryOp .Add v u) := by
  refine .read (listOf_rd ra) fun xs ⟨l, vs, n, e, hl, hz, hvs⟩ => .read (listOf_rd rb) fun ys ⟨l2, ws, n2, e2, hl2, hz2, hws⟩ => ?_
  subst e; subst e2
  refine fun H S r H' he => P.add_list hl hl2 (newL_post S he (t := w.s.toks) (fun b q e => Heap.get?_push_of_some _ e) (get_size _) (IsL.new _ _) (by rw [Array.toList_append]; exact hvs.append hws)) ?_
  have h1 := newL_len he
  rw [List.length_append] at h1
  rw [hvs.size, hws.size]; exact Nat.le_trans h1 LIM_le
theorem addTup_rf {a b : AV} {xs : List AV} {v u : Value} (ra : VR cx w (.tup xs) v) (rb : VR cx w b u) : Rf cx A p w (VR cx) (addTup xs b) (binaryOp .Add v u) := by
  cases b with
  | tup ys =>
    refine ite_rf (fun u_ => .stuck) fun hc => ?_
    have hc := Bool.eq_false_iff.mpr hc
    rw [Bool.or_eq_false_iff, Bool.or_eq_false_iff, List.isEmpty_eq_false_iff, List.isEmpty_eq_false_iff, decide_eq_false_iff_not] at hc
    obtain ⟨⟨hx, hy⟩, hlen⟩ := hc
    refine ra.tupE fun a vs n ha hfa hza hsa => rb.tupE fun b ws m hb hfb hzb hsb => .leaf fun H S => ?_
    have ne : ∀ {zs : List AV} {us : Array Value}, VRs cx w zs us.toList → zs ≠ [] → ¬ us.isEmpty = true := fun {zs us} h1 h2 h3 => h2 (List.length_eq_zero_iff.mp (by rw [← h1.size]; exact Array.isEmpty_iff_size_eq_zero.mp h3))
    refine P.add_tuple ha hb (ne hsa hx) (ne hsb hy) ⟨w.ι, w.π, _, rfl, .keeps fun b q e => Heap.get?_push_of_some _ e, S.keeps (t := w.s.toks) fun b q e => Heap.get?_push_of_some _ e, .tup (IsT.new _ _) (S.new (get_size _)) (by rw [List.length_append]; exact Nat.not_lt.mp hlen) ?_⟩ ?_
    · rw [Array.toList_append]; exact (hsa.append hsb).mono (p := No) (.keeps fun b q e => Heap.get?_push_of_some _ e)
    · rw [hsa.size, hsb.size]; exact Nat.le_trans (Nat.not_lt.mp hlen) LIM_le
  | _ => exact .stuck
theorem add_rf {mu : Bool} {a b : AV} {v u : Value} (ra : VR cx w a v) (rb : VR cx w b u) : Rf cx A p w (VR cx) (bAdd mu a b) (binaryOp .Add v u) := by
  cases a with
  | int i =>
    cases b with
    | int j => exact ra.intE fun t => rb.intE fun s => .leaf fun H S => add_int (.tok S _ .int)
    | _ => exact .stuck
  | tup xs => exact addTup_rf (a := .none) ra rb
  | _ => exact addList_rf ra rb
theorem mulList_rf {mu : Bool} {a : AV} {v : Value} {n : Int} {t : Tok} (ra : VR cx w a v) :
    Rf cx A p w (VR cx) (do let xs ← listOf a; if n < 0 ∨ 1048576 < n ∨ LIM < n.toNat * xs.length then stuck else newL mu (List.replicate n.toNat xs).flatten) (binaryOp .Mult v (.int n t)) := by
  refine .read (listOf_rd ra) fun xs ⟨l, vs, k, e, hl, hz, hvs⟩ => ite_rf (fun u_ => .stuck) fun hc => fun H S r H' he => ?_
  subst e
  have L := LIM_is
  have h2 : vs.size * n.toNat ≤ 2 ^ 24 := by rw [hvs.size, Nat.mul_comm]; omega
  refine wpAny_binaryOp_repeat_ref (T := "list") (U := "int") (by decide) ⟨_, hl, rfl⟩ (fun s' => typeIs_int s' n t) noFill_list_mul F.fills_int_mul F.slot_int_rmul repeat_list F.slot_int_index.lookup
    (call_meets F.slot_int_rmul (typeIs_int w.s n t) F.entry_int_rmul (F.args_int_rmul_2 _ _) (int___rmul___int_list n t l vs k)
      ⟨hl, rfl, ⟨_, hl, rfl⟩, call_meets F.slot_list_mul ⟨_, hl, rfl⟩ F.entry_list_mul (F.args_list_mul_2 _ _)
        (AutoListH.list___mul___list_int_3 l vs k n t (by simp [Builtin.List.listFitsIndex]; omega) (by omega) (by simp [Builtin.List.listTooLong, sizeLine]; omega))
        ⟨hl, ?_⟩⟩)
  refine newL_post S he (t := w.s.toks) (fun b q e => Heap.get?_push_of_some _ e) (get_size _) (IsL.new _ _) ?_
  rw [listMul_foldl_if]
  simpa using hvs.rep n.toNat
theorem mul_rf {mu : Bool} {a b : AV} {v u : Value} (ra : VR cx w a v) (rb : VR cx w b u) : Rf cx A p w (VR cx) (bMul mu a b) (binaryOp .Mult v u) := by
  cases b with
  | int n =>
    refine rb.intE fun t => ?_
    cases a with
    | int i => exact ra.intE fun t => ite_rf (fun hc => .leaf fun H S => mul_int (.tok S _ .int) (mul_fits_of hc)) fun u_ => .stuck
    | _ => exact mulList_rf ra
  | _ => exact .stuck
theorem bin_rf {mu : Bool} {op : Operator} {a b : AV} {v u : Value} (ra : VR cx w a v) (rb : VR cx w b u) : Rf cx A p w (VR cx) (pBin mu op a b) (binaryOp op v u) := by
  cases op with
  | Add => exact add_rf ra rb
  | Sub => exact int2_rf ra rb fun i j t s => .leaf fun H S => sub_int' (.tok S _ .int)
  | Mult => exact mul_rf ra rb
  | FloorDiv => exact int2_rf ra rb fun i j t s => ite_rf (fun u_ => .stuck) fun hc => .leaf fun H S => floordiv_int (fun z => hc (.inl z)) (.tok S _ .int) (.inl (PyProof.noPylong_small (by (first | lia | omega))))
  | Mod => exact int2_rf ra rb fun i j t s => ite_rf (fun u_ => .stuck) fun hc => .leaf fun H S => mod_int' hc (.tok S _ .int)
  | Pow => exact int2_rf ra rb fun i j t s => ite_rf (fun ⟨h1, h2⟩ => by subst h1; subst h2; exact .leaf fun H S => pow_int_small (by decide) (by decide) (by decide) (.tok S _ .int)) fun u_ => .stuck
  | _ => exact .stuck
theorem neg_rf {a : AV} {v : Value} (ra : VR cx w a v) : Rf cx A p w (VR cx) (pNeg a) (unaryOp .USub v) := by
  cases a with
  | int i => exact ra.intE fun t => .leaf fun H S => neg_int (.tok S _ .int)
  | _ => exact .stuck
theorem truth_rf {a : AV} {v : Value} (ra : VR cx w a v) : Rf cx A p w (fun u_ x y => x = y ∧ a = .bool x) (truth a) (truthy v) := by
  cases a with
  | bool b => exact ra.boolE (.leaf fun H S => wpAny_truthy_bool (.here S ⟨rfl, rfl⟩))
  | _ => exact .stuck
end
end Mine


set_option autoImplicit false
set_option linter.unusedVariables false
namespace Mine
open PySem PyProof.Rows PySem.SeqAt

section
variable {cx : Cx} {A : Around} {p : Addr → Prop} {w : Wl} {H : AHeap}

theorem mapM_cons_some {α β : Type} {f : α → Option β} {x : α} {xs : List α} {r : List β} (h : (x :: xs).mapM f = some r) : ∃ y ys, f x = some y ∧ xs.mapM f = some ys ∧ r = y :: ys := by
  rw [List.mapM_cons] at h
  refine byC fun C_ k_ => ?_
  obtain ⟨y, h1, h2⟩ := Option.bind_eq_some_iff.mp h
  obtain ⟨ys, h3, h4⟩ := Option.bind_eq_some_iff.mp h2
  refine k_ ?_
  clear k_ C_
  cases h4
  exact ⟨y, ys, h1, h3, rfl⟩
def RdOk (w : Wl) (n : Nat) (v : Value) (d : PyData) : Prop := ∃ as, Reads w.s.heap v d as ∧ d.canLay0 = true ∧ d.depth ≤ n
def RdsOk (w : Wl) (n : Nat) (vs : List Value) (ds : List PyData) : Prop := ∃ as, ReadsAll w.s.heap vs ds as ∧ PyData.canLayAll0 ds = true ∧ PyData.depthAll ds ≤ n
theorem rds_sound (n : Nat) (ih : ∀ {a : AV} {v : Value} {d : PyData}, VR cx w a v → rd H n a = some d → RdOk w n v d) : ∀ {xs : List AV} {vs : List Value} {ds : List PyData}, VRs cx w xs vs → xs.mapM (rd H n) = some ds → RdsOk w n vs ds
  | [], vs, ds, x, h => by cases h; rw [show vs = [] from x]; exact ⟨[], .nil, rfl, Nat.zero_le _⟩
  | a :: xs, vs, ds, ⟨v, us, e, r, rs⟩, h => by
    refine byC fun C_ k_ => ?_
    obtain ⟨y, ys, h1, h2, rfl⟩ := mapM_cons_some h
    obtain ⟨as, q1, q2, q3⟩ := ih r h1
    obtain ⟨bs, p1, p2, p3⟩ := rds_sound n ih rs h2
    refine k_ ?_
    clear k_ C_
    rw [e]
    exact ⟨as ++ bs, .cons q1 p1, show (y.canLay0 && PyData.canLayAll0 ys) = true by rw [q2, p2]; rfl, Nat.max_le.mpr ⟨q3, p3⟩⟩
theorem rdL {n : Nat} {l : Addr} {vs : Array Value} {k : Nat} {ds : List PyData} (h : IsL w.s.heap l vs k) (x : RdsOk w n vs.toList ds) : RdOk w (n + 1) (.ref l) (.list ds) :=
  by obtain ⟨_, p1, p2, p3⟩ := x; exact ⟨_, .list h rfl rfl p1, p2, Nat.succ_le_succ p3⟩
set_option tactic.hygienic true in
theorem rd0 (n : Nat) {a : AV} {v : Value} {d : PyData} (r : VR cx w a v) (h : rd H n a = some d) (h1 : isTp a = false) (h2 : isL a = false) : RdOk w n v d := by
  cases a with
  | none => rw [show v = .none from r]; cases n <;> (cases h; exact ⟨[], .none, rfl, Nat.zero_le _⟩)
  | bool b => rw [show v = .bool b from r]; cases n <;> (cases h; exact ⟨[], .bool b, rfl, Nat.zero_le _⟩)
  | int i => obtain ⟨t, r⟩ := r; rw [r]; cases n <;> (cases h; exact ⟨[], .int i t, rfl, Nat.zero_le _⟩)
  | str x =>
    obtain ⟨t, r⟩ := r
    have h' : (if PyData.strOk x then some (PyData.str x) else none) = some d := by cases n <;> exact h
    split at h'
    · rename_i ho; cases h'; rw [r]; exact ⟨[], .str x t, ho, Nat.zero_le _⟩
    · cases h'
  | range _ _ => cases n <;> cases h
  | cdict _ => cases n <;> cases h
  | tup _ => cases h1
  | lst _ => cases h2
  | loc _ => cases h2
theorem rd_sound (S : St cx w H) (n : Nat) : ∀ {a : AV} {v : Value} {d : PyData}, VR cx w a v → rd H n a = some d → RdOk w n v d := by
  induction n with
  | zero =>
    intro a v d r h
    cases a with
    | tup _ => cases h
    | lst _ => cases h
    | loc _ => cases h
    | _ => exact rd0 0 r h rfl rfl
  | succ n ih =>
    intro a v d r h
    cases a with
    | tup xs =>
      refine byC fun C_ k_ => ?_
      obtain ⟨a, vs, k, e, h1, _, _, h4⟩ := r
      obtain ⟨ds, h5, h6⟩ := Option.map_eq_some_iff.mp h
      obtain ⟨as, p1, p2, p3⟩ := rds_sound n ih h4 h5
      refine k_ ?_
      clear k_ C_
      rw [e, ← h6]
      exact ⟨as, .tuple h1 rfl rfl p1, p2, Nat.succ_le_succ p3⟩
    | lst xs =>
      refine byC fun C_ k_ => ?_
      obtain ⟨a, vs, k, e, h1, _, _, h4⟩ := r
      obtain ⟨ds, h5, h6⟩ := Option.map_eq_some_iff.mp h
      refine k_ ?_
      clear k_ C_
      rw [e, ← h6]
      exact rdL h1 (rds_sound n ih h4 h5)
    | loc l =>
      obtain ⟨a, e, h1⟩ := r
      cases hH : H[l]? with
      | none => rw [show rd H (n + 1) (.loc l) = (match H[l]? with | some (.list xs) => (xs.mapM (rd H n)).map .list | _ => none) from rfl, hH] at h; cases h
      | some o =>
        rw [show rd H (n + 1) (.loc l) = (match H[l]? with | some (.list xs) => (xs.mapM (rd H n)).map .list | _ => none) from rfl, hH] at h
        cases o with
        | dict es => cases h
        | list xs =>
          refine byC fun C_ k_ => ?_
          obtain ⟨ds, h5, h6⟩ := Option.map_eq_some_iff.mp h
          obtain ⟨vs, k, h2, _, h4⟩ := S.own _ _ _ h1 hH
          refine k_ ?_
          clear k_ C_
          rw [e, ← h6]
          exact rdL h2 (rds_sound n ih h4 h5)
    | _ => exact rd0 (n + 1) r h rfl rfl
set_option tactic.hygienic true in
theorem rdM_rd {a : AV} {v : Value} (x : VR cx w a v) : Rd cx w (rdM a) (RdOk w 8 v) := fun H S r H' h => by
  unfold rdM at h
  split at h
  · rename_i d hd; cases h; exact ⟨rfl, d, rfl, rd_sound S 8 x hd⟩
  · cases h
abbrev Room (A : Around) : Prop := A.units + 100 < cLine
theorem room_min {R : Room A} {a b : Nat} (h : a ≤ 8) : A.units + min a b < cLine := by unfold Room at R; (first | lia | omega)
theorem room_min1 {R : Room A} {a b : Nat} (h : b ≤ 8) : A.units + 1 + min a b < cLine := by unfold Room at R; (first | lia | omega)
theorem isNone_of {a : AV} {v : Value} (r : VR cx w a v) : (v == .none) = pIsNone a := by
  cases a with
  | none => rw [show v = .none from r]; rfl
  | bool b => rw [show v = .bool b from r]; rfl
  | int i => obtain ⟨t, e⟩ := r; rw [e]; rfl
  | str i => obtain ⟨t, e⟩ := r; rw [e]; rfl
  | tup i => obtain ⟨_, _, _, e, _⟩ := r; rw [e]; rfl
  | lst i => obtain ⟨_, _, _, e, _⟩ := r; rw [e]; rfl
  | loc i => obtain ⟨_, e, _⟩ := r; rw [e]; rfl
  | range i j => obtain ⟨_, _, _, _, e, _⟩ := r; rw [e]; rfl
  | cdict i => obtain ⟨_, _, e, _⟩ := r; rw [e]; rfl
theorem is_not_none {v : Value} {s : Shared} {M : Model} {E : Value → Shared → Prop} {Q : Value → Shared → Prop} (h : Q (.bool (!(v == .none))) s) : wpAny M A (compareOp .IsNot v .none) Q E s := by
  show wpAny M A (do return .bool !(← isSame v .none)) Q E s
  rw [isSame_none]
  exact wpAny_bind (wpAny_pure (wpAny_pure h))
def Rb (w : Wl) (b : Bool) (v : Value) : Prop := v = .bool b
theorem eq_rf (R : Room A) {a b : AV} {v u : Value} (ra : VR cx w a v) (rb : VR cx w b u) : Rf cx A p w Rb (pEq a b) (compareOp .Eq v u) :=
  .read (rdM_rd ra) fun x ⟨_, p1, p2, p3⟩ => .read (rdM_rd rb) fun y ⟨_, q1, q2, q3⟩ => .leaf fun H S => compareEq_reads p1 q1 p2 q2 (room_min (R := R) p3) (.here S rfl)
theorem in_rf (R : Room A) {a b : AV} {v u : Value} (ra : VR cx w a v) (rb : VR cx w b u) : Rf cx A p w Rb (pIn a b) (compareOp .In v u) :=
  .read (rdM_rd ra) fun x ⟨_, p1, p2, p3⟩ => .read (rdM_rd rb) fun y ⟨_, q1, q2, q3⟩ => by
    cases y with
    | list ys => exact .leaf fun H S => in_list_reads q1 p1 q2 p2 (room_min1 (R := R) p3) (.here S rfl)
    | tuple ys => exact .leaf fun H S => in_tuple_reads q1 p1 q2 p2 (room_min1 (R := R) p3) (.here S rfl)
    | _ => exact .stuck
theorem notIn_rf (R : Room A) {a b : AV} {v u : Value} (ra : VR cx w a v) (rb : VR cx w b u) : Rf cx A p w Rb (do let r ← pIn a b; pure (!r)) (compareOp .NotIn v u) := by
  unfold pIn
  simp only [bind_assoc, pure_bind]
  exact .read (rdM_rd ra) fun x ⟨_, p1, p2, p3⟩ => .read (rdM_rd rb) fun y ⟨_, q1, q2, q3⟩ => by
    cases y with
    | list ys => exact .leaf fun H S => notIn_list_reads q1 p1 q2 p2 (room_min1 (R := R) p3) (.here S rfl)
    | tuple ys => exact .leaf fun H S => notIn_tuple_reads q1 p1 q2 p2 (room_min1 (R := R) p3) (.here S rfl)
    | _ => exact .stuck
theorem ne_rf (R : Room A) {a b : AV} {v u : Value} (ra : VR cx w a v) (rb : VR cx w b u) : Rf cx A p w Rb (do let r ← pEq a b; pure (!r)) (compareOp .NotEq v u) := by
  unfold pEq
  simp only [bind_assoc, pure_bind]
  exact .read (rdM_rd ra) fun x ⟨_, p1, p2, p3⟩ => .read (rdM_rd rb) fun y ⟨_, q1, q2, q3⟩ => .leaf fun H S => compareNe_reads p1 q1 p2 q2 (room_min (R := R) p3) (.here S rfl)
theorem cmp_rf (R : Room A) {op : CmpOp} {a b : AV} {v u : Value} (ra : VR cx w a v) (rb : VR cx w b u) : Rf cx A p w Rb (pCmp op a b) (compareOp op v u) := by
  have two : ∀ {q : CmpOp} {t : Sem Value}, (∀ i j s t', v = .int i s → u = .int j t' → Rf cx A p w Rb (cmpI q i j) t) → Rf cx A p w Rb (match asI a with | some i => (match asI b with | some j => cmpI q i j | none => stuck) | none => stuck : M Bool) t := fun {q t} k => by
    cases a with
    | int i =>
      cases b with
      | int j => obtain ⟨s, e⟩ := ra; obtain ⟨s', e'⟩ := rb; exact k i j s s' e e'
      | _ => exact .stuck
    | _ => exact .stuck
  cases op with
  | Eq => exact eq_rf R ra rb
  | NotEq => exact ne_rf R ra rb
  | In => exact in_rf R ra rb
  | NotIn => exact notIn_rf R ra rb
  | Is =>
    cases b with
    | none => exact rb.noneE (.leaf fun H S => is_none (by rw [isNone_of ra]; exact .here S rfl))
    | _ => exact .stuck
  | IsNot =>
    cases b with
    | none => exact rb.noneE (.leaf fun H S => is_not_none (by rw [isNone_of ra]; exact .here S rfl))
    | _ => exact .stuck
  | Lt => exact two fun i j s t h1 h2 => h1 ▸ h2 ▸ .leaf fun H S => wpAny_lt_int (.here S rfl)
  | LtE => exact two fun i j s t h1 h2 => h1 ▸ h2 ▸ .leaf fun H S => le_int (.here S rfl)
  | Gt => exact two fun i j s t h1 h2 => h1 ▸ h2 ▸ .leaf fun H S => PyProof.Rows.gt_int (.here S rfl)
  | GtE => exact two fun i j s t h1 h2 => h1 ▸ h2 ▸ .leaf fun H S => ge_int (.here S rfl)

theorem idx_some {k : Int} {n j : Nat} (h : idx k n = some j) : j < n ∧ ((0 ≤ k ∧ k < n ∧ j = k.toNat) ∨ (k < 0 ∧ -k ≤ n ∧ j = (k + n).toNat)) := by
  unfold idx at h
  split at h
  · split at h
    · cases h; exact ⟨by (first | lia | omega), .inl ⟨by assumption, by assumption, rfl⟩⟩
    · cases h
  · split at h
    · cases h; exact ⟨by (first | lia | omega), .inr ⟨Int.not_le.mp (by assumption), by assumption, rfl⟩⟩
    · cases h
theorem getItem_seq {l : Addr} {vs : Array Value} {n : Nat} {k : Int} {t : Tok} {j : Nat} {y : Value} {s : Shared} {Q : Value → Shared → Prop} {E : Value → Shared → Prop} (hs : IsSeq s.heap l vs n) (hj : idx k vs.size = some j) (hy : vs[j]? = some y)
    (hb : vs.size < 2 ^ 62) (h : Q y s) : wpAny (model cx.prog cx.w) A (getItem (.ref l) (.int k t)) Q E s := by
  obtain ⟨hlt, hc⟩ := idx_some hj
  cases hs with
  | list hl =>
    rcases hc with ⟨h0, h1, rfl⟩ | ⟨h0, h1, rfl⟩
    · exact wpAny_getItem_list hl.isList h0 (by omega) hy h
    · exact wpAny_getItem_list_neg hl.isList h0 (by omega) (by omega) hy h
  | tuple hl =>
    refine P.getItem_tuple hl (by omega) (by omega) (k := j) ?_ hy h
    rcases hc with ⟨h0, h1, rfl⟩ | ⟨h0, h1, rfl⟩
    · exact seqIndex_of h0 h1
    · exact PySem.seqIndex_neg h0 (by omega)
theorem look_valueAt : ∀ {es : List (Str × AV)} {kvs : List (Str × Value)} {k : Str} {a : AV}, kvs.map (·.1) = es.map (·.1) → VRs cx w (es.map (·.2)) (kvs.map (·.2)) → look es k = some a → ∃ v, valueAt kvs k = some v ∧ VR cx w a v
  | [], _, _, _, _, _, h => by cases h
  | _ :: _, [], _, _, h, _, _ => by cases h
  | e :: es, kv :: kvs, k, a, he, ⟨v, us, q, r1, r2⟩, hl => by
    refine byC fun C_ k_ => ?_
    obtain ⟨h1, h2⟩ := List.cons.inj he
    obtain ⟨q1, q2⟩ := List.cons.inj q
    refine k_ ?_
    clear k_ C_
    unfold look at hl
    unfold valueAt
    rw [List.find?_cons] at hl ⊢
    rw [show kv.1 = e.1 from h1]
    by_cases hk : e.1 = k
    · rw [decide_eq_true hk] at hl ⊢
      cases hl
      exact ⟨kv.2, rfl, by rw [show kv.2 = v from q1]; exact r1⟩
    · rw [decide_eq_false hk] at hl ⊢
      exact look_valueAt (es := es) h2 (q2 ▸ r2) hl
theorem look_strAt : ∀ {es : List (Str × Str)} {kvs : List (Str × Value)} {k x : Str}, kvs.map (·.1) = es.map (·.1) → StrVs (es.map (·.2)) (kvs.map (·.2)) → look es k = some x → ∃ t, valueAt kvs k = some (.str x t)
  | [], _, _, _, _, _, h => by cases h
  | _ :: _, [], _, _, h, _, _ => by cases h
  | e :: es, kv :: kvs, k, a, he, ⟨t, us, q, r2⟩, hl => by
    refine byC fun C_ k_ => ?_
    obtain ⟨h1, h2⟩ := List.cons.inj he
    obtain ⟨q1, q2⟩ := List.cons.inj q
    refine k_ ?_
    clear k_ C_
    unfold look at hl
    unfold valueAt
    rw [List.find?_cons] at hl ⊢
    rw [show kv.1 = e.1 from h1]
    by_cases hk : e.1 = k
    · rw [decide_eq_true hk] at hl ⊢
      cases hl
      exact ⟨t, congrArg some q1⟩
    · rw [decide_eq_false hk] at hl ⊢
      exact look_strAt (es := es) h2 (q2 ▸ r2) hl
theorem getItem_dict {d : Addr} {kvs : List (Str × Value)} {k : Str} {t : Tok} {v : Value} {s : Shared} {Q : Value → Shared → Prop} {E : Value → Shared → Prop} (hd : s.heap.DictOf (strKind cx.prog cx.w) d kvs) (hv : valueAt kvs k = some v)
    (h : Q v { s with toks := s.toks + 1 }) : wpAny (model cx.prog cx.w) A (getItem (.ref d) (.str k t)) Q E s :=
  wpAny_getItem_of (strKind_is _ _ k t) hd.mapOf hv h
def Subs (s : Shared) (v : Value) : Prop := ∃ T id, s.TypeIs v T ∧ typeLookup (.type T) "__getitem__" = pure (some (.builtin id))
theorem Subs.list {s : Shared} {l : Addr} {vs : Array Value} {n : Nat} (hl : IsL s.heap l vs n) : Subs s (.ref l) := ⟨"list", _, ⟨_, hl, rfl⟩, list_getitem_lookup⟩
theorem Subs.tuple {s : Shared} {l : Addr} {vs : Array Value} {n : Nat} (hl : IsT s.heap l vs n) : Subs s (.ref l) := ⟨"tuple", _, ⟨_, hl, rfl⟩, F.slot_tuple_getitem.lookup⟩
theorem Subs.seq {s : Shared} {l : Addr} {vs : Array Value} {n : Nat} : IsSeq s.heap l vs n → Subs s (.ref l)
  | .list x => .list x
  | .tuple x => .tuple x
theorem Subs.dict {s : Shared} {d : Addr} {kvs : List (Str × Value)} (hd : s.heap.DictOf (strKind cx.prog cx.w) d kvs) : Subs s (.ref d) := ⟨"dict", _, hd.mapOf.typeIs, slot_dict_getitem.lookup⟩
theorem item_rf {o i : AV} {v u : Value} {t : Sem Value} (ro : VR cx w o v) (ri : VR cx w i u) (ht : ∀ {Q E : Value → Shared → Prop}, Subs w.s v → wpAny (model cx.prog cx.w) A (getItem v u) Q E w.s → wpAny (model cx.prog cx.w) A t Q E w.s) : Rf cx A p w (VR cx) (pItem o i) t := by
  cases i with
  | str k =>
    obtain ⟨tk, rfl⟩ := ri
    cases o with
    | cdict es =>
      refine byC fun C_ k_ => ?_
      obtain ⟨d, kvs, rfl, h1, h2, h3, h4⟩ := ro
      refine k_ ?_
      clear k_ C_
      refine .read .opt fun x hx => .leaf fun H S => ?_
      obtain ⟨tx, hv⟩ := look_strAt h3 h4 hx
      exact ht (.dict h1) (getItem_dict h1 hv (.tok S _ .str))
    | loc l =>
      obtain ⟨a, rfl, hl⟩ := ro
      refine .read (dictAt_rd hl) fun es ⟨kvs, h1, h2, h3, h4⟩ => ?_
      cases hk : look es k with
      | none => exact .stuck
      | some x =>
        obtain ⟨v, hv, rv⟩ := look_valueAt h3 h4 hk
        exact .leaf fun H S => ht (.dict h1) (getItem_dict h1 hv (.tok S _ (rv.mono (p := No) (.tok _))))
    | _ => exact .stuck
  | int k =>
    obtain ⟨tk, rfl⟩ := ri
    refine .read (seqOf_rd ro) fun xs ⟨l, vs, n, e, hl, hz, hvs⟩ => ?_
    subst e
    cases hj : idx k xs.length with
    | none => exact .stuck
    | some j =>
      show Rf cx A p w (VR cx) (ofOpt xs[j]?) t
      cases hx : xs[j]? with
      | none => exact .stuck
      | some x =>
        obtain ⟨y, hy, ry⟩ := hvs.get hx
        exact .leaf fun H S => ht (.seq hl) (getItem_seq hl (j := j) (by rw [hvs.size]; exact hj) (by rw [← Array.getElem?_toList]; exact hy) (by rw [hvs.size]; have := LIM_is; (first | lia | omega)) (.here S ry))
  | _ => exact .stuck
end
end Mine


set_option autoImplicit false
set_option linter.unusedVariables false
namespace Mine
open PySem PyProof.Rows PySem.SeqAt

section
variable {cx : Cx} {A : Around} {p : Addr → Prop} {w : Wl} {H : AHeap}

theorem pushk {h : Heap} (o : Obj) : ∀ b q, h.get? b = some q → (h.push o).get? b = some q := fun b q e => Heap.get?_push_of_some _ e
theorem cut_vrs {xs : List AV} {vs : Array Value} (r : VRs cx w xs vs.toList) (lo hi : Option Int) : VRs cx w (cut xs lo hi) (slicePick vs lo hi none).toList := by
  rw [slicePick_plain]
  unfold cut
  rw [r.size]
  exact (r.drop _).take _
theorem sliceApplied_upto {sl : Addr} {b n : Nat} {u : Tok} {s : Shared} {E : Value → Shared → Prop} {Q : Int × Int × Nat → Shared → Prop} (hs : s.heap.IsSliceOf sl .none (.int b u) .none) (hb : b ≤ n) (h : Q (0, 1, b) s) :
    wpAny (model cx.prog cx.w) A (Builtin.Slice.sliceApplied (.ref sl) (pure (n : Int))) Q E s := by
  refine byC fun C_ k_ => ?_
  obtain ⟨os, hos, hcs, hds⟩ := id hs
  refine k_ ?_
  clear k_ C_
  unfold Builtin.Slice.sliceApplied Builtin.Slice.sliceFields
  refine wpAny_bind (wpAny_bind (wpAny_field hos hds (x := .none) rfl (wpAny_bind (wpAny_field hos hds (x := .int b u) rfl (wpAny_bind (wpAny_field hos hds (x := .none) rfl (wpAny_pure ?_)))))))
  refine wpAny_bind (slicePart_none ?_)
  show wpAny _ _ (if ((1 : Int) == 0) = true then _ else _) _ _ s
  rw [if_neg (by decide)]
  refine wpAny_bind (slicePart_none (wpAny_bind (slicePart_int (wpAny_bind (wpAny_pure ?_)))))
  have e1 : Builtin.Slice.sliceAdjust none (some (b : Int)) 1 (n : Int) = (0, (b : Int)) := by
    unfold Builtin.Slice.sliceAdjust
    have h2 : ¬ ((b : Int) < 0) := by (first | lia | omega)
    have h1 : ¬ ((1 : Int) < 0) := by (first | lia | omega)
    simp only [h1, h2, if_false]
    congr 1
    (first | lia | omega)
  have e2 : Builtin.Slice.slicePlaces 0 (b : Int) 1 = b := by
    unfold Builtin.Slice.slicePlaces
    have h1 : (1 : Int) > 0 := by (first | lia | omega)
    simp only [h1, if_true, Int.ediv_one]
    split <;> (first | lia | omega)
  show wpAny _ _ (match Builtin.Slice.sliceAdjust none (some (b : Int)) 1 (n : Int) with | (lo, hi) => pure (lo, (1 : Int), Builtin.Slice.slicePlaces lo hi 1)) _ _ s
  rw [e1]
  show wpAny _ _ (pure (0, (1 : Int), Builtin.Slice.slicePlaces 0 (b : Int) 1)) _ _ s
  rw [e2]
  exact wpAny_pure h
theorem pick_upto (xs : Array Value) (b : Nat) : ((List.range b).filterMap fun (k : Nat) => xs[((0 : Int) + (k : Int) * 1).toNat]?).toArray = (xs.toList.take b).toArray := by
  have e : (fun (k : Nat) => xs[((0 : Int) + (k : Int) * 1).toNat]?) = fun k => xs[0 + k]? := by
    funext k
    rw [Int.mul_one, Int.zero_add, Int.toNat_natCast, Nat.zero_add]
  rw [e]
  have := pick_run xs 0 b
  rw [List.filterMap_map] at this
  rw [show (fun k => xs[0 + k]?) = ((fun x => xs[x]?) ∘ fun x => 0 + x) from rfl, this, List.drop_zero]
theorem getItem_tuple_upto {t sl : Addr} {items : Array Value} {b n : Nat} {u : Tok} {s : Shared} {E : Value → Shared → Prop} {Q : Value → Shared → Prop} (ht : IsT s.heap t items n) (hs : s.heap.IsSliceOf sl .none (.int b u) .none) (hb : b < items.size)
    (h : Q (.ref s.heap.objs.size) { s with heap := s.heap.push { cls := .type "tuple", data := .seq (items.toList.take b).toArray } })
    (hsz : items.size ≤ sizeLine) : wpAny (model cx.prog cx.w) A (getItem (.ref t) (.ref sl)) Q E s := by
  have hdrop : sizeOk (.seq (items.toList.take b).toArray) := by
    show (items.toList.take b).toArray.size ≤ sizeLine
    rw [List.size_toArray, List.length_take, Array.length_toList]
    exact Nat.le_trans (Nat.min_le_right _ _) hsz
  have hT : s.TypeIs (.ref t) "tuple" := ⟨_, ht, rfl⟩
  refine byC fun C_ k_ => ?_
  obtain ⟨os, hos, hcs, hds⟩ := id hs
  refine k_ ?_
  clear k_ C_
  have hTs : s.TypeIs (.ref sl) "slice" := ⟨os, hos, hcs⟩
  unfold getItem
  try with_reducible refine wpAny_holding ?_
  first | refine wpAny_bind (wpAny_pure ?_) | skip
  refine wpAny_bind (wpAny_sequenceKey hT (by decide) ?_)
  refine wpAny_bind (wpAny_callSpecial?_slot (name := Str.ofString "__getitem__") hT slot_tuple_getitem
    (wpAny_call_entry slot_tuple_getitem hT entry_tuple_getitem ?_ (args_tuple_getitem _ _)))
  show wpAny _ _ (Builtin.Tuple.tupleItemsOf (.ref t) >>= _) _ _ s
  refine wpAny_bind (tupleItemsOf_ ⟨_, ht, rfl, n, rfl⟩ ?_)
  refine wpAny_bind (wpAny_typeOf hTs ?_)
  rw [if_pos (by decide)]
  refine wpAny_bind (sliceApplied_upto hs (Nat.le_of_lt hb) ?_)
  have hno : ¬ (((0 : Int) == 0 && (1 : Int) == 1 && b == items.size) = true) := by
    rw [show (b == items.size) = false from beq_eq_false_iff_ne.mpr (Nat.ne_of_lt hb)]; decide
  show wpAny _ _ (if ((0 : Int) == 0 && (1 : Int) == 1 && b == items.size) = true then _ else _) _ _ s
  rw [if_neg hno, pick_upto items b]
  first
    | exact wpAny_bind (m := Builtin.Tuple.tupleExact _) (wpAny_newObj_type (wpAny_pure ⟨_, rfl, wpAny_pure h⟩) hdrop)
    | exact wpAny_bind (m := Builtin.Tuple.tupleExact _) (wpAny_newObj_type (wpAny_bind (wpAny_pure (wpAny_pure ⟨_, rfl, wpAny_pure h⟩))) hdrop)
    | exact wpAny_bind (wpAny_bind (m := Builtin.Tuple.tupleExact _) (wpAny_newObj_type (wpAny_pure (wpAny_pure ⟨_, rfl, wpAny_pure h⟩)) hdrop))
    | exact wpAny_bind (wpAny_bind (m := Builtin.Tuple.tupleExact _) (wpAny_newObj_type (wpAny_pure ⟨_, rfl, wpAny_pure h⟩) hdrop))
theorem slice_rf {mu : Bool} {o : AV} {sl : Addr} {v vl vu : Value} {lo hi : Option Int} {t : Sem Value} (ro : VR cx w o v) (hs : w.s.heap.IsSliceOf sl vl vu .none) (pl : IsPart vl lo) (pu : IsPart vu hi)
    (ht : ∀ {Q E : Value → Shared → Prop}, Subs w.s v → wpAny (model cx.prog cx.w) A (getItem v (.ref sl)) Q E w.s → wpAny (model cx.prog cx.w) A t Q E w.s) : Rf cx A p w (VR cx) (pSlice mu o lo hi) t := by
  have lists : Rf cx A p w (VR cx) (do let xs ← listOf o; newL mu (cut xs lo hi)) t := .read (listOf_rd ro) fun xs ⟨a, vs, n, e, hl, hz, hvs⟩ H S r H' he => by
    subst e
    exact ht (.list hl) (wpAny_getItem_list_slice hl.isList hs pl pu .none (by simp) (newL_post S he (t := w.s.toks) (pushk _) (get_size _) (IsL.new _ _) (cut_vrs hvs lo hi)) (by rw [hvs.size]; exact Nat.le_trans hz LIM_le))
  cases o with
  | tup xs =>
    cases lo with
    | some _ => exact .stuck
    | none =>
      cases hi with
      | none => exact .stuck
      | some b =>
        refine ite_rf (fun hb => .leaf fun H S => ?_) fun u_ => .stuck
        refine byC fun C_ k_ => ?_
        obtain ⟨a, vs, n, rfl, h1, h2, h3, h4⟩ := ro
        refine k_ ?_
        clear k_ C_
        cases pl
        cases pu with | int _ u =>
        obtain ⟨k, rfl⟩ := Int.eq_ofNat_of_zero_le hb.1
        have hk : k < xs.length := Int.ofNat_lt.mp hb.2
        refine ht (.tuple h1) (getItem_tuple_upto h1 hs (by rw [h4.size]; exact hk) ?_ (by rw [h4.size]; exact Nat.le_trans h3 LIM_le))
        exact ⟨w.ι, w.π, _, rfl, .keeps (pushk _), S.keeps (t := w.s.toks) (pushk _), .tup (IsT.new _ _) (S.new (get_size _)) (by rw [List.length_take]; exact Nat.le_trans (Nat.min_le_right _ _) h3) ((h4.take k).mono (p := No) (.keeps (pushk _)))⟩
  | _ => exact lists
theorem stored_map {es : List (Str × AV)} {kvs : List (Str × Value)} {k : Str} {a : AV} {v : Value} (ra : VR cx w a v) (he : kvs.map (·.1) = es.map (·.1)) (r : VRs cx w (es.map (·.2)) (kvs.map (·.2))) :
    (kvs.map fun e => if e.1 = k then (e.1, v) else e).map (·.1) = (es.map fun e => if e.1 = k then (e.1, a) else e).map (·.1) ∧ VRs cx w ((es.map fun e => if e.1 = k then (e.1, a) else e).map (·.2)) ((kvs.map fun e => if e.1 = k then (e.1, v) else e).map (·.2)) := by
  induction es generalizing kvs with
  | nil => cases kvs with | nil => exact ⟨rfl, .nil⟩ | cons _ _ => cases he
  | cons e es ih =>
    cases kvs with
    | nil => first | exact no_some he | exact no_true he | cases he
    | cons kv kvs =>
      refine byC fun C_ k_ => ?_
      obtain ⟨h1, h2⟩ := List.cons.inj he
      obtain ⟨x, us, q, r1, r2⟩ := r
      obtain ⟨q1, q2⟩ := List.cons.inj q
      obtain ⟨i1, i2⟩ := ih h2 (q2 ▸ r2)
      refine k_ ?_
      clear k_ C_
      have h1 : kv.1 = e.1 := h1
      have q1 : kv.2 = x := q1
      rw [List.map_cons, List.map_cons, List.map_cons, List.map_cons, List.map_cons, List.map_cons, i1]
      by_cases hk : e.1 = k
      · rw [if_pos hk, if_pos (h1.trans hk)]
        exact ⟨by rw [h1], .cons ra i2⟩
      · rw [if_neg hk, if_neg (fun z => hk (h1.symm.trans z))]
        exact ⟨by rw [h1], .cons (q1 ▸ r1) i2⟩
theorem stored_put {es : List (Str × AV)} {kvs : List (Str × Value)} {k : Str} {a : AV} {v : Value} (ra : VR cx w a v) (he : kvs.map (·.1) = es.map (·.1)) (r : VRs cx w (es.map (·.2)) (kvs.map (·.2))) :
    (stored kvs k v).map (·.1) = (put es k a).map (·.1) ∧ VRs cx w ((put es k a).map (·.2)) ((stored kvs k v).map (·.2)) := by
  have hany : kvs.any (fun kv => kv.1 = k) = es.any (fun e => e.1 = k) := by
    have : (kvs.map (·.1)).any (fun x => x = k) = (es.map (·.1)).any (fun x => x = k) := by rw [he]
    rw [List.any_map, List.any_map] at this; exact this
  unfold stored put
  rw [hany]
  split
  · exact stored_map ra he r
  · rw [List.map_append, List.map_append, List.map_append, List.map_append]
    exact ⟨by rw [he]; rfl, r.append (.cons ra .nil)⟩
theorem put_length (es : List (Str × AV)) (k : Str) (v : AV) : (put es k v).length ≤ es.length + 1 := by
  unfold put; split
  · rw [List.length_map]; exact Nat.le_succ _
  · rw [List.length_append]; exact Nat.le_refl _
theorem setItem_isL {l : Addr} {items : Array Value} {n : Nat} {k : Int} {t : Tok} {v : Value} {s : Shared} {E : Value → Shared → Prop} {Q : Unit → Shared → Prop} (hl : IsL s.heap l items n)
    (h0 : 0 ≤ k) (hfit : k < 2 ^ 63) (hn : k < items.size) (hQ : ∀ h' n', IsL h' l (items.setIfInBounds k.toNat v) n' → Heap.SameBut l s.heap h' → Q () { s with heap := h' }) :
    wpAny (model cx.prog cx.w) A (setItem (.ref l) (.int k t) v) Q E s := by
  unfold setItem
  try with_reducible refine wpAny_holding ?_
  first | refine wpAny_bind (wpAny_pure ?_) | skip
  refine wpAny_bind (wpAny_sequenceKey hl.isList.typeIs (by decide) ?_)
  refine wpAny_bind (wpAny_callSpecial?_slot (name := Str.ofString "__setitem__") hl.isList.typeIs slot_list_setitem
    (wpAny_call_entry slot_list_setitem hl.isList.typeIs entry_list_setitem ?_ (args_list_setitem _ _ _)))
  show wpAny _ _ (Builtin.List.listSubscript? (.int k t) >>= _) _ _ s
  refine wpAny_bind (wpAny_listSubscript_int (fitsIndex_of h0 hfit) ?_)
  clear hfit
  obtain ⟨j, rfl⟩ := Int.eq_ofNat_of_zero_le h0
  have hj : j < items.size := by (first | lia | omega)
  have hx' : items[j]? = some items[j] := Array.getElem?_eq_getElem hj
  show wpAny _ _ ((seqItemAt l j >>= fun r => pure (r.map (j, ·))) >>= _) _ _ s
  refine wpAny_bind (wpAny_bind (wpAny_seqItemAt hl rfl (wpAny_pure ?_)))
  rw [hx']
  show wpAny _ _ (setSeqItemAt l j v >>= _) _ _ s
  refine wpAny_bind (wpAny_setSeqItemAt hl rfl ?_)
  first
    | exact wpAny_bind (wpAny_pure (wpAny_pure ⟨.none, rfl, wpAny_pure (hQ _ _ (IsL.update hl _) (Heap.SameBut.update ..))⟩))
    | exact wpAny_pure ⟨.none, rfl, wpAny_pure (hQ _ _ (IsL.update hl _) (Heap.SameBut.update ..))⟩
def Ru {α β : Type} (w : Wl) (a : α) (b : β) : Prop := True
theorem storeK_rf {l : Nat} {a : Addr} {k : Str} {t : Tok} {x : AV} {u : Value} (hl : w.ι[l]? = some a) (rx : VR cx w x u) : Rf cx A p w Ru (storeK l k x) (setItem (.ref a) (.str k t) u) :=
  .read (dictAt_rd hl) fun es ⟨kvs, h1, h2, h3, h4⟩ => ite_rf (fun hlen H S r H' he => by
    cases he
    refine wpAny_setItem_pairs (strKind_is _ _ _ _) h1 (fun h' hd' hsb => ?_) ?_
    · refine byC fun C_ k_ => ?_
      obtain ⟨q1, q2⟩ := stored_put (k := k) rx h3 h4
      obtain ⟨l1, S'⟩ := S.turn (t := w.s.toks + 1) (o := .dict (put es k x)) hl (fun b q hb e => (hsb.2 b hb).trans e) fun l1 => ⟨_, hd', ⟨h2.1, Nat.le_trans (put_length es k x) hlen⟩, q1, q2.mono l1⟩
      refine k_ ?_
      clear k_ C_
      exact ⟨_, _, _, rfl, l1.no, S', trivial⟩
    · have := congrArg List.length h3; simp only [List.length_map] at this; have := LIM_le; (first | lia | omega)) fun u_ => .stuck
theorem storeI_rf {l : Nat} {a : Addr} {k : Int} {t : Tok} {x : AV} {u : Value} (hl : w.ι[l]? = some a) (rx : VR cx w x u) : Rf cx A p w Ru (storeI l k x) (setItem (.ref a) (.int k t) u) :=
  .read (listAt_rd hl) fun xs ⟨vs, n, hL, hz, hs⟩ => ite_rf (fun hk H S r H' he => by
    cases he
    have hsz := hs.size
    have hz' := LIM_is
    refine setItem_isL hL hk.1 (by (first | lia | omega)) (by (first | lia | omega)) fun h' n' hL' hsb => ?_
    obtain ⟨l1, S'⟩ := S.turn (t := w.s.toks) (o := .list (xs.set k.toNat x)) hl (fun b q hb e => (hsb.2 b hb).trans e) fun l1 => by
      refine ⟨_, n', hL', by rw [List.length_set]; exact hz, ?_⟩
      rw [Array.toList_setIfInBounds]
      exact (hs.set _ rx).mono l1
    exact ⟨_, _, _, rfl, l1.no, S', trivial⟩) fun u_ => .stuck
theorem store_rf {o i x : AV} {v u y : Value} (ro : VR cx w o v) (ri : VR cx w i u) (rx : VR cx w x y) : Rf cx A p w Ru (pStore o i x) (setItem v u y) := by
  cases o with
  | loc l =>
    cases i with
    | str k => exact ro.locE fun a hl => ri.strE fun t => storeK_rf hl rx
    | int k => exact ro.locE fun a hl => ri.intE fun t => storeI_rf hl rx
    | _ => exact .stuck
  | _ => exact .stuck

noncomputable def tyStr : Ty → String
  | .int => "int"
  | .bool => "bool"
  | .str => "str"
  | .tuple => "tuple"
  | .list => "list"
theorem isi_list {l : Addr} {vs : Array Value} {n : Nat} (hl : IsL w.s.heap l vs n) (t : Ty) : Rf cx A p w Rb (pure (tyLe .list t)) (call (.builtin "isinstance") [.ref l, .type (tyStr t)]) := .leaf fun H S => by
  have hL := hl.isList
  cases t with
  | int => exact IsiPair.isList_int hL (fun u_ u_ e => e) (.tok S _ rfl)
  | bool => exact IsiPair.isList_bool hL (fun u_ u_ e => e) (.tok S _ rfl)
  | str => exact IsiPair.isList_str hL (fun u_ u_ e => e) (.tok S _ rfl)
  | tuple => exact IsiPair.isList_tuple hL (fun u_ u_ e => e) (.tok S _ rfl)
  | list => exact IsiPair.isList_list hL (fun u_ u_ e => e) (.here S rfl)
theorem isi_rf {a : AV} {t : Ty} {v : Value} (ra : VR cx w a v) : Rf cx A p w Rb (pIsi a t) (call (.builtin "isinstance") [v, .type (tyStr t)]) := by
  cases a with
  | none =>
    refine ra.noneE (.leaf fun H S => ?_)
    cases t with
    | int => exact IsiPair.NoneType_int (.tok S _ rfl)
    | bool => exact IsiPair.NoneType_bool (.tok S _ rfl)
    | str => exact IsiPair.NoneType_str (.tok S _ rfl)
    | tuple => exact IsiPair.NoneType_tuple (.tok S _ rfl)
    | list => exact IsiPair.NoneType_list (.tok S _ rfl)
  | bool b =>
    refine ra.boolE (.leaf fun H S => ?_)
    cases t with
    | int => exact IsiPair.bool_int (.here S rfl)
    | bool => exact IsiPair.bool_bool (.here S rfl)
    | str => exact IsiPair.bool_str (.tok S _ rfl)
    | tuple => exact IsiPair.bool_tuple (.tok S _ rfl)
    | list => exact IsiPair.bool_list (.tok S _ rfl)
  | int i =>
    refine ra.intE fun u => .leaf fun H S => ?_
    cases t with
    | int => exact IsiPair.int_int (.here S rfl)
    | bool => exact IsiPair.int_bool (.tok S _ rfl)
    | str => exact IsiPair.int_str (.tok S _ rfl)
    | tuple => exact IsiPair.int_tuple (.tok S _ rfl)
    | list => exact IsiPair.int_list (.tok S _ rfl)
  | str x =>
    refine ra.strE fun u => .leaf fun H S => ?_
    cases t with
    | int => exact IsiPair.str_int (.tok S _ rfl)
    | bool => exact IsiPair.str_bool (.tok S _ rfl)
    | str => exact IsiPair.str_str (.here S rfl)
    | tuple => exact IsiPair.str_tuple (.tok S _ rfl)
    | list => exact IsiPair.str_list (.tok S _ rfl)
  | tup xs =>
    refine ra.tupE fun l vs n hl u_ u_ u_ => .leaf fun H S => ?_
    have hL : w.s.heap.IsTuple l vs := ⟨_, hl, rfl, _, rfl⟩
    cases t with
    | int => exact IsiPair.isTuple_int hL (fun u_ u_ e => e) (.tok S _ rfl)
    | bool => exact IsiPair.isTuple_bool hL (fun u_ u_ e => e) (.tok S _ rfl)
    | str => exact IsiPair.isTuple_str hL (fun u_ u_ e => e) (.tok S _ rfl)
    | tuple => exact IsiPair.isTuple_tuple hL (fun u_ u_ e => e) (.here S rfl)
    | list => exact IsiPair.isTuple_list hL (fun u_ u_ e => e) (.tok S _ rfl)
  | lst xs => exact ra.lstE fun l vs n hl u_ u_ u_ => isi_list hl t
  | loc i => exact ra.locE fun l h => .read (listAt_rd h) fun xs ⟨vs, n, hl, _⟩ => isi_list hl t
  | _ => exact .stuck
end
end Mine


set_option backward.match.sparseCases true
set_option autoImplicit false
set_option linter.unusedVariables false
namespace Mine.So
section
variable {a b c d n m x y lo k : Nat}
theorem z01 : 0 ≤ a := Nat.zero_le _
theorem z02 : a ≤ a := Nat.le_refl _
theorem z03 : a ≤ a + b := Nat.le_add_right _ _
theorem z04 (h : a < b) : a ≤ b := Nat.le_of_lt h
theorem z05 (h : a = b) : a ≤ b := Nat.le_of_eq h
theorem z07 (h : a ≤ b) (g : b < c) : a < c := Nat.lt_of_le_of_lt h g
theorem z08 (h : a < b) (g : b ≤ c) : a < c := Nat.lt_of_lt_of_le h g
theorem z09 (h : a ≤ b) (g : b ≤ c) : a ≤ c := Nat.le_trans h g
theorem z10 (h : c + b ≤ n) (g : a < b) : c + a < n := Nat.lt_of_lt_of_le (Nat.add_lt_add_left g c) h
theorem z11 (h : c + b ≤ n) (g : a ≤ b) : c + a ≤ n := Nat.le_trans (Nat.add_le_add_left g c) h
theorem z12 (h : c + b ≤ n) (g : a < b) : c + a ≤ n := Nat.le_of_lt (z10 h g)
theorem z13 (h : a ≤ b) : a + (b - a) = b := Nat.add_sub_cancel' h
theorem z14 (h : a < b) : a + (b - a) = b := Nat.add_sub_cancel' (Nat.le_of_lt h)
theorem z15 (h : c + a ≤ n) : c + (n - c) = n := Nat.add_sub_cancel' (Nat.le_trans (Nat.le_add_right c a) h)
theorem z16 (h : 1 ≤ a) : a - 1 < a := Nat.sub_lt h Nat.one_pos
theorem z17 (h : 1 ≤ a) (g : a ≤ b) : a - 1 < b := Nat.lt_of_lt_of_le (z16 h) g
theorem z18 (h : 2 ≤ a) (g : a ≤ b) : a - 1 < b := z17 (Nat.le_of_succ_le h) g
theorem z19 (h : 1 ≤ a ∧ a ≤ b) : a - 1 < b := z17 h.1 h.2
theorem z20 (h : 2 ≤ a ∧ a ≤ b) : a - 1 < b := z18 h.1 h.2
theorem z21 (h : a ≤ b) (g : b < a + n) : b - a < n := Nat.sub_lt_left_of_lt_add h g
theorem z22 (h : c + a ≤ n) : a ≤ n - c := Nat.le_sub_of_add_le' h
theorem z23 (g : b < a) : b ≤ a - 1 := Nat.le_sub_one_of_lt g
theorem z24 (h : a < b) (g : ¬ a + 1 = b) : a + 1 < b := Nat.lt_of_le_of_ne h g
theorem z25 (h : 1 ≤ x) : lo + x - 1 = lo + (x - 1) := Nat.add_sub_assoc h lo
theorem z26 (h : y < x) : lo + x - 1 = lo + (x - 1) := z25 (Nat.lt_of_le_of_lt (Nat.zero_le _) h)
theorem z28 (g : y ≤ x) (h : 1 ≤ y) : lo + x - 1 = lo + (x - 1) := z25 (Nat.le_trans h g)
theorem z29 (h : a ≤ b) (g : a ≥ b) : a = b := Nat.le_antisymm h g
theorem z30 (h : ¬ a = 0) : 0 < a := Nat.pos_of_ne_zero h
theorem z31 (h : ¬ a > 0) : a = 0 := Nat.eq_zero_of_not_pos h
theorem z32 (h : a ≤ b) : c + a ≤ c + b := Nat.add_le_add_left h c
theorem z33 (h : a < b) : c + a < c + b := Nat.add_lt_add_left h c
theorem z34 (h : a = b) : c + a = c + b := congrArg _ h
theorem z36 (h : 2 ≤ a ∧ a ≤ b) : 1 ≤ a := Nat.le_of_succ_le h.1
theorem z38 (h : a < b) : 0 < b - a := Nat.sub_pos_of_lt h
theorem z39 (h : a < b) : a + (b - a) ≤ b := Nat.le_of_eq (z14 h)
theorem z40 (h : a ≤ b) : a + (b - a) ≤ b := Nat.le_of_eq (z13 h)
theorem z41 (h : a + 1 < b) : a + (b - a) ≤ b := z39 (Nat.lt_of_succ_lt h)
theorem z42 (h : a + 1 < b) : 0 < b - a := z38 (Nat.lt_of_succ_lt h)
theorem z44 (h : ¬ a < b) : b ≤ a := Nat.le_of_not_lt h
theorem z45 (h : a ≤ b) : 0 + a ≤ b := by rw [Nat.zero_add]; exact h
theorem z48 (h : a > 1) : a - 1 < a := z16 (Nat.le_of_lt h)
theorem z49 (h : a ≤ b) (g : ¬ a = b) : a + 1 ≤ b := Nat.lt_of_le_of_ne h g
theorem z52 (h : lo + x < n) : x < n := Nat.lt_of_le_of_lt (Nat.le_add_left x lo) h
theorem z55 (h : a < b) (g : b < c) : a < c := Nat.lt_trans h g
theorem z56 (h : a < n) (e : m = n) : a < m := e ▸ h
theorem z57 (h : a ≤ n) (e : m = n) : a ≤ m := e ▸ h
end
section
variable {a b c : Int}
theorem i1 (h : ¬ a < b) : b ≤ a := Int.not_lt.mp h
theorem i2 (h : a < b) : a ≤ b := Int.le_of_lt h
theorem i4 (h : a ≤ b) (g : b < c) : a < c := Int.lt_of_le_of_lt h g
theorem i5 (h : a ≤ b) (g : ¬ c < b) : ¬ c < a := fun q => g (Int.lt_of_lt_of_le q h)
theorem i6 (h : ¬ a < b) (g : ¬ b < a) : a = b := Int.le_antisymm (Int.not_lt.mp g) (Int.not_lt.mp h)
end

section
variable {a b c d n m x y lo hi k l r : Nat}
theorem md1 (h : ¬ l ≥ r) : l + (r - l) / 2 < r := by omega
theorem md2 (h : ¬ l ≥ r) : l ≤ (l + r) / 2 := by omega
theorem md3 (h : ¬ l ≥ r) : (l + r) / 2 < r := by omega
theorem ms1 (h : hi + x ≤ lo + n) (g : lo ≤ m) : hi + (x + 1) ≤ m + 1 + n := by
  rw [Nat.add_right_comm m 1 n]; exact Nat.succ_le_succ (Nat.le_trans h (Nat.add_le_add_right g n))
theorem ms2 (h : hi + x ≤ lo + n) (g : m < hi) : m + (x + 1) ≤ lo + n := Nat.le_trans (Nat.le_of_eq (Nat.succ_add_eq_add_succ m x).symm) (Nat.le_trans (Nat.add_le_add_right g x) h)
theorem ms3 (h : hi + max 0 n ≤ lo + n) (g : lo ≤ hi) : lo = hi := Nat.le_antisymm g (Nat.le_of_add_le_add_right (by rw [Nat.max_eq_right (Nat.zero_le _)] at h; exact h))
theorem ms4 (h : a ≤ n) : a + 0 ≤ lo + n := Nat.le_trans h (Nat.le_add_left n lo)
theorem ms5 (h : hi + x ≤ lo + n) : hi + (x + 1) ≤ lo + (hi - lo) / 2 + 1 + n := ms1 h (Nat.le_add_right _ _)
theorem ms6 (h : hi + x ≤ lo + n) (q : ¬ lo ≥ hi) : lo + (hi - lo) / 2 + (x + 1) ≤ lo + n := ms2 h (md1 q)
theorem ms7 (h : hi + x ≤ lo + n) (q : ¬ lo ≥ hi) : hi + (x + 1) ≤ (lo + hi) / 2 + 1 + n := ms1 h (md2 q)
theorem ms8 (h : hi + x ≤ lo + n) (q : ¬ lo ≥ hi) : (lo + hi) / 2 + (x + 1) ≤ lo + n := ms2 h (md3 q)
theorem y01 (h : c + b ≤ n) (g : hi ≤ b) (q : ¬ l ≥ hi) : c + (l + (hi - l) / 2) < n := z10 h (Nat.lt_of_lt_of_le (md1 q) g)
theorem y02 (h : b ≤ n) (q : ¬ l ≥ b) : l + (b - l) / 2 < n := Nat.lt_of_lt_of_le (md1 q) h
theorem y03 (h : b ≤ n) (q : ¬ l ≥ b) : l + (b - l) / 2 ≤ n := Nat.le_of_lt (y02 h q)
theorem y05 (h : b ≤ n) (q : ¬ l ≥ b) : (l + b) / 2 < n := Nat.lt_of_lt_of_le (md3 q) h
theorem y06 (h : b ≤ n) (q : ¬ l ≥ b) : (l + b) / 2 ≤ n := Nat.le_of_lt (y05 h q)
theorem y08 (h : c + k < n) (g : r ≤ k) (q : ¬ l ≥ r) : c + (l + r) / 2 < n := Nat.lt_trans (Nat.add_lt_add_left (Nat.lt_of_lt_of_le (md3 q) g) c) h
theorem y09 (h : a < min b c) : a < b := Nat.lt_of_lt_of_le h (Nat.min_le_left _ _)
theorem y10 (h : a < min b c) : a < c := Nat.lt_of_lt_of_le h (Nat.min_le_right _ _)
theorem y11 (h : a < b - c) : c + a < b := Nat.add_lt_of_lt_sub' h
theorem y12 (h : a < min b (n - c)) : c + a < n := y11 (y10 h)
theorem y13 (h : a < min b (n - c)) : c + a < c + b := Nat.add_lt_add_left (y09 h) c
theorem y14 (h : ¬ a - b = 0) : b < a := Nat.lt_of_sub_ne_zero h
theorem y15 (h : ¬ a - b = 0) : a - b - 1 < a - b := z16 (Nat.pos_of_ne_zero h)
theorem y17 (h : 1 ≤ a) (g : a ≤ b) (e : ¬ a - 1 = 0) : 1 ≤ a - 1 ∧ a - 1 ≤ b := ⟨Nat.pos_of_ne_zero e, Nat.le_trans (Nat.sub_le _ _) g⟩
theorem y18 (h : 1 ≤ a ∧ a ≤ b) (e : ¬ a - 1 = 0) : 1 ≤ a - 1 ∧ a - 1 ≤ b := y17 h.1 h.2 e
theorem y19 (h : 2 ≤ a) (e : ¬ a - 1 = 1) : 2 ≤ a - 1 := Nat.lt_of_le_of_ne (Nat.le_sub_one_of_lt h) (Ne.symm e)
theorem y20 (h : 2 ≤ a ∧ a ≤ b) (e : ¬ a - 1 = 1) : 2 ≤ a - 1 ∧ a - 1 ≤ b := ⟨y19 h.1 e, Nat.le_trans (Nat.sub_le _ _) h.2⟩
theorem y21 (h : a ≤ b) : a - 1 ≤ b := Nat.le_trans (Nat.sub_le _ _) h
theorem y22 (h : a < b) : a - c < b := Nat.lt_of_le_of_lt (Nat.sub_le _ _) h
theorem y23 (h : a < b) : a - c ≤ b := Nat.le_of_lt (y22 h)
theorem y24 (h : c + b ≤ n) (g : a < b) : c + (a - d) < n := z10 h (y22 g)
theorem y25 (h : 1 ≤ a) : a - 1 + 1 = a := Nat.sub_add_cancel h
theorem y26 (h : ¬ a = 0) : c + (a - 1) < c + a := Nat.add_lt_add_left (z16 (Nat.pos_of_ne_zero h)) c
theorem y27 (h : ¬ a = 0) : a - 1 < a := z16 (Nat.pos_of_ne_zero h)
theorem y28 (h : a ≤ b) (g : ¬ a = b) : a ≤ b - 1 := Nat.le_sub_one_of_lt (Nat.lt_of_le_of_ne h g)
theorem y29 (h : a + 1 + 1 = n) (g : a + 1 ≤ k) (q : k < n) : k = n - 1 := Nat.le_antisymm (Nat.le_sub_one_of_lt q) (by rw [← h]; exact g)
theorem y30 (h : a + b + 1 = n) (g : a + b ≤ k) (q : k < n) : k = n - 1 := Nat.le_antisymm (Nat.le_sub_one_of_lt q) (by rw [← h]; exact g)
theorem y31 (h : 0 + 1 = n) (q : k < n) : k = n - 1 := by rw [← h] at q ⊢; exact Nat.le_antisymm (Nat.le_of_lt_succ q) (Nat.zero_le _)
theorem y32 (h : a ≤ b) (g : b ≤ c) : b - a ≤ c - a := Nat.sub_le_sub_right g a
theorem y33 (h : a ≤ b) (g : b ≤ c) : a + (c - a) = c := Nat.add_sub_cancel' (Nat.le_trans h g)
theorem y35 : c + a - (c + b) ≤ c + a := Nat.sub_le _ _
theorem y36 (h : a ≤ b) (g : ¬ b - a > 0) (q : x < b) : x < a := Nat.lt_of_lt_of_le q (Nat.le_of_sub_eq_zero (Nat.eq_zero_of_not_pos g))
theorem y37 (h : a ≤ b - c) (g : a > 0) (e : ¬ c + a = b) (q : c < b) : c + a < b := Nat.lt_of_le_of_ne (Nat.add_le_of_le_sub' (Nat.le_of_lt q) h) e
theorem y38 (h : a < b) (g : c ≤ b - a) : a + c ≤ b := Nat.add_le_of_le_sub' (Nat.le_of_lt h) g
theorem y39 (h : a < b) (g : ¬ c ≥ b - a) : a + c < b := Nat.add_lt_of_lt_sub' (Nat.lt_of_not_le g)
theorem y40 (h : c + b ≤ n) (g : a < b) (q : ¬ d ≥ b - a) : c + (a + d) < n := z10 h (y39 g q)
theorem y41 (h : a + b + c ≤ n) (g : x ≤ a) : x + b + c ≤ n := Nat.le_trans (Nat.add_le_add_right (Nat.add_le_add_right g b) c) h
theorem y42 (h : a + b + c ≤ n) (g : x ≤ b) : a + x + c ≤ n := Nat.le_trans (Nat.add_le_add_right (Nat.add_le_add_left g a) c) h
theorem y43 (h : a + b + c ≤ n) : a + (b - 1) + c ≤ n := y42 h (Nat.sub_le _ _)
theorem y44 (h : a < b + 1) (g : ¬ a = c) (q : c < a) : d + c < d + a ∧ d + a ≤ d + b := ⟨Nat.add_lt_add_left q d, Nat.add_le_add_left (Nat.le_of_lt_succ h) d⟩
theorem y45 (h : a ≤ b) (g : b < n + 1) (q : c < a) : b - 1 < n := Nat.lt_of_lt_of_le (z16 (Nat.lt_of_lt_of_le (Nat.lt_of_le_of_lt (Nat.zero_le _) q) h)) (Nat.le_of_lt_succ g)
theorem y46 (h : 1 ≤ x) (g : x ≤ y) (q : y < b) (f : c + b ≤ n) : c + y - 1 < n := Nat.lt_of_le_of_lt (Nat.sub_le _ _) (z10 f q)
theorem y48 (h : 1 ≤ a) (g : a < b) : a - 1 < b := Nat.lt_of_le_of_lt (Nat.sub_le _ _) g
theorem y49 (h : 1 ≤ a) (g : a < b) (e : m = b) : a - 1 < m := e ▸ y48 h g
theorem y51 (g : a ≤ b) (q : c < a) : lo + b - 1 = lo + (b - 1) := z26 (Nat.lt_of_lt_of_le q g)
theorem y52 (h : a ≤ b) (q : c < a) : a - 1 ≤ b - 1 := Nat.sub_le_sub_right h 1
theorem y53 (h : 1 ≤ a) (g : b ≤ a) : 0 + b + (a - b) - 1 = a - 1 := by rw [Nat.zero_add, z13 g]
theorem y54 (h : a ≤ b) (q : b < c) : c - 1 - b ≤ c - 1 - a := Nat.sub_le_sub_left h _
theorem y57 (h : a + c ≤ k) (q : k < n) : k - a < n - a := Nat.sub_lt_sub_right (Nat.le_trans (Nat.le_add_right a c) h) q
theorem y58 (h : a ≤ b) (g : b ≤ k) (q : k < n) : k - a < n - a := Nat.sub_lt_sub_right (Nat.le_trans h g) q
theorem y59 (h : 1 ≤ a) : a - 1 - b < a := Nat.lt_of_le_of_lt (Nat.sub_le _ _) (z16 h)
theorem y64 (h : a + 1 < b) (g : b ≤ a + c) : b - 1 < a + c := Nat.lt_of_lt_of_le (z16 (Nat.lt_of_le_of_lt (Nat.zero_le _) h)) g
theorem y65 (h : a + 1 < b) : a ≤ b - 1 := Nat.le_sub_one_of_lt (Nat.lt_of_succ_lt h)
end
end Mine.So


set_option Elab.async false
set_option tactic.hygienic false
set_option genInjectivity false
set_option genSizeOf false
set_option bootstrap.genMatcherCode false
set_option autoImplicit false
set_option linter.unusedVariables false
namespace Mine.So
open PySem PyProof.Rows

abbrev SM := StateT SortSt Sem
def gallop' : Bool → Keyed → Array Keyed → Nat → Nat → Nat → SM (Option Nat) := sortPriv% PySem.Builtin.gallop
def beyond' (left : Bool) (key : Keyed) (arr : Array Keyed) (base i : Nat) : SM (Option Bool) := do
  let x ← elem' arr (base + i)
  if left then lt' x key else return (← lt' key x).map (!·)
theorem gallop'_eq (left : Bool) (key : Keyed) (arr : Array Keyed) (base n hint : Nat) : gallop' left key arr base n hint = (do
  let mut lastofs := 0
  let mut ofs := 1
  let mut lo := 0
  let mut hi := 0
  let some right ← beyond' left key arr base hint | return none
  if right then
    let maxofs := n - hint
    for _ in [0:n] do
      if ofs ≥ maxofs then break
      let some more ← beyond' left key arr base (hint + ofs) | return none
      if !more then break
      lastofs := ofs
      ofs := 2 * ofs + 1
    lo := hint + lastofs + 1
    hi := hint + min ofs maxofs
  else
    let maxofs := hint + 1
    for _ in [0:n] do
      if ofs ≥ maxofs then break
      let some found ← beyond' left key arr base (hint - ofs) | return none
      if found then break
      lastofs := ofs
      ofs := 2 * ofs + 1
    lo := hint + 1 - min ofs maxofs
    hi := hint - lastofs
  for _ in [0:n] do
    if lo ≥ hi then break
    let m := lo + (hi - lo) / 2
    let some more ← beyond' left key arr base m | return none
    if more then lo := m + 1 else hi := m
  return some hi) := by
  kernel_rfl

section
variable {prog : Program} {w : World} {A : Around} {E : Value → Shared → Prop} {s : Shared}
theorem wpS_lt {st : SortSt} {x y : Keyed} {a b : Int} {t u : Tok} {Q : Option Bool → SortSt → Prop} (hk : kindOf st = oneType') (hx : x.1 = .int a t) (hy : y.1 = .int b u) (h : Q (some (decide (a < b))) st) :
    wpS (model prog w) A E s (lt' x y) Q st := by
  rw [lt'_eq]
  refine wpS_bind (wpS_get ?_)
  rw [hk, keyLt'_oneType, hx, hy]
  refine wpS_bind (wpS_lift (wpAny_attempt (oneLt_int ⟨rfl, ?_⟩)))
  exact wpS_pure h
theorem wpS_elem {st : SortSt} {arr : Array Keyed} {i : Nat} {Q : Keyed → SortSt → Prop} (hi : i < arr.size) (h : Q arr[i] st) : wpS (model prog w) A E s (elem' arr i) Q st := by
  rw [elem'_eq, getElem?_pos arr i hi]
  exact wpS_pure h
theorem int_at {arr : Array Keyed} (h0 : IntKeys arr) {i : Nat} (hi : i < arr.size) : ∃ t, (arr[i]).1 = .int (K arr i) t := by
  obtain ⟨n, t, e⟩ := h0 arr[i] (by simp)
  exact ⟨t, by rw [K_eq hi, e]; rfl⟩
def bey (left : Bool) (k x : Int) : Bool := if left then decide (x < k) else !decide (k < x)
theorem wpS_beyond {st : SortSt} {left : Bool} {key : Keyed} {k : Int} {arr : Array Keyed} {base i : Nat} {t : Tok} {Q : Option Bool → SortSt → Prop} (hk : kindOf st = oneType') (h0 : IntKeys arr) (hkey : key.1 = .int k t) (hi : base + i < arr.size)
    (h : Q (some (bey left k (K arr (base + i)))) st) : wpS (model prog w) A E s (beyond' left key arr base i) Q st := by
  unfold beyond'
  refine wpS_bind (wpS_elem hi ?_)
  obtain ⟨u, hu⟩ := int_at h0 hi
  cases left with
  | true => exact wpS_lt hk hu hkey h
  | false => exact wpS_bind (wpS_lt hk hkey hu (wpS_pure h))
theorem wpS_gallop {st : SortSt} {left : Bool} {key : Keyed} {k : Int} {arr : Array Keyed} {base n hint : Nat} {t : Tok} {Q : Option Nat → SortSt → Prop} (hk : kindOf st = oneType') (h0 : IntKeys arr) (hkey : key.1 = .int k t) (hn : base + n ≤ arr.size) (hh : hint < n)
    (mono : ∀ i j, i ≤ j → j < n → bey left k (K arr (base + j)) = true → bey left k (K arr (base + i)) = true)
    (h : ∀ m, m ≤ n → (∀ i, i < m → bey left k (K arr (base + i)) = true) → (∀ i, m ≤ i → i < n → bey left k (K arr (base + i)) = false) → Q (some m) st) :
    wpS (model prog w) A E s (gallop' left key arr base n hint) Q st := by
  rw [gallop'_eq]
  have pick : ∀ m i, m ≤ i → i < n → bey left k (K arr (base + m)) = false → bey left k (K arr (base + i)) = false := fun m i h1 h2 h3 => by
    cases hb2 : bey left k (K arr (base + i)) with
    | false => rfl
    | true => rw [mono m i h1 h2 hb2] at h3; cases h3
  refine wpS_bind (wpS_beyond hk h0 hkey (by (apply z10 <;> assumption)) ?_)
  dsimp only
  cases hb : bey left k (K arr (base + hint)) with
  | true =>
    rw [if_pos rfl]
    refine wpS_bind (wpS_mono (wpS_forRange (I := fun x c st' => st' = st ∧ ∃ lastofs ofs, c = (none, lastofs, ofs) ∧ hint + lastofs < n ∧ bey left k (K arr (base + (hint + lastofs))) = true ∧ lastofs < ofs ∧ x + 1 ≤ ofs)
      (Q := fun c st' => st' = st ∧ ∃ lastofs ofs, c = (none, lastofs, ofs) ∧ hint + lastofs < n ∧ bey left k (K arr (base + (hint + lastofs))) = true ∧ lastofs < ofs ∧ (n - hint ≤ ofs ∨ (hint + ofs < n ∧ bey left k (K arr (base + (hint + ofs))) = false))) ?_ ?_ ⟨rfl, 0, 1, rfl, hh, hb, by exact z02, by exact z02⟩) ?_)
    · rintro x c st' _ hx ⟨rfl, lastofs, ofs, rfl, h1, h2, h3, h4⟩
      dsimp only
      by_cases hge : ofs ≥ n - hint
      · rw [if_pos hge]
        exact wpS_pure ⟨rfl, lastofs, ofs, rfl, h1, h2, h3, .inl hge⟩
      · rw [if_neg hge]
        refine wpS_bind (wpS_beyond hk h0 hkey (by (apply y40 <;> assumption)) ?_)
        dsimp only
        cases hb2 : bey left k (K arr (base + (hint + ofs))) with
        | true =>
          rw [if_neg (by decide)]
          exact wpS_pure ⟨rfl, ofs, 2 * ofs + 1, rfl, by (apply y39 <;> assumption), hb2, by lia, by lia⟩
        | false =>
          rw [if_pos (by decide)]
          exact wpS_pure ⟨rfl, lastofs, ofs, rfl, h1, h2, h3, .inr ⟨by (apply y39 <;> assumption), hb2⟩⟩
    · rintro c st' ⟨rfl, lastofs, ofs, rfl, h1, h2, h3, h4⟩
      exact ⟨rfl, lastofs, ofs, rfl, h1, h2, h3, .inl (by (apply y23 <;> assumption))⟩
    · rintro c st' ⟨rfl, lastofs, ofs, rfl, h1, h2, h3, h4⟩
      have h5 : hint + lastofs + 1 ≤ hint + min ofs (n - hint) := Nat.add_le_add_left (Nat.le_min.mpr ⟨h3, Nat.le_sub_of_add_le' h1⟩) hint
      have h6 : hint + min ofs (n - hint) ≤ n := Nat.le_trans (Nat.add_le_add_left (Nat.min_le_right _ _) _) (Nat.le_of_eq (z14 hh))
      have h7 : ∀ i, i < hint + lastofs + 1 → bey left k (K arr (base + i)) = true := fun i hi => mono i (hint + lastofs) (by lia) h1 h2
      have h8 : ∀ i, hint + min ofs (n - hint) ≤ i → i < n → bey left k (K arr (base + i)) = false := fun i h5 h6 => by
        rcases h4 with h4 | ⟨h4, h7⟩
        · lia
        · exact pick _ i (by lia) h6 h7
      dsimp only
      refine wpS_bind (wpS_mono (wpS_forRange (I := fun x c st'' => st'' = st' ∧ ∃ lo hi, c = (none, lo, hi) ∧ lo ≤ hi ∧ hi ≤ n ∧ hi + x ≤ lo + n ∧ (∀ i, i < lo → bey left k (K arr (base + i)) = true) ∧ (∀ i, hi ≤ i → i < n → bey left k (K arr (base + i)) = false))
        (Q := fun c st'' => st'' = st' ∧ ∃ m, c = (none, m, m) ∧ m ≤ n ∧ (∀ i, i < m → bey left k (K arr (base + i)) = true) ∧ (∀ i, m ≤ i → i < n → bey left k (K arr (base + i)) = false)) ?_ ?_ ⟨rfl, _, _, rfl, h5, h6, by (apply ms4 <;> assumption), h7, h8⟩) ?_)
      · rintro x c st'' _ hx ⟨rfl, lo, hi, rfl, h1, h2, h5, h3, h4⟩
        dsimp only
        by_cases hge : lo ≥ hi
        · rw [if_pos hge]
          have : lo = hi := by (apply z29 <;> assumption)
          subst this
          exact wpS_pure ⟨rfl, lo, rfl, h2, h3, h4⟩
        · rw [if_neg hge]
          refine wpS_bind (wpS_beyond hk h0 hkey (by (apply y01 <;> assumption)) ?_)
          dsimp only
          cases hb : bey left k (K arr (base + (lo + (hi - lo) / 2))) with
          | true =>
            rw [if_pos rfl]
            exact wpS_pure ⟨rfl, _, hi, rfl, by (apply md1 <;> assumption), h2, by (apply ms5 <;> assumption), fun i hi => mono i (lo + (_ - lo) / 2) (by lia) (by (apply y02 <;> assumption)) hb, h4⟩
          | false =>
            rw [if_neg (by decide)]
            exact wpS_pure ⟨rfl, lo, _, rfl, by exact z03, by (apply y03 <;> assumption), by (apply ms6 <;> assumption), h3, fun i h6 h7 => pick _ i h6 h7 hb⟩
      · rintro c st'' ⟨rfl, lo, hi, rfl, h1, h2, h5, h3, h4⟩
        have : lo = hi := by (apply ms3 <;> assumption)
        subst this
        exact ⟨rfl, lo, rfl, h2, h3, h4⟩
      · rintro c st'' ⟨rfl, m, rfl, h2, h3, h4⟩
        exact wpS_pure (h m h2 h3 h4)
  | false =>
    rw [if_neg (by decide)]
    refine wpS_bind (wpS_mono (wpS_forRange (I := fun x c st' => st' = st ∧ ∃ lastofs ofs, c = (none, lastofs, ofs) ∧ lastofs ≤ hint ∧ bey left k (K arr (base + (hint - lastofs))) = false ∧ lastofs < ofs ∧ x + 1 ≤ ofs)
      (Q := fun c st' => st' = st ∧ ∃ lastofs ofs, c = (none, lastofs, ofs) ∧ lastofs ≤ hint ∧ bey left k (K arr (base + (hint - lastofs))) = false ∧ lastofs < ofs ∧ (hint + 1 ≤ ofs ∨ (ofs ≤ hint ∧ bey left k (K arr (base + (hint - ofs))) = true))) ?_ ?_ ⟨rfl, 0, 1, rfl, by exact z01, hb, by exact z02, by exact z02⟩) ?_)
    · rintro x c st' _ hx ⟨rfl, lastofs, ofs, rfl, h1, h2, h3, h4⟩
      dsimp only
      by_cases hge : ofs ≥ hint + 1
      · rw [if_pos hge]
        exact wpS_pure ⟨rfl, lastofs, ofs, rfl, h1, h2, h3, .inl hge⟩
      · rw [if_neg hge]
        refine wpS_bind (wpS_beyond hk h0 hkey (by (apply y24 <;> assumption)) ?_)
        dsimp only
        cases hb2 : bey left k (K arr (base + (hint - ofs))) with
        | true =>
          rw [if_pos rfl]
          exact wpS_pure ⟨rfl, lastofs, ofs, rfl, h1, h2, h3, .inr ⟨by (apply z44 <;> assumption), hb2⟩⟩
        | false =>
          rw [if_neg (by decide)]
          exact wpS_pure ⟨rfl, ofs, 2 * ofs + 1, rfl, by (apply z44 <;> assumption), hb2, by lia, by lia⟩
    · rintro c st' ⟨rfl, lastofs, ofs, rfl, h1, h2, h3, h4⟩
      exact ⟨rfl, lastofs, ofs, rfl, h1, h2, h3, .inl (by (apply z55 <;> assumption))⟩
    · rintro c st' ⟨rfl, lastofs, ofs, rfl, h1, h2, h3, h4⟩
      have h5 : hint + 1 - min ofs (hint + 1) ≤ hint - lastofs := by omega
      have h6 : hint - lastofs ≤ n := by (apply y23 <;> assumption)
      have h7 : ∀ i, i < hint + 1 - min ofs (hint + 1) → bey left k (K arr (base + i)) = true := fun i hi => by
        rcases h4 with h4 | ⟨h4, h7⟩
        · lia
        · exact mono i (hint - ofs) (by lia) (by (apply y22 <;> assumption)) h7
      have h8 : ∀ i, hint - lastofs ≤ i → i < n → bey left k (K arr (base + i)) = false := fun i h5 h6 => pick _ i h5 h6 h2
      dsimp only
      refine wpS_bind (wpS_mono (wpS_forRange (I := fun x c st'' => st'' = st' ∧ ∃ lo hi, c = (none, lo, hi) ∧ lo ≤ hi ∧ hi ≤ n ∧ hi + x ≤ lo + n ∧ (∀ i, i < lo → bey left k (K arr (base + i)) = true) ∧ (∀ i, hi ≤ i → i < n → bey left k (K arr (base + i)) = false))
        (Q := fun c st'' => st'' = st' ∧ ∃ m, c = (none, m, m) ∧ m ≤ n ∧ (∀ i, i < m → bey left k (K arr (base + i)) = true) ∧ (∀ i, m ≤ i → i < n → bey left k (K arr (base + i)) = false)) ?_ ?_ ⟨rfl, _, _, rfl, h5, h6, by (apply ms4 <;> assumption), h7, h8⟩) ?_)
      · rintro x c st'' _ hx ⟨rfl, lo, hi, rfl, h1, h2, h5, h3, h4⟩
        dsimp only
        by_cases hge : lo ≥ hi
        · rw [if_pos hge]
          have : lo = hi := by (apply z29 <;> assumption)
          subst this
          exact wpS_pure ⟨rfl, lo, rfl, h2, h3, h4⟩
        · rw [if_neg hge]
          refine wpS_bind (wpS_beyond hk h0 hkey (by (apply y01 <;> assumption)) ?_)
          dsimp only
          cases hb : bey left k (K arr (base + (lo + (hi - lo) / 2))) with
          | true =>
            rw [if_pos rfl]
            exact wpS_pure ⟨rfl, _, hi, rfl, by (apply md1 <;> assumption), h2, by (apply ms5 <;> assumption), fun i hi => mono i (lo + (_ - lo) / 2) (by lia) (by (apply y02 <;> assumption)) hb, h4⟩
          | false =>
            rw [if_neg (by decide)]
            exact wpS_pure ⟨rfl, lo, _, rfl, by exact z03, by (apply y03 <;> assumption), by (apply ms6 <;> assumption), h3, fun i h6 h7 => pick _ i h6 h7 hb⟩
      · rintro c st'' ⟨rfl, lo, hi, rfl, h1, h2, h5, h3, h4⟩
        have : lo = hi := by (apply ms3 <;> assumption)
        subst this
        exact ⟨rfl, lo, rfl, h2, h3, h4⟩
      · rintro c st'' ⟨rfl, m, rfl, h2, h3, h4⟩
        exact wpS_pure (h m h2 h3 h4)
end
end Mine.So

set_option autoImplicit false
set_option linter.unusedVariables false
namespace Mine.So
open PySem PyProof.Rows

def kv (p : Keyed) : Int := numOf p.1
def Srt (l : List Keyed) : Prop := l.Pairwise fun p q => kv p ≤ kv q
def Ord (T l : List Keyed) : Prop := l.Perm T ∧ Srt l
structure MI (T L xs ys : List Keyed) : Prop where
  perm : (L ++ (xs ++ ys)).Perm T
  out : Srt L
  la : ∀ x ∈ L, ∀ y ∈ xs, kv x ≤ kv y
  lb : ∀ x ∈ L, ∀ y ∈ ys, kv x ≤ kv y
  sa : Srt xs
  sb : Srt ys
theorem perm_mid {L xs us ys : List Keyed} : (L ++ us ++ (xs ++ ys)).Perm (L ++ (xs ++ (us ++ ys))) := by
  rw [List.append_assoc]
  refine List.Perm.append_left L ?_
  rw [← List.append_assoc, ← List.append_assoc]
  exact List.perm_append_comm.append_right ys
theorem MI.takeA {T L us xs ys : List Keyed} (h : MI T L (us ++ xs) ys) (hu : ∀ u ∈ us, ∀ y ∈ ys, kv u ≤ kv y) : MI T (L ++ us) xs ys :=
  have q := List.pairwise_append.mp h.sa
  ⟨by have := h.perm; rwa [List.append_assoc, ← List.append_assoc L us] at this, List.pairwise_append.mpr ⟨h.out, q.1, fun x hx u hu' => h.la x hx u (List.mem_append_left _ hu')⟩,
    fun x hx y hy => (List.mem_append.mp hx).elim (fun q => h.la x q y (List.mem_append_right _ hy)) fun z => q.2.2 x z y hy,
    fun x hx y hy => (List.mem_append.mp hx).elim (fun q => h.lb x q y hy) fun q => hu x q y hy, q.2.1, h.sb⟩
theorem MI.takeB {T L us xs ys : List Keyed} (h : MI T L xs (us ++ ys)) (hu : ∀ u ∈ us, ∀ x ∈ xs, kv u ≤ kv x) : MI T (L ++ us) xs ys :=
  have q := List.pairwise_append.mp h.sb
  ⟨perm_mid.trans h.perm, List.pairwise_append.mpr ⟨h.out, q.1, fun x hx u hu' => h.lb x hx u (List.mem_append_left _ hu')⟩,
    fun x hx y hy => (List.mem_append.mp hx).elim (fun q => h.la x q y hy) fun q => hu x q y hy,
    fun x hx y hy => (List.mem_append.mp hx).elim (fun q => h.lb x q y (List.mem_append_right _ hy)) fun z => q.2.2 x z y hy, h.sa, q.2.1⟩
theorem MI.fin {T L : List Keyed} (h : MI T L [] []) : Ord T L := ⟨by have := h.perm; rwa [List.append_nil, List.append_nil] at this, h.out⟩
theorem MI.endA {T L xs ys : List Keyed} (h : MI T L xs ys) (hx : ∀ x ∈ xs, ∀ y ∈ ys, kv x ≤ kv y) : Ord T (L ++ xs ++ ys) :=
  have h1 : MI T (L ++ xs) [] ys := MI.takeA (xs := []) (by rwa [List.append_nil]) hx
  (MI.takeB (xs := []) (ys := []) (by rwa [List.append_nil]) fun u_ u_ u_ z => nomatch z).fin
theorem MI.endB {T L xs ys : List Keyed} (h : MI T L xs ys) (hy : ∀ y ∈ ys, ∀ x ∈ xs, kv y ≤ kv x) : Ord T (L ++ ys ++ xs) :=
  have h1 : MI T (L ++ ys) xs [] := MI.takeB (ys := []) (by rwa [List.append_nil]) hy
  (MI.takeA (xs := []) (ys := []) (by rwa [List.append_nil]) fun u_ u_ u_ z => nomatch z).fin
structure MJ (T R xs ys : List Keyed) : Prop where
  perm : (xs ++ ys ++ R).Perm T
  out : Srt R
  la : ∀ x ∈ xs, ∀ y ∈ R, kv x ≤ kv y
  lb : ∀ x ∈ ys, ∀ y ∈ R, kv x ≤ kv y
  sa : Srt xs
  sb : Srt ys
theorem MJ.takeA {T R us xs ys : List Keyed} (h : MJ T R (xs ++ us) ys) (hu : ∀ u ∈ us, ∀ y ∈ ys, kv y ≤ kv u) : MJ T (us ++ R) xs ys :=
  have q := List.pairwise_append.mp h.sa
  ⟨by
    have := h.perm
    refine .trans ?_ this
    rw [List.append_assoc, List.append_assoc, List.append_assoc]
    refine List.Perm.append_left xs ?_
    rw [← List.append_assoc, ← List.append_assoc]
    exact List.perm_append_comm.append_right R, List.pairwise_append.mpr ⟨q.2.1, h.out, fun u hu' y hy => h.la u (List.mem_append_right _ hu') y hy⟩,
    fun x hx y hy => (List.mem_append.mp hy).elim (fun z => q.2.2 x hx y z) fun z => h.la x (List.mem_append_left _ hx) y z,
    fun x hx y hy => (List.mem_append.mp hy).elim (fun z => hu y z x hx) fun z => h.lb x hx y z, q.1, h.sb⟩
theorem MJ.takeB {T R us xs ys : List Keyed} (h : MJ T R xs (ys ++ us)) (hu : ∀ u ∈ us, ∀ x ∈ xs, kv x ≤ kv u) : MJ T (us ++ R) xs ys :=
  have q := List.pairwise_append.mp h.sb
  ⟨by have := h.perm; rwa [← List.append_assoc, List.append_assoc (xs ++ ys)] at this, List.pairwise_append.mpr ⟨q.2.1, h.out, fun u hu' y hy => h.lb u (List.mem_append_right _ hu') y hy⟩,
    fun x hx y hy => (List.mem_append.mp hy).elim (fun z => hu y z x hx) fun z => h.la x hx y z,
    fun x hx y hy => (List.mem_append.mp hy).elim (fun z => q.2.2 x hx y z) fun z => h.lb x (List.mem_append_left _ hx) y z, h.sa, q.1⟩
theorem MJ.fin {T R : List Keyed} (h : MJ T R [] []) : Ord T R := ⟨h.perm, h.out⟩
theorem MJ.endA {T R xs ys : List Keyed} (h : MJ T R xs ys) (hx : ∀ x ∈ xs, ∀ y ∈ ys, kv x ≤ kv y) : Ord T (xs ++ ys ++ R) := by
  have h1 : MJ T (ys ++ R) xs [] := MJ.takeB (ys := []) h fun y hy x hx' => hx x hx' y hy
  rw [List.append_assoc]
  exact (MJ.takeA (us := xs) (xs := []) (ys := []) h1 fun u_ u_ u_ z => nomatch z).fin
theorem MJ.endB {T R xs ys : List Keyed} (h : MJ T R xs ys) (hy : ∀ y ∈ ys, ∀ x ∈ xs, kv y ≤ kv x) : Ord T (ys ++ xs ++ R) := by
  have h1 : MJ T (xs ++ R) [] ys := MJ.takeA (xs := []) h fun x hx y hy' => hy y hy' x hx
  rw [List.append_assoc]
  exact (MJ.takeB (us := ys) (xs := []) (ys := []) h1 fun u_ u_ u_ z => nomatch z).fin
end Mine.So

set_option autoImplicit false
set_option linter.unusedVariables false
namespace Mine.So
open PySem PyProof.Rows

def mergeLo' : Array Keyed → Array Keyed → SM (Array Keyed) := sortPriv% PySem.Builtin.mergeLo
def setMinGallop' : Nat → SM Unit := sortPriv% PySem.Builtin.setMinGallop
theorem setMinGallop'_eq (g : Nat) : setMinGallop' g = modify fun st => SortSt.mk' (kindOf st) (arrOf st) (pendingOf st) g (failedOf st) := rfl
abbrev S2 := Option (Array Keyed) × Array Keyed × Nat × Nat × Nat × Nat × Nat
abbrev S1 := Option (Array Keyed) × Array Keyed × Nat × Nat × Nat × Nat
abbrev S0 := Option (Array Keyed) × Array Keyed × Nat × Nat × Nat
section
variable (a b : Array Keyed)
abbrev dn (out : Array Keyed) (ia ib : Nat) : Array Keyed := out ++ a.extract ia a.size ++ b.extract ib b.size
abbrev la (out : Array Keyed) (ia ib : Nat) : Array Keyed := out ++ b.extract ib b.size ++ a.extract ia a.size
def lo4 (out : Array Keyed) (ia ib mg k k2 : Nat) : SM (ForInStep S2) := do
  let x ← elem' a ia
  if (ia + 1 + 1 == a.size) = true then pure (.done (some (la a b (out.push x) (ia + 1) ib), out.push x, ia + 1, ib, mg, k, k2))
  else if (decide (k < 7) && decide (k2 < 7)) = true then pure (.done (none, out.push x, ia + 1, ib, mg, k, k2))
  else pure (.yield (none, out.push x, ia + 1, ib, mg, k, k2))
def lo3 (out : Array Keyed) (ia ib mg k bc : Nat) : SM (ForInStep S2) := do
  let x ← elem' a ia
  let r ← gallop' true x b ib (b.size - ib) 0
  match r with
  | some k2 =>
    if k2 > 0 then
      if (ib + k2 == b.size) = true then pure (.done (some (dn a b (out ++ b.extract ib (ib + k2)) ia (ib + k2)), out ++ b.extract ib (ib + k2), ia, ib + k2, mg, k, k2))
      else lo4 a b (out ++ b.extract ib (ib + k2)) ia (ib + k2) mg k k2
    else lo4 a b out ia ib mg k k2
  | _ => pure (.done (some (dn a b out ia ib), out, ia, ib, mg, k, bc))
def lo2 (out : Array Keyed) (ia ib mg k bc : Nat) : SM (ForInStep S2) := do
  let x ← elem' b ib
  if (ib + 1 == b.size) = true then pure (.done (some (dn a b (out.push x) ia (ib + 1)), out.push x, ia, ib + 1, mg, k, bc))
  else lo3 a b (out.push x) ia (ib + 1) mg k bc
def lo1 (out : Array Keyed) (ia ib mg ac bc : Nat) : SM (ForInStep S2) := do
  setMinGallop' mg
  let x ← elem' b ib
  let r ← gallop' false x a ia (a.size - ia) 0
  match r with
  | some k =>
    if k > 0 then
      if (ia + k + 1 == a.size) = true then pure (.done (some (la a b (out ++ a.extract ia (ia + k)) (ia + k) ib), out ++ a.extract ia (ia + k), ia + k, ib, mg, k, bc))
      else if (ia + k == a.size) = true then pure (.done (some (dn a b (out ++ a.extract ia (ia + k)) (ia + k) ib), out ++ a.extract ia (ia + k), ia + k, ib, mg, k, bc))
      else lo2 a b (out ++ a.extract ia (ia + k)) (ia + k) ib mg k bc
    else lo2 a b out ia ib mg k bc
  | _ => pure (.done (some (dn a b out ia ib), out, ia, ib, mg, ac, bc))
def loG (c : S2) : SM (ForInStep S2) :=
  if c.2.2.2.2.1 > 1 then lo1 a b c.2.1 c.2.2.1 c.2.2.2.1 (c.2.2.2.2.1 - 1) c.2.2.2.2.2.1 c.2.2.2.2.2.2 else lo1 a b c.2.1 c.2.2.1 c.2.2.2.1 c.2.2.2.2.1 c.2.2.2.2.2.1 c.2.2.2.2.2.2
def loO (mg : Nat) (c : S1) : SM (ForInStep S1) := do
  let y ← elem' b c.2.2.2.1
  let x ← elem' a c.2.2.1
  let r ← lt' y x
  match r with
  | some bWins =>
    if bWins = true then do
      let y ← elem' b c.2.2.2.1
      if (c.2.2.2.1 + 1 == b.size) = true then pure (.done (some (dn a b (c.2.1.push y) c.2.2.1 (c.2.2.2.1 + 1)), c.2.1.push y, c.2.2.1, c.2.2.2.1 + 1, 0, c.2.2.2.2.2 + 1))
      else if c.2.2.2.2.2 + 1 ≥ mg then pure (.done (none, c.2.1.push y, c.2.2.1, c.2.2.2.1 + 1, 0, c.2.2.2.2.2 + 1))
      else pure (.yield (none, c.2.1.push y, c.2.2.1, c.2.2.2.1 + 1, 0, c.2.2.2.2.2 + 1))
    else do
      let x ← elem' a c.2.2.1
      if (c.2.2.1 + 1 + 1 == a.size) = true then pure (.done (some (la a b (c.2.1.push x) (c.2.2.1 + 1) c.2.2.2.1), c.2.1.push x, c.2.2.1 + 1, c.2.2.2.1, c.2.2.2.2.1 + 1, 0))
      else if c.2.2.2.2.1 + 1 ≥ mg then pure (.done (none, c.2.1.push x, c.2.2.1 + 1, c.2.2.2.1, c.2.2.2.2.1 + 1, 0))
      else pure (.yield (none, c.2.1.push x, c.2.2.1 + 1, c.2.2.2.1, c.2.2.2.2.1 + 1, 0))
  | _ => pure (.done (some (dn a b c.2.1 c.2.2.1 c.2.2.2.1), c.2.1, c.2.2.1, c.2.2.2.1, c.2.2.2.2.1, c.2.2.2.2.2))
def loT (c : S0) : SM (ForInStep S0) := do
  let d ← forIn [0:a.size + b.size] ((none, c.2.1, c.2.2.1, c.2.2.2.1, 0, 0) : S1) fun u_ d => loO a b c.2.2.2.2 d
  match d.1 with
  | some r => pure (.done (some r, d.2.1, d.2.2.1, d.2.2.2.1, c.2.2.2.2))
  | none => do
    liftM (rule "list.sort.gallop")
    let e ← forIn [0:a.size + b.size] ((none, d.2.1, d.2.2.1, d.2.2.2.1, c.2.2.2.2 + 1, d.2.2.2.2.1, d.2.2.2.2.2) : S2) fun u_ e => loG a b e
    match e.1 with
    | some r => pure (.done (some r, e.2.1, e.2.2.1, e.2.2.2.1, e.2.2.2.2.1))
    | none => do
      setMinGallop' (e.2.2.2.2.1 + 1)
      pure (.yield (none, e.2.1, e.2.2.1, e.2.2.2.1, e.2.2.2.2.1 + 1))
theorem mergeLo'_eq : mergeLo' a b = (do
  liftM (rule "list.sort.merge-lo")
  let y ← elem' b 0
  if (1 == b.size) = true then pure (dn a b #[y] 0 1)
  else if (0 + 1 == a.size) = true then pure (la a b #[y] 0 1)
  else do
    let st ← get
    let c ← forIn [0:a.size + b.size] ((none, #[y], 0, 1, gallopOf st) : S0) fun u_ c => loT a b c
    match c.1 with
    | some r => pure r
    | none => unsupported "internal:list.sort.merge-bound") := by
  kernel_rfl
end
end Mine.So

set_option autoImplicit false
set_option linter.unusedVariables false
namespace Mine.So
open PySem PyProof.Rows

structure Sam (st st' : SortSt) : Prop where
  kind : kindOf st' = kindOf st
  arr : arrOf st' = arrOf st
  pend : pendingOf st' = pendingOf st
  fail : failedOf st' = failedOf st
theorem Sam.refl (st : SortSt) : Sam st st := ⟨rfl, rfl, rfl, rfl⟩
theorem Sam.trans {st st' st'' : SortSt} (x : Sam st st') (y : Sam st' st'') : Sam st st'' := ⟨y.kind.trans x.kind, y.arr.trans x.arr, y.pend.trans x.pend, y.fail.trans x.fail⟩
theorem kvK {a : Array Keyed} {i : Nat} (h : i < a.size) : kv a[i] = K a i := (K_eq h).symm
theorem memK {a : Array Keyed} {i : Nat} {x : Keyed} (h : x ∈ a.toList.drop i) : ∃ j, i ≤ j ∧ j < a.size ∧ kv x = K a j := by
  obtain ⟨j, hj, e⟩ := List.mem_iff_getElem.mp h
  rw [List.getElem_drop] at e
  rw [List.length_drop, Array.length_toList] at hj
  have hl : i + j < a.size := by (apply y11 <;> assumption)
  exact ⟨i + j, Nat.le_add_right _ _, hl, by rw [← e]; exact kvK hl⟩
theorem memT {a : Array Keyed} {i k : Nat} {x : Keyed} (h : x ∈ (a.toList.drop i).take k) : ∃ j, i ≤ j ∧ j < i + k ∧ j < a.size ∧ kv x = K a j := by
  obtain ⟨j, hj, e⟩ := List.mem_iff_getElem.mp h
  rw [List.getElem_take, List.getElem_drop] at e
  rw [List.length_take, List.length_drop, Array.length_toList] at hj
  have hl : i + j < a.size := by (apply y12 <;> assumption)
  exact ⟨i + j, Nat.le_add_right _ _, by (apply y13 <;> assumption), hl, by rw [← e]; exact kvK hl⟩
theorem srtK {a : Array Keyed} (h : Srt a.toList) {i j : Nat} (hij : i ≤ j) (hj : j < a.size) : K a i ≤ K a j := by
  rcases Nat.eq_or_lt_of_le hij with e | e
  · rw [e]; exact Int.le_refl _
  · have := List.pairwise_iff_getElem.mp h i j (by rw [Array.length_toList]; (apply z07 <;> assumption)) (by rw [Array.length_toList]; exact hj) e
    rw [← kvK (show i < a.size by (apply z07 <;> assumption)), ← kvK hj]
    exact this
theorem bey_mono {left : Bool} {k : Int} {a : Array Keyed} {base n : Nat} (h : Srt a.toList) (hn : base + n ≤ a.size) (i j : Nat) (hij : i ≤ j) (hj : j < n) (hb : bey left k (K a (base + j)) = true) : bey left k (K a (base + i)) = true := by
  have h1 := srtK h (i := base + i) (j := base + j) (by (apply z32 <;> assumption)) (by (apply z10 <;> assumption))
  unfold bey at hb ⊢
  cases left with
  | true => rw [if_pos rfl, decide_eq_true_iff] at hb ⊢; (apply i4 <;> assumption)
  | false => rw [if_neg (by decide), Bool.not_eq_true', decide_eq_false_iff_not] at hb ⊢; (apply i5 <;> assumption)
theorem bey_t {k x : Int} : bey true k x = decide (x < k) := rfl
theorem bey_f {k x : Int} : bey false k x = !decide (k < x) := rfl
section
variable {T : List Keyed} {a b out : Array Keyed} {ia ib k : Nat}
theorem drop_at {a : Array Keyed} {i : Nat} (h : i < a.size) : a.toList.drop i = [a[i]] ++ a.toList.drop (i + 1) := List.drop_eq_getElem_cons (by rw [Array.length_toList]; exact h)
theorem drop_ext {a : Array Keyed} {i k : Nat} : a.toList.drop i = (a.toList.drop i).take k ++ a.toList.drop (i + k) := by rw [← List.drop_drop, List.take_append_drop]
theorem ext_toList {a : Array Keyed} {i k : Nat} : (a.extract i (i + k)).toList = (a.toList.drop i).take k := by rw [Array.toList_extract, List.extract_eq_take_drop, Nat.add_sub_cancel_left]
theorem ext_all {a : Array Keyed} {i : Nat} : (a.extract i a.size).toList = a.toList.drop i := by rw [Array.toList_extract, List.extract_eq_take_drop, List.take_of_length_le (by rw [List.length_drop, Array.length_toList]; exact z02)]
theorem MI.pushB (h : MI T out.toList (a.toList.drop ia) (b.toList.drop ib)) (hb : ib < b.size) (hle : ∀ j, ia ≤ j → j < a.size → K b ib ≤ K a j) : MI T (out.push b[ib]).toList (a.toList.drop ia) (b.toList.drop (ib + 1)) := by
  rw [drop_at hb] at h
  rw [Array.toList_push]
  exact h.takeB fun u hu x hx => by
    obtain ⟨j, h1, h2, e⟩ := memK hx
    rw [List.mem_singleton.mp hu, kvK hb, e]; exact hle j h1 h2
theorem MI.pushA (h : MI T out.toList (a.toList.drop ia) (b.toList.drop ib)) (ha : ia < a.size) (hle : ∀ j, ib ≤ j → j < b.size → K a ia ≤ K b j) : MI T (out.push a[ia]).toList (a.toList.drop (ia + 1)) (b.toList.drop ib) := by
  rw [drop_at ha] at h
  rw [Array.toList_push]
  exact h.takeA fun u hu x hx => by
    obtain ⟨j, h1, h2, e⟩ := memK hx
    rw [List.mem_singleton.mp hu, kvK ha, e]; exact hle j h1 h2
theorem MI.addA (h : MI T out.toList (a.toList.drop ia) (b.toList.drop ib)) (hle : ∀ i, ia ≤ i → i < ia + k → i < a.size → ∀ j, ib ≤ j → j < b.size → K a i ≤ K b j) : MI T (out ++ a.extract ia (ia + k)).toList (a.toList.drop (ia + k)) (b.toList.drop ib) := by
  rw [drop_ext (a := a) (i := ia) (k := k)] at h
  rw [Array.toList_append, ext_toList]
  exact h.takeA fun u hu x hx => by
    obtain ⟨i, h1, h2, h3, e⟩ := memT hu
    obtain ⟨j, h4, h5, e2⟩ := memK hx
    rw [e, e2]; exact hle i h1 h2 h3 j h4 h5
theorem MI.addB (h : MI T out.toList (a.toList.drop ia) (b.toList.drop ib)) (hle : ∀ i, ib ≤ i → i < ib + k → i < b.size → ∀ j, ia ≤ j → j < a.size → K b i ≤ K a j) : MI T (out ++ b.extract ib (ib + k)).toList (a.toList.drop ia) (b.toList.drop (ib + k)) := by
  rw [drop_ext (a := b) (i := ib) (k := k)] at h
  rw [Array.toList_append, ext_toList]
  exact h.takeB fun u hu x hx => by
    obtain ⟨i, h1, h2, h3, e⟩ := memT hu
    obtain ⟨j, h4, h5, e2⟩ := memK hx
    rw [e, e2]; exact hle i h1 h2 h3 j h4 h5
theorem MI.dn (h : MI T out.toList (a.toList.drop ia) (b.toList.drop ib)) (hle : ∀ i, ia ≤ i → i < a.size → ∀ j, ib ≤ j → j < b.size → K a i ≤ K b j) : Ord T (Mine.So.dn a b out ia ib).toList := by
  unfold Mine.So.dn
  rw [Array.toList_append, Array.toList_append, ext_all, ext_all]
  exact h.endA fun x hx y hy => by
    obtain ⟨i, h1, h2, e⟩ := memK hx
    obtain ⟨j, h4, h5, e2⟩ := memK hy
    rw [e, e2]; exact hle i h1 h2 j h4 h5
theorem MI.lst (h : MI T out.toList (a.toList.drop ia) (b.toList.drop ib)) (hle : ∀ i, ib ≤ i → i < b.size → ∀ j, ia ≤ j → j < a.size → K b i ≤ K a j) : Ord T (Mine.So.la a b out ia ib).toList := by
  unfold Mine.So.la
  rw [Array.toList_append, Array.toList_append, ext_all, ext_all]
  exact h.endB fun x hx y hy => by
    obtain ⟨i, h1, h2, e⟩ := memK hx
    obtain ⟨j, h4, h5, e2⟩ := memK hy
    rw [e, e2]; exact hle i h1 h2 j h4 h5
structure MP (a b : Array Keyed) : Prop where
  ia : IntKeys a
  ib : IntKeys b
  sa : Srt a.toList
  sb : Srt b.toList
  last : ∀ j, j < b.size → K b j < K a (a.size - 1)
def Go (T : List Keyed) (a b : Array Keyed) (m : Nat) (out : Array Keyed) (ia ib : Nat) : Prop := ia + 1 < a.size ∧ ib < b.size ∧ m ≤ ia + ib ∧ MI T out.toList (a.toList.drop ia) (b.toList.drop ib)
def Fn (T : List Keyed) (a b : Array Keyed) (m : Nat) (o : Option (Array Keyed)) (out : Array Keyed) (ia ib : Nat) : Prop := (∃ r, o = some r ∧ Ord T r.toList) ∨ (o = none ∧ Go T a b m out ia ib)
def P2 (T : List Keyed) (a b : Array Keyed) (m : Nat) : ForInStep S2 → Prop
  | .done c => Fn T a b m c.1 c.2.1 c.2.2.1 c.2.2.2.1
  | .yield c => c.1 = none ∧ Go T a b m c.2.1 c.2.2.1 c.2.2.2.1
def P1 (T : List Keyed) (a b : Array Keyed) (m : Nat) : ForInStep S1 → Prop
  | .done c => Fn T a b m c.1 c.2.1 c.2.2.1 c.2.2.2.1
  | .yield c => c.1 = none ∧ Go T a b m c.2.1 c.2.2.1 c.2.2.2.1
end
section
variable {prog : Program} {w : World} {A : Around} {E : Value → Shared → Prop} {s : Shared} {st : SortSt} {T : List Keyed} {a b out : Array Keyed} {ia ib m mg k k2 ac bc : Nat}
theorem wp_lo4 (M : MP a b) (h1 : ia + 1 < a.size) (h2 : ib < b.size) (h3 : MI T out.toList (a.toList.drop ia) (b.toList.drop ib)) (h4 : ∀ j, ib ≤ j → j < b.size → K a ia ≤ K b j) (hm : m ≤ ia + ib + 1) :
    wpS (model prog w) A E s (lo4 a b out ia ib mg k k2) (fun r st' => Sam st st' ∧ P2 T a b m r) st := by
  unfold lo4
  refine wpS_bind (wpS_elem (by (apply z04 <;> assumption)) ?_)
  have h5 := h3.pushA (by (apply z04 <;> assumption)) h4
  by_cases he : ia + 1 + 1 = a.size
  · rw [if_pos (beq_iff_eq.mpr he)]
    refine wpS_pure ⟨.refl _, .inl ⟨_, rfl, h5.lst fun i h6 h7 j h8 h9 => ?_⟩⟩
    have : j = a.size - 1 := by (apply y29 <;> assumption)
    rw [this]; exact Int.le_of_lt (M.last i h7)
  · rw [if_neg (fun q => he (beq_iff_eq.mp q))]
    have g : Go T a b m (out.push a[ia]) (ia + 1) ib := ⟨by (apply z24 <;> assumption), h2, by lia, h5⟩
    split
    · exact wpS_pure ⟨.refl _, .inr ⟨rfl, g⟩⟩
    · exact wpS_pure ⟨.refl _, rfl, g⟩
theorem wp_lo3 (M : MP a b) (hk : kindOf st = oneType') (h1 : ia + 1 < a.size) (h2 : ib < b.size) (h3 : MI T out.toList (a.toList.drop ia) (b.toList.drop ib)) (hm : m ≤ ia + ib + 1) :
    wpS (model prog w) A E s (lo3 a b out ia ib mg k bc) (fun r st' => Sam st st' ∧ P2 T a b m r) st := by
  unfold lo3
  refine wpS_bind (wpS_elem (by (apply z04 <;> assumption)) ?_)
  obtain ⟨t, ht⟩ := int_at M.ia (i := ia) (by (apply z04 <;> assumption))
  refine wpS_bind (wpS_gallop hk M.ib ht (by (apply z39 <;> assumption)) (by (apply z22 <;> assumption)) (bey_mono M.sb (by (apply z39 <;> assumption))) fun q hq g1 g2 => ?_)
  have g1 : ∀ j, ib ≤ j → j < ib + q → K b j < K a ia := fun j q1 q2 => by
    have := g1 (j - ib) (by (apply z21 <;> assumption))
    rw [bey_t, decide_eq_true_iff, show ib + (j - ib) = j by (apply z13 <;> assumption)] at this; exact this
  have g2 : ∀ j, ib + q ≤ j → j < b.size → K a ia ≤ K b j := fun j q1 q2 => by
    have := g2 (j - ib) (by (apply z22 <;> assumption)) (by (apply y57 <;> assumption))
    rw [bey_t, decide_eq_false_iff_not, show ib + (j - ib) = j by (apply z15 <;> assumption)] at this; (apply i1 <;> assumption)
  dsimp only
  by_cases h0 : q > 0
  · rw [if_pos h0]
    have h5 := h3.addB (k := q) fun i q1 q2 q3 j q4 q5 => Int.le_trans (Int.le_of_lt (g1 i q1 q2)) (srtK M.sa q4 q5)
    by_cases he : ib + q = b.size
    · rw [if_pos (beq_iff_eq.mpr he)]
      exact wpS_pure ⟨.refl _, .inl ⟨_, rfl, h5.dn fun i h6 h7 j h8 h9 => by lia⟩⟩
    · rw [if_neg (fun q => he (beq_iff_eq.mp q))]
      exact wp_lo4 M h1 (by (apply y37 <;> assumption)) h5 g2 (by lia)
  · rw [if_neg h0]
    have : q = 0 := by (apply z31 <;> assumption)
    subst this
    exact wp_lo4 M h1 h2 h3 g2 hm
theorem wp_lo2 (M : MP a b) (hk : kindOf st = oneType') (h1 : ia + 1 < a.size) (h2 : ib < b.size) (h3 : MI T out.toList (a.toList.drop ia) (b.toList.drop ib)) (h4 : ∀ j, ia ≤ j → j < a.size → K b ib ≤ K a j) (hm : m ≤ ia + ib + 1) :
    wpS (model prog w) A E s (lo2 a b out ia ib mg k bc) (fun r st' => Sam st st' ∧ P2 T a b m r) st := by
  unfold lo2
  refine wpS_bind (wpS_elem h2 ?_)
  have h5 := h3.pushB h2 h4
  by_cases he : ib + 1 = b.size
  · rw [if_pos (beq_iff_eq.mpr he)]
    exact wpS_pure ⟨.refl _, .inl ⟨_, rfl, h5.dn fun i h6 h7 j h8 h9 => by lia⟩⟩
  · rw [if_neg (fun q => he (beq_iff_eq.mp q))]
    exact wp_lo3 M hk h1 (by (apply z24 <;> assumption)) h5 (by lia)
theorem wp_lo1 (M : MP a b) (hk : kindOf st = oneType') (h1 : ia + 1 < a.size) (h2 : ib < b.size) (h3 : MI T out.toList (a.toList.drop ia) (b.toList.drop ib)) (hm : m ≤ ia + ib + 1) :
    wpS (model prog w) A E s (lo1 a b out ia ib mg ac bc) (fun r st' => Sam st st' ∧ P2 T a b m r) st := by
  unfold lo1
  rw [setMinGallop'_eq]
  refine wpS_bind (wpS_modify (wpS_bind (wpS_elem h2 ?_)))
  have S : Sam st (SortSt.mk' (kindOf st) (arrOf st) (pendingOf st) mg (failedOf st)) := ⟨rfl, rfl, rfl, rfl⟩
  obtain ⟨t, ht⟩ := int_at M.ib h2
  refine wpS_bind (wpS_gallop hk M.ia ht (by (apply z41 <;> assumption)) (by (apply z42 <;> assumption)) (bey_mono M.sa (by (apply z41 <;> assumption))) fun q hq g1 g2 => ?_)
  have g1 : ∀ j, ia ≤ j → j < ia + q → K a j ≤ K b ib := fun j q1 q2 => by
    have := g1 (j - ia) (by (apply z21 <;> assumption))
    rw [bey_f, Bool.not_eq_true', decide_eq_false_iff_not, show ia + (j - ia) = j by (apply z13 <;> assumption)] at this; (apply i1 <;> assumption)
  have g2 : ∀ j, ia + q ≤ j → j < a.size → K b ib ≤ K a j := fun j q1 q2 => by
    have := g2 (j - ia) (by (apply z22 <;> assumption)) (by (apply y57 <;> assumption))
    rw [bey_f, Bool.not_eq_false', decide_eq_true_iff, show ia + (j - ia) = j by (apply z15 <;> assumption)] at this; (apply i2 <;> assumption)
  have hl : ia + q < a.size := by
    rcases Nat.lt_or_ge (ia + q) a.size with z | z
    · exact z
    · have := g1 (a.size - 1) (by (apply y65 <;> assumption)) (by (apply y64 <;> assumption))
      have := M.last ib h2
      lia
  dsimp only
  by_cases h0 : q > 0
  · rw [if_pos h0]
    have h5 := h3.addA (k := q) fun i q1 q2 q3 j q4 q5 => Int.le_trans (g1 i q1 q2) (srtK M.sb q4 q5)
    by_cases he : ia + q + 1 = a.size
    · rw [if_pos (beq_iff_eq.mpr he)]
      refine wpS_pure ⟨S, .inl ⟨_, rfl, h5.lst fun i h6 h7 j h8 h9 => ?_⟩⟩
      have : j = a.size - 1 := by (apply y30 <;> assumption)
      rw [this]; exact Int.le_of_lt (M.last i h7)
    · rw [if_neg (fun q => he (beq_iff_eq.mp q)), if_neg (fun q => absurd (beq_iff_eq.mp q) (Nat.ne_of_lt hl))]
      exact wpS_mono (wp_lo2 M hk (by (apply z24 <;> assumption)) h2 h5 g2 (by lia)) fun r st' z => ⟨S.trans z.1, z.2⟩
  · rw [if_neg h0]
    have : q = 0 := by (apply z31 <;> assumption)
    subst this
    exact wpS_mono (wp_lo2 M hk h1 h2 h3 g2 hm) fun r st' z => ⟨S.trans z.1, z.2⟩
end
end Mine.So

set_option autoImplicit false
set_option linter.unusedVariables false
namespace Mine.So
open PySem PyProof.Rows
section
variable {prog : Program} {w : World} {A : Around} {E : Value → Shared → Prop} {s : Shared} {st : SortSt} {T : List Keyed} {a b : Array Keyed} {m mg : Nat}
theorem Go.lt {out : Array Keyed} {ia ib : Nat} (h : Go T a b m out ia ib) : m < a.size + b.size := by obtain ⟨h1, h2, h3, _⟩ := h; lia
theorem Go.weak {out : Array Keyed} {ia ib m' : Nat} (h : Go T a b m out ia ib) (hm : m' ≤ m) : Go T a b m' out ia ib := ⟨h.1, h.2.1, Nat.le_trans hm h.2.2.1, h.2.2.2⟩
theorem Fn.weak {o : Option (Array Keyed)} {out : Array Keyed} {ia ib m' : Nat} (h : Fn T a b m o out ia ib) (hm : m' ≤ m) : Fn T a b m' o out ia ib := h.imp id fun z => ⟨z.1, z.2.weak hm⟩
theorem wp_loO (M : MP a b) (hk : kindOf st = oneType') {c : S1} (h : Go T a b m c.2.1 c.2.2.1 c.2.2.2.1) :
    wpS (model prog w) A E s (loO a b mg c) (fun r st' => st = st' ∧ P1 T a b (m + 1) r) st := by
  obtain ⟨h1, h2, h3, h4⟩ := h
  unfold loO
  refine wpS_bind (wpS_elem h2 (wpS_bind (wpS_elem (by (apply z04 <;> assumption)) ?_)))
  obtain ⟨t, ht⟩ := int_at M.ib h2
  obtain ⟨u, hu⟩ := int_at M.ia (i := c.2.2.1) (by (apply z04 <;> assumption))
  refine wpS_bind (wpS_lt hk ht hu ?_)
  dsimp only
  by_cases hlt : K b c.2.2.2.1 < K a c.2.2.1
  · rw [if_pos (decide_eq_true hlt)]
    refine wpS_bind (wpS_elem h2 ?_)
    have h5 := h4.pushB h2 fun j q1 q2 => Int.le_trans (Int.le_of_lt hlt) (srtK M.sa q1 q2)
    by_cases he : c.2.2.2.1 + 1 = b.size
    · rw [if_pos (beq_iff_eq.mpr he)]
      exact wpS_pure ⟨rfl, .inl ⟨_, rfl, h5.dn fun i h6 h7 j h8 h9 => by lia⟩⟩
    · rw [if_neg (fun q => he (beq_iff_eq.mp q))]
      have g : Go T a b (m + 1) (c.2.1.push b[c.2.2.2.1]) c.2.2.1 (c.2.2.2.1 + 1) := ⟨h1, by (apply z24 <;> assumption), by lia, h5⟩
      split
      · exact wpS_pure ⟨rfl, .inr ⟨rfl, g⟩⟩
      · exact wpS_pure ⟨rfl, rfl, g⟩
  · rw [if_neg (fun q => hlt (of_decide_eq_true q))]
    refine wpS_bind (wpS_elem (by (apply z04 <;> assumption)) ?_)
    have h5 := h4.pushA (by (apply z04 <;> assumption)) fun j q1 q2 => Int.le_trans (Int.not_lt.mp hlt) (srtK M.sb q1 q2)
    by_cases he : c.2.2.1 + 1 + 1 = a.size
    · rw [if_pos (beq_iff_eq.mpr he)]
      refine wpS_pure ⟨rfl, .inl ⟨_, rfl, h5.lst fun i h6 h7 j h8 h9 => ?_⟩⟩
      have : j = a.size - 1 := by (apply y29 <;> assumption)
      rw [this]; exact Int.le_of_lt (M.last i h7)
    · rw [if_neg (fun q => he (beq_iff_eq.mp q))]
      have g : Go T a b (m + 1) (c.2.1.push a[c.2.2.1]) (c.2.2.1 + 1) c.2.2.2.1 := ⟨by (apply z24 <;> assumption), h2, by lia, h5⟩
      split
      · exact wpS_pure ⟨rfl, .inr ⟨rfl, g⟩⟩
      · exact wpS_pure ⟨rfl, rfl, g⟩
def P0 (T : List Keyed) (a b : Array Keyed) (m : Nat) : ForInStep S0 → Prop
  | .done c => ∃ r, c.1 = some r ∧ Ord T r.toList
  | .yield c => c.1 = none ∧ Go T a b m c.2.1 c.2.2.1 c.2.2.2.1
theorem wp_loT (M : MP a b) (hk : kindOf st = oneType') {c : S0} (h : Go T a b m c.2.1 c.2.2.1 c.2.2.2.1) :
    wpS (model prog w) A E s (loT a b c) (fun r st' => Sam st st' ∧ P0 T a b (m + 1) r) st := by
  unfold loT
  refine wpS_bind (wpS_mono (wpS_forRange (I := fun x d st' => st = st' ∧ d.1 = none ∧ Go T a b (m + x) d.2.1 d.2.2.1 d.2.2.2.1) (Q := fun d st' => st = st' ∧ Fn T a b (m + 1) d.1 d.2.1 d.2.2.1 d.2.2.2.1) ?_ ?_ ⟨rfl, rfl, h⟩) ?_)
  · rintro x d st' _ _ ⟨rfl, q1, q2⟩
    refine wpS_mono (wp_loO M hk q2) fun r st'' z => ?_
    obtain ⟨rfl, z⟩ := z
    cases r with
    | done d' => exact ⟨rfl, Fn.weak z (by lia)⟩
    | yield d' => exact ⟨rfl, z⟩
  · rintro d st' ⟨rfl, q1, q2⟩
    exact absurd q2.lt (by lia)
  · rintro d st' ⟨rfl, q⟩
    obtain ⟨d1, d2⟩ := d
    rcases q with ⟨r, rfl, q⟩ | ⟨rfl, q⟩
    · exact wpS_pure ⟨.refl _, r, rfl, q⟩
    · dsimp only
      refine wpS_bind (wpS_lift (wpAny_rule ⟨rfl, ?_⟩))
      refine wpS_bind (wpS_mono (wpS_forRange (I := fun x e st' => Sam st st' ∧ e.1 = none ∧ Go T a b (m + 1 + x) e.2.1 e.2.2.1 e.2.2.2.1) (Q := fun e st' => Sam st st' ∧ Fn T a b (m + 1) e.1 e.2.1 e.2.2.1 e.2.2.2.1) ?_ ?_ ⟨.refl _, rfl, q⟩) ?_)
      · rintro x e st' _ _ ⟨S, q1, q2⟩
        have hk' := S.kind.trans hk
        obtain ⟨g1, g2, g3, g4⟩ := q2
        have run : wpS (model prog w) A E s (loG a b e) (fun r st'' => Sam st' st'' ∧ P2 T a b (m + 1 + x + 1) r) st' := by
          unfold loG
          split
          · exact wp_lo1 M hk' g1 g2 g4 (by lia)
          · exact wp_lo1 M hk' g1 g2 g4 (by lia)
        refine wpS_mono run fun r st'' z => ?_
        cases r with
        | done c' => exact ⟨S.trans z.1, Fn.weak z.2 (by lia)⟩
        | yield c' => exact ⟨S.trans z.1, z.2⟩
      · rintro e st' ⟨S, q1, q2⟩
        exact absurd q2.lt (by lia)
      · rintro e st' ⟨S, q⟩
        obtain ⟨e1, e2⟩ := e
        rcases q with ⟨r, rfl, q⟩ | ⟨rfl, q⟩
        · exact wpS_pure ⟨S, r, rfl, q⟩
        · dsimp only
          rw [setMinGallop'_eq]
          exact wpS_bind (wpS_modify (wpS_pure ⟨S.trans ⟨rfl, rfl, rfl, rfl⟩, rfl, q⟩))
theorem wpS_mergeLo {Q : Array Keyed → SortSt → Prop} (M : MP a b) (hk : kindOf st = oneType') (ha : 0 < a.size) (hb : 0 < b.size) (h0 : K b 0 ≤ K a 0) (h : ∀ r st', Sam st st' → Ord (a.toList ++ b.toList) r.toList → Q r st') :
    wpS (model prog w) A E s (mergeLo' a b) Q st := by
  rw [mergeLo'_eq]
  refine wpS_bind (wpS_lift (wpAny_rule ⟨rfl, ?_⟩))
  refine wpS_bind (wpS_elem hb ?_)
  have h1 : MI (a.toList ++ b.toList) [] (a.toList.drop 0) (b.toList.drop 0) := ⟨.refl _, .nil, fun u_ z => (nomatch z), fun u_ z => (nomatch z), M.sa, M.sb⟩
  have h2 := MI.pushB (out := #[]) h1 hb fun j q1 q2 => Int.le_trans h0 (srtK M.sa q1 q2)
  by_cases he : 1 = b.size
  · rw [if_pos (beq_iff_eq.mpr he)]
    exact wpS_pure (h _ _ (.refl _) (h2.dn fun i h6 h7 j h8 h9 => by lia))
  · rw [if_neg (fun q => he (beq_iff_eq.mp q))]
    by_cases he2 : 0 + 1 = a.size
    · rw [if_pos (beq_iff_eq.mpr he2)]
      refine wpS_pure (h _ _ (.refl _) (h2.lst fun i h6 h7 j h8 h9 => ?_))
      have : j = a.size - 1 := by (apply y31 <;> assumption)
      rw [this]; exact Int.le_of_lt (M.last i h7)
    · rw [if_neg (fun q => he2 (beq_iff_eq.mp q))]
      refine wpS_bind (wpS_get ?_)
      refine wpS_bind (wpS_mono (wpS_forRange (I := fun x c st' => Sam st st' ∧ c.1 = none ∧ Go (a.toList ++ b.toList) a b x c.2.1 c.2.2.1 c.2.2.2.1) (Q := fun c st' => Sam st st' ∧ ∃ r, c.1 = some r ∧ Ord (a.toList ++ b.toList) r.toList) ?_ ?_ ⟨.refl _, rfl, by show 0 + 1 < a.size; (apply z24 <;> assumption), by show 1 < b.size; (apply z24 <;> assumption), Nat.zero_le _, h2⟩) ?_)
      · rintro x c st' _ _ ⟨S, q1, q2⟩
        refine wpS_mono (wp_loT M (S.kind.trans hk) q2) fun r st'' z => ?_
        cases r with
        | done d' => exact ⟨S.trans z.1, z.2⟩
        | yield d' => exact ⟨S.trans z.1, z.2⟩
      · rintro c st' ⟨S, q1, q2⟩
        exact absurd q2.lt (by lia)
      · rintro c st' ⟨S, r, e, q⟩
        obtain ⟨c1, c2⟩ := c
        cases e
        exact wpS_pure (h r st' S q)
end
end Mine.So

set_option autoImplicit false
set_option linter.unusedVariables false
namespace Mine.So
open PySem PyProof.Rows

def mergeHi' : Array Keyed → Array Keyed → SM (Array Keyed) := sortPriv% PySem.Builtin.mergeHi
abbrev H2 := Option (Array Keyed) × Nat × Nat × Array Keyed × Nat × Nat × Nat
abbrev H1 := Option (Array Keyed) × Nat × Nat × Array Keyed × Nat × Nat
abbrev H0 := Option (Array Keyed) × Nat × Nat × Array Keyed × Nat
section
variable (a b : Array Keyed)
abbrev dh (out : Array Keyed) (na nb : Nat) : Array Keyed := a.extract 0 na ++ b.extract 0 nb ++ out.reverse
abbrev fb (out : Array Keyed) (na nb : Nat) : Array Keyed := b.extract 0 nb ++ a.extract 0 na ++ out.reverse
def hi4 (na nb : Nat) (out : Array Keyed) (mg k k2 : Nat) : SM (ForInStep H2) := do
  let x ← elem' a (na - 1)
  if (na - 1 == 0) = true then pure (.done (some (dh a b (out.push x) (na - 1) nb), na - 1, nb, out.push x, mg, k, k2))
  else if (decide (k < 7) && decide (k2 < 7)) = true then pure (.done (none, na - 1, nb, out.push x, mg, k, k2))
  else pure (.yield (none, na - 1, nb, out.push x, mg, k, k2))
def hi3 (na nb : Nat) (out : Array Keyed) (mg k bc : Nat) : SM (ForInStep H2) := do
  let x ← elem' a (na - 1)
  let r ← gallop' true x b 0 nb (nb - 1)
  match r with
  | some at_ =>
    if nb - at_ > 0 then
      if (at_ == 1) = true then pure (.done (some (fb a b (out ++ (b.extract at_ nb).reverse) na at_), na, at_, out ++ (b.extract at_ nb).reverse, mg, k, nb - at_))
      else if (at_ == 0) = true then pure (.done (some (dh a b (out ++ (b.extract at_ nb).reverse) na at_), na, at_, out ++ (b.extract at_ nb).reverse, mg, k, nb - at_))
      else hi4 a b na at_ (out ++ (b.extract at_ nb).reverse) mg k (nb - at_)
    else hi4 a b na nb out mg k (nb - at_)
  | _ => pure (.done (some (dh a b out na nb), na, nb, out, mg, k, bc))
def hi2 (na nb : Nat) (out : Array Keyed) (mg k bc : Nat) : SM (ForInStep H2) := do
  let x ← elem' b (nb - 1)
  if (nb - 1 == 1) = true then pure (.done (some (fb a b (out.push x) na (nb - 1)), na, nb - 1, out.push x, mg, k, bc))
  else hi3 a b na (nb - 1) (out.push x) mg k bc
def hi1 (na nb : Nat) (out : Array Keyed) (mg ac bc : Nat) : SM (ForInStep H2) := do
  setMinGallop' mg
  let y ← elem' b (nb - 1)
  let r ← gallop' false y a 0 na (na - 1)
  match r with
  | some at_ =>
    if na - at_ > 0 then
      if (at_ == 0) = true then pure (.done (some (dh a b (out ++ (a.extract at_ na).reverse) at_ nb), at_, nb, out ++ (a.extract at_ na).reverse, mg, na - at_, bc))
      else hi2 a b at_ nb (out ++ (a.extract at_ na).reverse) mg (na - at_) bc
    else hi2 a b na nb out mg (na - at_) bc
  | _ => pure (.done (some (dh a b out na nb), na, nb, out, mg, ac, bc))
def hiG (c : H2) : SM (ForInStep H2) :=
  if c.2.2.2.2.1 > 1 then hi1 a b c.2.1 c.2.2.1 c.2.2.2.1 (c.2.2.2.2.1 - 1) c.2.2.2.2.2.1 c.2.2.2.2.2.2 else hi1 a b c.2.1 c.2.2.1 c.2.2.2.1 c.2.2.2.2.1 c.2.2.2.2.2.1 c.2.2.2.2.2.2
def hiO (mg : Nat) (c : H1) : SM (ForInStep H1) := do
  let y ← elem' b (c.2.2.1 - 1)
  let x ← elem' a (c.2.1 - 1)
  let r ← lt' y x
  match r with
  | some aWins =>
    if aWins = true then do
      let x ← elem' a (c.2.1 - 1)
      if (c.2.1 - 1 == 0) = true then pure (.done (some (dh a b (c.2.2.2.1.push x) (c.2.1 - 1) c.2.2.1), c.2.1 - 1, c.2.2.1, c.2.2.2.1.push x, c.2.2.2.2.1 + 1, 0))
      else if c.2.2.2.2.1 + 1 ≥ mg then pure (.done (none, c.2.1 - 1, c.2.2.1, c.2.2.2.1.push x, c.2.2.2.2.1 + 1, 0))
      else pure (.yield (none, c.2.1 - 1, c.2.2.1, c.2.2.2.1.push x, c.2.2.2.2.1 + 1, 0))
    else do
      let y ← elem' b (c.2.2.1 - 1)
      if (c.2.2.1 - 1 == 1) = true then pure (.done (some (fb a b (c.2.2.2.1.push y) c.2.1 (c.2.2.1 - 1)), c.2.1, c.2.2.1 - 1, c.2.2.2.1.push y, 0, c.2.2.2.2.2 + 1))
      else if c.2.2.2.2.2 + 1 ≥ mg then pure (.done (none, c.2.1, c.2.2.1 - 1, c.2.2.2.1.push y, 0, c.2.2.2.2.2 + 1))
      else pure (.yield (none, c.2.1, c.2.2.1 - 1, c.2.2.2.1.push y, 0, c.2.2.2.2.2 + 1))
  | _ => pure (.done (some (dh a b c.2.2.2.1 c.2.1 c.2.2.1), c.2.1, c.2.2.1, c.2.2.2.1, c.2.2.2.2.1, c.2.2.2.2.2))
def hiT (c : H0) : SM (ForInStep H0) := do
  let d ← forIn [0:a.size + b.size] ((none, c.2.1, c.2.2.1, c.2.2.2.1, 0, 0) : H1) fun u_ d => hiO a b c.2.2.2.2 d
  match d.1 with
  | some r => pure (.done (some r, d.2.1, d.2.2.1, d.2.2.2.1, c.2.2.2.2))
  | none => do
    liftM (rule "list.sort.gallop")
    let e ← forIn [0:a.size + b.size] ((none, d.2.1, d.2.2.1, d.2.2.2.1, c.2.2.2.2 + 1, d.2.2.2.2.1, d.2.2.2.2.2) : H2) fun u_ e => hiG a b e
    match e.1 with
    | some r => pure (.done (some r, e.2.1, e.2.2.1, e.2.2.2.1, e.2.2.2.2.1))
    | none => do
      setMinGallop' (e.2.2.2.2.1 + 1)
      pure (.yield (none, e.2.1, e.2.2.1, e.2.2.2.1, e.2.2.2.2.1 + 1))
theorem mergeHi'_eq : mergeHi' a b = (do
  liftM (rule "list.sort.merge-hi")
  let x ← elem' a (a.size - 1)
  if (a.size - 1 == 0) = true then pure (dh a b #[x] (a.size - 1) b.size)
  else if (b.size == 1) = true then pure (fb a b #[x] (a.size - 1) b.size)
  else do
    let st ← get
    let c ← forIn [0:a.size + b.size] ((none, a.size - 1, b.size, #[x], gallopOf st) : H0) fun u_ c => hiT a b c
    match c.1 with
    | some r => pure r
    | none => unsupported "internal:list.sort.merge-bound") := by
  kernel_rfl
end
end Mine.So

set_option autoImplicit false
set_option linter.unusedVariables false
namespace Mine.So
open PySem PyProof.Rows
section
variable {T : List Keyed} {a b out : Array Keyed} {na nb k : Nat}
theorem memTk {a : Array Keyed} {n : Nat} {x : Keyed} (h : x ∈ a.toList.take n) : ∃ j, j < n ∧ j < a.size ∧ kv x = K a j := by
  obtain ⟨j, hj, e⟩ := List.mem_iff_getElem.mp h
  rw [List.getElem_take] at e
  rw [List.length_take, Array.length_toList] at hj
  have hl : j < a.size := by (apply y10 <;> assumption)
  exact ⟨j, by (apply y09 <;> assumption), hl, by rw [← e]; exact kvK hl⟩
theorem take_at {a : Array Keyed} {n : Nat} (h1 : 1 ≤ n) (h : n - 1 < a.size) : a.toList.take n = a.toList.take (n - 1) ++ [a[n - 1]] := by
  have := List.take_concat_get (l := a.toList) (i := n - 1) (by rw [Array.length_toList]; exact h)
  rw [show n - 1 + 1 = n by (apply y25 <;> assumption), List.concat_eq_append] at this
  exact this.symm
theorem take_ext {a : Array Keyed} {n k : Nat} (h : k ≤ n) : a.toList.take n = a.toList.take k ++ (a.extract k n).toList := by
  rw [Array.toList_extract, List.extract_eq_take_drop, ← List.take_add, show k + (n - k) = n by (apply z13 <;> assumption)]
theorem ext0 {a : Array Keyed} {n : Nat} : (a.extract 0 n).toList = a.toList.take n := by rw [Array.toList_extract, List.extract_eq_take_drop, List.drop_zero, Nat.sub_zero]
theorem memX {a : Array Keyed} {n k : Nat} {x : Keyed} (h : x ∈ (a.extract k n).toList) : ∃ j, k ≤ j ∧ j < n ∧ j < a.size ∧ kv x = K a j := by
  rw [Array.toList_extract, List.extract_eq_take_drop] at h
  obtain ⟨j, h1, h2, h3, e⟩ := memT h
  exact ⟨j, h1, by lia, h3, e⟩
theorem MJ.pushA (h : MJ T out.toList.reverse (a.toList.take na) (b.toList.take nb)) (h1 : 1 ≤ na) (ha : na - 1 < a.size) (hle : ∀ j, j < nb → j < b.size → K b j ≤ K a (na - 1)) : MJ T (out.push a[na - 1]).toList.reverse (a.toList.take (na - 1)) (b.toList.take nb) := by
  rw [take_at h1 ha] at h
  rw [Array.toList_push, List.reverse_append]
  exact h.takeA fun u hu x hx => by
    obtain ⟨j, h1, h2, e⟩ := memTk hx
    rw [List.mem_singleton.mp hu, kvK ha, e]; exact hle j h1 h2
theorem MJ.pushB (h : MJ T out.toList.reverse (a.toList.take na) (b.toList.take nb)) (h1 : 1 ≤ nb) (hb : nb - 1 < b.size) (hle : ∀ j, j < na → j < a.size → K a j ≤ K b (nb - 1)) : MJ T (out.push b[nb - 1]).toList.reverse (a.toList.take na) (b.toList.take (nb - 1)) := by
  rw [take_at h1 hb] at h
  rw [Array.toList_push, List.reverse_append]
  exact h.takeB fun u hu x hx => by
    obtain ⟨j, h1, h2, e⟩ := memTk hx
    rw [List.mem_singleton.mp hu, kvK hb, e]; exact hle j h1 h2
theorem rev_add {out x : Array Keyed} : (out ++ x.reverse).toList.reverse = x.toList ++ out.toList.reverse := by
  rw [Array.toList_append, Array.toList_reverse, List.reverse_append, List.reverse_reverse]
theorem MJ.addA (h : MJ T out.toList.reverse (a.toList.take na) (b.toList.take nb)) (hk : k ≤ na) (hle : ∀ i, k ≤ i → i < na → i < a.size → ∀ j, j < nb → j < b.size → K b j ≤ K a i) : MJ T (out ++ (a.extract k na).reverse).toList.reverse (a.toList.take k) (b.toList.take nb) := by
  rw [take_ext hk] at h
  rw [rev_add]
  exact h.takeA fun u hu x hx => by
    obtain ⟨i, h1, h2, h3, e⟩ := memX hu
    obtain ⟨j, h4, h5, e2⟩ := memTk hx
    rw [e, e2]; exact hle i h1 h2 h3 j h4 h5
theorem MJ.addB (h : MJ T out.toList.reverse (a.toList.take na) (b.toList.take nb)) (hk : k ≤ nb) (hle : ∀ i, k ≤ i → i < nb → i < b.size → ∀ j, j < na → j < a.size → K a j ≤ K b i) : MJ T (out ++ (b.extract k nb).reverse).toList.reverse (a.toList.take na) (b.toList.take k) := by
  rw [take_ext hk] at h
  rw [rev_add]
  exact h.takeB fun u hu x hx => by
    obtain ⟨i, h1, h2, h3, e⟩ := memX hu
    obtain ⟨j, h4, h5, e2⟩ := memTk hx
    rw [e, e2]; exact hle i h1 h2 h3 j h4 h5
theorem MJ.dn (h : MJ T out.toList.reverse (a.toList.take na) (b.toList.take nb)) (hle : ∀ i, i < na → i < a.size → ∀ j, j < nb → j < b.size → K a i ≤ K b j) : Ord T (dh a b out na nb).toList := by
  unfold dh
  rw [Array.toList_append, Array.toList_append, ext0, ext0, Array.toList_reverse]
  exact h.endA fun x hx y hy => by
    obtain ⟨i, h1, h2, e⟩ := memTk hx
    obtain ⟨j, h4, h5, e2⟩ := memTk hy
    rw [e, e2]; exact hle i h1 h2 j h4 h5
theorem MJ.fst (h : MJ T out.toList.reverse (a.toList.take na) (b.toList.take nb)) (hle : ∀ i, i < nb → i < b.size → ∀ j, j < na → j < a.size → K b i ≤ K a j) : Ord T (fb a b out na nb).toList := by
  unfold fb
  rw [Array.toList_append, Array.toList_append, ext0, ext0, Array.toList_reverse]
  exact h.endB fun x hx y hy => by
    obtain ⟨i, h1, h2, e⟩ := memTk hx
    obtain ⟨j, h4, h5, e2⟩ := memTk hy
    rw [e, e2]; exact hle i h1 h2 j h4 h5
structure NP (a b : Array Keyed) : Prop where
  ia : IntKeys a
  ib : IntKeys b
  sa : Srt a.toList
  sb : Srt b.toList
  first : ∀ j, j < a.size → K b 0 < K a j
def Gh (T : List Keyed) (a b : Array Keyed) (m : Nat) (na nb : Nat) (out : Array Keyed) : Prop := (1 ≤ na ∧ na ≤ a.size) ∧ (2 ≤ nb ∧ nb ≤ b.size) ∧ na + nb + m ≤ a.size + b.size ∧ MJ T out.toList.reverse (a.toList.take na) (b.toList.take nb)
def Fh (T : List Keyed) (a b : Array Keyed) (m : Nat) (o : Option (Array Keyed)) (na nb : Nat) (out : Array Keyed) : Prop := (∃ r, o = some r ∧ Ord T r.toList) ∨ (o = none ∧ Gh T a b m na nb out)
def Q2 (T : List Keyed) (a b : Array Keyed) (m : Nat) : ForInStep H2 → Prop
  | .done c => Fh T a b m c.1 c.2.1 c.2.2.1 c.2.2.2.1
  | .yield c => c.1 = none ∧ Gh T a b m c.2.1 c.2.2.1 c.2.2.2.1
def Q1 (T : List Keyed) (a b : Array Keyed) (m : Nat) : ForInStep H1 → Prop
  | .done c => Fh T a b m c.1 c.2.1 c.2.2.1 c.2.2.2.1
  | .yield c => c.1 = none ∧ Gh T a b m c.2.1 c.2.2.1 c.2.2.2.1
end
section
variable {prog : Program} {w : World} {A : Around} {E : Value → Shared → Prop} {s : Shared} {st : SortSt} {T : List Keyed} {a b out : Array Keyed} {na nb m mg k k2 ac bc : Nat}
theorem wp_hi4 (M : NP a b) (h1 : 1 ≤ na) (h1' : na ≤ a.size) (h2 : 2 ≤ nb) (h2' : nb ≤ b.size) (h3 : MJ T out.toList.reverse (a.toList.take na) (b.toList.take nb)) (h4 : ∀ j, j < nb → j < b.size → K b j ≤ K a (na - 1)) (hm : na + nb + m ≤ a.size + b.size + 1) :
    wpS (model prog w) A E s (hi4 a b na nb out mg k k2) (fun r st' => Sam st st' ∧ Q2 T a b m r) st := by
  unfold hi4
  refine wpS_bind (wpS_elem (by (apply z17 <;> assumption)) ?_)
  have h5 := h3.pushA h1 (by (apply z17 <;> assumption)) h4
  by_cases he : na - 1 = 0
  · rw [if_pos (beq_iff_eq.mpr he)]
    exact wpS_pure ⟨.refl _, .inl ⟨_, rfl, h5.dn fun i h6 h7 j h8 h9 => by lia⟩⟩
  · rw [if_neg (fun q => he (beq_iff_eq.mp q))]
    have g : Gh T a b m (na - 1) nb (out.push a[na - 1]) := ⟨by (apply y17 <;> assumption), by lia, by lia, h5⟩
    split
    · exact wpS_pure ⟨.refl _, .inr ⟨rfl, g⟩⟩
    · exact wpS_pure ⟨.refl _, rfl, g⟩
theorem wp_hi3 (M : NP a b) (hk : kindOf st = oneType') (h1 : 1 ≤ na) (h1' : na ≤ a.size) (h2 : 2 ≤ nb) (h2' : nb ≤ b.size) (h3 : MJ T out.toList.reverse (a.toList.take na) (b.toList.take nb)) (hm : na + nb + m ≤ a.size + b.size + 1) :
    wpS (model prog w) A E s (hi3 a b na nb out mg k bc) (fun r st' => Sam st st' ∧ Q2 T a b m r) st := by
  unfold hi3
  refine wpS_bind (wpS_elem (by (apply z17 <;> assumption)) ?_)
  obtain ⟨t, ht⟩ := int_at M.ia (i := na - 1) (by (apply z17 <;> assumption))
  refine wpS_bind (wpS_gallop hk M.ib ht (by (apply z45 <;> assumption)) (by (apply z48 <;> assumption)) (bey_mono M.sb (by (apply z45 <;> assumption))) fun q hq g1 g2 => ?_)
  have g1 : ∀ j, j < q → K b j < K a (na - 1) := fun j q1 => by
    have := g1 j q1
    rw [bey_t, decide_eq_true_iff, Nat.zero_add] at this; exact this
  have g2 : ∀ j, q ≤ j → j < nb → K a (na - 1) ≤ K b j := fun j q1 q2 => by
    have := g2 j q1 q2
    rw [bey_t, decide_eq_false_iff_not, Nat.zero_add] at this; (apply i1 <;> assumption)
  have hq1 : 1 ≤ q := by
    rcases Nat.eq_zero_or_pos q with z | z
    · have := g2 0 (by (apply z05 <;> assumption)) (by (apply z04 <;> assumption))
      have := M.first (na - 1) (by (apply z17 <;> assumption))
      lia
    · exact z
  dsimp only
  by_cases h0 : nb - q > 0
  · rw [if_pos h0]
    have h5 := h3.addB (k := q) (by assumption) fun i q1 q2 q3 j q4 q5 => Int.le_trans (srtK M.sa (show j ≤ na - 1 by (apply z23 <;> assumption)) (by (apply z17 <;> assumption))) (g2 i q1 q2)
    by_cases he : q = 1
    · rw [if_pos (beq_iff_eq.mpr he)]
      refine wpS_pure ⟨.refl _, .inl ⟨_, rfl, h5.fst fun i h6 h7 j h8 h9 => ?_⟩⟩
      have : i = 0 := by lia
      rw [this]; exact Int.le_of_lt (M.first j h9)
    · rw [if_neg (fun q => he (beq_iff_eq.mp q)), if_neg (fun z => absurd (beq_iff_eq.mp z) (Nat.ne_of_gt hq1))]
      exact wp_hi4 M h1 h1' (by lia) (by (apply z09 <;> assumption)) h5 (fun j q1 q2 => Int.le_of_lt (g1 j q1)) (by (apply y42 <;> assumption))
  · rw [if_neg h0]
    exact wp_hi4 M h1 h1' h2 h2' h3 (fun j q1 q2 => Int.le_of_lt (g1 j (by (apply y36 <;> assumption)))) hm
theorem wp_hi2 (M : NP a b) (hk : kindOf st = oneType') (h1 : 1 ≤ na) (h1' : na ≤ a.size) (h2 : 2 ≤ nb) (h2' : nb ≤ b.size) (h3 : MJ T out.toList.reverse (a.toList.take na) (b.toList.take nb)) (h4 : ∀ j, j < na → j < a.size → K a j ≤ K b (nb - 1)) (hm : na + nb + m ≤ a.size + b.size + 1) :
    wpS (model prog w) A E s (hi2 a b na nb out mg k bc) (fun r st' => Sam st st' ∧ Q2 T a b m r) st := by
  unfold hi2
  refine wpS_bind (wpS_elem (by (apply z18 <;> assumption)) ?_)
  have h5 := h3.pushB (by (apply z04 <;> assumption)) (by (apply z18 <;> assumption)) h4
  by_cases he : nb - 1 = 1
  · rw [if_pos (beq_iff_eq.mpr he)]
    refine wpS_pure ⟨.refl _, .inl ⟨_, rfl, h5.fst fun i h6 h7 j h8 h9 => ?_⟩⟩
    have : i = 0 := by lia
    rw [this]; exact Int.le_of_lt (M.first j h9)
  · rw [if_neg (fun q => he (beq_iff_eq.mp q))]
    exact wp_hi3 M hk h1 h1' (by (apply y19 <;> assumption)) (by (apply y21 <;> assumption)) h5 (by (apply y43 <;> assumption))
theorem wp_hi1 (M : NP a b) (hk : kindOf st = oneType') (h1 : 1 ≤ na) (h1' : na ≤ a.size) (h2 : 2 ≤ nb) (h2' : nb ≤ b.size) (h3 : MJ T out.toList.reverse (a.toList.take na) (b.toList.take nb)) (hm : na + nb + m ≤ a.size + b.size + 1) :
    wpS (model prog w) A E s (hi1 a b na nb out mg ac bc) (fun r st' => Sam st st' ∧ Q2 T a b m r) st := by
  unfold hi1
  rw [setMinGallop'_eq]
  refine wpS_bind (wpS_modify (wpS_bind (wpS_elem (by (apply z18 <;> assumption)) ?_)))
  have S : Sam st (SortSt.mk' (kindOf st) (arrOf st) (pendingOf st) mg (failedOf st)) := ⟨rfl, rfl, rfl, rfl⟩
  obtain ⟨t, ht⟩ := int_at M.ib (i := nb - 1) (by (apply z18 <;> assumption))
  refine wpS_bind (wpS_gallop hk M.ia ht (by (apply z45 <;> assumption)) (by (apply z16 <;> assumption)) (bey_mono M.sa (by (apply z45 <;> assumption))) fun q hq g1 g2 => ?_)
  have g1 : ∀ j, j < q → K a j ≤ K b (nb - 1) := fun j q1 => by
    have := g1 j q1
    rw [bey_f, Bool.not_eq_true', decide_eq_false_iff_not, Nat.zero_add] at this; (apply i1 <;> assumption)
  have g2 : ∀ j, q ≤ j → j < na → K b (nb - 1) ≤ K a j := fun j q1 q2 => by
    have := g2 j q1 q2
    rw [bey_f, Bool.not_eq_false', decide_eq_true_iff, Nat.zero_add] at this; (apply i2 <;> assumption)
  dsimp only
  by_cases h0 : na - q > 0
  · rw [if_pos h0]
    have h5 := h3.addA (k := q) (by assumption) fun i q1 q2 q3 j q4 q5 => Int.le_trans (srtK M.sb (show j ≤ nb - 1 by (apply z23 <;> assumption)) (by (apply z18 <;> assumption))) (g2 i q1 q2)
    by_cases he : q = 0
    · rw [if_pos (beq_iff_eq.mpr he)]
      exact wpS_pure ⟨S, .inl ⟨_, rfl, h5.dn fun i h6 h7 j h8 h9 => by lia⟩⟩
    · rw [if_neg (fun q => he (beq_iff_eq.mp q))]
      exact wpS_mono (wp_hi2 M hk (by (apply z30 <;> assumption)) (by (apply z09 <;> assumption)) h2 h2' h5 (fun j q1 q2 => g1 j q1) (by (apply y41 <;> assumption))) fun r st' z => ⟨S.trans z.1, z.2⟩
  · rw [if_neg h0]
    exact wpS_mono (wp_hi2 M hk h1 h1' h2 h2' h3 (fun j q1 q2 => g1 j (by (apply y36 <;> assumption))) hm) fun r st' z => ⟨S.trans z.1, z.2⟩
theorem Gh.lt {out : Array Keyed} {na nb : Nat} (h : Gh T a b m na nb out) : m < a.size + b.size := by obtain ⟨h1, h2, h3, _⟩ := h; lia
theorem Gh.weak {out : Array Keyed} {na nb m' : Nat} (h : Gh T a b m na nb out) (hm : m' ≤ m) : Gh T a b m' na nb out := ⟨h.1, h.2.1, by have := h.2.2.1; (apply z11 <;> assumption), h.2.2.2⟩
theorem Fh.weak {o : Option (Array Keyed)} {out : Array Keyed} {na nb m' : Nat} (h : Fh T a b m o na nb out) (hm : m' ≤ m) : Fh T a b m' o na nb out := h.imp id fun z => ⟨z.1, z.2.weak hm⟩
theorem wp_hiO (M : NP a b) (hk : kindOf st = oneType') {c : H1} (h : Gh T a b m c.2.1 c.2.2.1 c.2.2.2.1) :
    wpS (model prog w) A E s (hiO a b mg c) (fun r st' => st = st' ∧ Q1 T a b (m + 1) r) st := by
  obtain ⟨h1, h2, h3, h4⟩ := h
  unfold hiO
  refine wpS_bind (wpS_elem (by (apply z20 <;> assumption)) (wpS_bind (wpS_elem (by (apply z19 <;> assumption)) ?_)))
  obtain ⟨t, ht⟩ := int_at M.ib (i := c.2.2.1 - 1) (by (apply z20 <;> assumption))
  obtain ⟨u, hu⟩ := int_at M.ia (i := c.2.1 - 1) (by (apply z19 <;> assumption))
  refine wpS_bind (wpS_lt hk ht hu ?_)
  dsimp only
  by_cases hlt : K b (c.2.2.1 - 1) < K a (c.2.1 - 1)
  · rw [if_pos (decide_eq_true hlt)]
    refine wpS_bind (wpS_elem (by (apply z19 <;> assumption)) ?_)
    have h5 := h4.pushA h1.1 (by (apply z19 <;> assumption)) fun j q1 q2 => Int.le_trans (srtK M.sb (show j ≤ c.2.2.1 - 1 by (apply z23 <;> assumption)) (by (apply z20 <;> assumption))) (Int.le_of_lt hlt)
    by_cases he : c.2.1 - 1 = 0
    · rw [if_pos (beq_iff_eq.mpr he)]
      exact wpS_pure ⟨rfl, .inl ⟨_, rfl, h5.dn fun i h6 h7 j h8 h9 => by lia⟩⟩
    · rw [if_neg (fun q => he (beq_iff_eq.mp q))]
      have g : Gh T a b (m + 1) (c.2.1 - 1) c.2.2.1 (c.2.2.2.1.push a[c.2.1 - 1]) := ⟨by (apply y18 <;> assumption), h2, by lia, h5⟩
      split
      · exact wpS_pure ⟨rfl, .inr ⟨rfl, g⟩⟩
      · exact wpS_pure ⟨rfl, rfl, g⟩
  · rw [if_neg (fun q => hlt (of_decide_eq_true q))]
    refine wpS_bind (wpS_elem (by (apply z20 <;> assumption)) ?_)
    have h5 := h4.pushB (by (apply z36 <;> assumption)) (by (apply z20 <;> assumption)) fun j q1 q2 => Int.le_trans (srtK M.sa (show j ≤ c.2.1 - 1 by (apply z23 <;> assumption)) (by (apply z19 <;> assumption))) (Int.not_lt.mp hlt)
    by_cases he : c.2.2.1 - 1 = 1
    · rw [if_pos (beq_iff_eq.mpr he)]
      refine wpS_pure ⟨rfl, .inl ⟨_, rfl, h5.fst fun i h6 h7 j h8 h9 => ?_⟩⟩
      have : i = 0 := by lia
      rw [this]; exact Int.le_of_lt (M.first j h9)
    · rw [if_neg (fun q => he (beq_iff_eq.mp q))]
      have g : Gh T a b (m + 1) c.2.1 (c.2.2.1 - 1) (c.2.2.2.1.push b[c.2.2.1 - 1]) := ⟨h1, by (apply y20 <;> assumption), by lia, h5⟩
      split
      · exact wpS_pure ⟨rfl, .inr ⟨rfl, g⟩⟩
      · exact wpS_pure ⟨rfl, rfl, g⟩
def Q0 (T : List Keyed) (a b : Array Keyed) (m : Nat) : ForInStep H0 → Prop
  | .done c => ∃ r, c.1 = some r ∧ Ord T r.toList
  | .yield c => c.1 = none ∧ Gh T a b m c.2.1 c.2.2.1 c.2.2.2.1
theorem wp_hiT (M : NP a b) (hk : kindOf st = oneType') {c : H0} (h : Gh T a b m c.2.1 c.2.2.1 c.2.2.2.1) :
    wpS (model prog w) A E s (hiT a b c) (fun r st' => Sam st st' ∧ Q0 T a b (m + 1) r) st := by
  unfold hiT
  refine wpS_bind (wpS_mono (wpS_forRange (I := fun x d st' => st = st' ∧ d.1 = none ∧ Gh T a b (m + x) d.2.1 d.2.2.1 d.2.2.2.1) (Q := fun d st' => st = st' ∧ Fh T a b (m + 1) d.1 d.2.1 d.2.2.1 d.2.2.2.1) ?_ ?_ ⟨rfl, rfl, h⟩) ?_)
  · rintro x d st' _ _ ⟨rfl, q1, q2⟩
    refine wpS_mono (wp_hiO M hk q2) fun r st'' z => ?_
    obtain ⟨rfl, z⟩ := z
    cases r with
    | done d' => exact ⟨rfl, Fh.weak z (by lia)⟩
    | yield d' => exact ⟨rfl, z⟩
  · rintro d st' ⟨rfl, q1, q2⟩
    exact absurd q2.lt (by lia)
  · rintro d st' ⟨rfl, q⟩
    obtain ⟨d1, d2⟩ := d
    rcases q with ⟨r, rfl, q⟩ | ⟨rfl, q⟩
    · exact wpS_pure ⟨.refl _, r, rfl, q⟩
    · dsimp only
      refine wpS_bind (wpS_lift (wpAny_rule ⟨rfl, ?_⟩))
      refine wpS_bind (wpS_mono (wpS_forRange (I := fun x e st' => Sam st st' ∧ e.1 = none ∧ Gh T a b (m + 1 + x) e.2.1 e.2.2.1 e.2.2.2.1) (Q := fun e st' => Sam st st' ∧ Fh T a b (m + 1) e.1 e.2.1 e.2.2.1 e.2.2.2.1) ?_ ?_ ⟨.refl _, rfl, q⟩) ?_)
      · rintro x e st' _ _ ⟨S, q1, q2⟩
        have hk' := S.kind.trans hk
        obtain ⟨g1, g2, g3, g4⟩ := q2
        have run : wpS (model prog w) A E s (hiG a b e) (fun r st'' => Sam st' st'' ∧ Q2 T a b (m + 1 + x + 1) r) st' := by
          unfold hiG
          split
          · exact wp_hi1 M hk' g1.1 g1.2 g2.1 g2.2 g4 (by lia)
          · exact wp_hi1 M hk' g1.1 g1.2 g2.1 g2.2 g4 (by lia)
        refine wpS_mono run fun r st'' z => ?_
        cases r with
        | done c' => exact ⟨S.trans z.1, Fh.weak z.2 (by lia)⟩
        | yield c' => exact ⟨S.trans z.1, z.2⟩
      · rintro e st' ⟨S, q1, q2⟩
        exact absurd q2.lt (by lia)
      · rintro e st' ⟨S, q⟩
        obtain ⟨e1, e2⟩ := e
        rcases q with ⟨r, rfl, q⟩ | ⟨rfl, q⟩
        · exact wpS_pure ⟨S, r, rfl, q⟩
        · dsimp only
          rw [setMinGallop'_eq]
          exact wpS_bind (wpS_modify (wpS_pure ⟨S.trans ⟨rfl, rfl, rfl, rfl⟩, rfl, q⟩))
theorem wpS_mergeHi {Q : Array Keyed → SortSt → Prop} (M : NP a b) (hk : kindOf st = oneType') (ha : 0 < a.size) (hb : 0 < b.size) (h0 : K b (b.size - 1) ≤ K a (a.size - 1)) (h : ∀ r st', Sam st st' → Ord (a.toList ++ b.toList) r.toList → Q r st') :
    wpS (model prog w) A E s (mergeHi' a b) Q st := by
  rw [mergeHi'_eq]
  refine wpS_bind (wpS_lift (wpAny_rule ⟨rfl, ?_⟩))
  refine wpS_bind (wpS_elem (by (apply z16 <;> assumption)) ?_)
  have h1 : MJ (a.toList ++ b.toList) (#[] : Array Keyed).toList.reverse (a.toList.take a.size) (b.toList.take b.size) := by
    rw [List.take_of_length_le (by rw [Array.length_toList]; exact Nat.le_refl _), List.take_of_length_le (by rw [Array.length_toList]; exact Nat.le_refl _)]
    exact ⟨by rw [show (#[] : Array Keyed).toList.reverse = [] from rfl, List.append_nil], .nil, fun u_ u_ u_ z => (nomatch z), fun u_ u_ u_ z => (nomatch z), M.sa, M.sb⟩
  have h2 := h1.pushA (by assumption) (by (apply z16 <;> assumption)) fun j q1 q2 => Int.le_trans (srtK M.sb (show j ≤ b.size - 1 by (apply z23 <;> assumption)) (by (apply z16 <;> assumption))) h0
  by_cases he : a.size - 1 = 0
  · rw [if_pos (beq_iff_eq.mpr he)]
    exact wpS_pure (h _ _ (.refl _) (h2.dn fun i h6 h7 j h8 h9 => by lia))
  · rw [if_neg (fun q => he (beq_iff_eq.mp q))]
    by_cases he2 : b.size = 1
    · rw [if_pos (beq_iff_eq.mpr he2)]
      refine wpS_pure (h _ _ (.refl _) (h2.fst fun i h6 h7 j h8 h9 => ?_))
      have : i = 0 := by lia
      rw [this]; exact Int.le_of_lt (M.first j h9)
    · rw [if_neg (fun q => he2 (beq_iff_eq.mp q))]
      refine wpS_bind (wpS_get ?_)
      have g : Gh (a.toList ++ b.toList) a b 0 (a.size - 1) b.size (#[].push a[a.size - 1]) := ⟨by lia, by lia, by lia, h2⟩
      refine wpS_bind (wpS_mono (wpS_forRange (I := fun x c st' => Sam st st' ∧ c.1 = none ∧ Gh (a.toList ++ b.toList) a b x c.2.1 c.2.2.1 c.2.2.2.1) (Q := fun c st' => Sam st st' ∧ ∃ r, c.1 = some r ∧ Ord (a.toList ++ b.toList) r.toList) ?_ ?_ ⟨.refl _, rfl, g⟩) ?_)
      · rintro x c st' _ _ ⟨S, q1, q2⟩
        refine wpS_mono (wp_hiT M (S.kind.trans hk) q2) fun r st'' z => ?_
        cases r with
        | done d' => exact ⟨S.trans z.1, z.2⟩
        | yield d' => exact ⟨S.trans z.1, z.2⟩
      · rintro c st' ⟨S, q1, q2⟩
        exact absurd q2.lt (by lia)
      · rintro c st' ⟨S, r, e, q⟩
        obtain ⟨c1, c2⟩ := c
        cases e
        exact wpS_pure (h r st' S q)
end
end Mine.So

set_option autoImplicit false
set_option linter.unusedVariables false
namespace Mine.So
open PySem PyProof.Rows

structure SL (a₀ b : Array Keyed) (lo : Nat) (p : Array (Nat × Nat × Nat)) (st : SortSt) : Prop where
  perm : (arrOf st).Perm a₀
  kind : kindOf st = oneType'
  failed : failedOf st = none
  pend : pendingOf st = p
  pre : ∀ i, i < lo → (arrOf st)[i]? = b[i]?
def Seg (xs : Array Keyed) (lo k : Nat) : Prop := ∀ i j, i ≤ j → j < k → K xs (lo + i) ≤ K xs (lo + j)
def Neg (xs : Array Keyed) (lo k : Nat) : Prop := ∀ i j, i ≤ j → j < k → K xs (lo + j) ≤ K xs (lo + i)
section
variable {a₀ b : Array Keyed} {lo : Nat} {p : Array (Nat × Nat × Nat)} {st : SortSt}
theorem SL.size (h : SL a₀ b lo p st) : (arrOf st).size = a₀.size := h.perm.size_eq
theorem SL.setArr (h : SL a₀ b lo p st) {xs : Array Keyed} (hp : xs.Perm (arrOf st)) (he : ∀ i, i < lo → xs[i]? = (arrOf st)[i]?) : SL a₀ b lo p (setArr st xs) :=
  ⟨hp.trans h.perm, h.kind, h.failed, h.pend, fun i hi => (he i hi).trans (h.pre i hi)⟩
theorem SL.keys (h : SL a₀ b lo p st) (h0 : IntKeys a₀) : IntKeys (arrOf st) := fun q hq => h0 q ((Array.perm_iff_toList_perm.mp h.perm).mem_iff.mp hq)
theorem bub_pre {xs : Array Keyed} {src d i : Nat} (hs : src < xs.size) (hd : d ≤ src) (hi : i < src - d) : (bubble xs src d)[i]? = xs[i]? := by
  rw [getElem?_bubble hs d hd, if_neg (by lia), if_neg (by lia)]
theorem mir_pre {xs : Array Keyed} {i j k : Nat} (hj : j ≤ xs.size) (hk : k < i) : (mirror xs i j ((j - i) / 2))[k]? = xs[k]? := by
  rw [getElem?_mirror_all hj, if_neg (by lia)]
variable {prog : Program} {w : World} {A : Around} {E : Value → Shared → Prop} {s : Shared}
theorem wpS_ltL {i j : Nat} {Q : Option Bool → SortSt → Prop} (hB : SL a₀ b lo p st) (h0 : IntKeys a₀) (hi : i < a₀.size) (hj : j < a₀.size)
    (h : Q (some (decide (K (arrOf st) i < K (arrOf st) j))) st) : wpS (model prog w) A E s (ltAt' i j) Q st := by
  rw [ltAt'_eq]
  refine wpS_bind (wpS_get ?_)
  have hi' : i < (arrOf st).size := by rw [hB.size]; exact hi
  have hj' : j < (arrOf st).size := by rw [hB.size]; exact hj
  obtain ⟨t, ht⟩ := int_at (hB.keys h0) hi'
  obtain ⟨u, hu⟩ := int_at (hB.keys h0) hj'
  exact wpS_bind (wpS_elem hi' (wpS_bind (wpS_elem hj' (wpS_lt hB.kind ht hu h))))
theorem wpS_binL {n ok : Nat} {Q : Bool → SortSt → Prop} (h0 : IntKeys a₀) (hn : lo + n ≤ a₀.size) (hok : ok ≤ n) (hB : SL a₀ b lo p st) (hs : Seg (arrOf st) lo ok)
    (h : ∀ st', SL a₀ b lo p st' → Seg (arrOf st') lo n → Q true st') : wpS (model prog w) A E s (binarySort' lo n ok) Q st := by
  rw [binarySort'_eq]
  refine wpS_bind (wpS_mono (wpS_forRange (I := fun k c st' => c = (none, ()) ∧ SL a₀ b lo p st' ∧ Seg (arrOf st') lo (min k n))
    (Q := fun c st' => c = (none, ()) ∧ SL a₀ b lo p st' ∧ Seg (arrOf st') lo n) ?step ?fin ?init) ?post)
  case post =>
    rintro c st' ⟨rfl, hB', hs'⟩
    exact wpS_pure (h st' hB' hs')
  case init =>
    refine ⟨rfl, hB, fun i j hij hj => ?_⟩
    by_cases h1 : ok = 0
    · have : i = j := by lia
      subst this; exact Int.le_refl _
    · exact hs i j hij (by lia)
  case fin =>
    rintro c st' ⟨hc, hB', hs'⟩
    refine ⟨hc, hB', ?_⟩
    rwa [show min (max (max ok 1) n) n = n by lia] at hs'
  case step =>
    rintro k c st' hak hkn ⟨rfl, hB', hs'⟩
    rw [show min k n = k by lia] at hs'
    have hk : lo + k < a₀.size := by (apply z10 <;> assumption)
    refine wpS_bind (wpS_mono (wpS_forRange (I := fun x c st'' => st' = st'' ∧ ∃ l r, c = (none, l, r) ∧ l ≤ r ∧ r ≤ k ∧ r + x ≤ l + k ∧
        (∀ i, i < l → K (arrOf st') (lo + i) ≤ K (arrOf st') (lo + k)) ∧ (∀ i, r ≤ i → i < k → K (arrOf st') (lo + k) < K (arrOf st') (lo + i)))
      (Q := fun c st'' => st' = st'' ∧ ∃ l r, c = (none, l, r) ∧ l ≤ k ∧
        (∀ i, i < l → K (arrOf st') (lo + i) ≤ K (arrOf st') (lo + k)) ∧ (∀ i, l ≤ i → i < k → K (arrOf st') (lo + k) < K (arrOf st') (lo + i))) ?istep ?ifin ?iinit) ?ipost)
    case iinit => exact ⟨rfl, 0, k, rfl, by exact z01, by exact z02, by lia, fun i hi => by lia, fun i h1 h2 => by lia⟩
    case ifin =>
      rintro c st'' ⟨rfl, l, r, rfl, hlr, hrk, hm, hlo, hhi⟩
      have : l = r := by (apply ms3 <;> assumption)
      subst this
      exact ⟨rfl, l, l, rfl, hrk, hlo, hhi⟩
    case istep =>
      rintro x c st'' _ hxk ⟨rfl, l, r, rfl, hlr, hrk, hm, hlo, hhi⟩
      dsimp only
      by_cases hge : l ≥ r
      · rw [if_pos hge]
        have : l = r := by (apply z29 <;> assumption)
        subst this
        exact wpS_pure ⟨rfl, l, l, rfl, hrk, hlo, hhi⟩
      · rw [if_neg hge]
        refine wpS_bind (wpS_ltL hB' h0 hk (by (apply y08 <;> assumption)) ?_)
        by_cases hless : K (arrOf st') (lo + k) < K (arrOf st') (lo + (l + r) / 2)
        · simp only [hless, decide_true, if_true]
          refine wpS_pure ⟨rfl, l, (l + r) / 2, rfl, by (apply md2 <;> assumption), by (apply y06 <;> assumption), by (apply ms8 <;> assumption), hlo, fun i h1 h2 => ?_⟩
          exact Int.lt_of_lt_of_le hless (hs' _ _ h1 h2)
        · simp only [hless, decide_false, Bool.false_eq_true, if_false]
          refine wpS_pure ⟨rfl, (l + r) / 2 + 1, r, rfl, by (apply md3 <;> assumption), by assumption, by (apply ms7 <;> assumption), fun i h1 => ?_, hhi⟩
          exact Int.le_trans (hs' i ((l + r) / 2) (by lia) (by (apply y05 <;> assumption))) (Int.not_lt.mp hless)
    case ipost =>
      rintro c st'' ⟨rfl, l, r, rfl, hlk, hlo, hhi⟩
      show wpS _ _ _ _ (do moveDown' (lo + k) (lo + l); pure (ForInStep.yield (none, ()))) _ _
      rw [moveDown'_eq]
      have hks : lo + k < (arrOf st').size := by rw [hB'.size]; exact hk
      refine wpS_bind (wpS_modify (wpS_pure ⟨rfl, hB'.setArr (bubble_perm _ _ _) (fun i hi => bub_pre hks (by exact y35) (by lia)), ?_⟩))
      rw [show min (k + 1) n = k + 1 by lia]
      intro i j hij hj
      show K (bubble (arrOf st') (lo + k) (lo + k - (lo + l))) (lo + i) ≤ K (bubble (arrOf st') (lo + k) (lo + k - (lo + l))) (lo + j)
      rw [K_bubble hks (by exact y35), K_bubble hks (by exact y35), show lo + k - (lo + k - (lo + l)) = lo + l by lia]
      have ps : ∀ {x y : Nat}, x ≤ y → y < k → K (arrOf st') (lo + x) ≤ K (arrOf st') (lo + y) := fun {x y} h1 h2 => hs' x y h1 h2
      by_cases i1 : i = l
      · rw [if_pos (by (apply z34 <;> assumption))]
        by_cases j1 : j = l
        · rw [if_pos (by (apply z34 <;> assumption))]; exact Int.le_refl _
        · rw [if_neg (by lia), if_pos (by lia), show lo + j - 1 = lo + (j - 1) by lia]
          exact Int.le_of_lt (hhi (j - 1) (by lia) (by lia))
      · rw [if_neg (by lia)]
        by_cases i2 : l < i
        · rw [if_pos (by lia), if_neg (by lia), if_pos (by lia), show lo + i - 1 = lo + (i - 1) by (apply z26 <;> assumption), show lo + j - 1 = lo + (j - 1) by (apply y51 <;> assumption)]
          exact ps (by (apply y52 <;> assumption)) (by (apply y45 <;> assumption))
        · rw [if_neg (by lia)]
          by_cases j1 : j = l
          · rw [if_pos (by (apply z34 <;> assumption))]; exact hlo i (by lia)
          · rw [if_neg (by lia)]
            by_cases j2 : l < j
            · rw [if_pos (by (apply y44 <;> assumption)), show lo + j - 1 = lo + (j - 1) by (apply z26 <;> assumption)]; exact ps (by lia) (by lia)
            · rw [if_neg (by lia)]; exact ps (by assumption) (by lia)
end
end Mine.So

set_option autoImplicit false
set_option linter.unusedVariables false
namespace Mine.So
open PySem PyProof.Rows

def ascL (lo a nrem : Nat) : SM AscSt :=
  forIn [a:nrem] ((none, a) : AscSt) fun u_ c => do
    let x ← ltAt' (lo + c.2) (lo + c.2 - 1)
    match x with
    | some smaller => if smaller = true then pure (.done (none, c.2)) else pure (.yield (none, c.2 + 1))
    | _ => pure (.done (some none, c.2))
def tailL (lo n nrem : Nat) : SM (Option Nat) := do
  reverseSlice' lo (lo + n)
  let c ← ascL lo n nrem
  match c.1 with
  | some r => pure r
  | none => pure (some c.2)
def descL (lo n nrem : Nat) : SM DescSt :=
  forIn [n:nrem] ((none, n, 0) : DescSt) fun u_ c => do
    let x ← ltAt' (lo + c.2.1) (lo + c.2.1 - 1)
    match x with
    | some smaller =>
      if smaller = true then
        if c.2.2 > 0 then do
          reverseSlice' (lo + c.2.1 - (c.2.2 + 1)) (lo + c.2.1)
          pure (.yield (none, c.2.1 + 1, 0))
        else pure (.yield (none, c.2.1 + 1, 0))
      else do
        let x ← ltAt' (lo + c.2.1 - 1) (lo + c.2.1)
        match x with
        | some larger => if larger = true then pure (.done (none, c.2.1, c.2.2)) else pure (.yield (none, c.2.1 + 1, c.2.2 + 1))
        | _ => pure (.done (some none, c.2.1, c.2.2))
    | _ => pure (.done (some none, c.2.1, c.2.2))
def descP (lo n nrem : Nat) : SM (Option Nat) := do
  liftM (rule "list.sort.descending-run")
  let c ← descL lo (n + 1) nrem
  match c.1 with
  | some r => pure r
  | none =>
    if c.2.2 > 0 then do
      reverseSlice' (lo + c.2.1 - (c.2.2 + 1)) (lo + c.2.1)
      tailL lo c.2.1 nrem
    else tailL lo c.2.1 nrem
theorem countL_eq (lo nrem : Nat) : countRun' lo nrem = (do
    let c ← ascL lo 1 nrem
    match c.1 with
    | some r => pure r
    | none =>
      if (c.2 == nrem) = true then pure (some c.2)
      else if c.2 > 1 then do
        let x ← ltAt' lo (lo + c.2 - 1)
        match x with
        | some rose => if rose = true then pure (some c.2) else do
            reverseSlice' lo (lo + c.2)
            descP lo c.2 nrem
        | _ => pure none
      else descP lo c.2 nrem) := by
  kernel_rfl
section
variable {prog : Program} {w : World} {A : Around} {E : Value → Shared → Prop} {s : Shared} {a₀ b : Array Keyed} {lo : Nat} {p : Array (Nat × Nat × Nat)} {st : SortSt}
theorem Seg.one {xs : Array Keyed} : Seg xs lo 1 := fun i j hij hj => by
  have e : i = j := by lia
  subst e
  exact Int.le_refl _
theorem Neg.one {xs : Array Keyed} : Neg xs lo 1 := fun i j hij hj => by
  have e : i = j := by lia
  subst e
  exact Int.le_refl _
theorem Seg.more {xs : Array Keyed} {x : Nat} (h : Seg xs lo x) (hx : 1 ≤ x) (hl : K xs (lo + (x - 1)) ≤ K xs (lo + x)) : Seg xs lo (x + 1) := fun i j hij hj => by
  by_cases hjx : j < x
  · exact h i j hij hjx
  · have hj' : j = x := by lia
    subst hj'
    by_cases hi' : i = j
    · subst hi'; exact Int.le_refl _
    · exact Int.le_trans (h i (j - 1) (by (apply y28 <;> assumption)) (by (apply z16 <;> assumption))) hl
theorem Neg.more {xs : Array Keyed} {x : Nat} (h : Neg xs lo x) (hx : 1 ≤ x) (hl : K xs (lo + x) ≤ K xs (lo + (x - 1))) : Neg xs lo (x + 1) := fun i j hij hj => by
  by_cases hjx : j < x
  · exact h i j hij hjx
  · have hj' : j = x := by lia
    subst hj'
    by_cases hi' : i = j
    · subst hi'; exact Int.le_refl _
    · exact Int.le_trans hl (h i (j - 1) (by (apply y28 <;> assumption)) (by (apply z16 <;> assumption)))
theorem wp_ascL {a nrem : Nat} {Q : AscSt → SortSt → Prop} (h0 : IntKeys a₀) (hn : lo + nrem ≤ a₀.size) (ha : 1 ≤ a) (han : a ≤ nrem) (hB : SL a₀ b lo p st) (hs : Seg (arrOf st) lo a)
    (h : ∀ n, a ≤ n → n ≤ nrem → Seg (arrOf st) lo n → (n = nrem ∨ K (arrOf st) (lo + n) < K (arrOf st) (lo + (n - 1))) → Q (none, n) st) :
    wpS (model prog w) A E s (ascL lo a nrem) Q st := by
  unfold ascL
  refine wpS_forRange (I := fun x c st' => st = st' ∧ c = (none, x) ∧ Seg (arrOf st) lo x) ?step ?fin ⟨rfl, rfl, hs⟩
  case fin =>
    rintro c st' ⟨rfl, rfl, hs'⟩
    rw [show max a nrem = nrem by lia] at hs' ⊢
    exact h nrem han (Nat.le_refl _) hs' (.inl rfl)
  case step =>
    rintro x c st' hax hxn ⟨rfl, rfl, hs'⟩
    dsimp only
    refine wpS_bind (wpS_ltL hB h0 (by (apply z10 <;> assumption)) (by (apply y46 <;> assumption)) ?_)
    rw [show lo + x - 1 = lo + (x - 1) by (apply z28 <;> assumption)]
    by_cases hless : K (arrOf st) (lo + x) < K (arrOf st) (lo + (x - 1))
    · simp only [hless, decide_true, if_true]
      exact wpS_pure (h x hax (by (apply z04 <;> assumption)) hs' (.inr hless))
    · simp only [hless, decide_false, Bool.false_eq_true, if_false]
      exact wpS_pure ⟨rfl, rfl, hs'.more (by (apply z08 <;> assumption)) (Int.not_lt.mp hless)⟩
theorem K_mir {xs : Array Keyed} {n i : Nat} (hsz : lo + n ≤ xs.size) (hi : i < n) : K (mirror xs lo (lo + n) ((lo + n - lo) / 2)) (lo + i) = K xs (lo + (n - 1 - i)) := by
  rw [K_mirror hsz, if_pos (by lia)]
  congr 1
  lia
theorem wp_rev {i j : Nat} {Q : Unit → SortSt → Prop} (hB : SL a₀ b lo p st) (hi : lo ≤ i) (hj : j ≤ a₀.size) (h : SL a₀ b lo p (setArr st (mirror (arrOf st) i j ((j - i) / 2))) → Q () (setArr st (mirror (arrOf st) i j ((j - i) / 2)))) :
    wpS (model prog w) A E s (reverseSlice' i j) Q st := by
  rw [reverseSlice'_eq]
  exact wpS_modify (h (hB.setArr (mirror_perm _ _ _ _) fun k hk => mir_pre (by rw [hB.size]; exact hj) (by (apply z08 <;> assumption))))
theorem wp_tailL {n nrem : Nat} {Q : Option Nat → SortSt → Prop} (h0 : IntKeys a₀) (hn : lo + nrem ≤ a₀.size) (h1 : 1 ≤ n) (hnn : n ≤ nrem) (hB : SL a₀ b lo p st)
    (hs : Neg (arrOf st) lo n) (h : ∀ m st', SL a₀ b lo p st' → 1 ≤ m → m ≤ nrem → Seg (arrOf st') lo m → Q (some m) st') :
    wpS (model prog w) A E s (tailL lo n nrem) Q st := by
  unfold tailL
  have hsz : lo + n ≤ (arrOf st).size := by rw [hB.size]; (apply z11 <;> assumption)
  refine wpS_bind (wp_rev hB (Nat.le_refl _) (by (apply z11 <;> assumption)) fun hB' => ?_)
  refine wpS_bind (wp_ascL h0 hn h1 hnn hB' ?_ fun m hm1 hm2 hsm u_ => wpS_pure (h m _ hB' (by (apply z08 <;> assumption)) hm2 hsm))
  intro i j hij hj
  show K (mirror (arrOf st) lo (lo + n) ((lo + n - lo) / 2)) (lo + i) ≤ K (mirror (arrOf st) lo (lo + n) ((lo + n - lo) / 2)) (lo + j)
  rw [K_mir hsz (by (apply z07 <;> assumption)), K_mir hsz hj]
  exact hs _ _ (by (apply y54 <;> assumption)) (by (apply y59 <;> assumption))
theorem K_mirEq {xs : Array Keyed} {m q : Nat} (hsz : lo + m ≤ xs.size) (hq : q + 1 ≤ m) (heq : ∀ i, m - (q + 1) ≤ i → i < m → K xs (lo + i) = K xs (lo + (m - 1))) (k : Nat) :
    K (mirror xs (lo + m - (q + 1)) (lo + m) ((lo + m - (lo + m - (q + 1))) / 2)) k = K xs k := by
  refine K_mirror_equal hsz (fun k h1 h2 => ?_) k
  have e : k = lo + (k - lo) := by lia
  rw [e, heq (k - lo) (by lia) (by lia), show lo + m - 1 = lo + (m - 1) by (apply z26 <;> assumption)]
theorem wp_descL {n nrem : Nat} {Q : DescSt → SortSt → Prop} (h0 : IntKeys a₀) (hn : lo + nrem ≤ a₀.size) (h1 : 1 ≤ n) (hnn : n ≤ nrem) (hB : SL a₀ b lo p st)
    (hs : Neg (arrOf st) lo n)
    (h : ∀ m neq st', SL a₀ b lo p st' → n ≤ m → m ≤ nrem → Neg (arrOf st') lo m → neq + 1 ≤ m → (∀ i, m - (neq + 1) ≤ i → i < m → K (arrOf st') (lo + i) = K (arrOf st') (lo + (m - 1))) → Q (none, m, neq) st') :
    wpS (model prog w) A E s (descL lo n nrem) Q st := by
  unfold descL
  refine wpS_forRange (I := fun x c st' => ∃ neq, c = (none, x, neq) ∧ SL a₀ b lo p st' ∧ Neg (arrOf st') lo x ∧ neq + 1 ≤ x ∧
      (∀ i, x - (neq + 1) ≤ i → i < x → K (arrOf st') (lo + i) = K (arrOf st') (lo + (x - 1)))) ?step ?fin ⟨0, rfl, hB, hs, by assumption, fun i h1 h2 => by congr 1; lia⟩
  case fin =>
    rintro c st' ⟨neq, rfl, hB', hs', hq, he⟩
    rw [show max n nrem = nrem by lia] at hs' hq he ⊢
    exact h nrem neq st' hB' hnn (Nat.le_refl _) hs' hq he
  case step =>
    rintro x c st' hax hxn ⟨neq, rfl, hB', hs', hq, he⟩
    dsimp only
    have hsz : lo + x ≤ (arrOf st').size := by rw [hB'.size]; (apply z12 <;> assumption)
    refine wpS_bind (wpS_ltL hB' h0 (by (apply z10 <;> assumption)) (by (apply y46 <;> assumption)) ?_)
    rw [show lo + x - 1 = lo + (x - 1) by (apply z26 <;> assumption)]
    by_cases hless : K (arrOf st') (lo + x) < K (arrOf st') (lo + (x - 1))
    · simp only [hless, decide_true, if_true]
      have more := hs'.more (by (apply z52 <;> assumption)) (Int.le_of_lt hless)
      by_cases hneq : neq > 0
      · rw [if_pos hneq]
        refine wpS_bind (wp_rev hB' (by lia) (by (apply z12 <;> assumption)) fun hB2 => wpS_pure ⟨0, rfl, hB2, ?_, by lia, fun i h1 h2 => by congr 1; lia⟩)
        intro i j hij hj
        show K (mirror (arrOf st') _ _ _) (lo + j) ≤ K (mirror (arrOf st') _ _ _) (lo + i)
        rw [K_mirEq hsz hq he, K_mirEq hsz hq he]
        exact more i j hij hj
      · rw [if_neg hneq]
        exact wpS_pure ⟨0, rfl, hB', more, by lia, fun i h1 h2 => by congr 1; lia⟩
    · simp only [hless, decide_false, Bool.false_eq_true, if_false]
      refine wpS_bind (wpS_ltL hB' h0 (by (apply y24 <;> assumption)) (by (apply z10 <;> assumption)) ?_)
      by_cases hlarger : K (arrOf st') (lo + (x - 1)) < K (arrOf st') (lo + x)
      · simp only [hlarger, decide_true, if_true]
        exact wpS_pure (h x neq st' hB' hax (by (apply z04 <;> assumption)) hs' hq he)
      · simp only [hlarger, decide_false, Bool.false_eq_true, if_false]
        have heqx : K (arrOf st') (lo + x) = K (arrOf st') (lo + (x - 1)) := by (apply i6 <;> assumption)
        refine wpS_pure ⟨neq + 1, rfl, hB', hs'.more (by (apply z52 <;> assumption)) (Int.le_of_eq heqx), by lia, fun i h1 h2 => ?_⟩
        rw [show x + 1 - 1 = x by lia]
        by_cases hix : i = x
        · subst hix; rfl
        · rw [heqx]; exact he i (by lia) (by lia)
theorem wp_descP {n nrem : Nat} {Q : Option Nat → SortSt → Prop} (h0 : IntKeys a₀) (hn : lo + nrem ≤ a₀.size) (hnn : n + 1 ≤ nrem) (hB : SL a₀ b lo p st)
    (hs : Neg (arrOf st) lo (n + 1)) (h : ∀ m st', SL a₀ b lo p st' → 1 ≤ m → m ≤ nrem → Seg (arrOf st') lo m → Q (some m) st') :
    wpS (model prog w) A E s (descP lo n nrem) Q st := by
  unfold descP
  refine wpS_bind (wpS_lift (wpAny_rule ⟨rfl, ?_⟩))
  refine wpS_bind (wp_descL h0 hn (by lia) hnn hB hs fun m neq st' hB' hm1 hm2 hs' hq he => ?_)
  dsimp only
  have hsz : lo + m ≤ (arrOf st').size := by rw [hB'.size]; (apply z11 <;> assumption)
  by_cases hneq : neq > 0
  · rw [if_pos hneq]
    refine wpS_bind (wp_rev hB' (by lia) (by (apply z11 <;> assumption)) fun hB2 => wp_tailL h0 hn (by (apply z52 <;> assumption)) hm2 hB2 ?_ h)
    intro i j hij hj
    show K (mirror (arrOf st') _ _ _) (lo + j) ≤ K (mirror (arrOf st') _ _ _) (lo + i)
    rw [K_mirEq hsz hq he, K_mirEq hsz hq he]
    exact hs' i j hij hj
  · rw [if_neg hneq]
    exact wp_tailL h0 hn (by (apply z52 <;> assumption)) hm2 hB' hs' h
theorem wp_countL {nrem : Nat} {Q : Option Nat → SortSt → Prop} (h0 : IntKeys a₀) (hn : lo + nrem ≤ a₀.size) (h1 : 1 ≤ nrem) (hB : SL a₀ b lo p st)
    (h : ∀ m st', SL a₀ b lo p st' → 1 ≤ m → m ≤ nrem → Seg (arrOf st') lo m → Q (some m) st') :
    wpS (model prog w) A E s (countRun' lo nrem) Q st := by
  rw [countL_eq]
  refine wpS_bind (wp_ascL h0 hn (Nat.le_refl 1) h1 hB Seg.one fun n hn1 hn2 hsn hor => ?_)
  dsimp only
  by_cases hnn : n = nrem
  · rw [if_pos (by simpa using hnn)]
    exact wpS_pure (h n st hB hn1 hn2 hsn)
  · rw [if_neg (by simpa using hnn)]
    have hlt : K (arrOf st) (lo + n) < K (arrOf st) (lo + (n - 1)) := hor.resolve_left hnn
    by_cases hgt : n > 1
    · rw [if_pos hgt]
      refine wpS_bind (wpS_ltL hB h0 (by lia) (by lia) ?_)
      rw [show lo + n - 1 = lo + (n - 1) by (apply z25 <;> assumption)]
      by_cases hrose : K (arrOf st) lo < K (arrOf st) (lo + (n - 1))
      · simp only [hrose, decide_true, if_true]
        exact wpS_pure (h n st hB hn1 hn2 hsn)
      · simp only [hrose, decide_false, Bool.false_eq_true, if_false]
        have hsz : lo + n ≤ (arrOf st).size := by rw [hB.size]; (apply z11 <;> assumption)
        have hall : ∀ k, k < n → K (arrOf st) (lo + k) = K (arrOf st) lo := by
          intro k hk
          have a1 := hsn 0 k (by exact z01) hk
          have a2 := hsn k (n - 1) (by (apply z23 <;> assumption)) (by (apply z16 <;> assumption))
          rw [Nat.add_zero] at a1
          lia
        refine wpS_bind (wp_rev hB (Nat.le_refl _) (by (apply z11 <;> assumption)) fun hB2 => wp_descP h0 hn (by (apply z49 <;> assumption)) hB2 ?_ h)
        have hm : ∀ k, k < n → K (mirror (arrOf st) lo (lo + n) ((lo + n - lo) / 2)) (lo + k) = K (arrOf st) lo := fun k hk => by rw [K_mir hsz hk]; exact hall _ (by (apply y59 <;> assumption))
        have hx : K (mirror (arrOf st) lo (lo + n) ((lo + n - lo) / 2)) (lo + n) = K (arrOf st) (lo + n) := by rw [K_mirror hsz, if_neg (by lia)]
        refine Neg.more (fun i j hij hj => ?_) (by assumption) ?_
        · show K (mirror (arrOf st) lo (lo + n) ((lo + n - lo) / 2)) _ ≤ K (mirror (arrOf st) lo (lo + n) ((lo + n - lo) / 2)) _
          rw [hm i (by (apply z07 <;> assumption)), hm j hj]; exact Int.le_refl _
        · show K (mirror (arrOf st) lo (lo + n) ((lo + n - lo) / 2)) _ ≤ K (mirror (arrOf st) lo (lo + n) ((lo + n - lo) / 2)) _
          rw [hx, hm (n - 1) (by (apply z16 <;> assumption)), ← hall (n - 1) (by (apply z16 <;> assumption))]
          exact Int.le_of_lt hlt
    · rw [if_neg hgt]
      have hn1' : n = 1 := by lia
      subst hn1'
      exact wp_descP h0 hn (by (apply z24 <;> assumption)) hB (Neg.more Neg.one (Nat.le_refl _) (Int.le_of_lt hlt)) h
end
end Mine.So

set_option autoImplicit false
set_option linter.unusedVariables false
namespace Mine.So
open PySem PyProof.Rows

def putBack (sa : Nat) (r : Array Keyed) (arr : Array Keyed) : Array Keyed := r.toList.zipIdx.foldl (fun a x => a.setIfInBounds (sa + x.2) x.1) arr
def mA4 (sa : Nat) (r : Array Keyed) : SM Bool := do
  modify fun s => setArr s (putBack sa r (arrOf s))
  let s ← get
  pure (failedOf s).isNone
def mA3 (arr : Array Keyed) (sa na sb nb : Nat) : SM Bool :=
  if na ≤ nb then mergeLo' (arr.extract sa sb) (arr.extract sb (sb + nb)) >>= mA4 sa else mergeHi' (arr.extract sa sb) (arr.extract sb (sb + nb)) >>= mA4 sa
def mA1 (arr : Array Keyed) (sa na sb nb : Nat) : SM Bool :=
  if (na == 0) = true then pure true else do
    let x ← elem' arr (sa + na - 1)
    let r ← gallop' true x arr sb nb (nb - 1)
    match r with
    | some nb => if (nb == 0) = true then pure true else mA3 arr sa na sb nb
    | _ => pure false
def mA0 (i : Nat) (s : SortSt) : Option (Nat × Nat × Nat) → Option (Nat × Nat × Nat) → SM Bool
  | some p, some q => do
    set (setPending s (((pendingOf s).setIfInBounds i (p.1, p.2.1 + q.2.1, p.2.2)).eraseIdxIfInBounds (i + 1)))
    let y ← elem' (arrOf s) q.1
    let r ← gallop' false y (arrOf s) p.1 p.2.1 0
    match r with
    | some k => mA1 (arrOf s) (p.1 + k) (p.2.1 - k) q.1 q.2.1
    | _ => pure false
  | _, _ => liftM (unsupported "internal:list.sort.pending" : Sem Bool)
theorem mergeAt'_eq (i : Nat) : mergeAt' i = (do
    let s ← get
    mA0 i s (pendingOf s)[i]? (pendingOf s)[i + 1]?) := by
  kernel_rfl
theorem putBack_is {sa : Nat} : ∀ (l : List Keyed) (j : Nat) (arr : Array Keyed), sa + j + l.length ≤ arr.size → ((l.zipIdx j).foldl (fun a x => a.setIfInBounds (sa + x.2) x.1) arr).toList = arr.toList.take (sa + j) ++ l ++ arr.toList.drop (sa + j + l.length)
  | [], j, arr, h => by rw [List.append_nil]; exact (List.take_append_drop _ _).symm
  | p :: l, j, arr, h => by
    rw [List.length_cons] at h
    rw [List.zipIdx_cons, List.foldl_cons, putBack_is l (j + 1) _ (by rw [Array.size_setIfInBounds]; lia), Array.toList_setIfInBounds, List.length_cons]
    have hl : sa + j < arr.toList.length := by rw [Array.length_toList]; lia
    rw [show sa + (j + 1) + l.length = sa + j + (l.length + 1) by lia, List.drop_set_of_lt (by lia), show sa + (j + 1) = sa + j + 1 from rfl, List.take_add_one, List.getElem?_set_self hl, List.take_set_of_le (Nat.le_refl _)]
    show arr.toList.take (sa + j) ++ [p] ++ l ++ _ = arr.toList.take (sa + j) ++ (p :: l) ++ _
    rw [List.append_assoc (arr.toList.take (sa + j)) [p] l]
    rfl
theorem whole_ord {P X Y Z r : List Keyed} (h1 : Srt (P ++ X)) (h2 : Srt (Y ++ Z)) (h3 : ∀ p ∈ P, ∀ y ∈ Y ++ Z, kv p ≤ kv y) (h4 : ∀ x ∈ X, ∀ z ∈ Z, kv x ≤ kv z) (h : Ord (X ++ Y) r) : Ord (P ++ X ++ (Y ++ Z)) (P ++ r ++ Z) := by
  have q1 := List.pairwise_append.mp h1
  have q2 := List.pairwise_append.mp h2
  have hm : ∀ x ∈ r, x ∈ X ∨ x ∈ Y := fun x hx => List.mem_append.mp (h.1.mem_iff.mp hx)
  refine ⟨?_, List.pairwise_append.mpr ⟨List.pairwise_append.mpr ⟨q1.1, h.2, fun p hp x hx => (hm x hx).elim (q1.2.2 p hp x) fun z => h3 p hp x (List.mem_append_left _ z)⟩, q2.2.1, fun x hx z hz => ?_⟩⟩
  · rw [List.append_assoc, List.append_assoc, ← List.append_assoc X]
    exact (h.1.append_right Z).append_left P
  · rcases List.mem_append.mp hx with q | q
    · exact h3 x q z (List.mem_append_right _ hz)
    · exact (hm x q).elim (fun y => h4 x y z hz) fun y => q2.2.2 x y z hz
section
variable {prog : Program} {w : World} {A : Around} {E : Value → Shared → Prop} {s : Shared} {a₀ : Array Keyed} {st : SortSt}
theorem wpS_set {st' : SortSt} {Q : PUnit → SortSt → Prop} (h : Q ⟨⟩ st') : wpS (model prog w) A E s (set st' : SM PUnit) Q st := by
  unfold wpS; rw [StateT.run_set]; exact wpAny_pure ⟨rfl, h⟩
theorem srt_of {arr : Array Keyed} {lo n : Nat} (h : Seg arr lo n) (hn : lo + n ≤ arr.size) : Srt ((arr.toList.drop lo).take n) := by
  refine List.pairwise_iff_getElem.mpr fun i j hi hj hij => ?_
  rw [List.length_take, List.length_drop, Array.length_toList] at hi hj
  rw [List.getElem_take, List.getElem_take, List.getElem_drop, List.getElem_drop]
  have := h i j (Nat.le_of_lt hij) (by (apply y09 <;> assumption))
  rw [← kvK (show lo + i < arr.size by (apply y12 <;> assumption)), ← kvK (show lo + j < arr.size by (apply y12 <;> assumption))] at this
  exact this
theorem sorted_of {arr : Array Keyed} (h : Srt arr.toList) : SortedTo arr arr.size := fun i j hij hj => srtK h hij hj
theorem K_ext {arr : Array Keyed} {i j k : Nat} (hk : i + k < j) (hj : j ≤ arr.size) : K (arr.extract i j) k = K arr (i + k) := by
  refine K_congr ?_
  rw [Array.getElem?_extract, if_pos (by lia)]
structure S2r (a₀ : Array Keyed) (n1 pw : Nat) (st : SortSt) : Prop where
  perm : (arrOf st).Perm a₀
  kind : kindOf st = oneType'
  failed : failedOf st = none
  pend : pendingOf st = #[(0, n1, pw), (n1, a₀.size - n1, 0)]
  fst : Seg (arrOf st) 0 n1
  snd : Seg (arrOf st) n1 (a₀.size - n1)
def SEnd (a₀ : Array Keyed) (st : SortSt) : Prop := (arrOf st).Perm a₀ ∧ failedOf st = none ∧ SortedTo (arrOf st) a₀.size ∧ (pendingOf st).size = 1
theorem wp_mergeAt {n1 pw : Nat} {Q : Bool → SortSt → Prop} (h0 : IntKeys a₀) (h1 : 1 ≤ n1) (h2 : n1 < a₀.size) (S : S2r a₀ n1 pw st) (h : ∀ st', SEnd a₀ st' → Q true st') :
    wpS (model prog w) A E s (mergeAt' 0) Q st := by
  rw [mergeAt'_eq]
  refine wpS_bind (wpS_get ?_)
  have hsz : (arrOf st).size = a₀.size := S.perm.size_eq
  have ik : IntKeys (arrOf st) := fun q hq => h0 q ((Array.perm_iff_toList_perm.mp S.perm).mem_iff.mp hq)
  have e0 : (pendingOf st)[0]? = some (0, n1, pw) := by rw [S.pend]; rfl
  have e1 : (pendingOf st)[0 + 1]? = some (n1, a₀.size - n1, 0) := by rw [S.pend]; rfl
  rw [e0, e1]
  unfold mA0
  refine wpS_bind (wpS_set ?_)
  have ep : (((pendingOf st).setIfInBounds 0 (0, n1 + (a₀.size - n1), pw)).eraseIdxIfInBounds (0 + 1)).size = 1 := by
    rw [S.pend]; unfold Array.eraseIdxIfInBounds; rw [dif_pos (by rw [Array.size_setIfInBounds]; exact Nat.lt_succ_self 1), Array.size_eraseIdx, Array.size_setIfInBounds]; rfl
  have hend : ∀ g, Srt (arrOf st).toList → Q true (SortSt.mk' (kindOf st) (arrOf st) (((pendingOf st).setIfInBounds 0 (0, n1 + (a₀.size - n1), pw)).eraseIdxIfInBounds (0 + 1)) g (failedOf st)) := fun g hs => h _ ⟨S.perm, S.failed, by rw [← hsz]; exact sorted_of hs, ep⟩
  have f1 : ∀ i j, i ≤ j → j < n1 → K (arrOf st) i ≤ K (arrOf st) j := fun i j q1 q2 => by have := S.fst i j q1 q2; rwa [Nat.zero_add, Nat.zero_add] at this
  have f2 : ∀ i j, n1 ≤ i → i ≤ j → j < a₀.size → K (arrOf st) i ≤ K (arrOf st) j := fun i j q1 q2 q3 => by
    have := S.snd (i - n1) (j - n1) (by (apply y32 <;> assumption)) (by (apply y58 <;> assumption)); rwa [show n1 + (i - n1) = i by (apply z13 <;> assumption), show n1 + (j - n1) = j by (apply y33 <;> assumption)] at this
  have srt1 : ∀ lo n, lo + n ≤ n1 → Srt (((arrOf st).toList.drop lo).take n) := fun lo n q => srt_of (fun i j q1 q2 => f1 _ _ (by (apply z32 <;> assumption)) (by (apply z10 <;> assumption))) (by lia)
  have srt2 : ∀ lo n, n1 ≤ lo → lo + n ≤ a₀.size → Srt (((arrOf st).toList.drop lo).take n) := fun lo n q q3 => srt_of (fun i j q1 q2 => f2 _ _ (by lia) (by (apply z32 <;> assumption)) (by (apply z10 <;> assumption))) (by (apply z57 <;> assumption))
  -- all in order already, where the runs meet in order
  have meet : K (arrOf st) (n1 - 1) ≤ K (arrOf st) n1 → Srt (arrOf st).toList := fun q => by
    have := srt_of (arr := arrOf st) (lo := 0) (n := a₀.size) (fun i j q1 q2 => by
      rw [Nat.zero_add, Nat.zero_add]
      rcases Nat.lt_or_ge j n1 with z | z
      · exact f1 i j q1 z
      · rcases Nat.lt_or_ge i n1 with y | y
        · exact Int.le_trans (f1 i (n1 - 1) (by (apply z23 <;> assumption)) (by (apply z16 <;> assumption))) (Int.le_trans q (f2 n1 j (Nat.le_refl _) z q2))
        · exact f2 i j y q1 q2) (by lia)
    rwa [List.drop_zero, List.take_of_length_le (by rw [Array.length_toList]; (apply z05 <;> assumption))] at this
  show wpS _ _ _ _ (do
    let y ← elem' (arrOf st) n1
    let r ← gallop' false y (arrOf st) 0 n1 0
    match r with
    | some k => mA1 (arrOf st) (0 + k) (n1 - k) n1 (a₀.size - n1)
    | _ => pure false) Q _
  refine wpS_bind (wpS_elem (by (apply z56 <;> assumption)) ?_)
  obtain ⟨t, ht⟩ := int_at ik (i := n1) (by (apply z56 <;> assumption))
  refine wpS_bind (wpS_gallop S.kind ik ht (by lia) (by assumption) (fun i j q1 q2 q3 => ?_) fun k hk g1 g2 => ?_)
  · rw [Nat.zero_add] at q3 ⊢
    have := f1 i j q1 q2
    rw [bey_f, Bool.not_eq_true', decide_eq_false_iff_not] at q3 ⊢; (apply i5 <;> assumption)
  have g1 : ∀ j, j < k → K (arrOf st) j ≤ K (arrOf st) n1 := fun j q1 => by
    have := g1 j q1
    rw [bey_f, Bool.not_eq_true', decide_eq_false_iff_not, Nat.zero_add] at this; (apply i1 <;> assumption)
  have g2 : ∀ j, k ≤ j → j < n1 → K (arrOf st) n1 < K (arrOf st) j := fun j q1 q2 => by
    have := g2 j q1 q2
    rw [bey_f, Bool.not_eq_false', decide_eq_true_iff, Nat.zero_add] at this; assumption
  dsimp only
  unfold mA1
  by_cases hk0 : n1 - k = 0
  · rw [if_pos (beq_iff_eq.mpr hk0)]
    exact wpS_pure (hend _ (meet (g1 _ (by lia))))
  · rw [if_neg (fun q => hk0 (beq_iff_eq.mp q)), show 0 + k + (n1 - k) - 1 = n1 - 1 by (apply y53 <;> assumption)]
    refine wpS_bind (wpS_elem (by (apply y49 <;> assumption)) ?_)
    obtain ⟨u, hu⟩ := int_at ik (i := n1 - 1) (by (apply y49 <;> assumption))
    refine wpS_bind (wpS_gallop S.kind ik hu (by lia) (by lia) (fun i j q1 q2 q3 => ?_) fun m hm g3 g4 => ?_)
    · have := f2 (n1 + i) (n1 + j) (by exact z03) (by (apply z32 <;> assumption)) (by (apply y11 <;> assumption))
      rw [bey_t, decide_eq_true_iff] at q3 ⊢; (apply i4 <;> assumption)
    have g3 : ∀ j, n1 ≤ j → j < n1 + m → K (arrOf st) j < K (arrOf st) (n1 - 1) := fun j q1 q2 => by
      have := g3 (j - n1) (by (apply z21 <;> assumption))
      rwa [bey_t, decide_eq_true_iff, show n1 + (j - n1) = j by (apply z13 <;> assumption)] at this
    have g4 : ∀ j, n1 + m ≤ j → j < a₀.size → K (arrOf st) (n1 - 1) ≤ K (arrOf st) j := fun j q1 q2 => by
      have := g4 (j - n1) (by (apply z22 <;> assumption)) (by (apply y57 <;> assumption))
      rw [bey_t, decide_eq_false_iff_not, show n1 + (j - n1) = j by (apply z15 <;> assumption)] at this; (apply i1 <;> assumption)
    dsimp only
    by_cases hm0 : m = 0
    · rw [if_pos (beq_iff_eq.mpr hm0)]
      exact wpS_pure (hend _ (meet (g4 n1 (by lia) (by assumption))))
    · rw [if_neg (fun q => hm0 (beq_iff_eq.mp q)), Nat.zero_add]
      unfold mA3
      have sx : ((arrOf st).extract k n1).size = n1 - k := by rw [Array.size_extract]; lia
      have sy : ((arrOf st).extract n1 (n1 + m)).size = m := by rw [Array.size_extract]; lia
      have kx : ∀ j, j < n1 - k → K ((arrOf st).extract k n1) j = K (arrOf st) (k + j) := fun j q => K_ext (by (apply y11 <;> assumption)) (by lia)
      have ky : ∀ j, j < m → K ((arrOf st).extract n1 (n1 + m)) j = K (arrOf st) (n1 + j) := fun j q => K_ext (by (apply z33 <;> assumption)) (by lia)
      have ex : ((arrOf st).extract k n1).toList = ((arrOf st).toList.drop k).take (n1 - k) := by rw [Array.toList_extract, List.extract_eq_take_drop]
      have ey : ((arrOf st).extract n1 (n1 + m)).toList = ((arrOf st).toList.drop n1).take m := by rw [Array.toList_extract, List.extract_eq_take_drop, Nat.add_sub_cancel_left]
      have ix : IntKeys ((arrOf st).extract k n1) := fun q hq => ik q (by rw [ex] at hq; exact List.mem_of_mem_drop (List.mem_of_mem_take hq))
      have iy : IntKeys ((arrOf st).extract n1 (n1 + m)) := fun q hq => ik q (by rw [ey] at hq; exact List.mem_of_mem_drop (List.mem_of_mem_take hq))
      have rx : Srt ((arrOf st).extract k n1).toList := by rw [ex]; exact srt1 _ _ (by (apply z40 <;> assumption))
      have ry : Srt ((arrOf st).extract n1 (n1 + m)).toList := by rw [ey]; exact srt2 _ _ (Nat.le_refl _) (by (apply y38 <;> assumption))
      have fin : ∀ (r : Array Keyed) (g : Nat), Ord (((arrOf st).extract k n1).toList ++ ((arrOf st).extract n1 (n1 + m)).toList) r.toList → Q true (SortSt.mk' (kindOf st) (putBack k r (arrOf st)) (((pendingOf st).setIfInBounds 0 (0, n1 + (a₀.size - n1), pw)).eraseIdxIfInBounds (0 + 1)) g (failedOf st)) := fun r g ho => by
        have hl : r.toList.length = n1 - k + m := by rw [ho.1.length_eq, List.length_append, Array.length_toList, Array.length_toList, sx, sy]
        have hp : (putBack k r (arrOf st)).toList = (arrOf st).toList.take k ++ r.toList ++ (arrOf st).toList.drop (n1 + m) := by
          have := putBack_is (sa := k) r.toList 0 (arrOf st) (by rw [hl]; lia)
          rw [Nat.add_zero, hl, show k + (n1 - k + m) = n1 + m by lia] at this
          exact this
        rw [ex, ey] at ho
        have d1 : (arrOf st).toList.take k ++ ((arrOf st).toList.drop k).take (n1 - k) = (arrOf st).toList.take n1 := by rw [← List.take_add, show k + (n1 - k) = n1 by (apply z13 <;> assumption)]
        have d2 : ((arrOf st).toList.drop n1).take m ++ (arrOf st).toList.drop (n1 + m) = (arrOf st).toList.drop n1 := by rw [← List.drop_drop, List.take_append_drop]
        have dn : ((arrOf st).toList.drop n1).take (a₀.size - n1) = (arrOf st).toList.drop n1 := List.take_of_length_le (by rw [List.length_drop, Array.length_toList]; lia)
        have w := whole_ord (P := (arrOf st).toList.take k) (Z := (arrOf st).toList.drop (n1 + m)) (r := r.toList) (by
          have := srt1 0 n1 (by (apply z39 <;> assumption)); rw [List.drop_zero] at this; rw [d1]; exact this) (by
          have := srt2 n1 (a₀.size - n1) (Nat.le_refl _) (by (apply z39 <;> assumption)); rw [dn] at this; rw [d2]; exact this) (fun p hp y hy => by
            rw [d2] at hy
            obtain ⟨i, q1, q2, e⟩ := memTk hp
            obtain ⟨j, q3, q4, e2⟩ := memK hy
            rw [e, e2]; exact Int.le_trans (g1 i q1) (f2 n1 j (Nat.le_refl _) q3 (by lia))) (fun x hx z hz => by
            obtain ⟨i, q1, q2, q5, e⟩ := memT hx
            obtain ⟨j, q3, q4, e2⟩ := memK hz
            rw [e, e2]; exact Int.le_trans (f1 i (n1 - 1) (by lia) (by (apply z16 <;> assumption))) (g4 j q3 (by lia))) ho
        rw [d1, d2, List.take_append_drop, ← hp] at w
        have pm : (putBack k r (arrOf st)).Perm a₀ := (Array.perm_iff_toList_perm.mpr w.1).trans S.perm
        exact h _ ⟨pm, S.failed, by rw [← pm.size_eq]; exact sorted_of w.2, ep⟩
      have tail : ∀ r st', Sam (setPending st (((pendingOf st).setIfInBounds 0 (0, n1 + (a₀.size - n1), pw)).eraseIdxIfInBounds (0 + 1))) st' → Ord (((arrOf st).extract k n1).toList ++ ((arrOf st).extract n1 (n1 + m)).toList) r.toList → wpS (model prog w) A E s (mA4 k r) Q st' := fun r st' B ho => by
        unfold mA4
        refine wpS_bind (wpS_modify (wpS_bind (wpS_get (wpS_pure ?_))))
        have e : setArr st' (putBack k r (arrOf st')) = SortSt.mk' (kindOf st) (putBack k r (arrOf st)) (((pendingOf st).setIfInBounds 0 (0, n1 + (a₀.size - n1), pw)).eraseIdxIfInBounds (0 + 1)) (gallopOf st') (failedOf st) := by
          show SortSt.mk' (kindOf st') (putBack k r (arrOf st')) (pendingOf st') (gallopOf st') (failedOf st') = _
          rw [B.kind, B.arr, B.pend, B.fail]
        rw [e]
        have ef : (failedOf (SortSt.mk' (kindOf st) (putBack k r (arrOf st)) (((pendingOf st).setIfInBounds 0 (0, n1 + (a₀.size - n1), pw)).eraseIdxIfInBounds (0 + 1)) (gallopOf st') (failedOf st))).isNone = true := by
          show (failedOf st).isNone = true
          rw [S.failed]; rfl
        rw [ef]
        exact fin r (gallopOf st') ho
      split
      · refine wpS_bind (wpS_mergeLo ⟨ix, iy, rx, ry, fun j hj => ?_⟩ S.kind (by lia) (by lia) ?_ tail)
        · rw [sy] at hj
          rw [ky j hj, sx, kx _ (by (apply y15 <;> assumption)), show k + (n1 - k - 1) = n1 - 1 by lia]
          exact g3 _ (by exact z03) (by (apply z33 <;> assumption))
        · rw [ky 0 (by (apply z30 <;> assumption)), kx 0 (by (apply z30 <;> assumption))]
          exact Int.le_of_lt (g2 _ (by exact z02) (by (apply y14 <;> assumption)))
      · refine wpS_bind (wpS_mergeHi ⟨ix, iy, rx, ry, fun j hj => ?_⟩ S.kind (by lia) (by lia) ?_ tail)
        · rw [sx] at hj
          rw [ky 0 (by (apply z30 <;> assumption)), kx j hj]
          exact g2 _ (by exact z03) (by (apply y11 <;> assumption))
        · rw [sx, sy, ky _ (by (apply y27 <;> assumption)), kx _ (by (apply y15 <;> assumption)), show k + (n1 - k - 1) = n1 - 1 by lia]
          exact Int.le_of_lt (g3 _ (by exact z03) (by (apply y26 <;> assumption)))
end
end Mine.So

set_option autoImplicit false
set_option linter.unusedVariables false
namespace Mine.So
open PySem PyProof.Rows
theorem minRun_half {n : Nat} (h1 : 64 ≤ n) (h2 : n < 128) : minRun' n n 0 = n / 2 + n % 2 := by
  obtain ⟨f, hf⟩ : ∃ f, n = f + 2 := ⟨n - 2, by lia⟩
  have : minRun' (f + 1 + 1) n 0 = n / 2 + n % 2 := by
    rw [minRun'_succ, if_neg (by lia), minRun'_succ, if_pos (by lia), Nat.max_eq_right (Nat.zero_le _)]
  rwa [← hf] at this
section
variable {prog : Program} {w : World} {A : Around} {E : Value → Shared → Prop} {s : Shared} {a₀ : Array Keyed} {st : SortSt}
structure S1r (a₀ : Array Keyed) (n1 : Nat) (st : SortSt) : Prop where
  perm : (arrOf st).Perm a₀
  kind : kindOf st = oneType'
  failed : failedOf st = none
  pend : pendingOf st = #[(0, n1, 0)]
  fst : SortedTo (arrOf st) n1
theorem S1r.of {n : Nat} (hB : SBase a₀ st) (hs : SortedTo (arrOf st) n) : S1r a₀ n (setPending st ((pendingOf st).push (0, n, 0))) :=
  ⟨hB.perm, hB.kind, hB.failed, by show (pendingOf st).push _ = _; rw [hB.pend]; rfl, hs⟩
theorem S1r.sl {n : Nat} (h : S1r a₀ n st) : SL a₀ (arrOf st) n #[(0, n, 0)] st := ⟨h.perm, h.kind, h.failed, h.pend, fun u_ u_ => rfl⟩
theorem S2r.of {n1 n2 pw : Nat} {b : Array Keyed} (hs : SortedTo b n1) (e2 : n2 = a₀.size - n1) (hB : SL a₀ b n1 #[(0, n1, 0)] st) (hg : Seg (arrOf st) n1 n2) : S2r a₀ n1 pw (setPending st (((pendingOf st).modify ((pendingOf st).size - 1) fun x => (x.1, x.2.1, pw)).push (n1, n2, 0))) := by
  subst e2
  exact ⟨hB.perm, hB.kind, hB.failed, by show ((pendingOf st).modify ((pendingOf st).size - 1) _).push _ = _; rw [hB.pend]; rfl, fun i j hij hj => by
    rw [Nat.zero_add, Nat.zero_add]
    have e : ∀ x, x < n1 → K (arrOf st) x = K b x := fun x hx => K_congr (hB.pre x hx)
    show K (arrOf st) i ≤ K (arrOf st) j
    rw [e i (by (apply z07 <;> assumption)), e j hj]; exact hs i j hij hj, hg⟩
theorem wpS_sortRuns2 {Q : Unit → SortSt → Prop} (h0 : IntKeys a₀) (hB : SBase a₀ st) (h64 : 64 ≤ a₀.size) (h128 : a₀.size < 128)
    (h : ∀ st', (arrOf st').Perm a₀ → failedOf st' = none → SortedTo (arrOf st') a₀.size → Q () st') : wpS (model prog w) A E s sortRuns' Q st := by
  rw [sortRuns'_eq]
  refine wpS_bind (wpS_get ?_)
  dsimp only
  have hmr := minRun_half h64 h128
  generalize hM : a₀.size / 2 + a₀.size % 2 = M at hmr
  have hM1 : 1 ≤ M ∧ M ≤ a₀.size ∧ a₀.size ≤ 2 * M := by lia
  simp only [hB.size, hmr]
  refine wpS_bind (wpS_mono (wpS_forRange
    (I := fun x c st' => (x = 0 ∧ c = (none, 0) ∧ SBase a₀ st') ∨ (x = 1 ∧ ∃ n1, c = (none, n1) ∧ (M ≤ n1 ∧ n1 ≤ a₀.size) ∧ S1r a₀ n1 st') ∨ (2 ≤ x ∧ c = (none, a₀.size) ∧ ∃ n1 pw, (1 ≤ n1 ∧ n1 < a₀.size) ∧ S2r a₀ n1 pw st'))
    (Q := fun c st' => c = (none, a₀.size) ∧ (S1r a₀ a₀.size st' ∨ ∃ n1 pw, (1 ≤ n1 ∧ n1 < a₀.size) ∧ S2r a₀ n1 pw st')) ?step ?fin (.inl ⟨rfl, rfl, hB⟩)) ?post)
  case fin =>
    rintro c st' (⟨hx, _, _⟩ | ⟨hx, _⟩ | ⟨_, hc, hD⟩)
    · lia
    · lia
    · exact ⟨hc, .inr hD⟩
  case step =>
    rintro x c st' _ hx (⟨rfl, rfl, hB'⟩ | ⟨rfl, n1, rfl, hn, S⟩ | ⟨hx2, rfl, hD⟩)
    · dsimp only
      rw [if_neg (by lia)]
      simp only [Nat.sub_zero, Nat.zero_add]
      refine wpS_bind (wpS_countRun h0 (Nat.le_refl _) (by assumption) hB' fun m st2 hB2 hm1 hm2 hs2 => ?_)
      dsimp only
      by_cases hlt : m < M
      · rw [if_pos hlt]
        refine wpS_bind (wpS_lift (wpAny_rule ⟨rfl, ?_⟩))
        refine wpS_bind (wpS_binarySort h0 (by lia) (by lia) hB2 hs2 fun st3 hB3 hs3 => ?_)
        simp only [Bool.not_true, Bool.false_eq_true, if_false]
        refine wpS_bind (wpS_get ?_)
        have hb : (pendingOf st3).back? = none := by rw [hB3.pend]; rfl
        rw [hb]
        dsimp only
        exact wpS_bind (wpS_modify (wpS_pure (.inr (.inl ⟨trivial, _, rfl, ⟨by lia, by lia⟩, .of hB3 hs3⟩))))
      · rw [if_neg hlt]
        refine wpS_bind (wpS_get ?_)
        have hb : (pendingOf st2).back? = none := by rw [hB2.pend]; rfl
        rw [hb]
        dsimp only
        exact wpS_bind (wpS_modify (wpS_pure (.inr (.inl ⟨trivial, m, rfl, ⟨by (apply z44 <;> assumption), hm2⟩, .of hB2 hs2⟩))))
    · dsimp only
      by_cases hge : n1 ≥ a₀.size
      · rw [if_pos hge]
        have : n1 = a₀.size := by lia
        subst this
        exact wpS_pure ⟨rfl, .inl S⟩
      · rw [if_neg hge]
        refine wpS_bind (wp_countL h0 (by lia) (by lia) S.sl fun m st2 hB2 hm1 hm2 hs2 => ?_)
        dsimp only
        by_cases hlt : m < M
        · rw [if_pos hlt]
          refine wpS_bind (wpS_lift (wpAny_rule ⟨rfl, ?_⟩))
          refine wpS_bind (wpS_binL h0 (by lia) (by lia) hB2 hs2 fun st3 hB3 hs3 => ?_)
          simp only [Bool.not_true, Bool.false_eq_true, if_false]
          refine wpS_bind (wpS_get ?_)
          have hb : (pendingOf st3).back? = some (0, n1, 0) := by rw [hB3.pend]; rfl
          rw [hb]
          dsimp only
          refine wpS_bind (wpS_mono (wpS_forRange (I := fun u_ c st'' => st3 = st'' ∧ c = (none, ())) (Q := fun c st'' => st3 = st'' ∧ c = (none, ())) ?_ (fun u_ u_ hh => hh) ⟨rfl, rfl⟩) ?_)
          · rintro y c st'' _ _ ⟨rfl, rfl⟩
            refine wpS_bind (wpS_get ?_)
            have hp : ¬ (pendingOf st3).size > 1 := by rw [hB3.pend]; exact Nat.lt_irrefl 1
            simp only [hp, if_false]
            exact wpS_pure ⟨rfl, rfl⟩
          · rintro c st'' ⟨rfl, rfl⟩
            dsimp only
            refine wpS_bind (wpS_modify (wpS_bind (wpS_modify (wpS_pure (.inr (.inr ⟨Nat.le_refl _, by rw [show n1 + min (a₀.size - n1) M = a₀.size by lia], n1, _, by lia, .of S.fst (by lia) hB3 hs3⟩))))))
        · rw [if_neg hlt]
          have hm : m = a₀.size - n1 := by lia
          subst hm
          refine wpS_bind (wpS_get ?_)
          have hb : (pendingOf st2).back? = some (0, n1, 0) := by rw [hB2.pend]; rfl
          rw [hb]
          dsimp only
          refine wpS_bind (wpS_mono (wpS_forRange (I := fun u_ c st'' => st2 = st'' ∧ c = (none, ())) (Q := fun c st'' => st2 = st'' ∧ c = (none, ())) ?_ (fun u_ u_ hh => hh) ⟨rfl, rfl⟩) ?_)
          · rintro y c st'' _ _ ⟨rfl, rfl⟩
            refine wpS_bind (wpS_get ?_)
            have hp : ¬ (pendingOf st2).size > 1 := by rw [hB2.pend]; exact Nat.lt_irrefl 1
            simp only [hp, if_false]
            exact wpS_pure ⟨rfl, rfl⟩
          · rintro c st'' ⟨rfl, rfl⟩
            dsimp only
            refine wpS_bind (wpS_modify (wpS_bind (wpS_modify (wpS_pure (.inr (.inr ⟨Nat.le_refl _, by rw [show n1 + (a₀.size - n1) = a₀.size by lia], n1, _, by lia, .of S.fst rfl hB2 hs2⟩))))))
    · dsimp only
      rw [if_pos (Nat.le_refl _)]
      exact wpS_pure ⟨rfl, .inr hD⟩
  case post =>
    rintro c st' ⟨rfl, hD⟩
    dsimp only
    refine wpS_bind (wpS_mono (wpS_forRange (I := fun x c st'' => c = (none, ()) ∧ (SEnd a₀ st'' ∨ (x = 0 ∧ ∃ n1 pw, (1 ≤ n1 ∧ n1 < a₀.size) ∧ S2r a₀ n1 pw st''))) (Q := fun c st'' => c = (none, ()) ∧ SEnd a₀ st'') ?_ ?_ ⟨rfl, ?_⟩) ?_)
    · rintro x c st'' _ _ ⟨rfl, z⟩
      refine wpS_bind (wpS_get ?_)
      rcases z with z | ⟨rfl, n1, pw, hn, S⟩
      · rw [if_pos (by rw [z.2.2.2]; exact Nat.le_refl 1)]
        exact wpS_pure ⟨rfl, z⟩
      · have hp : (pendingOf st'').size = 2 := by rw [S.pend]; rfl
        rw [hp, if_neg (by decide)]
        refine wpS_bind (wp_mergeAt h0 hn.1 hn.2 S fun st3 z => ?_)
        simp only [Bool.not_true, Bool.false_eq_true, if_false]
        exact wpS_pure ⟨rfl, .inl z⟩
    · rintro c st'' ⟨rfl, z | ⟨hx, _⟩⟩
      · exact ⟨rfl, z⟩
      · lia
    · rcases hD with S | S
      · exact .inl ⟨S.perm, S.failed, S.fst, by rw [S.pend]; rfl⟩
      · exact .inr ⟨rfl, S⟩
    · rintro c st'' ⟨rfl, z⟩
      exact wpS_pure (h _ z.1 z.2.1 z.2.2.1)
end
end Mine.So

set_option autoImplicit false
set_option linter.unusedVariables false
set_option maxRecDepth 100000
namespace Mine.So
open PySem PyProof.Rows
section
variable {prog : Program} {w : World} {A : Around} {E : Value → Shared → Prop} {s : Shared}
theorem sort_tree2 {a : Addr} {vs : List Value} {ns : List Int} {n : Nat} {P : PySem.Fin → Shared → Prop} (ho : s.heap.get? a = some (seqObj "list" vs.toArray n))
    (hI : IntsAre vs ns) (h64 : 64 ≤ vs.length) (h128 : vs.length < 128)
    (h : ∀ (out : Array Value) (ns' : List Int), IntsAre out.toList ns' → ns'.Perm ns → ns'.Pairwise (· ≤ ·) → P (.done (.ret .none)) { s with heap := sortedHeap s.heap a vs out }) :
    wpAny (model prog w) A (Builtin.«list.sort» ⟨[.ref a], []⟩) P E s := by
  rw [list_sort_plain]
  have ha : a < s.heap.objs.size := Heap.lt_size ho
  refine wpAny_bind (listItems_at ho rfl ?_)
  refine wpAny_bind (listUpdate_at ho rfl ?_ (hsz := by rw [List.size_toArray, sizeLine_eq]; lia))
  obtain ⟨e1, ho1⟩ : ∃ e1, (s.heap.update a (Obj.mapSeq fun u_ => #[])).get? a = some (seqObj "list" #[] e1) := ⟨_, get?_update_seq ho (fun u_ => #[])⟩
  refine wpAny_bind (seqEpoch_at ho1 rfl ?_)
  refine wpAny_bind (wpAny_newTuple ?_)
  refine wpAny_bind (wpAny_newList ?_)
  refine wpAny_holding ?_
  have ho6 : (((s.heap.update a (Obj.mapSeq fun u_ => #[])).push (seqObj "tuple" vs.toArray 0)).push (seqObj "list" #[] 0)).get? a = some (seqObj "list" #[] e1) := by
    rw [Heap.get?_push_ne _ _ _ (by rw [size_push', Heap.size_update]; exact Nat.ne_of_lt (Nat.lt_succ_of_lt ha)), Heap.get?_push_ne _ _ _ (by rw [Heap.size_update]; exact Nat.ne_of_lt ha)]
    exact ho1
  show wpAny (model prog w) A _ P E { s with heap := ((s.heap.update a (Obj.mapSeq fun u_ => #[])).push (seqObj "tuple" vs.toArray 0)).push (seqObj "list" #[] 0) }
  dsimp only
  have hsz : vs.toArray.size = vs.length := List.size_toArray
  rw [if_neg (by lia), if_neg (by lia)]
  obtain ⟨v₁, v₂, rest, rfl⟩ : ∃ v₁ v₂ rest, vs = v₁ :: v₂ :: rest := by
    cases vs with
    | nil => exact absurd h64 (by decide)
    | cons v₁ r =>
      cases r with
      | nil => exact absurd (show 64 ≤ 1 from h64) (by decide)
      | cons v₂ rest => exact ⟨v₁, v₂, rest, rfl⟩
  rw [keyKind_ints hI]
  refine wpAny_bind (wpAny_pure ?_)
  refine wpAny_bind (wpAny_mono (wpS_sortRuns2 (a₀ := pairsOf (v₁ :: v₂ :: rest)) (st := SortSt.mk' oneType' ((v₁ :: v₂ :: rest).toArray.zip (v₁ :: v₂ :: rest).toArray) #[] 7 none)
    (Q := fun u_ st' => (arrOf st').Perm (pairsOf (v₁ :: v₂ :: rest)) ∧ failedOf st' = none ∧ SortedTo (arrOf st') (pairsOf (v₁ :: v₂ :: rest)).size)
    hI.intKeys ⟨Array.Perm.refl _, rfl, rfl, rfl⟩ (by rw [pairsOf_size]; exact h64) (by rw [pairsOf_size]; exact h128) fun st' a1 a2 a3 => ⟨a1, a2, a3⟩) ?_ fun u_ u_ e => e)
  rintro ⟨⟨⟩, st'⟩ s' ⟨rfl, hp, hf, hs⟩
  dsimp only
  refine wpAny_bind (seqEpoch_at ho6 rfl ?_)
  refine wpAny_bind (listUpdate_at ho6 rfl ?_ (hsz2 := by refine Nat.le_trans (Nat.le_of_eq ((Array.size_map ..).trans (hp.size_eq.trans (pairsOf_size _)))) ?_; rw [sizeLine_eq]; lia))
  rw [hf]
  simp only [bne_self_eq_false, Bool.false_eq_true, if_false]
  obtain ⟨ns', h1, h2, h3⟩ := sorted_out hI hp hs
  exact wpAny_pure (h _ ns' h1 h2 h3)
theorem sorted_ints2 {l : Addr} {vs : List Value} {ns : List Int} {Q : Value → Shared → Prop} (hl : s.heap.IsList l vs.toArray) (hI : IntsAre vs ns) (h128 : vs.length < 128)
    (h : ∀ (out : Array Value) (ns' : List Int), IntsAre out.toList ns' → ns'.Perm ns → ns'.Pairwise (· ≤ ·) → Q (.ref (s.heap.objs.size + 1)) { s with heap := sortedAll s.heap vs out }) :
    wpAny (model prog w) A (call (.builtin "sorted") [.ref l]) Q E s := by
  rcases Nat.lt_or_ge vs.length 64 with h64 | h64
  · exact sorted_ints hl hI h64 h
  refine Calls.call_function_entry kind_sorted plain_sorted entry_sorted (args_sorted1 _) ?_
  unfold Builtin.«sorted»
  refine wpAny_bind (m := checkCount "sorted" 1 1 _) (wpAny_pure ?_)
  refine wpAny_bind (collect_list hl ?_ (by rw [sizeLine_eq]; lia))
  refine wpAny_bind (wpAny_newList ?_)
  have hsz : ((s.heap.push (seqObj "list" #[] 0)).update s.heap.objs.size (Obj.mapSeq (· ++ vs.toArray))).objs.size = s.heap.objs.size + 1 := by
    rw [Heap.size_update, size_push']
  have hoL : (((s.heap.push (seqObj "list" #[] 0)).update s.heap.objs.size (Obj.mapSeq (· ++ vs.toArray))).push (seqObj "list" vs.toArray 0)).get? (s.heap.objs.size + 1) = some (seqObj "list" vs.toArray 0) := by
    rw [← hsz]; exact Heap.get?_push_size _ rfl
  show wpAny _ _ _ _ _ { s with heap := ((s.heap.push (seqObj "list" #[] 0)).update s.heap.objs.size (Obj.mapSeq (· ++ vs.toArray))).push (seqObj "list" vs.toArray 0) }
  rw [hsz]
  refine wpAny_bind (wpAny_holding (wpAny_call_entry slot_list_sort ⟨_, hoL, rfl⟩ entry_list_sort (sort_tree2 hoL hI h64 h128 fun out ns' a1 a2 a3 => ⟨_, rfl, ?_⟩) (args_list_sort _)))
  exact wpAny_pure ⟨_, rfl, h out ns' a1 a2 a3⟩
end
end Mine.So



set_option backward.match.sparseCases false
set_option autoImplicit false
set_option linter.unusedVariables false
namespace Mine
open PySem PyProof.Rows PySem.SeqAt

section
variable {cx : Cx} {A : Around} {p : Addr → Prop} {w : Wl} {H : AHeap}
theorem toList_eraseIdx (vs : Array Value) (k : Nat) (hk : k < vs.size) : (vs.eraseIdxIfInBounds k).toList = vs.toList.eraseIdx k := by
  rw [Array.eraseIdxIfInBounds, dif_pos hk]; exact Array.toList_eraseIdx
theorem St.listTurn (S : St cx w H) {i : Nat} {a : Addr} {ws : Array Value} {n : Nat} {xs : List AV} (f : Array Value → Array Value) (hl : w.ι[i]? = some a) (hL : IsL w.s.heap a ws n) (hz : xs.length ≤ LIM) (hs : VRs cx w xs (f ws).toList) :
    Le No w ⟨w.ι, w.π, { w.s with heap := w.s.heap.update a (Obj.mapSeq f) }⟩ ∧ St cx ⟨w.ι, w.π, { w.s with heap := w.s.heap.update a (Obj.mapSeq f) }⟩ (H.set i (.list xs)) :=
  S.turn (t := w.s.toks) hl (fun b q hb e => (Heap.get?_update_other _ _ (Ne.symm hb)).trans e) fun l => ⟨_, _, IsL.update hL f, hz, hs.mono l⟩
theorem turn_post (S : St cx w H) {i : Nat} {a : Addr} {ws : Array Value} {n : Nat} {xs : List AV} {c : AV} {v : Value} {r : Except Str AV} {H' : AHeap} (f : Array Value → Array Value) (hl : w.ι[i]? = some a) (hL : IsL w.s.heap a ws n) (hz : xs.length ≤ LIM) (hs : VRs cx w xs (f ws).toList) (rc : VR cx w c v)
    (he : (do setAt i (.list xs); pure c : M AV) H = some (r, H')) : Post cx p w (VR cx) r H' v { w.s with heap := w.s.heap.update a (Obj.mapSeq f) } := by
  cases he
  obtain ⟨l, S'⟩ := S.listTurn f hl hL hz hs
  exact ⟨_, _, _, rfl, l.no, S', rc.mono l⟩
section
variable {i : Nat} {a : Addr} {xs : List AV} {ws : Array Value} {n : Nat} (hl : w.ι[i]? = some a) (hL : IsL w.s.heap a ws n) (hz : xs.length ≤ LIM) (hs : VRs cx w xs ws.toList)
include hl hL hz hs
theorem append_rf : ∀ {as : List AV} {vs : List Value}, VRs cx w as vs → Rf cx A p w (VR cx) (mAppend i xs as) (PySem.call (.builtin "list.append") (.ref a :: vs))
  | [], _, _ => .stuck
  | _ :: _ :: _, _, _ => .stuck
  | [c], vs, r => r.consE fun v us rc r0 => r0.nilE (ite_rf (fun h H S q H' he => call_meets F.slot_list_append ⟨_, hL, rfl⟩ F.entry_list_append (F.args_list_append_2 _ _) (list_append _ ws n v (by rw [hs.size]; exact Nat.le_trans hz LIM_le))
      ⟨hL, turn_post S (fun x1 => x1.push v) hl hL (by rw [List.length_append]; exact h) (by rw [Array.toList_push]; exact hs.append (.cons rc .nil)) .none he⟩) fun u_ => .stuck)
theorem popAt_post {j : Nat} {y : AV} {yv : Value} (S : St cx w H) (hy : xs[j]? = some y) (ry : VR cx w y yv) {r : Except Str AV} {H' : AHeap} (he : popAt i xs j H = some (r, H')) : Post cx p w (VR cx) r H' yv { w.s with heap := w.s.heap.update a (Obj.mapSeq fun x1 => x1.eraseIdxIfInBounds j) } := by
  unfold popAt at he
  rw [hy] at he
  exact turn_post S (fun x1 => x1.eraseIdxIfInBounds j) hl hL (Nat.le_trans (List.length_eraseIdx_le xs j) hz) (by rw [toList_eraseIdx _ _ (by rw [hs.size]; exact (List.getElem?_eq_some_iff.mp hy).1)]; exact hs.eraseIdx j) ry he
theorem pop_rf {as : List AV} {vs : List Value} (r : VRs cx w as vs) : Rf cx A p w (VR cx) (mPop i xs as) (PySem.call (.builtin "list.pop") (.ref a :: vs)) := by
  have hLIM := LIM_is
  have hsz := hs.size
  have hw : ws.size ≤ sizeLine := by rw [hsz]; exact Nat.le_trans hz LIM_le
  match as, r with
  | [], r =>
    refine r.nilE ?_
    cases hy : xs[xs.length - 1]? with
    | none => show Rf cx A p w (VR cx) (popAt i xs (xs.length - 1)) _; unfold popAt; rw [hy]; exact .stuck
    | some y =>
      obtain ⟨yv, hyv, ry⟩ := hs.get hy
      exact fun H S q H' he => call_meets F.slot_list_pop ⟨_, hL, rfl⟩ F.entry_list_pop (F.args_list_pop_1 _) (MeetsSeq.list_pop_last _ ws n yv (by rw [← Array.getElem?_toList, hsz]; exact hyv) hw) ⟨hL, by rw [hsz]; exact popAt_post hl hL hz hs S hy ry he⟩
  | [c], r =>
    cases c with
    | int k =>
      refine r.consE fun v us rc r0 => r0.nilE (rc.intE fun t => ite_rf (fun hk => ?_) fun u_ => .stuck)
      cases hy : xs[k.toNat]? with
      | none => unfold popAt; rw [hy]; exact .stuck
      | some y =>
        obtain ⟨yv, hyv, ry⟩ := hs.get hy
        exact fun H S q H' he => call_meets F.slot_list_pop ⟨_, hL, rfl⟩ F.entry_list_pop (F.args_list_pop_2 _ _) (MeetsSeq.list_pop_at _ ws n k _ k.toNat yv (fitsIndex_of hk.1 (by (first | lia | omega))) (seqIndex_of hk.1 (by (first | lia | omega))) (by rw [← Array.getElem?_toList]; exact hyv) hw) ⟨hL, popAt_post hl hL hz hs S hy ry he⟩
    | _ => exact .stuck
  | _ :: _ :: _, _ => exact .stuck
theorem clear_rf {as : List AV} {vs : List Value} (r : VRs cx w as vs) : Rf cx A p w (VR cx) (mClear i as) (PySem.call (.builtin "list.clear") (.ref a :: vs)) := by
  cases as with
  | nil => exact r.nilE fun H S q H' he => call_meets F.slot_list_clear ⟨_, hL, rfl⟩ F.entry_list_clear (F.args_list_clear_1 _) (AutoSeq1.list_clear_list_0 _ ws n (by rw [hs.size]; exact Nat.le_trans hz LIM_le)) ⟨hL, turn_post S (fun u_ => #[]) hl hL (Nat.zero_le _) .nil .none he⟩
  | cons _ _ => exact .stuck
end
set_option tactic.hygienic true in
theorem count_rf (R : Room A) {xs : List AV} {a : Addr} {ws : Array Value} {n : Nat} (hL : IsL w.s.heap a ws n) (hs : VRs cx w xs ws.toList) : ∀ {as : List AV} {vs : List Value}, VRs cx w as vs → Rf cx A p w (VR cx) (mCount xs as) (PySem.call (.builtin "list.count") (.ref a :: vs))
  | [], _, _ => .stuck
  | _ :: _ :: _, _, _ => .stuck
  | [c], vs, r => r.consE fun v us rc r0 => r0.nilE fun H S q H' he => by
    have he : countM xs c H = some (q, H') := he
    unfold countM at he
    split at he
    · rename_i ys y h1 h2
      cases he
      refine byC fun C_ k_ => ?_
      obtain ⟨as, q1, q2, q3⟩ := rds_sound 7 (rd_sound S 7) hs h1
      obtain ⟨bs, p1, p2, p3⟩ := rd_sound S 8 rc h2
      refine k_ ?_
      clear k_ C_
      refine call_meets F.slot_list_count ⟨_, hL, rfl⟩ F.entry_list_count (F.args_list_count_2 _ _) (list_countAt a ws n none #[] v (fun y' => PyData.eqv (readOf w.s.heap y') y)) ⟨hL, ?_, ?_⟩
      · exact items_eqAt q1 p1 q2 p2 (room_min1 (R := R) p3)
      · have : ws.toList.countP (fun z => PyData.eqv (readOf w.s.heap z) y) = ys.countP (fun z => PyData.eqv z y) := by rw [← readsAll_map ys _ _ q2 q1, List.countP_map]; rfl
        rw [this]
        exact .tok S _ .int
    · cases he
noncomputable def mtId : Mt → String
  | .append => "list.append"
  | .pop => "list.pop"
  | .clear => "list.clear"
  | .count => "list.count"
theorem methL_rf (R : Room A) {m : Mt} {i : Nat} {a : Addr} {xs as : List AV} {ws : Array Value} {n : Nat} {vs : List Value} (hl : w.ι[i]? = some a) (hL : IsL w.s.heap a ws n) (hz : xs.length ≤ LIM) (hs : VRs cx w xs ws.toList) (r : VRs cx w as vs) :
    Rf cx A p w (VR cx) (methL i xs as m) (PySem.call (.builtin (mtId m)) (.ref a :: vs)) := by
  cases m with
  | append => exact append_rf hl hL hz hs r
  | pop => exact pop_rf hl hL hz hs r
  | clear => exact clear_rf hl hL hz hs r
  | count => exact count_rf R hL hs r

noncomputable def biV : BI → Value
  | .len => .builtin "len"
  | .list => .type "list"
  | .tuple => .type "tuple"
  | .dict => .type "dict"
  | .int => .type "int"
  | .range => .type "range"
  | .min => .builtin "min"
  | .max => .builtin "max"
  | .any => .builtin "any"
  | .sorted => .builtin "sorted"
theorem small_of {a b : Int} (h : (small62 a && small62 b) = true) : Builtin.Range.small a b 1 = true := by
  unfold small62 at h
  simp only [Bool.and_eq_true, decide_eq_true_eq] at h
  exact small_one h.1.1 h.1.2 h.2.1 h.2.2
theorem range_count (a b : Int) : Builtin.Range.rangeSize a b 1 = ((b - a).toNat : Nat) := by
  rw [rangeSize_one]; split <;> (first | lia | omega)
theorem VRs.at {xs : List AV} : ∀ {vs : List Value}, xs.length = vs.length → (∀ (j : Nat) a v, xs[j]? = some a → vs[j]? = some v → VR cx w a v) → VRs cx w xs vs := by
  induction xs with
  | nil => intro vs h _; rw [List.eq_nil_of_length_eq_zero h.symm]; exact .nil
  | cons a xs ih =>
    intro vs h k
    cases vs with
    | nil => first | exact no_some h | exact no_true h | cases h
    | cons v vs => exact .cons (k 0 a v rfl rfl) (ih (Nat.succ.inj h) fun j b u h1 h2 => k (j + 1) b u h1 h2)
theorem one_rf {as : List AV} {f : AV → M AV} {vs : List Value} {c : Value} (r : VRs cx w as vs) (k : ∀ a v, VR cx w a v → Rf cx A p w (VR cx) (f a) (PySem.call c [v])) : Rf cx A p w (VR cx) (one as f) (PySem.call c vs) := by
  match as, r with
  | [], _ => exact .stuck
  | _ :: _ :: _, _ => exact .stuck
  | [a], r => exact r.consE fun v us ra r0 => r0.nilE (k a v ra)
theorem len_rf {a : AV} {v : Value} (ra : VR cx w a v) : Rf cx A p w (VR cx) (do let xs ← seqOf a; pure (.int xs.length)) (PySem.call (.builtin "len") [v]) := .read (seqOf_rd ra) fun xs ⟨l, ws, n, e, hl, hz, hvs⟩ => by
  subst e
  have hsz := hvs.size
  have hLIM := LIM_is
  cases hl with
  | list hl => exact .leaf fun H S => PySem.Calls.call_len_list hl.isList (by (first | lia | omega)) (by rw [hsz]; exact .tok S _ .int)
  | tuple hl => exact .leaf fun H S => P.len_tuple hl (by (first | lia | omega)) (by rw [hsz]; exact .tok S _ .int)
theorem list_rf (hh : A.handled = none) {mu : Bool} {a : AV} {v : Value} (ra : VR cx w a v) : Rf cx A p w (VR cx) (bList mu a) (PySem.call (.type "list") [v]) := by
  have seqs : Rf cx A p w (VR cx) (do let xs ← seqOf a; newL mu xs) (PySem.call (.type "list") [v]) := .read (seqOf_rd ra) fun xs ⟨l, ws, n, e, hl, hz, hvs⟩ H S r H' he => by
    subst e
    have hw : ws.size ≤ sizeLine := by rw [hvs.size]; exact Nat.le_trans hz LIM_le
    cases hl with
    | list hl => exact call_list_seq l (.inl rfl) hl rfl rfl (fun h' c' hk hL => newL_post S he (t := w.s.toks) hk (get_size _) hL hvs) hw
    | tuple hl => exact call_list_seq l (.inr rfl) hl rfl rfl (fun h' c' hk hL => newL_post S he (t := w.s.toks) hk (get_size _) hL hvs) hw
  cases a with
  | range a b =>
    refine ra.rangeE fun d t u x hr hf => ite_rf (fun hsm H S r H' he => ?_) fun u_ => .stuck
    have hlen := newL_len he
    unfold rangeL at hlen
    rw [List.length_map, List.length_range] at hlen
    refine call_list_range hh hr (small_of hsm) (range_count _ _) (Nat.le_trans hlen LIM_le) fun h' tk acc' c' hk hL hit => newL_post S he hk (get_size _) hL ?_
    unfold rangeL
    refine .at (by rw [List.length_map, List.length_range]; exact hit.1.symm) fun j a v h1 h2 => ?_
    rw [List.getElem?_map] at h1
    refine byC fun C_ k_ => ?_
    obtain ⟨i, h3, rfl⟩ := Option.map_eq_some_iff.mp h1
    obtain ⟨h4, h5⟩ := List.getElem?_eq_some_iff.mp h3
    rw [List.getElem_range] at h5
    subst h5
    obtain ⟨t, rfl⟩ := hit.2 j v (by rw [← Array.getElem?_toList]; exact h2)
    refine k_ ?_
    clear k_ C_
    rw [Int.mul_one]; exact .int
  | _ => exact seqs
theorem tuple_rf {a : AV} {v : Value} (ra : VR cx w a v) : Rf cx A p w (VR cx) (do let xs ← listOf a; pure (.tup xs)) (PySem.call (.type "tuple") [v]) := .read (listOf_rd ra) fun xs ⟨l, ws, n, e, hl, hz, hvs⟩ => .leaf fun H S => by
  subst e
  refine call_tuple_list hl.isList (fun h' hk => ?_) (by rw [hvs.size]; exact Nat.le_trans hz LIM_le)
  have l1 : Le No w ⟨w.ι, w.π, { w.s with heap := h' }⟩ := .keeps hk
  have S₁ : St cx ⟨w.ι, w.π, { w.s with heap := h' }⟩ H := S.keeps (t := w.s.toks) hk
  exact ⟨w.ι, w.π, _, rfl, .trans (b := ⟨w.ι, w.π, { w.s with heap := h' }⟩) l1.no (.keeps (pushk _)), S₁.keeps (t := w.s.toks) (pushk _), .tup (IsT.new _ _) (S₁.new (get_size _)) hz ((hvs.mono l1).mono (p := No) (.keeps (pushk _)))⟩
theorem dict_rf {a : AV} {v : Value} (ra : VR cx w a v) : Rf cx A p w (VR cx) (bDict a) (PySem.call (.type "dict") [v]) := by
  cases a with
  | loc i =>
    refine ra.locE fun l hl => .read (dictAt_rd hl) fun es ⟨kvs, h1, h2, h3, h4⟩ H S r H' he => ?_
    cases he
    refine kt_call_dict h2.1 h1 (by have := congrArg List.length h3; simp only [List.length_map] at this; have := LIM_le; (first | lia | omega)) fun h' hd' hsb => ?_
    have hk : ∀ b q, w.s.heap.get? b = some q → h'.get? b = some q := fun b q e => (hsb.2 b (Nat.ne_of_lt (Heap.lt_size e))).trans (Heap.get?_push_of_some _ e)
    obtain ⟨l1, S'⟩ := S.alloc (t := w.s.toks) (o := .dict es) hk (get_size _) fun l1 => ⟨kvs, hd', ⟨S.not_sys, h2.2⟩, h3, h4.mono l1⟩
    exact ⟨_, _, _, rfl, l1.no, S', .loc (by rw [← S.len]; exact List.getElem?_concat_length)⟩
  | _ => exact .stuck
theorem int_rf {a : AV} {v : Value} (ra : VR cx w a v) : Rf cx A p w (VR cx) (bInt a) (PySem.call (.type "int") [v]) := by
  cases a with
  | bool b => exact ra.boolE (.leaf fun H S => call_int_bool (.tok S _ .int))
  | _ => exact .stuck
theorem range_rf {as : List AV} {vs : List Value} (r : VRs cx w as vs) : Rf cx A p w (VR cx) (bRange as) (PySem.call (.type "range") vs) := by
  match as, r with
  | [], _ => exact .stuck
  | _ :: _ :: _ :: _, _ => exact .stuck
  | [a], r =>
    refine r.consE fun v us ra r0 => r0.nilE ?_
    cases a with
    | int i => exact ra.intE fun t => .leaf fun H S => call_range_1 ⟨w.ι, w.π, _, rfl, .keeps (pushk _), S.keeps (pushk _), ⟨_, _, _, _, rfl, IsRange.new .., S.new (get_size _)⟩⟩
    | _ => exact .stuck
  | [a, b], r =>
    refine r.consE fun v us ra r0 => r0.consE fun v' us' rb r1 => r1.nilE ?_
    cases a with
    | int i =>
      cases b with
      | int j => exact ra.intE fun t => rb.intE fun u => .leaf fun H S => call_range_2 ⟨w.ι, w.π, _, rfl, .keeps (pushk _), S.keeps (pushk _), ⟨_, _, _, _, rfl, IsRange.new .., S.new (get_size _)⟩⟩
      | _ => exact .stuck
    | _ => exact .stuck
theorem min_rf (hh : A.handled = none) {as : List AV} {vs : List Value} (r : VRs cx w as vs) : Rf cx A p w (VR cx) (bMin as) (PySem.call (.builtin "min") vs) := by
  match as, r with
  | [], _ => exact .stuck
  | [_], _ => exact .stuck
  | _ :: _ :: _ :: _, _ => exact .stuck
  | [a, b], r =>
    refine r.consE fun v us ra r0 => r0.consE fun v' us' rb r1 => r1.nilE ?_
    cases a with
    | int i =>
      cases b with
      | int j =>
        refine ra.intE fun t => rb.intE fun u => .leaf fun H S => min_two_ints hh fun h' tk hk => ⟨w.ι, w.π, _, rfl, .keeps hk, S.keeps hk, ?_⟩
        split <;> exact .int
      | _ => exact .stuck
    | _ => exact .stuck
theorem ints_items : ∀ {xs : List AV} {vs : List Value} {is : List Int}, VRs cx w xs vs → intsOf xs = some is → ∃ ps : List (Int × Tok), vs = ps.map (fun p => .int p.1 p.2) ∧ ps.map (·.1) = is
  | [], vs, is, r, e => by cases e; exact ⟨[], r, rfl⟩
  | .int i :: xs, vs, is, ⟨v, us, q, ⟨t, r⟩, rs⟩, e => by
    refine byC fun C_ k_ => ?_
    obtain ⟨js, h1, rfl⟩ := Option.map_eq_some_iff.mp (show (intsOf xs).map (i :: ·) = some is from e)
    obtain ⟨ps, h2, h3⟩ := ints_items rs h1
    refine k_ ?_
    clear k_ C_
    exact ⟨(i, t) :: ps, by rw [q, r, h2]; rfl, by rw [← h3]; rfl⟩
  | .none :: _, _, _, _, e | .bool _ :: _, _, _, _, e | .str _ :: _, _, _, _, e | .tup _ :: _, _, _, _, e | .lst _ :: _, _, _, _, e | .loc _ :: _, _, _, _, e | .range _ _ :: _, _, _, _, e | .cdict _ :: _, _, _, _, e => by cases e
theorem intsAre_pairs : ∀ ps : List (Int × Tok), IntsAre (ps.map fun p => .int p.1 p.2) (ps.map (·.1))
  | [] => .nil
  | p :: r => .cons _ _ (intsAre_pairs r)
theorem vrs_ints : ∀ {vs : List Value} {ns : List Int}, IntsAre vs ns → VRs cx w (ns.map .int) vs
  | _, _, .nil => .nil
  | _, _, .cons _ _ r => .cons .int (vrs_ints r)
theorem perm_sorted {l l' : List Int} (hp : l.Perm l') (h : l.Pairwise (· ≤ ·)) (h' : l'.Pairwise (· ≤ ·)) : l = l' :=
  hp.eq_of_pairwise (le := (· ≤ ·)) (fun a b u_ u_ h1 h2 => Int.le_antisymm h1 h2) h h'
theorem sorted_rf {mu : Bool} {a : AV} {v : Value} (ra : VR cx w a v) : Rf cx A p w (VR cx) (do let xs ← listOf a; let is ← ofOpt (intsOf xs); if is.length < 128 then newL mu ((sortI is).map .int) else stuck) (PySem.call (.builtin "sorted") [v]) :=
  .read (listOf_rd ra) fun xs ⟨l, ws, n, e, hl, hz, hvs⟩ => .read .opt fun is h8 => ite_rf (fun h64 H S r H' he => by
    subst e
    obtain ⟨ps, hps, his⟩ := ints_items hvs h8
    have hI : IntsAre ws.toList is := by rw [hps, ← his]; exact intsAre_pairs ps
    have hl' : w.s.heap.IsList l ws.toList.toArray := by simpa using hl.isList
    refine So.sorted_ints2 hl' hI (by rw [hps, List.length_map]; have := congrArg List.length his; rw [List.length_map] at this; (first | lia | omega)) fun out ns' a1 a2 a3 => ?_
    obtain ⟨e, he'⟩ := sortedAll_at w.s.heap ws.toList out
    have hns : ns' = sortI is := perm_sorted (a2.trans (List.mergeSort_perm _ _).symm) a3 (by
      have := List.pairwise_mergeSort (le := fun (a b : Int) => decide (a ≤ b)) (by intro a b c; simp; (first | lia | omega)) (by intro a b; simp; (first | lia | omega)) is
      simpa [sortI] using this)
    have hget : w.s.heap.get? (w.s.heap.objs.size + 1) = none := Heap.get?_none_of_le (Nat.le_succ _)
    refine newL_post S he (t := w.s.toks) (fun b q => sortedAll_old) hget (vs := out) (n := e) he' ?_
    rw [← hns]
    exact vrs_ints a1) fun u_ => .stuck
theorem bi_rf (hh : A.handled = none) {mu : Bool} {b : BI} {as : List AV} {vs : List Value} (r : VRs cx w as vs) : Rf cx A p w (VR cx) (pBI mu b as) (PySem.call (biV b) vs) := by
  cases b with
  | len => exact one_rf r fun a v ra => len_rf ra
  | list => exact one_rf r fun a v ra => list_rf hh ra
  | tuple => exact one_rf r fun a v ra => tuple_rf ra
  | dict => exact one_rf r fun a v ra => dict_rf ra
  | int => exact one_rf r fun a v ra => int_rf ra
  | range => exact range_rf r
  | min => exact min_rf hh r
  | max => exact .stuck
  | any => exact .stuck
  | sorted => exact one_rf r fun a v ra => sorted_rf ra
end
end Mine


set_option autoImplicit false
set_option linter.unusedVariables false
namespace Mine
open PySem PyProof.Rows PySem.SeqAt

def EvOK (cx : Cx) (A : Around) (env : Env) (I : Wl → Prop) (ev : Expr → M AV) : Prop := ∀ e w, I w → Rf cx A No w (VR cx) (ev e) (eval e env)
def Stable (I : Wl → Prop) : Prop := ∀ w w', I w → Le No w w' → I w'
section
variable {cx : Cx} {A : Around} {p : Addr → Prop} {w : Wl} {α β γ δ : Type} {R : Wl → α → β → Prop} {m : M α} {t : Sem β}
theorem Rf.pureL {b : γ} {k : γ → Sem β} (x : Rf cx A p w R m (k b)) : Rf cx A p w R m (Pure.pure b >>= k) := fun H S r H' h => wpAny_bind (wpAny_pure (x H S r H' h))
theorem Rf.pureR {a : γ} {f : γ → M α} (x : Rf cx A p w R (f a) t) : Rf cx A p w R (Pure.pure a >>= f) t := by rw [pure_bind]; exact x
theorem Rf.operate {R : Wl → α → Value → Prop} {t : Sem Value} {vs : List Value} (x : Rf cx A p w R m t) : Rf cx A p w R m (PySem.operate vs t) := fun H S r H' h => wpAny_operating (x H S r H' h)
theorem Rf.release {vs ks : List Value} (x : Rf cx A p w R m t) : Rf cx A p w R m (PySem.release vs ks >>= fun u_ => t) := fun H S r H' h => wpAny_bind (wpAny_release' (x H S r H' h))
theorem Rf.wp {t' : Sem β} (x : Rf cx A p w R m t) (h : ∀ {Q : β → Shared → Prop} {E : Value → Shared → Prop}, wpAny (model cx.prog cx.w) A t Q E w.s → wpAny (model cx.prog cx.w) A t' Q E w.s) : Rf cx A p w R m t' := fun H S r H' e => h (x H S r H' e)
end
section
variable {cx : Cx} {A : Around} {w : Wl} {env : Env} {I : Wl → Prop} {ev : Expr → M AV}
theorem exOk_star {e : Expr} {r : List Expr} (h : exOk e = true) : starEach (e :: r) env = (false, eval e env) :: starEach r env := by
  cases e <;> first | rfl | (cases h; done)
theorem exOk_behind {op : CmpOp} {e : Expr} {t : Sem Value} (h : exOk e = true) : markedBehindIn op e t = t := by
  cases e <;> first | rfl | (cases h; done)
theorem exOk_set {e : Expr} {v : Value} (h : exOk e = true) : foldedSetIterable e env v = pure v := by
  cases e <;> first | rfl | (cases h; done)
def VRn (cx : Cx) (n : Nat) (w : Wl) (as : List AV) (vs : List Value) : Prop := VRs cx w as vs ∧ as.length = n
theorem all_rf (hst : Stable I) (hev : EvOK cx A env I ev) (pos : Pos) : ∀ (es : List Expr) {w : Wl}, es.all exOk = true → I w → Rf cx A No w (VRn cx es.length) (evAll ev es) (spliced (backTo pos (starEach es env)))
  | [], w, _, i => .pure ⟨rfl, rfl⟩
  | e :: r, w, h, i => by
    rw [List.all_cons, Bool.and_eq_true] at h
    rw [exOk_star h.1]
    exact .bind (hev e w i) fun w1 a v l1 r1 => .pureL (.bind (.holding (all_rf hst hev pos r h.2 (hst _ _ i l1))) fun w2 as vs l2 r2 => .pure ⟨.cons (r1.mono l2) r2.1, congrArg Nat.succ r2.2⟩)
theorem each_rf (hst : Stable I) (hev : EvOK cx A env I ev) (pos : Pos) (es : List Expr) (i : I w) : Rf cx A No w (VRn cx es.length) (evEach ev es) (spliced (backTo pos (starEach es env))) := ite_rf (fun h => all_rf hst hev pos es h i) fun u_ => .stuck
theorem bOp_rf (hst : Stable I) (hev : EvOK cx A env I ev) (pos : Pos) (op : BoolOp) : ∀ (es : List Expr) {w : Wl}, I w → Rf cx A No w (VR cx) (bOp ev op es) (boolOp pos op (evalEach es env))
  | [], w, i => .stuck
  | [e], w, i => hev e w i
  | e :: e2 :: r, w, i => by
    show Rf cx A No w (VR cx) _ (boolOp pos op (eval e env :: eval e2 env :: evalEach r env))
    refine Rf.bind (t := eval e env) (hev e w i) fun w1 a v l1 r1 => .standAt (.bind (.holding (truth_rf r1)) fun w2 x y l2 ⟨q1, q2⟩ => ?_)
    subst q1; subst q2
    have hb := r1.mono l2
    have ih := bOp_rf hst hev pos op (e2 :: r) (hst _ _ (hst _ _ i l1) l2)
    cases op <;> cases x
    · exact .pure hb
    · exact ih
    · exact ih
    · exact .pure hb
theorem marked_cons {op op' : CmpOp} {ops : List CmpOp} {e e' : Expr} {es : List Expr} : markedEach (op :: op' :: ops) (e :: e' :: es) (evalEach (e :: e' :: es) env) = eval e env :: markedEach (op' :: ops) (e' :: es) (evalEach (e' :: es) env) := rfl
theorem compareChain_one {pos : Pos} {v : Value} {op : CmpOp} {x : Sem Value} : compareChain pos v [op] [x] = (do
    let rv ← holding [v] x
    standAt pos
    operate [v, rv] (compareOp op v rv)) := rfl
theorem testChain_one {pos : Pos} {v : Value} {op : CmpOp} {x : Sem Value} : testChain pos v [op] [x] = (do
    let rv ← holding [v] x
    standAt pos
    let c ← operate [v, rv] (compareOp op v rv)
    holding [c] (truthy c)) := rfl
theorem compareChain_two {pos : Pos} {v : Value} {op op' : CmpOp} {ops : List CmpOp} {x : Sem Value} {T : List (Sem Value)} : compareChain pos v (op :: op' :: ops) (x :: T) = (do
    let rv ← holding [v] x
    standAt pos
    let c ← holding [v, rv] (compareOp op v rv)
    release [v, rv] [c]
    if ← holding [c, rv] (truthy c) then compareChain pos rv (op' :: ops) T else pure c) := rfl
theorem testChain_two {pos : Pos} {v : Value} {op op' : CmpOp} {ops : List CmpOp} {x : Sem Value} {T : List (Sem Value)} : testChain pos v (op :: op' :: ops) (x :: T) = (do
    let rv ← holding [v] x
    standAt pos
    let c ← holding [v, rv] (compareOp op v rv)
    release [v, rv] [c]
    if ← holding [c, rv] (truthy c) then testChain pos rv (op' :: ops) T else pure false) := rfl
theorem truthB_rf {b : Bool} {p : Addr → Prop} {α β : Type} {R : Wl → α → β → Prop} {m : M α} {vs : List Value} {k : Bool → Sem β} (x : Rf cx A p w R m (k b)) : Rf cx A p w R m (holding vs (truthy (.bool b)) >>= k) := fun H S r H' h => wpAny_bind (wpAny_holding (wpAny_truthy_bool (x H S r H' h)))
def Rt (w : Wl) (a b : Bool) : Prop := a = b
theorem chain_rf (R : Room A) (hst : Stable I) (hev : EvOK cx A env I ev) (pos : Pos) : ∀ (ops : List CmpOp) (es : List Expr) {w : Wl} {a : AV} {v : Value}, I w → VR cx w a v →
    Rf cx A No w Rb (chain ev a ops es) (compareChain pos v ops (markedEach ops es (evalEach es env)))
  | [], _, w, a, v, i, r => .stuck
  | [op], [], w, a, v, i, r => .stuck
  | [op], _ :: _ :: _, w, a, v, i, r => .stuck
  | _ :: _ :: _, [], w, a, v, i, r => .stuck
  | op :: op' :: ops, [e], w, a, v, i, r => .stuck
  | [op], [e], w, a, v, i, r => ite_rf (fun hs => by
    show Rf cx A No w Rb (ev e >>= fun b => pCmp op a b) (compareChain pos v [op] [markedBehindIn op e (eval e env)])
    rw [exOk_behind hs, compareChain_one]
    exact .bind (.holding (hev e w i)) fun w1 b u l1 r1 => .standAt (.operate (cmp_rf R (r.mono l1) r1))) fun u_ => .stuck
  | op :: op' :: ops, e :: e' :: es, w, a, v, i, r => by
    rw [marked_cons, compareChain_two]
    refine .bind (.holding (hev e w i)) fun w1 b u l1 r1 => .standAt (.bind (.holding (cmp_rf R (r.mono l1) r1)) fun w2 c x l2 q => .release ?_)
    rw [show x = .bool c from q]
    refine truthB_rf ?_
    cases c with
    | true => exact chain_rf R hst hev pos (op' :: ops) (e' :: es) (hst _ _ (hst _ _ i l1) l2) (r1.mono l2)
    | false => exact .pure rfl
theorem testChain_rf (R : Room A) (hst : Stable I) (hev : EvOK cx A env I ev) (pos : Pos) : ∀ (ops : List CmpOp) (es : List Expr) {w : Wl} {a : AV} {v : Value}, I w → VR cx w a v →
    Rf cx A No w Rt (chain ev a ops es) (testChain pos v ops (markedEach ops es (evalEach es env)))
  | [], _, w, a, v, i, r => .stuck
  | [op], [], w, a, v, i, r => .stuck
  | [op], _ :: _ :: _, w, a, v, i, r => .stuck
  | _ :: _ :: _, [], w, a, v, i, r => .stuck
  | op :: op' :: ops, [e], w, a, v, i, r => .stuck
  | [op], [e], w, a, v, i, r => ite_rf (fun hs => by
    show Rf cx A No w Rt (ev e >>= fun b => pCmp op a b) (testChain pos v [op] [markedBehindIn op e (eval e env)])
    rw [exOk_behind hs, testChain_one]
    refine .bind (.holding (hev e w i)) fun w1 b u l1 r1 => .standAt (.map (.operate (cmp_rf R (r.mono l1) r1)) fun w2 c x l2 q => ?_)
    rw [show x = .bool c from q]
    exact .leaf fun H S => wpAny_holding (wpAny_truthy_bool (.here S rfl))) fun u_ => .stuck
  | op :: op' :: ops, e :: e' :: es, w, a, v, i, r => by
    rw [marked_cons, testChain_two]
    refine .bind (.holding (hev e w i)) fun w1 b u l1 r1 => .standAt (.bind (.holding (cmp_rf R (r.mono l1) r1)) fun w2 c x l2 q => .release ?_)
    rw [show x = .bool c from q]
    refine truthB_rf ?_
    cases c with
    | true => exact testChain_rf R hst hev pos (op' :: ops) (e' :: es) (hst _ _ (hst _ _ i l1) l2) (r1.mono l2)
    | false => exact .pure rfl
def TeOK (cx : Cx) (A : Around) (env : Env) (I : Wl → Prop) (te : Expr → M Bool) : Prop := ∀ e w, I w → Rf cx A No w Rt (te e) (isTrue e env (eval e env))
theorem tests_rf {te : Expr → M Bool} (hst : Stable I) (hte : TeOK cx A env I te) (op : BoolOp) : ∀ (es : List Expr) {w : Wl}, I w → Rf cx A No w Rt (tests te op es) (allTrue op es env)
  | [], w, i => .pure rfl
  | e :: r, w, i => by
    refine Rf.bind (hte e w i) fun w1 x y l1 q => ?_
    rw [← show x = y from q]
    have ih := tests_rf hst hte op r (hst _ _ i l1)
    cases op <;> cases x
    · exact .pure rfl
    · exact ih
    · exact ih
    · exact .pure rfl
theorem denT_rf (R : Room A) (hst : Stable I) (hev : EvOK cx A env I ev) : ∀ n : Nat, TeOK cx A env I (denT ev n)
  | 0 => fun e w i => .stuck
  | n + 1 => fun e w i => by
    have ih := denT_rf R hst hev n
    have fin : ∀ e, Rf cx A No w Rt (plainT ev e) (do let v ← eval e env; standAt e.pos; holding [v] (truthy v)) := fun e => ite_rf (fun u_ =>
      .bind (hev e w i) fun w1 a v l1 r1 => .standAt (.holding ((truth_rf r1).mono fun u_ u_ u_ u_ q => q.1))) fun u_ => .stuck
    cases e with
    | UnaryOp op x p =>
      cases op with
      | Not =>
        show Rf cx A No w Rt (denT ev n x >>= fun b => pure (!b)) (PySem.isTrue x env (eval x env) >>= fun b => pure (!b))
        exact .bind (ih x w i) fun w1 b c l q => .pure (congrArg not q)
      | _ => exact fin _
    | BoolOp op vs p => exact (tests_rf hst ih op vs i).wp fun h => wpAny_isTrue_BoolOp h
    | Compare l ops cs p => rw [arm_isTrue_Compare]; exact .bind (hev l w i) fun w1 a v l1 r1 => testChain_rf R hst hev _ ops cs (hst _ _ i l1) r1
    | IfExp t b o p => exact .stuck
    | _ => exact fin _
end
end Mine


set_option autoImplicit false
set_option linter.unusedVariables false
namespace Mine
open PySem PyProof.Rows PySem.SeqAt

def Own (env : Env) (b : Addr) : Prop := b = env.locals ∨ ∃ n, env.cells.lookup n = some b
structure EnvK (env : Env) (sc : Scope) : Prop where
  kind : env.scope.kind = .function
  glob : env.globals = mainGlobals
  blt : env.builtins = builtinsNs
  klocal : ∀ x, isLocal sc x = true → env.kindOf x = some .local ∨ env.kindOf x = some .cell ∨ env.kindOf x = some .free
  kcell : ∀ x, sc.names.lookup x = some .cell → env.kindOf x = some .cell
  kglob : ∀ x, isGlob sc x = true → env.kindOf x = some .globalImplicit
structure EnvR (cx : Cx) (env : Env) (sc : Scope) (ns : List Str) (σ : Loc) (w : Wl) : Prop where
  k : EnvK env sc
  pl : env.locals ∈ w.π
  nsm : ∃ m, w.s.heap.Ns env.locals m ∧ ∀ (x : Str) (i : Nat) (a : AV), ns.idxOf? x = some i → σ[i]? = some (some a) → env.kindOf x = some .local → ∃ v, m x = some v ∧ VR cx w a v
  cel : ∀ (x : Str) (i : Nat) (a : AV), ns.idxOf? x = some i → σ[i]? = some (some a) → (env.kindOf x = some .cell ∨ env.kindOf x = some .free) → ∃ c v, env.cells.lookup x = some c ∧ c ∈ w.π ∧ w.s.heap.IsCell c (some v) ∧ VR cx w a v
  has : ∀ x, ns.contains x = true → sc.names.lookup x = some .cell → ∃ c v, env.cells.lookup x = some c ∧ c ∈ w.π ∧ w.s.heap.IsCell c v
  cls : ∀ n c, env.cells.lookup n = some c → c ∈ w.π
structure Good (cx : Cx) (P : Pg) : Prop where
  g : cx.h₀.Ns mainGlobals cx.mg
  b : cx.h₀.Ns builtinsNs cx.mb
  nolim : cx.h₀.NoLimit
  glob : ∀ x a, P.glob x = some a → ∃ v, cx.mg x = some v ∧ ∀ w H, St cx w H → VR cx w a v
  bi : ∀ x b, biOf x = some b → cx.mg x = none ∧ cx.mb x = some (biV b)
  isi : cx.mg "isinstance" = none ∧ cx.mb "isinstance" = some (.builtin "isinstance")
  ty : ∀ x t, tyOf x = some t → cx.mg x = none ∧ cx.mb x = some (.type (tyStr t))
  zip : cx.mg "zip" = none ∧ cx.mb "zip" = some (.type "zip")
  enum : cx.mg "enumerate" = none ∧ cx.mb "enumerate" = some (.type "enumerate")
def CallOK (cx : Cx) (A : Around) (P : Pg) (cf : Str → List AV → M AV) : Prop := ∀ f, (P.fn f).isSome = true →
  (f == ("__debug__" : Str)) = false ∧ ∃ fa o fd, cx.mg f = some (.ref fa) ∧ cx.h₀.get? fa = some o ∧ o.data = .func fd ∧ ∀ w as vs, VRs cx w as vs → Rf cx A No w (VR cx) (cf f as) (PySem.call (.ref fa) vs)
section
variable {cx : Cx} {A : Around} {p : Addr → Prop} {w w' : Wl} {H : AHeap} {env : Env} {sc : Scope} {ns : List Str} {σ : Loc} {P : Pg}
theorem cell_keep {h h' : Heap} {c : Addr} {v : Option Value} (x : h.IsCell c v) (e : ∀ o, h.get? c = some o → h'.get? c = some o) : h'.IsCell c v := by obtain ⟨o, h1, h2⟩ := x; exact ⟨o, e o h1, h2⟩
theorem EnvR.mono (x : EnvR cx env sc ns σ w) (l : Le p w w') (hp : ∀ b, Own env b → ¬ p b) : EnvR cx env sc ns σ w' where
  k := x.k
  pl := l.pv _ x.pl (hp _ (.inl rfl))
  nsm := by obtain ⟨m, h1, h2⟩ := x.nsm; exact ⟨m, h1.at' fun o e => l.kp _ o x.pl (hp _ (.inl rfl)) e, fun y i a q1 q2 q3 => let ⟨v, r1, r2⟩ := h2 y i a q1 q2 q3; ⟨v, r1, r2.mono l⟩⟩
  cel := fun y i a q1 q2 q3 => let ⟨c, v, r1, r2, r3, r4⟩ := x.cel y i a q1 q2 q3; ⟨c, v, r1, l.pv _ r2 (hp _ (.inr ⟨y, r1⟩)), cell_keep r3 fun o e => l.kp _ o r2 (hp _ (.inr ⟨y, r1⟩)) e, r4.mono l⟩
  has := fun y q1 q2 => let ⟨c, v, r1, r2, r3⟩ := x.has y q1 q2; ⟨c, v, r1, l.pv _ r2 (hp _ (.inr ⟨y, r1⟩)), cell_keep r3 fun o e => l.kp _ o r2 (hp _ (.inr ⟨y, r1⟩)) e⟩
  cls := fun n c q => l.pv _ (x.cls n c q) (hp _ (.inr ⟨n, q⟩))
theorem EnvR.own (x : EnvR cx env sc ns σ w) {b : Addr} (h : Own env b) : b ∈ w.π := h.elim (fun e => e ▸ x.pl) fun ⟨n, q⟩ => x.cls n b q
theorem EnvR.stable : Stable (EnvR cx env sc ns σ) := fun u_ u_ x l => x.mono l fun u_ u_ z => z
theorem St.g (S : St cx w H) (G : Good cx P) : w.s.heap.Ns mainGlobals cx.mg := G.g.keeps fun b o e => (S.base b o e).1
theorem St.b (S : St cx w H) (G : Good cx P) : w.s.heap.Ns builtinsNs cx.mb := G.b.keeps fun b o e => (S.base b o e).1
theorem load_glob {x : Str} {pos : Pos} {v : Value} {E : Value → Shared → Prop} {Q : Value → Shared → Prop} (G : Good cx P) (S : St cx w H) (K : EnvK env sc) (hx : isGlob sc x = true) (hd : (x == ("__debug__" : Str)) = false) (hv : cx.mg x = some v) (h : Q v w.s) :
    wpAny (model cx.prog cx.w) A (eval (.Name x pos) env) Q E w.s := Calls.Name_function_global K.kind (K.kglob x hx) (Calls.loadGlobal_global (by rw [K.glob]; exact S.g G) hv h) hd
theorem load_bi {x : Str} {pos : Pos} {v : Value} {E : Value → Shared → Prop} {Q : Value → Shared → Prop} (G : Good cx P) (S : St cx w H) (K : EnvK env sc) (hx : isGlob sc x = true) (hd : (x == ("__debug__" : Str)) = false) (hv : cx.mg x = none ∧ cx.mb x = some v) (h : Q v w.s) :
    wpAny (model cx.prog cx.w) A (eval (.Name x pos) env) Q E w.s := Calls.Name_function_global K.kind (K.kglob x hx) (Calls.loadGlobal_builtin (by rw [K.glob]; exact S.g G) hv.1 (by rw [K.blt]; exact S.b G) hv.2 h) hd
theorem name_rf {x : Str} {pos : Pos} (I : EnvR cx env sc ns σ w) (hl : isLocal sc x = true) (hd : (x == ("__debug__" : Str) || x == ("__classdict__" : Str)) = false) : Rf cx A p w (VR cx) (nameV ns x σ) (eval (.Name x pos) env) := by
  rw [Bool.or_eq_false_iff] at hd
  unfold nameV
  cases hi : ns.idxOf? x with
  | none => exact .stuck
  | some i =>
    show Rf cx A p w (VR cx) (match σ[i]? with | some (some v) => pure v | _ => stuck) _
    cases hv : σ[i]? with
    | none => exact .stuck
    | some ov =>
      cases ov with
      | none => exact .stuck
      | some a =>
        refine .leaf fun H S => wpAny_Name ?_ hd.1
        rcases I.k.klocal x hl with k | k | k
        · refine byC fun C_ k_ => ?_
          obtain ⟨m, hm, hmv⟩ := I.nsm
          obtain ⟨v, q1, q2⟩ := hmv x i a hi hv k
          refine k_ ?_
          clear k_ C_
          exact wpAny_loadName_local I.k.kind k hm q1 (.here S q2)
        · refine byC fun C_ k_ => ?_
          obtain ⟨c, v, q1, _, q2, q3⟩ := I.cel x i a hi hv (.inl k)
          refine k_ ?_
          clear k_ C_
          exact wpAny_loadName_cell I.k.kind k q1 q2 (.here S q3)
        · refine byC fun C_ k_ => ?_
          obtain ⟨c, v, q1, _, q2, q3⟩ := I.cel x i a hi hv (.inr k)
          refine k_ ?_
          clear k_ C_
          exact wpAny_loadName_free I.k.kind k q1 q2 (.here S q3) hd.2
theorem dName_rf {x : Str} {pos : Pos} (G : Good cx P) (I : EnvR cx env sc ns σ w) : Rf cx A p w (VR cx) (dName P sc ns σ x) (eval (.Name x pos) env) :=
  ite_rf (fun u_ => .stuck) fun hd => ite_rf (fun hl => name_rf I hl (Bool.eq_false_iff.mpr hd)) fun u_ => ite_rf (fun hg => by
    cases hx : P.glob x with
    | none => exact .stuck
    | some a =>
      obtain ⟨v, q1, q2⟩ := G.glob x a hx
      have hd := Bool.eq_false_iff.mpr hd
      rw [Bool.or_eq_false_iff] at hd
      exact .leaf fun H S => load_glob G S I.k hg hd.1 q1 (.here S (q2 w H S))) fun u_ => .stuck
end

section
variable {cx : Cx} {A : Around} {w : Wl} {env : Env} {I : Wl → Prop} {ev : Expr → M AV}
theorem const_rf {c : Const} {k : Nat} {q : Pos} : Rf cx A No w (VR cx) (constV c) (eval (.Constant c k q) env) := by
  cases c with
  | none => exact .leaf fun H S => wpAny_Constant_none (.here S .none)
  | bool b => exact .leaf fun H S => wpAny_Constant_bool (.here S .bool)
  | int i => exact .leaf fun H S => wpAny_Constant_int (.tok S _ .int)
  | str x => exact .leaf fun H S => wpAny_Constant_str (.tok S _ .str)
  | _ => exact .stuck
theorem binop_rf {l r : Expr} {op : Operator} {q : Pos} {mu : Bool} (hst : Stable I) (hev : EvOK cx A env I ev) (i : I w) : Rf cx A No w (VR cx) (do let a ← ev l; let b ← ev r; pBin mu op a b) (eval (.BinOp l op r q) env) :=
  Rf.bind (hev l w i) fun w1 a v l1 r1 => .bind (.holding (hev r w1 (hst _ _ i l1))) fun w2 b u l2 r2 => .standAt (.operate (bin_rf (r1.mono l2) r2))
theorem not_rf {a : AV} {v : Value} (ra : VR cx w a v) : Rf cx A No w (VR cx) (do let b ← truth a; pure (.bool !b)) (unaryOp .Not v) := by
  cases a with
  | bool b => exact ra.boolE (.pureR (.leaf fun H S => not_value (wpAny_truthy_bool (.here S .bool))))
  | _ => exact .stuck
theorem unop_rf {x : Expr} {op : UnaryOp} {q : Pos} (hev : EvOK cx A env I ev) (i : I w) : Rf cx A No w (VR cx) (dUn ev op x) (eval (.UnaryOp op x q) env) := by
  cases op with
  | USub => exact Rf.bind (hev x w i) fun w1 a v l1 r1 => .standAt (.holding (neg_rf r1))
  | Not => exact Rf.bind (hev x w i) fun w1 a v l1 r1 => .standAt (.holding (not_rf r1))
  | _ => exact .stuck
theorem compare_rf (R : Room A) {l : Expr} {ops : List CmpOp} {cs : List Expr} {q : Pos} (hst : Stable I) (hev : EvOK cx A env I ev) (i : I w) : Rf cx A No w (VR cx) (do let a ← ev l; let b ← chain ev a ops cs; pure (.bool b)) (eval (.Compare l ops cs q) env) :=
  Rf.bind (hev l w i) fun w1 a v l1 r1 => by
    have := Rf.bind (k := Pure.pure) (chain_rf R hst hev q ops cs (hst _ _ i l1) r1) fun w2 b x l2 e => Rf.pure (R := VR cx) (a := .bool b) e
    rwa [bind_pure] at this
theorem tuple_lit_rf {es : List Expr} {k : Nat} {q : Pos} (hst : Stable I) (hev : EvOK cx A env I ev) (i : I w) : Rf cx A No w (VR cx) (if es.length ≤ 100 then (do let vs ← evEach ev es; pure (.tup vs)) else stuck) (eval (.Tuple es k q) env) :=
  ite_rf (fun hl => .standAt (.bind (each_rf hst hev q es i) fun w1 as vs l1 r1 => newTuple_rf (by rw [r1.2]; exact Nat.le_trans hl (by decide)) r1.1)) fun u_ => .stuck
theorem list_lit_rf {es : List Expr} {q : Pos} {mu : Bool} (hst : Stable I) (hev : EvOK cx A env I ev) (i : I w) : Rf cx A No w (VR cx) (do let vs ← evEach ev es; newL mu vs) (eval (.List es q) env) :=
  .standAt (.bind (each_rf hst hev q es i) fun w1 as vs l1 r1 => newList_rf r1.1)

set_option tactic.hygienic true in
theorem sub_tail {value slice : Expr} {o i : Value} {s : Shared} {Q E : Value → Shared → Prop} (hs : Subs s o) (h : wpAny (model cx.prog cx.w) A (getItem o i) Q E s) :
    wpAny (model cx.prog cx.w) A (do let r ← subscripted slice (← getitemInPython o) o i; letTemporaryGo value o r; pure r) Q E s := by
  refine byC fun C_ k_ => ?_
  obtain ⟨T, id, hT, hl⟩ := hs
  refine k_ ?_
  clear k_ C_
  rw [getitemInPython_of_ne hT.not_modules]
  have hg : wpAny (model cx.prog cx.w) A (getItem o i) (fun r s₃ => wpAny (model cx.prog cx.w) A (letTemporaryGo value o r >>= fun u_ => pure r) Q E s₃) E s :=
    wpAny_mono h (fun r s₃ h₃ => wpAny_bind (wpAny_letTemporaryGo (wpAny_pure h₃))) fun u_ u_ x => x
  refine wpAny_bind (wpAny_bind (wpAny_specialOf hT hl (wpAny_pure (wpAny_bind ?_))))
  cases slice
  case Slice lo hi st q => cases st <;> exact wpAny_operating hg
  all_goals exact wpAny_operating hg
theorem item_at_rf {o i : Expr} {q : Pos} (hst : Stable I) (hev : EvOK cx A env I ev) (j : I w) : Rf cx A No w (VR cx) (do let ov ← ev o; let iv ← ev i; pItem ov iv) (eval (.Subscript o i q) env) :=
  Rf.bind (hev o w j) fun w1 a v l1 r1 => .bind (.holding (hev i w1 (hst _ _ j l1))) fun w2 b u l2 r2 => .standAt (item_rf (r1.mono l2) r2 fun hs h => sub_tail hs h)
def RPart (w : Wl) (k : Option Int) (v : Value) : Prop := IsPart v k
theorem sliceEnd_rf {e : Option Expr} (hev : EvOK cx A env I ev) (j : I w) : Rf cx A No w RPart (sliceEnd ev e) (evalPart e env) := by
  cases e with
  | none => rw [evalPart_none]; exact .pure .none
  | some e =>
    rw [evalPart_some]
    refine Rf.seqw (k := fun v => pure v) (hev e w j) (fun w1 a v l1 r1 => ?_) fun h => by have := wpAny_bind h; rwa [bind_pure] at this
    cases a with
    | int i => exact r1.intE fun t => .pureR (.pure (.int i t))
    | _ => exact .stuck
def RSl (w : Wl) (k : Option Int × Option Int) (v : Value) : Prop := ∃ a vl vu, v = .ref a ∧ w.s.heap.IsSliceOf a vl vu .none ∧ IsPart vl k.1 ∧ IsPart vu k.2
theorem slc_rf {lo hi : Option Expr} {sp : Pos} (hst : Stable I) (hev : EvOK cx A env I ev) (j : I w) : Rf cx A No w RSl (do let a ← sliceEnd ev lo; let b ← sliceEnd ev hi; pure (a, b)) (eval (.Slice lo hi none sp) env) :=
  Rf.bind (sliceEnd_rf hev j) fun w1 a vl l1 p1 => .bind (.holding (sliceEnd_rf hev (hst _ _ j l1))) fun w2 b vu l2 p2 => by
    show Rf cx A No w2 RSl (pure (a, b)) (holding [vl, vu] (evalPart none env) >>= fun s => newFields "slice" [vl, vu, s])
    rw [evalPart_none]
    exact fun H S r H' h => wpAny_bind (wpAny_holding (wpAny_pure (wpAny_newObj_type (by
      obtain ⟨rfl, rfl⟩ := pure_some h
      exact ⟨w2.ι, w2.π, _, rfl, .keeps (pushk _), S.keeps (t := w2.s.toks) (pushk _), _, vl, vu, rfl, Heap.IsSliceOf.new .., p1, p2⟩))))
theorem slice_at_rf {o : Expr} {lo hi : Option Expr} {sp q : Pos} {mu : Bool} (hst : Stable I) (hev : EvOK cx A env I ev) (j : I w) :
    Rf cx A No w (VR cx) (do let ov ← ev o; let a ← sliceEnd ev lo; let b ← sliceEnd ev hi; pSlice mu ov a b) (eval (.Subscript o (.Slice lo hi none sp) q) env) :=
  Rf.bind (hev o w j) fun w1 a v l1 r1 => by
    have := Rf.bind (f := fun k => pSlice mu a k.1 k.2) (Rf.holding (vs := [v]) (slc_rf (lo := lo) (hi := hi) (sp := sp) hst hev (hst _ _ j l1))) fun w2 k u l2 ⟨sl, vl, vu, e, hs, p1, p2⟩ => Rf.standAt (q := q) (t := (do let r ← subscripted (.Slice lo hi none sp) (← getitemInPython v) v u; letTemporaryGo o v r; pure r)) (slice_rf (A := A) (p := No) (mu := mu) (r1.mono l2) hs p1 p2 fun h1 h2 => e ▸ sub_tail h1 h2)
    simp only [bind_assoc, pure_bind] at this
    exact this
theorem sub_rf {o i : Expr} {q : Pos} {mu : Bool} (hst : Stable I) (hev : EvOK cx A env I ev) (j : I w) : Rf cx A No w (VR cx) (dSub ev mu o i) (eval (.Subscript o i q) env) := by
  cases i with
  | Slice lo hi st sp =>
    cases st with
    | none => exact slice_at_rf hst hev j
    | some e => exact .stuck
  | _ => exact item_at_rf hst hev j
end
end Mine


set_option autoImplicit false
set_option linter.unusedVariables false
namespace Mine
open PySem PyProof.Rows PySem.SeqAt

section
variable {cx : Cx} {A : Around} {p : Addr → Prop} {w w' w0 : Wl} {H : AHeap} {d : Addr}
theorem St.old (S : St cx w H) (hd : w.s.heap.get? d = none) {b : Addr} {o : Obj} (e : w.s.heap.get? b = some o) : b ≠ d := fun z => by rw [z, hd] at e; cases e
theorem St.hides (S : St cx w H) (ds : List Addr) {h' : Heap} {t : Nat} (hk : ∀ b o, w.s.heap.get? b = some o → h'.get? b = some o) (hd : ∀ d, d ∈ ds → w.s.heap.get? d = none) (hx : ∀ d, d ∈ ds → ∃ o, h'.get? d = some o) :
    Le No w ⟨w.ι, ds ++ w.π, { w.s with heap := h', toks := t }⟩ ∧ St cx ⟨w.ι, ds ++ w.π, { w.s with heap := h', toks := t }⟩ H := by
  have ne : ∀ {b : Addr} {o : Obj}, w.s.heap.get? b = some o → b ∉ w.π → b ∉ ds ++ w.π := fun e h1 h2 => (List.mem_append.mp h2).elim (fun h => S.old (hd _ h) e rfl) h1
  have l : Le No w ⟨w.ι, ds ++ w.π, { w.s with heap := h', toks := t }⟩ := ⟨⟨List.prefix_refl _, fun b o e h1 h2 => ⟨hk b o e, h1, ne e h2⟩⟩, fun u_ h u_ => List.mem_append_right _ h, fun b o u_ u_ e => hk b o e⟩
  refine ⟨l, ⟨fun b o e => let q := S.base b o e; ⟨hk b o q.1, q.2.1, ne q.1 q.2.2⟩, S.len, S.nodup, fun a ha h => ?_, fun a ha => ?_, fun i a o e1 e2 => (S.own i a o e1 e2).keep l.toLv (hk a), S.gens, S.os, S.sysm⟩⟩
  · obtain ⟨o, e⟩ := S.obj ha
    exact ne e (S.dj a ha) h
  · rcases List.mem_append.mp ha with h | h
    · exact hx a h
    · obtain ⟨o, e⟩ := S.pvx a h; exact ⟨o, hk a o e⟩
theorem St.hide (S : St cx w H) {h' : Heap} {t : Nat} (hk : ∀ b o, w.s.heap.get? b = some o → h'.get? b = some o) (hd : w.s.heap.get? d = none) (hx : ∃ o, h'.get? d = some o) :
    Le No w ⟨w.ι, d :: w.π, { w.s with heap := h', toks := t }⟩ ∧ St cx ⟨w.ι, d :: w.π, { w.s with heap := h', toks := t }⟩ H :=
  S.hides [d] hk (fun b e => List.mem_singleton.mp e ▸ hd) fun b e => List.mem_singleton.mp e ▸ hx
theorem St.privs (S : St cx w H) {h' : Heap} {t : Nat} {p : Addr → Prop} (hd : ∀ b, p b → b ∈ w.π) (hk : ∀ b o, ¬ p b → w.s.heap.get? b = some o → h'.get? b = some o) (hx : ∀ b, p b → ∃ o, h'.get? b = some o) :
    Le p w ⟨w.ι, w.π, { w.s with heap := h', toks := t }⟩ ∧ St cx ⟨w.ι, w.π, { w.s with heap := h', toks := t }⟩ H := by
  have l : Le p w ⟨w.ι, w.π, { w.s with heap := h', toks := t }⟩ := ⟨⟨List.prefix_refl _, fun b o e h1 h2 => ⟨hk b o (fun z => h2 (hd b z)) e, h1, h2⟩⟩, fun u_ h u_ => h, fun b o u_ h e => hk b o h e⟩
  refine ⟨l, ⟨fun b o e => let q := S.base b o e; ⟨hk b o (fun z => q.2.2 (hd b z)) q.1, q.2⟩, S.len, S.nodup, S.dj, fun a ha => ?_, fun i a o e1 e2 => (S.own i a o e1 e2).keep l.toLv fun o e => hk a o (fun z => S.dj a (List.mem_of_getElem? e1) (hd a z)) e, S.gens, S.os, S.sysm⟩⟩
  by_cases h : p a
  · exact hx a h
  · obtain ⟨o, e⟩ := S.pvx a ha; exact ⟨o, hk a o h e⟩
theorem St.priv (S : St cx w H) {h' : Heap} {t : Nat} (hd : d ∈ w.π) (hk : ∀ b o, b ≠ d → w.s.heap.get? b = some o → h'.get? b = some o) (hx : ∃ o, h'.get? d = some o) :
    Le (fun b => b = d) w ⟨w.ι, w.π, { w.s with heap := h', toks := t }⟩ ∧ St cx ⟨w.ι, w.π, { w.s with heap := h', toks := t }⟩ H := S.privs (fun b e => e ▸ hd) hk fun b e => e ▸ hx
def outP (π : List Addr) (d : Addr) : List Addr := π.filter fun b => decide (b ≠ d)
theorem mem_outP {π : List Addr} {b : Addr} : b ∈ outP π d ↔ b ∈ π ∧ b ≠ d := by unfold outP; rw [List.mem_filter, decide_eq_true_iff]
theorem St.drop (S : St cx w H) {h' : Heap} {t : Nat} (hd : d ∈ w.π) (hk : ∀ b o, b ≠ d → w.s.heap.get? b = some o → h'.get? b = some o) :
    Le (fun b => b = d) w ⟨w.ι, outP w.π d, { w.s with heap := h', toks := t }⟩ ∧ St cx ⟨w.ι, outP w.π d, { w.s with heap := h', toks := t }⟩ H := by
  have l : Le (fun b => b = d) w ⟨w.ι, outP w.π d, { w.s with heap := h', toks := t }⟩ := ⟨⟨List.prefix_refl _, fun b o e h1 h2 => ⟨hk b o (fun z => h2 (z ▸ hd)) e, h1, fun z => h2 (mem_outP.mp z).1⟩⟩, fun u_ h q => mem_outP.mpr ⟨h, q⟩, fun b o u_ h e => hk b o h e⟩
  exact ⟨l, ⟨fun b o e => let q := S.base b o e; ⟨hk b o (fun z => q.2.2 (z ▸ hd)) q.1, q.2.1, fun z => q.2.2 (mem_outP.mp z).1⟩, S.len, S.nodup, fun a ha z => S.dj a ha (mem_outP.mp z).1, fun a ha => let ⟨q1, q2⟩ := mem_outP.mp ha; let ⟨o, e⟩ := S.pvx a q1; ⟨o, hk a o q2 e⟩, fun i a o e1 e2 => (S.own i a o e1 e2).keep l.toLv fun o e => hk a o (fun z => S.dj a (List.mem_of_getElem? e1) (z ▸ hd)) e, S.gens, S.os, S.sysm⟩⟩
theorem St.adopt (S : St cx w H) {h' : Heap} {t : Nat} {o : AO} (hd : d ∈ w.π) (hk : ∀ b q, b ≠ d → w.s.heap.get? b = some q → h'.get? b = some q)
    (r : Le (fun b => b = d) w ⟨w.ι ++ [d], outP w.π d, { w.s with heap := h', toks := t }⟩ → OR cx ⟨w.ι ++ [d], outP w.π d, { w.s with heap := h', toks := t }⟩ d o) :
    Le (fun b => b = d) w ⟨w.ι ++ [d], outP w.π d, { w.s with heap := h', toks := t }⟩ ∧ St cx ⟨w.ι ++ [d], outP w.π d, { w.s with heap := h', toks := t }⟩ (H ++ [o]) := by
  have ne : ∀ {b : Addr}, b ∉ w.ι → b ∉ w.π → b ∉ w.ι ++ [d] := fun h1 h2 h3 => (List.mem_append.mp h3).elim h1 fun h => h2 (List.mem_singleton.mp h ▸ hd)
  have l : Le (fun b => b = d) w ⟨w.ι ++ [d], outP w.π d, { w.s with heap := h', toks := t }⟩ := ⟨⟨List.prefix_append _ _, fun b q e h1 h2 => ⟨hk b q (fun z => h2 (z ▸ hd)) e, ne h1 h2, fun z => h2 (mem_outP.mp z).1⟩⟩, fun u_ h q => mem_outP.mpr ⟨h, q⟩, fun b o u_ h e => hk b o h e⟩
  refine ⟨l, ⟨fun b q e => let z := S.base b q e; ⟨hk b q (fun y => z.2.2 (y ▸ hd)) z.1, ne z.2.1 z.2.2, fun y => z.2.2 (mem_outP.mp y).1⟩, by rw [List.length_append, List.length_append, S.len]; rfl, ?_, ?_, fun b hb => ?_, ?_, S.gens, S.os, S.sysm⟩⟩
  · exact List.nodup_append.mpr ⟨S.nodup, List.nodup_cons.mpr ⟨List.not_mem_nil, List.nodup_nil⟩, fun x hx y hy e => S.dj x hx (by rw [e, List.mem_singleton.mp hy]; exact hd)⟩
  · intro b hb z
    rcases List.mem_append.mp hb with h | h
    · exact S.dj b h (mem_outP.mp z).1
    · exact (mem_outP.mp z).2 (List.mem_singleton.mp h)
  · refine byC fun C_ k_ => ?_
    obtain ⟨h1, h2⟩ := mem_outP.mp hb
    obtain ⟨q, e⟩ := S.pvx b h1
    refine k_ ?_
    clear k_ C_
    exact ⟨q, hk b q h2 e⟩
  · intro i b q e1 e2
    rcases Nat.lt_trichotomy i w.ι.length with h | h | h
    · rw [List.getElem?_append_left h] at e1
      rw [List.getElem?_append_left (S.len ▸ h)] at e2
      exact (S.own i b q e1 e2).keep l.toLv fun q' e => hk b q' (fun z => S.dj b (List.mem_of_getElem? e1) (z ▸ hd)) e
    · subst h
      rw [List.getElem?_concat_length] at e1
      rw [S.len, List.getElem?_concat_length] at e2
      cases e1; cases e2
      exact r l
    · rw [List.getElem?_eq_none (by rw [List.length_append]; exact h)] at e1; cases e1
end

section
variable {cx : Cx} {A : Around} {w : Wl} {env : Env} {I : Wl → Prop} {ev : Expr → M AV}
theorem strKey1_of {k : Option Expr} {x : Str} (h : strKey1 k = some x) : ∃ kd kp, k = some (.Constant (.str x) kd kp) := by
  cases k with
  | none => first | exact no_some h | exact no_true h | cases h
  | some e =>
    cases e with
    | Constant c kd kp =>
      cases c with
      | str y => cases h; exact ⟨kd, kp, rfl⟩
      | _ => exact no_some h
    | _ => exact no_some h
theorem strKeys_cons {k : Option Expr} {r : List (Option Expr)} {ks : List Str} (h : strKeys (k :: r) = some ks) : ∃ x kd kp ks', k = some (.Constant (.str x) kd kp) ∧ strKeys r = some ks' ∧ ks = x :: ks' := by
  refine byC fun C_ k_ => ?_
  obtain ⟨x, h1, h2⟩ := Option.bind_eq_some_iff.mp h
  obtain ⟨ks', h3, h4⟩ := Option.map_eq_some_iff.mp h2
  obtain ⟨kd, kp, e⟩ := strKey1_of h1
  refine k_ ?_
  clear k_ C_
  exact ⟨x, kd, kp, ks', e, h3, h4.symm⟩
def RPairs (cx : Cx) (ks : List Str) (w : Wl) (as : List AV) (vs : List (Value × Value)) : Prop := allStrKeys vs = true ∧ (strPairs vs).map (·.1) = ks ∧ VRs cx w as ((strPairs vs).map (·.2)) ∧ as.length = ks.length
theorem constS_rf {x : Str} {kd : Nat} {kp : Pos} : Rf cx A No w (fun _ (_ : Unit) v => ∃ t, v = .str x t) (pure ()) (eval (.Constant (.str x) kd kp) env) := .leaf fun H S => wpAny_Constant_str (.tok S _ ⟨_, rfl⟩)
theorem pairs_rf (hst : Stable I) (hev : EvOK cx A env I ev) (pos : Pos) : ∀ (keys : List (Option Expr)) (vals : List Expr) {ks : List Str} {w : Wl}, I w → strKeys keys = some ks → ks.length = vals.length → Rf cx A No w (RPairs cx ks) (evAll ev vals) (evalPairs (pairTrees keys vals env pos))
  | [], [], ks, w, i, hk, hl => by cases hk; exact .leaf fun H S => pairTrees_nil_walk (.here S ⟨rfl, rfl, rfl, rfl⟩)
  | [], _ :: _, ks, w, i, hk, hl => by cases hk; cases hl
  | k :: keys, [], ks, w, i, hk, hl => by obtain ⟨x, kd, kp, ks', _, _, rfl⟩ := strKeys_cons hk; cases hl
  | k :: keys, e :: vals, ks, w, i, hk, hl => by
    refine byC fun C_ k_ => ?_
    obtain ⟨x, kd, kp, ks', rfl, hk', rfl⟩ := strKeys_cons hk
    refine k_ ?_
    clear k_ C_
    rw [← pure_bind () fun u_ => evAll ev (e :: vals)]
    refine Rf.bind constS_rf fun w1 _ kv l1 ⟨tk, hkv⟩ => ?_
    subst hkv
    have i1 := hst _ _ i l1
    refine .bind (t := holding [.str x tk] (do let x ← eval e env; standAt pos; pure x)) (.holding (.map (hev e w1 i1) fun w2 a v l2 r2 => .standAt (.pure r2))) fun w2 a v l2 r2 => ?_
    refine .bind (.holding (pairs_rf hst hev pos keys vals (hst _ _ i1 l2) hk' (Nat.succ.inj hl))) fun w3 as vs l3 ⟨q1, q2, q3, q4⟩ => .pure ⟨q1, congrArg (x :: ·) q2, .cons (r2.mono l3) q3, congrArg Nat.succ q4⟩
theorem zip_fst : ∀ {ks : List Str} {as : List AV}, as.length = ks.length → (ks.zip as).map (·.1) = ks
  | [], [], _ => rfl
  | [], _ :: _, h => by cases h
  | _ :: _, [], h => by cases h
  | k :: ks, a :: as, h => congrArg (k :: ·) (zip_fst (Nat.succ.inj h))
theorem zip_snd : ∀ {ks : List Str} {as : List AV}, as.length = ks.length → (ks.zip as).map (·.2) = as
  | [], [], _ => rfl
  | [], _ :: _, h => by cases h
  | _ :: _, [], h => by cases h
  | k :: ks, a :: as, h => congrArg (a :: ·) (zip_snd (Nat.succ.inj h))
theorem strKeys_all : ∀ {keys : List (Option Expr)} {ks : List Str}, strKeys keys = some ks → keys.all (·.isSome) = true ∧ keys.length = ks.length
  | [], _, h => by cases h; exact ⟨rfl, rfl⟩
  | k :: keys, ks, h => by
    refine byC fun C_ k_ => ?_
    obtain ⟨x, kd, kp, ks', rfl, hk', rfl⟩ := strKeys_cons h
    obtain ⟨q1, q2⟩ := strKeys_all hk'
    refine k_ ?_
    clear k_ C_
    exact ⟨q1, congrArg Nat.succ q2⟩
theorem dict_lit_rf {keys : List (Option Expr)} {vals : List Expr} {q : Pos} (hst : Stable I) (hev : EvOK cx A env I ev) (i : I w) : Rf cx A No w (VR cx) (dDict ev keys vals) (eval (.Dict keys vals q) env) := by
  unfold dDict
  cases hk : strKeys keys with
  | none => exact .stuck
  | some ks =>
    refine ite_rf (fun ⟨hl1, hl2, hl3, hl4⟩ => ?_) fun u_ => .stuck
    unfold evEach
    split
    · intro H S r H' h
      refine byC fun C_ k_ => ?_
      obtain ⟨k1, k2⟩ := strKeys_all hk
      have hdn : w.s.heap.get? w.s.heap.objs.size = none := get_size _
      obtain ⟨l0, S0⟩ := S.hide (t := w.s.toks) (pushk { cls := .type "dict", data := .dict #[] }) hdn ⟨_, Heap.get?_push_size _ rfl⟩
      refine k_ ?_
      clear k_ C_
      have hnp := (S.new hdn).2
      refine wpAny_Dict_walk (knd := strKind cx.prog cx.w) k1 (k2.trans hl1) (fun z => by subst z; cases hk; exact hl3 rfl) (by rw [k2]; exact hl2) ?_
      refine wpAny_mono ((pairs_rf hst hev q keys vals (hst _ _ i l0) hk hl1).run S0 h fun w1 as vs H1 l1 S1 ⟨q1, q2, q3, q4⟩ h2 => ?_) (fun u_ u_ z => z) fun u_ u_ q => q.le l0
      cases h2
      have hd : w.s.heap.objs.size ∈ w1.π := l1.pv _ List.mem_cons_self id
      have hD1 : w1.s.heap.DictOf (strKind cx.prog cx.w) w.s.heap.objs.size [] := DictOf.at' (Heap.DictOf.new _) fun o ho => l1.kp _ o List.mem_cons_self id ho
      refine display_done_str q1 (by rw [q2]; exact hl4) hD1 fun h' hd' hs' => ?_
      obtain ⟨l2, S2⟩ := S1.adopt (t := w1.s.toks + vs.length) (o := .dict (ks.zip as)) hd hs'.extBut fun l2 => ⟨strPairs vs, hd', ⟨S.not_sys, by rw [List.length_zip]; exact Nat.le_trans (Nat.min_le_left _ _) (Nat.le_trans hl2 (by decide))⟩, by rw [q2, zip_fst q4], by rw [zip_snd q4]; exact q3.mono l2⟩
      exact ⟨_, _, _, rfl, (l0.no.trans (l1.no.trans l2)).weak (fun b hb e => hnp (e ▸ hb)), S2, .loc (by rw [← S1.len]; exact List.getElem?_concat_length)⟩
    · exact .stuck
end
end Mine


set_option autoImplicit false
set_option linter.unusedVariables false
namespace Mine
open PySem PyProof.Rows PySem.SeqAt

section
variable {cx : Cx} {A : Around} {w : Wl} {env : Env} {I : Wl → Prop} {ev : Expr → M AV}
def RArgs (cx : Cx) (w : Wl) (as : List AV) (a : Args) : Prop := ∃ vs, a = ⟨vs, []⟩ ∧ VRs cx w as vs
theorem any_star (pos : Pos) : ∀ (es : List Expr), es.all exOk = true → (backTo pos (starEach es env)).any (·.1) = false
  | [], _ => rfl
  | e :: r, h => by
    rw [List.all_cons, Bool.and_eq_true] at h
    rw [exOk_star h.1]
    exact any_star pos r h.2
theorem len_star (pos : Pos) : ∀ (es : List Expr), es.all exOk = true → (backTo pos (starEach es env)).length = es.length ∧ (backTo pos (starEach es env)).all (fun x => !x.1) = true
  | [], _ => ⟨rfl, rfl⟩
  | e :: r, h => by
    rw [List.all_cons, Bool.and_eq_true] at h
    rw [exOk_star h.1]
    exact ⟨congrArg Nat.succ (len_star pos r h.2).1, (len_star pos r h.2).2⟩
theorem args_rf {f : Value} {pos : Pos} {es : List Expr} (hst : Stable I) (hev : EvOK cx A env I ev) (i : I w) (h : es.all exOk = true) : Rf cx A No w (RArgs cx) (evAll ev es) (evalArgs f true (backTo pos (starEach es env)) []) := by
  have x := all_rf hst hev pos es h i
  cases es with
  | nil => exact .leaf fun H S => evalArgs_nil3 (.here S ⟨[], rfl, rfl⟩)
  | cons e r =>
    rw [List.all_cons, Bool.and_eq_true] at h
    rw [exOk_star h.1] at x ⊢
    exact Rf.img (g := fun vs => (⟨vs, []⟩ : Args)) (t' := evalArgs f true ((false, eval e env) :: backTo pos (starEach r env)) []) x (fun w' a b q => ⟨b, rfl, q.1⟩) fun h => Calls.evalArgs_plain h
theorem each_call {es : List Expr} {α β : Type} {p : Addr → Prop} {R : Wl → α → β → Prop} {f : List AV → M α} {t : Sem β} (k : es.all exOk = true → Rf cx A p w R (evAll ev es >>= f) t) : Rf cx A p w R (evEach ev es >>= f) t := by
  unfold evEach
  split
  · exact k ‹_›
  · exact .stuck
theorem builtin_rf {id : String} {pos : Pos} {first : List Value} {es : List Expr} {f : List AV → M AV} (hst : Stable I) (hev : EvOK cx A env I ev) (i : I w)
    (k : ∀ w' as vs, Le No w w' → VRs cx w' as vs → Rf cx A No w' (VR cx) (f as) (PySem.call (.builtin id) (first ++ vs))) : Rf cx A No w (VR cx) (evEach ev es >>= f) (callWith pos (.builtin id) first (backTo pos (starEach es env)) []) :=
  each_call fun h => Rf.seqw (k := fun a => PySem.call (.builtin id) (first ++ a.pos) a.kw) (args_rf (f := .builtin id) (pos := pos) hst hev i h) (fun w' as a l ⟨vs, e, r⟩ => by subst e; exact k w' as vs l r) fun q => Calls.callWith_builtin (any_star pos es h) q
theorem type_rf {T : String} {pos : Pos} {es : List Expr} {f : List AV → M AV} (hst : Stable I) (hev : EvOK cx A env I ev) (i : I w)
    (k : ∀ w' as vs, Le No w w' → VRs cx w' as vs → Rf cx A No w' (VR cx) (f as) (PySem.call (.type T) vs)) : Rf cx A No w (VR cx) (evEach ev es >>= f) (callWith pos (.type T) [] (backTo pos (starEach es env)) []) :=
  each_call fun h => Rf.seqw (k := fun a => PySem.call (.type T) ([] ++ a.pos) a.kw) (args_rf (f := .type T) (pos := pos) hst hev i h) (fun w' as a l ⟨vs, e, r⟩ => by subst e; exact k w' as vs l r) fun q => PyProof.Rows.callWith_type (any_star pos es h) q
end
section
variable {cx : Cx} {A : Around} {w : Wl} {env : Env} {sc : Scope} {ns : List Str} {σ : Loc} {ev : Expr → M AV} {P : Pg}
theorem named_rf {f : Str} {fp q : Pos} {args : List Expr} {m : M AV} {v : Value} (hv : ∀ {H : AHeap} {Q E : Value → Shared → Prop}, St cx w H → Q v w.s → wpAny (model cx.prog cx.w) A (eval (.Name f fp) env) Q E w.s)
    (x : Rf cx A No w (VR cx) m (callWith q v [] (backTo q (starEach args env)) [])) : Rf cx A No w (VR cx) m (eval (.Call (.Name f fp) args [] q) env) := fun H S r H' h => Call_Name rfl (hv S (x H S r H' h))
theorem no_debug {α : Type} {g : Str → Option α} {x : Str} {b : α} (hg : g ("__debug__" : Str) = none) (h : g x = some b) : (x == ("__debug__" : Str)) = false := by
  cases hx : x == ("__debug__" : Str) with
  | false => rfl
  | true => rw [beq_iff_eq.mp hx, hg] at h; cases h
theorem bi_call {f : Str} {fp q : Pos} {args : List Expr} {b : BI} {mu : Bool} (hh : A.handled = none) (G : Good cx P) (hev : EvOK cx A env (EnvR cx env sc ns σ) ev) (i : EnvR cx env sc ns σ w) (hg : isGlob sc f = true) (hb : biOf f = some b) :
    Rf cx A No w (VR cx) (do let vs ← evEach ev args; pBI mu b vs) (eval (.Call (.Name f fp) args [] q) env) := by
  refine named_rf (fun S h => load_bi G S i.k hg (no_debug (g := biOf) (by decide) hb) (G.bi f b hb) h) ?_
  have bt : ∀ {id : String}, biV b = .builtin id → Rf cx A No w (VR cx) (do let vs ← evEach ev args; pBI mu b vs) (callWith q (biV b) [] (backTo q (starEach args env)) []) := fun {id} e => by
    rw [e]; exact builtin_rf EnvR.stable hev i fun w' as vs l r => by rw [List.nil_append, ← e]; exact bi_rf hh r
  have ty : ∀ {T : String}, biV b = .type T → Rf cx A No w (VR cx) (do let vs ← evEach ev args; pBI mu b vs) (callWith q (biV b) [] (backTo q (starEach args env)) []) := fun {T} e => by
    rw [e]; exact type_rf EnvR.stable hev i fun w' as vs l r => by rw [← e]; exact bi_rf hh r
  cases b with
  | len => exact bt rfl
  | list => exact ty rfl
  | tuple => exact ty rfl
  | dict => exact ty rfl
  | int => exact ty rfl
  | range => exact ty rfl
  | min => exact bt rfl
  | max => exact bt rfl
  | any => exact bt rfl
  | sorted => exact bt rfl
theorem isi1_rf {e : Expr} {x : Str} {t : Ty} {fp q tp : Pos} (G : Good cx P) (hev : EvOK cx A env (EnvR cx env sc ns σ) ev) (i : EnvR cx env sc ns σ w) (hg : isGlob sc ("isinstance" : Str) = true) (hx : isGlob sc x = true) (ht : tyOf x = some t) (he : exOk e = true) :
    Rf cx A No w (VR cx) (do let v ← ev e; let b ← pIsi v t; pure (.bool b)) (eval (.Call (.Name ("isinstance" : Str) fp) [e, .Name x tp] [] q) env) :=
  named_rf (fun S h => load_bi G S i.k hg (by decide) G.isi h) fun H S r H' h => by
    refine Calls.callWith_builtin (any_star q _ (by rw [List.all_cons, he]; rfl)) ?_
    rw [exOk_star he]
    refine Calls.evalArgs_plain (Calls.spliced_cons ((hev e w i).run S h fun w1 a v H1 l1 S1 r1 h1 => Calls.spliced_cons (load_bi G S1 i.k hx (no_debug (g := tyOf) (by decide) ht) (G.ty x t ht) (Calls.spliced_nil ?_))))
    have z := Rf.bind (k := Pure.pure) (isi_rf (A := A) (p := No) (t := t) r1) fun w2 b x l2 e => Rf.pure (R := VR cx) (a := .bool b) e
    rw [bind_pure] at z
    exact wpAny_mono (z H1 S1 r H' h1) (fun u_ u_ q => q.le l1) fun u_ u_ q => q.le l1
theorem isiTL_leaf {a : AV} {v : Value} {tp : Addr} (ra : VR cx w a v) (ht : w.s.heap.get? tp = some { cls := .type "tuple", data := .seq #[.type "tuple", .type "list"] }) : Rf cx A No w Rb (pIsiTL a) (PySem.call (.builtin "isinstance") [v, .ref tp]) := by
  have lists : ∀ {l : Addr} {vs : Array Value} {n : Nat}, IsL w.s.heap l vs n → Rf cx A No w Rb (pure true) (PySem.call (.builtin "isinstance") [.ref l, .ref tp]) := fun hl => .leaf fun H S =>
    IsiPair.tupleOfB (Tx := "list") (vs := [false, true]) (.cons (.of_false_list (by decide +kernel) F.isi_meta_tuple F.sub_list_tuple) (.cons (.of_true F.isi_meta_list F.sub_list_list) .nil)) ⟨_, hl, rfl⟩ ht rfl fun t => .tok S t rfl
  cases a with
  | none => exact ra.noneE (.leaf fun H S => IsiPair.tupleOfB (Tx := "NoneType") (vs := [false, false]) (.cons (.of_false_none (by decide +kernel) F.isi_meta_tuple F.sub_NoneType_tuple) (.cons (.of_false_none (by decide +kernel) F.isi_meta_list F.sub_NoneType_list) .nil)) rfl ht rfl fun t => .tok S t rfl)
  | bool b => exact ra.boolE (.leaf fun H S => IsiPair.tupleOfB (Tx := "bool") (vs := [false, false]) (.cons (.of_false_bool (by decide +kernel) F.isi_meta_tuple F.sub_bool_tuple) (.cons (.of_false_bool (by decide +kernel) F.isi_meta_list F.sub_bool_list) .nil)) rfl ht rfl fun t => .tok S t rfl)
  | int i => exact ra.intE fun u => .leaf fun H S => IsiPair.tupleOfB (Tx := "int") (vs := [false, false]) (.cons (.of_false_int (by decide +kernel) F.isi_meta_tuple F.sub_int_tuple) (.cons (.of_false_int (by decide +kernel) F.isi_meta_list F.sub_int_list) .nil)) rfl ht rfl fun t => .tok S t rfl
  | str x => exact ra.strE fun u => .leaf fun H S => IsiPair.tupleOfB (Tx := "str") (vs := [false, false]) (.cons (.of_false_str (by decide +kernel) F.isi_meta_tuple F.sub_str_tuple) (.cons (.of_false_str (by decide +kernel) F.isi_meta_list F.sub_str_list) .nil)) rfl ht rfl fun t => .tok S t rfl
  | tup xs => exact ra.tupE fun l vs n hl u_ u_ u_ => .leaf fun H S => IsiPair.tupleOfB (Tx := "tuple") (vs := [true, false]) (.cons (.of_true F.isi_meta_tuple F.sub_tuple_tuple) (.cons (.of_false_tuple (by decide +kernel) F.isi_meta_list F.sub_tuple_list) .nil)) ⟨_, hl, rfl⟩ ht rfl fun t => .tok S t rfl
  | lst xs => exact ra.lstE fun l vs n hl u_ u_ u_ => lists hl
  | loc i => exact ra.locE fun l h => .read (listAt_rd h) fun xs ⟨vs, n, hl, _⟩ => lists hl
  | _ => exact .stuck
theorem isi2_rf {e : Expr} {fp q tp1 tp2 tp3 : Pos} {k : Nat} {x y : Str} (G : Good cx P) (hev : EvOK cx A env (EnvR cx env sc ns σ) ev) (i : EnvR cx env sc ns σ w) (hg : isGlob sc ("isinstance" : Str) = true) (hx : isGlob sc x = true) (hy : isGlob sc y = true) (ht : isTL x y = true) (he : exOk e = true) :
    Rf cx A No w (VR cx) (do let v ← ev e; let b ← pIsiTL v; pure (.bool b)) (eval (.Call (.Name ("isinstance" : Str) fp) [e, .Tuple [.Name x tp1, .Name y tp2] k tp3] [] q) env) := by
  unfold isTL at ht
  rw [Bool.and_eq_true] at ht
  have h1 := of_decide_eq_true ht.1
  have h2 := of_decide_eq_true ht.2
  subst h1; subst h2
  refine named_rf (fun S h => load_bi G S i.k hg (by decide) G.isi h) fun H S r H' h => ?_
  refine Calls.callWith_builtin (any_star q _ (by rw [List.all_cons, he]; rfl)) ?_
  rw [exOk_star he]
  refine Calls.evalArgs_plain (Calls.spliced_cons ((hev e w i).run S h fun w1 a v H1 l1 S1 r1 h1 => Calls.spliced_cons (Tuple_ (k := k) ?_)))
  show wpAny _ _ (spliced [(false, eval (.Name ("tuple" : Str) tp1) env), (false, eval (.Name ("list" : Str) tp2) env)]) _ _ _
  refine Calls.spliced_cons (load_bi G S1 i.k hx (by decide) (G.ty _ .tuple (by decide)) (Calls.spliced_cons (load_bi G S1 i.k hy (by decide) (G.ty _ .list (by decide)) (Calls.spliced_nil ?_))))
  refine wpAny_newObj_type (Calls.spliced_nil ?_) (by size_fits)
  have l2 : Le No w1 ⟨w1.ι, w1.π, { w1.s with heap := w1.s.heap.push { cls := .type "tuple", data := .seq #[.type "tuple", .type "list"] } }⟩ := .keeps (pushk _)
  have z := Rf.bind (k := Pure.pure) (isiTL_leaf (A := A) (r1.mono l2) (Heap.get?_push_size _ rfl)) fun w2 b x l2 e => Rf.pure (R := VR cx) (a := .bool b) e
  rw [bind_pure] at z
  exact wpAny_mono (z H1 (S1.keeps (t := w1.s.toks) (pushk _)) r H' h1) (fun u_ u_ q => q.le (l1.trans l2)) fun u_ u_ q => q.le (l1.trans l2)

theorem mt_slot (m : Mt) : ∃ x : Str, Slot "list" x (mtId m) ∧ typeOf (.builtin (mtId m)) = pure (.type "method_descriptor") ∧ ∀ y, mtOf y = some m → y = x := by
  have key : ∀ y, (mtOf y = some .append → y = ("append" : Str)) ∧ (mtOf y = some .pop → y = ("pop" : Str)) ∧ (mtOf y = some .clear → y = ("clear" : Str)) ∧ (mtOf y = some .count → y = ("count" : Str)) := fun y => by
    unfold mtOf
    split
    · exact ⟨fun u_ => ‹_›, fun h => (nomatch h), fun h => (nomatch h), fun h => (nomatch h)⟩
    split
    · exact ⟨fun h => (nomatch h), fun u_ => ‹_›, fun h => (nomatch h), fun h => (nomatch h)⟩
    split
    · exact ⟨fun h => (nomatch h), fun h => (nomatch h), fun u_ => ‹_›, fun h => (nomatch h)⟩
    split
    · exact ⟨fun h => (nomatch h), fun h => (nomatch h), fun h => (nomatch h), fun u_ => ‹_›⟩
    · exact ⟨fun h => (nomatch h), fun h => (nomatch h), fun h => (nomatch h), fun h => (nomatch h)⟩
  cases m with
  | append => exact ⟨_, F.slot_list_append, by kernel_rfl, fun y => (key y).1⟩
  | pop => exact ⟨_, F.slot_list_pop, by kernel_rfl, fun y => (key y).2.1⟩
  | clear => exact ⟨_, F.slot_list_clear, by kernel_rfl, fun y => (key y).2.2.1⟩
  | count => exact ⟨_, F.slot_list_count, by kernel_rfl, fun y => (key y).2.2.2⟩
theorem plainBase_attr {o : Expr} {m : Str} (h : plainBase o = true) : attributeBase o m env (eval o env) = eval o env := by
  cases o <;> first | rfl | (cases h; done)
theorem pMeth_rf (R : Room A) {k : Mt} {o : AV} {l : Addr} {as : List AV} {vs : List Value} (ro : VR cx w o (.ref l)) (r : VRs cx w as vs) : Rf cx A No w (VR cx) (pMethK k o as) (PySem.call (.builtin (mtId k)) (.ref l :: vs)) := by
  cases o with
  | loc i => obtain ⟨a, e, h⟩ := ro; cases e; exact .read (listAt_rd h) fun xs ⟨ws, n, hL, hz, hs⟩ => methL_rf R h hL hz hs r
  | lst xs =>
    refine byC fun C_ k_ => ?_
    obtain ⟨a, ws, n, e, hL, _, hz, hs⟩ := ro
    refine k_ ?_
    clear k_ C_
    cases e
    exact .stuck
  | _ => exact .stuck
theorem meth_rf (R : Room A) {o : Expr} {m : Str} {k : Mt} {ap q : Pos} {args : List Expr} (hev : EvOK cx A env (EnvR cx env sc ns σ) ev) (i : EnvR cx env sc ns σ w) (hm : mtOf m = some k) (hb : (plainBase o && ap.endLine == q.line && decide (args.length ≤ 2) && args.all exOk) = true) :
    Rf cx A No w (VR cx) (do let ov ← ev o; let _ ← listOf ov; let vs ← evAll ev args; pMethK k ov vs) (eval (.Call (.Attribute o m ap) args [] q) env) := fun H S r H' h => by
  rw [Bool.and_eq_true, Bool.and_eq_true, Bool.and_eq_true] at hb
  refine byC fun C_ k_ => ?_
  obtain ⟨⟨⟨hb1, hb2⟩, hb3⟩, hb4⟩ := hb
  obtain ⟨x, hs1, hs2, hs3⟩ := mt_slot k
  refine k_ ?_
  clear k_ C_
  have hm' := hs3 m hm
  subst hm'
  refine wpAny_Call_method_late (trees := backTo q (starEach args env)) (plainBase_attr hb1) ?_ hb2 rfl ((hev o w i).run S h fun w1 a v H1 l1 S1 r1 h1 => ?_)
  · rw [(len_star q args hb4).2]
    show (true && decide _) = true
    rw [Bool.true_and, decide_eq_true_iff]
    exact Nat.lt_of_le_of_lt (of_decide_eq_true hb3) (by decide)
  · refine bind_inv h1 (fun xs H2 g1 g2 => ?_) fun e g1 g2 => (by obtain ⟨_, c, e', _⟩ := listOf_rd r1 H1 S1 _ H' g1; cases e')
    refine byC fun C_ k_ => ?_
    obtain ⟨rfl, c, e', l, vs, n, rfl, hL, hz, hvs⟩ := listOf_rd r1 H1 S1 _ H2 g1
    refine k_ ?_
    clear k_ C_
    refine ⟨"list", mtId k, F.plainAttrs_list, hs1, hs2, ⟨_, hL, rfl⟩, fun a' z => by cases z; exact ⟨_, hL, rfl⟩, ?_⟩
    have z := Rf.seqw (f := pMethK k a) (T := callWith q (.builtin (mtId k)) [.ref l] (backTo q (starEach args env)) []) (k := fun a => PySem.call (.builtin (mtId k)) ([.ref l] ++ a.pos) a.kw) (args_rf (f := .builtin (mtId k)) (pos := q) EnvR.stable hev (EnvR.stable _ _ i l1) hb4)
      (fun w' as a' l ⟨vs, e, r⟩ => by subst e; exact pMeth_rf R (r1.mono l) r) fun z => Calls.callWith_builtin (any_star q args hb4) z
    exact wpAny_mono (z _ S1 r H' g2) (fun u_ u_ q => q.le l1) fun u_ u_ q => q.le l1
theorem fn_rf {f : Str} {fp q : Pos} {args : List Expr} {cf : Str → List AV → M AV} (G : Good cx P) (C : CallOK cx A P cf) (hev : EvOK cx A env (EnvR cx env sc ns σ) ev) (i : EnvR cx env sc ns σ w) (hg : isGlob sc f = true) (hf : (P.fn f).isSome = true) :
    Rf cx A No w (VR cx) (do let vs ← evEach ev args; cf f vs) (eval (.Call (.Name f fp) args [] q) env) := by
  refine byC fun C_ k_ => ?_
  obtain ⟨hd, fa, o, fd, q1, q2, q3, q4⟩ := C f hf
  refine k_ ?_
  clear k_ C_
  refine named_rf (fun S h => load_glob G S i.k hg hd q1 h) (each_call fun h H S r H' hh => Calls.callWith_function (o := o) (fd := fd) ((args_rf (f := .ref fa) (pos := q) EnvR.stable hev i h).run S hh fun w1 as a H1 l1 S1 ⟨vs, e, r1⟩ h1 => ?_))
  subst e
  exact ⟨⟨(S1.base _ _ q2).1, q3⟩, wpAny_mono (q4 w1 as vs r1 H1 S1 r H' h1) (fun u_ u_ q => q.le l1) fun u_ u_ q => q.le l1⟩
def ZipOK (cx : Cx) (A : Around) : Prop := True
theorem nameOf1_of {e : Expr} {x : Str × Pos} (h : nameOf1 e = some x) : e = .Name x.1 x.2 := by
  cases e with
  | Name y q => cases h; rfl
  | _ => exact no_some h
theorem pairN_of {es : List Expr} {x y : Str × Pos} (h : pairN es = some (x, y)) : es = [.Name x.1 x.2, .Name y.1 y.2] := by
  match es, h with
  | [a, b], h =>
    unfold pairN at h
    cases ha : nameOf1 a with
    | none => simp only [ha] at h; cases h
    | some z =>
      simp only [ha] at h
      obtain ⟨u, h1, h2⟩ := Option.map_eq_some_iff.mp h
      cases h2
      rw [nameOf1_of ha, nameOf1_of h1]
theorem callOf_of {e : Expr} {f : Str} {args : List Expr} (h : callOf e = some (f, args)) : ∃ fp p, e = .Call (.Name f fp) args [] p := by
  cases e with
  | Call g as kws p =>
    cases kws with
    | nil =>
      obtain ⟨z, h1, h2⟩ := Option.map_eq_some_iff.mp (show (nameOf1 g).map (fun x => (x.1, as)) = some (f, args) from h)
      cases h2
      exact ⟨z.2, p, by rw [nameOf1_of h1]⟩
    | cons _ _ => first | exact no_some h | exact no_true h | cases h
  | _ => exact no_some h
theorem call_rf {f : Expr} {args : List Expr} {q : Pos} {mu : Bool} {cf : Str → List AV → M AV} (hh : A.handled = none) (R : Room A) (Z : ZipOK cx A) (G : Good cx P) (C : CallOK cx A P cf) (hev : EvOK cx A env (EnvR cx env sc ns σ) ev) (i : EnvR cx env sc ns σ w) :
    Rf cx A No w (VR cx) (dCall P ev cf mu sc f args q) (eval (.Call f args [] q) env) := by
  cases f with
  | Attribute o m ap =>
    show Rf cx A No w (VR cx) (match mtOf m with | some k => _ | none => stuck) _
    cases hm : mtOf m with
    | none => exact .stuck
    | some k => exact ite_rf (fun hb => meth_rf R hev i hm hb) fun u_ => .stuck
  | Name f fp =>
    refine ite_rf (fun hg => ite_rf (fun hf => ?_) fun hf => ?_) fun u_ => .stuck
    · subst hf
      match args with
      | [] => exact .stuck
      | [_] => exact .stuck
      | _ :: _ :: _ :: _ => exact .stuck
      | [e, t] =>
        refine ite_rf (fun he => ?_) fun u_ => .stuck
        cases t with
        | Name t tp =>
          refine ite_rf (fun hx => ?_) fun u_ => .stuck
          cases ht : tyOf t with
          | none => exact .stuck
          | some t => exact isi1_rf G hev i hg hx ht he
        | Tuple es k tp =>
          show Rf cx A No w (VR cx) (match pairN es with | some (t, u) => _ | none => stuck) _
          cases hp : pairN es with
          | none => exact .stuck
          | some tu =>
            obtain ⟨t, u⟩ := tu
            refine ite_rf (fun hx => ?_) fun u_ => .stuck
            rw [Bool.and_eq_true, Bool.and_eq_true] at hx
            rw [pairN_of hp]
            exact isi2_rf G hev i hg hx.1.2 hx.2 hx.1.1 he
        | _ => exact .stuck
    · show Rf cx A No w (VR cx) (match biOf f with | some b => _ | none => _) _
      cases hb : biOf f with
      | none => exact ite_rf (fun hf => fn_rf G C hev i hg hf) fun u_ => .stuck
      | some b =>
        show Rf cx A No w (VR cx) (dBI ev mu sc b args) _
        unfold dBI
        exact bi_call hh G hev i hg hb
  | _ => exact .stuck
end
end Mine


set_option autoImplicit false
set_option linter.unusedVariables false
namespace Mine
open PySem PyProof.Rows PySem.SeqAt

inductive ItI (cx : Cx) (w : Wl) (it : Addr) (xs : List AV) (i : Nat) : Prop
  | list (l : Addr) (vs : Array Value) (n : Nat) (h1 : w.s.heap.IsListIter it l i) (h2 : IsL w.s.heap l vs n) (h3 : Fz w l) (h4 : VRs cx w xs vs.toList)
  | tup (l : Addr) (vs : Array Value) (n : Nat) (h1 : w.s.heap.IsTupleIter it l i) (h2 : IsT w.s.heap l vs n) (h3 : Fz w l) (h4 : VRs cx w xs vs.toList)
  | range (a b : Int) (e : xs = rangeL a b) (h1 : IsRangeIter w.s.heap it (a + i) (((b - a).toNat : Int) - i) 1)
def ItR (cx : Cx) (w : Wl) (it : Addr) (i : Nat) : Src → Prop
  | .items xs => ItI cx w it xs i
  | .at l => ∃ a, w.ι[l]? = some a ∧ w.s.heap.IsListIter it a i
  | .enum _ => False
section
variable {cx : Cx} {A : Around} {p : Addr → Prop} {w w' : Wl} {H : AHeap} {it : Addr} {i : Nat}
theorem ItR.mono (l : Le p w w') (hp : it ∈ w.π) (hn : ¬ p it) : ∀ {src : Src}, ItR cx w it i src → ItR cx w' it i src
  | .items _, .list a vs n h1 h2 h3 h4 => .list a vs n (h1.at fun o e => l.kp _ o hp hn e) (l.fz' h2 h3).1 (l.fz' h2 h3).2 (h4.mono l)
  | .items _, .tup a vs n ⟨o, e, q⟩ h2 h3 h4 => .tup a vs n ⟨o, l.kp _ o hp hn e, q⟩ (l.fz' h2 h3).1 (l.fz' h2 h3).2 (h4.mono l)
  | .items _, .range a b e h1 => .range a b e (l.kp _ _ hp hn h1)
  | .at _, ⟨a, h1, h2⟩ => ⟨a, prefix_get l.pre h1, h2.at fun o e => l.kp _ o hp hn e⟩
def RNext (cx : Cx) (it : Addr) (i : Nat) (src : Src) (w : Wl) (r : Option AV) (o : Option Value) : Prop := match r with
  | none => o = none
  | some a => ∃ v, o = some v ∧ VR cx w a v ∧ it ∈ w.π ∧ ItR cx w it (i + 1) src
theorem rangeL_get {a b : Int} {i : Nat} : (rangeL a b)[i]? = if i < (b - a).toNat then some (.int (a + i)) else none := by
  unfold rangeL
  rw [List.getElem?_map]
  by_cases h : i < (b - a).toNat
  · rw [List.getElem?_range h, if_pos h]; rfl
  · rw [List.getElem?_eq_none (by rw [List.length_range]; exact Nat.not_lt.mp h), if_neg h]; rfl
theorem next_item (S : St cx w H) (hp : it ∈ w.π) {h' : Heap} {t : Nat} (hk : ∀ b o, b ≠ it → w.s.heap.get? b = some o → h'.get? b = some o) {src : Src} {a : AV} {v : Value}
    (k : Le (fun b => b = it) w ⟨w.ι, w.π, { w.s with heap := h', toks := t }⟩ → VR cx ⟨w.ι, w.π, { w.s with heap := h', toks := t }⟩ a v ∧ ItR cx ⟨w.ι, w.π, { w.s with heap := h', toks := t }⟩ it (i + 1) src)
    (hx : ∃ o, h'.get? it = some o) : Post cx (fun b => b = it) w (RNext cx it i src) (.ok (some a)) H (some v) { w.s with heap := h', toks := t } :=
  let q := S.priv (t := t) hp hk hx; ⟨w.ι, w.π, _, rfl, q.1, q.2, v, rfl, (k q.1).1, hp, (k q.1).2⟩
theorem next_end (S : St cx w H) (hp : it ∈ w.π) {h' : Heap} {t : Nat} (hk : ∀ b o, b ≠ it → w.s.heap.get? b = some o → h'.get? b = some o) {src : Src} : Post cx (fun b => b = it) w (RNext cx it i src) (.ok none) H none { w.s with heap := h', toks := t } :=
  let q := S.drop (t := t) hp hk; ⟨w.ι, _, _, rfl, q.1, q.2, rfl⟩
theorem ne_vs {vs : Array Value} {xs : List AV} (h4 : VRs cx w xs vs.toList) (hx : xs[i]? = none) : vs[i]? = none := by
  rw [Array.getElem?_eq_none_iff, h4.size]; exact List.getElem?_eq_none_iff.mp hx
theorem nextL_rf (hh : A.handled = none) (hp : it ∈ w.π) {l : Addr} {vs : Array Value} {n : Nat} {xs : List AV} {src : Src} (h1 : w.s.heap.IsListIter it l i) (h2 : IsL w.s.heap l vs n) (h4 : VRs cx w xs vs.toList)
    (k : ∀ {h' : Heap} {t : Nat}, Le (fun b => b = it) w ⟨w.ι, w.π, { w.s with heap := h', toks := t }⟩ → h'.IsListIter it l (i + 1) → ItR cx ⟨w.ι, w.π, { w.s with heap := h', toks := t }⟩ it (i + 1) src) :
    Rf cx A (fun b => b = it) w (RNext cx it i src) (pure xs[i]?) (pyNext (.ref it)) := .leaf fun H S => by
  cases hx : xs[i]? with
  | none => exact wpAny_pyNext_list_end hh h1 h2.isList (ne_vs h4 hx) fun h' he => next_end S (t := w.s.toks) hp he
  | some a =>
    obtain ⟨v, hv, rv⟩ := h4.get hx
    exact wpAny_pyNext_list_item h1 h2.isList (x := v) (by rw [← Array.getElem?_toList]; exact hv) fun h' hit hs => next_item S (t := w.s.toks) hp hs.extBut (fun l => ⟨rv.mono l, k l hit⟩) (let ⟨o, e, _⟩ := hit; ⟨o, e⟩)
theorem next_rf (hh : A.handled = none) (hp : it ∈ w.π) : ∀ {src : Src}, ItR cx w it i src → Rf cx A (fun b => b = it) w (RNext cx it i src) (src.get i) (pyNext (.ref it))
  | .items xs, .list a vs n h1 h2 h3 h4 => nextL_rf hh hp h1 h2 h4 fun l hit => .list a vs n hit (l.fz' h2 h3).1 (l.fz' h2 h3).2 (h4.mono l)
  | .at j, ⟨a, h1, h2⟩ => .read (listAt_rd h1) fun xs ⟨vs, n, hL, hz, hs⟩ => nextL_rf hh hp h2 hL hs fun l hit => ⟨a, h1, hit⟩
  | .items xs, .tup a vs n h1 h2 h3 h4 => .leaf fun H S => by
    have hT : w.s.heap.IsTuple a vs := ⟨_, h2, rfl, n, rfl⟩
    cases hx : xs[i]? with
    | none => exact wpAny_pyNext_tuple_end hh h1 hT (ne_vs h4 hx) fun h' he => next_end S (t := w.s.toks) hp he
    | some c =>
      obtain ⟨v, hv, rv⟩ := h4.get hx
      exact wpAny_pyNext_tuple_item h1 hT (x := v) (by rw [← Array.getElem?_toList]; exact hv) fun h' hit hs => next_item S (t := w.s.toks) hp hs.extBut (fun l => ⟨rv.mono l, .tup a vs n hit (l.fz' h2 h3).1 (l.fz' h2 h3).2 (h4.mono l)⟩) (let ⟨o, e, _⟩ := hit; ⟨o, e⟩)
  | .items xs, .range a b e h1 => .leaf fun H S => by
    rw [e, rangeL_get]
    split
    · refine wpAny_pyNext_range_item h1 (by (first | lia | omega)) fun h' hit hs => next_item S (t := w.s.toks + 1) hp hs.extBut (fun l => ⟨.int, .range a b rfl ?_⟩) ⟨_, hit⟩
      have e1 : a + ((i + 1 : Nat) : Int) = a + i + 1 := by (first | lia | omega)
      have e2 : ((b - a).toNat : Int) - ((i + 1 : Nat) : Int) = ((b - a).toNat : Int) - i - 1 := by (first | lia | omega)
      rw [e1, e2]; exact hit
    · exact wpAny_pyNext_range_end hh h1 (by (first | lia | omega)) fun h' he => next_end S (t := w.s.toks) hp he
def RIter (cx : Cx) (w₀ w : Wl) (src : Src) (v : Value) : Prop := ∃ it, v = .ref it ∧ it ∈ w.π ∧ ItR cx w it 0 src ∧ w₀.s.heap.get? it = none
theorem iter_post (S : St cx w H) {o : Obj} {src : Src} (k : Le No w ⟨w.ι, w.s.heap.objs.size :: w.π, { w.s with heap := w.s.heap.push o }⟩ → ItR cx ⟨w.ι, w.s.heap.objs.size :: w.π, { w.s with heap := w.s.heap.push o }⟩ w.s.heap.objs.size 0 src) (hf : o.isFreed = false) :
    Post cx No w (RIter cx w) (.ok src) H (.ref w.s.heap.objs.size) { w.s with heap := w.s.heap.push o } :=
  let q := S.hide (t := w.s.toks) (pushk o) (get_size _) ⟨o, Heap.get?_push_size _ hf⟩; ⟨w.ι, _, src, rfl, q.1, q.2, _, rfl, List.mem_cons_self, k q.1, get_size _⟩
theorem iter_rf {a : AV} {v : Value} (ra : VR cx w a v) : Rf cx A No w (RIter cx w) (srcOf a) (pyIter v) := by
  cases a with
  | tup xs => exact ra.tupE fun l vs n h1 h2 h3 h4 => .leaf fun H S => wpAny_pyIter_tuple ⟨_, h1, rfl, _, rfl⟩ (iter_post S (fun q => .tup l vs n ⟨_, Heap.get?_push_size _ rfl, rfl, rfl⟩ (q.fz' h1 h2).1 (q.fz' h1 h2).2 (h4.mono q)) rfl)
  | lst xs => exact ra.lstE fun l vs n h1 h2 h3 h4 => .leaf fun H S => wpAny_pyIter_list h1.isList (iter_post S (fun q => .list l vs n ⟨_, Heap.get?_push_size _ rfl, rfl, rfl⟩ (q.fz' h1 h2).1 (q.fz' h1 h2).2 (h4.mono q)) rfl)
  | range a b => exact ra.rangeE fun d t u x hr hf => ite_rf (fun hsm => .leaf fun H S => wpAny_pyIter_range hr (small_of hsm) (iter_post S (fun q => .range a b rfl (by rw [range_count, show ((0 : Nat) : Int) = 0 from rfl, Int.add_zero, Int.sub_zero]; exact Heap.get?_push_size _ rfl)) rfl)) fun u_ => .stuck
  | loc i => exact ra.locE fun l h => .read (listAt_rd h) fun xs ⟨vs, n, hL, _⟩ => .leaf fun H S => wpAny_pyIter_list hL.isList (iter_post S (fun q => ⟨l, h, _, Heap.get?_push_size _ rfl, rfl, rfl⟩) rfl)
  | _ => exact .stuck
theorem self_iter {Q : Value → Shared → Prop} {E : Value → Shared → Prop} (h : Q (.ref it) w.s) : ∀ {src : Src}, ItR cx w it i src → wpAny (model cx.prog cx.w) A (pyIter (.ref it)) Q E w.s
  | .items _, .list _ _ _ h1 _ _ _ => wpAny_pyIter_listiter h1 h
  | .items _, .tup _ _ _ h1 _ _ _ => wpAny_pyIter_tupleiter h1 h
  | .items _, .range _ _ _ h1 => wpAny_pyIter_rangeiter h1 h
  | .at _, ⟨_, _, h1⟩ => wpAny_pyIter_listiter h1 h
end
end Mine


set_option autoImplicit false
set_option linter.unusedVariables false
namespace Mine
open PySem PyProof.Rows PySem.SeqAt

section
variable {cx : Cx} {A : Around} {env : Env} {sc : Scope} {ns : List Str} {σ : Loc}
theorem closureFor_some {scope : Scope} (h : ∀ y, (y, NameKind.free) ∈ scope.names → ∃ c, env.cells.lookup y = some c) :
    ∃ cl, closureFor scope env = pure cl ∧ (∀ y, (y, NameKind.free) ∈ scope.names → cl.lookup y = env.cells.lookup y) ∧ ∀ y c, cl.lookup y = some c → env.cells.lookup y = some c := by
  have go : ∀ (names : List (Str × NameKind)) (acc : List (Str × Addr)), (∀ y, (y, NameKind.free) ∈ names → ∃ c, env.cells.lookup y = some c) →
      (∀ y c, acc.lookup y = some c → env.cells.lookup y = some c) →
      ∃ cl, (forIn (m := Sem) names acc fun x r => if (x.2 == NameKind.free) = true then (do let c ← cellOf env x.1; pure (ForInStep.yield ((x.1, c) :: r))) else pure (ForInStep.yield r)) = pure cl ∧
        (∀ y c, cl.lookup y = some c → env.cells.lookup y = some c) ∧ (∀ y, (y, NameKind.free) ∈ names → ∃ c, cl.lookup y = some c) ∧ (∀ y c, acc.lookup y = some c → ∃ c', cl.lookup y = some c') := by
    intro names
    induction names with
    | nil => intro acc _ ha; exact ⟨acc, rfl, ha, fun y hy => (nomatch hy), fun y c hc => ⟨c, hc⟩⟩
    | cons x r ih =>
      intro acc hn ha
      rw [List.forIn_cons]
      by_cases hx : x.2 = .free
      · obtain ⟨c, hc⟩ := hn x.1 (by rw [← hx]; exact List.mem_cons_self)
        have hcell : cellOf env x.1 = pure c := by unfold cellOf; rw [hc]
        rw [if_pos (by rw [hx]; rfl), hcell]
        simp only [pure_bind]
        have ha' : ∀ y c', ((x.1, c) :: acc).lookup y = some c' → env.cells.lookup y = some c' := fun y c' h' => by
          rw [List.lookup_cons] at h'
          cases hb : y == x.1 with
          | true => rw [hb] at h'; cases h'; rw [beq_iff_eq.mp hb]; exact hc
          | false => rw [hb] at h'; exact ha y c' h'
        refine byC fun C_ k_ => ?_
        obtain ⟨cl, e1, e2, e3, e4⟩ := ih ((x.1, c) :: acc) (fun y hy => hn y (List.mem_cons_of_mem _ hy)) ha'
        refine k_ ?_
        clear k_ C_
        refine ⟨cl, e1, e2, fun y hy => ?_, fun y c' h' => ?_⟩
        · rcases List.mem_cons.mp hy with q | q
          · exact e4 y c (by rw [← q, List.lookup_cons, beq_self_eq_true])
          · exact e3 y q
        · cases hb : y == x.1 with
          | true => exact e4 y c (by rw [List.lookup_cons, hb])
          | false => exact e4 y c' (by rw [List.lookup_cons, hb]; exact h')
      · rw [if_neg (fun z => hx (by simpa using z))]
        simp only [pure_bind]
        refine byC fun C_ k_ => ?_
        obtain ⟨cl, e1, e2, e3, e4⟩ := ih acc (fun y hy => hn y (List.mem_cons_of_mem _ hy)) ha
        refine k_ ?_
        clear k_ C_
        refine ⟨cl, e1, e2, fun y hy => ?_, e4⟩
        rcases List.mem_cons.mp hy with q | q
        · exact absurd (by rw [← q]) hx
        · exact e3 y q
  refine byC fun C_ k_ => ?_
  obtain ⟨cl, e1, e2, e3, _⟩ := go scope.names [] h (fun y c hc => by cases hc)
  refine k_ ?_
  clear k_ C_
  refine ⟨cl, ?_, fun y hy => ?_, e2⟩
  · have e0 : closureFor scope env = ((forIn (m := Sem) scope.names ([] : List (Str × Addr)) fun x r => if (x.2 == NameKind.free) = true then (do let c ← cellOf env x.1; pure (ForInStep.yield ((x.1, c) :: r))) else pure (ForInStep.yield r)) >>= fun cs => pure cs) := by
      unfold closureFor
      congr 1
    rw [e0, e1]; rfl
  · obtain ⟨c, hc⟩ := e3 y hy
    rw [hc, e2 y c hc]
def relK (env : Env) (y : Str) (k : NameKind) : NameKind := if (k == NameKind.free && env.scope.kind == .function && env.kindOf y == some .cell) then NameKind.cell else k
theorem relabel_lookup (y : Str) : ∀ (names : List (Str × NameKind)),
    (names.map fun (n, k) => if (k == NameKind.free && env.scope.kind == .function && env.kindOf n == some .cell) then (n, NameKind.cell) else (n, k)).lookup y = (names.lookup y).map (relK env y)
  | [] => rfl
  | (n, k) :: r => by
    have ih := relabel_lookup y r
    show List.lookup y ((if (k == NameKind.free && env.scope.kind == .function && env.kindOf n == some .cell) = true then (n, NameKind.cell) else (n, k)) :: _) = _
    rw [show (if (k == NameKind.free && env.scope.kind == .function && env.kindOf n == some .cell) = true then (n, NameKind.cell) else (n, k)) = (n, relK env n k) from by unfold relK; split <;> rfl, List.lookup_cons, List.lookup_cons]
    cases hx : y == n with
    | true => rw [beq_iff_eq.mp hx]; rfl
    | false => exact ih
theorem lookup_mem {names : List (Str × NameKind)} {y : Str} {k : NameKind} (h : names.lookup y = some k) : (y, k) ∈ names := by
  induction names with
  | nil => first | exact no_some h | exact no_true h | cases h
  | cons p r ih =>
    rw [List.lookup_cons] at h
    cases hb : y == p.1 with
    | true => rw [hb] at h; cases h; rw [beq_iff_eq.mp hb]; exact List.mem_cons_self
    | false => rw [hb] at h; exact List.mem_cons_of_mem _ (ih h)
structure CompOK (sc : Scope) (ns : List Str) (scope : Scope) (x : Str) : Prop where
  kind : scope.kind = .function
  own : scope.names.lookup x = some .local
  no0 : (".0" : Str) ∉ ns
  loc : ∀ y, (y, NameKind.local) ∈ scope.names → (y = x ∨ y = (".0" : Str)) ∧ scope.names.lookup y = some .local
  free : ∀ y, (y, NameKind.free) ∈ scope.names → sc.names.lookup y = some .cell ∧ ns.contains y = true
  kinds : ∀ y k, (y, k) ∈ scope.names → k = .local ∨ k = .free ∨ k = .globalImplicit
theorem compOk_of {scope : Scope} {x : Str} (h : compOk sc ns scope x = true) : CompOK sc ns scope x := by
  unfold compOk at h
  rw [Bool.and_eq_true, Bool.and_eq_true, Bool.and_eq_true, List.all_eq_true] at h
  refine byC fun C_ k_ => ?_
  obtain ⟨⟨⟨h1, h2⟩, h3⟩, h4⟩ := h
  refine k_ ?_
  clear k_ C_
  refine ⟨by simpa using h1, by simpa using h2, by simpa using h3, fun y hy => ?_, fun y hy => ?_, fun y k hy => ?_⟩
  · have := h4 _ hy
    simpa using this
  · have := h4 _ hy
    simpa using this
  · have h5 := h4 _ hy
    cases k with
    | «local» => exact .inl rfl
    | free => exact .inr (.inl rfl)
    | globalImplicit => exact .inr (.inr rfl)
    | _ => first | exact no_some h5 | exact no_true h5 | cases h5
theorem idxOf_cons_ne {x y : Str} (h : y ≠ x) : (x :: ns).idxOf? y = (ns.idxOf? y).map (· + 1) := by
  rw [List.idxOf?_cons, if_neg (by simpa using Ne.symm h)]
theorem EnvR.comp {w : Wl} {scope : Scope} {x : Str} {cl : List (Str × Addr)} {C : Addr} {m : Str → Option Value} {a : AV} {v : Value} (e : EnvR cx env sc ns σ w) (ok : CompOK sc ns scope x) (hcl : (∀ y, (y, NameKind.free) ∈ scope.names → cl.lookup y = env.cells.lookup y) ∧ ∀ y c, cl.lookup y = some c → env.cells.lookup y = some c)
    (hC : C ∈ w.π) (hn : w.s.heap.Ns C m) (hx : m x = some v) (r : VR cx w a v) : EnvR cx (compEnvC scope cl C env) scope (x :: ns) (some a :: σ) w := by
  have hk : ∀ y, (compEnvC scope cl C env).kindOf y = (scope.names.lookup y).map (relK env y) := fun y => relabel_lookup (env := env) y scope.names
  have hlook : ∀ y k, scope.names.lookup y = some k → k = .local ∨ k = .free ∨ k = .globalImplicit := fun y k q => ok.kinds y k (lookup_mem q)
  have kf : ∀ y, relK env y .free = .cell ∨ relK env y .free = .free := fun y => by unfold relK; split; exact .inl rfl; exact .inr rfl
  refine ⟨⟨?_, e.k.glob, e.k.blt, ?_, ?_, ?_⟩, hC, ⟨m, hn, ?_⟩, ?_, ?_, fun n c q => e.cls n c (hcl.2 n c q)⟩
  · show (relabel scope env).kind = _; exact ok.kind
  · intro y hy
    rw [hk]
    unfold isLocal at hy
    cases hl : scope.names.lookup y with
    | none => rw [hl] at hy; cases hy
    | some k =>
      rcases hlook y k hl with q | q | q
      · subst q; exact .inl rfl
      · subst q; rcases kf y with z | z
        · exact .inr (.inl (congrArg some z))
        · exact .inr (.inr (congrArg some z))
      · subst q; rw [hl] at hy; cases hy
  · intro y h2
    rcases hlook y _ h2 with q | q | q <;> cases q
  · intro y hy
    rw [hk]
    unfold isGlob at hy
    cases hl : scope.names.lookup y with
    | none => rw [hl] at hy; cases hy
    | some k =>
      rcases hlook y k hl with q | q | q
      · subst q; rw [hl] at hy; cases hy
      · subst q; rw [hl] at hy; cases hy
      · subst q; rfl
  · intro y i b h1 h2 h3
    rw [hk] at h3
    obtain ⟨k, hl, h3⟩ := Option.map_eq_some_iff.mp h3
    rcases hlook y k hl with q | q | q
    · subst q
      by_cases hyx : y = x
      · subst hyx
        rw [List.idxOf?_cons, beq_self_eq_true] at h1
        cases h1; cases h2
        exact ⟨v, hx, r⟩
      · rcases (ok.loc y (lookup_mem hl)).1 with hy | hy
        · exact absurd hy hyx
        · rw [idxOf_cons_ne hyx, List.idxOf?_eq_none_iff.mpr (by rw [hy]; exact ok.no0)] at h1; cases h1
    · subst q; rcases kf y with z | z <;> rw [z] at h3 <;> cases h3
    · subst q; cases h3
  · intro y i b h1 h2 h3
    rw [hk] at h3
    cases hl : scope.names.lookup y with
    | none => rw [hl] at h3; rcases h3 with h3 | h3 <;> cases h3
    | some k =>
      rw [hl] at h3
      rcases hlook y k hl with q | q | q
      · subst q; rcases h3 with h3 | h3 <;> cases h3
      · subst q
        refine byC fun C_ k_ => ?_
        obtain ⟨f1, f2⟩ := ok.free y (lookup_mem hl)
        have hyx : y ≠ x := fun q => by subst q; rw [ok.own] at hl; cases hl
        rw [idxOf_cons_ne hyx] at h1
        obtain ⟨j, hi, rfl⟩ := Option.map_eq_some_iff.mp h1
        obtain ⟨c, u, q1, q2, q3, q4⟩ := e.cel y j b hi h2 (.inl (e.k.kcell y f1))
        refine k_ ?_
        clear k_ C_
        exact ⟨c, u, (hcl.1 y (lookup_mem hl)).trans q1, q2, q3, q4⟩
      · subst q; rcases h3 with h3 | h3 <;> cases h3
  · intro y h1 h2
    rcases hlook y _ h2 with q | q | q <;> cases q
end
end Mine


set_option autoImplicit false
set_option linter.unusedVariables false
namespace Mine
open PySem PyProof.Rows PySem.SeqAt

noncomputable def compBody (te : AV → Expr → M Bool) (ev : AV → Expr → M AV) (ifs : List Expr) (elt : Expr) (v : AV) : M (Option AV) := do
  let t ← ifs1 (te v) ifs
  if t then do
    let y ← ev v elt
    pure (some y)
  else pure none
def P3 (it C D : Addr) : Addr → Prop := fun b => b = it ∨ b = C ∨ b = D
section
variable {cx : Cx} {A : Around} {p : Addr → Prop} {w w' w₁ : Wl} {H : AHeap} {env : Env} {sc : Scope} {ns : List Str} {σ : Loc} {src : Src} {it C D : Addr} {i : Nat} {acc : List AV}
set_option tactic.hygienic true in
theorem noX_ok {α : Type} {m : M α} {H H' : AHeap} {r : Except Str α} (h : noX m H = some (r, H')) : ∃ a, r = .ok a ∧ m H = some (.ok a, H') := by
  unfold noX at h
  split at h
  · rename_i a H1 e; cases h; exact ⟨a, rfl, e⟩
  · cases h
structure CL (cx : Cx) (env : Env) (sc : Scope) (ns : List Str) (σ : Loc) (w₁ : Wl) (it C D : Addr) (src : Src) (i : Nat) (acc : List AV) (w : Wl) (H : AHeap) : Prop where
  S : St cx w H
  X : Le (P3 it C D) w₁ w
  E : EnvR cx env sc ns σ w
  pI : it ∈ w.π
  J : ItR cx w it i src
  pD : D ∈ w.π
  L : ∃ vs n, IsL w.s.heap D vs n ∧ VRs cx w acc vs.toList
  pC : C ∈ w.π
  N : ∃ m, w.s.heap.Ns C m
structure CLs (env : Env) (it C D : Addr) : Prop where
  iC : it ≠ C
  iD : it ≠ D
  cD : C ≠ D
  oI : ¬ Own env it
  oC : ¬ Own env C
  oD : ¬ Own env D
theorem ns_keep {h h' : Heap} {a : Addr} (x : ∃ m, h.Ns a m) (e : ∀ o, h.get? a = some o → h'.get? a = some o) : ∃ m, h'.Ns a m := by obtain ⟨m, h1⟩ := x; exact ⟨m, h1.at' e⟩
theorem lst_keep {acc : List AV} (l : Le p w w') (hp : D ∈ w.π) (hn : ¬ p D) (x : ∃ vs n, IsL w.s.heap D vs n ∧ VRs cx w acc vs.toList) : ∃ vs n, IsL w'.s.heap D vs n ∧ VRs cx w' acc vs.toList := by obtain ⟨vs, n, h1, h2⟩ := x; exact ⟨vs, n, l.kp _ _ hp hn h1, h2.mono l⟩
theorem CL.mono {H' : AHeap} (c : CL cx env sc ns σ w₁ it C D src i acc w H) (l : Le No w w') (S : St cx w' H') : CL cx env sc ns σ w₁ it C D src i acc w' H' :=
  ⟨S, c.X.trans l.no, EnvR.stable _ _ c.E l, l.pv _ c.pI id, c.J.mono l c.pI id, l.pv _ c.pD id, lst_keep l c.pD id c.L, l.pv _ c.pC id, ns_keep c.N fun o e => l.kp _ o c.pC id e⟩
theorem turn_rf (hh : A.handled = none) (c : CL cx env sc ns σ w₁ it C D src i acc w H) : Rf cx A (fun b => b = it) w (RNext cx it i src) (src.get i) (pyNext (.ref it)) := next_rf hh c.pI c.J
theorem CL.turnI {H' : AHeap} {j : Nat} (K : CLs env it C D) (c : CL cx env sc ns σ w₁ it C D src i acc w H) (l : Le (fun b => b = it) w w') (S : St cx w' H') (pI : it ∈ w'.π) (J : ItR cx w' it j src) : CL cx env sc ns σ w₁ it C D src j acc w' H' :=
  ⟨S, c.X.trans (l.weak fun b u_ h => .inl h), c.E.mono l fun b hb h => K.oI (h ▸ hb), pI, J, l.pv _ c.pD (Ne.symm K.iD), lst_keep l c.pD (Ne.symm K.iD) c.L, l.pv _ c.pC (Ne.symm K.iC), ns_keep c.N fun o e => l.kp _ o c.pC (Ne.symm K.iC) e⟩
theorem CL.turnC {H' : AHeap} (K : CLs env it C D) (c : CL cx env sc ns σ w₁ it C D src i acc w H) (l : Le (fun b => b = C) w w') (S : St cx w' H') (pC : C ∈ w'.π) (N : ∃ m, w'.s.heap.Ns C m) : CL cx env sc ns σ w₁ it C D src i acc w' H' :=
  ⟨S, c.X.trans (l.weak fun b u_ h => .inr (.inl h)), c.E.mono l fun b hb h => K.oC (h ▸ hb), l.pv _ c.pI K.iC, c.J.mono l c.pI K.iC, l.pv _ c.pD (Ne.symm K.cD), lst_keep l c.pD (Ne.symm K.cD) c.L, pC, N⟩
theorem CL.add (K : CLs env it C D) (c : CL cx env sc ns σ w₁ it C D src i acc w H) {a : AV} {v : Value} {Q : Value → Shared → Prop} {E : Value → Shared → Prop} (r : VR cx w a v) (hz : acc.length < LIM)
    (hQ : ∀ u w', CL cx env sc ns σ w₁ it C D src i (acc ++ [a]) w' H → Q u w'.s) : wpAny (model cx.prog cx.w) A (PySem.call (.builtin "list.append") [.ref D, v]) Q E w.s := by
  refine byC fun C_ k_ => ?_
  obtain ⟨vs, n, l1, l2⟩ := c.L
  refine k_ ?_
  clear k_ C_
  refine call_meets F.slot_list_append ⟨_, l1, rfl⟩ F.entry_list_append (F.args_list_append_2 _ _) (list_append _ vs n v (by rw [l2.size]; exact Nat.le_trans (Nat.le_of_lt hz) LIM_le)) ⟨l1, hQ _ ⟨w.ι, w.π, { w.s with heap := w.s.heap.update D (Obj.mapSeq (·.push v)) }⟩ ?_⟩
  have hk : ∀ b o, b ≠ D → w.s.heap.get? b = some o → (w.s.heap.update D (Obj.mapSeq (·.push v))).get? b = some o := fun b o hb e => (Heap.get?_update_other _ _ (Ne.symm hb)).trans e
  have hL := IsL.update l1 (·.push v)
  obtain ⟨l, S⟩ := c.S.priv (t := w.s.toks) c.pD hk ⟨_, hL⟩
  exact ⟨S, c.X.trans (l.weak fun b u_ h => .inr (.inr h)), c.E.mono l fun b hb h => K.oD (h ▸ hb), c.pI, c.J.mono l c.pI K.iD, c.pD, ⟨_, _, hL, by rw [Array.toList_push]; exact (l2.append (.cons r .nil)).mono l⟩, c.pC, ns_keep c.N fun o e => hk C o K.cD e⟩
theorem ifs_rf {te : Expr → M Bool} {I : Wl → Prop} {env' : Env} (hte : TeOK cx A env' I te) (i : I w) {ifs : List Expr} :
    Rf cx A No w Rt (ifs1 te ifs) (forIn ifs true fun c r => if r = true then do let ok ← PySem.isTrue c env' (eval c env'); pure (ForInStep.yield ok) else pure (ForInStep.yield r)) := by
  match ifs with
  | [] => exact .leaf fun H S => wpAny_tests_nil (.here S rfl)
  | [e] => exact (hte e w i).wp fun h => wpAny_tests_one h
  | _ :: _ :: _ => exact .stuck
theorem compLoop_sound {elt iter : Expr} {x : Str} {px pos : Pos} {ifs : List Expr} {scope : Scope} {cl : List (Str × Addr)} {ys : List AV} {te : AV → Expr → M Bool} {ev : AV → Expr → M AV} {R : Result → Shared → Prop} {H3 : AHeap}
    (hh : A.handled = none) (ok : CompOK sc ns scope x) (hcl : (∀ y, (y, NameKind.free) ∈ scope.names → cl.lookup y = env.cells.lookup y) ∧ ∀ y c, cl.lookup y = some c → env.cells.lookup y = some c) (K : CLs env it C D)
    (hev : ∀ env' a, EvOK cx A env' (EnvR cx env' scope (x :: ns) (some a :: σ)) (ev a)) (hte : ∀ env' a, TeOK cx A env' (EnvR cx env' scope (x :: ns) (some a :: σ)) (te a))
    (hR : ∀ w', St cx w' H3 → Le (P3 it C D) w₁ w' → EnvR cx env sc ns σ w' → D ∈ w'.π → (∃ vs n, IsL w'.s.heap D vs n ∧ VRs cx w' ys vs.toList) → C ∈ w'.π → (∃ m, w'.s.heap.Ns C m) → R (.ok .next) w'.s)
    (f : Nat) (i : Nat) (hc : CL cx env sc ns σ w₁ it C D src i acc w H) (hl : compLoop src (compBody te ev ifs elt) f i acc H = some (.ok ys, H3)) :
    codeAny (model cx.prog cx.w) A (.compLoop (.ListComp elt [⟨.Name x px, iter, ifs, 0⟩] scope pos) 0 (.ref it) (.ref D) (compEnvC scope cl C env)) R w.s := by
  refine codeAny_compLoop_tests (fun k s' => ∃ w H' i acc, w.s = s' ∧ CL cx env sc ns σ w₁ it C D src i acc w H' ∧ compLoop src (compBody te ev ifs elt) k i acc H' = some (.ok ys, H3)) ?_ f ⟨w, H, i, acc, rfl, hc, hl⟩
  clear hc hl
  rintro k s ⟨w, H, i, acc, rfl, c, hl⟩
  cases k with
  | zero => cases hl
  | succ k =>
    unfold compLoop at hl
    refine wpAny_mono ((turn_rf hh c).run c.S hl fun w1 r o H1 l1 S1 hr h2 => ?_) (fun u_ u_ z => z) fun u_ u_ z_ => z_.out
    cases r with
    | none =>
      have hr : o = none := hr
      subst hr
      obtain ⟨e1, rfl⟩ := pure_some h2
      cases e1
      exact hR w1 S1 (c.X.trans (l1.weak fun b u_ h => .inl h)) (c.E.mono l1 fun b hb h => K.oI (h ▸ hb)) (l1.pv _ c.pD (Ne.symm K.iD)) (lst_keep l1 c.pD (Ne.symm K.iD) c.L) (l1.pv _ c.pC (Ne.symm K.iC)) (ns_keep c.N fun o e => l1.kp _ o c.pC (Ne.symm K.iC) e)
    | some a =>
      refine byC fun C_ k_ => ?_
      obtain ⟨v, rfl, rv, pI, J'⟩ := hr
      have c1 := c.turnI K l1 S1 pI J'
      obtain ⟨m, hm⟩ := c1.N
      refine k_ ?_
      clear k_ C_
      refine wpAny_assign_Name (wpAny_storeName_local (env := compEnvC scope cl C env) (lookup_relabel_local ok.own) hm (fun h'' hn'' hs'' => ?_) (by simp [compEnvC, relabel, ok.kind]))
      obtain ⟨l2, S2⟩ := c1.S.priv (t := w1.s.toks + 1) c1.pC hs''.extBut (let ⟨o, _, _, e, _⟩ := hn''; ⟨o, e⟩)
      have c2 := c1.turnC K l2 S2 c1.pC ⟨_, hn''⟩
      have I2 : EnvR cx (compEnvC scope cl C env) scope (x :: ns) (some a :: σ) ⟨w1.ι, w1.π, { w1.s with heap := h'', toks := w1.s.toks + 1 }⟩ := c2.E.comp ok hcl c1.pC hn'' (by simp) (rv.mono l2)
      refine bind_inv h2 (fun b H2 h3 h4 => ?_) fun x h3 h4 => by cases h4
      obtain ⟨b', e', h3⟩ := noX_ok h3
      cases e'
      refine wpAny_mono ((ifs_rf (hte _ a) I2 (ifs := ifs)).run c2.S h3 fun w3 t t' H3' l3 S3 ht h5 => ?_) (fun u_ u_ z => z) fun u_ u_ z_ => z_.out
      have c3 := c2.mono l3 S3
      rw [← show t = t' from ht]
      cases t with
      | false =>
        obtain ⟨e1, rfl⟩ := pure_some h5
        cases e1
        exact ⟨k, Nat.lt_succ_self _, w3, _, _, _, rfl, c3, h4⟩
      | true =>
        refine wpAny_mono ((hev _ a elt w3 (EnvR.stable _ _ I2 l3)).run (f := fun y => pure (some y)) c3.S h5 fun w4 y u H5 l4 S4 r4 h6 => ?_) (fun u_ u_ z => z) fun u_ u_ z_ => z_.out
        obtain ⟨e1, rfl⟩ := pure_some h6
        cases e1
        have h4 : (if acc.length < LIM then compLoop src (compBody te ev ifs elt) k (i + 1) (acc ++ [y]) else stuck : M (List AV)) _ = some (.ok ys, H3) := h4
        split at h4
        · exact (c3.mono l4 S4).add K r4 ‹_› fun u_ w5 c5 => ⟨k, Nat.lt_succ_self _, w5, _, _, _, rfl, c5, h4⟩
        · cases h4
theorem listAt_ok {l : Nat} {H H' : AHeap} {r : Except Str (List AV)} (h : listAt l H = some (r, H')) : ∃ a, r = .ok a := by
  refine bind_inv h (fun o H1 h1 h2 => ?_) fun x h1 h2 => ?_
  · cases o with
    | list xs => exact ⟨xs, (pure_some h2).1⟩
    | dict _ => cases h2
  · unfold objAt at h1
    split at h1 <;> cases h1
theorem get_ok {H H' : AHeap} : ∀ {src : Src} {r : Except Str (Option AV)}, src.get i H = some (r, H') → ∃ a, r = .ok a
  | .items xs, r, h => ⟨_, (pure_some h).1⟩
  | .at l, r, h => bind_inv h (fun xs H1 h1 h2 => ⟨_, (pure_some h2).1⟩) fun x h1 h2 => by obtain ⟨a, e⟩ := listAt_ok h1; cases e
  | .enum s, r, h => bind_inv h (fun xs H1 h1 h2 => ⟨_, (pure_some h2).1⟩) fun x h1 h2 => by obtain ⟨a, e⟩ := get_ok (src := s) h1; cases e
theorem compLoop_ok {body : AV → M (Option AV)} : ∀ (f i : Nat) (acc : List AV) {H H' : AHeap} {r : Except Str (List AV)}, compLoop src body f i acc H = some (r, H') → ∃ a, r = .ok a
  | 0, _, _, _, _, _, h => nomatch h
  | f + 1, i, acc, H, H', r, h => by
    unfold compLoop at h
    refine bind_inv h (fun o H1 h1 h2 => ?_) fun x h1 h2 => by obtain ⟨a, e⟩ := get_ok h1; cases e
    cases o with
    | none => exact ⟨_, (pure_some h2).1⟩
    | some v =>
      refine bind_inv h2 (fun b H2 h3 h4 => ?_) fun x h3 h4 => by obtain ⟨a, e, _⟩ := noX_ok h3; cases e
      cases b with
      | none => exact compLoop_ok f (i + 1) acc h4
      | some y =>
        have h4 : (if acc.length < LIM then compLoop src body f (i + 1) (acc ++ [y]) else stuck : M (List AV)) H2 = some (r, H') := h4
        split at h4
        · exact compLoop_ok f (i + 1) _ h4
        · cases h4
theorem comp_core {elt iter : Expr} {x : Str} {px pos pos' : Pos} {ifs : List Expr} {scope : Scope} {mu : Bool} {ei : Expr → M AV} {te : AV → Expr → M Bool} {ev : AV → Expr → M AV} {use : Option (Value → Sem Unit)} {Q : Value → Shared → Prop} {r : Except Str AV} {H' : AHeap}
    (hh : A.handled = none) (ok : CompOK sc ns scope x) (hx : exOk iter = true) (hi : EvOK cx A env (EnvR cx env sc ns σ) ei)
    (hev : ∀ env' a, EvOK cx A env' (EnvR cx env' scope (x :: ns) (some a :: σ)) (ev a)) (hte : ∀ env' a, TeOK cx A env' (EnvR cx env' scope (x :: ns) (some a :: σ)) (te a)) (S : St cx w H) (I : EnvR cx env sc ns σ w)
    (h : (do let iv ← ei iter; let src ← srcOf iv; let ys ← compLoop src (compBody te ev ifs elt) FUEL 0 []; newL mu ys : M AV) H = some (r, H'))
    (hfin : ∀ D C w' a, r = .ok a → Le No w w' → St cx w' H' → VR cx w' a (.ref D) → EnvR cx env sc ns σ w' → C ∈ w'.π → C ∉ w.π → ¬ Own env C → (∃ m, w'.s.heap.Ns C m) → compPost (model cx.prog cx.w) A (PostX cx No w r H') use Q (.ref D) C (.ok .next) w'.s) :
    wpAny (model cx.prog cx.w) A (comprehension (.ListComp elt [⟨.Name x px, iter, ifs, 0⟩] scope pos) scope env pos' (newList []) false (eval iter env) use) Q (PostX cx No w r H') w.s := by
  obtain ⟨cl, hclos, hcl⟩ := closureFor_some (env := env) (scope := scope) (fun y hy => by
    refine byC fun C_ k_ => ?_
    obtain ⟨f1, f2⟩ := ok.free y hy
    obtain ⟨c, v, q, _⟩ := I.has y f2 f1
    refine k_ ?_
    clear k_ C_
    exact ⟨c, q⟩)
  refine wpAny_comprehension_free (use := use) rfl (fun v => exOk_set hx) hclos ok.kind (fun z hz hl => (ok.loc z.1 (by rw [← hl]; exact hz)).2) ((hi iter w I).run S h fun w1 iv xv H1 l1 S1 r1 h1 => ?_)
  refine wpAny_mono ((iter_rf r1).run S1 h1 fun w2 src itv H2 l2 S2 ⟨it, e, pI, J, hitn⟩ h2 => ?_) (fun u_ u_ z => z) fun u_ u_ q => q.le l1
  subst e
  -- the list
  have hDn : w2.s.heap.get? w2.s.heap.objs.size = none := get_size _
  obtain ⟨l3, S3⟩ := S2.hide (t := w2.s.toks) (pushk { cls := .type "list", dict := none, data := .seq ([] : List Value).toArray }) hDn ⟨_, Heap.get?_push_size _ rfl⟩
  refine wpAny_newObj_type (wpAny_newFunctionEnv (fun z hz => by rcases ok.kinds z.1 z.2 hz with q | q | q <;> rw [q] <;> simp) (by intro y hy; simp at hy) (fun h4 hns hsb => ?_) ok.kind)
  dsimp only at hns hsb ⊢
  have hD3 : IsL (w2.s.heap.push { cls := .type "list", dict := none, data := .seq ([] : List Value).toArray }) w2.s.heap.objs.size #[] 0 := Heap.get?_push_size _ rfl
  have hGs : (w2.s.heap.push { cls := .type "list", dict := none, data := .seq ([] : List Value).toArray }).objs.size = w2.s.heap.objs.size + 1 := Heap.size_push ..
  generalize w2.s.heap.push { cls := .type "list", dict := none, data := .seq ([] : List Value).toArray } = G at hns hsb l3 S3 hD3 hGs ⊢
  have hk4 : ∀ b o, G.get? b = some o → h4.get? b = some o := fun b o e => hsb.extBut b o (Nat.ne_of_lt (Heap.lt_size e)) (Heap.get?_push_of_some _ e)
  refine byC fun C_ k_ => ?_
  obtain ⟨l4, S4⟩ := S3.hide (t := w2.s.toks + 0) hk4 (get_size _) (let ⟨o, _, _, e, _⟩ := hns; ⟨o, e⟩)
  have I1 := EnvR.stable _ _ I l1
  have I2 := EnvR.stable _ _ I1 l2
  have I4 := EnvR.stable _ _ (EnvR.stable _ _ I2 l3) l4
  obtain ⟨oi, hoi⟩ := S2.pvx it pI
  refine k_ ?_
  clear k_ C_
  have iD : it ≠ w2.s.heap.objs.size := Nat.ne_of_lt (Heap.lt_size hoi)
  have iC : it ≠ G.objs.size := by rw [hGs]; exact Nat.ne_of_lt (Nat.lt_succ_of_lt (Heap.lt_size hoi))
  have cD : G.objs.size ≠ w2.s.heap.objs.size := by rw [hGs]; exact Nat.succ_ne_self _
  have old : ∀ {b : Addr}, Own env b → b < w2.s.heap.objs.size ∧ b ≠ it := fun {b} hb => by
    refine byC fun C_ k_ => ?_
    obtain ⟨o, e⟩ := S1.pvx b (I1.own hb)
    obtain ⟨o2, e2⟩ := S2.pvx b (I2.own hb)
    refine k_ ?_
    clear k_ C_
    exact ⟨Heap.lt_size e2, fun z => by rw [z, hitn] at e; cases e⟩
  have K : CLs env it G.objs.size w2.s.heap.objs.size := ⟨iC, iD, cD, fun h => (old h).2 rfl, fun h => absurd (old h).1 (by rw [hGs]; exact Nat.not_lt.mpr (Nat.le_succ _)), fun h => Nat.lt_irrefl _ (old h).1⟩
  have c0 : CL cx env sc ns σ ⟨w2.ι, G.objs.size :: w2.s.heap.objs.size :: w2.π, { w2.s with heap := h4, toks := w2.s.toks + 0 }⟩ it G.objs.size w2.s.heap.objs.size src 0 [] ⟨w2.ι, G.objs.size :: w2.s.heap.objs.size :: w2.π, { w2.s with heap := h4, toks := w2.s.toks + 0 }⟩ H2 :=
    ⟨S4, .refl _, I4, List.mem_cons_of_mem _ (List.mem_cons_of_mem _ pI), (J.mono l3 pI id).mono l4 (List.mem_cons_of_mem _ pI) id, List.mem_cons_of_mem _ List.mem_cons_self, ⟨#[], 0, hk4 _ _ hD3, rfl⟩, List.mem_cons_self, ⟨_, hns⟩⟩
  refine bind_inv h2 (fun ys H3 h5 h6 => ?_) fun e h5 h6 => by obtain ⟨a, e⟩ := compLoop_ok _ _ _ h5; cases e
  have hz := newL_len h6
  have np : ∀ b, b ∈ w.π → ¬ P3 it G.objs.size w2.s.heap.objs.size b := fun b hb h => by
    refine byC fun C_ k_ => ?_
    obtain ⟨o, e⟩ := S1.pvx b (l1.pv b hb id)
    obtain ⟨o2, e2⟩ := S2.pvx b (l2.pv b (l1.pv b hb id) id)
    refine k_ ?_
    clear k_ C_
    rcases h with h | h | h
    · rw [h, hitn] at e; cases e
    · rw [h] at e2; exact absurd (Heap.lt_size e2) (by rw [hGs]; exact Nat.not_lt.mpr (Nat.le_succ _))
    · rw [h] at e2; exact Nat.lt_irrefl _ (Heap.lt_size e2)
  have lw : ∀ {w'}, Le (P3 it G.objs.size w2.s.heap.objs.size) ⟨w2.ι, G.objs.size :: w2.s.heap.objs.size :: w2.π, { w2.s with heap := h4, toks := w2.s.toks + 0 }⟩ w' → Le No w w' := fun l => (l1.no.trans (l2.no.trans (l3.no.trans (l4.no.trans l)))).weak fun b hb h => np b hb h
  have loop : codeAny (model cx.prog cx.w) A (.compLoop (.ListComp elt [⟨.Name x px, iter, ifs, 0⟩] scope pos) 0 (.ref it) (.ref w2.s.heap.objs.size) (compEnvC scope cl G.objs.size env)) (compPost (model cx.prog cx.w) A (PostX cx No w r H') use Q (.ref w2.s.heap.objs.size) G.objs.size) { w2.s with heap := h4, toks := w2.s.toks + 0 } := by
    refine compLoop_sound hh ok hcl K hev hte (fun w5 S5 l5 I5 pD ⟨vs, n, hL, hvs⟩ pC hN => ?_) FUEL 0 c0 h5
    have oc : ¬ Own env G.objs.size := K.oC
    have nc : G.objs.size ∉ w.π := fun hb => np _ hb (.inr (.inl rfl))
    unfold newL at h6
    rw [if_pos hz] at h6
    cases mu with
    | false =>
      refine byC fun C_ k_ => ?_
      obtain ⟨rfl, rfl⟩ := pure_some h6
      obtain ⟨l6, S6⟩ := S5.drop (t := w5.s.toks) pD fun u_ u_ u_ e => e
      refine k_ ?_
      clear k_ C_
      have l7 := l5.trans (l6.weak fun b u_ h => .inr (.inr h))
      exact hfin _ _ ⟨w5.ι, outP w5.π w2.s.heap.objs.size, { w5.s with heap := w5.s.heap, toks := w5.s.toks }⟩ _ rfl (lw l7) S6 (.lst hL ⟨fun z => S5.dj _ z pD, fun z => (mem_outP.mp z).2 rfl⟩ hz (hvs.mono l6)) (I5.mono l6 fun b hb h => K.oD (h ▸ hb)) (mem_outP.mpr ⟨pC, cD⟩) nc oc hN
    | true =>
      cases h6
      obtain ⟨l6, S6⟩ := S5.adopt (t := w5.s.toks) (o := .list ys) pD (fun u_ u_ u_ e => e) fun l6 => ⟨vs, n, hL, hz, hvs.mono l6⟩
      have l7 := l5.trans (l6.weak fun b u_ h => .inr (.inr h))
      exact hfin _ _ ⟨w5.ι ++ [w2.s.heap.objs.size], outP w5.π w2.s.heap.objs.size, { w5.s with heap := w5.s.heap, toks := w5.s.toks }⟩ _ rfl (lw l7) S6 (.loc (by rw [← S5.len]; exact List.getElem?_concat_length)) (I5.mono l6 fun b hb h => K.oD (h ▸ hb)) (mem_outP.mpr ⟨pC, cD⟩) nc oc hN
  exact codeAny_compStart_list loop (self_iter (w := ⟨w2.ι, G.objs.size :: w2.s.heap.objs.size :: w2.π, { w2.s with heap := h4, toks := w2.s.toks + 0 }⟩) loop c0.J)
theorem comp_rf {elt iter : Expr} {x : Str} {px pos : Pos} {ifs : List Expr} {scope : Scope} {mu : Bool} {ei : Expr → M AV} {te : AV → Expr → M Bool} {ev : AV → Expr → M AV}
    (hh : A.handled = none) (ok : CompOK sc ns scope x) (hx : exOk iter = true) (hi : EvOK cx A env (EnvR cx env sc ns σ) ei)
    (hev : ∀ env' a, EvOK cx A env' (EnvR cx env' scope (x :: ns) (some a :: σ)) (ev a)) (hte : ∀ env' a, TeOK cx A env' (EnvR cx env' scope (x :: ns) (some a :: σ)) (te a)) (I : EnvR cx env sc ns σ w) :
    Rf cx A No w (VR cx) (do let iv ← ei iter; let src ← srcOf iv; let ys ← compLoop src (compBody te ev ifs elt) FUEL 0 []; newL mu ys) (eval (.ListComp elt [⟨.Name x px, iter, ifs, 0⟩] scope pos) env) := fun H S r H' h => by
  rw [eval_ListComp]
  refine comp_core (use := none) (mu := mu) hh ok hx hi hev hte S I h fun D C w' a e l S' rv I' pC nC oC ⟨m, hN⟩ => ⟨m, hN, fun h' hs => ?_⟩
  subst e
  obtain ⟨l2, S2⟩ := S'.drop (t := w'.s.toks) pC hs.extBut
  exact ⟨_, _, a, rfl, (l.no.trans l2).weak (fun b hb h => nC (h ▸ hb)), S2, rv.mono l2⟩
end
end Mine


set_option autoImplicit false
set_option linter.unusedVariables false
namespace Mine
open PySem PyProof.Rows PySem.SeqAt

section
variable {cx : Cx} {A : Around} {w : Wl} {P : Pg} {cf : Str → List AV → M AV}
set_option tactic.hygienic true in
theorem compGen_of {gens : List Comprehension} {x : Str} {iter : Expr} {ifs : List Expr} (h : compGen gens = some (x, iter, ifs)) : ∃ px, gens = [⟨.Name x px, iter, ifs, 0⟩] := by
  match gens, h with
  | [⟨tg, it, fs, k⟩], h =>
    have h' : (if k = 0 then (nameOf1 tg).map fun x => (x.1, it, fs) else none) = some (x, iter, ifs) := h
    split at h'
    · rename_i h0
      obtain ⟨y, h1, h2⟩ := Option.map_eq_some_iff.mp h'
      cases h2
      rw [nameOf1_of h1, h0]
      exact ⟨y.2, rfl⟩
    · cases h'
theorem dComp_cases {sc : Scope} {ns : List Str} {T : M AV → Prop} {elt : Expr} {gens : List Comprehension} {scope : Scope} {n : Nat} {mu : Bool} {ev : Expr → M AV} {ec : Str → AV → Expr → M AV} (h0 : T stuck)
    (h1 : ∀ x px iter ifs, gens = [⟨.Name x px, iter, ifs, 0⟩] → CompOK sc ns scope x → exOk iter = true → T (do let iv ← ev iter; let src ← srcOf iv; let ys ← compLoop src (compBody (fun v => denT (ec x v) n) (fun v => ec x v) ifs elt) FUEL 0 []; newL mu ys)) : T (dComp ev ec n mu sc ns scope elt gens) := by
  unfold dComp
  cases hg : compGen gens with
  | none => exact h0
  | some q =>
    refine byC fun C_ k_ => ?_
    obtain ⟨x, iter, ifs⟩ := q
    obtain ⟨px, e⟩ := compGen_of hg
    refine k_ ?_
    clear k_ C_
    show T (if compOk sc ns scope x && exOk iter then _ else stuck)
    by_cases hok : (compOk sc ns scope x && exOk iter) = true
    · rw [if_pos hok]; rw [Bool.and_eq_true] at hok; exact h1 x px iter ifs e (compOk_of hok.1) hok.2
    · rw [if_neg hok]; exact h0
theorem den_rf (hh : A.handled = none) (R : Room A) (Z : ZipOK cx A) (G : Good cx P) (C : CallOK cx A P cf) : ∀ (n : Nat) (env : Env) (sc : Scope) (ns : List Str) (σ : Loc), EvOK cx A env (EnvR cx env sc ns σ) (den P cf n sc ns σ)
  | 0, env, sc, ns, σ => fun e w i => .stuck
  | n + 1, env, sc, ns, σ => fun e w i => by
    have ih := den_rf hh R Z G C n
    have hev := ih env sc ns σ
    have hst : Stable (EnvR cx env sc ns σ) := EnvR.stable
    cases e with
    | Constant c k p => exact const_rf
    | Name x p => exact dName_rf G i
    | BoolOp op vs p => rw [arm_eval_BoolOp]; exact bOp_rf hst hev _ _ _ i
    | BinOp l op r p => exact binop_rf hst hev i
    | UnaryOp op x p => exact unop_rf hev i
    | Compare l ops cs p => exact compare_rf R hst hev i
    | Tuple es k p => exact tuple_lit_rf hst hev i
    | List es p => exact list_lit_rf hst hev i
    | Dict keys vals p => exact dict_lit_rf hst hev i
    | Subscript o j p => exact sub_rf hst hev i
    | ListComp elt gens scope p =>
      refine dComp_cases (T := fun m => Rf cx A No w (VR cx) m (eval (.ListComp elt gens scope p) env)) .stuck fun x px iter ifs e ok hx => ?_
      subst e
      exact comp_rf hh ok hx hev (fun env' a => ih env' scope (x :: ns) (some a :: σ)) (fun env' a => denT_rf R EnvR.stable (ih env' scope (x :: ns) (some a :: σ)) n) i
    | Call f args kws p =>
      cases kws with
      | nil => exact call_rf hh R Z G C hev i
      | cons _ _ => exact .stuck
    | _ => exact .stuck
end
end Mine


set_option autoImplicit false
set_option linter.unusedVariables false
namespace Mine
open PySem PyProof.Rows PySem.SeqAt

structure FrS (env : Env) (sc : Scope) : Prop where
  scp : env.scope = sc
  ll : ∀ n c, env.cells.lookup n = some c → c ≠ env.locals
  inj : ∀ n n' c, env.cells.lookup n = some c → env.cells.lookup n' = some c → n = n'
  nofree : ∀ x, isLocal sc x = true → sc.names.lookup x = some .local ∨ sc.names.lookup x = some .cell
def RL (cx : Cx) (env : Env) (sc : Scope) (ns : List Str) {β : Type} (w : Wl) (σ : Loc) (_ : β) : Prop := EnvR cx env sc ns σ w
section
variable {cx : Cx} {A : Around} {p : Addr → Prop} {w w' : Wl} {H : AHeap} {env : Env} {sc : Scope} {ns : List Str} {σ : Loc} {P : Pg} {cf : Str → List AV → M AV}
theorem idx_get {x : Str} {i : Nat} (h : ns.idxOf? x = some i) : ∃ q : i < ns.length, ns[i] = x := by
  rw [List.idxOf?, List.findIdx?_eq_some_iff_getElem] at h
  exact ⟨h.1, beq_iff_eq.mp h.2.1⟩
set_option tactic.hygienic true in
theorem set_get {x y : Str} {i j : Nat} {a b : AV} (hi : ns.idxOf? x = some i) (h1 : ns.idxOf? y = some j) (h2 : (σ.set i (some a))[j]? = some (some b)) : (y = x ∧ b = a) ∨ (y ≠ x ∧ σ[j]? = some (some b)) := by
  rw [List.getElem?_set] at h2
  split at h2
  · rename_i e
    subst e
    refine byC fun C_ k_ => ?_
    obtain ⟨q1, e1⟩ := idx_get hi
    obtain ⟨q2, e2⟩ := idx_get h1
    refine k_ ?_
    clear k_ C_
    split at h2
    · cases h2; exact .inl ⟨e2.symm.trans e1, rfl⟩
    · cases h2
  · rename_i e
    exact .inr ⟨fun q => by subst q; rw [hi] at h1; cases h1; exact e rfl, h2⟩
theorem bindN_rf {x : Str} {q : Pos} {a : AV} {v : Value} (F : FrS env sc) (hx : isLocal sc x = true) (I : EnvR cx env sc ns σ w) (r : VR cx w a v) : Rf cx A (Own env) w (RL cx env sc ns) (setN ns x a σ) (assign (.Name x q) env v) := by
  unfold setN
  cases hi : ns.idxOf? x with
  | none => exact .stuck
  | some i =>
    have hk : ∀ y, env.kindOf y = sc.names.lookup y := fun y => by rw [← F.scp]; rfl
    refine .leaf fun H S => wpAny_assign_Name ?_
    obtain ⟨m, hm, hv⟩ := I.nsm
    rcases F.nofree x hx with hl | hl
    · refine wpAny_storeName_local ((hk x).trans hl) hm (fun h' hn hs => ?_) (by rw [I.k.kind]; rfl)
      obtain ⟨l, S'⟩ := S.priv (t := w.s.toks + 1) I.pl hs.extBut (let ⟨o, _, _, e, _⟩ := hn; ⟨o, e⟩)
      have kc : ∀ {n c u}, env.cells.lookup n = some c → c ∈ w.π → w.s.heap.IsCell c u → h'.IsCell c u := fun h1 h2 h3 => cell_keep h3 fun o e => l.kp _ o h2 (F.ll _ _ h1) e
      refine ⟨_, _, _, rfl, l.weak fun b u_ e => .inl e, S', ⟨I.k, I.pl, ⟨_, hn, fun y j b h1 h2 h3 => ?_⟩, fun y j b h1 h2 h3 => ?_, fun y h1 h2 => ?_, I.cls⟩⟩
      · rcases set_get hi h1 h2 with ⟨rfl, rfl⟩ | ⟨hne, h4⟩
        · exact ⟨v, if_pos rfl, r.mono l⟩
        · obtain ⟨u, q1, q2⟩ := hv y j b h1 h4 h3
          exact ⟨u, (if_neg hne).trans q1, q2.mono l⟩
      · rcases set_get hi h1 h2 with ⟨rfl, rfl⟩ | ⟨hne, h4⟩
        · rw [hk, hl] at h3; rcases h3 with h3 | h3 <;> cases h3
        · refine byC fun C_ k_ => ?_
          obtain ⟨c, u, q1, q2, q3, q4⟩ := I.cel y j b h1 h4 h3
          refine k_ ?_
          clear k_ C_
          exact ⟨c, u, q1, q2, kc q1 q2 q3, q4.mono l⟩
      · refine byC fun C_ k_ => ?_
        obtain ⟨c, u, q1, q2, q3⟩ := I.has y h1 h2
        refine k_ ?_
        clear k_ C_
        exact ⟨c, u, q1, q2, kc q1 q2 q3⟩
    · refine byC fun C_ k_ => ?_
      obtain ⟨qi, ei⟩ := idx_get hi
      obtain ⟨c, u0, hc, hp, hc0⟩ := I.has x (List.contains_iff_mem.mpr (ei ▸ List.getElem_mem qi)) hl
      refine k_ ?_
      clear k_ C_
      refine wpAny_storeName_cell I.k.kind ((hk x).trans hl) hc hc0 fun h' hcv hs => ?_
      obtain ⟨l, S'⟩ := S.priv (t := w.s.toks) hp hs.extBut (let ⟨o, e, _⟩ := hcv; ⟨o, e⟩)
      have kc : ∀ {n d u}, n ≠ x → env.cells.lookup n = some d → d ∈ w.π → w.s.heap.IsCell d u → h'.IsCell d u := fun h0 h1 h2 h3 => cell_keep h3 fun o e => l.kp _ o h2 (fun z => h0 (F.inj _ _ c (z ▸ h1) hc)) e
      refine ⟨_, _, _, rfl, l.weak fun b u_ e => .inr ⟨x, e ▸ hc⟩, S', ⟨I.k, I.pl, ⟨m, hm.at' fun o e => l.kp _ o I.pl (fun z => F.ll _ _ hc z.symm) e, fun y j b h1 h2 h3 => ?_⟩, fun y j b h1 h2 h3 => ?_, fun y h1 h2 => ?_, I.cls⟩⟩
      · rcases set_get hi h1 h2 with ⟨rfl, rfl⟩ | ⟨hne, h4⟩
        · rw [hk, hl] at h3; cases h3
        · obtain ⟨u, q1, q2⟩ := hv y j b h1 h4 h3
          exact ⟨u, q1, q2.mono l⟩
      · rcases set_get hi h1 h2 with ⟨rfl, rfl⟩ | ⟨hne, h4⟩
        · exact ⟨c, v, hc, hp, hcv, r.mono l⟩
        · refine byC fun C_ k_ => ?_
          obtain ⟨d, u, q1, q2, q3, q4⟩ := I.cel y j b h1 h4 h3
          refine k_ ?_
          clear k_ C_
          exact ⟨d, u, q1, q2, kc hne q1 q2 q3, q4.mono l⟩
      · by_cases hyx : y = x
        · subst hyx; exact ⟨c, _, hc, hp, hcv⟩
        · refine byC fun C_ k_ => ?_
          obtain ⟨d, u, q1, q2, q3⟩ := I.has y h1 h2
          refine k_ ?_
          clear k_ C_
          exact ⟨d, u, q1, q2, kc hyx q1 q2 q3⟩
theorem pair_rf {x y : Str} {px py q : Pos} {k : Nat} {v : Value} {a b : AV} (hh : A.handled = none) (F : FrS env sc) (hx : isLocal sc x = true) (hy : isLocal sc y = true) (I : EnvR cx env sc ns σ w) (r : VR cx w (.tup [a, b]) v) :
    Rf cx A (Own env) w (RL cx env sc ns) (do let σ ← setN ns x a σ; setN ns y b σ) (assign (.Tuple [.Name x px, .Name y py] k q) env v) := r.tupE fun ta vs n ht hf hz hs => by
  refine byC fun C_ k_ => ?_
  obtain ⟨v1, us, e1, r1, v2, us2, e2, r2, e3⟩ := hs
  refine k_ ?_
  clear k_ C_
  subst e3; subst e2
  have hvs : vs = #[v1, v2] := by rw [← Array.toList_inj, e1]
  subst hvs
  intro H S r' H' h
  refine wpAny_assign_Tuple (items := #[v1, v2]) hh ⟨_, ht, rfl, n, rfl⟩ rfl rfl fun h' he => ?_
  have hk : ∀ b o, w.s.heap.get? b = some o → h'.get? b = some o := fun b o e => he b o (Nat.ne_of_lt (Heap.lt_size e)) e
  have l : Le (Own env) w ⟨w.ι, w.π, { w.s with heap := h', toks := w.s.toks }⟩ := .keeps hk
  have I' := EnvR.stable _ _ I (Le.keeps (w := w) (s' := { w.s with heap := h', toks := w.s.toks }) hk)
  refine assignInOrder_cons (wpAny_mono ((bindN_rf F hx I' (r1.mono l)).run (S.keeps hk) h fun w1 σ1 u_ H1 l1 S1 I1 h1 => ?_) (fun u_ u_ z => z) fun u_ u_ z => z.le l)
  refine assignInOrder_cons (wpAny_mono (bindN_rf F hy I1 (r2.mono (l.trans l1)) H1 S1 _ _ h1) (fun u_ u_ z => assignInOrder_nil (z.le (l.trans l1))) fun u_ u_ z => z.le (l.trans l1))
theorem assign_rf {ev : Loc → Expr → M AV} {t : Expr} {a : AV} {v : Value} (hh : A.handled = none) (F : FrS env sc) (hev : EvOK cx A env (EnvR cx env sc ns σ) (ev σ)) (I : EnvR cx env sc ns σ w) (r : VR cx w a v) :
    Rf cx A (Own env) w (RL cx env sc ns) (assignTo ev sc ns a σ t) (assign t env v) := by
  cases t with
  | Name x q => exact ite_rf (fun hx => bindN_rf F hx I r) fun u_ => .stuck
  | Subscript o i q =>
    rw [assign_Subscript]
    exact Rf.no (.bind (.holding (hev o w I)) fun w1 a1 v1 l1 r1 => .bind (.holding (hev i w1 (EnvR.stable _ _ I l1))) fun w2 a2 v2 l2 r2 => .standAt (.bind (.holding (store_rf (r1.mono l2) r2 (r.mono (l1.trans l2)))) fun w3 u_ u_ l3 u_ =>
      .leaf fun H S => wpAny_release' (.here S (EnvR.stable _ _ I ((l1.trans l2).trans l3)))))
  | Tuple es k q =>
    show Rf cx A (Own env) w _ (match pairN es with | some (x, y) => assignP sc ns a σ x.1 y.1 | none => stuck) _
    cases hp : pairN es with
    | none => exact .stuck
    | some xy =>
      refine byC fun C_ k_ => ?_
      obtain ⟨⟨x, px⟩, y, py⟩ := xy
      refine k_ ?_
      clear k_ C_
      rw [pairN_of hp]
      cases a with
      | tup xs =>
        match xs with
        | [] => exact .stuck
        | [_] => exact .stuck
        | _ :: _ :: _ :: _ => exact .stuck
        | [a, b] => exact ite_rf (fun hxy => by rw [Bool.and_eq_true] at hxy; exact pair_rf hh F hxy.1 hxy.2 I r) fun u_ => .stuck
      | _ => exact .stuck
  | _ => exact .stuck
end
end Mine


set_option autoImplicit false
set_option linter.unusedVariables false
namespace Mine
open PySem PyProof.Rows PySem.SeqAt

def RS (cx : Cx) (env : Env) (sc : Scope) (ns : List Str) (w : Wl) : Res → Flow → Prop
  | .next σ, f => f = .next ∧ EnvR cx env sc ns σ w
  | .ret a, f => ∃ v, f = .ret v ∧ VR cx w a v ∧ ∀ b, Own env b → b ∈ w.π
def RF (cx : Cx) (env : Env) (sc : Scope) (ns : List Str) (w : Wl) (σ : Loc) (f : Flow) : Prop := f = .next ∧ EnvR cx env sc ns σ w
section
variable {cx : Cx} {A : Around} {p q : Addr → Prop} {w w' w₁ : Wl} {H H' : AHeap} {env : Env} {sc : Scope} {ns : List Str} {σ : Loc} {P : Pg} {cf : Str → List AV → M AV}
theorem PostX.no {α : Type} {r : Except Str α} {e : Value} {s' : Shared} {C : Prop} (x : PostX cx p w r H' e s') : C := x.elim
theorem next_st {st : Stmt} {rest : List Stmt} {m0 : M Loc} {m : Loc → M Res} (x : Rf cx A (Own env) w (RF cx env sc ns) m0 (exec st env)) (y : ∀ w' σ', EnvR cx env sc ns σ' w' → Rf cx A (Own env) w' (RS cx env sc ns) (m σ') (execs rest env)) :
    Rf cx A (Own env) w (RS cx env sc ns) (m0 >>= m) (execs (st :: rest) env) := by
  rw [arm_execs_cons]
  exact .bind x fun w1 σ' f l r => r.1 ▸ y w1 σ' r.2
theorem goOn_st {st : Stmt} {rest : List Stmt} {m0 : M Res} {m : Loc → M Res} (x : Rf cx A (Own env) w (RS cx env sc ns) m0 (exec st env)) (y : ∀ w' σ', EnvR cx env sc ns σ' w' → Rf cx A (Own env) w' (RS cx env sc ns) (m σ') (execs rest env)) :
    Rf cx A (Own env) w (RS cx env sc ns) (m0 >>= goOn m) (execs (st :: rest) env) := by
  rw [arm_execs_cons]
  refine .bind x fun w1 r f l hr => ?_
  cases r with
  | next σ' => exact hr.1 ▸ y w1 σ' hr.2
  | ret a => obtain ⟨v, e, h⟩ := hr; subst e; exact .pure ⟨v, rfl, h⟩

structure Wkr (cx : Cx) (A : Around) (target : Expr) (it : Value) (src : Src) (q : Addr → Prop) (J : Nat → Wl → Prop) : Prop where
  keep : ∀ p i w w', Le p w w' → (∀ b, q b → ¬ p b) → J i w → J i w'
  turn : ∀ i w H r H' (K : Shared → Prop) (KK : Value → Shared → Prop) (E : Value → Shared → Prop), J i w → St cx w H → src.get i H = some (.ok r, H') → (∀ w1, r = none → Le q w w1 → St cx w1 H' → K w1.s) →
    (∀ w1 a v, r = some a → Le q w w1 → St cx w1 H' → VR cx w1 a v → J (i + 1) w1 → KK v w1.s) →
    wpAny (model cx.prog cx.w) A (pyNext it) (fun r s1 => match r with | none => K s1 | some v => wpAny (model cx.prog cx.w) A (letOwnedTupleGo target it v) (fun u_ s2 => KK v s2) E s1) E w.s
def OQ (env : Env) (q : Addr → Prop) : Addr → Prop := fun b => Own env b ∨ q b
theorem for_code {target : Expr} {body : List Stmt} {it : Value} {src : Src} {J : Nat → Wl → Prop} {bm : AV → Loc → M Res} {r : Except Str Res} (W : Wkr cx A target it src q J) (ho : ∀ b, q b → ¬ Own env b)
    (hb : ∀ σ w a v H r H', EnvR cx env sc ns σ w → VR cx w a v → St cx w H → bm a σ H = some (r, H') → wpAny (model cx.prog cx.w) A (assign target env v) (fun u_ s2 => wpAny (model cx.prog cx.w) A (execs body env) (Post cx (Own env) w (RS cx env sc ns) r H') (PostX cx (Own env) w r H') s2) (PostX cx (Own env) w r H') w.s)
    (k i : Nat) (S : St cx w H) (X : Le (OQ env q) w₁ w) (I : EnvR cx env sc ns σ w) (j : J i w) (h : forLoop src bm k i σ H = some (r, H')) :
    codeAny (model cx.prog cx.w) A (.forLoop target it body [] env) (fun res s' => ∃ f, res = .ok f ∧ Post cx (OQ env q) w₁ (RS cx env sc ns) r H' f s') w.s := by
  refine codeAny_forLoop_any (fun k s => ∃ w H σ i, w.s = s ∧ St cx w H ∧ Le (OQ env q) w₁ w ∧ EnvR cx env sc ns σ w ∧ J i w ∧ forLoop src bm k i σ H = some (r, H')) ?_ k ⟨w, H, σ, i, rfl, S, X, I, j, h⟩
  clear S X I j h
  rintro k s ⟨w, H, σ, i, rfl, S, X, I, j, h⟩
  cases k with
  | zero => cases h
  | succ k =>
    unfold forLoop at h
    refine bind_inv h (fun o H1 h1 h2 => ?_) fun x h1 h2 => by obtain ⟨a, e⟩ := get_ok h1; cases e
    refine W.turn i w H o H1 _ _ _ j S h1 (fun w1 e l S1 => ?_) fun w1 a v e l S1 rv j1 => ?_
    · subst e
      obtain ⟨rfl, rfl⟩ := pure_some h2
      exact wpAny_execs_nil ⟨_, rfl, _, _, _, rfl, X.trans (l.weak fun u_ u_ h => .inr h), S1, rfl, I.mono l fun b h1 h2 => ho b h2 h1⟩
    · subst e
      have X1 := X.trans (l.weak fun u_ u_ h => .inr h)
      refine bind_inv h2 (fun r1 H2 h3 h4 => ?_) fun x h3 h4 => wpAny_mono (hb σ w1 a v H1 _ _ (I.mono l fun b h1 h2 => ho b h2 h1) rv S1 h3) (fun u_ u_ z => wpAny_mono z (fun f u_ z_ => z_.out) fun u_ u_ z => z.no) fun u_ u_ z => z.no
      refine wpAny_mono (hb σ w1 a v H1 _ _ (I.mono l fun b h1 h2 => ho b h2 h1) rv S1 h3) (fun u_ u_ z => wpAny_mono z (fun f s3 z_ => z_.el fun ι π r2 e l2 S2 hr => ?_) fun u_ u_ z => z.no) fun u_ u_ z => z.no
      cases e
      have X2 := X1.trans (l2.weak fun u_ u_ h => .inl h)
      cases r1 with
      | next σ3 =>
        obtain ⟨e, I3⟩ := hr
        subst e
        exact ⟨k, Nat.lt_succ_self _, _, H2, σ3, i + 1, rfl, S2, X2, I3, W.keep _ _ _ _ l2 ho j1, h4⟩
      | ret a =>
        refine byC fun C_ k_ => ?_
        obtain ⟨rfl, rfl⟩ := pure_some h4
        obtain ⟨u, e, z⟩ := hr
        refine k_ ?_
        clear k_ C_
        subst e
        exact ⟨_, rfl, _, _, _, rfl, X2, S2, u, rfl, z⟩
theorem while_code {test : Expr} {body : List Stmt} {tm : Loc → M Bool} {bm : Loc → M Res} {r : Except Str Res} (ht : ∀ σ w, EnvR cx env sc ns σ w → Rf cx A No w Rt (tm σ) (isTrue test env (eval test env))) (hb : ∀ σ w, EnvR cx env sc ns σ w → Rf cx A (Own env) w (RS cx env sc ns) (bm σ) (execs body env))
    (k : Nat) (S : St cx w H) (X : Le (Own env) w₁ w) (I : EnvR cx env sc ns σ w) (h : whileLoop tm bm k σ H = some (r, H')) :
    codeAny (model cx.prog cx.w) A (.whileLoop test body [] env) (fun res s' => ∃ f, res = .ok f ∧ Post cx (Own env) w₁ (RS cx env sc ns) r H' f s') w.s := by
  refine codeAny_whileLoop (fun k s => ∃ w H σ, w.s = s ∧ St cx w H ∧ Le (Own env) w₁ w ∧ EnvR cx env sc ns σ w ∧ whileLoop tm bm k σ H = some (r, H')) ?_ k ⟨w, H, σ, rfl, S, X, I, h⟩
  clear S X I h
  rintro k s ⟨w, H, σ, rfl, S, X, I, h⟩
  cases k with
  | zero => cases h
  | succ k =>
    unfold whileLoop at h
    refine wpAny_mono ((ht σ w I).run S h fun w1 b c H1 l S1 hc h2 => ?_) (fun u_ u_ z => z) fun u_ u_ z => z.no
    rw [← show b = c from hc]
    have I1 := EnvR.stable _ _ I l
    have X1 := X.trans l.no
    cases b with
    | false =>
      obtain ⟨rfl, rfl⟩ := pure_some h2
      exact wpAny_execs_nil ⟨_, rfl, _, _, _, rfl, X1, S1, rfl, I1⟩
    | true =>
      refine wpAny_mono ((hb σ w1 I1).run S1 h2 fun w2 r1 f H2 l2 S2 hr h4 => ?_) (fun u_ u_ z => z) fun u_ u_ z => z.no
      have X2 := X1.trans l2
      cases r1 with
      | next σ3 =>
        obtain ⟨e, I3⟩ := hr
        subst e
        exact ⟨k, Nat.lt_succ_self _, _, H2, σ3, rfl, S2, X2, I3, h4⟩
      | ret a =>
        refine byC fun C_ k_ => ?_
        obtain ⟨rfl, rfl⟩ := pure_some h4
        obtain ⟨u, e, z⟩ := hr
        refine k_ ?_
        clear k_ C_
        subst e
        exact ⟨_, rfl, _, _, _, rfl, X2, S2, u, rfl, z⟩
theorem while_rf {test : Expr} {body : List Stmt} {pos : Pos} {tm : Loc → M Bool} {bm : Loc → M Res} (ht : ∀ σ w, EnvR cx env sc ns σ w → Rf cx A No w Rt (tm σ) (isTrue test env (eval test env))) (hb : ∀ σ w, EnvR cx env sc ns σ w → Rf cx A (Own env) w (RS cx env sc ns) (bm σ) (execs body env)) (I : EnvR cx env sc ns σ w) :
    Rf cx A (Own env) w (RS cx env sc ns) (whileLoop tm bm FUEL σ) (exec (.While test body [] pos) env) := fun H S r H' h =>
  wpAny_While (codeAny_mono (while_code ht hb FUEL S (.refl _) I h) fun res s' ⟨f, e, z⟩ => by subst e; exact z)
theorem drop_wp {e : Expr} {pos : Pos} {v : Value} {Q : Flow → Shared → Prop} {E : Value → Shared → Prop} {s : Shared} (h : Q .next s) : wpAny (model cx.prog cx.w) A (dropValue e pos v) Q E s := wpAny_dropValue h
theorem den_sc {n : Nat} {x : Expr} {g : List Comprehension} {c : Scope} {pos : Pos} : den P cf n sc ns σ (.SetComp x g c pos) = stuck := by cases n <;> rfl
theorem den_dc {n : Nat} {x y : Expr} {g : List Comprehension} {c : Scope} {pos : Pos} : den P cf n sc ns σ (.DictComp x y g c pos) = stuck := by cases n <;> rfl
theorem ex_cases {T : Expr → Prop} (hl : ∀ a b c d, T (.ListComp a b c d)) (hs : ∀ a b c d, T (.SetComp a b c d)) (hd : ∀ a b c d f, T (.DictComp a b c d f))
    (ho : ∀ e, (∀ t l env, swapsWith e t l env = pure false) → (isTupE e = false → ∀ ts k p env, swappedStores [.Tuple ts k p] e env = pure none) → T e) (e : Expr) : T e := by
  cases e with
  | ListComp => exact hl _ _ _ _
  | SetComp => exact hs _ _ _ _
  | DictComp => exact hd _ _ _ _ _
  | Tuple => exact ho _ (fun u_ u_ u_ => rfl) (fun h => nomatch h)
  | _ => exact ho _ (fun u_ u_ u_ => rfl) (fun u_ u_ u_ u_ u_ => rfl)
theorem expr_rf {n : Nat} {e : Expr} {pos : Pos} (hev : EvOK cx A env (EnvR cx env sc ns σ) (den P cf n sc ns σ)) (hn : noComp e = true) (I : EnvR cx env sc ns σ w) :
    Rf cx A (Own env) w (RF cx env sc ns) (do let _ ← den P cf n sc ns σ e; pure σ) (exec (.Expr e pos) env) := by
  revert hn
  refine ex_cases (T := fun e => noComp e = true → Rf cx A (Own env) w (RF cx env sc ns) (do let _ ← den P cf n sc ns σ e; pure σ) (exec (.Expr e pos) env)) (fun u_ u_ u_ u_ hn => nomatch hn) (fun u_ u_ u_ u_ u_ => by rw [den_sc]; exact .stuck) (fun u_ u_ u_ u_ u_ u_ => by rw [den_dc]; exact .stuck) (fun e hsw u_ u_ => ?_) e
  rw [arm_exec_Expr, show interactive env = false by unfold interactive; rw [I.k.kind]; rfl, hsw]
  refine .standAt (.pureL ?_)
  exact .no (.bind (hev e w I) fun w1 a v l r => .leaf fun H S => drop_wp (.here S ⟨rfl, EnvR.stable _ _ I l⟩))
end
end Mine


set_option autoImplicit false
set_option linter.unusedVariables false
namespace Mine
open PySem PyProof.Rows PySem.SeqAt

def LiR (cx : Cx) (w : Wl) (it : Addr) (i : Nat) (l : Addr) : Src → Prop
  | .items xs => ∃ vs n, w.s.heap.IsListIter it l i ∧ IsL w.s.heap l vs n ∧ Fz w l ∧ VRs cx w xs vs.toList
  | .at k => w.s.heap.IsListIter it l i ∧ w.ι[k]? = some l
  | .enum _ => False
section
variable {cx : Cx} {A : Around} {p q : Addr → Prop} {w w' w₁ : Wl} {H H' : AHeap} {env : Env} {sc : Scope} {ns : List Str} {σ : Loc} {P : Pg} {cf : Str → List AV → M AV} {it l en : Addr} {i j : Nat}
theorem LiR.iter : ∀ {src : Src}, LiR cx w it i l src → w.s.heap.IsListIter it l i
  | .items _, ⟨_, _, h, _⟩ => h
  | .at _, h => h.1
theorem LiR.turn (x : Lv w w') (hi : w'.s.heap.IsListIter it l j) : ∀ {src : Src}, LiR cx w it i l src → LiR cx w' it j l src
  | .items _, ⟨vs, n, _, h2, h3, h4⟩ => ⟨vs, n, hi, (x.fz' h2 h3).1, (x.fz' h2 h3).2, h4.lv x⟩
  | .at _, h => ⟨hi, prefix_get x.pre h.2⟩
theorem LiR.get (S : St cx w H) {r : Option AV} : ∀ {src : Src}, LiR cx w it i l src → src.get i H = some (.ok r, H') → H' = H ∧ ∃ vs n xs, IsL w.s.heap l vs n ∧ VRs cx w xs vs.toList ∧ r = xs[i]?
  | .items xs, ⟨vs, n, _, h2, _, h4⟩, h => by
    obtain ⟨e, e2⟩ := pure_some h
    cases e
    exact ⟨e2, vs, n, xs, h2, h4, rfl⟩
  | .at k, ⟨_, hk⟩, h => bind_inv h (fun xs H1 h1 h2 => by
      refine byC fun C_ k_ => ?_
      obtain ⟨e1, c, e2, vs, n, hL, hz, hs⟩ := listAt_rd hk H S _ _ h1
      refine k_ ?_
      clear k_ C_
      cases e2
      obtain ⟨e3, e4⟩ := pure_some h2
      cases e3
      exact ⟨e4.trans e1, vs, n, xs, hL, hs, rfl⟩) fun x h1 h2 => nomatch h2
theorem enum_src {a : AV} {v : Value} (r : VR cx w a v) : Rd cx w (do let _ ← listOf a; srcOf a) fun src => ∃ l, v = .ref l ∧ (∃ vs n, IsL w.s.heap l vs n) ∧ ∀ w' it, Le No w w' → w'.s.heap.IsListIter it l 0 → LiR cx w' it 0 l src := by
  cases a with
  | lst xs => exact .bind (K := fun u_ => True) (.pure trivial) fun u_ u_ => r.lstE fun l vs n h1 h2 h3 h4 => .pure ⟨l, rfl, ⟨vs, n, h1⟩, fun w' it q hi => ⟨vs, n, hi, (q.fz' h1 h2).1, (q.fz' h1 h2).2, h4.mono q⟩⟩
  | loc k => exact r.locE fun l h => .bind (listAt_rd h) fun xs ⟨vs, n, hL, _⟩ => .bind (listAt_rd h) fun xs u_ => .pure ⟨l, rfl, ⟨vs, n, hL⟩, fun w' it q hi => ⟨hi, prefix_get q.pre h⟩⟩
  | _ => exact .stuck
theorem name_walk {x : Str} {px : Pos} {src : Src} (hh : A.handled = none) : Wkr cx A (.Name x px) (.ref it) src (fun b => b = it) fun i w => it ∈ w.π ∧ ItR cx w it i src where
  keep := fun p i w w' l h j => ⟨l.pv _ j.1 (h it rfl), j.2.mono l j.1 (h it rfl)⟩
  turn := fun i w H r H' K KK E j S h k0 k1 => wpAny_mono (next_rf hh j.1 j.2 H S _ _ h) (fun o s1 z_ => z_.el fun ι π a e l S1 hr => by
    cases e
    cases r with
    | none => rw [show o = none from hr]; exact k0 _ rfl l S1
    | some a =>
      refine byC fun C_ k_ => ?_
      obtain ⟨v, e, rv, pI, J⟩ := hr
      refine k_ ?_
      clear k_ C_
      subst e
      exact wpAny_pure (k1 ⟨ι, π, s1⟩ a v rfl l S1 rv ⟨pI, J⟩)) fun u_ u_ z_ => z_.out
structure EnR (cx : Cx) (w : Wl) (en it l : Addr) (i : Nat) (src : Src) : Prop where
  pE : en ∈ w.π
  pI : it ∈ w.π
  N : ∃ old, IsEnum w.s.heap en it i old
  J : LiR cx w it i l src
theorem enum_walk {es : List Expr} {k : Nat} {pt : Pos} {src : Src} (hh : A.handled = none) (hne : en ≠ it) : Wkr cx A (.Tuple es k pt) (.ref en) (.enum src) (fun b => b = en ∨ b = it) fun i w => EnR cx w en it l i src where
  keep := fun p i w w' x h j => ⟨x.pv _ j.pE (h en (.inl rfl)), x.pv _ j.pI (h it (.inr rfl)), let ⟨old, e⟩ := j.N; ⟨old, x.kp _ _ j.pE (h en (.inl rfl)) e⟩, j.J.turn x.toLv (j.J.iter.at fun o e => x.kp _ o j.pI (h it (.inr rfl)) e)⟩
  turn := fun i w H r H' K KK E j S h k0 k1 => by
    refine bind_inv h (fun o H1 h1 h2 => ?_) fun x h1 h2 => nomatch h2
    obtain ⟨e1, e2⟩ := pure_some h2
    cases e1
    subst e2
    refine byC fun C_ k_ => ?_
    obtain ⟨e3, vs, n, xs, hL, hV, e4⟩ := j.J.get S h1
    subst e3; subst e4
    obtain ⟨old, hN⟩ := j.N
    refine k_ ?_
    clear k_ C_
    cases hx : xs[i]? with
    | none =>
      refine wpAny_pyNext_enum_end hh hN j.J.iter hL.isList (ne_vs hV hx) fun h' hext => ?_
      obtain ⟨l1, S1⟩ := S.drop (t := w.s.toks) j.pI hext
      exact k0 _ (by rw [hx]; rfl) (l1.weak fun b u_ e => .inr e) S1
    | some a =>
      obtain ⟨v, hv, rv⟩ := hV.get hx
      refine wpAny_pyNext_enum_item (x := v) hN j.J.iter hL.isList (by rw [← Array.getElem?_toList]; exact hv) hne fun h' hN' hI' hT hsz hk => ?_
      refine wpAny_letOwnedTupleGo_enum hN' fun h'' hN'' hsb => ?_
      have hTen : w.s.heap.objs.size ≠ en := Ne.symm (Nat.ne_of_lt (Heap.lt_size hN))
      have hI'' : h''.IsListIter it l (i + 1) := hI'.at fun o e => hsb.extBut _ o (Ne.symm hne) e
      obtain ⟨l1, S1⟩ := S.privs (t := w.s.toks + 1) (h' := h'') (p := fun b => b = en ∨ b = it) (fun b e => e.elim (fun e => e ▸ j.pE) fun e => e ▸ j.pI)
        (fun b o q e => hsb.extBut b o (fun z => q (.inl z)) (hk b o (fun z => q (.inl z)) (fun z => q (.inr z)) e)) (fun b e => e.elim (fun e => e ▸ ⟨_, hN''⟩) fun e => e ▸ (let ⟨o, q, _⟩ := hI''; ⟨o, q⟩))
      exact k1 _ (.tup [.int i, a]) _ (by rw [hx]; rfl) l1 S1 (.tup (n := 0) (hsb.extBut _ _ hTen hT) (S.new (get_size _)) (show 2 ≤ LIM by decide) (.cons .int (.cons (rv.mono l1) .nil)))
        ⟨j.pE, j.pI, ⟨v, hN''⟩, j.J.turn l1.toLv hI''⟩
theorem Post.weak {α β : Type} {R : Wl → α → β → Prop} {r : Except Str α} {b : β} {s' : Shared} (x : Post cx p w R r H' b s') (h : ∀ d, d ∈ w.π → p d → q d) : Post cx q w R r H' b s' := x.el fun ι π a e l S z => ⟨ι, π, a, e, l.weak h, S, z⟩
theorem EnvR.new (I : EnvR cx env sc ns σ w) (S : St cx w H) {b : Addr} (hb : w.s.heap.get? b = none) : ¬ Own env b := fun h => by
  obtain ⟨o, e⟩ := S.pvx b (I.own h)
  rw [hb] at e; cases e
theorem St.none (S : St cx w H) {b : Addr} (hb : w.s.heap.get? b = none) : b ∉ w.π := (S.new hb).2
section
variable {ev : Loc → Expr → M AV} {bm : Loc → M Res} {body : List Stmt} (hh : A.handled = none) (F : FrS env sc) (hev : ∀ σ, EvOK cx A env (EnvR cx env sc ns σ) (ev σ)) (hb : ∀ σ w, EnvR cx env sc ns σ w → Rf cx A (Own env) w (RS cx env sc ns) (bm σ) (execs body env))
include hh F hev hb
theorem turn_wp {t : Expr} (σ : Loc) (w : Wl) (a : AV) (v : Value) (H : AHeap) (r : Except Str Res) (H' : AHeap) (I : EnvR cx env sc ns σ w) (rv : VR cx w a v) (S : St cx w H) (h : (do let σ' ← assignTo ev sc ns a σ t; bm σ' : M Res) H = some (r, H')) :
    wpAny (model cx.prog cx.w) A (assign t env v) (fun u_ s2 => wpAny (model cx.prog cx.w) A (execs body env) (Post cx (Own env) w (RS cx env sc ns) r H') (PostX cx (Own env) w r H') s2) (PostX cx (Own env) w r H') w.s :=
  (assign_rf hh F (hev σ) I rv).run S h fun w1 σ1 u_ H1 l S1 I1 h1 => wpAny_mono (hb σ1 w1 I1 H1 S1 r H' h1) (fun u_ u_ z => z.le l) fun u_ u_ z => z.le l
theorem forN_rf {x : Str} {px pos : Pos} {iter : Expr} (hx : exOk iter = true) (I : EnvR cx env sc ns σ w) :
    Rf cx A (Own env) w (RS cx env sc ns) (do let v ← ev σ iter; let src ← srcOf v; forLoop src (fun v σ => do let σ' ← assignTo ev sc ns v σ (.Name x px); bm σ') FUEL 0 σ) (exec (.For (.Name x px) iter body [] pos) env) := fun H S r H' h => by
  refine wpAny_For (wpAny_mono ((hev σ iter w I).run S h fun w1 a v H1 l1 S1 r1 h1 => ?_) (fun u_ u_ z => z) fun u_ u_ z => z.no) fun v => exOk_set hx
  have I1 := EnvR.stable _ _ I l1
  refine wpAny_mono ((iter_rf r1).run S1 h1 fun w2 src itv H2 l2 S2 ⟨it, e, pI, J, hn⟩ h2 => ?_) (fun u_ u_ z => z) fun u_ u_ z => z.no
  subst e
  refine codeAny_mono (for_code (w₁ := w) (name_walk hh) (fun b e => e ▸ I1.new S1 hn) (turn_wp hh F hev hb) FUEL 0 S2 (l1.trans l2).no (EnvR.stable _ _ I1 l2) ⟨pI, J⟩ h2) fun res s' ⟨f, e, z⟩ => ?_
  subst e
  exact z.weak fun d hd h => h.elim id fun e => (S1.none hn (e ▸ l1.pv d hd id)).elim
theorem forE_rf (G : Good cx P) {f : Str} {fp cp pos pt : Pos} {es : List Expr} {k : Nat} {e : Expr} (hx : exOk e = true) (hf : f = ("enumerate" : Str)) (hg : isGlob sc f = true) (I : EnvR cx env sc ns σ w) :
    Rf cx A (Own env) w (RS cx env sc ns) (do let v ← ev σ e; let _ ← listOf v; let src ← srcOf v; forLoop (.enum src) (fun v σ => do let σ' ← assignTo ev sc ns v σ (.Tuple es k pt); bm σ') FUEL 0 σ) (exec (.For (.Tuple es k pt) (.Call (.Name f fp) [e] [] cp) body [] pos) env) := fun H S r H' h => by
  subst hf
  have htr : backTo cp (starEach [e] env) = [(false, eval e env)] := by rw [exOk_star hx]; rfl
  refine wpAny_For (Call_Name htr (load_bi G S I.k hg (by decide) G.enum ?_))
  refine PyProof.Rows.callWith_type rfl (Calls.evalArgs_plain (Calls.spliced_cons (wpAny_mono ((hev σ e w I).run S h fun w1 a v H1 l1 S1 r1 h1 => Calls.spliced_nil ?_) (fun u_ u_ z => z) fun u_ u_ z => z.no)))
  have I1 := EnvR.stable _ _ I l1
  rw [← bind_assoc] at h1
  refine bind_inv h1 (fun src H2 h2 h3 => ?_) fun x h2 h3 => by obtain ⟨_, c, e, _⟩ := enum_src r1 H1 S1 _ _ h2; cases e
  refine byC fun C_ k_ => ?_
  obtain ⟨e1, c, e2, l, e3, ⟨vs, n, hL⟩, hJ⟩ := enum_src r1 H1 S1 _ _ h2
  refine k_ ?_
  clear k_ C_
  cases e2
  subst e1; subst e3
  show wpAny _ _ (PySem.call (.type "enumerate") [.ref l]) _ _ _
  refine call_enumerate_list hL.isList fun h' hN hI hsz hk => ?_
  have hn1 : w1.s.heap.get? w1.s.heap.objs.size = none := get_size _
  have hn2 : w1.s.heap.get? (w1.s.heap.objs.size + 1) = none := Heap.get?_none_of_le (Nat.le_succ _)
  obtain ⟨l2, S2⟩ := S1.hides (t := w1.s.toks) [w1.s.heap.objs.size + 1, w1.s.heap.objs.size] hk (fun d e => (List.mem_cons.mp e).elim (fun e => e ▸ hn2) fun e => List.mem_singleton.mp e ▸ hn1)
    fun d e => (List.mem_cons.mp e).elim (fun e => e ▸ ⟨_, hN⟩) fun e => List.mem_singleton.mp e ▸ (let ⟨o, q, _⟩ := hI; ⟨o, q⟩)
  have I2 := EnvR.stable _ _ I1 l2
  refine wpAny_pyIter_enum hN (codeAny_mono (for_code (w₁ := w) (q := fun b => b = w1.s.heap.objs.size + 1 ∨ b = w1.s.heap.objs.size) (enum_walk (l := l) hh (Nat.succ_ne_self _)) (fun b e => e.elim (fun e => e ▸ I1.new S1 hn2) fun e => e ▸ I1.new S1 hn1) (turn_wp hh F hev hb) FUEL 0 S2 (l1.trans l2).no I2
    ⟨List.mem_cons_self, List.mem_cons_of_mem _ List.mem_cons_self, ⟨_, hN⟩, hJ _ _ l2 hI⟩ h3) fun res s' ⟨f, e, z⟩ => ?_)
  subst e
  exact z.weak fun d hd h => h.elim id fun e => (e.elim (fun e => S1.none hn2 (e ▸ l1.pv d hd id)) fun e => S1.none hn1 (e ▸ l1.pv d hd id)).elim
end
end
end Mine


set_option autoImplicit false
set_option linter.unusedVariables false
namespace Mine
open PySem PyProof.Rows PySem.SeqAt

section
variable {cx : Cx} {A : Around} {p q : Addr → Prop} {w w' w₁ : Wl} {H H' : AHeap} {env : Env} {sc : Scope} {ns : List Str} {σ : Loc} {P : Pg} {cf : Str → List AV → M AV}
theorem swap_rf {elt iter : Expr} {x y : Str} {px pos yp sp : Pos} {ifs : List Expr} {scope : Scope} {mu : Bool} {ei : Expr → M AV} {te : AV → Expr → M Bool} {ev : AV → Expr → M AV}
    (hh : A.handled = none) (F : FrS env sc) (hy : isLocal sc y = true) (ok : CompOK sc ns scope x) (hx : exOk iter = true) (hi : EvOK cx A env (EnvR cx env sc ns σ) ei)
    (hev : ∀ env' a, EvOK cx A env' (EnvR cx env' scope (x :: ns) (some a :: σ)) (ev a)) (hte : ∀ env' a, TeOK cx A env' (EnvR cx env' scope (x :: ns) (some a :: σ)) (te a)) (I : EnvR cx env sc ns σ w) :
    Rf cx A (Own env) w (RF cx env sc ns) (do let a ← (do let iv ← ei iter; let src ← srcOf iv; let ys ← compLoop src (compBody te ev ifs elt) FUEL 0 []; newL mu ys); setN ns y a σ)
      (do standAt sp; evalThenUse (.ListComp elt [⟨.Name x px, iter, ifs, 0⟩] scope pos) env (assign (.Name y yp) env); return .next) := .standAt fun H S r H' h => by
  show wpAny _ A ((do let _ ← comprehension (.ListComp elt [⟨.Name x px, iter, ifs, 0⟩] scope pos) scope env _ (newList []) false (eval iter env) (some (assign (.Name y yp) env))) >>= fun u_ => pure Flow.next) _ _ _
  refine wpAny_bind (wpAny_bind ?_)
  refine bind_inv h (fun a H1 h1 h2 => ?_) fun e h1 h2 => ?_
  · refine wpAny_mono (comp_core (Q := fun u_ s' => Post cx (Own env) w (RF cx env sc ns) r H' .next s') (use := some (assign (.Name y yp) env)) (mu := mu) hh ok hx hi hev hte S I h1 fun D C w' a' e l S' rv I' pC nC oC ⟨m, hN⟩ => ?_) (fun u_ u_ z => wpAny_pure (wpAny_pure z)) fun u_ u_ z => z.no
    cases e
    refine wpAny_mono (bindN_rf F hy I' rv H1 S' _ _ h2) (fun u_ s2 z_ => z_.el fun ι π σ' e l2 S2 I2 => ⟨m, hN.at' fun o e => l2.kp _ o pC oC e, fun h' hs => ?_⟩) fun u_ u_ z => z.no
    obtain ⟨l3, S3⟩ := S2.drop (t := s2.toks) (l2.pv _ pC oC) hs.extBut
    exact ⟨_, _, σ', e, ((l.no.trans (l2.weak fun b u_ h => .inl h)).trans (l3.weak fun b u_ h => .inr h)).weak (p := fun b => Own env b ∨ b = C) fun b hb h => h.elim id fun e => (nC (e ▸ hb)).elim, S3, rfl, EnvR.mono I2 l3 fun b hb h => oC (h ▸ hb)⟩
  · exact wpAny_mono (comp_core (Q := fun u_ u_ => False) (use := some (assign (.Name y yp) env)) (mu := mu) hh ok hx hi hev hte S I h1 fun D C w' a' e l S' rv I' pC nC oC hN => nomatch e) (fun u_ u_ z => z.elim) fun u_ u_ z => z.no
theorem exec_assign1 {t e : Expr} {pos : Pos} (hs : swapsWith e (some t) pos.line env = pure false) (hw : swappedStores [t] e env = pure none) (ht : (assignEach [t] env).map (·.2) = [assign t env]) :
    exec (.Assign [t] e pos) env = (do standAt pos; let v ← eval e env; assign t env v; pure .next) := by
  rw [arm_exec_Assign]
  show (do standAt pos; if ← swapsWith e (some t) pos.line env then _ else _) = _
  rw [hs]
  simp only [pure_bind, Bool.false_eq_true, if_false, hw]
  rw [ht]
  rfl
theorem EvOK.here {ev : Expr → M AV} {e : Expr} (hev : EvOK cx A env (EnvR cx env sc ns σ) ev) (I : EnvR cx env sc ns σ w) : Rf cx A p w (fun w' a b => EnvR cx env sc ns σ w' ∧ VR cx w' a b) (ev e) (eval e env) :=
  .no ((hev e w I).mono fun w' a b l r => ⟨EnvR.stable _ _ I l, r⟩)
theorem asg_rf {ev : Expr → M AV} {t e : Expr} {pos : Pos} {g : AV → M Loc} (hs : swapsWith e (some t) pos.line env = pure false) (hw : swappedStores [t] e env = pure none) (ht : (assignEach [t] env).map (·.2) = [assign t env])
    (hev : EvOK cx A env (EnvR cx env sc ns σ) ev) (I : EnvR cx env sc ns σ w) (hg : ∀ w1 a v, EnvR cx env sc ns σ w1 → VR cx w1 a v → Rf cx A (Own env) w1 (RL cx env sc ns) (g a) (assign t env v)) :
    Rf cx A (Own env) w (RF cx env sc ns) (ev e >>= g) (exec (.Assign [t] e pos) env) := by
  rw [exec_assign1 hs hw ht]
  exact .standAt (.bind (hev.here I) fun w1 a v l r => .map (hg w1 a v r.1 r.2) fun w2 σ' u_ l2 I2 => .pure ⟨rfl, I2⟩)
section
variable {n : Nat} (hh : A.handled = none) (R : Room A) (Z : ZipOK cx A) (G : Good cx P) (C : CallOK cx A P cf) (F : FrS env sc)
include hh R Z G C F
theorem asgN_rf {x : Str} {e : Expr} {xp pos : Pos} (hx : isLocal sc x = true) (I : EnvR cx env sc ns σ w) : Rf cx A (Own env) w (RF cx env sc ns) (do let v ← den P cf n sc ns σ e; setN ns x v σ) (exec (.Assign [.Name x xp] e pos) env) := by
  have go : swapsWith e (some (.Name x xp)) pos.line env = pure false → Rf cx A (Own env) w (RF cx env sc ns) (do let v ← den P cf n sc ns σ e; setN ns x v σ) (exec (.Assign [.Name x xp] e pos) env) := fun hs =>
    asg_rf hs rfl rfl (den_rf hh R Z G C n env sc ns σ) I fun w1 a v I1 r => bindN_rf F hx I1 r
  refine ex_cases (T := fun e => (swapsWith e (some (.Name x xp)) pos.line env = pure false → Rf cx A (Own env) w (RF cx env sc ns) (do let v ← den P cf n sc ns σ e; setN ns x v σ) (exec (.Assign [.Name x xp] e pos) env)) → Rf cx A (Own env) w (RF cx env sc ns) (do let v ← den P cf n sc ns σ e; setN ns x v σ) (exec (.Assign [.Name x xp] e pos) env)) (fun elt gens scope lp go => ?_) (fun u_ u_ u_ u_ u_ => by rw [den_sc]; exact .stuck) (fun u_ u_ u_ u_ u_ u_ => by rw [den_dc]; exact .stuck) (fun e hsw u_ go => go (hsw _ _ _)) e go
  have hb : ∃ b, swapsWith (.ListComp elt gens scope lp) (some (.Name x xp)) pos.line env = pure b := ⟨_, rfl⟩
  obtain ⟨b, hb⟩ := hb
  cases b with
  | false => exact go hb
  | true =>
    rw [exec_Assign_Name_used _ _ _ _ hb]
    cases n with
    | zero => exact .stuck
    | succ n =>
      refine dComp_cases (T := fun m => Rf cx A (Own env) w (RF cx env sc ns) (m >>= fun v => setN ns x v σ) _) .stuck fun z px iter ifs e ok hz => ?_
      subst e
      have ih := den_rf hh R Z G C n
      exact swap_rf hh F hx ok hz (ih env sc ns σ) (fun env' a => ih env' scope (z :: ns) (some a :: σ)) (fun env' a => denT_rf R EnvR.stable (ih env' scope (z :: ns) (some a :: σ)) n) I
omit hh R Z G C F in
theorem tg_cases {T : Expr → Prop} (hn : ∀ x p, T (.Name x p)) (hs : ∀ o i p, T (.Subscript o i p)) (ht : ∀ es k p, T (.Tuple es k p)) (ho : ∀ t, (∀ ev sc ns m σ e, bAssign ev sc ns m σ e t = stuck) → T t) (t : Expr) : T t := by
  cases t with
  | Name => exact hn _ _
  | Subscript => exact hs _ _ _
  | Tuple => exact ht _ _ _
  | _ => exact ho _ fun u_ u_ u_ u_ u_ u_ => rfl
theorem bAssign_rf {m : Loc → M Res} {rest : List Stmt} {e t : Expr} {pos : Pos} (hm : ∀ w' σ', EnvR cx env sc ns σ' w' → Rf cx A (Own env) w' (RS cx env sc ns) (m σ') (execs rest env)) (I : EnvR cx env sc ns σ w) :
    Rf cx A (Own env) w (RS cx env sc ns) (bAssign (den P cf n sc ns σ) sc ns m σ e t) (execs (.Assign [t] e pos :: rest) env) := by
  have hev := den_rf hh R Z G C n env sc ns σ
  refine tg_cases (T := fun t => Rf cx A (Own env) w (RS cx env sc ns) (bAssign (den P cf n sc ns σ) sc ns m σ e t) (execs (.Assign [t] e pos :: rest) env)) (fun x xp => ?_) (fun o i tp => ?_) (fun es k tp => ?_) (fun t hst => by rw [hst]; exact .stuck) t
  · refine ite_rf (fun hx => ?_) fun u_ => .stuck
    have := next_st (m := m) (asgN_rf (n := n) (xp := xp) (pos := pos) (e := e) hh R Z G C F hx I) hm
    rwa [bind_assoc] at this
  · have go : ∀ e, swapsWith e (some (.Subscript o i tp)) pos.line env = pure false → Rf cx A (Own env) w (RS cx env sc ns) (bAssign (den P cf n sc ns σ) sc ns m σ e (.Subscript o i tp)) (execs (.Assign [.Subscript o i tp] e pos :: rest) env) := fun e hs => by
      have := next_st (m := m) (asg_rf (e := e) (g := fun a => do let ov ← den P cf n sc ns σ o; let iv ← den P cf n sc ns σ i; pStore ov iv a; pure σ) (pos := pos) hs rfl rfl hev I fun w1 a v I1 r => assign_rf (t := .Subscript o i tp) hh F hev I1 r) hm
      simp only [bind_assoc, pure_bind] at this
      exact this
    exact ex_cases (T := fun e => Rf cx A (Own env) w (RS cx env sc ns) (bAssign (den P cf n sc ns σ) sc ns m σ e (.Subscript o i tp)) (execs (.Assign [.Subscript o i tp] e pos :: rest) env)) (fun u_ u_ u_ u_ => go _ rfl) (fun u_ u_ u_ u_ => by show Rf _ _ _ _ _ (den P cf n sc ns σ _ >>= _) _; rw [den_sc]; exact .stuck) (fun u_ u_ u_ u_ u_ => by show Rf _ _ _ _ _ (den P cf n sc ns σ _ >>= _) _; rw [den_dc]; exact .stuck) (fun e hsw u_ => go e (hsw _ _ _)) e
  · show Rf cx A (Own env) w _ (match pairN es with | some (x, y) => _ | none => stuck) _
    cases hp : pairN es with
    | none => exact .stuck
    | some xy =>
      refine byC fun C_ k_ => ?_
      obtain ⟨⟨x, px⟩, y, py⟩ := xy
      refine k_ ?_
      clear k_ C_
      rw [pairN_of hp]
      refine ite_rf (fun u_ => .stuck) fun hc => ?_
      have hc := Bool.eq_false_iff.mpr hc
      rw [Bool.or_eq_false_iff, Bool.or_eq_false_iff, Bool.not_eq_false', Bool.not_eq_false'] at hc
      have go : ∀ e, swapsWith e (some (.Tuple [.Name x px, .Name y py] k tp)) pos.line env = pure false → swappedStores [.Tuple [.Name x px, .Name y py] k tp] e env = pure none → Rf cx A (Own env) w (RS cx env sc ns) (do let v ← den P cf n sc ns σ e; let p ← pairOf v; let σ1 ← setN ns x p.1 σ; let σ2 ← setN ns y p.2 σ1; m σ2) (execs (.Assign [.Tuple [.Name x px, .Name y py] k tp] e pos :: rest) env) := fun e hs hw => by
        have := next_st (m := m) (asg_rf (e := e) (g := fun v => do let p ← pairOf v; let σ1 ← setN ns x p.1 σ; setN ns y p.2 σ1) (pos := pos) hs hw rfl hev I fun w1 a v I1 r => ?_) hm
        · simpa only [bind_assoc] using this
        · unfold pairOf
          split
          · exact .pureR (pair_rf hh F hc.1.2 hc.2 I1 r)
          · exact .stuck
      exact ex_cases (T := fun e => isTupE e = false → Rf cx A (Own env) w (RS cx env sc ns) (do let v ← den P cf n sc ns σ e; let p ← pairOf v; let σ1 ← setN ns x p.1 σ; let σ2 ← setN ns y p.2 σ1; m σ2) (execs (.Assign [.Tuple [.Name x px, .Name y py] k tp] e pos :: rest) env)) (fun u_ u_ u_ u_ u_ => go _ rfl rfl) (fun u_ u_ u_ u_ u_ => by rw [den_sc]; exact .stuck) (fun u_ u_ u_ u_ u_ u_ => by rw [den_dc]; exact .stuck) (fun e hsw hst ht => go e (hsw _ _ _) (hst ht _ _ _ _)) e hc.1.1
end
end
end Mine


set_option autoImplicit false
set_option linter.unusedVariables false
namespace Mine
open PySem PyProof.Rows PySem.SeqAt

section
variable {cx : Cx} {A : Around} {w : Wl} {env : Env} {sc : Scope} {ns : List Str} {σ : Loc} {P : Pg} {cf : Str → List AV → M AV}
set_option tactic.hygienic true in
theorem enumArg_of {it e : Expr} (h : enumArg sc it = some e) : ∃ f fp cp, it = .Call (.Name f fp) [e] [] cp ∧ (f = ("enumerate" : Str) ∧ isGlob sc f = true) ∧ exOk e = true := by
  unfold enumArg at h
  cases hc : callOf it with
  | none => rw [hc] at h; cases h
  | some q =>
    refine byC fun C_ k_ => ?_
    obtain ⟨f, as⟩ := q
    rw [hc] at h
    obtain ⟨fp, p, rfl⟩ := callOf_of hc
    refine k_ ?_
    clear k_ C_
    match as, h with
    | [x], h =>
      have h' : (if (f = ("enumerate" : Str) ∧ isGlob sc f = true) ∧ exOk x = true then some x else none) = some e := h
      split at h'
      · rename_i hf
        cases h'
        exact ⟨f, fp, p, rfl, hf⟩
      · cases h'
    | [], h => cases h
    | _ :: _ :: _, h => cases h
section
variable {n : Nat} (hh : A.handled = none) (R : Room A) (Z : ZipOK cx A) (G : Good cx P) (C : CallOK cx A P cf) (F : FrS env sc)
include hh R Z G C F
theorem bFor_rf {m bm : Loc → M Res} {rest body : List Stmt} {t it : Expr} {pos : Pos} (hb : ∀ σ w, EnvR cx env sc ns σ w → Rf cx A (Own env) w (RS cx env sc ns) (bm σ) (execs body env)) (hm : ∀ w' σ', EnvR cx env sc ns σ' w' → Rf cx A (Own env) w' (RS cx env sc ns) (m σ') (execs rest env)) (I : EnvR cx env sc ns σ w) :
    Rf cx A (Own env) w (RS cx env sc ns) (bFor (fun σ e => den P cf n sc ns σ e) sc ns bm m σ t it) (execs (.For t it body [] pos :: rest) env) := by
  have hev := fun σ => den_rf hh R Z G C n env sc ns σ
  cases t with
  | Name x px =>
    refine ite_rf (fun hx => ?_) fun u_ => .stuck
    have := goOn_st (m := m) (forN_rf (pos := pos) (x := x) (px := px) hh F hev hb hx I) hm
    simp only [bind_assoc] at this
    exact this
  | Tuple es k pt =>
    show Rf cx A (Own env) w _ (match pairN es with | some (x, y) => _ | none => stuck) _
    cases hp : pairN es with
    | none => exact .stuck
    | some xy =>
      refine byC fun C_ k_ => ?_
      obtain ⟨⟨x, px⟩, y, py⟩ := xy
      refine k_ ?_
      clear k_ C_
      show Rf cx A (Own env) w _ (match enumArg sc it with | some e => _ | none => stuck) _
      cases he : enumArg sc it with
      | none => exact .stuck
      | some e =>
        refine byC fun C_ k_ => ?_
        obtain ⟨f, fp, cp, rfl, hf, hx⟩ := enumArg_of he
        refine k_ ?_
        clear k_ C_
        rw [pairN_of hp]
        have := goOn_st (m := m) (forE_rf (pos := pos) (fp := fp) (cp := cp) (pt := pt) (k := k) (es := [.Name x px, .Name y py]) hh F hev hb G hx hf.1 hf.2 I) hm
        simp only [bind_assoc] at this
        exact this
  | _ => exact .stuck
end
theorem denB_rf (hh : A.handled = none) (R : Room A) (Z : ZipOK cx A) (G : Good cx P) (C : CallOK cx A P cf) (F : FrS env sc) : ∀ (n : Nat) (body : List Stmt) (σ : Loc) (w : Wl), EnvR cx env sc ns σ w → Rf cx A (Own env) w (RS cx env sc ns) (denB P cf sc ns n body σ) (execs body env)
  | n, [], σ, w, I => by
    have : denB P cf sc ns n [] σ = pure (.next σ) := by cases n <;> rfl
    rw [this]
    exact .leaf fun H S => wpAny_execs_nil (.here S ⟨rfl, I⟩)
  | 0, _ :: _, σ, w, I => .stuck
  | n + 1, st :: rest, σ, w, I => by
    have ih := denB_rf hh R Z G C F n
    have hev := fun σ => den_rf hh R Z G C n env sc ns σ
    have hm : ∀ w' σ', EnvR cx env sc ns σ' w' → Rf cx A (Own env) w' (RS cx env sc ns) (denB P cf sc ns n rest σ') (execs rest env) := fun w' σ' I' => ih rest σ' w' I'
    cases st with
    | Pass p =>
      have := next_st (m0 := pure σ) (m := denB P cf sc ns n rest) (st := .Pass p) (.leaf fun H S => wpAny_Pass (.here S ⟨rfl, I⟩)) hm
      rwa [pure_bind] at this
    | Return v p =>
      rw [arm_execs_cons]
      cases v with
      | none => exact .leaf fun H S => wpAny_bind (wpAny_Return_none (wpAny_pure (.here S ⟨_, rfl, .none, fun b h => I.own h⟩)))
      | some e => exact .no (Rf.seqw (k := fun v => pure (.ret v)) (hev σ e w I) (fun w1 a v l r => .pure ⟨v, rfl, r, fun b h => (EnvR.stable _ _ I l).own h⟩) fun h => wpAny_bind (wpAny_Return_some h))
    | Expr e p =>
      refine ite_rf (fun hn => ?_) fun u_ => .stuck
      have := next_st (m := denB P cf sc ns n rest) (expr_rf (pos := p) (hev σ) hn I) hm
      simp only [bind_assoc, pure_bind] at this
      exact this
    | Assign ts e p =>
      match ts with
      | [t] => exact bAssign_rf hh R Z G C F hm I
      | [] => exact .stuck
      | _ :: _ :: _ => exact .stuck
    | If t b o p =>
      have : Rf cx A (Own env) w (RS cx env sc ns) (do let c ← denT (den P cf n sc ns σ) n t; match c with | true => denB P cf sc ns n b σ | false => denB P cf sc ns n o σ) (exec (.If t b o p) env) := by
        rw [arm_exec_If]
        refine .standAt (.bind (.no ((denT_rf R EnvR.stable (hev σ) n t w I).mono (R' := fun w' a b => EnvR cx env sc ns σ w' ∧ a = b) fun w' a b l r => ⟨EnvR.stable _ _ I l, r⟩)) fun w1 c c' l r => ?_)
        rw [← r.2]
        cases c with
        | true => exact ih b σ w1 r.1
        | false => exact ih o σ w1 r.1
      have := goOn_st (m := denB P cf sc ns n rest) this hm
      rw [bind_assoc] at this
      refine (congrArg (fun f => Rf cx A (Own env) w (RS cx env sc ns) (denT (den P cf n sc ns σ) n t >>= f) (execs (.If t b o p :: rest) env)) (funext fun c => ?_)).mp this
      cases c <;> rfl
    | For t it b o p =>
      cases o with
      | nil => exact bFor_rf hh R Z G C F (fun σ w I => ih b σ w I) hm I
      | cons _ _ => exact .stuck
    | While t b o p =>
      cases o with
      | nil => exact goOn_st (m := denB P cf sc ns n rest) (while_rf (fun σ w I => denT_rf R EnvR.stable (hev σ) n t w I) (fun σ w I => ih b σ w I) I) hm
      | cons _ _ => exact .stuck
    | _ => exact .stuck
end
end Mine


set_option autoImplicit false
set_option linter.unusedVariables false
namespace Mine
open PySem PyProof.Rows PySem.SeqAt

structure FnOK (cx : Cx) (f : Str) (fn : Fn) : Prop where
  nd : (f == ("__debug__" : Str)) = false
  chk : fnChk fn = true
  obj : ∃ fa o pm cd doc params, cx.mg f = some (.ref fa) ∧ cx.h₀.get? fa = some o ∧ o.data = .func (Calls.docDef f params fn.body fn.scope pm cd doc) ∧ cx.h₀.CodeRec cd f ∧
    (∀ vs : List Value, vs.length = fn.params.length → bindArgs (Calls.docDef f params fn.body fn.scope pm cd doc) ⟨vs, []⟩ = pure (fn.params.zip vs))

theorem cellsFrom_acc {x : Str} : ∀ (names : List (Str × NameKind)) (n : Nat) (acc : List (Str × Addr)), (acc.lookup x).isSome = true → ((cellsFrom n names acc).lookup x).isSome = true
  | [], _, _, h => h
  | (y, k) :: r, n, acc, h => by
    unfold cellsFrom
    split
    · refine cellsFrom_acc r (n + 1) _ ?_
      rw [List.lookup_cons]
      cases hb : x == y with
      | true => rfl
      | false => exact h
    · exact cellsFrom_acc r n acc h
theorem cellsFrom_has {x : Str} : ∀ (names : List (Str × NameKind)) (n : Nat) (acc : List (Str × Addr)), names.lookup x = some .cell → ((cellsFrom n names acc).lookup x).isSome = true
  | [], _, _, h => by cases h
  | (y, k) :: r, n, acc, h => by
    rw [List.lookup_cons] at h
    unfold cellsFrom
    cases hb : x == y with
    | true =>
      rw [hb] at h
      cases h
      simp only [beq_self_eq_true, if_true]
      exact cellsFrom_acc r (n + 1) _ (by rw [List.lookup_cons, hb]; rfl)
    | false =>
      rw [hb] at h
      split
      · exact cellsFrom_has r (n + 1) _ h
      · exact cellsFrom_has r n acc h

theorem bindL_other {kd : Str → Option NameKind} {x : Str} : ∀ (b : List (Str × Value)) (m : Str → Option Value), x ∉ b.map (·.1) → bindL kd b m x = m x
  | [], _, _ => rfl
  | (y, v) :: r, m, h => by
    have h1 : x ≠ y := fun q => h (by rw [q]; exact List.mem_cons_self)
    have h2 : x ∉ r.map (·.1) := fun q => h (List.mem_cons_of_mem _ q)
    unfold bindL
    rw [bindL_other r _ h2]
    split
    · simp [h1]
    · rfl
theorem bindL_get {kd : Str → Option NameKind} {x : Str} {v : Value} (hk : kd x = some .local) : ∀ (b : List (Str × Value)) (m : Str → Option Value), (b.map (·.1)).Nodup → (x, v) ∈ b → bindL kd b m x = some v
  | [], _, _, h => by cases h
  | (y, w) :: r, m, hn, h => by
    rw [List.map_cons, List.nodup_cons] at hn
    unfold bindL
    rcases List.mem_cons.mp h with q | q
    · cases q
      rw [bindL_other r _ hn.1, if_pos hk]; simp
    · exact bindL_get hk r _ hn.2 q
theorem bindC_other {kd : Str → Option NameKind} {x : Str} : ∀ (b : List (Str × Value)) (m : Str → Option Value), x ∉ b.map (·.1) → bindC kd b m x = m x
  | [], _, _ => rfl
  | (y, v) :: r, m, h => by
    have h1 : x ≠ y := fun q => h (by rw [q]; exact List.mem_cons_self)
    have h2 : x ∉ r.map (·.1) := fun q => h (List.mem_cons_of_mem _ q)
    unfold bindC
    rw [bindC_other r _ h2]
    split
    · rfl
    · simp [h1]
theorem bindC_get {kd : Str → Option NameKind} {x : Str} {v : Value} (hk : ¬ kd x = some .local) : ∀ (b : List (Str × Value)) (m : Str → Option Value), (b.map (·.1)).Nodup → (x, v) ∈ b → bindC kd b m x = some v
  | [], _, _, h => by cases h
  | (y, w) :: r, m, hn, h => by
    rw [List.map_cons, List.nodup_cons] at hn
    unfold bindC
    rcases List.mem_cons.mp h with q | q
    · cases q
      rw [bindC_other r _ hn.1, if_neg hk]; simp
    · exact bindC_get hk r _ hn.2 q

theorem zip_fst' {xs : List Str} {ys : List Value} (h : xs.length = ys.length) : (xs.zip ys).map (·.1) = xs := List.map_fst_zip (Nat.le_of_eq h)
section
variable {cx : Cx} {A : Around} {w : Wl} {H : AHeap} {P : Pg}
theorem args_at {fn : Fn} {as : List AV} {vs : List Value} {x : Str} {i : Nat} {a : AV} (ht : fn.names.take fn.params.length = fn.params) (hl : as.length = fn.params.length) (r : VRs cx w as vs) (h1 : fn.names.idxOf? x = some i)
    (h2 : (as.map some ++ List.replicate (fn.names.length - as.length) none : Loc)[i]? = some (some a)) : ∃ v, (x, v) ∈ fn.params.zip vs ∧ VR cx w a v := by
  obtain ⟨q1, q2⟩ := idx_get h1
  have hi : i < as.length := by
    rcases Nat.lt_or_ge i as.length with q | q
    · exact q
    · rw [List.getElem?_append_right (by rw [List.length_map]; exact q), List.getElem?_replicate] at h2
      split at h2 <;> cases h2
  rw [List.getElem?_append_left (by rw [List.length_map]; exact hi), List.getElem?_map, Option.map_eq_some_iff] at h2
  obtain ⟨b, ha, e⟩ := h2
  cases e
  obtain ⟨v, hv, rv⟩ := r.get ha
  have hpx : fn.params[i]? = some x := by
    rw [← ht, List.getElem?_take, if_pos (hl ▸ hi), List.getElem?_eq_getElem q1, q2]
  exact ⟨v, List.mem_of_getElem? (List.getElem?_zip_eq_some.mpr ⟨hpx, hv⟩), rv⟩
structure FnC (fn : Fn) : Prop where
  kind : fn.scope.kind = .function
  co : fn.scope.isCoroutine = false
  gen : fn.scope.isGenerator = false
  names : ∀ y k, (y, k) ∈ fn.scope.names → (k = .local ∨ k = .cell) ∨ k = .globalImplicit
  nd : fn.params.Nodup
  take : fn.names.take fn.params.length = fn.params
  ps : ∀ x, x ∈ fn.params → fn.scope.names.lookup x = some .local ∨ fn.scope.names.lookup x = some .cell
theorem fnC {fn : Fn} (h : fnChk fn = true) : FnC fn := by
  unfold fnChk at h
  rw [Bool.and_eq_true, Bool.and_eq_true, Bool.and_eq_true, Bool.and_eq_true, Bool.and_eq_true, Bool.and_eq_true, List.all_eq_true, List.all_eq_true, Bool.not_eq_true', Bool.not_eq_true', beq_iff_eq, beq_iff_eq, decide_eq_true_iff] at h
  refine byC fun C_ k_ => ?_
  obtain ⟨⟨⟨⟨⟨⟨k1, k2⟩, k3⟩, k4⟩, k5⟩, k6⟩, k7⟩ := h
  refine k_ ?_
  clear k_ C_
  refine ⟨k1, k2, k3, fun y k hy => ?_, k5, k6, fun x hx => ?_⟩
  · have := k4 (y, k) hy
    rw [Bool.or_eq_true, Bool.or_eq_true, beq_iff_eq, beq_iff_eq, beq_iff_eq] at this
    exact this
  · have := k7 x hx
    rw [Bool.or_eq_true, beq_iff_eq, beq_iff_eq] at this
    exact this
noncomputable def ownL (env : Env) : List Addr := env.locals :: env.cells.filterMap fun z => env.cells.lookup z.1
theorem mem_ownL {env : Env} {b : Addr} : b ∈ ownL env ↔ Own env b := by
  unfold ownL
  rw [List.mem_cons, List.mem_filterMap]
  exact or_congr_right ⟨fun ⟨z, _, e⟩ => ⟨z.1, e⟩, fun ⟨n, e⟩ => ⟨(n, b), mem_of_lookup e, e⟩⟩
theorem frame_in {fn : Fn} {f : Str} {fa : Addr} {cd : Value} {as : List AV} {vs : List Value} {h₁ : Heap} {tk : Nat} (K : FnC fn) (hlen : as.length = fn.params.length) (r : VRs cx w as vs) (S : St cx w H)
    (Fr : Fr w.s.heap w.s.heap.objs.size h₁ (bindL (envOfC f fn.scope w.s.heap.objs.size fa cd).kindOf (fn.params.zip vs) fun u_ => none))
    (Cl : Cl w.s.heap.objs.size (cellsFrom (w.s.heap.objs.size + 1) fn.scope.names []) h₁ (bindC (envOfC f fn.scope w.s.heap.objs.size fa cd).kindOf (fn.params.zip vs) fun u_ => none)) :
    FrS (envOfC f fn.scope w.s.heap.objs.size fa cd) fn.scope ∧ (∀ b, Own (envOfC f fn.scope w.s.heap.objs.size fa cd) b → b ∉ w.π) ∧ ∃ w', w'.s = { w.s with heap := h₁, toks := tk } ∧ Le No w w' ∧ St cx w' H ∧
      EnvR cx (envOfC f fn.scope w.s.heap.objs.size fa cd) fn.scope fn.names (as.map some ++ List.replicate (fn.names.length - as.length) none) w' := by
  have hzf : (fn.params.zip vs).map (·.1) = fn.params := zip_fst' (by rw [← r.length, hlen])
  generalize henv : envOfC f fn.scope w.s.heap.objs.size fa cd = env at Fr Cl ⊢
  have hloc : env.locals = w.s.heap.objs.size := by rw [← henv]; rfl
  have hcs : env.cells = cellsFrom (w.s.heap.objs.size + 1) fn.scope.names [] := by rw [← henv]; rfl
  have hscp : env.scope = fn.scope := by rw [← henv]; rfl
  have hkd : ∀ y, env.kindOf y = fn.scope.names.lookup y := fun y => by rw [← henv]; rfl
  rw [← hcs] at Cl
  rw [← hloc] at Fr Cl
  have new : ∀ b, Own env b → w.s.heap.get? b = none := fun b h => Heap.get?_none_of_le (hloc ▸ h.elim (fun e => Nat.le_of_eq e.symm) fun ⟨n, e⟩ => Nat.le_of_lt (Cl.above n b (mem_of_lookup e)))
  obtain ⟨l, S'⟩ := S.hides (ownL env) (t := tk) Fr.keep (fun d h => new d (mem_ownL.mp h)) fun d h => (mem_ownL.mp h).elim (fun e => let ⟨o, _, _, q, _⟩ := Fr.ns; ⟨o, e ▸ q⟩) fun ⟨n, e⟩ => let ⟨o, q, _⟩ := Cl.cell n d e; ⟨o, q⟩
  have pv : ∀ {b}, Own env b → b ∈ ownL env ++ w.π := fun h => List.mem_append_left _ (mem_ownL.mpr h)
  have nofree : ∀ x, isLocal fn.scope x = true → fn.scope.names.lookup x = some .local ∨ fn.scope.names.lookup x = some .cell := fun x hx => by
    unfold isLocal at hx
    cases hl : fn.scope.names.lookup x with
    | none => rw [hl] at hx; cases hx
    | some k =>
      rcases K.names _ _ (lookup_mem hl) with (q | q) | q
      · subst q; exact .inl rfl
      · subst q; exact .inr rfl
      · subst q; rw [hl] at hx; cases hx
  have cell : ∀ {x}, fn.scope.names.lookup x = some .cell → ∃ c, env.cells.lookup x = some c := fun hx => by
    rw [hcs]; exact Option.isSome_iff_exists.mp (cellsFrom_has fn.scope.names (w.s.heap.objs.size + 1) [] hx)
  refine ⟨⟨hscp, fun n c hc e => Nat.lt_irrefl _ (e ▸ Cl.above n c (mem_of_lookup hc)), fun n n' c a1 a2 => name_of_addr Cl.apart (mem_of_lookup a1) (mem_of_lookup a2), nofree⟩, fun b h => S.none (new b h), _, rfl, l, S',
    ⟨⟨by rw [hscp]; exact K.kind, by rw [← henv]; rfl, by rw [← henv]; rfl, fun x hx => (nofree x hx).imp (fun q => (hkd x).trans q) fun q => .inl ((hkd x).trans q), fun x hx => (hkd x).trans hx, fun x hx => ?_⟩, pv (.inl rfl), ⟨_, Fr.ns, fun x i a h1 h2 h3 => ?_⟩, fun x i a h1 h2 h3 => ?_, fun x h1 h2 => ?_, fun n c h => pv (.inr ⟨n, h⟩)⟩⟩
  · rw [hkd]
    unfold isGlob at hx
    split at hx
    · assumption
    · cases hx
  · obtain ⟨v, m1, m2⟩ := args_at K.take hlen r h1 h2
    exact ⟨v, bindL_get h3 _ _ (by rw [hzf]; exact K.nd) m1, m2.mono l⟩
  · obtain ⟨v, m1, m2⟩ := args_at K.take hlen r h1 h2
    have hnl : ¬ env.kindOf x = some .local := fun q => by rcases h3 with h3 | h3 <;> rw [q] at h3 <;> cases h3
    have hc : fn.scope.names.lookup x = some .cell := by
      rw [hkd] at h3
      rcases h3 with h3 | h3
      · exact h3
      · rcases K.names _ _ (lookup_mem h3) with (q | q) | q <;> cases q
    obtain ⟨c, hc'⟩ := cell hc
    have hcell := Cl.cell x c hc'
    rw [bindC_get hnl _ _ (by rw [hzf]; exact K.nd) m1] at hcell
    exact ⟨c, v, hc', pv (.inr ⟨x, hc'⟩), hcell, m2.mono l⟩
  · obtain ⟨c, hc'⟩ := cell h2
    exact ⟨c, _, hc', pv (.inr ⟨x, hc'⟩), Cl.cell x c hc'⟩
set_option backward.match.sparseCases true in
theorem callP_rf (hZ : ∀ A : Around, A.handled = none → ZipOK cx A) (hP : ∀ f fn, P.fn f = some fn → FnOK cx f fn) (G : Good cx P) : ∀ (n : Nat) (A : Around), A.handled = none → A.units + 3 * n + 100 < cLine → A.depth + n < recursionLimit → CallOK cx A P (callP P n)
  | n, A, hh, hu, hd => fun f hf => by
    refine byC fun C_ k_ => ?_
    obtain ⟨fn, hf⟩ := Option.isSome_iff_exists.mp hf
    obtain ⟨nd, chk, fa, o, pm, cd, doc, params, q1, q2, q3, q4, q5⟩ := hP f fn hf
    refine k_ ?_
    clear k_ C_
    refine ⟨nd, fa, o, _, q1, q2, q3, fun w as vs r => ?_⟩
    cases n with
    | zero => exact .stuck
    | succ n =>
      unfold callP
      rw [hf]
      refine ite_rf (fun hlen => fun H S r' H' h => ?_) fun u_ => .stuck
      have K := fnC chk
      have hvl : vs.length = fn.params.length := by rw [← r.length]; exact hlen
      have hzf : (fn.params.zip vs).map (·.1) = fn.params := zip_fst' hvl.symm
      have kp : ∀ b o, cx.h₀.get? b = some o → w.s.heap.get? b = some o := fun b o e => (S.base b o e).1
      refine wpAny_call (call_cells_ret (binds := fn.params.zip vs) (Nat.lt_of_le_of_lt (Nat.le_add_right _ _) hd) (kp _ _ q2) q3 (G.nolim.keeps kp) (q4.keeps kp) (q5 vs hvl) (fun z hz => ?_) (fun h₁ tk Fr Cl => ?_) K.co K.gen K.kind)
      · exact (K.ps z.1 (by rw [← hzf]; exact List.mem_map_of_mem hz)).imp id fun q => ⟨q, cellsFrom_has _ _ _ q⟩
      · refine byC fun C_ k_ => ?_
        obtain ⟨F, hO, w1, e1, l1, S1, I1⟩ := frame_in (tk := tk) K hlen r S Fr Cl
        refine k_ ?_
        clear k_ C_
        rw [← e1]
        have C' := callP_rf hZ hP G n (A.deeper (envOfC f fn.scope w.s.heap.objs.size fa cd)) hh (by show A.units + 3 + 3 * n + 100 < cLine; (first | lia | omega)) (by show A.depth + 1 + n < recursionLimit; (first | lia | omega))
        have R' : Room (A.deeper (envOfC f fn.scope w.s.heap.objs.size fa cd)) := by unfold Room; show A.units + 3 + 100 < cLine; (first | lia | omega)
        refine wpAny_mono ((denB_rf (A := A.deeper _) hh R' (hZ _ hh) G C' F EFUEL fn.body _ w1 I1).run S1 h (K := fun f s' => Post cx No w (VR cx) r' H' (match f with | .ret v => v | _ => .none) s') fun w2 res fl H2 l2 S2 hr h2 => ?_) (fun u_ u_ z => z) fun u_ u_ z => z.no
        have l3 : Le No w w2 := (l1.no.trans l2).weak fun b hb h => hO b h hb
        cases res with
        | next σ' =>
          obtain ⟨rfl, rfl⟩ := pure_some h2
          rw [hr.1]
          exact ⟨_, _, _, rfl, l3, S2, .none⟩
        | ret a =>
          refine byC fun C_ k_ => ?_
          obtain ⟨v, e, rv, _⟩ := hr
          obtain ⟨rfl, rfl⟩ := pure_some h2
          refine k_ ?_
          clear k_ C_
          subst e
          exact ⟨_, _, _, rfl, l3, S2, rv⟩
end
theorem lookup_zip {ps : List Str} {vs : List Value} {x : Str} (hl : ps.length ≤ vs.length) (hx : x ∈ ps) : ((ps.zip vs).lookup x).isSome = true := by
  induction ps generalizing vs with
  | nil => first | exact no_some hx | exact no_true hx | cases hx
  | cons p ps ih =>
    cases vs with
    | nil => simp at hl
    | cons v vs =>
      rw [List.zip_cons_cons, List.lookup_cons]
      cases hb : x == p with
      | true => rfl
      | false =>
        rcases List.mem_cons.mp hx with q | q
        · rw [q] at hb; simp at hb
        · exact ih (by simpa using hl) q
theorem fm_congr {α β : Type} {f g : α → Option β} : ∀ {l : List α}, (∀ x ∈ l, f x = g x) → l.filterMap f = l.filterMap g
  | [], _ => rfl
  | x :: r, h => by rw [List.filterMap_cons, List.filterMap_cons, h x List.mem_cons_self, fm_congr fun y hy => h y (List.mem_cons_of_mem _ hy)]
theorem binds_zip {ps : List Str} {vs : List Value} (hl : ps.length = vs.length) (hn : ps.Nodup) : (ps.filterMap fun n => ((ps.zip vs).lookup n).map (n, ·)) = ps.zip vs := by
  induction ps generalizing vs with
  | nil => rfl
  | cons p ps ih =>
    cases vs with
    | nil => simp at hl
    | cons v vs =>
      rw [List.nodup_cons] at hn
      rw [List.zip_cons_cons, List.filterMap_cons]
      simp only [List.lookup_cons, beq_self_eq_true, Option.map_some]
      congr 1
      refine (fm_congr fun n hm => ?_).trans (ih (by simpa using hl) hn.2)
      have hne : (n == p) = false := by
        cases hb : n == p with
        | false => rfl
        | true => exact absurd (beq_iff_eq.mp hb ▸ hm) hn.1
      rw [hne]

theorem bindArgs_plain {name : Str} {params : Arguments} {body : List Stmt} {scope : Scope} {pm cd doc : Value} {ps : List Str} {vs : List Value} (h1 : params.posonlyargs = []) (h2 : params.args.map (·.arg) = ps) (h3 : params.vararg = none) (h4 : params.kwonlyargs = []) (h5 : params.kwarg = none)
    (hn : ps.Nodup) (hl : vs.length = ps.length) : bindArgs (Calls.docDef name params body scope pm cd doc) ⟨vs, []⟩ = pure (ps.zip vs) := by
  unfold bindArgs
  have hm : (List.filter (fun n => ((ps.zip vs).lookup n).isNone) ps).isEmpty = true := by
    rw [List.isEmpty_iff, List.filter_eq_nil_iff]
    intro x hx q
    have := lookup_zip (vs := vs) (by (first | lia | omega)) hx
    cases hz : (ps.zip vs).lookup x with
    | none => rw [hz] at this; cases this
    | some v => rw [hz] at q; cases q
  have hs : seqItems? Value.none = pure none := rfl
  simp only [Calls.docDef, h1, h2, h3, h4, h5, List.map_nil, List.nil_append, List.forIn_nil, pure_bind, hs, Option.getD_none, Array.toList_empty, List.length_nil, Nat.zero_sub, List.drop_nil, Nat.sub_zero, List.take_length, List.drop_length, List.zip_nil_left, hl, Nat.lt_irrefl, gt_iff_lt, decide_false, Bool.false_and, Bool.false_eq_true, if_false, hm, Bool.not_true, List.isEmpty_nil, List.append_nil]
  rw [binds_zip (by (first | lia | omega)) hn]
end Mine


set_option autoImplicit false
set_option linter.unusedVariables false
namespace Mine
open PySem PyProof.Rows


noncomputable def mkFn (a : Arguments) (b : List Stmt) (sc : Scope) : Fn :=
  let ps := a.args.map (·.arg)
  ⟨ps, ps ++ (sc.names.filterMap fun (x, k) => if (k == .local || k == .cell) && !ps.contains x then some x else none), b, sc⟩
noncomputable def recSt : Stmt → Option DefRec
  | .FunctionDef n a b [] _ _ sc _ _ pos => some ⟨n, a, b, sc, pos⟩
  | _ => none
noncomputable def fnSt (f : Str) (st : Stmt) : Option Fn := (recSt st).bind fun d => if d.name = f then some (mkFn d.params d.body d.scope) else none
noncomputable def fnOf (p : Program) (f : Str) : Option Fn := p.main.body.findSome? (fnSt f)
noncomputable def recs (p : Program) : List DefRec := p.main.body.filterMap recSt
noncomputable def defChk (d : DefRec) : Bool := fnChk (mkFn d.params d.body d.scope) && d.name != ("__debug__" : Str) && d.params.posonlyargs.isEmpty && d.params.vararg.isNone && d.params.kwonlyargs.isEmpty && d.params.kwarg.isNone

noncomputable def subB : Stmt → Nat → List Stmt
  | .If _ b _ _, 0 => b
  | .If _ _ o _, _ => o
  | .For _ _ b _ _, _ => b
  | .While _ b _ _, _ => b
  | _, _ => []
noncomputable def bAt : List Stmt → List (Nat × Nat) → List Stmt
  | b, [] => b
  | b, (i, k) :: r => match b[i]? with
    | some s => bAt (subB s k) r
    | none => []

noncomputable def eachM : List (M AV) → M (List AV)
  | [] => pure []
  | m :: r => do
    let v ← m
    let vs ← eachM r
    pure (v :: vs)
noncomputable def lookG : List (Str × AV) → Str → Option AV
  | [], _ => none
  | p :: r, x => if x = p.1 then some p.2 else lookG r x
noncomputable def AllG (Q : Str → AV → Prop) : List (Str × AV) → Prop
  | [] => True
  | p :: r => Q p.1 p.2 ∧ AllG Q r
theorem AllG.look {Q : Str → AV → Prop} : ∀ {l : List (Str × AV)}, AllG Q l → ∀ {x : Str} {a : AV}, lookG l x = some a → Q x a
  | [], _, _, _, e => nomatch e
  | p :: r, h, x, a, e => by
    have e : (if x = p.1 then some p.2 else lookG r x) = some a := e
    by_cases q : x = p.1
    · rw [if_pos q] at e
      cases e; rw [q]; exact h.1
    · rw [if_neg q] at e
      exact h.2.look e
noncomputable def fnD (P : Pg) (f : Str) : Fn := (P.fn f).getD ⟨[], [], [], default⟩
noncomputable def tl (P : Pg) (cf : Str → List AV → M AV) (f : Str) (path : List (Nat × Nat)) (i n : Nat) (σ : Loc) : M Res := denB P cf (fnD P f).scope (fnD P f).names n ((bAt (fnD P f).body path).drop i) σ
noncomputable def forB (P : Pg) (cf : Str → List AV → M AV) (f : Str) (path : List (Nat × Nat)) (i n : Nat) (v : AV) (σ : Loc) : M Res := match (bAt (fnD P f).body path)[i]? with
  | some (.For t _ b _ _) => do
    let σ' ← assignTo (fun σ e => den P cf n (fnD P f).scope (fnD P f).names σ e) (fnD P f).scope (fnD P f).names v σ t
    denB P cf (fnD P f).scope (fnD P f).names n b σ'
  | _ => stuck
noncomputable def whileT (P : Pg) (cf : Str → List AV → M AV) (f : Str) (path : List (Nat × Nat)) (i n : Nat) (σ : Loc) : M Bool := match (bAt (fnD P f).body path)[i]? with
  | some (.While t _ _ _) => denT (den P cf n (fnD P f).scope (fnD P f).names σ) n t
  | _ => stuck
noncomputable def whileB (P : Pg) (cf : Str → List AV → M AV) (f : Str) (path : List (Nat × Nat)) (i n : Nat) (σ : Loc) : M Res := match (bAt (fnD P f).body path)[i]? with
  | some (.While _ b _ _) => denB P cf (fnD P f).scope (fnD P f).names n b σ
  | _ => stuck

theorem b_some {α β : Type} {m : M α} {f : α → M β} {H H1 : AHeap} {a : α} (h1 : m H = some (.ok a, H1)) : (m >>= f) H = f a H1 := by
  show (Option.bind (m H) _) = _
  rw [h1]; rfl
theorem bind_of {α β : Type} {m : M α} {f : α → M β} {H H1 : AHeap} {a : α} {r : Except Str β × AHeap} (h1 : m H = some (.ok a, H1)) (h2 : f a H1 = some r) : (m >>= f) H = some r := (b_some h1).trans h2

theorem callR {P : Pg} {n : Nat} {f : Str} {as : List AV} {σ : Loc} (hf : P.fn f = some (fnD P f)) (hl : as.length = (fnD P f).params.length) (hσ : as.map some ++ List.replicate ((fnD P f).names.length - as.length) none = σ) {a : AV} {H H' : AHeap}
    (h : tl P (callP P n) f [] 0 40 σ H = some (.ok (.ret a), H')) : callP P (n + 1) f as H = some (.ok a, H') := by
  unfold callP
  rw [hf]
  simp only [hl, if_true]
  rw [hl] at hσ
  rw [hσ]
  exact b_some h
theorem callN {P : Pg} {n : Nat} {f : Str} {as : List AV} {σ : Loc} (hf : P.fn f = some (fnD P f)) (hl : as.length = (fnD P f).params.length) (hσ : as.map some ++ List.replicate ((fnD P f).names.length - as.length) none = σ) {σ' : Loc} {H H' : AHeap}
    (h : tl P (callP P n) f [] 0 40 σ H = some (.ok (.next σ'), H')) : callP P (n + 1) f as H = some (.ok .none, H') := by
  unfold callP
  rw [hf]
  simp only [hl, if_true]
  rw [hl] at hσ
  rw [hσ]
  exact b_some h

theorem callQ {P : Pg} {n : Nat} {f : Str} {as : List AV} {σ : Loc} (hf : P.fn f = some (fnD P f)) (hl : as.length = (fnD P f).params.length) (hσ : as.map some ++ List.replicate ((fnD P f).names.length - as.length) none = σ) {a : AV}
    (h : tl P (callP P n) f [] 0 40 σ = pure (.ret a)) : callP P (n + 1) f as = pure a := by
  funext H
  exact callR hf hl hσ (by rw [h]; rfl)

theorem e_each0 : eachM [] = pure [] := rfl
theorem e_eachp {a : AV} {r : List (M AV)} : eachM (pure a :: r) = (do let vs ← eachM r; pure (a :: vs)) := rfl
theorem e_go_next {m : Loc → M Res} {σ : Loc} : goOn m (.next σ) = m σ := rfl
theorem e_go_ret {m : Loc → M Res} {a : AV} : goOn m (.ret a) = pure (.ret a) := rfl
theorem e_truth {b : Bool} : truth (.bool b) = pure b := rfl
theorem e_lt {i j : Int} : pCmp .Lt (.int i) (.int j) = pure (decide (i < j)) := rfl
theorem e_le {i j : Int} : pCmp .LtE (.int i) (.int j) = pure (decide (i ≤ j)) := rfl
theorem e_gt {i j : Int} : pCmp .Gt (.int i) (.int j) = pure (decide (j < i)) := rfl
theorem e_eqi {i j : Int} : pCmp .Eq (.int i) (.int j) = pure (decide (i = j)) := by
  funext H
  show some (Except.ok (i == j), H) = some (Except.ok (decide (i = j)), H)
  have : (i == j) = decide (i = j) := by by_cases h : i = j <;> simp [h]
  rw [this]
theorem e_len_lst {mu : Bool} {xs : List AV} : pBI mu .len [.lst xs] = pure (.int xs.length) := rfl
theorem e_len_tup {mu : Bool} {xs : List AV} : pBI mu .len [.tup xs] = pure (.int xs.length) := rfl
theorem e_item_lst {xs : List AV} {k : Nat} {a : AV} (h : xs[k]? = some a) : pItem (.lst xs) (.int k) = pure a := by
  have hk : k < xs.length := (List.getElem?_eq_some_iff.mp h).1
  have hi : idx (k : Int) xs.length = some k := by
    unfold idx
    rw [if_pos (by (first | lia | omega)), if_pos (by (first | lia | omega))]; simp
  funext H
  show (ofOpt ((idx (k : Int) xs.length).bind fun j => xs[j]?) : M AV) H = _
  rw [hi]
  show (ofOpt xs[k]? : M AV) H = _
  rw [h]; rfl
theorem e_item_tup {xs : List AV} {k : Nat} {a : AV} (h : xs[k]? = some a) : pItem (.tup xs) (.int k) = pure a := by
  have hk : k < xs.length := (List.getElem?_eq_some_iff.mp h).1
  have hi : idx (k : Int) xs.length = some k := by
    unfold idx
    rw [if_pos (by (first | lia | omega)), if_pos (by (first | lia | omega))]; simp
  funext H
  show (ofOpt ((idx (k : Int) xs.length).bind fun j => xs[j]?) : M AV) H = _
  rw [hi]
  show (ofOpt xs[k]? : M AV) H = _
  rw [h]; rfl
theorem e_newL {xs : List AV} (h : xs.length ≤ LIM) : newL false xs = pure (.lst xs) := by
  funext H; unfold newL; rw [if_pos h]
theorem m_add {mu : Bool} {i j : Int} : pBin mu .Add (.int i) (.int j) = pure (.int (i + j)) := rfl
theorem m_sub {mu : Bool} {i j : Int} : pBin mu .Sub (.int i) (.int j) = pure (.int (i - j)) := rfl
theorem m_mulL {mu : Bool} {i j : Int} (h : i.natAbs < 2 ^ 64) : pBin mu .Mult (.int i) (.int j) = pure (.int (i * j)) := if_pos (.inr h)
theorem m_mulR {mu : Bool} {i j : Int} (h : j.natAbs < 2 ^ 64) : pBin mu .Mult (.int i) (.int j) = pure (.int (i * j)) := if_pos (.inl h)
theorem m_mod {mu : Bool} {i j : Int} (h : j ≠ 0) : pBin mu .Mod (.int i) (.int j) = pure (.int (i.fmod j)) := if_neg h
theorem m_div {mu : Bool} {i j : Int} (h : j ≠ 0 ∧ j.natAbs < 1073741824) : pBin mu .FloorDiv (.int i) (.int j) = pure (.int (i.fdiv j)) := if_neg (by (first | lia | omega))
theorem fmod_lt (a : Int) {b : Int} (h : 0 < b) : 0 ≤ a.fmod b ∧ a.fmod b < b := ⟨Int.fmod_nonneg_of_pos a h, Int.fmod_lt_of_pos a h⟩
end Mine


set_option autoImplicit false
set_option linter.unusedVariables false
namespace Mine
open PySem PyProof.Rows PySem.SeqAt PySem.W


theorem items_ints : ∀ {xs : List WData} {R : WRecords}, WShape.hasItems R xs .int = true → ∃ ns : List Int, xs = ns.map .int
  | [], _, _ => ⟨[], rfl⟩
  | d :: r, R, h => by
    have h' : WShape.has R d .int = true ∧ WShape.hasItems R r .int = true := by simpa [WShape.hasItems] using h
    obtain ⟨i, rfl⟩ := hasW_int h'.1
    obtain ⟨ns, rfl⟩ := items_ints h'.2
    exact ⟨i :: ns, rfl⟩

theorem law_args {l : OpenLaw} {args : List WData} (hm : l.most = some 63) (hb : l.bound = none) (hpre : l.row.toRowW.claim.pre args = true) : ∃ ns : List Int, ns.length ≤ 63 ∧ args = [.list (ns.map .int)] := by
  obtain ⟨h1, h2⟩ := pre_splitW hpre
  have h1' : WShape.hasAll [] args [.list .int] = true := h1
  obtain ⟨d, r, rfl, hd, hr⟩ := hasAllW_cons h1'
  have := hasAllW_nil hr
  subst this
  obtain ⟨xs, rfl, hx⟩ := hasW_list hd
  obtain ⟨ns, rfl⟩ := items_ints hx
  refine ⟨ns, ?_, rfl⟩
  have h3 : l.pre.holds [] { args := [.list (ns.map .int)] } = true := h2
  unfold OpenLaw.pre at h3
  rw [hm, hb] at h3
  have h4 := (holds_andW h3).1
  simp [WTm.holds, WTm.value] at h4
  have h5 : less? (WData.int 63) (WData.int ns.length) = some (decide ((63 : Int) < ns.length)) := by simp [less?, Num.less?]
  rw [h5] at h4
  by_cases hc : (63 : Int) < ns.length
  · rw [decide_eq_true hc] at h4; cases h4
  · omega

theorem ints_read {R : WRecords} {cl : Str → Option Addr} {h : Heap} {cx : Cx} {w : Wl} : ∀ {ns : List Int} {vs : List Value} {as : List Addr}, ReadsAllW R cl h vs (ns.map .int) as → VRs cx w (ns.map .int) vs
  | [], vs, as, r => by cases r; exact .nil
  | n :: ns, vs, as, r => by
    cases r with
    | cons r1 r2 => cases r1; exact .cons .int (ints_read r2)

noncomputable def usedNames : List Str := ["len", "list", "tuple", "dict", "int", "range", "min", "max", "any", "sorted", "isinstance", "bool", "str", "zip", "enumerate"]
noncomputable def freeOk (q : Program) (loose : List Str) : Bool := usedNames.all fun x => !startupNames.contains x && !(looseW q loose).contains x && !((recsOf q).map (·.name)).contains x && !((litsOf q).map (·.1)).contains x && !((clssOf q (looseW q loose)).map (·.name)).contains x

theorem free_of {q : Program} {loose : List Str} {mean : ExcName → Option Value} {mg mb : Str → Option Value} {h : Heap} (T : Top q (looseW q loose) mean mg mb h) (hf : freeOk q loose = true) {x : Str} (hx : x ∈ usedNames) : mg x = none := by
  have := List.all_eq_true.mp hf x hx
  simp only [Bool.and_eq_true, Bool.not_eq_true', List.contains_eq_mem, decide_eq_false_iff_not] at this
  obtain ⟨⟨⟨⟨a1, a2⟩, a3⟩, a4⟩, a5⟩ := this
  exact T.free x a1 a2 a3 a4 a5

theorem boot_bi : ∀ x b, biOf x = some b → x ∈ usedNames ∧ bootBuiltins x = some (biV b) ∧ x ≠ "__name__" := by
  intro x b h
  unfold biOf at h
  repeat' (split at h)
  all_goals first | (cases h; done) | skip
  all_goals (cases h; subst_vars; exact ⟨by decide, by decide +kernel, by decide⟩)
theorem boot_ty : ∀ x t, tyOf x = some t → x ∈ usedNames ∧ bootBuiltins x = some (.type (tyStr t)) ∧ x ≠ "__name__" := by
  intro x b h
  unfold tyOf at h
  repeat' (split at h)
  all_goals first | (cases h; done) | skip
  all_goals (cases h; subst_vars; exact ⟨by decide, by decide +kernel, by decide⟩)

structure DefIs (q : Program) (f : Str) (fn : Fn) : Prop where
  chk : fnChk fn = true
  nd : (f == ("__debug__" : Str)) = false
  dfn : ∃ d ∈ recsOf q, d.name = f ∧ d.body = fn.body ∧ d.scope = fn.scope ∧ d.params.posonlyargs = [] ∧ d.params.args.map (·.arg) = fn.params ∧ d.params.vararg = none ∧ d.params.kwonlyargs = [] ∧ d.params.kwarg = none

theorem walk_law {l : OpenLaw} {q : Program} {loose : List Str} {XP : (Str → Option Value) → Heap → Prop} {YP : World → Heap → Prop} {d : DefRec} {kwd : List (Str × Expr)} {P : Pg} {N : Nat}
    (hm : l.most = some 63) (hbd : l.bound = none) (hfree : freeOk q loose = true) (hfn : ∀ f fn, P.fn f = some fn → DefIs q f fn) (hdn : d.name = ("law" : Str)) (hN : N ≤ 200)
    (hgl : ∀ (w : World) (mean : ExcName → Option Value) (mg mb : Str → Option Value) (h : Heap) (os : OsState), XP mg h → YP w h → Top q (looseW q loose) mean mg mb h → ∀ x a, P.glob x = some a → ∃ v, mg x = some v ∧ ∀ w' H, St ⟨l.prog, w, h, os, mg, mb⟩ w' H → VR ⟨l.prog, w, h, os, mg, mb⟩ w' a v)
    (hrun : ∀ ns : List Int, ns.length ≤ 63 → ∃ H', callP P N ("law" : Str) [.lst (ns.map .int)] [] = some (.ok (.bool true), H')) :
    WalkO q loose XP YP l.row.toRowW d kwd fun f vs => PySem.call f vs := by
  intro w s₀ s₁ mg mb G Y fa o pm cd doc dV kV ho hod hcd hD hmg hgens args vals as hpre hlay hrd hwl hlo
  obtain ⟨ns, hlen, rfl⟩ := law_args hm hbd hpre
  have T := G.T
  let cx : Cx := ⟨l.prog, w, s₁.heap, s₁.os, mg, mb⟩
  have hG : Good cx P := by
    refine ⟨T.g, T.b, T.nolimit, fun x a hx => hgl w _ mg mb s₁.heap s₁.os G.X Y T x a hx, ?_, ?_, ?_, ?_, ?_⟩
    · intro x b hx
      obtain ⟨h1, h2, h3⟩ := boot_bi x b hx
      exact ⟨free_of T hfree h1, (T.builtins x h3).trans h2⟩
    · exact ⟨free_of T hfree (by decide), (T.builtins _ (by decide)).trans (by decide +kernel)⟩
    · intro x t hx
      obtain ⟨h1, h2, h3⟩ := boot_ty x t hx
      exact ⟨free_of T hfree h1, (T.builtins x h3).trans h2⟩
    · exact ⟨free_of T hfree (by decide), (T.builtins _ (by decide)).trans (by decide +kernel)⟩
    · exact ⟨free_of T hfree (by decide), (T.builtins _ (by decide)).trans (by decide +kernel)⟩
  have hF : ∀ f fn, P.fn f = some fn → FnOK cx f fn := fun f fn hf => by
    obtain ⟨c1, c2, d', hd', rfl, e1, e2, e3, e4, e5, e6, e7⟩ := hfn f fn hf
    obtain ⟨a', o', pm', cd', doc', g1, g2, g3, g4⟩ := T.fn d' hd'
    refine ⟨c2, c1, a', o', pm', cd', doc', d'.params, g1, g2, by rw [← e1, ← e2]; exact g3, g4, fun vs hvs => ?_⟩
    have hnd : fn.params.Nodup := by
      unfold fnChk at c1
      simp only [Bool.and_eq_true, decide_eq_true_eq] at c1
      exact c1.1.1.2
    exact bindArgs_plain e3 e4 e5 e6 e7 hnd hvs
  have hS : St cx ⟨[], [], s₁⟩ [] := ⟨fun u_ u_ e => ⟨e, List.not_mem_nil, List.not_mem_nil⟩, rfl, List.nodup_nil, fun u_ h => (nomatch h), fun u_ h => (nomatch h), fun l a o h u_ => (nomatch h), hgens, rfl, let ⟨_, ⟨o, _, _, ho, _⟩, _⟩ := T.nodigits; ⟨o, ho⟩⟩
  have hC : CallOK cx callerA P (callP P N) := callP_rf (fun A hh => trivial) hF hG N callerA rfl (by show 4 + 3 * N + 100 < cLine; have : cLine = 9900 := rfl; omega) (by show 1 + claimMargin + N < recursionLimit; have : claimMargin = 300 := rfl; have : recursionLimit = 1000 := rfl; omega)
  obtain ⟨H', hr⟩ := hrun ns hlen
  have hsome : (P.fn ("law" : Str)).isSome = true := by
    cases N with
    | zero => cases hr
    | succ n =>
      unfold callP at hr
      cases hf : P.fn ("law" : Str) with
      | none => rw [hf] at hr; cases hr
      | some fn => rfl
  obtain ⟨_, fa', o', fd', r1, r2, r3, r4⟩ := hC _ hsome
  rw [hdn] at hmg
  have hfa : fa' = fa := by
    have : some (Value.ref fa') = some (.ref fa) := r1.symm.trans hmg
    injection this with this
    injection this
  subst hfa
  cases hrd with
  | cons rd1 rd2 =>
    cases rd2
    cases hwl with
    | cons w1 w2 =>
      cases w1 with
      | @list a vs xs hga hwa =>
        have hv : VRs cx ⟨[], [], s₁⟩ [.lst (ns.map .int)] [.ref a] := by
          refine .cons (.lst (n := 0) hga ⟨List.not_mem_nil, List.not_mem_nil⟩ (by rw [List.length_map]; exact Nat.le_trans hlen (by decide)) ?_) .nil
          cases rd1 with
          | list q1 q2 q3 q4 =>
            rw [hga] at q1
            cases q1
            cases q3
            exact ints_read q4
        refine wpAny_mono (r4 _ _ [.ref a] hv [] hS _ _ hr) (fun v s' z_ => z_.el fun ι' π' c e l S' rv => ?_) fun u_ u_ z => z.no
        cases e
        rw [show v = .bool true from rv]
        refine GoodW.toG ⟨.inl ⟨_, .bool true, [], rfl, fun u_ => rfl, .bool true, ?_, fun u_ => ⟨List.nodup_nil, fun u_ h => (nomatch h)⟩⟩, fun b o e => (S'.base b o e).1, S'.os, S'.gens⟩
        exact postW_of (X := true) rfl (by show WTm.value [] (.eq .res (.lit (.bool true))) _ = _; simp [WTm.value, same_self]) rfl
end Mine


set_option autoImplicit false
set_option linter.unusedVariables false
namespace Mine
open PySem PyProof.Rows PySem.W

theorem defs_ok {p q : Program} (hr : recsOf q = recs p) (hc : (recs p).all defChk = true) : ∀ f fn, fnOf p f = some fn → DefIs q f fn := by
  intro f fn h
  unfold fnOf at h
  obtain ⟨st, hst, h1⟩ := List.exists_of_findSome?_eq_some h
  obtain ⟨d, hst1, h2⟩ := Option.bind_eq_some_iff.mp h1
  obtain ⟨hn, h3⟩ := Option.ite_none_right_eq_some.mp h2
  clear h1 h2 h
  subst hn
  cases h3
  have hd : d ∈ recs p := List.mem_filterMap.mpr ⟨st, hst, hst1⟩
  have hk := List.all_eq_true.mp hc _ hd
  unfold defChk at hk
  simp only [Bool.and_eq_true, bne_iff_ne, ne_eq, List.isEmpty_iff, Option.isNone_iff_eq_none] at hk
  obtain ⟨⟨⟨⟨⟨k1, k2⟩, k3⟩, k4⟩, k5⟩, k6⟩ := hk
  exact ⟨k1, beq_eq_false_iff_ne.mpr k2, _, hr ▸ hd, rfl, rfl, rfl, k3, rfl, k4, k5, k6⟩
end Mine


set_option autoImplicit false
set_option linter.unusedVariables false
namespace Mine
open PySem PyProof.Rows PySem.W

noncomputable def keepSt : Stmt → Bool
  | .Assign [.Name x _] _ _ => !(x == ("__name__" : Str))
  | _ => true
noncomputable def viewOf (p : Program) : Program := { p with main := { p.main with body := p.main.body.filter keepSt } }
noncomputable def noDef : DefRec × List (Str × Expr) := (⟨"", ⟨[], [], none, [], [], none, []⟩, [], default, default⟩, [])
noncomputable def lawDef (q : Program) : DefRec × List (Str × Expr) := (defOf q "law").getD noDef

abbrev Tbl := List (Str × Addr × (Params → Obj))
noncomputable def tblF (D : Tbl) (s : Shared) : List (Option Obj) := D.map fun d => s.heap.get? d.2.1
noncomputable def tblA (D : Tbl) (w : World) : List (Option Obj) := D.map fun d => some (d.2.2 w.params)
noncomputable def tblP (D : Tbl) (w : World) (h : Heap) : Prop := ∀ d ∈ D, h.get? d.2.1 = some (d.2.2 w.params)
noncomputable def isAt (a : Addr) : Option Value → Bool
  | some (.ref b) => Nat.beq b a
  | _ => false
noncomputable def tblX (D : Tbl) (s : Shared) : Bool := D.all fun d => isAt d.2.1 (s.heap.nsMap mainGlobals d.1)
noncomputable def tblXP (D : Tbl) (mg : Str → Option Value) : Prop := ∀ d ∈ D, mg d.1 = some (.ref d.2.1)
theorem isAt_of {a : Addr} {v : Option Value} (h : isAt a v = true) : v = some (.ref a) := by
  unfold isAt at h
  split at h
  · rw [Nat.eq_of_beq_eq_true h]
  · cases h

theorem head_law {l : OpenLaw} {q : Program} {loose : List Str} {D : Tbl} {N n : Nat} {P : Pg} (k : l.wellSaid = true)
    (hl : LeftO l.row.prog q loose (fun s => xlAt q [] s && recOk (RowW.records l.row.toRowW) s && tblX D s) (tblF D) (tblA D) N)
    (hdef : defOf q l.row.name = some (lawDef q)) (hp : l.row.prog.theDef l.row.name = some ((lawDef q).1.params, (lawDef q).1.body, (lawDef q).1.scope)) (hk : kwWritten? (lawDef q).1.params.kwonlyargs (lawDef q).1.params.kw_defaults = some (lawDef q).2)
    (hwr : (!l.row.writes || l.row.records.isEmpty) = true) (ok : (chainsOk q && opensWell l.row.prog && (frees l.row.toRowW && l.row.within.isEmpty)) = true) (hb : l.row.prog.bare) (hw : l.row.toRowW.promised)
    (hm : l.most = some 63) (hbd : l.bound = none) (hfree : freeOk q loose = true) (hfn : ∀ f fn, P.fn f = some fn → DefIs q f fn) (hdn : (lawDef q).1.name = ("law" : Str)) (hN : n ≤ 200)
    (hgl : ∀ (w : World) (mean : ExcName → Option Value) (mg mb : Str → Option Value) (h : Heap) (os : OsState), tblXP D mg → tblP D w h → Top q (looseW q loose) mean mg mb h → ∀ x a, P.glob x = some a → ∃ v, mg x = some v ∧ ∀ w' H, St ⟨l.prog, w, h, os, mg, mb⟩ w' H → VR ⟨l.prog, w, h, os, mg, mb⟩ w' a v)
    (hrun : ∀ ns : List Int, ns.length ≤ 63 → ∃ H', callP P n ("law" : Str) [.lst (ns.map .int)] [] = some (.ok (.bool true), H')) : l.Holds :=
  holds_law k fun said => holds_open (q := q) (loose := loose) (XP := fun mg h => XL q [] mg h ∧ tblXP D mg) (YP := tblP D) (N := N) hl (fun w s e d hd => (List.map_inj_left.mp e) d hd) (fun w h h' y hk d hd => hk _ _ (y d hd))
    (fun s e => ⟨xl_of s (Bool.and_eq_true_iff.mp (Bool.and_eq_true_iff.mp e).1).1, fun d hd => isAt_of (List.all_eq_true.mp (Bool.and_eq_true_iff.mp e).2 d hd)⟩) (fun mg h h' x hk => ⟨XL.keeps mg h h' x.1 hk, x.2⟩) hdef hp hk
    (fun s e => recFacts_of (Bool.and_eq_true_iff.mp (Bool.and_eq_true_iff.mp e).1).2) hwr said ok hb hw (walk_law hm hbd hfree hfn hdn hN (fun w mean mg mb h os x y T => hgl w mean mg mb h os x.2 y T) hrun)

noncomputable def dObj (es : List (Str × Tok × Str × Tok)) (n : Nat) (P : Params) : Obj := { cls := .type "dict", data := .dict (es.map fun e => (⟨PyData.keyHash P e.1, .str e.1 e.2.1, .str e.2.2.1 e.2.2.2⟩ : DictEntry)).toArray n }
noncomputable def tObj (es : List (Str × Tok)) (P : Params) : Obj := { cls := .type "tuple", data := .seq (es.map fun e => Value.str e.1 e.2).toArray }
theorem strs_vrs {cx : Cx} {w : Wl} : ∀ es : List (Str × Tok), VRs cx w (es.map fun e => .str e.1) (es.map fun e => Value.str e.1 e.2)
  | [] => .nil
  | e :: r => .cons .str (strs_vrs r)
abbrev Gl (cx : Cx) (x : Str) (a : AV) : Prop := ∃ v, cx.mg x = some v ∧ ∀ w H, St cx w H → VR cx w a v
theorem gl_tup {cx : Cx} {D : Tbl} {x : Str} {a : Addr} {es : List (Str × Tok)} (X : tblXP D cx.mg) (Y : tblP D cx.w cx.h₀) (hd : (x, a, tObj es) ∈ D) (hl : decide (es.length < 100) = true) : Gl cx x (.tup (es.map fun e => .str e.1)) :=
  ⟨.ref a, X _ hd, fun w H S => .tup (n := 0) (S.base _ _ (Y _ hd)).1 (S.base _ _ (Y _ hd)).2 (by rw [List.length_map]; exact Nat.le_trans (Nat.le_of_lt (of_decide_eq_true hl)) (by decide)) (strs_vrs es)⟩
theorem gl_int {cx : Cx} {h : Heap} {q : Program} {loose : List Str} {mean : ExcName → Option Value} {x : Str} {i : Int} (T : Top q loose mean cx.mg cx.mb h) (hv : valOf q x = some (.int i)) : Gl cx x (.int i) := by
  obtain ⟨v, h1, h2⟩ := T.const x _ hv
  have h3 := h2 h
  cases h3
  exact ⟨_, h1, fun u_ u_ u_ => .int⟩
theorem pairs_str {prog : Program} {w : World} : ∀ es : List (Str × Tok × Str × Tok), Pairs (strKind prog w) (es.map fun e => (⟨PyData.keyHash w.params e.1, .str e.1 e.2.1, .str e.2.2.1 e.2.2.2⟩ : DictEntry)) (es.map fun e => (e.1, Value.str e.2.2.1 e.2.2.2))
  | [] => .nil
  | e :: r => .cons (strKind_is prog w e.1 e.2.1) rfl (pairs_str r)
theorem strs_of : ∀ es : List (Str × Tok × Str × Tok), StrVs (es.map fun e => e.2.2.1) (es.map fun e => Value.str e.2.2.1 e.2.2.2)
  | [] => rfl
  | e :: r => ⟨_, _, rfl, strs_of r⟩
theorem gl_dict {cx : Cx} {D : Tbl} {x : Str} {a : Addr} {es : List (Str × Tok × Str × Tok)} {n : Nat} (X : tblXP D cx.mg) (Y : tblP D cx.w cx.h₀) (hd : (x, a, dObj es n) ∈ D) (hn : (es.map (·.1)).Nodup) : Gl cx x (.cdict (es.map fun e => (e.1, e.2.2.1))) := by
  refine ⟨_, X _ hd, fun w H S => ⟨a, es.map fun e => (e.1, Value.str e.2.2.1 e.2.2.2), rfl, ⟨_, _, _, (S.base _ _ (Y _ hd)).1, ⟨rfl, rfl, rfl⟩, rfl, fun e he => ?_, ?_, ?_⟩, (S.base _ _ (Y _ hd)).2, ?_, ?_⟩⟩
  · rw [List.mem_toArray, List.mem_map] at he
    obtain ⟨e', _, rfl⟩ := he
    exact ⟨e'.1, strKind_is _ _ _ _, rfl⟩
  · rw [List.toList_toArray]; exact pairs_str es
  · rw [List.map_map]; exact hn
  · rw [List.map_map, List.map_map]; rfl
  · rw [List.map_map, List.map_map]; exact strs_of es
end Mine


set_option autoImplicit false
set_option linter.unusedVariables false
namespace Mine
open PySem PyProof.Rows

noncomputable def Rn {α : Type} (m : M α) (H : AHeap) (Q : α → AHeap → Prop) : Prop := ∃ a H', m H = some (.ok a, H') ∧ Q a H'
noncomputable def Fl (I : Loc → AHeap → Prop) (Q : AV → AHeap → Prop) : Res → AHeap → Prop
  | .next σ, H => I σ H
  | .ret v, H => Q v H

section
variable {α β : Type} {m : M α} {f : α → M β} {H H1 : AHeap} {a : α} {Q : β → AHeap → Prop} {R R' : α → AHeap → Prop}
theorem Rn.bind (h : Rn m H fun a H1 => Rn (f a) H1 Q) : Rn (m >>= f) H Q := by
  obtain ⟨a, H1, h1, b, H2, h2, q⟩ := h
  exact ⟨b, H2, bind_of h1 h2, q⟩
theorem Rn.pure (h : R a H) : Rn (Pure.pure a : M α) H R := ⟨a, H, rfl, h⟩
theorem Rn.mono (h : Rn m H R) (k : ∀ a H', R a H' → R' a H') : Rn m H R' := let ⟨a, H', e, q⟩ := h; ⟨a, H', e, k _ _ q⟩
theorem Rn.eq (e : m = Pure.pure a) (h : R a H) : Rn m H R := by rw [e]; exact .pure h
theorem Rn.of (e : m H = some (.ok a, H1)) (h : R a H1) : Rn m H R := ⟨a, H1, e, h⟩
theorem Rn.bof (e : m H = some (.ok a, H1)) (h : Rn (f a) H1 Q) : Rn (m >>= f) H Q := .bind (.of e h)
theorem Rn.then (h : Rn m H R) (k : ∀ a H1, R a H1 → Rn (f a) H1 Q) : Rn (m >>= f) H Q := .bind (h.mono k)
end

theorem listAt_is {H : AHeap} {l : Nat} {xs : List AV} (h : H[l]? = some (.list xs)) : listAt l H = some (.ok xs, H) :=
  bind_of (a := .list xs) (H1 := H) (by unfold objAt; rw [h]) rfl
theorem rdM_is {H : AHeap} {a : AV} {d : PyData} (h : rd H 8 a = some d) : rdM a H = some (.ok d, H) := by unfold rdM; rw [h]
theorem eq_is {H : AHeap} {a b : AV} {d e : PyData} (h1 : rd H 8 a = some d) (h2 : rd H 8 b = some e) : pCmp .Eq a b H = some (.ok (PyData.eqv d e), H) := bind_of (rdM_is h1) (bind_of (rdM_is h2) rfl)
theorem Rn.noX {α : Type} {m : M α} {H : AHeap} {Q : α → AHeap → Prop} (h : Rn m H Q) : Rn (noX m) H Q := let ⟨a, H', e, q⟩ := h; ⟨a, H', by unfold Mine.noX; rw [e], q⟩
theorem noX_pure {α : Type} {a : α} : noX (pure a) = pure a := rfl
theorem FUEL_is : FUEL = 100000 := rfl

theorem forR_go {src : Src} {body : AV → Loc → M Res} (g : Nat → Option AV) (N : Nat) (I : Nat → Loc → AHeap → Prop) {Q : Res → AHeap → Prop}
    (hN : g N = none) (hg : ∀ i σ H, i ≤ N → I i σ H → src.get i H = some (.ok (g i), H))
    (hs : ∀ i σ H, i < N → I i σ H → ∃ a, g i = some a ∧ Rn (body a σ) H (Fl (I (i + 1)) fun v H' => Q (.ret v) H')) (he : ∀ σ H, I N σ H → Q (.next σ) H) :
    ∀ (fuel i : Nat) (σ : Loc) (H : AHeap), i ≤ N → N < i + fuel → I i σ H → Rn (forLoop src body fuel i σ) H Q := by
  intro fuel
  induction fuel with
  | zero => intro i σ H h1 h2; exact absurd h2 (Nat.not_lt.mpr h1)
  | succ f ih =>
    intro i σ H h1 hf h
    refine Rn.bof (hg i σ H h1 h) ?_
    rcases Nat.eq_or_lt_of_le h1 with e | hi
    · subst e
      rw [hN]
      exact .pure (he _ _ h)
    · obtain ⟨a, ha, hr⟩ := hs i σ H hi h
      rw [ha]
      refine .then hr fun r H1 q => ?_
      cases r with
      | next σ' => exact ih (i + 1) σ' H1 hi (Nat.succ_add_eq_add_succ i f ▸ hf) q
      | ret v => exact .pure q
theorem forR {src : Src} {body : AV → Loc → M Res} {σ : Loc} {H : AHeap} (g : Nat → Option AV) (N : Nat) (I : Nat → Loc → AHeap → Prop) {Q : Res → AHeap → Prop} (hF : N < 100000)
    (hN : g N = none) (hg : ∀ i σ H, i ≤ N → I i σ H → src.get i H = some (.ok (g i), H)) (h0 : I 0 σ H)
    (hs : ∀ i σ H, i < N → I i σ H → ∃ a, g i = some a ∧ Rn (body a σ) H (Fl (I (i + 1)) fun v H' => Q (.ret v) H')) (he : ∀ σ H, I N σ H → Q (.next σ) H) :
    Rn (forLoop src body FUEL 0 σ) H Q := forR_go g N I hN hg hs he FUEL 0 σ H (Nat.zero_le _) (by rw [FUEL_is, Nat.zero_add]; exact hF) h0

theorem forI {xs : List AV} {body : AV → Loc → M Res} {σ : Loc} {H : AHeap} (I : Nat → Loc → AHeap → Prop) {Q : Res → AHeap → Prop} (hF : xs.length < 100000) (h0 : I 0 σ H)
    (hs : ∀ i a σ H, xs[i]? = some a → I i σ H → Rn (body a σ) H (Fl (I (i + 1)) fun v H' => Q (.ret v) H')) (he : ∀ σ H, I xs.length σ H → Q (.next σ) H) :
    Rn (forLoop (.items xs) body FUEL 0 σ) H Q :=
  forR (fun i => xs[i]?) xs.length I hF (List.getElem?_eq_none (Nat.le_refl _)) (fun u_ u_ u_ u_ u_ => rfl) h0 (fun i σ H hi h => ⟨xs[i], List.getElem?_eq_getElem hi, hs i _ σ H (List.getElem?_eq_getElem hi) h⟩) he
theorem forA {l : Nat} {xs : List AV} {body : AV → Loc → M Res} {σ : Loc} {H : AHeap} (I : Nat → Loc → AHeap → Prop) {Q : Res → AHeap → Prop} (hF : xs.length < 100000) (h0 : I 0 σ H)
    (hl : ∀ i σ H, I i σ H → H[l]? = some (.list xs))
    (hs : ∀ i a σ H, xs[i]? = some a → I i σ H → Rn (body a σ) H (Fl (I (i + 1)) fun v H' => Q (.ret v) H')) (he : ∀ σ H, I xs.length σ H → Q (.next σ) H) :
    Rn (forLoop (.at l) body FUEL 0 σ) H Q :=
  forR (fun i => xs[i]?) xs.length I hF (List.getElem?_eq_none (Nat.le_refl _)) (fun i σ H u_ h => bind_of (listAt_is (hl i σ H h)) rfl) h0
    (fun i σ H hi h => ⟨xs[i], List.getElem?_eq_getElem hi, hs i _ σ H (List.getElem?_eq_getElem hi) h⟩) he
theorem forE {xs : List AV} {body : AV → Loc → M Res} {σ : Loc} {H : AHeap} (I : Nat → Loc → AHeap → Prop) {Q : Res → AHeap → Prop} (hF : xs.length < 100000) (h0 : I 0 σ H)
    (hs : ∀ i a σ H, xs[i]? = some a → I i σ H → Rn (body (.tup [.int i, a]) σ) H (Fl (I (i + 1)) fun v H' => Q (.ret v) H')) (he : ∀ σ H, I xs.length σ H → Q (.next σ) H) :
    Rn (forLoop (.enum (.items xs)) body FUEL 0 σ) H Q :=
  forR (fun i => (xs[i]?).map fun v => .tup [.int i, v]) xs.length I hF (by simp) (fun u_ u_ u_ u_ u_ => rfl) h0
    (fun i σ H hi h => ⟨_, by rw [List.getElem?_eq_getElem hi]; rfl, hs i _ σ H (List.getElem?_eq_getElem hi) h⟩) he

theorem whR_go {test : Loc → M Bool} {body : Loc → M Res} (I : Nat → Loc → AHeap → Prop) {Q : Res → AHeap → Prop}
    (hs : ∀ n σ H, I n σ H → Rn (test σ) H fun b H1 => (b = false ∧ Q (.next σ) H1) ∨ (b = true ∧ Rn (body σ) H1 (Fl (fun σ' H' => ∃ m, m < n ∧ I m σ' H') fun v H' => Q (.ret v) H'))) :
    ∀ (fuel n : Nat) (σ : Loc) (H : AHeap), n < fuel → I n σ H → Rn (whileLoop test body fuel σ) H Q := by
  intro fuel
  induction fuel with
  | zero => intro n σ H hf; exact absurd hf (Nat.not_lt_zero _)
  | succ f ih =>
    intro n σ H hf h
    refine Rn.then (hs n σ H h) fun b H1 q => ?_
    rcases q with ⟨rfl, q⟩ | ⟨rfl, q⟩
    · exact .pure q
    · refine .then q fun r H2 q => ?_
      cases r with
      | next σ' =>
        obtain ⟨m, hm, hI⟩ := q
        exact ih m σ' H2 (Nat.lt_of_lt_of_le hm (Nat.le_of_lt_succ hf)) hI
      | ret v => exact .pure q
theorem whR {test : Loc → M Bool} {body : Loc → M Res} {σ : Loc} {H : AHeap} (n : Nat) (I : Nat → Loc → AHeap → Prop) {Q : Res → AHeap → Prop} (hF : n < 100000) (h0 : I n σ H)
    (hs : ∀ n σ H, I n σ H → Rn (test σ) H fun b H1 => (b = false ∧ Q (.next σ) H1) ∨ (b = true ∧ Rn (body σ) H1 (Fl (fun σ' H' => ∃ m, m < n ∧ I m σ' H') fun v H' => Q (.ret v) H'))) :
    Rn (whileLoop test body FUEL σ) H Q := whR_go I hs FUEL n σ H (by rw [FUEL_is]; exact hF) h0

theorem LIMis : LIM = 1048576 := by decide
theorem compM_go {xs : List AV} {body : AV → M (Option AV)} {g : AV → AV} (h : ∀ a ∈ xs, body a = pure (some (g a))) :
    ∀ (fuel i : Nat) (acc : List AV), i ≤ xs.length → xs.length < i + fuel → acc.length = i → xs.length < LIM → compLoop (.items xs) body fuel i acc = pure (acc ++ (xs.drop i).map g) := by
  intro fuel
  induction fuel with
  | zero => intro i acc h1 h2; exact absurd h2 (Nat.not_lt.mpr h1)
  | succ f ih =>
    intro i acc h1 hf ha hL
    show (do let r ← (pure xs[i]? : M _); _) = _
    rcases Nat.eq_or_lt_of_le h1 with e | hi
    · rw [List.getElem?_eq_none (Nat.le_of_eq e.symm), pure_bind, List.drop_of_length_le (Nat.le_of_eq e.symm), List.map_nil, List.append_nil]
    · rw [List.getElem?_eq_getElem hi, pure_bind]
      show (do let r ← noX (body xs[i]); _) = _
      rw [h _ (List.getElem_mem hi), noX_pure, pure_bind]
      show (if acc.length < LIM then _ else _) = _
      rw [if_pos (Nat.lt_trans (ha ▸ hi) hL), ih (i + 1) _ hi (Nat.succ_add_eq_add_succ i f ▸ hf) (by rw [List.length_append, ha]; rfl) hL, List.drop_eq_getElem_cons hi, List.map_cons, List.append_assoc]
      rfl
theorem ltLIM {n : Nat} (h : n < 100000) : n < LIM := Nat.lt_trans h (by rw [LIMis]; decide)
theorem compM {xs : List AV} {body : AV → M (Option AV)} (g : AV → AV) (hl : xs.length < 100000) (h : ∀ a ∈ xs, body a = pure (some (g a))) : compLoop (.items xs) body FUEL 0 [] = pure (xs.map g) :=
  compM_go h FUEL 0 [] (Nat.zero_le _) (by rw [FUEL_is, Nat.zero_add]; exact hl) rfl (ltLIM hl)

theorem callRn {P : Pg} {n : Nat} {f : Str} {as : List AV} {σ : Loc} {H : AHeap} {Q : AV → AHeap → Prop} (hf : P.fn f = some (fnD P f)) (hl : as.length = (fnD P f).params.length) (hσ : as.map some ++ List.replicate ((fnD P f).names.length - as.length) none = σ)
    (h : Rn (tl P (callP P n) f [] 0 40 σ) H (Fl (fun u_ H' => Q .none H') Q)) : Rn (callP P (n + 1) f as) H Q := by
  obtain ⟨r, H', h1, q⟩ := h
  cases r with
  | next σ' => exact ⟨_, _, callN hf hl hσ h1, q⟩
  | ret a => exact ⟨_, _, callR hf hl hσ h1, q⟩
theorem srcOf_lst {xs : List AV} : srcOf (.lst xs) = pure (.items xs) := rfl
theorem listOf_lst {xs : List AV} : listOf (.lst xs) = pure xs := rfl
theorem small62_of {i : Int} (h : -1000000 ≤ i ∧ i ≤ 1000000) : small62 i = true := by unfold small62; simp; (first | lia | omega)
theorem srcOf_range {a b : Int} (ha : -1000000 ≤ a ∧ a ≤ 1000000) (hb : -1000000 ≤ b ∧ b ≤ 1000000) : srcOf (.range a b) = pure (.items (rangeL a b)) := by
  show (if small62 a && small62 b then pure (Src.items (rangeL a b)) else stuck) = _
  rw [small62_of ha, small62_of hb]; rfl
theorem e_range1 {mu : Bool} {n : Int} : pBI mu .range [.int n] = pure (.range 0 n) := rfl
theorem e_range2 {mu : Bool} {a n : Int} : pBI mu .range [.int a, .int n] = pure (.range a n) := rfl
theorem rangeL_length (a b : Int) : (rangeL a b).length = (b - a).toNat := by unfold rangeL; simp
theorem rangeL_at {a b : Int} {i : Nat} {x : AV} (h : (rangeL a b)[i]? = some x) : x = .int (a + i) ∧ i < (b - a).toNat := by
  unfold rangeL at h
  rw [List.getElem?_map] at h
  cases h1 : (List.range (b - a).toNat)[i]? with
  | none => rw [h1] at h; cases h
  | some j =>
    rw [h1] at h; cases h
    have := List.getElem?_eq_some_iff.mp h1
    obtain ⟨h2, h3⟩ := this
    rw [List.length_range] at h2
    rw [List.getElem_range] at h3
    subst h3; exact ⟨rfl, h2⟩
theorem mem_rangeL {a b : Int} {x : AV} (h : x ∈ rangeL a b) : ∃ i : Nat, x = .int (a + i) ∧ i < (b - a).toNat := by
  obtain ⟨i, hi⟩ := List.mem_iff_getElem?.mp h
  exact ⟨i, rangeL_at hi⟩
theorem e_isnoneI {i : Int} : pCmp .IsNot (.int i) .none = pure true := rfl
theorem listOf_loc {H : AHeap} {l : Nat} {xs : List AV} (h : H[l]? = some (.list xs)) : listOf (.loc l) H = some (.ok xs, H) := listAt_is h
theorem seqOf_loc {H : AHeap} {l : Nat} {xs : List AV} (h : H[l]? = some (.list xs)) : seqOf (.loc l) H = some (.ok xs, H) := listAt_is h
theorem srcOf_loc {H : AHeap} {l : Nat} {xs : List AV} (h : H[l]? = some (.list xs)) : srcOf (.loc l) H = some (.ok (.at l), H) := bind_of (listAt_is h) rfl
theorem len_loc {mu : Bool} {H : AHeap} {l : Nat} {xs : List AV} (h : H[l]? = some (.list xs)) : pBI mu .len [.loc l] H = some (.ok (.int xs.length), H) :=
  bind_of (seqOf_loc h) rfl
theorem idx_nat {k n : Nat} (h : k < n) : idx (k : Int) n = some k := by
  unfold idx
  rw [if_pos (by (first | lia | omega)), if_pos (by (first | lia | omega))]; simp
theorem e_itT {xs : List AV} {k : Int} {a : AV} (h : ((idx k xs.length).bind fun j => xs[j]?) = some a) : pItem (.tup xs) (.int k) = pure a := by
  funext H
  show (ofOpt ((idx k xs.length).bind fun j => xs[j]?) : M AV) H = _
  rw [h]; rfl
theorem item_loc {H : AHeap} {l k : Nat} {xs : List AV} {a : AV} (h : H[l]? = some (.list xs)) (hk : xs[k]? = some a) : pItem (.loc l) (.int k) H = some (.ok a, H) := by
  refine bind_of (seqOf_loc h) ?_
  rw [idx_nat (List.getElem?_eq_some_iff.mp hk).1]
  show (ofOpt xs[k]? : M AV) H = _
  rw [hk]; rfl
theorem meth_loc {H : AHeap} {l : Nat} {xs vs : List AV} {m : Str} {k : Mt} {r : Except Str AV × AHeap} (hm : mtOf m = some k) (h : H[l]? = some (.list xs)) (e : methL l xs vs k H = some r) : pMeth m (.loc l) vs H = some r := by
  unfold pMeth
  rw [hm]
  exact bind_of (listAt_is h) e
theorem append_loc {H : AHeap} {l : Nat} {xs : List AV} {v : AV} (h : H[l]? = some (.list xs)) (hl : xs.length < LIM) : pMeth "append" (.loc l) [v] H = some (.ok .none, H.set l (.list (xs ++ [v]))) := meth_loc (k := .append) rfl h (by
  show (if xs.length < LIM then _ else _ : M AV) H = _
  rw [if_pos hl]; rfl)
theorem popAt_is {H : AHeap} {l k : Nat} {xs : List AV} {v : AV} (hk : xs[k]? = some v) : popAt l xs k H = some (.ok v, H.set l (.list (xs.eraseIdx k))) := by unfold popAt; rw [hk]; rfl
noncomputable def InR (m : Int) (x : AV) : Prop := ∃ i : Int, x = .int i ∧ 0 ≤ i ∧ i < m
theorem mapM_ok {α β : Type} {f : α → Option β} : ∀ {xs : List α}, (∀ x ∈ xs, ∃ y, f x = some y) → ∃ ys, xs.mapM f = some ys ∧ ys.length = xs.length
  | [], _ => ⟨[], by simp, rfl⟩
  | x :: r, h => by
    obtain ⟨y, hy⟩ := h x (List.mem_cons_self ..)
    obtain ⟨ys, h1, h2⟩ := mapM_ok (xs := r) fun z hz => h z (List.mem_cons_of_mem _ hz)
    exact ⟨y :: ys, by simp [hy, h1], by simp [h2]⟩
theorem eqv_nil (ds : List PyData) : PyData.eqv (.list ds) (.list []) = ds.isEmpty := by cases ds <;> rfl
theorem rd_nil {H : AHeap} {n : Nat} : rd H (n + 1) (.lst []) = some (.list []) := rfl
theorem rd_loc {H : AHeap} {l n : Nat} {xs : List AV} {ds : List PyData} (h : H[l]? = some (.list xs)) (h1 : xs.mapM (rd H n) = some ds) : rd H (n + 1) (.loc l) = some (.list ds) := by
  show (match H[l]? with | some (.list xs) => (xs.mapM (rd H n)).map PyData.list | _ => none) = _
  rw [h]
  show Option.map _ (xs.mapM (rd H n)) = _
  rw [h1]; rfl
theorem eq_nil_loc {H : AHeap} {l : Nat} {xs : List AV} (h : H[l]? = some (.list xs)) (hx : ∀ x ∈ xs, ∃ d, rd H 7 x = some d) : pCmp .Eq (.loc l) (.lst []) H = some (.ok xs.isEmpty, H) := by
  obtain ⟨ds, h1, h2⟩ := mapM_ok hx
  have e1 : rd H 8 (.loc l) = some (.list ds) := rd_loc h h1
  rw [eq_is e1 rd_nil, eqv_nil]
  have : ds.isEmpty = xs.isEmpty := by cases ds <;> cases xs <;> simp_all
  rw [this]
theorem rd_int {H : AHeap} {n : Nat} {i : Int} : rd H n (.int i) = some (.int i) := by cases n <;> rfl
theorem get2b {H : AHeap} {a b : AO} : (H ++ [a, b])[H.length + 1]? = some b := by simp
theorem newT {H : AHeap} {xs : List AV} (h : xs.length ≤ LIM) : newL true xs H = some (.ok (.loc H.length), H ++ [.list xs]) := by unfold newL; rw [if_pos h]; rfl
theorem mapM_inv {α β : Type} {f : α → Option β} {x : α} {xs : List α} {ys : List β} (h : (x :: xs).mapM f = some ys) : ∃ y r, f x = some y ∧ xs.mapM f = some r ∧ ys = y :: r := by
  simp only [List.mapM_cons, Option.bind_eq_bind, Option.bind_eq_some_iff, Option.pure_def, Option.some.injEq] at h
  obtain ⟨y, h1, r, h2, h3⟩ := h
  exact ⟨y, r, h1, h2, h3.symm⟩
theorem mapM_eqv {f : AV → Option PyData} (hf : ∀ a d, f a = some d → PyData.eqv d d = true) {xs : List AV} : ∀ {ds : List PyData}, xs.mapM f = some ds → PyData.eqvAll ds ds = true := by
  induction xs with
  | nil => intro ds h; cases h; rfl
  | cons x r ih =>
    intro ds h
    obtain ⟨y, r', h1, h2, rfl⟩ := mapM_inv h
    show (PyData.eqv y y && PyData.eqvAll r' r') = true
    rw [hf _ _ h1, ih h2]; rfl
theorem str_eqv {x : Str} {d : PyData} (h : (if PyData.strOk x then some (PyData.str x) else none) = some d) : PyData.eqv d d = true := by
  obtain ⟨_, h⟩ := Option.ite_none_right_eq_some.mp h
  cases h
  exact beq_self_eq_true x
theorem list_eqv {f : AV → Option PyData} (hf : ∀ a d, f a = some d → PyData.eqv d d = true) {xs : List AV} {d : PyData} (h : (xs.mapM f).map PyData.list = some d) : PyData.eqv d d = true := by
  obtain ⟨ds, h1, rfl⟩ := Option.map_eq_some_iff.mp h
  exact mapM_eqv hf h1
theorem rd_eqv {H : AHeap} {n : Nat} : ∀ {a : AV} {d : PyData}, rd H n a = some d → PyData.eqv d d = true := by
  induction n with
  | zero =>
    intro a d h
    cases a with
    | none => cases h; rfl
    | bool b => cases h; exact beq_self_eq_true b
    | int i => cases h; exact beq_self_eq_true i
    | str x => exact str_eqv h
    | _ => exact no_some h
  | succ n ih =>
    intro a d h
    cases a with
    | none => cases h; rfl
    | bool b => cases h; exact beq_self_eq_true b
    | int i => cases h; exact beq_self_eq_true i
    | str x => exact str_eqv h
    | tup xs =>
      obtain ⟨ds, h1, rfl⟩ := Option.map_eq_some_iff.mp (show (xs.mapM (rd H n)).map PyData.tuple = some d from h)
      exact mapM_eqv (fun a d => ih) h1
    | lst xs => exact list_eqv (fun a d => ih) h
    | loc l =>
      have h : (match H[l]? with | some (.list xs) => (xs.mapM (rd H n)).map PyData.list | _ => none) = some d := h
      cases hl : H[l]? with
      | none => rw [hl] at h; exact no_some h
      | some o =>
        rw [hl] at h
        cases o with
        | dict es => exact no_some h
        | list xs => exact list_eqv (fun a d => ih) h
    | _ => exact no_some h
theorem eq_same {H : AHeap} {a b : AV} {d : PyData} (h1 : rd H 8 a = some d) (h2 : rd H 8 b = some d) : pCmp .Eq a b H = some (.ok true, H) := by
  rw [eq_is h1 h2, rd_eqv h1]
theorem Rn.each0 {H : AHeap} {Q : List AV → AHeap → Prop} (h : Q [] H) : Rn (eachM []) H Q := .pure h
theorem Rn.eachC {m : M AV} {r : List (M AV)} {H : AHeap} {Q : List AV → AHeap → Prop} (h : Rn m H fun a H1 => Rn (eachM r) H1 fun vs H2 => Q (a :: vs) H2) : Rn (eachM (m :: r)) H Q :=
  .bind (h.mono fun a H1 q => .bind (q.mono fun vs H2 q => .pure q))
theorem Rn.eachE {m : M AV} {r : List (M AV)} {H H1 : AHeap} {a : AV} {Q : List AV → AHeap → Prop} (e : m H = some (.ok a, H1)) (h : Rn (eachM r) H1 fun vs H2 => Q (a :: vs) H2) : Rn (eachM (m :: r)) H Q := .eachC (.of e h)
theorem Rn.eachP {a : AV} {r : List (M AV)} {H : AHeap} {Q : List AV → AHeap → Prop} (h : Rn (eachM r) H fun vs H2 => Q (a :: vs) H2) : Rn (eachM (Pure.pure a :: r)) H Q := .eachC (.pure h)
theorem Rn.val {α : Type} {m : M α} {H : AHeap} {a : α} (h : Rn m H fun b H' => b = a ∧ H' = H) : m H = some (.ok a, H) := by
  obtain ⟨b, H', e, rfl, rfl⟩ := h
  exact e
theorem m_tup {mu : Bool} {x y : AV} {xs ys : List AV} (h : (x :: xs).length + (y :: ys).length ≤ LIM) : pBin mu .Add (.tup (x :: xs)) (.tup (y :: ys)) = pure (.tup ((x :: xs) ++ (y :: ys))) := by
  show (if (x :: xs).isEmpty || (y :: ys).isEmpty || decide (LIM < (x :: xs).length + (y :: ys).length) then stuck else pure (.tup ((x :: xs) ++ (y :: ys))) : M AV) = _
  rw [decide_eq_false (Nat.not_lt.mpr h)]; rfl
theorem e_eqs {a b : Str} (ha : PyData.strOk a = true) (hb : PyData.strOk b = true) : pCmp .Eq (.str a) (.str b) = pure (decide (a = b)) := by
  funext H
  have q : ∀ {x : Str}, PyData.strOk x = true → rd H 8 (.str x) = some (.str x) := fun h => if_pos h
  rw [eq_is (q ha) (q hb)]
  show some (Except.ok (a == b), H) = some (Except.ok (decide (a = b)), H)
  by_cases h : a = b
  · subst h; simp
  · have : (a == b) = false := by simpa using h
    rw [this, decide_eq_false h]
theorem pop_last {H : AHeap} {l : Nat} {xs : List AV} {v : AV} (h : H[l]? = some (.list (xs ++ [v]))) : pMeth "pop" (.loc l) [] H = some (.ok v, H.set l (.list xs)) := meth_loc (k := .pop) rfl h (by
  have e : (xs ++ [v]).eraseIdx xs.length = xs := by rw [List.eraseIdx_append_of_length_le (Nat.le_refl _), Nat.sub_self]; exact List.append_nil _
  have := popAt_is (H := H) (l := l) (xs := xs ++ [v]) (k := xs.length) (v := v) List.getElem?_concat_length
  rw [e] at this
  show popAt l (xs ++ [v]) ((xs ++ [v]).length - 1) H = _
  rw [List.length_append]
  exact this)
theorem e_it0 {x : AV} {xs : List AV} : pItem (.tup (x :: xs)) (.int 0) = pure x := e_item_tup (k := 0) rfl
end Mine


set_option autoImplicit false
set_option linter.unusedVariables false
namespace Mine
open PySem PyProof.Rows

structure Fc (H₀ H : AHeap) (ls : List Nat) (os : List AO) : Prop where
  all : ∀ (j l : Nat) (o : AO), ls[j]? = some l → os[j]? = some o → H[l]? = some o
  nd : ls.Nodup
  len : H₀.length ≤ H.length
  out : ∀ l : Nat, l < H₀.length → l ∉ ls → H[l]? = H₀[l]?

theorem nd2 {l : List Nat} (h : l.Nodup) {a b : Nat} {i j : Nat} (ha : l[i]? = some a) (hb : l[j]? = some b) (hij : i ≠ j) : a ≠ b := by
  intro e
  subst e
  have h1 := (List.getElem?_eq_some_iff.mp ha)
  have h2 := (List.getElem?_eq_some_iff.mp hb)
  obtain ⟨p1, q1⟩ := h1
  obtain ⟨p2, q2⟩ := h2
  rcases Nat.lt_or_gt_of_ne hij with h' | h'
  · exact List.pairwise_iff_getElem.mp h i j p1 p2 h' (q1.trans q2.symm)
  · exact List.pairwise_iff_getElem.mp h j i p2 p1 h' (q2.trans q1.symm)

namespace Fc
variable {H₀ H : AHeap} {ls : List Nat} {os os' : List AO}
theorem upd (F : Fc H₀ H ls os) (j : Nat) {l : Nat} (x : AO) (hj : ls[j]? = some l) (hs : ∃ o, os[j]? = some o) (hx : os' = os.set j x) : Fc H₀ (H.set l x) ls os' where
  all := fun i m o hi ho => by
    subst hx
    by_cases hij : i = j
    · subst hij
      rw [hj] at hi; cases hi
      obtain ⟨o', ho'⟩ := hs
      have hl := (List.getElem?_eq_some_iff.mp (F.all i l o' hj ho')).1
      rw [List.getElem?_set_self (List.getElem?_eq_some_iff.mp ho').1] at ho
      rw [List.getElem?_set_self hl]; exact ho
    · rw [List.getElem?_set_ne (fun e => hij e.symm)] at ho
      rw [List.getElem?_set_ne (nd2 F.nd hj hi (fun e => hij e.symm))]
      exact F.all i m o hi ho
  nd := F.nd
  len := by rw [List.length_set]; exact F.len
  out := fun m h1 h2 => by
    have hne : l ≠ m := fun e => h2 (e ▸ List.mem_of_getElem? hj)
    rw [List.getElem?_set_ne hne]
    exact F.out m h1 h2
theorem lt (F : Fc H₀ H ls os) (hlen : ls.length = os.length) {l : Nat} (hl : l ∈ ls) : l < H.length := by
  obtain ⟨j, hj⟩ := List.mem_iff_getElem?.mp hl
  have h1 := (List.getElem?_eq_some_iff.mp hj).1
  have := F.all j l os[j] hj (List.getElem?_eq_getElem (by omega))
  exact (List.getElem?_eq_some_iff.mp this).1
theorem more2 (F : Fc H₀ H ls os) (hlen : ls.length = os.length) (a b : AO) : Fc H₀ (H ++ [a] ++ [b]) (ls ++ [H.length, H.length + 1]) (os ++ [a, b]) where
  all := fun j l o hj ho => by
    rw [List.append_assoc]
    by_cases hjl : j < ls.length
    · rw [List.getElem?_append_left hjl] at hj
      rw [List.getElem?_append_left (by (first | lia | omega))] at ho
      have := F.all j l o hj ho
      rw [List.getElem?_append_left (List.getElem?_eq_some_iff.mp this).1]; exact this
    · rw [List.getElem?_append_right (by (first | lia | omega))] at hj ho
      rw [← hlen] at ho
      match hk : j - ls.length, hj, ho with
      | 0, hj, ho => simp at hj ho; subst hj; subst ho; simp
      | 1, hj, ho => simp at hj ho; subst hj; subst ho; simp
      | k + 2, hj, ho => simp at hj
  nd := by
    rw [List.nodup_append]
    refine ⟨F.nd, by simp, fun x hx y hy => ?_⟩
    have := F.lt hlen hx
    simp at hy
    (first | lia | omega)
  len := by have := F.len; simp; (first | lia | omega)
  out := fun l h1 h2 => by
    have h3 : l < H.length := Nat.lt_of_lt_of_le h1 F.len
    rw [List.append_assoc, List.getElem?_append_left h3]
    exact F.out l h1 fun h => h2 (List.mem_append_left _ h)
end Fc

theorem dictAt_is {H : AHeap} {l : Nat} {es : List (Str × AV)} (h : H[l]? = some (.dict es)) : dictAt l H = some (.ok es, H) :=
  bind_of (a := .dict es) (H1 := H) (by unfold objAt; rw [h]) rfl
theorem dItem {H : AHeap} {l : Nat} {es : List (Str × AV)} {k : Str} {v : AV} (h : H[l]? = some (.dict es)) (hk : look es k = some v) : pItem (.loc l) (.str k) H = some (.ok v, H) :=
  bind_of (dictAt_is h) (by rw [hk]; rfl)
theorem dStore {H : AHeap} {l : Nat} {es es' : List (Str × AV)} {k : Str} {v : AV} (h : H[l]? = some (.dict es)) (hl : decide (es.length < 100) = true) (hk : put es k v = es') : pStore (.loc l) (.str k) v H = some (.ok (), H.set l (.dict es')) :=
  bind_of (dictAt_is h) (by
    have hl := of_decide_eq_true hl
    rw [if_pos (by have := LIMis; (first | lia | omega)), hk]; rfl)
theorem lStore {H : AHeap} {l : Nat} {xs : List AV} {i : Nat} {v : AV} (h : H[l]? = some (.list xs)) (hi : i < xs.length) : pStore (.loc l) (.int i) v H = some (.ok (), H.set l (.list (xs.set i v))) :=
  bind_of (listAt_is h) (by rw [if_pos ⟨Int.natCast_nonneg _, Int.ofNat_lt.mpr hi⟩]; rfl)
theorem newDT {H : AHeap} {es : List (Str × AV)} : newD es H = some (.ok (.loc H.length), H ++ [.dict es]) := rfl

structure Cn where
  st : Nat
  lb : Nat
  lsp : Nat
  lh : Nat
  lr : Nat
  hd : Nat
  w : Nat
  kp : Nat
  kind : Str
  boxes : List AV
  head : AV
  mark : Int
  spare : List AV
  hs : List AV
  time : Int
  rows : List AV
  prog : List AV
  place : Int
  wv : AV
  deed : AV
  begun : Int
  next : Str
  own : AV
  seen : AV
  inside : AV
  walk : AV
  kept : List AV
  row : AV
namespace Cn
noncomputable def sD (c : Cn) : List (Str × AV) := [("kind", .str c.kind), ("boxes", .loc c.lb), ("head", c.head), ("mark", .int c.mark), ("spare", .loc c.lsp), ("hands", .loc c.lh), ("time", .int c.time), ("rows", .loc c.lr)]
noncomputable def hD (c : Cn) : List (Str × AV) := [("program", .tup c.prog), ("place", .int c.place), ("work", c.wv)]
noncomputable def wD (c : Cn) : List (Str × AV) := [("deed", c.deed), ("begun", .int c.begun), ("next", .str c.next), ("own", c.own), ("seen", c.seen), ("inside", c.inside), ("walk", c.walk), ("kept", .loc c.kp), ("row", c.row)]
noncomputable def ls (c : Cn) : List Nat := [c.st, c.lb, c.lsp, c.lh, c.lr, c.hd, c.kp, c.w]
noncomputable def os (c : Cn) : List AO := [.dict c.sD, .list c.boxes, .list c.spare, .list c.hs, .list c.rows, .dict c.hD, .list c.kept, .dict c.wD]
noncomputable def u_head (c : Cn) (v : AV) : Cn := { c with head := v }
noncomputable def u_mark (c : Cn) (v : Int) : Cn := { c with mark := v }
noncomputable def u_time (c : Cn) (v : Int) : Cn := { c with time := v }
noncomputable def u_place (c : Cn) (v : Int) : Cn := { c with place := v }
noncomputable def u_wv (c : Cn) (v : AV) : Cn := { c with wv := v }
noncomputable def u_next (c : Cn) (v : Str) : Cn := { c with next := v }
noncomputable def u_own (c : Cn) (v : AV) : Cn := { c with own := v }
noncomputable def u_seen (c : Cn) (v : AV) : Cn := { c with seen := v }
noncomputable def u_inside (c : Cn) (v : AV) : Cn := { c with inside := v }
noncomputable def u_walk (c : Cn) (v : AV) : Cn := { c with walk := v }
noncomputable def u_row (c : Cn) (v : AV) : Cn := { c with row := v }
noncomputable def u_boxes (c : Cn) (v : List AV) : Cn := { c with boxes := v }
noncomputable def u_spare (c : Cn) (v : List AV) : Cn := { c with spare := v }
noncomputable def u_rows (c : Cn) (v : List AV) : Cn := { c with rows := v }
noncomputable def u_kept (c : Cn) (v : List AV) : Cn := { c with kept := v }
end Cn
abbrev Foc (H₀ H : AHeap) (c : Cn) : Prop := Fc H₀ H c.ls c.os
namespace Foc
variable {H₀ H : AHeap} {c : Cn}
theorem s (F : Foc H₀ H c) : H[c.st]? = some (.dict c.sD) := F.all 0 _ _ rfl rfl
theorem b (F : Foc H₀ H c) : H[c.lb]? = some (.list c.boxes) := F.all 1 _ _ rfl rfl
theorem sp (F : Foc H₀ H c) : H[c.lsp]? = some (.list c.spare) := F.all 2 _ _ rfl rfl
theorem h (F : Foc H₀ H c) : H[c.lh]? = some (.list c.hs) := F.all 3 _ _ rfl rfl
theorem r (F : Foc H₀ H c) : H[c.lr]? = some (.list c.rows) := F.all 4 _ _ rfl rfl
theorem d (F : Foc H₀ H c) : H[c.hd]? = some (.dict c.hD) := F.all 5 _ _ rfl rfl
theorem w (F : Foc H₀ H c) : H[c.w]? = some (.dict c.wD) := F.all 7 _ _ rfl rfl
theorem k (F : Foc H₀ H c) : H[c.kp]? = some (.list c.kept) := F.all 6 _ _ rfl rfl
theorem gKind (F : Foc H₀ H c) : pItem (.loc c.st) (.str "kind") H = some (.ok (.str c.kind), H) := dItem F.s (by kernel_rfl)
theorem gBoxes (F : Foc H₀ H c) : pItem (.loc c.st) (.str "boxes") H = some (.ok (.loc c.lb), H) := dItem F.s (by kernel_rfl)
theorem gHead (F : Foc H₀ H c) : pItem (.loc c.st) (.str "head") H = some (.ok c.head, H) := dItem F.s (by kernel_rfl)
theorem gMark (F : Foc H₀ H c) : pItem (.loc c.st) (.str "mark") H = some (.ok (.int c.mark), H) := dItem F.s (by kernel_rfl)
theorem gSpare (F : Foc H₀ H c) : pItem (.loc c.st) (.str "spare") H = some (.ok (.loc c.lsp), H) := dItem F.s (by kernel_rfl)
theorem gHands (F : Foc H₀ H c) : pItem (.loc c.st) (.str "hands") H = some (.ok (.loc c.lh), H) := dItem F.s (by kernel_rfl)
theorem gTime (F : Foc H₀ H c) : pItem (.loc c.st) (.str "time") H = some (.ok (.int c.time), H) := dItem F.s (by kernel_rfl)
theorem gRows (F : Foc H₀ H c) : pItem (.loc c.st) (.str "rows") H = some (.ok (.loc c.lr), H) := dItem F.s (by kernel_rfl)
theorem gProg (F : Foc H₀ H c) : pItem (.loc c.hd) (.str "program") H = some (.ok (.tup c.prog), H) := dItem F.d (by kernel_rfl)
theorem gPlace (F : Foc H₀ H c) : pItem (.loc c.hd) (.str "place") H = some (.ok (.int c.place), H) := dItem F.d (by kernel_rfl)
theorem gWork (F : Foc H₀ H c) : pItem (.loc c.hd) (.str "work") H = some (.ok c.wv, H) := dItem F.d (by kernel_rfl)
theorem gDeed (F : Foc H₀ H c) : pItem (.loc c.w) (.str "deed") H = some (.ok c.deed, H) := dItem F.w (by kernel_rfl)
theorem gBegun (F : Foc H₀ H c) : pItem (.loc c.w) (.str "begun") H = some (.ok (.int c.begun), H) := dItem F.w (by kernel_rfl)
theorem gNext (F : Foc H₀ H c) : pItem (.loc c.w) (.str "next") H = some (.ok (.str c.next), H) := dItem F.w (by kernel_rfl)
theorem gOwn (F : Foc H₀ H c) : pItem (.loc c.w) (.str "own") H = some (.ok c.own, H) := dItem F.w (by kernel_rfl)
theorem gSeen (F : Foc H₀ H c) : pItem (.loc c.w) (.str "seen") H = some (.ok c.seen, H) := dItem F.w (by kernel_rfl)
theorem gInside (F : Foc H₀ H c) : pItem (.loc c.w) (.str "inside") H = some (.ok c.inside, H) := dItem F.w (by kernel_rfl)
theorem gWalk (F : Foc H₀ H c) : pItem (.loc c.w) (.str "walk") H = some (.ok c.walk, H) := dItem F.w (by kernel_rfl)
theorem gKept (F : Foc H₀ H c) : pItem (.loc c.w) (.str "kept") H = some (.ok (.loc c.kp), H) := dItem F.w (by kernel_rfl)
theorem gRow (F : Foc H₀ H c) : pItem (.loc c.w) (.str "row") H = some (.ok c.row, H) := dItem F.w (by kernel_rfl)
theorem wHead (F : Foc H₀ H c) (v : AV) : Rn (pStore (.loc c.st) (.str "head") v) H fun u_ H' => Foc H₀ H' (c.u_head v) := .of (dStore F.s (by kernel_rfl) (by kernel_rfl)) (F.upd 0 (.dict (c.u_head v).sD) rfl ⟨_, rfl⟩ rfl)
theorem wMark (F : Foc H₀ H c) (v : Int) : Rn (pStore (.loc c.st) (.str "mark") (.int v)) H fun u_ H' => Foc H₀ H' (c.u_mark v) := .of (dStore F.s (by kernel_rfl) (by kernel_rfl)) (F.upd 0 (.dict (c.u_mark v).sD) rfl ⟨_, rfl⟩ rfl)
theorem wTime (F : Foc H₀ H c) (v : Int) : Rn (pStore (.loc c.st) (.str "time") (.int v)) H fun u_ H' => Foc H₀ H' (c.u_time v) := .of (dStore F.s (by kernel_rfl) (by kernel_rfl)) (F.upd 0 (.dict (c.u_time v).sD) rfl ⟨_, rfl⟩ rfl)
theorem wPlace (F : Foc H₀ H c) (v : Int) : Rn (pStore (.loc c.hd) (.str "place") (.int v)) H fun u_ H' => Foc H₀ H' (c.u_place v) := .of (dStore F.d (by kernel_rfl) (by kernel_rfl)) (F.upd 5 (.dict (c.u_place v).hD) rfl ⟨_, rfl⟩ rfl)
theorem wWork (F : Foc H₀ H c) (v : AV) : Rn (pStore (.loc c.hd) (.str "work") v) H fun u_ H' => Foc H₀ H' (c.u_wv v) := .of (dStore F.d (by kernel_rfl) (by kernel_rfl)) (F.upd 5 (.dict (c.u_wv v).hD) rfl ⟨_, rfl⟩ rfl)
theorem wNext (F : Foc H₀ H c) (v : Str) : Rn (pStore (.loc c.w) (.str "next") (.str v)) H fun u_ H' => Foc H₀ H' (c.u_next v) := .of (dStore F.w (by kernel_rfl) (by kernel_rfl)) (F.upd 7 (.dict (c.u_next v).wD) rfl ⟨_, rfl⟩ rfl)
theorem wOwn (F : Foc H₀ H c) (v : AV) : Rn (pStore (.loc c.w) (.str "own") v) H fun u_ H' => Foc H₀ H' (c.u_own v) := .of (dStore F.w (by kernel_rfl) (by kernel_rfl)) (F.upd 7 (.dict (c.u_own v).wD) rfl ⟨_, rfl⟩ rfl)
theorem wSeen (F : Foc H₀ H c) (v : AV) : Rn (pStore (.loc c.w) (.str "seen") v) H fun u_ H' => Foc H₀ H' (c.u_seen v) := .of (dStore F.w (by kernel_rfl) (by kernel_rfl)) (F.upd 7 (.dict (c.u_seen v).wD) rfl ⟨_, rfl⟩ rfl)
theorem wInside (F : Foc H₀ H c) (v : AV) : Rn (pStore (.loc c.w) (.str "inside") v) H fun u_ H' => Foc H₀ H' (c.u_inside v) := .of (dStore F.w (by kernel_rfl) (by kernel_rfl)) (F.upd 7 (.dict (c.u_inside v).wD) rfl ⟨_, rfl⟩ rfl)
theorem wWalk (F : Foc H₀ H c) (v : AV) : Rn (pStore (.loc c.w) (.str "walk") v) H fun u_ H' => Foc H₀ H' (c.u_walk v) := .of (dStore F.w (by kernel_rfl) (by kernel_rfl)) (F.upd 7 (.dict (c.u_walk v).wD) rfl ⟨_, rfl⟩ rfl)
theorem wRow (F : Foc H₀ H c) (v : AV) : Rn (pStore (.loc c.w) (.str "row") v) H fun u_ H' => Foc H₀ H' (c.u_row v) := .of (dStore F.w (by kernel_rfl) (by kernel_rfl)) (F.upd 7 (.dict (c.u_row v).wD) rfl ⟨_, rfl⟩ rfl)
theorem wBox (F : Foc H₀ H c) {i : Nat} (hi : i < c.boxes.length) (v : AV) : Rn (pStore (.loc c.lb) (.int i) v) H fun u_ H' => Foc H₀ H' (c.u_boxes (c.boxes.set i v)) := .of (lStore F.b hi) (F.upd 1 (.list (c.boxes.set i v)) rfl ⟨_, rfl⟩ rfl)
theorem wRows (F : Foc H₀ H c) {i : Nat} (hi : i < c.rows.length) (v : AV) : Rn (pStore (.loc c.lr) (.int i) v) H fun u_ H' => Foc H₀ H' (c.u_rows (c.rows.set i v)) := .of (lStore F.r hi) (F.upd 4 (.list (c.rows.set i v)) rfl ⟨_, rfl⟩ rfl)
theorem aBox (F : Foc H₀ H c) (hl : c.boxes.length < 100000) (v : AV) : Rn (pMeth "append" (.loc c.lb) [v]) H fun u_ H' => Foc H₀ H' (c.u_boxes (c.boxes ++ [v])) := .of (append_loc F.b (by have := LIMis; (first | lia | omega))) (F.upd 1 (.list (c.boxes ++ [v])) rfl ⟨_, rfl⟩ rfl)
theorem aSpare (F : Foc H₀ H c) (hl : c.spare.length < 100000) (v : AV) : Rn (pMeth "append" (.loc c.lsp) [v]) H fun u_ H' => Foc H₀ H' (c.u_spare (c.spare ++ [v])) := .of (append_loc F.sp (by have := LIMis; (first | lia | omega))) (F.upd 2 (.list (c.spare ++ [v])) rfl ⟨_, rfl⟩ rfl)
theorem aRows (F : Foc H₀ H c) (hl : c.rows.length < 100000) (v : AV) : Rn (pMeth "append" (.loc c.lr) [v]) H fun u_ H' => Foc H₀ H' (c.u_rows (c.rows ++ [v])) := .of (append_loc F.r (by have := LIMis; (first | lia | omega))) (F.upd 4 (.list (c.rows ++ [v])) rfl ⟨_, rfl⟩ rfl)
theorem aKept (F : Foc H₀ H c) (hl : c.kept.length < 100000) (v : AV) : Rn (pMeth "append" (.loc c.kp) [v]) H fun u_ H' => Foc H₀ H' (c.u_kept (c.kept ++ [v])) := .of (append_loc F.k (by have := LIMis; (first | lia | omega))) (F.upd 6 (.list (c.kept ++ [v])) rfl ⟨_, rfl⟩ rfl)
theorem pSpare (F : Foc H₀ H c) {xs : List AV} {v : AV} (hs : c.spare = xs ++ [v]) : Rn (pMeth "pop" (.loc c.lsp) []) H fun a H' => a = v ∧ Foc H₀ H' (c.u_spare xs) := by
  have h := F.sp
  rw [hs] at h
  exact .of (pop_last h) ⟨rfl, F.upd 2 (.list xs) rfl ⟨_, rfl⟩ rfl⟩
end Foc
namespace Cn
noncomputable def ls0 (c : Cn) : List Nat := [c.st, c.lb, c.lsp, c.lh, c.lr, c.hd]
noncomputable def os0 (c : Cn) : List AO := [.dict c.sD, .list c.boxes, .list c.spare, .list c.hs, .list c.rows, .dict c.hD]
noncomputable def beg (c : Cn) (k w : Nat) (d : AV) (nx : Str) : Cn := { c with kp := k, w := w, deed := d, begun := c.time, next := nx, own := .none, seen := .none, inside := .none, walk := .none, kept := [], row := .none }
end Cn
abbrev Foc0 (H₀ H : AHeap) (c : Cn) : Prop := Fc H₀ H c.ls0 c.os0
namespace Foc0
variable {H₀ H : AHeap} {c : Cn}
theorem s (F : Foc0 H₀ H c) : H[c.st]? = some (.dict c.sD) := F.all 0 _ _ rfl rfl
theorem h (F : Foc0 H₀ H c) : H[c.lh]? = some (.list c.hs) := F.all 3 _ _ rfl rfl
theorem d (F : Foc0 H₀ H c) : H[c.hd]? = some (.dict c.hD) := F.all 5 _ _ rfl rfl
theorem gHands (F : Foc0 H₀ H c) : pItem (.loc c.st) (.str "hands") H = some (.ok (.loc c.lh), H) := dItem F.s (by kernel_rfl)
theorem gTime (F : Foc0 H₀ H c) : pItem (.loc c.st) (.str "time") H = some (.ok (.int c.time), H) := dItem F.s (by kernel_rfl)
theorem gProg (F : Foc0 H₀ H c) : pItem (.loc c.hd) (.str "program") H = some (.ok (.tup c.prog), H) := dItem F.d (by kernel_rfl)
theorem gPlace (F : Foc0 H₀ H c) : pItem (.loc c.hd) (.str "place") H = some (.ok (.int c.place), H) := dItem F.d (by kernel_rfl)
theorem gWork (F : Foc0 H₀ H c) : pItem (.loc c.hd) (.str "work") H = some (.ok c.wv, H) := dItem F.d (by kernel_rfl)
theorem wTime (F : Foc0 H₀ H c) (v : Int) : Rn (pStore (.loc c.st) (.str "time") (.int v)) H fun u_ H' => Foc0 H₀ H' (c.u_time v) := .of (dStore F.s (by kernel_rfl) (by kernel_rfl)) (F.upd 0 (.dict (c.u_time v).sD) rfl ⟨_, rfl⟩ rfl)
theorem begun (F : Foc0 H₀ H c) (d : AV) (nx : Str) : Foc H₀ (H ++ [.list []] ++ [.dict (c.beg H.length (H.length + 1) d nx).wD]) (c.beg H.length (H.length + 1) d nx) := F.more2 rfl _ _
end Foc0
end Mine


set_option autoImplicit false
set_option linter.unusedVariables false
set_option maxRecDepth 100000
namespace Mine
open PySem PyProof.Rows

noncomputable def mixed (c k : Int) : Int := (((c + 7919 * k) * 48271).fmod 2147483647 * ((c + 7919 * k) * 48271).fmod 2147483647).fmod 2147483629
theorem mixed_ge (c k : Int) : 0 ≤ mixed c k := (fmod_lt _ (by decide)).1
noncomputable def cellAt (ns : List Int) (k : Nat) : Int := match ns[k]? with
  | some c => mixed c k
  | none => 0
noncomputable def valueBy (c : Int) : Int := if c.fmod 4 = 0 then c.fdiv 4 * 7919 * 7919 * 7919 - 100000000000000000000 else (c.fdiv 4).fmod 5 - 1
theorem d4 : (4 : Int) ≠ 0 ∧ (4 : Int).natAbs < 1073741824 := ⟨by decide, by decide⟩
theorem d8 : (8 : Int) ≠ 0 ∧ (8 : Int).natAbs < 1073741824 := ⟨by decide, by decide⟩
theorem d12 : (12 : Int) ≠ 0 ∧ (12 : Int).natAbs < 1073741824 := ⟨by decide, by decide⟩
theorem d32 : (32 : Int) ≠ 0 ∧ (32 : Int).natAbs < 1073741824 := ⟨by decide, by decide⟩

inductive Dk where
  | push | pop | top | swap | clear
noncomputable def deedK (k : Dk) (v : Int) : AV := match k with
  | .push => .tup [.str "push", .int v]
  | .pop => .tup [.str "pop"]
  | .top => .tup [.str "top"]
  | .swap => .tup [.str "swap", .int v]
  | .clear => .tup [.str "clear"]
theorem intsOf_map (xs : List Int) : intsOf (xs.map .int) = some xs := by
  induction xs with
  | nil => rfl
  | cons x r ih => show (intsOf (r.map .int)).map (x :: ·) = _; rw [ih]; rfl
theorem l0 {x : AV} {xs : List AV} : pItem (.lst (x :: xs)) (.int 0) = pure x := e_item_lst (k := 0) rfl
end Mine


set_option autoImplicit false
set_option linter.unusedVariables false
namespace Mine
open PySem PyProof.Rows

theorem compA_go {src : Src} {body : AV → M (Option AV)} (xs : List AV) (I : Nat → List AV → AHeap → Prop) (hl : xs.length < 100000)
    (hg : ∀ (i : Nat) acc H, I i acc H → src.get i H = some (.ok (xs[i]?), H))
    (hs : ∀ (i : Nat) a acc H, xs[i]? = some a → acc.length = i → I i acc H → Rn (body a) H fun o H' => ∃ y, o = some y ∧ I (i + 1) (acc ++ [y]) H') :
    ∀ (fuel i : Nat) (acc : List AV) (H : AHeap), i ≤ xs.length → acc.length = i → xs.length < i + fuel → I i acc H → Rn (compLoop src body fuel i acc) H fun ys H' => I xs.length ys H' ∧ ys.length = xs.length := by
  intro fuel
  induction fuel with
  | zero => intro i acc H h1 _ h2; exact absurd h2 (Nat.not_lt.mpr h1)
  | succ f ih =>
    intro i acc H h1 hacc hf h
    refine Rn.bof (hg i acc H h) ?_
    rcases Nat.eq_or_lt_of_le h1 with e | hi
    · subst e
      rw [List.getElem?_eq_none (Nat.le_refl _)]
      exact .pure ⟨h, hacc⟩
    · have ha := List.getElem?_eq_getElem hi
      rw [ha]
      refine .then (hs i _ acc H ha hacc h).noX fun o H1 q => ?_
      obtain ⟨y, rfl, q⟩ := q
      show Rn (if acc.length < LIM then _ else _) _ _
      rw [if_pos (ltLIM (Nat.lt_trans (hacc ▸ hi) hl))]
      exact ih (i + 1) (acc ++ [y]) H1 hi (by rw [List.length_append, hacc]; rfl) (Nat.succ_add_eq_add_succ i f ▸ hf) q
theorem compA {src : Src} {body : AV → M (Option AV)} {H : AHeap} (xs : List AV) (I : Nat → List AV → AHeap → Prop) (hl : xs.length < 100000)
    (hg : ∀ (i : Nat) acc H, I i acc H → src.get i H = some (.ok (xs[i]?), H)) (h0 : I 0 [] H)
    (hs : ∀ (i : Nat) a acc H, xs[i]? = some a → acc.length = i → I i acc H → Rn (body a) H fun o H' => ∃ y, o = some y ∧ I (i + 1) (acc ++ [y]) H') :
    Rn (compLoop src body FUEL 0 []) H fun ys H' => I xs.length ys H' ∧ ys.length = xs.length :=
  compA_go xs I hl hg hs FUEL 0 [] H (Nat.zero_le _) rfl (by rw [FUEL_is, Nat.zero_add]; exact hl) h0

noncomputable def AllN (L : List AV) : Prop := ∀ x ∈ L, ∃ v : Int, x = .int v ∧ 0 ≤ v
theorem d36 : (36 : Int) ≠ 0 ∧ (36 : Int).natAbs < 1073741824 := ⟨by decide, by decide⟩
theorem mod_nat {i : Int} {m : Nat} (hm : 1 ≤ m) : ∃ j : Nat, j < m ∧ pBin false .Mod (.int i) (.int m) = pure (.int j) := by
  have h := fmod_lt i (b := (m : Int)) (by omega)
  obtain ⟨j, hj⟩ := Int.eq_ofNat_of_zero_le h.1
  exact ⟨j, by omega, by rw [m_mod (by omega), hj]⟩
theorem set_at {H : AHeap} {l : Nat} {o x : AO} (h : H[l]? = some o) : (H.set l x)[l]? = some x := List.getElem?_set_self (List.getElem?_eq_some_iff.mp h).1
theorem app_at {H : AHeap} {o : AO} : (H ++ [o])[H.length]? = some o := by simp
theorem app_lt {H : AHeap} {o : AO} {l : Nat} (h : l < H.length) : (H ++ [o])[l]? = H[l]? := List.getElem?_append_left h
theorem m_cat_loc {H : AHeap} {l : Nat} {xs ys : List AV} (h : H[l]? = some (.list xs)) (hl : xs.length + ys.length ≤ LIM) : pBin true .Add (.loc l) (.lst ys) H = some (.ok (.loc H.length), H ++ [.list (xs ++ ys)]) := by
  show (do let xs ← listOf (.loc l); let ys ← listOf (.lst ys); newL true (xs ++ ys)) H = _
  exact bind_of (listOf_loc h) (newT (by rw [List.length_append]; exact hl))
theorem m_mul_lst {xs : List AV} {n : Nat} (h : n ≤ 100) (hx : xs.length ≤ 1) : pBin false .Mult (.lst xs) (.int n) = pure (.lst (List.replicate n xs).flatten) := by
  have L := LIMis
  have hm : n * xs.length ≤ 100 * 1 := Nat.mul_le_mul h hx
  show (do let xs ← (pure xs : M _); if (n : Int) < 0 ∨ 1048576 < (n : Int) ∨ LIM < (n : Int).toNat * xs.length then stuck else newL false (List.replicate (n : Int).toNat xs).flatten) = _
  rw [pure_bind, if_neg (by rw [Int.toNat_natCast]; (first | lia | omega)), Int.toNat_natCast]
  rw [e_newL (by rw [List.length_flatten]; simp; (first | lia | omega))]

theorem get_loc {H : AHeap} {l i : Nat} {xs : List AV} (h : H[l]? = some (.list xs)) : (Src.at l).get i H = some (.ok xs[i]?, H) := bind_of (listAt_is h) rfl
end Mine


set_option autoImplicit false
set_option linter.unusedVariables false
namespace Mine
open PySem PyProof.Rows

theorem e_it1 {x y : AV} {xs : List AV} : pItem (.tup (x :: y :: xs)) (.int 1) = pure y := e_item_tup (k := 1) rfl
end Mine


set_option autoImplicit false
set_option linter.unusedVariables false
namespace Mine
open PySem PyProof.Rows

structure Deed where
  k : Dk
  v : Int
noncomputable def deedV (d : Deed) : AV := deedK d.k d.v
inductive Kn where
  | marks | bare | new
  deriving DecidableEq
noncomputable def knS : Kn → Str
  | .marks => "marks"
  | .bare => "bare"
  | .new => "new"
inductive Nx where
  | take | look | see | put | check | walk
noncomputable def nxS : Nx → Str
  | .take => "take"
  | .look => "look"
  | .see => "see"
  | .put => "put"
  | .check => "check"
  | .walk => "walk"
inductive An where
  | none
  | int (i : Int)
  | tup (xs : List Int)
noncomputable def anV : An → AV
  | .none => .none
  | .int i => .int i
  | .tup xs => .tup (xs.map .int)
structure Wk where
  deed : Deed
  begun : Nat
  next : Nx
  own : Option Nat
  seen : Option (Option Nat × Nat)
  inside : Option (Int × Option Nat)
  walk : Option Nat
  kept : List Int
  row : Option Nat
structure Hd where
  prog : List Deed
  place : Nat
  work : Option Wk
structure Row where
  num : Nat
  place : Nat
  deed : Deed
  begun : Nat
  point : Nat
  fin : Option (Nat × An)
structure Tw where
  kind : Kn
  boxes : List (Int × Option Nat)
  head : Option Nat
  mark : Nat
  spare : List Nat
  hands : List Hd
  time : Nat
  rows : List Row
inductive Td where
  | take (b : Nat)
  | look (h : Option Nat) (m : Nat)
  | see (b : Nat) (v : Int) (u : Option Nat)
  | put (b : Bool)
  | rest

noncomputable def firstN : Dk → Nx
  | .push | .swap => .take
  | _ => .look
noncomputable def lookN : Dk → Nx
  | .push | .clear => .put
  | _ => .see
noncomputable def seeN : Dk → Nx
  | .top => .check
  | _ => .put
noncomputable def Tw.still (t : Tw) (x : Option Nat) (m : Nat) : Bool := decide (t.head = x) && (decide (t.kind ≠ .marks) || decide (t.mark = m))
noncomputable def Tw.ends (t : Tw) (i p : Nat) (w : Wk) (a : An) : Tw := { t with rows := t.rows ++ [⟨i, p, w.deed, w.begun, t.time, some (t.time, a)⟩] }
noncomputable def Tw.below (t : Tw) (o : Nat) (u : Option Nat) : Tw := { t with boxes := t.boxes.set o (((t.boxes[o]?).getD (0, none)).1, u) }
noncomputable def Tw.box (t : Tw) (o : Nat) : Int × Option Nat := (t.boxes[o]?).getD (0, none)

noncomputable def opTake (t : Tw) (w : Wk) : Tw × Option Wk × Td :=
  if t.kind = .new ∨ t.spare = [] then ({ t with boxes := t.boxes ++ [(w.deed.v, none)] }, some { w with own := some t.boxes.length, next := .look }, .take t.boxes.length)
  else ({ t with spare := t.spare.dropLast, boxes := t.boxes.set (t.spare.getLastD 0) (w.deed.v, none) }, some { w with own := some (t.spare.getLastD 0), next := .look }, .take (t.spare.getLastD 0))
noncomputable def opLook (t : Tw) (i p : Nat) (w : Wk) : Tw × Option Wk × Td := match w.deed.k with
  | .push => (t.below (w.own.getD 0) t.head, some { w with seen := some (t.head, t.mark), next := .put }, .look t.head t.mark)
  | k => match t.head with
    | some h => (t, some { w with seen := some (some h, t.mark), next := lookN k }, .look (some h) t.mark)
    | none => match k with
      | .swap => (Tw.ends { t with spare := t.spare ++ [w.own.getD 0] } i p w .none, none, .look none t.mark)
      | .clear => (t.ends i p w (.tup []), none, .look none t.mark)
      | _ => (t.ends i p w .none, none, .look none t.mark)
noncomputable def opSee (t : Tw) (w : Wk) : Tw × Option Wk × Td :=
  let b := ((w.seen.getD (none, 0)).1).getD 0
  let r := t.box b
  match w.deed.k with
  | .swap => (t.below (w.own.getD 0) r.2, some { w with inside := some r, next := .put }, .see b r.1 r.2)
  | k => (t, some { w with inside := some r, next := seeN k }, .see b r.1 r.2)
noncomputable def opPut (t : Tw) (i p : Nat) (w : Wk) : Tw × Option Wk × Td :=
  let s := w.seen.getD (none, 0)
  let r := w.inside.getD (0, none)
  match t.still s.1 s.2 with
  | false => (t, some { w with next := .look }, .put false)
  | true => match w.deed.k with
    | .clear => ({ t with mark := t.mark + 1, head := none, rows := t.rows ++ [⟨i, p, w.deed, w.begun, t.time, none⟩] }, some { w with row := some t.rows.length, walk := t.head, next := .walk }, .put true)
    | .push => (Tw.ends { t with mark := t.mark + 1, head := w.own } i p w .none, none, .put true)
    | .pop => (Tw.ends { t with mark := t.mark + 1, head := r.2, spare := t.spare ++ [t.head.getD 0] } i p w (.int r.1), none, .put true)
    | _ => (Tw.ends { t with mark := t.mark + 1, head := w.own, spare := t.spare ++ [t.head.getD 0] } i p w (.int r.1), none, .put true)
noncomputable def opCheck (t : Tw) (i p : Nat) (w : Wk) : Tw × Option Wk × Td :=
  let s := w.seen.getD (none, 0)
  match t.still s.1 s.2 with
  | true => (t.ends i p w (.int (w.inside.getD (0, none)).1), none, .look t.head t.mark)
  | false => (t, some { w with next := .look }, .look t.head t.mark)
noncomputable def setFin (a : Nat × An) (r : Row) : Row := { r with fin := some a }
noncomputable def opWalk (t : Tw) (w : Wk) : Tw × Option Wk × Td :=
  let b := w.walk.getD 0
  let r := t.box b
  match r.2 with
  | some u => ({ t with spare := t.spare ++ [b] }, some { w with kept := w.kept ++ [r.1], walk := some u }, .see b r.1 (some u))
  | none => ({ t with spare := t.spare ++ [b], rows := t.rows.modify (w.row.getD 0) (setFin (t.time, .tup (w.kept ++ [r.1]))) }, none, .see b r.1 none)
noncomputable def op (t : Tw) (i p : Nat) (w : Wk) : Tw × Option Wk × Td := match w.next with
  | .take => opTake t w
  | .look => opLook t i p w
  | .see => opSee t w
  | .put => opPut t i p w
  | .check => opCheck t i p w
  | .walk => opWalk t w
noncomputable def newW (d : Deed) (time : Nat) : Wk := ⟨d, time, firstN d.k, none, none, none, none, [], none⟩
noncomputable def Hd.now (h : Hd) (time : Nat) : Option Wk := match h.work with
  | some w => some w
  | none => (h.prog[h.place]?).map fun d => newW d time
noncomputable def Hd.next (h : Hd) : Option Wk → Hd
  | some w => { h with work := some w }
  | none => { h with place := h.place + 1, work := none }
noncomputable def step (t : Tw) (i : Nat) : Tw × Td := match t.hands[i]? with
  | none => (t, .rest)
  | some h => match h.now t.time with
    | none => ({ t with time := t.time + 1 }, .rest)
    | some w => ({ (op t i h.place w).1 with hands := t.hands.set i (h.next (op t i h.place w).2.1), time := t.time + 1 }, (op t i h.place w).2.2)
end Mine


set_option autoImplicit false
set_option linter.unusedVariables false
namespace Mine
open PySem PyProof.Rows

noncomputable def IxOk (n : Nat) (x : Option Nat) : Prop := ∀ i, x = some i → i < n
theorem IxOk.mono {n m : Nat} {x : Option Nat} (h : IxOk n x) (hm : n ≤ m) : IxOk m x := fun i e => Nat.lt_of_lt_of_le (h i e) hm
theorem IxOk.none {n : Nat} : IxOk n none := fun i e => by cases e
theorem IxOk.some {n i : Nat} (h : i < n) : IxOk n (some i) := fun j e => by cases e; exact h
noncomputable def BsOk (n : Nat) (bs : List (Int × Option Nat)) : Prop := ∀ b ∈ bs, IxOk n b.2
structure TwOk (k : Nat) (t : Tw) : Prop where
  head : IxOk t.boxes.length t.head
  boxes : BsOk t.boxes.length t.boxes
  spare : ∀ i ∈ t.spare, i < t.boxes.length
  lb : t.boxes.length ≤ 60 + k
  ls : t.spare.length ≤ k
  lr : t.rows.length ≤ k
noncomputable def OwAt (n : Nat) (x : Option Nat) : Dk → Prop
  | .push => ∃ o, x = some o ∧ o < n
  | .swap => ∃ o, x = some o ∧ o < n
  | _ => True
noncomputable def OwOk (n : Nat) (w : Wk) : Prop := OwAt n w.own w.deed.k
theorem OwAt.mono {n m : Nat} {x : Option Nat} (hm : n ≤ m) : ∀ {k : Dk}, OwAt n x k → OwAt m x k
  | .push, ⟨o, h1, h2⟩ => ⟨o, h1, Nat.lt_of_lt_of_le h2 hm⟩
  | .swap, ⟨o, h1, h2⟩ => ⟨o, h1, Nat.lt_of_lt_of_le h2 hm⟩
  | .pop, h => h
  | .top, h => h
  | .clear, h => h
theorem OwAt.is {n o : Nat} (h : o < n) : ∀ k : Dk, OwAt n (some o) k
  | .push => ⟨o, rfl, h⟩
  | .swap => ⟨o, rfl, h⟩
  | .pop => trivial
  | .top => trivial
  | .clear => trivial
theorem OwOk.mono {n m : Nat} {w : Wk} (h : OwOk n w) (hm : n ≤ m) : OwOk m w := OwAt.mono hm h
noncomputable def StAt (n r : Nat) (w : Wk) : Nx → Prop
  | .take => w.row = none ∧ (w.deed.k = .push ∨ w.deed.k = .swap)
  | .look => w.row = none ∧ OwOk n w
  | .see => w.row = none ∧ OwOk n w ∧ (w.deed.k = .swap ∨ w.deed.k = .pop ∨ w.deed.k = .top) ∧ ∃ i m, i < n ∧ w.seen = some (some i, m)
  | .put => w.row = none ∧ OwOk n w ∧ w.deed.k ≠ .top ∧ ∃ x m, IxOk n x ∧ w.seen = some (x, m) ∧ (w.deed.k ≠ .push → x ≠ none) ∧ ((w.deed.k = .swap ∨ w.deed.k = .pop) → ∃ v b, w.inside = some (v, b) ∧ IxOk n b)
  | .check => w.row = none ∧ w.deed.k = .top ∧ ∃ x m v b, w.seen = some (x, m) ∧ w.inside = some (v, b)
  | .walk => w.deed.k = .clear ∧ (∃ i, i < n ∧ w.walk = some i) ∧ ∃ j, j < r ∧ w.row = some j
noncomputable def StOk (n r : Nat) (w : Wk) : Prop := StAt n r w w.next
noncomputable def WkOk (k n r : Nat) (w : Wk) : Prop := w.kept.length ≤ k ∧ StOk n r w
theorem StAt.mono {n m r q : Nat} {w : Wk} (hm : n ≤ m) (hq : r ≤ q) {x : Nx} (h : StAt n r w x) : StAt m q w x := by
  cases x with
  | take => exact h
  | look => exact ⟨h.1, h.2.mono hm⟩
  | see =>
    obtain ⟨h1, h2, h3, i, x, h4, h5⟩ := h
    exact ⟨h1, h2.mono hm, h3, i, x, Nat.lt_of_lt_of_le h4 hm, h5⟩
  | put =>
    obtain ⟨h1, h2, h3, x, y, h4, h5, h6, h7⟩ := h
    exact ⟨h1, h2.mono hm, h3, x, y, h4.mono hm, h5, h6, fun q => by obtain ⟨v, b, g1, g2⟩ := h7 q; exact ⟨v, b, g1, g2.mono hm⟩⟩
  | check => exact h
  | walk =>
    obtain ⟨h1, ⟨i, h2, h3⟩, j, h4, h5⟩ := h
    exact ⟨h1, ⟨i, Nat.lt_of_lt_of_le h2 hm, h3⟩, j, Nat.lt_of_lt_of_le h4 hq, h5⟩
theorem StOk.mono {n m r q : Nat} {w : Wk} (h : StOk n r w) (hm : n ≤ m) (hq : r ≤ q) : StOk m q w := StAt.mono hm hq h
theorem WkOk.mono {k l n m r q : Nat} {w : Wk} (h : WkOk k n r w) (hk : k ≤ l) (hm : n ≤ m) (hq : r ≤ q) : WkOk l m q w := ⟨Nat.le_trans h.1 hk, h.2.mono hm hq⟩
structure HdOk (k n r : Nat) (h : Hd) : Prop where
  place : h.place ≤ h.prog.length
  work : ∀ w, h.work = some w → h.place < h.prog.length ∧ WkOk k n r w
theorem HdOk.mono {k l n m r q : Nat} {h : Hd} (x : HdOk k n r h) (hk : k ≤ l) (hm : n ≤ m) (hq : r ≤ q) : HdOk l m q h := ⟨x.place, fun w e => ⟨(x.work w e).1, (x.work w e).2.mono hk hm hq⟩⟩
structure AllOk (k : Nat) (t : Tw) : Prop where
  tw : TwOk k t
  hd : ∀ h ∈ t.hands, HdOk k t.boxes.length t.rows.length h

theorem BsOk.mono {n m : Nat} {bs : List (Int × Option Nat)} (h : BsOk n bs) (hm : n ≤ m) : BsOk m bs := fun b hb => (h b hb).mono hm
theorem BsOk.app {n : Nat} {bs : List (Int × Option Nat)} {x : Int × Option Nat} (h : BsOk n bs) (hx : IxOk n x.2) : BsOk n (bs ++ [x]) := fun b hb => by
  rcases List.mem_append.mp hb with q | q
  · exact h b q
  · rw [List.mem_singleton.mp q]; exact hx
theorem BsOk.set {n o : Nat} {bs : List (Int × Option Nat)} {x : Int × Option Nat} (h : BsOk n bs) (hx : IxOk n x.2) : BsOk n (bs.set o x) := fun b hb => by
  rcases List.mem_or_eq_of_mem_set hb with q | q
  · exact h b q
  · rw [q]; exact hx
theorem BsOk.box {t : Tw} {n o : Nat} (h : BsOk n t.boxes) : IxOk n (t.box o).2 := by
  unfold Tw.box
  cases e : t.boxes[o]? with
  | none => exact .none
  | some b => exact h b (List.mem_of_getElem? e)
structure Gr (t t' : Tw) : Prop where
  kind : t'.kind = t.kind
  hands : t'.hands = t.hands
  time : t'.time = t.time
  bl : t.boxes.length ≤ t'.boxes.length
  rl : t.rows.length ≤ t'.rows.length
theorem Gr.refl (t : Tw) : Gr t t := ⟨rfl, rfl, rfl, Nat.le_refl _, Nat.le_refl _⟩

theorem lastD_mem {l : List Nat} (h : l ≠ []) : l.getLastD 0 ∈ l := by
  cases l with
  | nil => exact absurd rfl h
  | cons a r => rw [show (a :: r).getLastD 0 = (a :: r).getLast (List.cons_ne_nil _ _) from rfl]; exact List.getLast_mem _
section
variable {k : Nat} {t : Tw} {i p : Nat} {w : Wk}
noncomputable def OpOk (k : Nat) (t : Tw) (r : Tw × Option Wk × Td) : Prop := Gr t r.1 ∧ TwOk (k + 1) r.1 ∧ ∀ w', r.2.1 = some w' → WkOk (k + 1) r.1.boxes.length r.1.rows.length w'
theorem TwOk.up (T : TwOk k t) : TwOk (k + 1) t := ⟨T.head, T.boxes, T.spare, by have := T.lb; (first | lia | omega), Nat.le_succ_of_le T.ls, Nat.le_succ_of_le T.lr⟩
theorem TwOk.ends (T : TwOk k t) {s : Tw} {a : An} (h1 : s.boxes = t.boxes) (h2 : IxOk t.boxes.length s.head) (h3 : s.spare = t.spare ∨ ∃ j, j < t.boxes.length ∧ s.spare = t.spare ++ [j]) (h4 : s.rows = t.rows) (hk : s.kind = t.kind) (hh : s.hands = t.hands) (ht : s.time = t.time) {td : Td} : OpOk k t (s.ends i p w a, none, td) := by
  have lb := T.lb
  have ls := T.ls
  have lr := T.lr
  refine ⟨⟨hk, hh, ht, by show _ ≤ s.boxes.length; rw [h1]; exact Nat.le_refl _, by show _ ≤ (s.rows ++ [_]).length; rw [h4, List.length_append]; exact Nat.le_add_right _ _⟩, ⟨by show IxOk s.boxes.length _; rw [h1]; exact h2, by show BsOk s.boxes.length s.boxes; rw [h1]; exact T.boxes, ?_, by show s.boxes.length ≤ _; rw [h1]; (first | lia | omega), ?_, ?_⟩, fun w' e => by cases e⟩
  · show ∀ i ∈ s.spare, i < s.boxes.length
    rw [h1]
    rcases h3 with q | ⟨j, hj, q⟩
    · rw [q]; exact T.spare
    · rw [q]
      intro x hx
      rcases List.mem_append.mp hx with z | z
      · exact T.spare x z
      · rw [List.mem_singleton.mp z]; exact hj
  · show s.spare.length ≤ _
    rcases h3 with q | ⟨j, hj, q⟩
    · rw [q]; (first | lia | omega)
    · rw [q, List.length_append]; exact Nat.succ_le_succ ls
  · show (s.rows ++ [_]).length ≤ _
    rw [h4, List.length_append]; exact Nat.succ_le_succ lr
set_option tactic.hygienic true in
theorem okTake (T : TwOk k t) (h1 : w.kept.length ≤ k) (h2 : w.row = none) : OpOk k t (opTake t w) := by
  have lb := T.lb
  have ow : ∀ {o m : Nat}, o < m → OwOk m { w with own := some o, next := .look } := fun {o m} ho => OwAt.is ho _
  unfold opTake
  split
  · have e : (t.boxes ++ [(w.deed.v, none)]).length = t.boxes.length + 1 := List.length_append
    refine ⟨⟨rfl, rfl, rfl, by show _ ≤ (t.boxes ++ [_]).length; (first | lia | omega), Nat.le_refl _⟩, ⟨T.head.mono (by show _ ≤ (t.boxes ++ [_]).length; (first | lia | omega)), ?_, fun i hi => Nat.lt_of_lt_of_le (T.spare i hi) (by show _ ≤ (t.boxes ++ [_]).length; (first | lia | omega)), by show (t.boxes ++ [_]).length ≤ _; (first | lia | omega), Nat.le_succ_of_le T.ls, Nat.le_succ_of_le T.lr⟩, fun w' q => ?_⟩
    · show BsOk (t.boxes ++ [_]).length (t.boxes ++ [_])
      rw [e]; exact (T.boxes.mono (Nat.le_succ _)).app .none
    · cases q
      exact ⟨Nat.le_succ_of_le h1, h2, ow (by show _ < (t.boxes ++ [_]).length; (first | lia | omega))⟩
  · rename_i hc
    have hne : t.spare ≠ [] := fun q => hc (.inr q)
    have hi := T.spare _ (lastD_mem hne)
    have e : (t.boxes.set (t.spare.getLastD 0) (w.deed.v, none)).length = t.boxes.length := List.length_set
    refine ⟨⟨rfl, rfl, rfl, Nat.le_of_eq e.symm, Nat.le_refl _⟩, ⟨T.head.mono (Nat.le_of_eq e.symm), (T.boxes.mono (Nat.le_of_eq e.symm)).set .none, fun i hi => Nat.lt_of_lt_of_le (T.spare i (List.dropLast_subset _ hi)) (Nat.le_of_eq e.symm), by show (t.boxes.set _ _).length ≤ _; (first | lia | omega), ?_, Nat.le_succ_of_le T.lr⟩, fun w' q => ?_⟩
    · show t.spare.dropLast.length ≤ _
      have := T.ls
      rw [List.length_dropLast]; (first | lia | omega)
    · cases q
      exact ⟨Nat.le_succ_of_le h1, h2, ow (by show _ < (t.boxes.set _ _).length; (first | lia | omega))⟩
theorem below_ok (T : TwOk k t) {o : Nat} {u : Option Nat} (hu : IxOk t.boxes.length u) : Gr t (t.below o u) ∧ TwOk (k + 1) (t.below o u) ∧ (t.below o u).boxes.length = t.boxes.length := by
  have lb := T.lb
  have e : (t.below o u).boxes.length = t.boxes.length := List.length_set
  refine ⟨⟨rfl, rfl, rfl, Nat.le_of_eq e.symm, Nat.le_refl _⟩, ⟨T.head.mono (Nat.le_of_eq e.symm), (T.boxes.mono (Nat.le_of_eq e.symm)).set (hu.mono (Nat.le_of_eq e.symm)), fun i hi => Nat.lt_of_lt_of_le (T.spare i hi) (Nat.le_of_eq e.symm), by rw [e]; (first | lia | omega), Nat.le_succ_of_le T.ls, Nat.le_succ_of_le T.lr⟩, e⟩
theorem okLook (T : TwOk k t) (h1 : w.kept.length ≤ k) (h2 : w.row = none) (ho : OwOk t.boxes.length w) : OpOk k t (opLook t i p w) := by
  have rest : ∀ {kk : Dk}, w.deed.k = kk → kk ≠ .push → ∀ {x : Nat}, t.head = some x → OpOk k t (t, some { w with seen := some (some x, t.mark), next := lookN kk }, .look (some x) t.mark) := fun {kk} e hne {x} hx => by
    refine ⟨Gr.refl t, T.up, fun w' q => ?_⟩
    cases q
    refine ⟨Nat.le_succ_of_le h1, ?_⟩
    have hx' := T.head x hx
    cases kk with
    | push => exact absurd rfl hne
    | clear => exact ⟨h2, ho, by rw [show w.deed.k = .clear from e]; exact (fun q => by cases q), some x, t.mark, .some hx', rfl, (fun u_ q => by cases q), fun q => by rw [show w.deed.k = .clear from e] at q; rcases q with q | q <;> cases q⟩
    | pop => exact ⟨h2, ho, .inr (.inl e), x, t.mark, hx', rfl⟩
    | top => exact ⟨h2, ho, .inr (.inr e), x, t.mark, hx', rfl⟩
    | swap => exact ⟨h2, ho, .inl e, x, t.mark, hx', rfl⟩
  unfold opLook
  cases hk : w.deed.k with
  | push =>
    obtain ⟨g, T1, e⟩ := below_ok (o := w.own.getD 0) T T.head
    refine ⟨g, T1, fun w' q => ?_⟩
    cases q
    refine ⟨Nat.le_succ_of_le h1, h2, ho.mono g.bl, by rw [show ({ w with seen := some (t.head, t.mark), next := Nx.put } : Wk).deed.k = .push from hk]; exact (fun q => by cases q), t.head, t.mark, T.head.mono g.bl, rfl, fun q => absurd hk q, fun q => ?_⟩
    rw [show ({ w with seen := some (t.head, t.mark), next := Nx.put } : Wk).deed.k = .push from hk] at q
    rcases q with q | q <;> cases q
  | swap =>
    cases hh : t.head with
    | some x => exact rest hk (fun q => by cases q) hh
    | none =>
      unfold OwOk at ho
      rw [hk] at ho
      obtain ⟨o, h3, h4⟩ := ho
      exact T.ends (s := { t with head := none, spare := t.spare ++ [w.own.getD 0] }) rfl .none (.inr ⟨o, h4, by rw [h3]; rfl⟩) rfl rfl rfl rfl
  | clear =>
    cases hh : t.head with
    | some x => exact rest hk (fun q => by cases q) hh
    | none => exact T.ends rfl T.head (.inl rfl) rfl rfl rfl rfl
  | pop =>
    cases hh : t.head with
    | some x => exact rest hk (fun q => by cases q) hh
    | none => exact T.ends rfl T.head (.inl rfl) rfl rfl rfl rfl
  | top =>
    cases hh : t.head with
    | some x => exact rest hk (fun q => by cases q) hh
    | none => exact T.ends rfl T.head (.inl rfl) rfl rfl rfl rfl
theorem okSee (T : TwOk k t) (h1 : w.kept.length ≤ k) (h2 : w.row = none) (ho : OwOk t.boxes.length w) (hw : w.deed.k = .swap ∨ w.deed.k = .pop ∨ w.deed.k = .top) {x m : Nat} (hx : x < t.boxes.length) (hs : w.seen = some (some x, m)) : OpOk k t (opSee t w) := by
  have hb := T.boxes.box (o := x)
  have eb : ((w.seen.getD (none, 0)).1).getD 0 = x := by rw [hs]; rfl
  unfold opSee
  simp only [eb]
  rcases hw with hk | hk | hk
  · rw [hk]
    obtain ⟨g, T1, e⟩ := below_ok (o := w.own.getD 0) T hb
    refine ⟨g, T1, fun w' q => ?_⟩
    cases q
    exact ⟨Nat.le_succ_of_le h1, h2, ho.mono g.bl, by rw [show ({ w with inside := some (t.box x), next := Nx.put } : Wk).deed.k = .swap from hk]; exact (fun q => by cases q), some x, m, (IxOk.some hx).mono g.bl, hs, (fun u_ q => by cases q), fun u_ => ⟨_, _, rfl, hb.mono g.bl⟩⟩
  · rw [hk]
    refine ⟨Gr.refl t, T.up, fun w' q => ?_⟩
    cases q
    exact ⟨Nat.le_succ_of_le h1, h2, ho, by rw [show ({ w with inside := some (t.box x), next := Nx.put } : Wk).deed.k = .pop from hk]; exact (fun q => by cases q), some x, m, .some hx, hs, (fun u_ q => by cases q), fun u_ => ⟨_, _, rfl, hb⟩⟩
  · rw [hk]
    refine ⟨Gr.refl t, T.up, fun w' q => ?_⟩
    cases q
    exact ⟨Nat.le_succ_of_le h1, h2, hk, some x, m, _, _, hs, rfl⟩
theorem still_head {x : Option Nat} {m : Nat} (h : t.still x m = true) : t.head = x := by
  unfold Tw.still at h
  rw [Bool.and_eq_true] at h
  exact of_decide_eq_true h.1
theorem okPut (T : TwOk k t) (h1 : w.kept.length ≤ k) (h2 : w.row = none) (ho : OwOk t.boxes.length w) (hw : w.deed.k ≠ .top) {x : Option Nat} {m : Nat} (hx : IxOk t.boxes.length x) (hs : w.seen = some (x, m)) (hne : w.deed.k ≠ .push → x ≠ none)
    (hi : (w.deed.k = .swap ∨ w.deed.k = .pop) → ∃ v b, w.inside = some (v, b) ∧ IxOk t.boxes.length b) : OpOk k t (opPut t i p w) := by
  have lb := T.lb
  have lr := T.lr
  have e1 : w.seen.getD (none, 0) = (x, m) := by rw [hs]; rfl
  unfold opPut
  simp only [e1]
  cases hb : t.still x m with
  | false =>
    refine ⟨Gr.refl t, T.up, fun w' q => ?_⟩
    cases q
    exact ⟨Nat.le_succ_of_le h1, h2, ho⟩
  | true =>
    have hh := still_head hb
    have hd : w.deed.k ≠ .push → ∃ j, j < t.boxes.length ∧ t.head = some j := fun q => by
      cases e : x with
      | none => exact absurd e (hne q)
      | some j => exact ⟨j, hx j e, by rw [hh, e]⟩
    cases hk : w.deed.k with
    | top => exact absurd hk hw
    | clear =>
      obtain ⟨j, hj, hj2⟩ := hd (by rw [hk]; exact fun q => by cases q)
      have er : (t.rows ++ [(⟨i, p, w.deed, w.begun, t.time, none⟩ : Row)]).length = t.rows.length + 1 := List.length_append
      refine ⟨⟨rfl, rfl, rfl, Nat.le_refl _, by show _ ≤ (t.rows ++ [_]).length; (first | lia | omega)⟩, ⟨.none, T.boxes, T.spare, by show t.boxes.length ≤ _; (first | lia | omega), Nat.le_succ_of_le T.ls, by show (t.rows ++ [_]).length ≤ _; (first | lia | omega)⟩, fun w' q => ?_⟩
      cases q
      exact ⟨Nat.le_succ_of_le h1, hk, ⟨j, hj, hj2⟩, t.rows.length, by show _ < (t.rows ++ [_]).length; (first | lia | omega), rfl⟩
    | push =>
      unfold OwOk at ho
      rw [hk] at ho
      obtain ⟨o, h3, h4⟩ := ho
      exact T.ends (s := { t with mark := t.mark + 1, head := w.own }) rfl (by show IxOk _ w.own; rw [h3]; exact .some h4) (.inl rfl) rfl rfl rfl rfl
    | pop =>
      obtain ⟨j, hj, hj2⟩ := hd (by rw [hk]; exact fun q => by cases q)
      obtain ⟨v, b, h5, h6⟩ := hi (.inr hk)
      exact T.ends (s := { t with mark := t.mark + 1, head := (w.inside.getD (0, none)).2, spare := t.spare ++ [t.head.getD 0] }) rfl (by show IxOk _ (w.inside.getD (0, none)).2; rw [h5]; exact h6) (.inr ⟨j, hj, by rw [hj2]; rfl⟩) rfl rfl rfl rfl
    | swap =>
      obtain ⟨j, hj, hj2⟩ := hd (by rw [hk]; exact fun q => by cases q)
      unfold OwOk at ho
      rw [hk] at ho
      obtain ⟨o, h3, h4⟩ := ho
      exact T.ends (s := { t with mark := t.mark + 1, head := w.own, spare := t.spare ++ [t.head.getD 0] }) rfl (by show IxOk _ w.own; rw [h3]; exact .some h4) (.inr ⟨j, hj, by rw [hj2]; rfl⟩) rfl rfl rfl rfl
theorem okCheck (T : TwOk k t) (h1 : w.kept.length ≤ k) (h2 : w.row = none) (hw : w.deed.k = .top) : OpOk k t (opCheck t i p w) := by
  unfold opCheck
  simp only
  cases t.still (w.seen.getD (none, 0)).1 (w.seen.getD (none, 0)).2 with
  | true => exact T.ends rfl T.head (.inl rfl) rfl rfl rfl rfl
  | false =>
    refine ⟨Gr.refl t, T.up, fun w' q => ?_⟩
    cases q
    exact ⟨Nat.le_succ_of_le h1, h2, by unfold OwOk; rw [show ({ w with next := Nx.look } : Wk).deed.k = .top from hw]; trivial⟩
theorem okWalk (T : TwOk k t) (h1 : w.kept.length ≤ k) (hw : w.deed.k = .clear) (hnx : w.next = .walk) {x j : Nat} (hx : x < t.boxes.length) (hwk : w.walk = some x) (hj : j < t.rows.length) (hr : w.row = some j) : OpOk k t (opWalk t w) := by
  have lb := T.lb
  have ls := T.ls
  have lr := T.lr
  have e1 : w.walk.getD 0 = x := by rw [hwk]; rfl
  have hbx := T.boxes.box (o := x)
  have hsp : ∀ i ∈ t.spare ++ [x], i < t.boxes.length := fun y hy => by
    rcases List.mem_append.mp hy with z | z
    · exact T.spare y z
    · rw [List.mem_singleton.mp z]; exact hx
  have els : (t.spare ++ [x]).length = t.spare.length + 1 := List.length_append
  unfold opWalk
  simp only [e1]
  cases hb : (t.box x).2 with
  | some u =>
    refine ⟨⟨rfl, rfl, rfl, Nat.le_refl _, Nat.le_refl _⟩, ⟨T.head, T.boxes, hsp, by show t.boxes.length ≤ _; (first | lia | omega), by show (t.spare ++ [x]).length ≤ _; (first | lia | omega), Nat.le_succ_of_le lr⟩, fun w' q => ?_⟩
    cases q
    refine ⟨by show (w.kept ++ [_]).length ≤ _; rw [List.length_append]; exact Nat.succ_le_succ h1, ?_⟩
    show StAt _ _ { w with kept := _, walk := _ } w.next
    rw [hnx]
    exact ⟨hw, ⟨u, hbx u hb, rfl⟩, j, hj, hr⟩
  | none =>
    have er : (t.rows.modify (w.row.getD 0) (setFin (t.time, .tup (w.kept ++ [(t.box x).1])))).length = t.rows.length := List.length_modify ..
    exact ⟨⟨rfl, rfl, rfl, Nat.le_refl _, Nat.le_of_eq er.symm⟩, ⟨T.head, T.boxes, hsp, by show t.boxes.length ≤ _; (first | lia | omega), by show (t.spare ++ [x]).length ≤ _; (first | lia | omega), by show (t.rows.modify _ _).length ≤ _; (first | lia | omega)⟩, fun w' q => by cases q⟩
theorem op_wf (T : TwOk k t) (h : WkOk k t.boxes.length t.rows.length w) : OpOk k t (op t i p w) := by
  obtain ⟨h1, h⟩ := h
  unfold op
  unfold StOk at h
  cases hn : w.next with
  | take => rw [hn] at h; exact okTake T h1 h.1
  | look => rw [hn] at h; exact okLook T h1 h.1 h.2
  | see => rw [hn] at h; obtain ⟨a, b, c, x, m, d, e⟩ := h; exact okSee T h1 a b c d e
  | put => rw [hn] at h; obtain ⟨a, b, c, x, m, d, e, f, g⟩ := h; exact okPut T h1 a b c d e f g
  | check => rw [hn] at h; exact okCheck T h1 h.1 h.2.1
  | walk => rw [hn] at h; obtain ⟨a, ⟨x, b, c⟩, j, d, e⟩ := h; exact okWalk T h1 a hn b c d e
end
end Mine


set_option autoImplicit false
set_option linter.unusedVariables false
namespace Mine
open PySem PyProof.Rows

noncomputable def ixV : Option Nat → AV
  | none => .none
  | some i => .int i
noncomputable def natV (i : Nat) : AV := .int i
noncomputable def bxV (b : Int × Option Nat) : AV := .tup [.int b.1, ixV b.2]
noncomputable def seenV : Option (Option Nat × Nat) → AV
  | none => .none
  | some (x, m) => .tup [ixV x, .int m]
noncomputable def insV : Option (Int × Option Nat) → AV
  | none => .none
  | some b => bxV b
noncomputable def finT : Option (Nat × An) → AV
  | none => .none
  | some a => .int a.1
noncomputable def finA : Option (Nat × An) → AV
  | none => .none
  | some a => anV a.2
noncomputable def rwV (r : Row) : AV := .tup [.int r.num, .int r.place, deedV r.deed, .int r.begun, .int r.point, finT r.fin, finA r.fin]
noncomputable def tdV : Td → AV
  | .take b => .tup [.str "take", .int b]
  | .look h m => .tup [.str "look", ixV h, .int m]
  | .see b v u => .tup [.str "see", .int b, .int v, ixV u]
  | .put b => .tup [.str "put", .bool b]
  | .rest => .tup [.str "rest"]
structure Ly where
  st : Nat
  lb : Nat
  lsp : Nat
  lh : Nat
  lr : Nat
  hs : List AV
structure Lh where
  hd : Nat
  w : Nat
  kp : Nat
noncomputable def cn (L : Ly) (l : Lh) (t : Tw) (pr : List Deed) (p : Nat) (wv : AV) (w : Wk) : Cn where
  st := L.st
  lb := L.lb
  lsp := L.lsp
  lh := L.lh
  lr := L.lr
  hd := l.hd
  w := l.w
  kp := l.kp
  kind := knS t.kind
  boxes := t.boxes.map bxV
  head := ixV t.head
  mark := t.mark
  spare := t.spare.map natV
  hs := L.hs
  time := t.time
  rows := t.rows.map rwV
  prog := pr.map deedV
  place := p
  wv := wv
  deed := deedV w.deed
  begun := w.begun
  next := nxS w.next
  own := ixV w.own
  seen := seenV w.seen
  inside := insV w.inside
  walk := ixV w.walk
  kept := w.kept.map .int
  row := ixV w.row
noncomputable def dkS : Dk → Str
  | .push => "push"
  | .pop => "pop"
  | .top => "top"
  | .swap => "swap"
  | .clear => "clear"
noncomputable def dkR (k : Dk) (v : Int) : List AV := match k with
  | .push => [.int v]
  | .swap => [.int v]
  | _ => []
theorem deedK_is (k : Dk) (v : Int) : deedK k v = .tup (.str (dkS k) :: dkR k v) := by cases k <;> rfl
noncomputable def Done (H₀ : AHeap) (L : Ly) (l : Lh) (pr : List Deed) (p : Nat) (r : Tw × Option Wk × Td) (told : AV) (H' : AHeap) : Prop :=
  told = tdV r.2.2 ∧ match r.2.1 with
    | some w' => Foc H₀ H' (cn L l r.1 pr p (.loc l.w) w')
    | none => ∃ w', Foc H₀ H' (cn L l r.1 pr (p + 1) .none w')
theorem foc_eq {H₀ H : AHeap} {c c' : Cn} (F : Foc H₀ H c) (e : c = c') : Foc H₀ H c' := e ▸ F
theorem box_at {t : Tw} {i : Nat} (h : i < t.boxes.length) : (t.boxes.map bxV)[i]? = some (.tup [.int (t.box i).1, ixV (t.box i).2]) := by
  rw [List.getElem?_map, List.getElem?_eq_getElem h]
  unfold Tw.box
  rw [List.getElem?_eq_getElem h]; rfl
theorem row_at {t : Tw} {j : Nat} (h : j < t.rows.length) : ∃ r : Row, t.rows[j]? = some r ∧ (t.rows.map rwV)[j]? = some (.tup [.int r.num, .int r.place, deedV r.deed, .int r.begun, .int r.point, finT r.fin, finA r.fin]) :=
  ⟨t.rows[j], List.getElem?_eq_getElem h, by rw [List.getElem?_map, List.getElem?_eq_getElem h]; rfl⟩
end Mine


set_option autoImplicit false
set_option linter.unusedVariables false
namespace Mine
open PySem PyProof.Rows
theorem newW_ok {k n r : Nat} {time : Nat} (d : Deed) : WkOk k n r (newW d time) := by
  refine ⟨Nat.zero_le _, ?_⟩
  show StAt n r (newW d time) (firstN d.k)
  cases hk : d.k with
  | push => exact ⟨rfl, .inl hk⟩
  | swap => exact ⟨rfl, .inr hk⟩
  | _ => exact ⟨rfl, by unfold OwOk; show OwAt n none d.k; rw [hk]; trivial⟩
theorem step_wf {k i : Nat} {t : Tw} (A : AllOk k t) : AllOk (k + 1) (step t i).1 := by
  have up : ∀ h ∈ t.hands, HdOk (k + 1) t.boxes.length t.rows.length h := fun h hm => (A.hd h hm).mono (Nat.le_succ _) (Nat.le_refl _) (Nat.le_refl _)
  unfold step
  cases hh : t.hands[i]? with
  | none => exact ⟨A.tw.up, up⟩
  | some h =>
    show AllOk (k + 1) (match h.now t.time with | none => _ | some w => _ : Tw × Td).1
    cases hn : h.now t.time with
    | none => exact ⟨⟨A.tw.up.head, A.tw.up.boxes, A.tw.up.spare, A.tw.up.lb, A.tw.up.ls, A.tw.up.lr⟩, up⟩
    | some w =>
      have HK := A.hd h (List.mem_of_getElem? hh)
      have hw : h.place < h.prog.length ∧ WkOk k t.boxes.length t.rows.length w := by
        unfold Hd.now at hn
        cases e : h.work with
        | some w1 => rw [e] at hn; cases hn; exact HK.work w e
        | none =>
          rw [e] at hn
          obtain ⟨d, h1, h2⟩ := Option.map_eq_some_iff.mp hn
          subst h2
          exact ⟨(List.getElem?_eq_some_iff.mp h1).1, newW_ok d⟩
      obtain ⟨G, T, W⟩ := op_wf (i := i) (p := h.place) A.tw hw.2
      refine ⟨⟨T.head, T.boxes, T.spare, T.lb, T.ls, T.lr⟩, fun h1 hm => ?_⟩
      rcases List.mem_or_eq_of_mem_set hm with q | q
      · exact (A.hd h1 q).mono (Nat.le_succ _) G.bl G.rl
      · subst q
        cases e : (op t i h.place w).2.1 with
        | some w' => exact ⟨Nat.le_of_lt hw.1, fun w2 q => by cases q; exact ⟨hw.1, W w' e⟩⟩
        | none => exact ⟨hw.1, fun w2 q => by cases q⟩
noncomputable def bx0 (xs : List Int) : List (Int × Option Nat) := xs.mapIdx fun i v => (v, if i + 1 = xs.length then none else some (i + 1))
noncomputable def tw0 (kd : Kn) (xs : List Int) (ps : List (List Deed)) : Tw := ⟨kd, bx0 xs, if xs.length = 0 then none else some 0, 0, [], ps.map fun p => ⟨p, 0, none⟩, 0, []⟩
theorem bx0_len (xs : List Int) : (bx0 xs).length = xs.length := List.length_mapIdx
theorem bx0_at {xs : List Int} {i : Nat} {v : Int} (h : xs[i]? = some v) : (bx0 xs)[i]? = some (v, if i + 1 = xs.length then none else some (i + 1)) := by
  unfold bx0
  rw [List.getElem?_mapIdx, h]; rfl
theorem tw0_ok {kd : Kn} {xs : List Int} {ps : List (List Deed)} (hx : xs.length ≤ 60) : AllOk 0 (tw0 kd xs ps) where
  tw := by
    refine ⟨fun i e => ?_, fun b hb => ?_, fun i hi => (nomatch hi), ?_, Nat.le_refl _, Nat.le_refl _⟩
    · show i < (bx0 xs).length
      rw [bx0_len]
      have e : (if xs.length = 0 then none else some 0 : Option Nat) = some i := e
      split at e
      · cases e
      · cases e; (first | lia | omega)
    · show IxOk (bx0 xs).length b.2
      rw [bx0_len]
      obtain ⟨i, hi⟩ := List.mem_iff_getElem?.mp hb
      have hl : i < xs.length := by have := (List.getElem?_eq_some_iff.mp hi).1; rw [show (tw0 kd xs ps).boxes = bx0 xs from rfl, bx0_len] at this; exact this
      have := bx0_at (List.getElem?_eq_getElem hl)
      rw [show (tw0 kd xs ps).boxes = bx0 xs from rfl, this] at hi
      cases hi
      show IxOk xs.length (if i + 1 = xs.length then none else some (i + 1))
      split
      · exact .none
      · exact .some (by (first | lia | omega))
    · show (bx0 xs).length ≤ _
      rw [bx0_len]; exact hx
  hd := fun h hm => by
    obtain ⟨p, _, rfl⟩ := List.mem_map.mp hm
    exact ⟨Nat.zero_le _, fun w e => nomatch e⟩
noncomputable def run (t : Tw) : List Nat → Tw
  | [] => t
  | i :: r => run (step t i).1 r
theorem step_hands (t : Tw) (i : Nat) {k : Nat} (A : AllOk k t) : (step t i).1.hands.length = t.hands.length := by
  unfold step
  cases hh : t.hands[i]? with
  | none => rfl
  | some h =>
    show (match h.now t.time with | none => _ | some w => _ : Tw × Td).1.hands.length = _
    cases h.now t.time with
    | none => rfl
    | some w => exact List.length_set ..
end Mine


set_option autoImplicit false
set_option linter.unusedVariables false
namespace Mine
open PySem PyProof.Rows

noncomputable def vl (bs : List (Int × Option Nat)) (c : List Nat) : List Int := c.map fun b => ((bs[b]?).getD (0, none)).1
noncomputable def Bf (bs : List (Int × Option Nat)) : Option Nat → List Nat → List Nat → Prop
  | x, fd, [] => x = none ∨ ∃ b, x = some b ∧ b ∈ fd
  | x, fd, b :: r => x = some b ∧ b ∉ fd ∧ ∃ v u, bs[b]? = some (v, u) ∧ Bf bs u (fd ++ [b]) r
theorem bf_lt {bs : List (Int × Option Nat)} : ∀ {r fd : List Nat} {x : Option Nat}, Bf bs x fd r → ∀ b ∈ r, b < bs.length
  | b :: r, fd, x, ⟨_, _, _, _, h1, h2⟩, c, hc => (List.mem_cons.mp hc).elim (fun e => e ▸ (List.getElem?_eq_some_iff.mp h1).1) fun hc => bf_lt h2 c hc
theorem nodup_le : ∀ (n : Nat) (l : List Nat), l.Nodup → (∀ b ∈ l, b < n) → l.length ≤ n
  | 0, l, _, h => by
    cases l with
    | nil => exact Nat.le_refl _
    | cons b r => exact absurd (h b List.mem_cons_self) (Nat.not_lt_zero _)
  | n + 1, l, nd, h => by
    have h1 := nodup_le n (l.erase n) (nd.erase n) fun b hb => by
      have h2 := nd.mem_erase_iff.mp hb
      have h3 := h b h2.2
      have h4 := h2.1
      (first | lia | omega)
    rw [List.length_erase] at h1
    split at h1 <;> (first | lia | omega)
theorem bf_ex {bs : List (Int × Option Nat)} (hb : BsOk bs.length bs) : ∀ (m : Nat) (fd : List Nat) (x : Option Nat), fd.Nodup → (∀ b ∈ fd, b < bs.length) → IxOk bs.length x → bs.length - fd.length ≤ m → ∃ r, Bf bs x fd r ∧ r.length ≤ m
  | m, fd, none, nd, lt, hx, hm => ⟨[], .inl rfl, Nat.zero_le _⟩
  | m, fd, some b, nd, lt, hx, hm => by
    by_cases hf : b ∈ fd
    · exact ⟨[], .inr ⟨b, rfl, hf⟩, Nat.zero_le _⟩
    · have hlt := hx b rfl
      have nd' : (fd ++ [b]).Nodup := List.nodup_append.mpr ⟨nd, List.nodup_cons.mpr ⟨List.not_mem_nil, List.nodup_nil⟩, fun a ha c hc e => hf (by rw [← List.mem_singleton.mp hc, ← e]; exact ha)⟩
      have lt' : ∀ c ∈ fd ++ [b], c < bs.length := fun c hc => (List.mem_append.mp hc).elim (lt c) fun q => by rw [List.mem_singleton.mp q]; exact hlt
      have h1 := nodup_le _ _ nd' lt'
      rw [List.length_append] at h1
      have h1 : fd.length + 1 ≤ bs.length := h1
      cases m with
      | zero => (first | lia | omega)
      | succ m =>
        obtain ⟨r, h2, h3⟩ := bf_ex hb m (fd ++ [b]) bs[b].2 nd' lt' (hb _ (List.getElem_mem hlt)) (by rw [List.length_append]; show bs.length - (fd.length + 1) ≤ m; (first | lia | omega))
        exact ⟨b :: r, ⟨rfl, hf, _, _, List.getElem?_eq_getElem hlt, h2⟩, Nat.succ_le_succ h3⟩
noncomputable def pl (bs : List (Int × Option Nat)) (x : Option Nat) : List Nat := Classical.epsilon fun r => Bf bs x [] r ∧ r.length ≤ bs.length
theorem pl_is {bs : List (Int × Option Nat)} {x : Option Nat} (hb : BsOk bs.length bs) (hx : IxOk bs.length x) : Bf bs x [] (pl bs x) ∧ (pl bs x).length ≤ bs.length :=
  Classical.epsilon_spec (bf_ex hb bs.length [] x List.nodup_nil (fun b h => nomatch h) hx (Nat.sub_le _ _))
noncomputable def heldOf (bs : List (Int × Option Nat)) (h : Hd) : List Nat := match h.work with
  | none => []
  | some w => match w.next with
    | .walk => pl bs w.walk
    | _ => match w.own with
      | none => []
      | some f => [f]
structure OwT (t : Tw) : Prop where
  own : ∀ h ∈ t.hands, ∀ w, h.work = some w → IxOk t.boxes.length w.own
section
variable {t : Tw} {w : Wk} {k i p : Nat}
noncomputable def OwR (n : Nat) (r : Tw × Option Wk × Td) : Prop := n ≤ r.1.boxes.length ∧ ∀ z, r.2.1 = some z → IxOk r.1.boxes.length z.own
theorem owr {n : Nat} {s : Tw} {o : Option Wk} {d : Td} (h1 : s.boxes.length = n) (hw : IxOk n w.own) (h2 : ∀ z, o = some z → z.own = w.own) : OwR n (s, o, d) := by
  subst h1
  exact ⟨Nat.le_refl _, fun z e => by rw [h2 z e]; exact hw⟩
set_option tactic.hygienic true in
theorem ow_op (T : TwOk k t) (hw : IxOk t.boxes.length w.own) : OwR t.boxes.length (op t i p w) := by
  unfold op
  cases w.next with
  | take =>
    show OwR _ (opTake t w)
    unfold opTake
    split
    · refine ⟨by show _ ≤ (t.boxes ++ _).length; rw [List.length_append]; exact Nat.le_add_right _ _, fun z e => ?_⟩
      cases e
      show IxOk (t.boxes ++ _).length (some t.boxes.length)
      rw [List.length_append]; exact .some (Nat.lt_succ_self _)
    · rename_i hc
      refine ⟨by show _ ≤ (t.boxes.set _ _).length; rw [List.length_set]; exact Nat.le_refl _, fun z e => ?_⟩
      cases e
      show IxOk (t.boxes.set _ _).length (some (t.spare.getLastD 0))
      rw [List.length_set]
      refine .some ?_
      have hs : t.spare ≠ [] := fun e => hc (.inr e)
      rw [List.getLastD_eq_getLast?, List.getLast?_eq_some_getLast hs]
      exact T.spare _ (List.getLast_mem hs)
  | look =>
    show OwR _ (opLook t i p w)
    unfold opLook
    cases w.deed.k with
    | push => exact owr (w := w) (List.length_set ..) hw fun z e => by cases e; rfl
    | _ => cases t.head with
      | some h => exact owr (w := w) rfl hw fun z e => by cases e; rfl
      | none => exact owr (w := w) rfl hw fun z e => nomatch e
  | see =>
    show OwR _ (opSee t w)
    unfold opSee
    cases w.deed.k with
    | swap => exact owr (w := w) (List.length_set ..) hw fun z e => by cases e; rfl
    | _ => exact owr (w := w) rfl hw fun z e => by cases e; rfl
  | put =>
    show OwR _ (opPut t i p w)
    unfold opPut
    dsimp only
    cases t.still (w.seen.getD (none, 0)).1 (w.seen.getD (none, 0)).2 with
    | false => exact owr (w := w) rfl hw fun z e => by cases e; rfl
    | true => cases w.deed.k with
      | clear => exact owr (w := w) rfl hw fun z e => by cases e; rfl
      | _ => exact owr (w := w) rfl hw fun z e => nomatch e
  | check =>
    show OwR _ (opCheck t i p w)
    unfold opCheck
    dsimp only
    cases t.still (w.seen.getD (none, 0)).1 (w.seen.getD (none, 0)).2 with
    | false => exact owr (w := w) rfl hw fun z e => by cases e; rfl
    | true => exact owr (w := w) rfl hw fun z e => nomatch e
  | walk =>
    show OwR _ (opWalk t w)
    unfold opWalk
    dsimp only
    split
    · exact owr (w := w) rfl hw fun z e => by cases e; rfl
    · exact owr (w := w) rfl hw fun z e => nomatch e
end
theorem OwT.step {t : Tw} {k : Nat} (B : OwT t) (T : TwOk k t) (i : Nat) : OwT (step t i).1 := by
  unfold Mine.step
  cases hh : t.hands[i]? with
  | none => exact B
  | some h =>
    show OwT (match h.now t.time with | none => _ | some w => _ : Tw × Td).1
    cases hn : h.now t.time with
    | none => exact ⟨fun g hg w e => B.own g hg w e⟩
    | some w =>
      have hw : IxOk t.boxes.length w.own := by
        unfold Hd.now at hn
        cases hk : h.work with
        | some w' => rw [hk] at hn; cases hn; exact B.own h (List.mem_of_getElem? hh) w hk
        | none =>
          rw [hk] at hn
          obtain ⟨d, _, rfl⟩ := Option.map_eq_some_iff.mp hn
          exact .none
      obtain ⟨o1, o2⟩ := ow_op (i := i) (p := h.place) T hw
      refine ⟨fun g hg z e => ?_⟩
      rcases List.mem_or_eq_of_mem_set (show g ∈ t.hands.set i (h.next (op t i h.place w).2.1) from hg) with q | q
      · exact (B.own g q z e).mono o1
      · subst q
        cases hop : (op t i h.place w).2.1 with
        | none => rw [hop] at e; cases e
        | some w2 => rw [hop] at e; cases e; exact o2 z hop
theorem ow0 (kd : Kn) (xs : List Int) (ps : List (List Deed)) : OwT (tw0 kd xs ps) := ⟨fun h hm w e => by
  obtain ⟨p, _, rfl⟩ := List.mem_map.mp (show h ∈ ps.map (fun p => (⟨p, 0, none⟩ : Hd)) from hm)
  cases e⟩
end Mine


set_option autoImplicit false
set_option linter.unusedVariables false
namespace Mine
open PySem PyProof.Rows

def Ch (bs : List (Int × Option Nat)) : Option Nat → List Nat → Prop
  | x, [] => x = none
  | x, b :: r => x = some b ∧ ∃ v u, bs[b]? = some (v, u) ∧ Ch bs u r
theorem Ch.congr {bs bs' : List (Int × Option Nat)} {c : List Nat} : ∀ {x : Option Nat}, Ch bs x c → (∀ b ∈ c, bs'[b]? = bs[b]?) → Ch bs' x c := by
  induction c with
  | nil => intro x h _; exact h
  | cons b r ih =>
    intro x h hb
    obtain ⟨e, v, u, h1, h2⟩ := h
    exact ⟨e, v, u, (hb b List.mem_cons_self).trans h1, ih h2 fun c hc => hb c (List.mem_cons_of_mem _ hc)⟩
abbrev Ow := Nat → Nat
noncomputable def upd (ow : Ow) (o c : Nat) : Ow := fun b => if b = o then c else ow b
theorem upd_at (ow : Ow) (o c : Nat) : upd ow o c o = c := if_pos rfl
theorem upd_ne (ow : Ow) {o b : Nat} (c : Nat) (h : b ≠ o) : upd ow o c b = ow b := if_neg h
def Is (n : Nat) (ow : Ow) (v : Nat) (P : Nat → Prop) : Prop := ∀ b, P b ↔ b < n ∧ ow b = v
section
variable {n n' o c v : Nat} {ow : Ow} {P P' : Nat → Prop}
theorem Is.add (h : Is n ow v P) (ho : o < n') (hn : ∀ b, b ≠ o → (b < n' ↔ b < n)) (hp : ∀ b, P' b ↔ b = o ∨ P b) : Is n' (upd ow o v) v P' := fun b => by
  rw [hp]
  by_cases e : b = o
  · subst e; exact ⟨fun u_ => ⟨ho, upd_at _ _ _⟩, fun u_ => .inl rfl⟩
  · rw [upd_ne ow v e, hn b e, ← h b]; exact ⟨fun q => q.resolve_left e, .inr⟩
theorem Is.del (h : Is n ow v P) (hc : c ≠ v) (hn : ∀ b, b ≠ o → (b < n' ↔ b < n)) (hp : ∀ b, P' b ↔ b ≠ o ∧ P b) : Is n' (upd ow o c) v P' := fun b => by
  rw [hp]
  by_cases e : b = o
  · subst e; rw [upd_at]; exact ⟨fun q => absurd rfl q.1, fun q => absurd q.2 hc⟩
  · rw [upd_ne ow c e, hn b e, ← h b]; exact ⟨fun q => q.2, fun q => ⟨e, q⟩⟩
theorem Is.same (h : Is n ow v P) (hc : c ≠ v) (hn : ∀ b, b ≠ o → (b < n' ↔ b < n)) (hp : ¬ P o) : Is n' (upd ow o c) v P :=
  h.del hc hn fun b => ⟨fun q => ⟨fun e => hp (e ▸ q), q⟩, fun q => q.2⟩
theorem Is.congr (h : Is n ow v P) (hp : ∀ b, P' b ↔ P b) : Is n ow v P' := fun b => (hp b).trans (h b)
end
def See (t : Tw) (ow : Ow) (x : Option Nat) (m : Nat) : Prop := match t.kind with
  | .new => ∀ b, x = some b → b < t.boxes.length ∧ ∀ j, ow b ≠ 2 * j + 2
  | _ => m ≤ t.mark ∧ (m = t.mark → t.head = x)
def Ins (t : Tw) (b m : Nat) (r : Int × Option Nat) : Prop := match t.kind with
  | .new => t.boxes[b]? = some r
  | _ => m = t.mark → t.boxes[b]? = some r
structure WI (t : Tw) (ow : Ow) (w : Wk) : Prop where
  see : ∀ x m, w.seen = some (x, m) → See t ow x m
  ins : (w.next = .put ∧ (w.deed.k = .swap ∨ w.deed.k = .pop)) ∨ w.next = .check → ∀ b m r, w.seen = some (some b, m) → w.inside = some r → Ins t b m r
  push : w.next = .put → w.deed.k = .push → ∀ o x m, w.own = some o → w.seen = some (x, m) → ∃ v, t.boxes[o]? = some (v, x)
  swap : w.next = .put → w.deed.k = .swap → ∀ o r, w.own = some o → w.inside = some r → ∃ v, t.boxes[o]? = some (v, r.2)
  np : w.deed.k ≠ .push → w.deed.k ≠ .swap → w.own = none
  tk : w.next = .take → w.own = none
def Wc (bs : List (Int × Option Nat)) (c : List Nat) : Option Wk → Prop
  | none => c = []
  | some w => (w.next = .walk → Ch bs w.walk c ∧ w.own = none) ∧ (w.next ≠ .walk → c = [])
structure HI (t : Tw) (ow : Ow) (i : Nat) (o : Option Wk) : Prop where
  own : Is t.boxes.length ow (2 * i + 2) fun b => o.bind Wk.own = some b
  ch : ∃ c, c.Nodup ∧ Is t.boxes.length ow (2 * i + 3) (· ∈ c) ∧ Wc t.boxes c o
  wk : ∀ w, o = some w → WI t ow w
noncomputable def workAt (t : Tw) (i : Nat) : Option Wk := (t.hands[i]?).bind Hd.work
structure Inv (t : Tw) (ow : Ow) (pile : List Nat) : Prop where
  kd : t.kind = .marks ∨ t.kind = .new
  ch : Ch t.boxes t.head pile
  nd : pile.Nodup
  po : Is t.boxes.length ow 0 (· ∈ pile)
  so : Is t.boxes.length ow 1 (· ∈ t.spare)
  sn : t.spare.Nodup
  hi : ∀ i, HI t ow i (workAt t i)
structure Chg (i : Nat) (t t' : Tw) (ow ow' : Ow) : Prop where
  kind : t'.kind = t.kind
  len : t.boxes.length ≤ t'.boxes.length
  bx : ∀ b, b < t.boxes.length → ow b ≠ 2 * i + 2 → (ow b ≠ 1 ∨ t.kind = .new) → t'.boxes[b]? = t.boxes[b]?
  is : ∀ v P, (v ≠ 0 ∧ v ≠ 1) ∧ v ≠ 2 * i + 2 ∧ v ≠ 2 * i + 3 → Is t.boxes.length ow v P → Is t'.boxes.length ow' v P
  pub : t.kind = .new → ∀ b, b < t.boxes.length → (∀ j, ow b ≠ 2 * j + 2) → ∀ j, ow' b ≠ 2 * j + 2
  hm : (t'.head = t.head ∧ t'.mark = t.mark) ∨ t'.mark = t.mark + 1
section
variable {t t' : Tw} {ow ow' : Ow} {i j : Nat} {h : Hd} {w : Wk} {pile : List Nat} {o : Option Wk}
theorem Chg.see (C : Chg i t t' ow ow') {x : Option Nat} {m : Nat} (h : See t ow x m) : See t' ow' x m := by
  unfold See at h ⊢
  rw [C.kind]
  cases hk : t.kind with
  | new =>
    rw [hk] at h
    exact fun b e => ⟨Nat.lt_of_lt_of_le (h b e).1 C.len, C.pub hk b (h b e).1 (h b e).2⟩
  | _ =>
    rw [hk] at h
    obtain ⟨h1, h2⟩ := h
    rcases C.hm with ⟨e1, e2⟩ | e
    · exact ⟨e2 ▸ h1, fun q => e1.trans (h2 (q.trans e2))⟩
    · exact ⟨Nat.le_trans h1 (e ▸ Nat.le_succ _), fun q => by rw [q, e] at h1; exact absurd h1 (Nat.not_succ_le_self _)⟩
theorem Inv.ho (I : Inv t ow pile) {b : Nat} (e : t.head = some b) : b < t.boxes.length ∧ ow b = 0 := by
  have := I.ch
  rw [e] at this
  cases pile with
  | nil => cases this
  | cons c r => exact Option.some.inj this.1 ▸ (I.po c).mp List.mem_cons_self
theorem Chg.ins (C : Chg i t t' ow ow') (I : Inv t ow pile) {b m : Nat} {r : Int × Option Nat} (hs : See t ow (some b) m) (h : Ins t b m r) : Ins t' b m r := by
  unfold Ins at h ⊢
  unfold See at hs
  rw [C.kind]
  cases hk : t.kind with
  | new =>
    rw [hk] at h hs
    have q := hs b rfl
    exact (C.bx b q.1 (q.2 i) (.inr hk)).trans h
  | _ =>
    rw [hk] at h hs
    intro e
    rcases C.hm with ⟨e1, e2⟩ | e2
    · have em : m = t.mark := e.trans e2
      have h0 := (I.ho (hs.2 em)).2
      have hb := h em
      exact (C.bx b (List.getElem?_eq_some_iff.mp hb).1 (by rw [h0]; (first | lia | omega)) (.inl (by rw [h0]; (first | lia | omega)))).trans hb
    · have := hs.1; (first | lia | omega)
theorem ne_ij (hj : j ≠ i) : ((2 * j + 2 ≠ 0 ∧ 2 * j + 2 ≠ 1) ∧ 2 * j + 2 ≠ 2 * i + 2 ∧ 2 * j + 2 ≠ 2 * i + 3) ∧ (2 * j + 3 ≠ 0 ∧ 2 * j + 3 ≠ 1) ∧ 2 * j + 3 ≠ 2 * i + 2 ∧ 2 * j + 3 ≠ 2 * i + 3 := by (first | lia | omega)
theorem Chg.hi (C : Chg i t t' ow ow') (I : Inv t ow pile) (hj : j ≠ i) (W : HI t ow j o) : HI t' ow' j o := by
  obtain ⟨n1, n2⟩ := ne_ij hj
  have kb : ∀ {b : Nat} {r : Int × Option Nat}, b < t.boxes.length → (ow b = 2 * j + 2 ∨ ow b = 2 * j + 3) → t'.boxes[b]? = t.boxes[b]? := fun {b r} hl e => C.bx b hl (fun z => by rcases e with e | e <;> rw [e] at z; exact n1.2.1 z; exact n2.2.1 z) (.inl fun z => by rcases e with e | e <;> rw [e] at z; exact n1.1.2 z; exact n2.1.2 z)
  refine ⟨C.is _ _ n1 W.own, ?_, fun w e => ?_⟩
  · obtain ⟨c, h1, h2, h3⟩ := W.ch
    refine ⟨c, h1, C.is _ _ n2 h2, ?_⟩
    cases o with
    | none => exact h3
    | some w => exact ⟨fun q => ⟨(h3.1 q).1.congr fun b hb => kb (r := (0, none)) ((h2 b).mp hb).1 (.inr ((h2 b).mp hb).2), (h3.1 q).2⟩, h3.2⟩
  · have X := W.wk w e
    have ko : ∀ {o : Nat}, w.own = some o → t'.boxes[o]? = t.boxes[o]? := fun {o} q => by
      have := (W.own o).mp (by rw [e]; exact q)
      exact kb (r := (0, none)) this.1 (.inl this.2)
    exact ⟨fun x m q => C.see (X.see x m q), fun q b m r q1 q2 => C.ins I (X.see _ _ q1) (X.ins q b m r q1 q2), fun q1 q2 o x m q3 q4 => by rw [ko q3]; exact X.push q1 q2 o x m q3 q4, fun q1 q2 o r q3 q4 => by rw [ko q3]; exact X.swap q1 q2 o r q3 q4, X.np, X.tk⟩
noncomputable def aft (t : Tw) (i : Nat) (h : Hd) (r : Tw × Option Wk × Td) : Tw := { r.1 with hands := t.hands.set i (h.next r.2.1), time := t.time + 1 }
noncomputable def Gd (t : Tw) (i : Nat) (h : Hd) (r : Tw × Option Wk × Td) : Prop := ∃ ow' pile', Inv (aft t i h r) ow' pile'
theorem next_work (h : Hd) (o : Option Wk) : (h.next o).work = o := by cases o <;> rfl
theorem Inv.next (I : Inv t ow pile) {s : Tw} {d : Td} {pile' : List Nat} (hh : t.hands[i]? = some h) (C : Chg i t s ow ow') (ch : Ch s.boxes s.head pile') (nd : pile'.Nodup) (po : Is s.boxes.length ow' 0 (· ∈ pile'))
    (so : Is s.boxes.length ow' 1 (· ∈ s.spare)) (sn : s.spare.Nodup) (H : HI s ow' i o) : Gd t i h (s, o, d) := by
  have hl := (List.getElem?_eq_some_iff.mp hh).1
  have conv : ∀ {j : Nat} {o : Option Wk}, HI s ow' j o → HI (aft t i h (s, o, d)) ow' j o := fun X => ⟨X.own, X.ch, fun w e => ⟨(X.wk w e).see, (X.wk w e).ins, (X.wk w e).push, (X.wk w e).swap, (X.wk w e).np, (X.wk w e).tk⟩⟩
  refine ⟨ow', pile', ⟨C.kind ▸ I.kd, ch, nd, po, so, sn, fun j => ?_⟩⟩
  by_cases q : i = j
  · subst q
    have e : workAt (aft t i h (s, o, d)) i = o := by
      show ((t.hands.set i (h.next o))[i]?).bind Hd.work = o
      rw [List.getElem?_set_self hl]
      exact next_work h o
    rw [e]
    exact ⟨H.own, H.ch, fun w e => ⟨(H.wk w e).see, (H.wk w e).ins, (H.wk w e).push, (H.wk w e).swap, (H.wk w e).np, (H.wk w e).tk⟩⟩
  · have e : workAt (aft t i h (s, o, d)) j = workAt t j := by
      show ((t.hands.set i (h.next o))[j]?).bind Hd.work = (t.hands[j]?).bind Hd.work
      rw [List.getElem?_set_ne q]
    rw [e]
    have X := C.hi I (Ne.symm q) (I.hi j)
    exact ⟨X.own, X.ch, fun w e => ⟨(X.wk w e).see, (X.wk w e).ins, (X.wk w e).push, (X.wk w e).swap, (X.wk w e).np, (X.wk w e).tk⟩⟩
end
end Mine


set_option autoImplicit false
set_option linter.unusedVariables false
namespace Mine
open PySem PyProof.Rows
section
variable {t s : Tw} {ow ow' : Ow} {i k : Nat} {h : Hd} {w w' : Wk} {pile : List Nat} {d : Td}
theorem Is.not {n o v : Nat} {P : Nat → Prop} (x : Is n ow v P) (h : o < n → ow o ≠ v) : ¬ P o := fun q => h ((x o).mp q).1 ((x o).mp q).2
theorem chgU {o c : Nat} (kind : s.kind = t.kind) (len : t.boxes.length ≤ s.boxes.length) (hb : ∀ b, b < t.boxes.length → b ≠ o → s.boxes[b]? = t.boxes[b]?) (ho : o < t.boxes.length → s.boxes[o]? = t.boxes[o]? ∨ ow o = 2 * i + 2 ∨ (ow o = 1 ∧ t.kind ≠ .new))
    (hc : c = 0 ∨ c = 1 ∨ c = 2 * i + 2 ∨ c = 2 * i + 3) (hoc : o < t.boxes.length → ow o = 0 ∨ ow o = 1 ∨ ow o = 2 * i + 2 ∨ ow o = 2 * i + 3) (hn : ∀ b, b ≠ o → (b < s.boxes.length ↔ b < t.boxes.length)) (hp : c ≠ 2 * i + 2 ∨ t.boxes.length ≤ o ∨ t.kind ≠ .new)
    (hm : (s.head = t.head ∧ s.mark = t.mark) ∨ s.mark = t.mark + 1) : Chg i t s ow (upd ow o c) where
  kind := kind
  len := len
  bx := fun b hlt h1 h2 => by
    by_cases e : b = o
    · subst e
      rcases ho hlt with q | q | q
      · exact q
      · exact absurd q h1
      · exact h2.elim (fun z => absurd q.1 z) fun z => absurd z q.2
    · exact hb b hlt e
  is := fun v P hv x => x.same (by (first | lia | omega)) hn (x.not fun q => by have := hoc q; (first | lia | omega))
  pub := fun hk b hlt q j => by
    by_cases e : b = o
    · subst e
      rw [upd_at]
      rcases hp with z | z | z
      · (first | lia | omega)
      · (first | lia | omega)
      · exact absurd hk z
    · rw [upd_ne ow c e]; exact q j
  hm := hm
theorem chgS {o : Nat} (kind : s.kind = t.kind) (len : s.boxes.length = t.boxes.length) (hb : ∀ b, b < t.boxes.length → b ≠ o → s.boxes[b]? = t.boxes[b]?) (ho : o < t.boxes.length → s.boxes[o]? = t.boxes[o]? ∨ ow o = 2 * i + 2) (hm : (s.head = t.head ∧ s.mark = t.mark) ∨ s.mark = t.mark + 1) : Chg i t s ow ow where
  kind := kind
  len := Nat.le_of_eq len.symm
  bx := fun b hlt h1 h2 => by
    by_cases e : b = o
    · subst e; exact (ho hlt).elim id fun q => absurd q h1
    · exact hb b hlt e
  is := fun v P hv x => by rw [len]; exact x
  pub := fun u_ b u_ q => q
  hm := hm
theorem HI.nil (X : HI t ow i (some w)) (hn : w.next ≠ .walk) : Is t.boxes.length ow (2 * i + 3) (· ∈ ([] : List Nat)) := by
  obtain ⟨c, _, h2, h3⟩ := X.ch
  rw [h3.2 hn] at h2; exact h2
theorem wc_nil {bs : List (Int × Option Nat)} (hn : w.next ≠ .walk) : Wc bs [] (some w) := ⟨fun q => absurd q hn, fun u_ => rfl⟩
theorem Inv.quiet (I : Inv t ow pile) (hh : t.hands[i]? = some h) (X : HI t ow i (some w)) (hn : w.next ≠ .walk) (hn' : w'.next ≠ .walk) (ho : w'.own = w.own) (W : WI t ow w') : Gd t i h (t, some w', d) :=
  I.next hh (chgS (o := 0) rfl rfl (fun u_ u_ u_ => rfl) (fun u_ => .inl rfl) (.inl ⟨rfl, rfl⟩)) I.ch I.nd I.po I.so I.sn ⟨X.own.congr fun b => by show w'.own = some b ↔ w.own = some b; rw [ho], ⟨[], .nil, X.nil hn, wc_nil hn'⟩, fun u_ e => Option.some.inj e ▸ W⟩
theorem Inv.setOwn (I : Inv t ow pile) (hh : t.hands[i]? = some h) (X : HI t ow i (some w)) (hn : w.next ≠ .walk) (hn' : w'.next ≠ .walk) (ho' : w'.own = w.own) {o : Nat} (ho : w.own = some o) {x : Int × Option Nat}
    (W : ∀ t', t'.boxes = t.boxes.set o x → Chg i t t' ow ow → WI t' ow w') : Gd t i h ({ t with boxes := t.boxes.set o x }, some w', d) := by
  have q := (X.own o).mp ho
  have hl : (t.boxes.set o x).length = t.boxes.length := List.length_set ..
  have C : Chg i t { t with boxes := t.boxes.set o x } ow ow := chgS (o := o) rfl hl (fun b u_ hb => List.getElem?_set_ne (Ne.symm hb)) (fun u_ => .inr q.2) (.inl ⟨rfl, rfl⟩)
  refine I.next hh C (I.ch.congr fun b hb => List.getElem?_set_ne fun e => ?_) I.nd (by rw [hl]; exact I.po) (by rw [hl]; exact I.so) I.sn ⟨?_, ⟨[], .nil, by rw [hl]; exact X.nil hn, wc_nil hn'⟩, fun u_ e => Option.some.inj e ▸ W _ rfl C⟩
  · have := ((I.po b).mp hb).2
    rw [← e, q.2] at this; cases this
  · rw [hl]
    exact X.own.congr fun b => by show w'.own = some b ↔ w.own = some b; rw [ho']
theorem nodup_snoc {l : List Nat} {o : Nat} (h : l.Nodup) (ho : o ∉ l) : (l ++ [o]).Nodup := List.nodup_append.mpr ⟨h, List.nodup_cons.mpr ⟨List.not_mem_nil, List.nodup_nil⟩, fun a ha b hb z => ho (by rw [← List.mem_singleton.mp hb, ← z]; exact ha)⟩
set_option tactic.hygienic true in
theorem gdTake (I : Inv t ow pile) (T : TwOk k t) (hh : t.hands[i]? = some h) (X : HI t ow i (some w)) (hn : w.next = .take) (hk : w.deed.k = .push ∨ w.deed.k = .swap) : Gd t i h (opTake t w) := by
  have W := X.wk w rfl
  have h0 := W.tk hn
  have nw : w.next ≠ .walk := by rw [hn]; exact fun q => nomatch q
  have wi : ∀ {s : Tw} {ow' : Ow} {o : Nat}, Chg i t s ow ow' → WI s ow' { w with own := some o, next := .look } := fun C => ⟨fun x m e => C.see (W.see x m e), fun e => (by rcases e with ⟨q, _⟩ | q <;> cases q), fun e => (nomatch e), fun e => (nomatch e), fun n1 n2 => (hk.elim n1 n2 : False).elim, fun e => nomatch e⟩
  unfold opTake
  split
  · have hl : (t.boxes ++ [(w.deed.v, none)]).length = t.boxes.length + 1 := by rw [List.length_append]; rfl
    have hb : ∀ b, b < t.boxes.length → (t.boxes ++ [(w.deed.v, (none : Option Nat))])[b]? = t.boxes[b]? := fun b q => List.getElem?_append_left q
    have hnn : ∀ b, b ≠ t.boxes.length → (b < (t.boxes ++ [(w.deed.v, none)]).length ↔ b < t.boxes.length) := fun b q => by rw [hl]; (first | lia | omega)
    have C : Chg i t { t with boxes := t.boxes ++ [(w.deed.v, none)] } ow (upd ow t.boxes.length (2 * i + 2)) :=
      chgU rfl (by show _ ≤ (t.boxes ++ _).length; rw [hl]; exact Nat.le_succ _) (fun b q u_ => hb b q) (fun q => absurd q (Nat.lt_irrefl _)) (.inr (.inr (.inl rfl))) (fun q => absurd q (Nat.lt_irrefl _)) hnn (.inr (.inl (Nat.le_refl _))) (.inl ⟨rfl, rfl⟩)
    have nt : ∀ {v : Nat} {P : Nat → Prop}, Is t.boxes.length ow v P → ¬ P t.boxes.length := fun x => x.not fun q => absurd q (Nat.lt_irrefl _)
    refine I.next hh C (I.ch.congr fun b q => hb b ((I.po b).mp q).1) I.nd (I.po.same (by (first | lia | omega)) hnn (nt I.po)) (I.so.same (by (first | lia | omega)) hnn (nt I.so)) I.sn ⟨X.own.add (by show _ < (t.boxes ++ _).length; rw [hl]; exact Nat.lt_succ_self _) hnn fun b => ?_, ⟨[], .nil, (X.nil nw).same (by (first | lia | omega)) hnn (List.not_mem_nil), wc_nil (fun q => nomatch q)⟩, fun u_ e => Option.some.inj e ▸ wi C⟩
    show some t.boxes.length = some b ↔ b = t.boxes.length ∨ w.own = some b
    rw [h0]
    exact ⟨fun q => .inl (Option.some.inj q).symm, fun q => q.elim (fun z => by rw [z]) fun z => nomatch z⟩
  · rename_i hc
    obtain ⟨hkd, hs⟩ := not_or.mp hc
    have hm := lastD_mem hs
    obtain ⟨l, e⟩ : ∃ l, t.spare = l ++ [t.spare.getLastD 0] := ⟨t.spare.dropLast, by rw [List.getLastD_eq_getLast?, List.getLast?_eq_some_getLast hs]; exact (List.dropLast_concat_getLast hs).symm⟩
    generalize t.spare.getLastD 0 = o at e hm ⊢
    have ho := (I.so o).mp hm
    have hd : t.spare.dropLast = l := by rw [e, List.dropLast_concat]
    have sn := I.sn
    rw [e, List.nodup_append] at sn
    have nl : o ∉ l := fun q => sn.2.2 o q o List.mem_cons_self rfl
    have hl : (t.boxes.set o (w.deed.v, none)).length = t.boxes.length := List.length_set ..
    have hnn : ∀ b, b ≠ o → (b < (t.boxes.set o (w.deed.v, none)).length ↔ b < t.boxes.length) := fun b u_ => by rw [hl]
    have C : Chg i t { t with spare := t.spare.dropLast, boxes := t.boxes.set o (w.deed.v, none) } ow (upd ow o (2 * i + 2)) :=
      chgU rfl (Nat.le_of_eq hl.symm) (fun b u_ q => List.getElem?_set_ne (Ne.symm q)) (fun u_ => .inr (.inr ⟨ho.2, hkd⟩)) (.inr (.inr (.inl rfl))) (fun u_ => .inr (.inl ho.2)) hnn (.inr (.inr hkd)) (.inl ⟨rfl, rfl⟩)
    have np : o ∉ pile := I.po.not fun u_ => by rw [ho.2]; decide
    refine I.next hh C (I.ch.congr fun b q => List.getElem?_set_ne fun z => np (by rw [z]; exact q)) I.nd (I.po.same (by (first | lia | omega)) hnn np) (I.so.del (by (first | lia | omega)) hnn fun b => ?_) (by show t.spare.dropLast.Nodup; rw [hd]; exact sn.1) ⟨X.own.add (by show o < (t.boxes.set o _).length; rw [hl]; exact ho.1) hnn fun b => ?_, ⟨[], .nil, (X.nil nw).same (by (first | lia | omega)) hnn (List.not_mem_nil), wc_nil (fun q => nomatch q)⟩, fun u_ e => Option.some.inj e ▸ wi C⟩
    · show b ∈ t.spare.dropLast ↔ b ≠ o ∧ b ∈ t.spare
      rw [hd, e]
      exact ⟨fun q => ⟨fun z => nl (z ▸ q), List.mem_append_left _ q⟩, fun q => (List.mem_append.mp q.2).resolve_right fun z => q.1 (List.mem_singleton.mp z)⟩
    · show some o = some b ↔ b = o ∨ w.own = some b
      rw [h0]
      exact ⟨fun q => .inl (Option.some.inj q).symm, fun q => q.elim (fun z => by rw [z]) fun z => nomatch z⟩
theorem see_now (I : Inv t ow pile) : See t ow t.head t.mark := by
  unfold See
  cases hk : t.kind with
  | new => exact fun b e => ⟨(I.ho e).1, fun j => by rw [(I.ho e).2]; (first | lia | omega)⟩
  | _ => exact ⟨Nat.le_refl _, fun u_ => rfl⟩
theorem Inv.over (I : Inv t ow pile) (hh : t.hands[i]? = some h) (X : HI t ow i (some w)) (hn : w.next ≠ .walk) (hw : w.own = none) (eb : s.boxes = t.boxes) (ek : s.kind = t.kind) (e1 : s.head = t.head) (e2 : s.mark = t.mark) (e3 : s.spare = t.spare) : Gd t i h (s, none, d) := by
  refine I.next hh (chgS (o := 0) ek (by rw [eb]) (fun u_ u_ u_ => by rw [eb]) (fun u_ => .inl (by rw [eb])) (.inl ⟨e1, e2⟩)) (by rw [eb, e1]; exact I.ch) I.nd (by rw [eb]; exact I.po) (by rw [eb, e3]; exact I.so) (by rw [e3]; exact I.sn) ⟨?_, ⟨[], .nil, by rw [eb]; exact X.nil hn, rfl⟩, fun u_ e => nomatch e⟩
  rw [eb]
  exact X.own.congr fun b => by show (none : Option Nat) = some b ↔ w.own = some b; rw [hw]
theorem own_gone (X : HI t ow i (some w)) {o c : Nat} (ho : w.own = some o) (hc : c ≠ 2 * i + 2) : Is t.boxes.length (upd ow o c) (2 * i + 2) fun b => (none : Option Wk).bind Wk.own = some b :=
  X.own.del hc (fun u_ u_ => Iff.rfl) fun b => ⟨fun q => (nomatch q), fun q => absurd (Option.some.inj (ho.symm.trans q.2)).symm q.1⟩
end
end Mine


set_option autoImplicit false
set_option linter.unusedVariables false
namespace Mine
open PySem PyProof.Rows
section
variable {t s : Tw} {ow ow' : Ow} {i k : Nat} {h : Hd} {w w' : Wk} {pile : List Nat} {d : Td}
theorem no_ins {w : Wk} {P : Prop} (e : w.next = .look ∨ w.next = .see ∨ w.next = .take ∨ w.deed.k = .push ∨ w.deed.k = .clear) (hc : w.next ≠ .check) (h : (w.next = .put ∧ (w.deed.k = .swap ∨ w.deed.k = .pop)) ∨ w.next = .check) : P := by
  rcases h with ⟨q, z⟩ | q
  · rcases e with e | e | e | e | e
    · rw [e] at q; cases q
    · rw [e] at q; cases q
    · rw [e] at q; cases q
    · rw [e] at z; rcases z with z | z <;> cases z
    · rw [e] at z; rcases z with z | z <;> cases z
  · exact absurd q hc
theorem pile_nil (I : Inv t ow pile) (e : t.head = none) : pile = [] := by
  have := I.ch
  cases pile with
  | nil => rfl
  | cons c r => rw [e] at this; cases this.1
theorem iffT {n : Nat} {o : Nat} : ∀ b, b ≠ o → (b < n ↔ b < n) := fun u_ u_ => Iff.rfl
theorem spare_snoc {n : Nat} {sp : List Nat} {o : Nat} (x : Is n ow 1 (· ∈ sp)) (ho : o < n) : Is n (upd ow o 1) 1 (· ∈ sp ++ [o]) := x.add ho iffT fun b => by rw [List.mem_append, List.mem_singleton]; exact Or.comm
theorem gdLook (I : Inv t ow pile) (hh : t.hands[i]? = some h) (X : HI t ow i (some w)) (hn : w.next = .look) (ho : OwOk t.boxes.length w) : Gd t i h (opLook t i h.place w) := by
  have W := X.wk w rfl
  have nw : w.next ≠ .walk := by rw [hn]; exact fun q => nomatch q
  have some_ : ∀ {nx : Nx} {x : Nat}, t.head = some x → nx = .see ∨ (nx = .put ∧ w.deed.k = .clear) → Gd t i h (t, some { w with seen := some (some x, t.mark), next := nx }, .look (some x) t.mark) := fun {nx x} e hx => by
    have c1 : nx ≠ .check := by rcases hx with z | ⟨z, _⟩ <;> rw [z] <;> exact fun q => nomatch q
    have c2 : nx ≠ .walk := by rcases hx with z | ⟨z, _⟩ <;> rw [z] <;> exact fun q => nomatch q
    have c3 : nx ≠ .take := by rcases hx with z | ⟨z, _⟩ <;> rw [z] <;> exact fun q => nomatch q
    have c4 : ∀ {kk : Dk}, nx = .put → w.deed.k = kk → kk ≠ .clear → False := fun q1 q2 q3 => by
      rcases hx with z | ⟨_, z⟩
      · rw [z] at q1; cases q1
      · exact q3 (q2.symm.trans z)
    refine I.quiet hh X nw c2 rfl ⟨fun y m q => ?_, fun q => ?_, fun q1 q2 => (c4 q1 q2 (fun q => nomatch q)).elim, fun q1 q2 => (c4 q1 q2 (fun q => nomatch q)).elim, W.np, fun q => absurd q c3⟩
    · cases q; exact e ▸ see_now I
    · rcases hx with z | ⟨z, z2⟩
      · exact no_ins (w := { w with seen := some (some x, t.mark), next := nx }) (.inr (.inl z)) c1 q
      · exact no_ins (w := { w with seen := some (some x, t.mark), next := nx }) (.inr (.inr (.inr (.inr z2)))) c1 q
  unfold opLook
  unfold OwOk at ho
  cases hk : w.deed.k with
  | push =>
    rw [hk] at ho
    obtain ⟨o, ho2, ho1⟩ := ho
    show Gd t i h (t.below (w.own.getD 0) t.head, some { w with seen := some (t.head, t.mark), next := .put }, .look t.head t.mark)
    have eo : w.own.getD 0 = o := by rw [ho2]; rfl
    rw [eo]
    refine I.setOwn (w' := { w with seen := some (t.head, t.mark), next := .put }) hh X nw (fun q => nomatch q) rfl ho2 fun t' eb C => ?_
    refine ⟨fun x m e => ?_, fun e => no_ins (w := { w with seen := some (t.head, t.mark), next := .put }) (.inr (.inr (.inr (.inl hk)))) (fun q => nomatch q) e, fun u_ u_ o' x m e1 e2 => ?_, fun u_ e => absurd (hk.symm.trans e) (fun q => nomatch q), fun n1 => absurd hk n1, fun e => nomatch e⟩
    · cases e; exact C.see (see_now I)
    · have e : o = o' := Option.some.inj (ho2.symm.trans e1)
      subst e; cases e2
      exact ⟨_, by rw [eb]; exact List.getElem?_set_self ho1⟩
  | swap =>
    rw [hk] at ho
    obtain ⟨o, ho2, ho1⟩ := ho
    show Gd t i h (match t.head with | some h => _ | none => _)
    cases e : t.head with
    | some x => exact some_ e (.inl rfl)
    | none =>
      show Gd t i h (Tw.ends { t with head := none, spare := t.spare ++ [w.own.getD 0] } i h.place w .none, none, .look none t.mark)
      rw [ho2, Option.getD_some]
      have q := (X.own o).mp ho2
      have hp := pile_nil I e
      subst hp
      have ns : o ∉ t.spare := I.so.not fun u_ => by rw [q.2]; (first | lia | omega)
      refine I.next (ow' := upd ow o 1) (pile' := []) hh (chgU rfl (Nat.le_refl _) (fun u_ u_ u_ => rfl) (fun u_ => .inl rfl) (.inr (.inl rfl)) (fun u_ => .inr (.inr (.inl q.2))) iffT (.inl (by (first | lia | omega))) (.inl ⟨e.symm, rfl⟩)) rfl .nil (I.po.same (by (first | lia | omega)) iffT (fun z => nomatch z)) (spare_snoc I.so q.1) (nodup_snoc I.sn ns) ⟨own_gone X ho2 (by (first | lia | omega)), ⟨[], .nil, (X.nil nw).same (by (first | lia | omega)) iffT (fun z => nomatch z), rfl⟩, fun u_ e => nomatch e⟩
  | clear =>
    have hw := W.np (by rw [hk]; exact fun q => nomatch q) (by rw [hk]; exact fun q => nomatch q)
    show Gd t i h (match t.head with | some h => _ | none => _)
    cases e : t.head with
    | some x => exact some_ e (.inr ⟨rfl, hk⟩)
    | none => exact I.over hh X nw hw rfl rfl rfl rfl rfl
  | pop =>
    have hw := W.np (by rw [hk]; exact fun q => nomatch q) (by rw [hk]; exact fun q => nomatch q)
    show Gd t i h (match t.head with | some h => _ | none => _)
    cases e : t.head with
    | some x => exact some_ e (.inl rfl)
    | none => exact I.over hh X nw hw rfl rfl rfl rfl rfl
  | top =>
    have hw := W.np (by rw [hk]; exact fun q => nomatch q) (by rw [hk]; exact fun q => nomatch q)
    show Gd t i h (match t.head with | some h => _ | none => _)
    cases e : t.head with
    | some x => exact some_ e (.inl rfl)
    | none => exact I.over hh X nw hw rfl rfl rfl rfl rfl
theorem ins_now {b m : Nat} (hb : b < t.boxes.length) : Ins t b m (t.box b) := by
  have e : t.boxes[b]? = some (t.box b) := by unfold Tw.box; rw [List.getElem?_eq_getElem hb]; rfl
  unfold Ins
  cases t.kind with
  | new => exact e
  | _ => exact fun u_ => e
theorem gdSee (I : Inv t ow pile) (hh : t.hands[i]? = some h) (X : HI t ow i (some w)) (hn : w.next = .see) (ho : OwOk t.boxes.length w) {b m : Nat} (hb : b < t.boxes.length) (hs : w.seen = some (some b, m)) (hk3 : w.deed.k = .swap ∨ w.deed.k = .pop ∨ w.deed.k = .top) : Gd t i h (opSee t w) := by
  have W := X.wk w rfl
  have nw : w.next ≠ .walk := by rw [hn]; exact fun q => nomatch q
  have S := W.see _ _ hs
  unfold opSee
  unfold OwOk at ho
  rw [hs]
  dsimp only [Option.getD_some]
  have qt : ∀ {nx : Nx}, w.deed.k ≠ .swap → w.deed.k ≠ .push → (nx = .put ∨ nx = .check) → Gd t i h (t, some { w with seen := some (some b, m), inside := some (t.box b), next := nx }, .see b (t.box b).1 (t.box b).2) := fun {nx} n1 n2 hx => by
    refine I.quiet hh X nw ?_ rfl ⟨fun x m' q => ?_, fun u_ b' m' r q1 q2 => ?_, fun u_ q => absurd q n2, fun u_ q => absurd q n1, W.np, fun q => ?_⟩
    · rcases hx with z | z <;> (show nx ≠ _; rw [z]; exact fun q => nomatch q)
    · cases q; exact S
    · cases q1; cases q2; exact ins_now hb
    · rcases hx with z | z <;> (rw [show nx = _ from q] at z; cases z)
  rcases hk3 with hk | hk | hk
  · rw [hk] at ho ⊢
    obtain ⟨o, ho2, ho1⟩ := ho
    show Gd t i h (t.below (w.own.getD 0) (t.box b).2, some { w with seen := some (some b, m), inside := some (t.box b), next := .put }, _)
    have eo : w.own.getD 0 = o := by rw [ho2]; rfl
    rw [eo]
    refine I.setOwn (w' := { w with seen := some (some b, m), inside := some (t.box b), next := .put }) hh X nw (fun q => nomatch q) rfl ho2 fun t' eb C => ?_
    refine ⟨fun x m' q => ?_, fun u_ b' m' r q1 q2 => ?_, fun u_ e => absurd (hk.symm.trans e) (fun q => nomatch q), fun u_ u_ o' r q1 q2 => ?_, fun u_ n => absurd hk n, fun e => nomatch e⟩
    · cases q; exact C.see S
    · cases q1; cases q2; exact C.ins I S (ins_now hb)
    · have e : o = o' := Option.some.inj (ho2.symm.trans q1)
      subst e; cases q2
      exact ⟨_, by rw [eb]; exact List.getElem?_set_self ho1⟩
  · rw [hk]
    exact qt (by rw [hk]; exact fun q => nomatch q) (by rw [hk]; exact fun q => nomatch q) (.inl rfl)
  · rw [hk]
    exact qt (by rw [hk]; exact fun q => nomatch q) (by rw [hk]; exact fun q => nomatch q) (.inr rfl)
theorem Inv.back (I : Inv t ow pile) (hh : t.hands[i]? = some h) (X : HI t ow i (some w)) (nw : w.next ≠ .walk) : Gd t i h (t, some { w with next := .look }, d) :=
  have W := X.wk w rfl
  I.quiet hh X nw (fun q => nomatch q) rfl ⟨W.see, fun e => no_ins (w := { w with next := .look }) (.inl rfl) (fun q => nomatch q) e, fun e => (nomatch e), fun e => (nomatch e), W.np, fun e => nomatch e⟩
theorem still_is {x : Option Nat} {m : Nat} (h : t.still x m = true) : t.head = x ∧ (t.kind ≠ .marks ∨ t.mark = m) := by
  unfold Tw.still at h
  rw [Bool.and_eq_true, Bool.or_eq_true, decide_eq_true_iff, decide_eq_true_iff, decide_eq_true_iff] at h
  exact h
theorem ins_is (I : Inv t ow pile) {b m : Nat} {r : Int × Option Nat} (h : Ins t b m r) (hm : t.kind ≠ .marks ∨ t.mark = m) : t.boxes[b]? = some r := by
  unfold Ins at h
  rcases I.kd with z | z
  · rw [z] at h hm; exact h (hm.resolve_left fun q => q rfl).symm
  · rw [z] at h; exact h
noncomputable def mvO (ow : Ow) (c : Nat) : Ow := fun b => if ow b = 0 then c else ow b
theorem mv_at {c b : Nat} (h : ow b = 0) : mvO ow c b = c := if_pos h
theorem mv_ne {c b : Nat} (h : ow b ≠ 0) : mvO ow c b = ow b := if_neg h
theorem gdPut (I : Inv t ow pile) (hh : t.hands[i]? = some h) (X : HI t ow i (some w)) (hn : w.next = .put) (ho : OwOk t.boxes.length w) (ht : w.deed.k ≠ .top) {x : Option Nat} {m : Nat} (hs : w.seen = some (x, m)) (hx : w.deed.k ≠ .push → x ≠ none)
    (hi : w.deed.k = .swap ∨ w.deed.k = .pop → ∃ v b, w.inside = some (v, b) ∧ IxOk t.boxes.length b) : Gd t i h (opPut t i h.place w) := by
  have W := X.wk w rfl
  have nw : w.next ≠ .walk := by rw [hn]; exact fun q => nomatch q
  have es : w.seen.getD (none, 0) = (x, m) := by rw [hs]; rfl
  unfold opPut
  dsimp only
  rw [es]
  dsimp only
  cases hst : t.still x m with
  | false => exact I.back hh X nw
  | true =>
    obtain ⟨hx1, hx2⟩ := still_is hst
    unfold OwOk at ho
    cases hk : w.deed.k with
    | top => exact absurd hk ht
    | clear =>
      have hw := W.np (by rw [hk]; exact fun q => nomatch q) (by rw [hk]; exact fun q => nomatch q)
      have mv : ∀ {v : Nat} {P : Nat → Prop}, v ≠ 0 → v ≠ 2 * i + 3 → Is t.boxes.length ow v P → Is t.boxes.length (mvO ow (2 * i + 3)) v P := fun {v P} n1 n2 y b => by
        rw [y b]
        by_cases z : ow b = 0
        · rw [mv_at z, z]; exact ⟨fun q => absurd q.2.symm n1, fun q => absurd q.2.symm n2⟩
        · rw [mv_ne z]
      have C : Chg i t { t with mark := t.mark + 1, head := none, rows := t.rows ++ [⟨i, h.place, w.deed, w.begun, t.time, none⟩] } ow (mvO ow (2 * i + 3)) := ⟨rfl, Nat.le_refl _, fun u_ u_ u_ u_ => rfl, fun v P hv y => mv hv.1.1 hv.2.2 y, fun u_ b u_ q j => by
        by_cases z : ow b = 0
        · rw [mv_at z]; (first | lia | omega)
        · rw [mv_ne z]; exact q j, .inr rfl⟩
      refine I.next (pile' := []) hh C rfl .nil (fun b => ?_) (mv (by (first | lia | omega)) (by (first | lia | omega)) I.so) I.sn ⟨(mv (by (first | lia | omega)) (by (first | lia | omega)) X.own), ⟨pile, I.nd, fun b => ?_, ⟨fun u_ => ⟨I.ch, hw⟩, fun q => absurd rfl q⟩⟩, fun w' e => ?_⟩
      · refine ⟨fun q => (nomatch q), fun q => ?_⟩
        have := q.2
        by_cases z : ow b = 0
        · rw [mv_at z] at this; (first | lia | omega)
        · rw [mv_ne z] at this; exact absurd this z
      · refine (I.po b).trans ?_
        by_cases z : ow b = 0
        · rw [mv_at z]; exact ⟨fun q => ⟨q.1, rfl⟩, fun q => ⟨q.1, z⟩⟩
        · rw [mv_ne z]
          refine ⟨fun q => absurd q.2 z, fun q => ?_⟩
          have := (X.nil nw b).mpr q
          cases this
      · cases e
        exact ⟨fun x' m' q => C.see (W.see x' m' q), fun e => no_ins (w := { w with row := some t.rows.length, walk := t.head, next := .walk }) (.inr (.inr (.inr (.inr hk)))) (fun q => nomatch q) e, fun e => (nomatch e), fun e => (nomatch e), W.np, fun e => nomatch e⟩
    | push =>
      rw [hk] at ho
      obtain ⟨o, ho2, ho1⟩ := ho
      have q := (X.own o).mp ho2
      obtain ⟨v, hv⟩ := W.push hn hk o x m ho2 hs
      have np : o ∉ pile := I.po.not fun u_ => by rw [q.2]; (first | lia | omega)
      have ns : o ∉ t.spare := I.so.not fun u_ => by rw [q.2]; (first | lia | omega)
      refine I.next (ow' := upd ow o 0) (pile' := o :: pile) hh (chgU rfl (Nat.le_refl _) (fun u_ u_ u_ => rfl) (fun u_ => .inl rfl) (.inl rfl) (fun u_ => .inr (.inr (.inl q.2))) iffT (.inl (by (first | lia | omega))) (.inr rfl)) ?_ (List.nodup_cons.mpr ⟨np, I.nd⟩) (I.po.add q.1 iffT fun b => List.mem_cons) (I.so.same (by (first | lia | omega)) iffT ns) I.sn ⟨own_gone X ho2 (by (first | lia | omega)), ⟨[], .nil, (X.nil nw).same (by (first | lia | omega)) iffT (fun z => nomatch z), rfl⟩, fun u_ e => nomatch e⟩
      exact ⟨ho2, v, x, hv, hx1 ▸ I.ch⟩
    | pop =>
      have hw := W.np (by rw [hk]; exact fun q => nomatch q) (by rw [hk]; exact fun q => nomatch q)
      obtain ⟨v0, b0, hin, _⟩ := hi (.inr hk)
      cases x with
      | none => exact absurd rfl (hx (by rw [hk]; exact fun q => nomatch q))
      | some b =>
        have hb := ins_is I (W.ins (.inl ⟨hn, .inr hk⟩) b m _ hs hin) hx2
        have ch := I.ch
        rw [hx1] at ch
        cases hpl : pile with
        | nil => rw [hpl] at ch; cases ch
        | cons c tl =>
          subst hpl
          obtain ⟨e1, v, u, h1, h2⟩ := ch
          have e1 : b = c := Option.some.inj e1
          subst e1
          rw [hb] at h1
          cases h1
          have qb := (I.po b).mp List.mem_cons_self
          have nd := List.nodup_cons.mp I.nd
          have ns : b ∉ t.spare := I.so.not fun u_ => by rw [qb.2]; decide
          rw [hin, hx1]
          refine I.next (ow' := upd ow b 1) (pile' := tl) hh (chgU rfl (Nat.le_refl _) (fun u_ u_ u_ => rfl) (fun u_ => .inl rfl) (.inr (.inl rfl)) (fun u_ => .inl qb.2) iffT (.inl (by (first | lia | omega))) (.inr rfl)) h2 nd.2 (I.po.del (by (first | lia | omega)) iffT fun y => ⟨fun z => ⟨fun e => nd.1 (e ▸ z), List.mem_cons_of_mem _ z⟩, fun z => (List.mem_cons.mp z.2).resolve_left z.1⟩) (spare_snoc I.so qb.1) (nodup_snoc I.sn ns) ⟨?_, ⟨[], .nil, (X.nil nw).same (by (first | lia | omega)) iffT (fun z => nomatch z), rfl⟩, fun u_ e => nomatch e⟩
          refine (X.own.same (by (first | lia | omega)) iffT (X.own.not fun u_ => by rw [qb.2]; (first | lia | omega))).congr fun y => ?_
          show (none : Option Nat) = some y ↔ w.own = some y
          rw [hw]
    | swap =>
      rw [hk] at ho
      obtain ⟨o, ho2, ho1⟩ := ho
      have q := (X.own o).mp ho2
      obtain ⟨v0, b0, hin, _⟩ := hi (.inl hk)
      obtain ⟨vo, hvo⟩ := W.swap hn hk o _ ho2 hin
      cases x with
      | none => exact absurd rfl (hx (by rw [hk]; exact fun q => nomatch q))
      | some b =>
        have hb := ins_is I (W.ins (.inl ⟨hn, .inl hk⟩) b m _ hs hin) hx2
        have ch := I.ch
        rw [hx1] at ch
        cases hpl : pile with
        | nil => rw [hpl] at ch; cases ch
        | cons c tl =>
          subst hpl
          obtain ⟨e1, v, u, h1, h2⟩ := ch
          have e1 : b = c := Option.some.inj e1
          subst e1
          rw [hb] at h1
          cases h1
          have qb := (I.po b).mp List.mem_cons_self
          have nd := List.nodup_cons.mp I.nd
          have ns : b ∉ t.spare := I.so.not fun u_ => by rw [qb.2]; decide
          have no : o ∉ t.spare := I.so.not fun u_ => by rw [q.2]; (first | lia | omega)
          have np : o ∉ b :: tl := I.po.not fun u_ => by rw [q.2]; (first | lia | omega)
          have ne : b ≠ o := fun e => np (e ▸ List.mem_cons_self)
          have po1 : Is t.boxes.length (upd ow o 0) 0 (· ∈ o :: b :: tl) := I.po.add q.1 iffT fun y => List.mem_cons
          have C : Chg i t { t with mark := t.mark + 1, head := w.own, spare := t.spare ++ [b], rows := t.rows ++ [⟨i, h.place, w.deed, w.begun, t.time, some (t.time, .int v0)⟩] } ow (upd (upd ow o 0) b 1) := ⟨rfl, Nat.le_refl _, fun u_ u_ u_ u_ => rfl, fun v P hv y => (y.same (c := 0) (o := o) (by (first | lia | omega)) iffT (y.not fun u_ => by rw [q.2]; (first | lia | omega))).same (by (first | lia | omega)) iffT (y.not fun u_ => by rw [qb.2]; (first | lia | omega)), fun u_ y u_ z j => by
            by_cases e1 : y = b
            · subst e1; rw [upd_at]; (first | lia | omega)
            · rw [upd_ne _ _ e1]
              by_cases e2 : y = o
              · subst e2; rw [upd_at]; (first | lia | omega)
              · rw [upd_ne _ _ e2]; exact z j, .inr rfl⟩
          rw [hin, hx1]
          refine I.next (pile' := o :: tl) hh C ⟨ho2, vo, _, hvo, h2⟩ (List.nodup_cons.mpr ⟨fun z => np (List.mem_cons_of_mem _ z), nd.2⟩) (po1.del (by (first | lia | omega)) iffT fun y => ?_) (spare_snoc (I.so.same (by (first | lia | omega)) iffT no) qb.1) (nodup_snoc I.sn ns) ⟨?_, ⟨[], .nil, ((X.nil nw).same (c := 0) (o := o) (by (first | lia | omega)) iffT (fun z => nomatch z)).same (by (first | lia | omega)) iffT (fun z => nomatch z), rfl⟩, fun u_ e => nomatch e⟩
          · show y ∈ o :: tl ↔ y ≠ b ∧ y ∈ o :: b :: tl
            constructor
            · intro z
              rcases List.mem_cons.mp z with z | z
              · exact ⟨fun e => ne (e ▸ z), z ▸ List.mem_cons_self⟩
              · exact ⟨fun e => nd.1 (e ▸ z), List.mem_cons_of_mem _ (List.mem_cons_of_mem _ z)⟩
            · rintro ⟨z1, z2⟩
              rcases List.mem_cons.mp z2 with z | z
              · exact z ▸ List.mem_cons_self
              · exact List.mem_cons_of_mem _ ((List.mem_cons.mp z).resolve_left z1)
          · exact (own_gone X ho2 (c := 0) (by (first | lia | omega))).same (by (first | lia | omega)) iffT (fun z => nomatch z)
theorem gdCheck (I : Inv t ow pile) (hh : t.hands[i]? = some h) (X : HI t ow i (some w)) (hn : w.next = .check) (hk : w.deed.k = .top) : Gd t i h (opCheck t i h.place w) := by
  have W := X.wk w rfl
  have nw : w.next ≠ .walk := by rw [hn]; exact fun q => nomatch q
  have hw := W.np (by rw [hk]; exact fun q => nomatch q) (by rw [hk]; exact fun q => nomatch q)
  unfold opCheck
  dsimp only
  cases t.still (w.seen.getD (none, 0)).1 (w.seen.getD (none, 0)).2 with
  | true => exact I.over hh X nw hw rfl rfl rfl rfl rfl
  | false => exact I.back hh X nw
theorem box_is {o : Nat} {r : Int × Option Nat} (h : t.boxes[o]? = some r) : t.box o = r := by unfold Tw.box; rw [h]; rfl
theorem gdWalk (I : Inv t ow pile) (hh : t.hands[i]? = some h) (X : HI t ow i (some w)) (hn : w.next = .walk) {b : Nat} (hb : w.walk = some b) : Gd t i h (opWalk t w) := by
  have W := X.wk w rfl
  obtain ⟨c, nd, hc, h3⟩ := X.ch
  obtain ⟨ch, hw⟩ := h3.1 hn
  rw [hb] at ch
  cases c with
  | nil => cases ch
  | cons c r =>
    obtain ⟨e1, v, u, h1, h2⟩ := ch
    have e1 : b = c := Option.some.inj e1
    subst e1
    have qb := (hc b).mp List.mem_cons_self
    have nd := List.nodup_cons.mp nd
    have ns : b ∉ t.spare := I.so.not fun u_ => by rw [qb.2]; (first | lia | omega)
    have np : b ∉ pile := I.po.not fun u_ => by rw [qb.2]; (first | lia | omega)
    have C : ∀ {s : Tw}, s.kind = t.kind → s.boxes = t.boxes → s.head = t.head → s.mark = t.mark → Chg i t s ow (upd ow b 1) := fun {s} k1 k2 k3 k4 => chgU k1 (by rw [k2]; exact Nat.le_refl _) (fun u_ u_ u_ => by rw [k2]) (fun u_ => .inl (by rw [k2])) (.inr (.inl rfl)) (fun u_ => .inr (.inr (.inr qb.2))) (fun u_ u_ => by rw [k2]) (.inl (by (first | lia | omega))) (.inl ⟨k3, k4⟩)
    have ci : Is t.boxes.length (upd ow b 1) (2 * i + 3) (· ∈ r) := hc.del (by (first | lia | omega)) iffT fun y => ⟨fun z => ⟨fun e => nd.1 (e ▸ z), List.mem_cons_of_mem _ z⟩, fun z => (List.mem_cons.mp z.2).resolve_left z.1⟩
    have oi : Is t.boxes.length (upd ow b 1) (2 * i + 2) fun y => w.own = some y := X.own.same (by (first | lia | omega)) iffT (X.own.not fun u_ => by rw [qb.2]; (first | lia | omega))
    unfold opWalk
    rw [hb]
    dsimp only [Option.getD_some]
    rw [box_is h1]
    dsimp only
    cases u with
    | some u =>
      refine I.next (ow' := upd ow b 1) (pile' := pile) hh (C rfl rfl rfl rfl) I.ch I.nd (I.po.same (by (first | lia | omega)) iffT np) (spare_snoc I.so qb.1) (nodup_snoc I.sn ns) ⟨oi, ⟨r, nd.2, ci, ⟨fun u_ => ⟨h2, hw⟩, fun q => absurd hn q⟩⟩, fun w' e => ?_⟩
      cases e
      have no : ∀ (nx : Nx) {P : Prop}, nx ≠ .walk → w.next = nx → P := fun nx {P} n e => absurd (e.symm.trans hn) n
      exact ⟨fun x' m' q => (C rfl rfl rfl rfl).see (W.see x' m' q), fun e => e.elim (fun z => no .put (fun q => nomatch q) z.1) fun z => no .check (fun q => nomatch q) z, fun e => no .put (fun q => nomatch q) e, fun e => no .put (fun q => nomatch q) e, W.np, fun e => no .take (fun q => nomatch q) e⟩
    | none =>
      cases r with
      | cons y r => cases h2.1
      | nil =>
        refine I.next (ow' := upd ow b 1) (pile' := pile) hh (C rfl rfl rfl rfl) I.ch I.nd (I.po.same (by (first | lia | omega)) iffT np) (spare_snoc I.so qb.1) (nodup_snoc I.sn ns) ⟨oi.congr fun y => ?_, ⟨[], .nil, ci, rfl⟩, fun u_ e => nomatch e⟩
        show (none : Option Nat) = some y ↔ w.own = some y
        rw [hw]
theorem HI.now (X : HI t ow i h.work) (hn : h.now t.time = some w) : HI t ow i (some w) := by
  unfold Hd.now at hn
  cases e : h.work with
  | some w1 => rw [e] at hn X; cases hn; exact X
  | none =>
    rw [e] at hn X
    obtain ⟨d, _, rfl⟩ := Option.map_eq_some_iff.mp hn
    obtain ⟨c, h1, h2, h3⟩ := X.ch
    have nw : (newW d t.time).next ≠ .walk := by show firstN d.k ≠ .walk; cases d.k <;> exact fun q => nomatch q
    refine ⟨X.own, ⟨c, h1, h2, ⟨fun q => absurd q nw, fun u_ => h3⟩⟩, fun w e => ?_⟩
    cases e
    refine ⟨fun x m q => (nomatch q), fun u_ b m r q => (nomatch q), fun u_ u_ o x m q => (nomatch q), fun u_ u_ o r q => (nomatch q), fun u_ u_ => rfl, fun u_ => rfl⟩
theorem Inv.step (I : Inv t ow pile) (A : AllOk k t) : ∃ ow' pile', Inv (step t i).1 ow' pile' := by
  unfold Mine.step
  cases hh : t.hands[i]? with
  | none => exact ⟨ow, pile, I⟩
  | some h =>
    show ∃ ow' pile', Inv (match h.now t.time with | none => _ | some w => _ : Tw × Td).1 ow' pile'
    cases hn : h.now t.time with
    | none => exact ⟨ow, pile, ⟨I.kd, I.ch, I.nd, I.po, I.so, I.sn, fun j => ⟨(I.hi j).own, (I.hi j).ch, fun w e => ⟨((I.hi j).wk w e).see, ((I.hi j).wk w e).ins, ((I.hi j).wk w e).push, ((I.hi j).wk w e).swap, ((I.hi j).wk w e).np, ((I.hi j).wk w e).tk⟩⟩⟩⟩
    | some w =>
      have X0 := I.hi i
      have e0 : workAt t i = h.work := by unfold workAt; rw [hh]; rfl
      rw [e0] at X0
      have X := X0.now hn
      have HK := A.hd h (List.mem_of_getElem? hh)
      have hw : WkOk k t.boxes.length t.rows.length w := by
        unfold Hd.now at hn
        cases e : h.work with
        | some w1 => rw [e] at hn; cases hn; exact (HK.work w e).2
        | none =>
          rw [e] at hn
          obtain ⟨d, h1, h2⟩ := Option.map_eq_some_iff.mp hn
          subst h2
          exact newW_ok d
      have S := hw.2
      unfold StOk at S
      show Gd t i h (op t i h.place w)
      unfold op
      cases hx : w.next with
      | take => rw [hx] at S; exact gdTake I A.tw hh X hx S.2
      | look => rw [hx] at S; exact gdLook I hh X hx S.2
      | see =>
        rw [hx] at S
        obtain ⟨_, a, b, c, m, d1, e⟩ := S
        exact gdSee I hh X hx a d1 e b
      | put =>
        rw [hx] at S
        obtain ⟨_, a, b, x, m, _, c, d1, e⟩ := S
        exact gdPut I hh X hx a b c d1 e
      | check =>
        rw [hx] at S
        exact gdCheck I hh X hx S.2.1
      | walk =>
        rw [hx] at S
        obtain ⟨_, ⟨b, _, e⟩, _⟩ := S
        exact gdWalk I hh X hx e
theorem ch0 (xs : List Int) : ∀ (n i : Nat), i + n = xs.length → Ch (bx0 xs) (if i = xs.length then none else some i) (List.range' i n) := by
  intro n
  induction n with
  | zero => intro i h; rw [if_pos (show i = xs.length from h)]; rfl
  | succ n ih =>
    intro i h
    have hi : i < xs.length := by (first | lia | omega)
    rw [if_neg (Nat.ne_of_lt hi), List.range'_succ]
    exact ⟨rfl, _, _, bx0_at (List.getElem?_eq_getElem hi), ih (i + 1) (by (first | lia | omega))⟩
theorem inv0 {kd : Kn} {xs : List Int} {ps : List (List Deed)} (hk : kd = .marks ∨ kd = .new) : Inv (tw0 kd xs ps) (fun u_ => 0) (List.range' 0 xs.length) := by
  have g := ch0 xs xs.length 0 (Nat.zero_add _)
  have none_ : ∀ {v : Nat}, v ≠ 0 → Is (bx0 xs).length (fun u_ => 0) v fun u_ => False := fun hv b => ⟨False.elim, fun q => hv q.2.symm⟩
  refine ⟨hk, ?_, List.nodup_range', fun b => ?_, (none_ (by decide)).congr fun b => ⟨fun q => (nomatch q), False.elim⟩, List.nodup_nil, fun i => ?_⟩
  · show Ch (bx0 xs) (if xs.length = 0 then none else some 0) _
    simp only [eq_comm (a := (0 : Nat))] at g
    exact g
  · show b ∈ List.range' 0 xs.length ↔ b < (bx0 xs).length ∧ 0 = 0
    rw [bx0_len, List.mem_range'_1]
    (first | lia | omega)
  · have e : workAt (tw0 kd xs ps) i = none := by
      show ((ps.map fun p => (⟨p, 0, none⟩ : Hd))[i]?).bind Hd.work = none
      rw [List.getElem?_map]
      cases ps[i]? <;> rfl
    rw [e]
    exact ⟨(none_ (by (first | lia | omega))).congr fun b => ⟨fun q => (nomatch q), False.elim⟩, ⟨[], .nil, (none_ (by (first | lia | omega))).congr fun b => ⟨fun q => (nomatch q), False.elim⟩, rfl⟩, fun w e => nomatch e⟩
end
end Mine


set_option autoImplicit false
set_option linter.unusedVariables false
set_option maxRecDepth 100000
namespace Mine
open PySem PyProof.Rows
noncomputable def g_KINDS : AV := .tup [.str "marks", .str "bare", .str "new"]
noncomputable def g_MOST_VALUES : AV := .int 60
noncomputable def g_MOST_PROGRAMS : AV := .int 20
noncomputable def g_MOST_DEEDS : AV := .int 60
noncomputable def g_FIRST : AV := .cdict [("push", "take"), ("swap", "take"), ("pop", "look"), ("top", "look"), ("clear", "look")]
noncomputable def g_BEHIND_LOOK : AV := .cdict [("push", "put"), ("swap", "see"), ("pop", "see"), ("top", "see"), ("clear", "put")]
noncomputable def g_BEHIND_SEE : AV := .cdict [("swap", "put"), ("pop", "put"), ("top", "check")]
noncomputable def P08 : Pg := ⟨fnOf PySem.Challenge.pw_uf020017_08, lookG [("KINDS", g_KINDS), ("MOST_VALUES", g_MOST_VALUES), ("MOST_PROGRAMS", g_MOST_PROGRAMS), ("MOST_DEEDS", g_MOST_DEEDS), ("FIRST", g_FIRST), ("BEHIND_LOOK", g_BEHIND_LOOK), ("BEHIND_SEE", g_BEHIND_SEE)], fun p => ([(46, 12, 14), (55, 12, 91), (56, 76, 78), (56, 115, 117), (61, 20, 38), (65, 21, 41), (66, 21, 41), (67, 20, 39), (68, 21, 23), (75, 12, 14), (83, 11, 31), (85, 11, 79), (95, 12, 42), (95, 13, 15), (203, 151, 153), (259, 20, 56), (259, 21, 23), (264, 19, 21), (268, 27, 116)] : List (Nat × Nat × Nat)).contains (p.line, p.col, p.endCol)⟩
theorem c_is_whole_0 (cf : Str → List AV → M AV) (v_thing : AV) : tl P08 cf "is_whole" [] 0 40 [some v_thing] = (do let y9 ← (do let v1 ← (do let v7 ← pure v_thing; let b8 ← pIsi v7 .int; pure (.bool b8)); let t2 ← truth v1; match t2 with | false => pure v1 | true => (do let v3 ← (do let v5 ← pure v_thing; let b6 ← pIsi v5 .bool; pure (.bool b6)); let b4 ← truth v3; pure (.bool !b4))); pure (.ret y9)) := by kernel_rfl
theorem c_need_all_0 (cf : Str → List AV → M AV) (v_start v_programs v_kind : AV) : tl P08 cf "need_all" [] 0 40 [some v_start, some v_programs, some v_kind, none, none, none] = (do let c1 ← (do let t2 ← (do let b3 ← (do let v6 ← (do let v4 ← pure v_kind; let b5 ← pIsi v4 .str; pure (.bool b5)); truth v6); pure (!b3)); match t2 with | true => pure true | false => (do let t7 ← (pCmp .NotIn v_kind g_KINDS); match t7 with | true => pure true | false => pure false)); match c1 with | true => (do let r ← stuck; goOn (tl P08 cf "need_all" [] 1 39) r) | false => (do let r ← pure (.next [some v_start, some v_programs, some v_kind, none, none, none]); goOn (tl P08 cf "need_all" [] 1 39) r)) := by kernel_rfl
theorem c_need_all_t_1 (cf : Str → List AV → M AV) (v_start : AV) (o_programs o_kind o_value o_program o_deed : Option AV) : tl P08 cf "need_all" [] 1 39 [some v_start, o_programs, o_kind, o_value, o_program, o_deed] = (do let c1 ← (do let v2 ← (pBI false .len [v_start]); pCmp .Gt v2 g_MOST_VALUES); match c1 with | true => (do let r ← stuck; goOn (tl P08 cf "need_all" [] 2 38) r) | false => (do let r ← pure (.next [some v_start, o_programs, o_kind, o_value, o_program, o_deed]); goOn (tl P08 cf "need_all" [] 2 38) r)) := by kernel_rfl
theorem c_need_all_t_2 (cf : Str → List AV → M AV) (v_start : AV) (o_programs o_kind o_value o_program o_deed : Option AV) : tl P08 cf "need_all" [] 2 38 [some v_start, o_programs, o_kind, o_value, o_program, o_deed] = (do let it1 ← pure v_start; let src2 ← srcOf it1; let r ← forLoop src2 (forB P08 cf "need_all" [] 2 37) FUEL 0 [some v_start, o_programs, o_kind, o_value, o_program, o_deed]; goOn (tl P08 cf "need_all" [] 3 37) r) := by kernel_rfl
theorem c_need_all_t_3 (cf : Str → List AV → M AV) (v_programs : AV) (o_start o_kind o_value o_program o_deed : Option AV) : tl P08 cf "need_all" [] 3 37 [o_start, some v_programs, o_kind, o_value, o_program, o_deed] = (do let c1 ← (do let v2 ← (pBI false .len [v_programs]); pCmp .Gt v2 g_MOST_PROGRAMS); match c1 with | true => (do let r ← stuck; goOn (tl P08 cf "need_all" [] 4 36) r) | false => (do let r ← pure (.next [o_start, some v_programs, o_kind, o_value, o_program, o_deed]); goOn (tl P08 cf "need_all" [] 4 36) r)) := by kernel_rfl
theorem c_need_all_for_2 (cf : Str → List AV → M AV) (o_start o_programs o_kind o_value o_program o_deed : Option AV) (a : AV) : forB P08 cf "need_all" [] 2 37 a [o_start, o_programs, o_kind, o_value, o_program, o_deed] = (do let c1 ← (do let b2 ← (do let v3 ← (cf "is_whole" [a]); truth v3); pure (!b2)); match c1 with | true => (do let r ← stuck; goOn (fun σ => pure (.next σ)) r) | false => (do let r ← pure (.next [o_start, o_programs, o_kind, some a, o_program, o_deed]); goOn (fun σ => pure (.next σ)) r)) := by kernel_rfl
theorem c_need_all_t_4 (cf : Str → List AV → M AV) (v_programs : AV) (o_start o_kind o_value o_program o_deed : Option AV) : tl P08 cf "need_all" [] 4 36 [o_start, some v_programs, o_kind, o_value, o_program, o_deed] = (do let it1 ← pure v_programs; let src2 ← srcOf it1; let r ← forLoop src2 (forB P08 cf "need_all" [] 4 35) FUEL 0 [o_start, some v_programs, o_kind, o_value, o_program, o_deed]; goOn (fun σ => pure (.next σ)) r) := by kernel_rfl
theorem c_need_all_for_4 (cf : Str → List AV → M AV) (o_start o_programs o_kind o_value o_program o_deed : Option AV) (a : AV) : forB P08 cf "need_all" [] 4 35 a [o_start, o_programs, o_kind, o_value, o_program, o_deed] = (do let c1 ← (do let v2 ← (pBI false .len [a]); pCmp .Gt v2 g_MOST_DEEDS); match c1 with | true => (do let r ← stuck; goOn (tl P08 cf "need_all" [(4, 0)] 1 34) r) | false => (do let r ← pure (.next [o_start, o_programs, o_kind, o_value, some a, o_deed]); goOn (tl P08 cf "need_all" [(4, 0)] 1 34) r)) := by kernel_rfl
theorem c_need_all_t40_1 (cf : Str → List AV → M AV) (v_program : AV) (o_start o_programs o_kind o_value o_deed : Option AV) : tl P08 cf "need_all" [(4, 0)] 1 34 [o_start, o_programs, o_kind, o_value, some v_program, o_deed] = (do let it1 ← pure v_program; let src2 ← srcOf it1; let r ← forLoop src2 (forB P08 cf "need_all" [(4, 0)] 1 33) FUEL 0 [o_start, o_programs, o_kind, o_value, some v_program, o_deed]; goOn (fun σ => pure (.next σ)) r) := by kernel_rfl
theorem c_need_all_for40_1 (cf : Str → List AV → M AV) (o_start o_programs o_kind o_value o_program o_deed : Option AV) (a : AV) : forB P08 cf "need_all" [(4, 0)] 1 33 a [o_start, o_programs, o_kind, o_value, o_program, o_deed] = (do let c1 ← (do let b2 ← (do let v3 ← (cf "is_deed" [a]); truth v3); pure (!b2)); match c1 with | true => (do let r ← stuck; goOn (fun σ => pure (.next σ)) r) | false => (do let r ← pure (.next [o_start, o_programs, o_kind, o_value, o_program, some a]); goOn (fun σ => pure (.next σ)) r)) := by kernel_rfl
theorem c_tower_of_0 (cf : Str → List AV → M AV) (v_start v_programs v_kind : AV) : tl P08 cf "tower_of" [] 0 40 [some v_start, some v_programs, some v_kind, none, none, none, none, none, none] = (do let _ ← (cf "need_all" [v_start, v_programs, v_kind]); (do let boxes1 ← (newL true []); (do let it2 ← pure v_start; let _ ← listOf it2; let src3 ← srcOf it2; let r ← forLoop (.enum src3) (forB P08 cf "tower_of" [] 2 37) FUEL 0 [some v_start, some v_programs, some v_kind, some boxes1, none, none, none, none, none]; goOn (tl P08 cf "tower_of" [] 3 37) r))) := by kernel_rfl
theorem c_tower_of_t_3 (cf : Str → List AV → M AV) (v_start : AV) (o_programs o_kind o_boxes o_number o_value o_below o_head o_hands : Option AV) : tl P08 cf "tower_of" [] 3 37 [some v_start, o_programs, o_kind, o_boxes, o_number, o_value, o_below, o_head, o_hands] = (do let c1 ← (do let v2 ← (pBI false .len [v_start]); pCmp .Gt v2 (.int 0)); match c1 with | true => (do let r ← pure (.next [some v_start, o_programs, o_kind, o_boxes, o_number, o_value, o_below, some (.int 0), o_hands]); goOn (tl P08 cf "tower_of" [] 5 35) r) | false => (do let r ← pure (.next [some v_start, o_programs, o_kind, o_boxes, o_number, o_value, o_below, some (.none), o_hands]); goOn (tl P08 cf "tower_of" [] 5 35) r)) := by kernel_rfl
theorem c_tower_of_for_2 (cf : Str → List AV → M AV) (v_start : AV) (o_programs o_kind o_boxes o_number o_value o_below o_head o_hands : Option AV) (a b : AV) : forB P08 cf "tower_of" [] 2 37 (.tup [a, b]) [some v_start, o_programs, o_kind, o_boxes, o_number, o_value, o_below, o_head, o_hands] = (do let below1 ← (pBin false .Add a (.int 1)); (do let c2 ← ((do let c3 ← (pBI false .len [v_start]); pCmp .Eq below1 c3)); match c2 with | true => (do let r ← pure (.next [some v_start, o_programs, o_kind, o_boxes, some a, some b, some (.none), o_head, o_hands]); goOn (tl P08 cf "tower_of" [(2, 0)] 2 35) r) | false => (do let r ← pure (.next [some v_start, o_programs, o_kind, o_boxes, some a, some b, some below1, o_head, o_hands]); goOn (tl P08 cf "tower_of" [(2, 0)] 2 35) r))) := by kernel_rfl
theorem c_tower_of_t_5 (cf : Str → List AV → M AV) (v_programs v_kind v_boxes v_head : AV) (o_start o_number o_value o_below o_hands : Option AV) : tl P08 cf "tower_of" [] 5 35 [o_start, some v_programs, some v_kind, some v_boxes, o_number, o_value, o_below, some v_head, o_hands] = (do let hands8 ← (do let it5 ← pure v_programs; let src6 ← srcOf it5; let ys7 ← compLoop src6 (fun u1 => (do let y2 ← (do let vs3 ← eachM [(pBI false .tuple [u1]), pure (.int 0), pure (.none)]; newD (List.zip (["program", "place", "work"] : List Str) vs3)); pure (some y2))) FUEL 0 []; newL true ys7); (do let y10 ← (do let vs9 ← eachM [pure v_kind, pure v_boxes, pure v_head, pure (.int 0), (newL true []), pure hands8, pure (.int 0), (newL true [])]; newD (List.zip (["kind", "boxes", "head", "mark", "spare", "hands", "time", "rows"] : List Str) vs9)); pure (.ret y10))) := by kernel_rfl
theorem c_tower_of_t20_2 (cf : Str → List AV → M AV) (v_boxes v_value v_below : AV) (o_start o_programs o_kind o_number o_head o_hands : Option AV) : tl P08 cf "tower_of" [(2, 0)] 2 35 [o_start, o_programs, o_kind, some v_boxes, o_number, some v_value, some v_below, o_head, o_hands] = (do let _ ← (do let o1 ← pure v_boxes; let _ ← listOf o1; (pMeth "append" o1 [.tup [v_value, v_below]])); pure (.next [o_start, o_programs, o_kind, some v_boxes, o_number, some v_value, some v_below, o_head, o_hands])) := by kernel_rfl
theorem c_copied_work_0 (cf : Str → List AV → M AV) (v_work : AV) : tl P08 cf "copied_work" [] 0 40 [some v_work, none] = (do let c1 ← (pCmp .Is v_work (.none)); match c1 with | true => (do let r ← pure (.ret (.none)); goOn (tl P08 cf "copied_work" [] 1 39) r) | false => (do let r ← pure (.next [some v_work, none]); goOn (tl P08 cf "copied_work" [] 1 39) r)) := by kernel_rfl
theorem c_copied_work_t_1 (cf : Str → List AV → M AV) (v_work : AV) (o_found : Option AV) : tl P08 cf "copied_work" [] 1 39 [some v_work, o_found] = (do let found1 ← (pBI false .dict [v_work]); (do let v3 ← (do let vs2 ← eachM [(pItem v_work (.str "kept"))]; pBI true .list vs2); pStore found1 (.str "kept") v3; pure (.ret found1))) := by kernel_rfl
theorem c_copied_0 (cf : Str → List AV → M AV) (v_state : AV) : tl P08 cf "copied" [] 0 40 [some v_state, none, none, none] = (do let found1 ← (pBI false .dict [v_state]); (do let v3 ← (do let vs2 ← eachM [(pItem v_state (.str "boxes"))]; pBI true .list vs2); pStore found1 (.str "boxes") v3; (do let v5 ← (do let vs4 ← eachM [(pItem v_state (.str "spare"))]; pBI true .list vs4); pStore found1 (.str "spare") v5; (do let v7 ← (do let vs6 ← eachM [(pItem v_state (.str "rows"))]; pBI true .list vs6); pStore found1 (.str "rows") v7; (do let v8 ← (newL true []); pStore found1 (.str "hands") v8; (do let it9 ← (pItem v_state (.str "hands")); let src10 ← srcOf it9; let r ← forLoop src10 (forB P08 cf "copied" [] 5 34) FUEL 0 [some v_state, some found1, none, none]; goOn (tl P08 cf "copied" [] 6 34) r)))))) := by kernel_rfl
theorem c_copied_t_6 (cf : Str → List AV → M AV) (v_found : AV) (o_state o_hand o_more : Option AV) : tl P08 cf "copied" [] 6 34 [o_state, some v_found, o_hand, o_more] = pure (.ret v_found) := by kernel_rfl
theorem c_copied_for_5 (cf : Str → List AV → M AV) (v_found : AV) (o_state o_hand o_more : Option AV) (a : AV) : forB P08 cf "copied" [] 5 34 a [o_state, some v_found, o_hand, o_more] = (do let more1 ← (pBI false .dict [a]); (do let v3 ← (do let vs2 ← eachM [(pItem a (.str "work"))]; cf "copied_work" vs2); pStore more1 (.str "work") v3; (do let _ ← (do let o4 ← (pItem v_found (.str "hands")); let _ ← listOf o4; (pMeth "append" o4 [more1])); pure (.next [o_state, some v_found, some a, some more1])))) := by kernel_rfl
theorem c_boxes_from_0 (cf : Str → List AV → M AV) (v_state v_box : AV) : tl P08 cf "boxes_from" [] 0 40 [some v_state, some v_box, none] = (do let found1 ← (newL true []); (do let r ← whileLoop (whileT P08 cf "boxes_from" [] 1 38) (whileB P08 cf "boxes_from" [] 1 38) FUEL [some v_state, some v_box, some found1]; goOn (tl P08 cf "boxes_from" [] 2 38) r)) := by kernel_rfl
theorem c_boxes_from_t_2 (cf : Str → List AV → M AV) (v_found : AV) (o_state o_box : Option AV) : tl P08 cf "boxes_from" [] 2 38 [o_state, o_box, some v_found] = pure (.ret v_found) := by kernel_rfl
theorem c_boxes_from_while_1t (cf : Str → List AV → M AV) (v_box v_found : AV) (o_state : Option AV) : whileT P08 cf "boxes_from" [] 1 38 [o_state, some v_box, some v_found] = (do let t1 ← (pCmp .IsNot v_box (.none)); match t1 with | false => pure false | true => (do let t2 ← (pCmp .NotIn v_box v_found); match t2 with | false => pure false | true => pure true)) := by kernel_rfl
theorem c_boxes_from_while_1b (cf : Str → List AV → M AV) (v_state v_box v_found : AV) : whileB P08 cf "boxes_from" [] 1 38 [some v_state, some v_box, some v_found] = (do let _ ← (do let o1 ← pure v_found; let _ ← listOf o1; (pMeth "append" o1 [v_box])); (do let box4 ← (do let x3 ← (do let x2 ← (pItem v_state (.str "boxes")); pItem x2 v_box); pItem x3 (.int 1)); pure (.next [some v_state, some box4, some v_found]))) := by kernel_rfl
theorem c_head_of_0 (cf : Str → List AV → M AV) (v_state : AV) : tl P08 cf "head_of" [] 0 40 [some v_state] = (do let y2 ← (do let vs1 ← eachM [(pItem v_state (.str "head")), (pItem v_state (.str "mark"))]; pure (.tup vs1)); pure (.ret y2)) := by kernel_rfl
theorem c_spare_of_0 (cf : Str → List AV → M AV) (v_state : AV) : tl P08 cf "spare_of" [] 0 40 [some v_state] = (do let y2 ← (do let vs1 ← eachM [(pItem v_state (.str "spare"))]; pBI true .list vs1); pure (.ret y2)) := by kernel_rfl
theorem c_values_on_0 (cf : Str → List AV → M AV) (v_state : AV) : tl P08 cf "values_on" [] 0 40 [some v_state] = (do let y11 ← (do let it7 ← (do let vs10 ← eachM [pure v_state, (pItem v_state (.str "head"))]; cf "boxes_from" vs10); let src8 ← srcOf it7; let ys9 ← compLoop src8 (fun u1 => (do let y2 ← (do let x4 ← (do let x3 ← (pItem v_state (.str "boxes")); pItem x3 u1); pItem x4 (.int 0)); pure (some y2))) FUEL 0 []; newL true ys9); pure (.ret y11)) := by kernel_rfl
theorem c_held_by_0 (cf : Str → List AV → M AV) (v_state v_work : AV) : tl P08 cf "held_by" [] 0 40 [some v_state, some v_work] = (do let c1 ← (pCmp .Is v_work (.none)); match c1 with | true => (do let r ← (do let y2 ← (newL false []); pure (.ret y2)); goOn (tl P08 cf "held_by" [] 1 39) r) | false => (do let r ← pure (.next [some v_state, some v_work]); goOn (tl P08 cf "held_by" [] 1 39) r)) := by kernel_rfl
theorem c_held_by_t_1 (cf : Str → List AV → M AV) (v_state v_work : AV) : tl P08 cf "held_by" [] 1 39 [some v_state, some v_work] = (do let c1 ← (do let v4 ← (pItem v_work (.str "next")); pCmp .Eq v4 (.str "walk")); match c1 with | true => (do let r ← (do let y3 ← (do let vs2 ← eachM [pure v_state, (pItem v_work (.str "walk"))]; cf "boxes_from" vs2); pure (.ret y3)); goOn (tl P08 cf "held_by" [] 2 38) r) | false => (do let r ← pure (.next [some v_state, some v_work]); goOn (tl P08 cf "held_by" [] 2 38) r)) := by kernel_rfl
theorem c_held_by_t_2 (cf : Str → List AV → M AV) (v_work : AV) (o_state : Option AV) : tl P08 cf "held_by" [] 2 38 [o_state, some v_work] = (do let c1 ← (do let v4 ← (pItem v_work (.str "own")); pCmp .IsNot v4 (.none)); match c1 with | true => (do let r ← (do let y3 ← (do let vs2 ← eachM [(pItem v_work (.str "own"))]; newL false vs2); pure (.ret y3)); goOn (tl P08 cf "held_by" [] 3 37) r) | false => (do let r ← pure (.next [o_state, some v_work]); goOn (tl P08 cf "held_by" [] 3 37) r)) := by kernel_rfl
theorem c_held_by_t_3 (cf : Str → List AV → M AV) (o_state o_work : Option AV) : tl P08 cf "held_by" [] 3 37 [o_state, o_work] = (do let y1 ← (newL false []); pure (.ret y1)) := by kernel_rfl
theorem c_places_of_0 (cf : Str → List AV → M AV) (v_state : AV) : tl P08 cf "places_of" [] 0 40 [some v_state, none, none, none] = (do let found6 ← (do let it3 ← (pItem v_state (.str "boxes")); let src4 ← srcOf it3; let ys5 ← compLoop src4 (fun u1 => (do let y2 ← (newL true []); pure (some y2))) FUEL 0 []; newL true ys5); (do let it7 ← (do let vs9 ← eachM [pure v_state, (pItem v_state (.str "head"))]; cf "boxes_from" vs9); let src8 ← srcOf it7; let r ← forLoop src8 (forB P08 cf "places_of" [] 1 38) FUEL 0 [some v_state, none, some found6, none]; goOn (tl P08 cf "places_of" [] 2 38) r)) := by kernel_rfl
theorem c_places_of_t_2 (cf : Str → List AV → M AV) (v_state : AV) (o_box o_found o_hand : Option AV) : tl P08 cf "places_of" [] 2 38 [some v_state, o_box, o_found, o_hand] = (do let it1 ← (pItem v_state (.str "spare")); let src2 ← srcOf it1; let r ← forLoop src2 (forB P08 cf "places_of" [] 2 37) FUEL 0 [some v_state, o_box, o_found, o_hand]; goOn (tl P08 cf "places_of" [] 3 37) r) := by kernel_rfl
theorem c_places_of_for_1 (cf : Str → List AV → M AV) (v_found : AV) (o_state o_box o_hand : Option AV) (a : AV) : forB P08 cf "places_of" [] 1 38 a [o_state, o_box, some v_found, o_hand] = (do let _ ← (do let o1 ← (pItem v_found a); let _ ← listOf o1; (pMeth "append" o1 [.str "pile"])); pure (.next [o_state, some a, some v_found, o_hand])) := by kernel_rfl
theorem c_places_of_t_3 (cf : Str → List AV → M AV) (v_state : AV) (o_box o_found o_hand : Option AV) : tl P08 cf "places_of" [] 3 37 [some v_state, o_box, o_found, o_hand] = (do let it1 ← (pItem v_state (.str "hands")); let src2 ← srcOf it1; let r ← forLoop src2 (forB P08 cf "places_of" [] 3 36) FUEL 0 [some v_state, o_box, o_found, o_hand]; goOn (tl P08 cf "places_of" [] 4 36) r) := by kernel_rfl
theorem c_places_of_for_2 (cf : Str → List AV → M AV) (v_found : AV) (o_state o_box o_hand : Option AV) (a : AV) : forB P08 cf "places_of" [] 2 37 a [o_state, o_box, some v_found, o_hand] = (do let _ ← (do let o1 ← (pItem v_found a); let _ ← listOf o1; (pMeth "append" o1 [.str "spare"])); pure (.next [o_state, some a, some v_found, o_hand])) := by kernel_rfl
theorem c_places_of_t_4 (cf : Str → List AV → M AV) (v_found : AV) (o_state o_box o_hand : Option AV) : tl P08 cf "places_of" [] 4 36 [o_state, o_box, some v_found, o_hand] = pure (.ret v_found) := by kernel_rfl
theorem c_places_of_for_3 (cf : Str → List AV → M AV) (v_state : AV) (o_box o_found o_hand : Option AV) (a : AV) : forB P08 cf "places_of" [] 3 36 a [some v_state, o_box, o_found, o_hand] = (do let it1 ← (do let vs3 ← eachM [pure v_state, (pItem a (.str "work"))]; cf "held_by" vs3); let src2 ← srcOf it1; let r ← forLoop src2 (forB P08 cf "places_of" [(3, 0)] 0 35) FUEL 0 [some v_state, o_box, o_found, some a]; goOn (fun σ => pure (.next σ)) r) := by kernel_rfl
theorem c_places_of_for30_0 (cf : Str → List AV → M AV) (v_found : AV) (o_state o_box o_hand : Option AV) (a : AV) : forB P08 cf "places_of" [(3, 0)] 0 35 a [o_state, o_box, some v_found, o_hand] = (do let _ ← (do let o1 ← (pItem v_found a); let _ ← listOf o1; (pMeth "append" o1 [.str "held"])); pure (.next [o_state, some a, some v_found, o_hand])) := by kernel_rfl
theorem c_need_hand_0 (cf : Str → List AV → M AV) (v_state v_hand : AV) : tl P08 cf "need_hand" [] 0 40 [some v_state, some v_hand] = (do let c1 ← (do let t2 ← (do let b3 ← (do let v4 ← (cf "is_whole" [v_hand]); truth v4); pure (!b3)); match t2 with | true => pure true | false => (do let t5 ← (do let b6 ← ((do let t7 ← pCmp .LtE (.int 0) v_hand; match t7 with | true => (do let c9 ← (do let vs8 ← eachM [(pItem v_state (.str "hands"))]; pBI false .len vs8); pCmp .Lt v_hand c9) | false => pure false)); pure (!b6)); match t5 with | true => pure true | false => pure false)); match c1 with | true => (do let r ← stuck; goOn (fun σ => pure (.next σ)) r) | false => (do let r ← pure (.next [some v_state, some v_hand]); goOn (fun σ => pure (.next σ)) r)) := by kernel_rfl
theorem c_is_still_0 (cf : Str → List AV → M AV) (v_state v_work : AV) : tl P08 cf "is_still" [] 0 40 [some v_state, some v_work] = (do let c1 ← (do let v2 ← (pItem v_state (.str "head")); (do let c4 ← (do let x3 ← (pItem v_work (.str "seen")); pItem x3 (.int 0)); pCmp .NotEq v2 c4)); match c1 with | true => (do let r ← pure (.ret (.bool false)); goOn (tl P08 cf "is_still" [] 1 39) r) | false => (do let r ← pure (.next [some v_state, some v_work]); goOn (tl P08 cf "is_still" [] 1 39) r)) := by kernel_rfl
theorem c_is_still_t_1 (cf : Str → List AV → M AV) (v_state v_work : AV) : tl P08 cf "is_still" [] 1 39 [some v_state, some v_work] = (do let y9 ← (do let v1 ← (do let v8 ← (pItem v_state (.str "kind")); let b7 ← pCmp .NotEq v8 (.str "marks"); pure (.bool b7)); let t2 ← truth v1; match t2 with | true => pure v1 | false => (do let v4 ← (pItem v_state (.str "mark")); let b3 ← (do let c6 ← (do let x5 ← (pItem v_work (.str "seen")); pItem x5 (.int 1)); pCmp .Eq v4 c6); pure (.bool b3))); pure (.ret y9)) := by kernel_rfl
theorem c_put_below_0 (cf : Str → List AV → M AV) (v_state v_box v_below : AV) : tl P08 cf "put_below" [] 0 40 [some v_state, some v_box, some v_below] = (do let v4 ← (do let vs3 ← eachM [(do let x2 ← (do let x1 ← (pItem v_state (.str "boxes")); pItem x1 v_box); pItem x2 (.int 0)), pure v_below]; pure (.tup vs3)); let o5 ← (pItem v_state (.str "boxes")); pStore o5 v_box v4; pure (.next [some v_state, some v_box, some v_below])) := by kernel_rfl
theorem c_come_to_point_0 (cf : Str → List AV → M AV) (v_state v_number v_work : AV) : tl P08 cf "come_to_point" [] 0 40 [some v_state, some v_number, some v_work, none] = (do let hand2 ← (do let x1 ← (pItem v_state (.str "hands")); pItem x1 v_number); (do let v4 ← (do let vs3 ← eachM [(pItem v_state (.str "rows"))]; pBI false .len vs3); pStore v_work (.str "row") v4; (do let _ ← (do let o5 ← (pItem v_state (.str "rows")); let _ ← listOf o5; (do let vs7 ← eachM [(do let vs6 ← eachM [pure v_number, (pItem hand2 (.str "place")), (pItem v_work (.str "deed")), (pItem v_work (.str "begun")), (pItem v_state (.str "time")), pure (.none), pure (.none)]; pure (.tup vs6))]; pMeth "append" o5 vs7)); pure (.next [some v_state, some v_number, some v_work, some hand2])))) := by kernel_rfl
theorem c_end_0 (cf : Str → List AV → M AV) (v_state v_number v_work v_answer : AV) : tl P08 cf "end" [] 0 40 [some v_state, some v_number, some v_work, some v_answer, none] = (do let c1 ← (do let v2 ← (pItem v_work (.str "row")); pCmp .Is v2 (.none)); match c1 with | true => (do let r ← (do let _ ← (cf "come_to_point" [v_state, v_number, v_work]); pure (.next [some v_state, some v_number, some v_work, some v_answer, none])); goOn (tl P08 cf "end" [] 1 39) r) | false => (do let r ← pure (.next [some v_state, some v_number, some v_work, some v_answer, none]); goOn (tl P08 cf "end" [] 1 39) r)) := by kernel_rfl
theorem c_end_t_1 (cf : Str → List AV → M AV) (v_state v_number v_work v_answer : AV) (o_row : Option AV) : tl P08 cf "end" [] 1 39 [some v_state, some v_number, some v_work, some v_answer, o_row] = (do let row3 ← (do let x1 ← (pItem v_state (.str "rows")); let x2 ← (pItem v_work (.str "row")); pItem x1 x2); (do let v10 ← (do let x8 ← (do let o4 ← pure row3; let i5 ← pure none; let j6 ← pure (some 5); pSlice false o4 i5 j6); let x9 ← (do let vs7 ← eachM [(pItem v_state (.str "time")), pure v_answer]; pure (.tup vs7)); pBin false .Add x8 x9); let o11 ← (pItem v_state (.str "rows")); let o12 ← (pItem v_work (.str "row")); pStore o11 o12 v10; (do let v16 ← (do let x15 ← (do let x14 ← (do let x13 ← (pItem v_state (.str "hands")); pItem x13 v_number); pItem x14 (.str "place")); pBin false .Add x15 (.int 1)); let o18 ← (do let x17 ← (pItem v_state (.str "hands")); pItem x17 v_number); pStore o18 (.str "place") v16; (do let o20 ← (do let x19 ← (pItem v_state (.str "hands")); pItem x19 v_number); pStore o20 (.str "work") (.none); pure (.next [some v_state, some v_number, some v_work, some v_answer, some row3]))))) := by kernel_rfl
theorem c_take_0 (cf : Str → List AV → M AV) (v_state v_work : AV) : tl P08 cf "take" [] 0 40 [some v_state, some v_work, none] = (do let c1 ← (do let t7 ← (do let v8 ← (pItem v_state (.str "kind")); pCmp .Eq v8 (.str "new")); match t7 with | true => pure true | false => (do let t9 ← (do let v10 ← (pItem v_state (.str "spare")); (do let c11 ← (newL false []); pCmp .Eq v10 c11)); match t9 with | true => pure true | false => pure false)); match c1 with | true => (do let r ← (do let box3 ← (do let vs2 ← eachM [(pItem v_state (.str "boxes"))]; pBI false .len vs2); (do let _ ← (do let o4 ← (pItem v_state (.str "boxes")); let _ ← listOf o4; (pMeth "append" o4 [.none])); pure (.next [some v_state, some v_work, some box3]))); goOn (tl P08 cf "take" [] 1 39) r) | false => (do let r ← (do let box6 ← (do let o5 ← (pItem v_state (.str "spare")); let _ ← listOf o5; (pMeth "pop" o5 [])); pure (.next [some v_state, some v_work, some box6])); goOn (tl P08 cf "take" [] 1 39) r)) := by kernel_rfl
theorem c_take_t_1 (cf : Str → List AV → M AV) (v_state v_work v_box : AV) : tl P08 cf "take" [] 1 39 [some v_state, some v_work, some v_box] = (do let v3 ← (do let vs2 ← eachM [(do let x1 ← (pItem v_work (.str "deed")); pItem x1 (.int 1)), pure (.none)]; pure (.tup vs2)); let o4 ← (pItem v_state (.str "boxes")); pStore o4 v_box v3; (do pStore v_work (.str "own") v_box; (do pStore v_work (.str "next") (.str "look"); pure (.ret (.tup [.str "take", v_box]))))) := by kernel_rfl
theorem c_look_0 (cf : Str → List AV → M AV) (v_state v_number v_work : AV) : tl P08 cf "look" [] 0 40 [some v_state, some v_number, some v_work, none, none, none] = (do let word2 ← (do let x1 ← (pItem v_work (.str "deed")); pItem x1 (.int 0)); (do let v3 ← (cf "head_of" [v_state]); pStore v_work (.str "seen") v3; (do let v4 ← (pItem g_BEHIND_LOOK word2); pStore v_work (.str "next") v4; (do let told6 ← (do let vs5 ← eachM [pure (.str "look"), (pItem v_state (.str "head")), (pItem v_state (.str "mark"))]; pure (.tup vs5)); (do let c7 ← (pCmp .Eq word2 (.str "push")); match c7 with | true => (do let r ← (do let _ ← (do let vs8 ← eachM [pure v_state, (pItem v_work (.str "own")), (pItem v_state (.str "head"))]; cf "put_below" vs8); pure (.next [some v_state, some v_number, some v_work, some word2, some told6, none])); goOn (tl P08 cf "look" [] 5 35) r) | false => (do let r ← (do let c9 ← (do let v13 ← (pItem v_state (.str "head")); pCmp .Is v13 (.none)); match c9 with | true => (do let r ← (do let c10 ← (pCmp .Eq word2 (.str "swap")); match c10 with | true => (do let r ← (do let _ ← (do let o11 ← (pItem v_state (.str "spare")); let _ ← listOf o11; (do let vs12 ← eachM [(pItem v_work (.str "own"))]; pMeth "append" o11 vs12)); pure (.next [some v_state, some v_number, some v_work, some word2, some told6, none])); goOn (tl P08 cf "look" [(4, 1), (0, 0)] 1 33) r) | false => (do let r ← pure (.next [some v_state, some v_number, some v_work, some word2, some told6, none]); goOn (tl P08 cf "look" [(4, 1), (0, 0)] 1 33) r)); goOn (fun σ => pure (.next σ)) r) | false => (do let r ← pure (.next [some v_state, some v_number, some v_work, some word2, some told6, none]); goOn (fun σ => pure (.next σ)) r)); goOn (tl P08 cf "look" [] 5 35) r)))))) := by kernel_rfl
theorem c_look_t41_00_1 (cf : Str → List AV → M AV) (v_word : AV) (o_state o_number o_work o_told o_answer : Option AV) : tl P08 cf "look" [(4, 1), (0, 0)] 1 33 [o_state, o_number, o_work, some v_word, o_told, o_answer] = (do let c1 ← (pCmp .Eq v_word (.str "clear")); match c1 with | true => (do let r ← pure (.next [o_state, o_number, o_work, some v_word, o_told, some (.tup [])]); goOn (tl P08 cf "look" [(4, 1), (0, 0)] 3 31) r) | false => (do let r ← pure (.next [o_state, o_number, o_work, some v_word, o_told, some (.none)]); goOn (tl P08 cf "look" [(4, 1), (0, 0)] 3 31) r)) := by kernel_rfl
theorem c_look_t_5 (cf : Str → List AV → M AV) (v_told : AV) (o_state o_number o_work o_word o_answer : Option AV) : tl P08 cf "look" [] 5 35 [o_state, o_number, o_work, o_word, some v_told, o_answer] = pure (.ret v_told) := by kernel_rfl
theorem c_look_t41_00_3 (cf : Str → List AV → M AV) (v_state v_number v_work v_answer : AV) (o_word o_told : Option AV) : tl P08 cf "look" [(4, 1), (0, 0)] 3 31 [some v_state, some v_number, some v_work, o_word, o_told, some v_answer] = (do let _ ← (cf "end" [v_state, v_number, v_work, v_answer]); pure (.next [some v_state, some v_number, some v_work, o_word, o_told, some v_answer])) := by kernel_rfl
theorem c_see_0 (cf : Str → List AV → M AV) (v_state v_work : AV) : tl P08 cf "see" [] 0 40 [some v_state, some v_work, none, none] = (do let box2 ← (do let x1 ← (pItem v_work (.str "seen")); pItem x1 (.int 0)); (do let v4 ← (do let x3 ← (pItem v_state (.str "boxes")); pItem x3 box2); pStore v_work (.str "inside") v4; (do let v7 ← (do let x6 ← (do let x5 ← (pItem v_work (.str "deed")); pItem x5 (.int 0)); pItem g_BEHIND_SEE x6); pStore v_work (.str "next") v7; (do let told9 ← (do let x8 ← (pItem v_work (.str "inside")); pBin false .Add (.tup [.str "see", box2]) x8); (do let c10 ← (do let v14 ← (do let x13 ← (pItem v_work (.str "deed")); pItem x13 (.int 0)); pCmp .Eq v14 (.str "swap")); match c10 with | true => (do let r ← (do let _ ← (do let vs12 ← eachM [pure v_state, (pItem v_work (.str "own")), (do let x11 ← (pItem v_work (.str "inside")); pItem x11 (.int 1))]; cf "put_below" vs12); pure (.next [some v_state, some v_work, some box2, some told9])); goOn (tl P08 cf "see" [] 5 35) r) | false => (do let r ← pure (.next [some v_state, some v_work, some box2, some told9]); goOn (tl P08 cf "see" [] 5 35) r)))))) := by kernel_rfl
theorem c_see_t_5 (cf : Str → List AV → M AV) (v_told : AV) (o_state o_work o_box : Option AV) : tl P08 cf "see" [] 5 35 [o_state, o_work, o_box, some v_told] = pure (.ret v_told) := by kernel_rfl
theorem c_put_0 (cf : Str → List AV → M AV) (v_state v_number v_work : AV) : tl P08 cf "put" [] 0 40 [some v_state, some v_number, some v_work, none, none] = (do let c1 ← (do let b2 ← (do let v3 ← (cf "is_still" [v_state, v_work]); truth v3); pure (!b2)); match c1 with | true => (do let r ← (do pStore v_work (.str "next") (.str "look"); pure (.ret (.tup [.str "put", .bool false]))); goOn (tl P08 cf "put" [] 1 39) r) | false => (do let r ← pure (.next [some v_state, some v_number, some v_work, none, none]); goOn (tl P08 cf "put" [] 1 39) r)) := by kernel_rfl
theorem c_put_t_1 (cf : Str → List AV → M AV) (v_state v_number v_work : AV) (o_word o_ahead : Option AV) : tl P08 cf "put" [] 1 39 [some v_state, some v_number, some v_work, o_word, o_ahead] = (do let word2 ← (do let x1 ← (pItem v_work (.str "deed")); pItem x1 (.int 0)); (do let ahead3 ← (pItem v_state (.str "head")); (do let v5 ← (do let x4 ← (pItem v_state (.str "mark")); pBin false .Add x4 (.int 1)); pStore v_state (.str "mark") v5; (do let c6 ← (pCmp .Eq word2 (.str "clear")); match c6 with | true => (do let r ← (do pStore v_state (.str "head") (.none); (do let _ ← (cf "come_to_point" [v_state, v_number, v_work]); (do pStore v_work (.str "walk") ahead3; (do pStore v_work (.str "next") (.str "walk"); pure (.next [some v_state, some v_number, some v_work, some word2, some ahead3]))))); goOn (tl P08 cf "put" [] 5 35) r) | false => (do let r ← (do let c7 ← (pCmp .Eq word2 (.str "push")); match c7 with | true => (do let r ← (do let v8 ← (pItem v_work (.str "own")); pStore v_state (.str "head") v8; (do let _ ← (cf "end" [v_state, v_number, v_work, .none]); pure (.next [some v_state, some v_number, some v_work, some word2, some ahead3]))); goOn (fun σ => pure (.next σ)) r) | false => (do let r ← (do let v9 ← (pItem v_work (.str "own")); pStore v_state (.str "head") v9; (do let c10 ← (pCmp .Eq word2 (.str "pop")); match c10 with | true => (do let r ← (do let v12 ← (do let x11 ← (pItem v_work (.str "inside")); pItem x11 (.int 1)); pStore v_state (.str "head") v12; pure (.next [some v_state, some v_number, some v_work, some word2, some ahead3])); goOn (tl P08 cf "put" [(4, 1), (0, 1)] 2 32) r) | false => (do let r ← pure (.next [some v_state, some v_number, some v_work, some word2, some ahead3]); goOn (tl P08 cf "put" [(4, 1), (0, 1)] 2 32) r))); goOn (fun σ => pure (.next σ)) r)); goOn (tl P08 cf "put" [] 5 35) r))))) := by kernel_rfl
theorem c_put_t41_01_2 (cf : Str → List AV → M AV) (v_state v_number v_work v_ahead : AV) (o_word : Option AV) : tl P08 cf "put" [(4, 1), (0, 1)] 2 32 [some v_state, some v_number, some v_work, o_word, some v_ahead] = (do let _ ← (do let o1 ← (pItem v_state (.str "spare")); let _ ← listOf o1; (pMeth "append" o1 [v_ahead])); (do let _ ← (do let vs3 ← eachM [pure v_state, pure v_number, pure v_work, (do let x2 ← (pItem v_work (.str "inside")); pItem x2 (.int 0))]; cf "end" vs3); pure (.next [some v_state, some v_number, some v_work, o_word, some v_ahead]))) := by kernel_rfl
theorem c_put_t_5 (cf : Str → List AV → M AV) (o_state o_number o_work o_word o_ahead : Option AV) : tl P08 cf "put" [] 5 35 [o_state, o_number, o_work, o_word, o_ahead] = pure (.ret (.tup [.str "put", .bool true])) := by kernel_rfl
theorem c_check_0 (cf : Str → List AV → M AV) (v_state v_number v_work : AV) : tl P08 cf "check" [] 0 40 [some v_state, some v_number, some v_work, none] = (do let told2 ← (do let vs1 ← eachM [pure (.str "look"), (pItem v_state (.str "head")), (pItem v_state (.str "mark"))]; pure (.tup vs1)); (do let c3 ← (do let v6 ← (cf "is_still" [v_state, v_work]); truth v6); match c3 with | true => (do let r ← (do let _ ← (do let vs5 ← eachM [pure v_state, pure v_number, pure v_work, (do let x4 ← (pItem v_work (.str "inside")); pItem x4 (.int 0))]; cf "end" vs5); pure (.next [some v_state, some v_number, some v_work, some told2])); goOn (tl P08 cf "check" [] 2 38) r) | false => (do let r ← (do pStore v_work (.str "next") (.str "look"); pure (.next [some v_state, some v_number, some v_work, some told2])); goOn (tl P08 cf "check" [] 2 38) r))) := by kernel_rfl
theorem c_check_t_2 (cf : Str → List AV → M AV) (v_told : AV) (o_state o_number o_work : Option AV) : tl P08 cf "check" [] 2 38 [o_state, o_number, o_work, some v_told] = pure (.ret v_told) := by kernel_rfl
theorem c_walk_0 (cf : Str → List AV → M AV) (v_state v_number v_work : AV) : tl P08 cf "walk" [] 0 40 [some v_state, some v_number, some v_work, none, none, none] = (do let box1 ← (pItem v_work (.str "walk")); (do let v4 ← (do let x2 ← (pItem v_state (.str "boxes")); pItem x2 box1); let pr3 ← pairOf v4; (do let _ ← (do let o5 ← (pItem v_work (.str "kept")); let _ ← listOf o5; (pMeth "append" o5 [pr3.1])); (do let _ ← (do let o6 ← (pItem v_state (.str "spare")); let _ ← listOf o6; (pMeth "append" o6 [box1])); (do pStore v_work (.str "walk") pr3.2; (do let c7 ← (pCmp .Is pr3.2 (.none)); match c7 with | true => (do let r ← (do let _ ← (do let vs9 ← eachM [pure v_state, pure v_number, pure v_work, (do let vs8 ← eachM [(pItem v_work (.str "kept"))]; pBI false .tuple vs8)]; cf "end" vs9); pure (.next [some v_state, some v_number, some v_work, some box1, some pr3.1, some pr3.2])); goOn (tl P08 cf "walk" [] 6 34) r) | false => (do let r ← pure (.next [some v_state, some v_number, some v_work, some box1, some pr3.1, some pr3.2]); goOn (tl P08 cf "walk" [] 6 34) r))))))) := by kernel_rfl
theorem c_walk_t_6 (cf : Str → List AV → M AV) (v_box v_value v_below : AV) (o_state o_number o_work : Option AV) : tl P08 cf "walk" [] 6 34 [o_state, o_number, o_work, some v_box, some v_value, some v_below] = pure (.ret (.tup [.str "see", v_box, v_value, v_below])) := by kernel_rfl
theorem c_work_of_0 (cf : Str → List AV → M AV) (v_state v_number : AV) : tl P08 cf "work_of" [] 0 40 [some v_state, some v_number, none, none] = (do let hand2 ← (do let x1 ← (pItem v_state (.str "hands")); pItem x1 v_number); (do let c3 ← (do let v10 ← (pItem hand2 (.str "work")); pCmp .Is v10 (.none)); match c3 with | true => (do let r ← (do let deed6 ← (do let x4 ← (pItem hand2 (.str "program")); let x5 ← (pItem hand2 (.str "place")); pItem x4 x5); (do let v9 ← (do let vs8 ← eachM [pure deed6, (pItem v_state (.str "time")), (do let x7 ← (pItem deed6 (.int 0)); pItem g_FIRST x7), pure (.none), pure (.none), pure (.none), pure (.none), (newL true []), pure (.none)]; newD (List.zip (["deed", "begun", "next", "own", "seen", "inside", "walk", "kept", "row"] : List Str) vs8)); pStore hand2 (.str "work") v9; pure (.next [some v_state, some v_number, some hand2, some deed6]))); goOn (tl P08 cf "work_of" [] 2 38) r) | false => (do let r ← pure (.next [some v_state, some v_number, some hand2, none]); goOn (tl P08 cf "work_of" [] 2 38) r))) := by kernel_rfl
theorem c_work_of_t_2 (cf : Str → List AV → M AV) (v_hand : AV) (o_state o_number o_deed : Option AV) : tl P08 cf "work_of" [] 2 38 [o_state, o_number, some v_hand, o_deed] = (do let y1 ← (pItem v_hand (.str "work")); pure (.ret y1)) := by kernel_rfl
theorem c_go_0 (cf : Str → List AV → M AV) (v_state v_number : AV) : tl P08 cf "go" [] 0 40 [some v_state, some v_number, none, none, none] = (do let hand2 ← (do let x1 ← (pItem v_state (.str "hands")); pItem x1 v_number); (do let c3 ← (do let t21 ← (do let v22 ← (pItem hand2 (.str "work")); pCmp .Is v22 (.none)); match t21 with | false => pure false | true => (do let t23 ← (do let v24 ← (pItem hand2 (.str "place")); (do let c26 ← (do let vs25 ← eachM [(pItem hand2 (.str "program"))]; pBI false .len vs25); pCmp .Eq v24 c26)); match t23 with | false => pure false | true => pure true)); match c3 with | true => (do let r ← pure (.next [some v_state, some v_number, some hand2, some (.tup [.str "rest"]), none]); goOn (tl P08 cf "go" [] 2 38) r) | false => (do let r ← (do let work4 ← (cf "work_of" [v_state, v_number]); (do let c5 ← (do let v20 ← (pItem work4 (.str "next")); pCmp .Eq v20 (.str "take")); match c5 with | true => (do let r ← (do let told6 ← (cf "take" [v_state, work4]); pure (.next [some v_state, some v_number, some hand2, some told6, some work4])); goOn (fun σ => pure (.next σ)) r) | false => (do let r ← (do let c7 ← (do let v19 ← (pItem work4 (.str "next")); pCmp .Eq v19 (.str "look")); match c7 with | true => (do let r ← (do let told8 ← (cf "look" [v_state, v_number, work4]); pure (.next [some v_state, some v_number, some hand2, some told8, some work4])); goOn (fun σ => pure (.next σ)) r) | false => (do let r ← (do let c9 ← (do let v18 ← (pItem work4 (.str "next")); pCmp .Eq v18 (.str "see")); match c9 with | true => (do let r ← (do let told10 ← (cf "see" [v_state, work4]); pure (.next [some v_state, some v_number, some hand2, some told10, some work4])); goOn (fun σ => pure (.next σ)) r) | false => (do let r ← (do let c11 ← (do let v17 ← (pItem work4 (.str "next")); pCmp .Eq v17 (.str "put")); match c11 with | true => (do let r ← (do let told12 ← (cf "put" [v_state, v_number, work4]); pure (.next [some v_state, some v_number, some hand2, some told12, some work4])); goOn (fun σ => pure (.next σ)) r) | false => (do let r ← (do let c13 ← (do let v16 ← (pItem work4 (.str "next")); pCmp .Eq v16 (.str "check")); match c13 with | true => (do let r ← (do let told14 ← (cf "check" [v_state, v_number, work4]); pure (.next [some v_state, some v_number, some hand2, some told14, some work4])); goOn (fun σ => pure (.next σ)) r) | false => (do let r ← (do let told15 ← (cf "walk" [v_state, v_number, work4]); pure (.next [some v_state, some v_number, some hand2, some told15, some work4])); goOn (fun σ => pure (.next σ)) r)); goOn (fun σ => pure (.next σ)) r)); goOn (fun σ => pure (.next σ)) r)); goOn (fun σ => pure (.next σ)) r)); goOn (fun σ => pure (.next σ)) r))); goOn (tl P08 cf "go" [] 2 38) r))) := by kernel_rfl
theorem c_go_t_2 (cf : Str → List AV → M AV) (v_state v_told : AV) (o_number o_hand o_work : Option AV) : tl P08 cf "go" [] 2 38 [some v_state, o_number, o_hand, some v_told, o_work] = (do let v2 ← (do let x1 ← (pItem v_state (.str "time")); pBin false .Add x1 (.int 1)); pStore v_state (.str "time") v2; pure (.ret v_told)) := by kernel_rfl
theorem c_stepped_0 (cf : Str → List AV → M AV) (v_state v_hand : AV) : tl P08 cf "stepped" [] 0 40 [some v_state, some v_hand, none, none] = (do let _ ← (cf "need_hand" [v_state, v_hand]); (do let found1 ← (cf "copied" [v_state]); (do let told2 ← (cf "go" [found1, v_hand]); pure (.ret (.tup [found1, told2]))))) := by kernel_rfl
theorem c_mixed_0 (cf : Str → List AV → M AV) (v_cell v_k : AV) : tl P08 cf "_law_mixed" [] 0 40 [some v_cell, some v_k, none] = (do let left4 ← (do let x3 ← (do let x2 ← (do let x1 ← (pBin false .Mult (.int 7919) v_k); pBin false .Add v_cell x1); pBin false .Mult x2 (.int 48271)); pBin false .Mod x3 (.int 2147483647)); (do let y6 ← (do let x5 ← (pBin false .Mult left4 left4); pBin false .Mod x5 (.int 2147483629)); pure (.ret y6))) := by kernel_rfl
theorem c_cell_at_0 (cf : Str → List AV → M AV) (v_script v_k : AV) : tl P08 cf "_law_cell_at" [] 0 40 [some v_script, some v_k] = (do let c1 ← ((do let c4 ← (pBI false .len [v_script]); pCmp .Lt v_k c4)); match c1 with | true => (do let r ← (do let y3 ← (do let vs2 ← eachM [(pItem v_script v_k), pure v_k]; cf "_law_mixed" vs2); pure (.ret y3)); goOn (tl P08 cf "_law_cell_at" [] 1 39) r) | false => (do let r ← pure (.next [some v_script, some v_k]); goOn (tl P08 cf "_law_cell_at" [] 1 39) r)) := by kernel_rfl
theorem c_cell_at_t_1 (cf : Str → List AV → M AV) (o_script o_k : Option AV) : tl P08 cf "_law_cell_at" [] 1 39 [o_script, o_k] = pure (.ret (.int 0)) := by kernel_rfl
theorem c_cells_0 (cf : Str → List AV → M AV) (v_script v_at v_end : AV) : tl P08 cf "_law_cells" [] 0 40 [some v_script, some v_at, some v_end] = (do let y10 ← (do let it5 ← (do let vs9 ← eachM [pure v_at, (do let vs8 ← eachM [pure v_end, (pBI false .len [v_script])]; pBI false .min vs8)]; pBI false .range vs9); let src6 ← srcOf it5; let ys7 ← compLoop src6 (fun u1 => (do let y2 ← (do let vs3 ← eachM [(pItem v_script u1), pure u1]; cf "_law_mixed" vs3); pure (some y2))) FUEL 0 []; newL false ys7); pure (.ret y10)) := by kernel_rfl
theorem c_value_by_0 (cf : Str → List AV → M AV) (v_cell : AV) : tl P08 cf "_law_value_by" [] 0 40 [some v_cell] = (do let c1 ← (do let v8 ← (pBin false .Mod v_cell (.int 4)); pCmp .Eq v8 (.int 0)); match c1 with | true => (do let r ← (do let y7 ← (do let x5 ← (do let x4 ← (do let x3 ← (do let x2 ← (pBin false .FloorDiv v_cell (.int 4)); pBin false .Mult x2 (.int 7919)); pBin false .Mult x3 (.int 7919)); pBin false .Mult x4 (.int 7919)); let x6 ← (pBin false .Pow (.int 10) (.int 20)); pBin false .Sub x5 x6); pure (.ret y7)); goOn (tl P08 cf "_law_value_by" [] 1 39) r) | false => (do let r ← pure (.next [some v_cell]); goOn (tl P08 cf "_law_value_by" [] 1 39) r)) := by kernel_rfl
theorem c_value_by_t_1 (cf : Str → List AV → M AV) (v_cell : AV) : tl P08 cf "_law_value_by" [] 1 39 [some v_cell] = (do let y3 ← (do let x2 ← (do let x1 ← (pBin false .FloorDiv v_cell (.int 4)); pBin false .Mod x1 (.int 5)); pBin false .Sub x2 (.int 1)); pure (.ret y3)) := by kernel_rfl
theorem c_deed_by_0 (cf : Str → List AV → M AV) (v_cell : AV) : tl P08 cf "_law_deed_by" [] 0 40 [some v_cell, none] = (do let name3 ← (do let x1 ← (newL false [.str "push", .str "push", .str "push", .str "push", .str "pop", .str "pop", .str "pop", .str "top", .str "top", .str "swap", .str "swap", .str "clear"]); let x2 ← (pBin false .Mod v_cell (.int 12)); pItem x1 x2); (do let c4 ← ((do let c8 ← (newL false [.str "push", .str "swap"]); pCmp .In name3 c8)); match c4 with | true => (do let r ← (do let y7 ← (do let vs6 ← eachM [pure name3, (do let vs5 ← eachM [(pBin false .FloorDiv v_cell (.int 12))]; cf "_law_value_by" vs5)]; pure (.tup vs6)); pure (.ret y7)); goOn (tl P08 cf "_law_deed_by" [] 2 38) r) | false => (do let r ← pure (.next [some v_cell, some name3]); goOn (tl P08 cf "_law_deed_by" [] 2 38) r))) := by kernel_rfl
theorem c_deed_by_t_2 (cf : Str → List AV → M AV) (v_name : AV) (o_cell : Option AV) : tl P08 cf "_law_deed_by" [] 2 38 [o_cell, some v_name] = pure (.ret (.tup [v_name])) := by kernel_rfl
theorem c_start_by_0 (cf : Str → List AV → M AV) (v_cell : AV) : tl P08 cf "_law_start_by" [] 0 40 [some v_cell, none] = (do let size1 ← (pBin false .Mod v_cell (.int 4)); (do let c2 ← (do let v6 ← (do let x5 ← (pBin false .FloorDiv v_cell (.int 4)); pBin false .Mod x5 (.int 8)); pCmp .Eq v6 (.int 1)); match c2 with | true => (do let r ← (do let size4 ← (do let x3 ← (pBin false .FloorDiv v_cell (.int 32)); pBin false .Mod x3 (.int 61)); pure (.next [some v_cell, some size4])); goOn (tl P08 cf "_law_start_by" [] 2 38) r) | false => (do let r ← pure (.next [some v_cell, some size1]); goOn (tl P08 cf "_law_start_by" [] 2 38) r))) := by kernel_rfl
theorem c_start_by_t_2 (cf : Str → List AV → M AV) (v_cell v_size : AV) : tl P08 cf "_law_start_by" [] 2 38 [some v_cell, some v_size] = (do let y10 ← (do let it7 ← (pBI false .range [v_size]); let src8 ← srcOf it7; let ys9 ← compLoop src8 (fun u1 => (do let y2 ← (do let vs4 ← eachM [(do let vs3 ← eachM [(pBin false .FloorDiv v_cell (.int 8)), pure u1]; cf "_law_mixed" vs3)]; cf "_law_value_by" vs4); pure (some y2))) FUEL 0 []; newL false ys9); pure (.ret y10)) := by kernel_rfl
theorem c_hands_by_0 (cf : Str → List AV → M AV) (v_cell : AV) : tl P08 cf "_law_hands_by" [] 0 40 [some v_cell] = (do let c1 ← (do let v6 ← (do let x5 ← (pBin false .FloorDiv v_cell (.int 4)); pBin false .Mod x5 (.int 8)); pCmp .Eq v6 (.int 1)); match c1 with | true => (do let r ← (do let y4 ← (do let x3 ← (do let x2 ← (pBin false .FloorDiv v_cell (.int 32)); pBin false .Mod x2 (.int 16)); pBin false .Add (.int 5) x3); pure (.ret y4)); goOn (tl P08 cf "_law_hands_by" [] 1 39) r) | false => (do let r ← pure (.next [some v_cell]); goOn (tl P08 cf "_law_hands_by" [] 1 39) r)) := by kernel_rfl
theorem c_hands_by_t_1 (cf : Str → List AV → M AV) (v_cell : AV) : tl P08 cf "_law_hands_by" [] 1 39 [some v_cell] = (do let y2 ← (do let x1 ← (pBin false .Mod v_cell (.int 4)); pBin false .Add (.int 1) x1); pure (.ret y2)) := by kernel_rfl
theorem c_programs_by_0 (cf : Str → List AV → M AV) (v_script v_hands : AV) : tl P08 cf "_law_programs_by" [] 0 40 [some v_script, some v_hands, none, none] = (do let programs6 ← (do let it3 ← (pBI false .range [v_hands]); let src4 ← srcOf it3; let ys5 ← compLoop src4 (fun u1 => (do let y2 ← (newL true []); pure (some y2))) FUEL 0 []; newL true ys5); (do let it7 ← (cf "_law_cells" [v_script, .int 3, .int 27]); let src8 ← srcOf it7; let r ← forLoop src8 (forB P08 cf "_law_programs_by" [] 1 38) FUEL 0 [some v_script, some v_hands, some programs6, none]; goOn (tl P08 cf "_law_programs_by" [] 2 38) r)) := by kernel_rfl
theorem c_programs_by_t_2 (cf : Str → List AV → M AV) (v_programs : AV) (o_script o_hands o_cell : Option AV) : tl P08 cf "_law_programs_by" [] 2 38 [o_script, o_hands, some v_programs, o_cell] = pure (.ret v_programs) := by kernel_rfl
theorem c_programs_by_for_1 (cf : Str → List AV → M AV) (v_hands v_programs : AV) (o_script o_cell : Option AV) (a : AV) : forB P08 cf "_law_programs_by" [] 1 38 a [o_script, some v_hands, some v_programs, o_cell] = (do let _ ← (do let o1 ← (do let x4 ← (pBin false .Mod a v_hands); pItem v_programs x4); let _ ← listOf o1; (do let vs3 ← eachM [(do let vs2 ← eachM [(pBin false .FloorDiv a (.int 4))]; cf "_law_deed_by" vs2)]; pMeth "append" o1 vs3)); pure (.next [o_script, some v_hands, some v_programs, some a])) := by kernel_rfl
theorem c_weaving_by_0 (cf : Str → List AV → M AV) (v_script v_hands : AV) : tl P08 cf "_law_weaving_by" [] 0 40 [some v_script, some v_hands, none, none, none, none] = (do let weaving1 ← (newL true []); (do let it2 ← (cf "_law_cells" [v_script, .int 27, .int 63]); let src3 ← srcOf it2; let r ← forLoop src3 (forB P08 cf "_law_weaving_by" [] 1 38) FUEL 0 [some v_script, some v_hands, some weaving1, none, none, none]; goOn (tl P08 cf "_law_weaving_by" [] 2 38) r)) := by kernel_rfl
theorem c_weaving_by_t_2 (cf : Str → List AV → M AV) (v_weaving : AV) (o_script o_hands o_cell o_rest o_k : Option AV) : tl P08 cf "_law_weaving_by" [] 2 38 [o_script, o_hands, some v_weaving, o_cell, o_rest, o_k] = pure (.ret v_weaving) := by kernel_rfl
theorem c_weaving_by_for_1 (cf : Str → List AV → M AV) (v_hands v_weaving : AV) (o_script o_cell o_rest o_k : Option AV) (a : AV) : forB P08 cf "_law_weaving_by" [] 1 38 a [o_script, some v_hands, some v_weaving, o_cell, o_rest, o_k] = (do let rest1 ← (pBin false .FloorDiv a (.int 36)); (do let c2 ← (do let v13 ← (pBin false .Mod a (.int 4)); pCmp .Gt v13 (.int 0)); match c2 with | true => (do let r ← (do let weaving10 ← (do let x9 ← (do let x7 ← (do let vs3 ← eachM [(pBin false .Mod rest1 v_hands)]; newL false vs3); let x8 ← (do let x5 ← (newL false [.int 1, .int 2, .int 2, .int 3, .int 3, .int 4, .int 6, .int 6, .int 7]); let x6 ← (do let x4 ← (pBin false .FloorDiv a (.int 4)); pBin false .Mod x4 (.int 9)); pItem x5 x6); pBin false .Mult x7 x8); pBin true .Add v_weaving x9); pure (.next [o_script, some v_hands, some weaving10, some a, some rest1, o_k])); goOn (fun σ => pure (.next σ)) r) | false => (do let r ← (do let it11 ← (pBI false .range [.int 7]); let src12 ← srcOf it11; let r ← forLoop src12 (forB P08 cf "_law_weaving_by" [(1, 0), (1, 1)] 0 35) FUEL 0 [o_script, some v_hands, some v_weaving, some a, some rest1, o_k]; goOn (fun σ => pure (.next σ)) r); goOn (fun σ => pure (.next σ)) r))) := by kernel_rfl
theorem c_weaving_by_for10_11_0 (cf : Str → List AV → M AV) (v_hands v_weaving v_rest : AV) (o_script o_cell o_k : Option AV) (a : AV) : forB P08 cf "_law_weaving_by" [(1, 0), (1, 1)] 0 35 a [o_script, some v_hands, some v_weaving, o_cell, some v_rest, o_k] = (do let _ ← (do let o1 ← pure v_weaving; let _ ← listOf o1; (do let vs2 ← eachM [(pBin false .Mod v_rest v_hands)]; pMeth "append" o1 vs2)); (do let rest3 ← (pBin false .FloorDiv v_rest v_hands); pure (.next [o_script, some v_hands, some v_weaving, o_cell, some rest3, some a]))) := by kernel_rfl
theorem c_stands_0 (cf : Str → List AV → M AV) (v_state : AV) : tl P08 cf "_law_stands" [] 0 40 [some v_state, none, none] = (do let told1 ← (cf "places_of" [v_state]); (do let c2 ← (do let t3 ← (do let b4 ← (do let v7 ← (do let v5 ← pure told1; let b6 ← pIsi v5 .list; pure (.bool b6)); truth v7); pure (!b4)); match t3 with | true => pure true | false => (do let t8 ← (do let v17 ← (do let it14 ← pure told1; let src15 ← srcOf it14; let ys16 ← compLoop src15 (fun u9 => (do let t11 ← ((do let c13 ← (do let vs12 ← eachM [(newL false [.str "pile"]), (newL false [.str "spare"]), (newL false [.str "held"])]; newL false vs12); pCmp .NotIn u9 c13)); if t11 = true then pure (some u9) else pure none)) FUEL 0 []; newL false ys16); (do let c18 ← (newL false []); pCmp .NotEq v17 c18)); match t8 with | true => pure true | false => pure false)); match c2 with | true => (do let r ← pure (.ret (.bool false)); goOn (tl P08 cf "_law_stands" [] 2 38) r) | false => (do let r ← pure (.next [some v_state, some told1, none]); goOn (tl P08 cf "_law_stands" [] 2 38) r))) := by kernel_rfl
theorem c_stands_t_2 (cf : Str → List AV → M AV) (v_state v_told : AV) (o_spare : Option AV) : tl P08 cf "_law_stands" [] 2 38 [some v_state, some v_told, o_spare] = (do let spare10 ← (do let it6 ← (do let vs9 ← eachM [(pBI false .len [v_told])]; pBI false .range vs9); let src7 ← srcOf it6; let ys8 ← compLoop src7 (fun u1 => (do let t3 ← (do let v4 ← (pItem v_told u1); (do let c5 ← (newL false [.str "spare"]); pCmp .Eq v4 c5)); if t3 = true then pure (some u1) else pure none)) FUEL 0 []; newL false ys8); (do let y22 ← (do let v11 ← (do let v21 ← (do let vs19 ← eachM [(cf "spare_of" [v_state])]; pBI false .sorted vs19); let b20 ← pCmp .Eq v21 spare10; pure (.bool b20)); let t12 ← truth v11; match t12 with | false => pure v11 | true => (do let v16 ← (do let o13 ← pure v_told; let _ ← listOf o13; (do let vs14 ← eachM [(newL false [.str "pile"])]; pMeth "count" o13 vs14)); let b15 ← (do let c18 ← (do let vs17 ← eachM [(cf "values_on" [v_state])]; pBI false .len vs17); pCmp .Eq v16 c18); pure (.bool b15))); pure (.ret y22))) := by kernel_rfl
theorem c_law_0 (cf : Str → List AV → M AV) (v_script : AV) : tl P08 cf "law" [] 0 40 [some v_script, none, none, none, none, none, none] = (do let hands2 ← (do let vs1 ← eachM [(cf "_law_cell_at" [v_script, .int 2])]; cf "_law_hands_by" vs1); (do let start4 ← (do let vs3 ← eachM [(cf "_law_cell_at" [v_script, .int 0])]; cf "_law_start_by" vs3); (do let weaving5 ← (cf "_law_weaving_by" [v_script, hands2]); (do let kind9 ← (do let x7 ← (newL false [.str "marks", .str "new"]); let x8 ← (do let x6 ← (cf "_law_cell_at" [v_script, .int 1]); pBin false .Mod x6 (.int 2)); pItem x7 x8); (do let state11 ← (do let vs10 ← eachM [pure start4, (cf "_law_programs_by" [v_script, hands2]), pure kind9]; cf "tower_of" vs10); (do let it12 ← (do let vs14 ← eachM [(pBI false .len [weaving5])]; pBI false .range vs14); let src13 ← srcOf it12; let r ← forLoop src13 (forB P08 cf "law" [] 5 34) FUEL 0 [some v_script, some hands2, some start4, some weaving5, some kind9, some state11, none]; goOn (tl P08 cf "law" [] 6 34) r)))))) := by kernel_rfl
theorem c_law_t_6 (cf : Str → List AV → M AV) (v_state : AV) (o_script o_hands o_start o_weaving o_kind o_k : Option AV) : tl P08 cf "law" [] 6 34 [o_script, o_hands, o_start, o_weaving, o_kind, some v_state, o_k] = (do let y1 ← (cf "_law_stands" [v_state]); pure (.ret y1)) := by kernel_rfl
theorem c_law_for_5 (cf : Str → List AV → M AV) (v_script v_weaving v_state : AV) (o_hands o_start o_kind o_k : Option AV) (a : AV) : forB P08 cf "law" [] 5 34 a [some v_script, o_hands, o_start, some v_weaving, o_kind, some v_state, o_k] = (do let state3 ← (do let x2 ← (do let vs1 ← eachM [pure v_state, (pItem v_weaving a)]; cf "stepped" vs1); pItem x2 (.int 0)); (do let c4 ← (do let t5 ← (do let v6 ← (pBin false .Mod a (.int 5)); (do let c9 ← (do let x8 ← (do let x7 ← (cf "_law_cell_at" [v_script, .int 1]); pBin false .FloorDiv x7 (.int 2)); pBin false .Mod x8 (.int 5)); pCmp .Eq v6 c9)); match t5 with | false => pure false | true => (do let t10 ← (do let b11 ← (do let v12 ← (cf "_law_stands" [state3]); truth v12); pure (!b11)); match t10 with | false => pure false | true => pure true)); match c4 with | true => (do let r ← pure (.ret (.bool false)); goOn (fun σ => pure (.next σ)) r) | false => (do let r ← pure (.next [some v_script, o_hands, o_start, some v_weaving, o_kind, some state3, some a]); goOn (fun σ => pure (.next σ)) r))) := by kernel_rfl
end Mine


set_option autoImplicit false
set_option linter.unusedVariables false
set_option maxRecDepth 100000
namespace Mine
open PySem PyProof.Rows
section
variable {H₀ H : AHeap} {c : Cn}

theorem s_head_of (n : Nat) (F : Foc H₀ H c) : callP P08 (n + 1) "head_of" [.loc c.st] H = some (.ok (.tup [c.head, .int c.mark]), H) := by
  refine callR (σ := [some (.loc c.st)]) (by kernel_rfl) (by kernel_rfl) (by kernel_rfl) ?_
  rw [c_head_of_0]
  refine Rn.val (.bind (.bind ?_))
  exact .eachE F.gHead (.eachE F.gMark (.each0 (.pure (.pure ⟨rfl, rfl⟩))))

noncomputable def Ix (a : AV) : Prop := a = .none ∨ ∃ i : Nat, a = .int i
noncomputable def eqIx : AV → AV → Bool
  | .none, .none => true
  | .int i, .int j => decide (i = j)
  | _, _ => false
theorem ne_ix {a b : AV} (ha : Ix a) (hb : Ix b) : pCmp .NotEq a b = pure (!eqIx a b) := by
  obtain rfl | ⟨i, rfl⟩ := ha <;> obtain rfl | ⟨j, rfl⟩ := hb
  · rfl
  · rfl
  · rfl
  · show (do let r ← pCmp .Eq (.int i) (.int j); pure (!r)) = _
    rw [e_eqi]; rfl
noncomputable def Kd (k : Str) : Prop := k = "marks" ∨ k = "bare" ∨ k = "new"
theorem kd_marks {k : Str} (h : Kd k) : pCmp .NotEq (.str k) (.str "marks") = pure (decide (k ≠ "marks")) := by
  obtain rfl | rfl | rfl := h <;> kernel_rfl
theorem kd_new {k : Str} (h : Kd k) : pCmp .Eq (.str k) (.str "new") = pure (decide (k = "new")) := by
  obtain rfl | rfl | rfl := h <;> kernel_rfl
noncomputable def stillB (c : Cn) (x : AV) (m : Int) : Bool := eqIx c.head x && (decide (c.kind ≠ "marks") || decide (c.mark = m))

theorem s_is_still (n : Nat) (F : Foc H₀ H c) {x : AV} {m : Int} (hk : Kd c.kind) (hh : Ix c.head) (hx : Ix x) (hs : c.seen = .tup [x, .int m]) :
    callP P08 (n + 1) "is_still" [.loc c.st, .loc c.w] H = some (.ok (.bool (stillB c x m)), H) := by
  refine callR (σ := [some (.loc c.st), some (.loc c.w)]) (by kernel_rfl) (by kernel_rfl) (by kernel_rfl) ?_
  have g := F.gSeen
  rw [hs] at g
  rw [c_is_still_0]
  refine Rn.val (.bind (.bof F.gHead (.bind (.bof g ?_))))
  rw [e_itT (k := 0) (a := x) rfl]
  refine .pure ?_
  rw [ne_ix hh hx]
  refine .pure ?_
  unfold stillB
  cases eqIx c.head x with
  | false => exact .pure ⟨rfl, rfl⟩
  | true =>
    show Rn (tl P08 _ "is_still" [] 1 39 _) H _
    rw [c_is_still_t_1]
    refine .bind (.bind (.bof F.gKind ?_))
    rw [kd_marks hk]
    refine .pure ?_
    rw [e_truth, pure_bind]
    cases decide (c.kind ≠ "marks") with
    | true => exact .pure (.pure ⟨rfl, rfl⟩)
    | false =>
      refine .bof F.gMark (.bind (.bind (.bof g ?_)))
      rw [e_itT (k := 1) (a := .int m) rfl]
      refine .pure ?_
      rw [e_eqi]
      exact .pure (.pure (.pure ⟨rfl, rfl⟩))

theorem s_put_below (n : Nat) (F : Foc H₀ H c) {i : Nat} {v u bel : AV} (hi : c.boxes[i]? = some (.tup [v, u])) :
    Rn (callP P08 (n + 1) "put_below" [.loc c.st, .int i, bel]) H fun a H' => Foc H₀ H' (c.u_boxes (c.boxes.set i (.tup [v, bel]))) := by
  refine callRn (σ := [some (.loc c.st), some (.int i), some bel]) (by kernel_rfl) (by kernel_rfl) (by kernel_rfl) ?_
  rw [c_put_below_0]
  refine .bind (.bind (.eachC (.bind (.bof F.gBoxes (.of (item_loc F.b hi) ?_)))))
  rw [e_itT (k := 0) (a := v) rfl]
  refine .pure (.eachP (.each0 (.pure (.bof F.gBoxes ?_))))
  exact .then (F.wBox (List.getElem?_eq_some_iff.mp hi).1 _) fun u_ H1 F1 => .pure F1

noncomputable def row0 (c : Cn) (num : Nat) : AV := .tup [.int num, .int c.place, c.deed, .int c.begun, .int c.time, .none, .none]
theorem s_point (n : Nat) (F : Foc H₀ H c) {num : Nat} (hn : c.hs[num]? = some (.loc c.hd)) (hl : c.rows.length < 100000) :
    Rn (callP P08 (n + 1) "come_to_point" [.loc c.st, .int num, .loc c.w]) H fun a H' => Foc H₀ H' ((c.u_row (.int c.rows.length)).u_rows (c.rows ++ [row0 c num])) := by
  refine callRn (σ := [some (.loc c.st), some (.int num), some (.loc c.w), none]) (by kernel_rfl) (by kernel_rfl) (by kernel_rfl) ?_
  rw [c_come_to_point_0]
  refine .bind (.bof F.gHands (.of (item_loc F.h hn) ?_))
  refine .bind (.bind (.eachE F.gRows (.each0 (.of (len_loc F.r) ?_))))
  refine .then (F.wRow _) fun u_ H1 F1 => ?_
  refine .bind (.bof F1.gRows (.bof (listOf_loc F1.r) ?_))
  refine .bind (.eachC (.bind (.eachP (.eachE F1.gPlace (.eachE F1.gDeed (.eachE F1.gBegun (.eachE F1.gTime (.eachP (.eachP (.each0 (.pure (.each0 ?_))))))))))))
  exact Rn.mono (F1.aRows hl (row0 c num)) fun u_ H2 F2 => .pure F2

theorem s_end_t (n : Nat) (F : Foc H₀ H c) {num k : Nat} {ans a1 a2 a3 a4 a5 a6 a7 : AV} {o : Option AV} (hn : c.hs[num]? = some (.loc c.hd)) (hr : c.row = .int k) (hk : c.rows[k]? = some (.tup [a1, a2, a3, a4, a5, a6, a7])) :
    Rn (tl P08 (callP P08 n) "end" [] 1 39 [some (.loc c.st), some (.int num), some (.loc c.w), some ans, o]) H fun r H' => (∃ σ, r = .next σ) ∧ Foc H₀ H' (((c.u_rows (c.rows.set k (.tup [a1, a2, a3, a4, a5, .int c.time, ans]))).u_place (c.place + 1)).u_wv .none) := by
  have g := F.gRow
  rw [hr] at g
  have L := LIMis
  rw [c_end_t_1]
  refine .bind (.bof F.gRows (.bof g (.of (item_loc F.r hk) ?_)))
  refine .bind (.bind ?_)
  simp only [pure_bind]
  rw [show pSlice false (.tup [a1, a2, a3, a4, a5, a6, a7]) none (some 5) = pure (.tup [a1, a2, a3, a4, a5]) from rfl]
  refine .pure (.bind (.bind (.eachE F.gTime (.eachP (.each0 (.pure ?_))))))
  rw [m_tup (by show 7 ≤ LIM; (first | lia | omega))]
  refine .pure (.bof F.gRows (.bof g ?_))
  refine .then (F.wRows (List.getElem?_eq_some_iff.mp hk).1 _) fun u_ H1 F1 => ?_
  refine .bind (.bind (.bind (.bof F1.gHands (.of (item_loc F1.h hn) (.of F1.gPlace ?_)))))
  rw [m_add]
  refine .pure (.bind (.bof F1.gHands (.of (item_loc F1.h hn) ?_)))
  refine .then (F1.wPlace _) fun u_ H2 F2 => ?_
  refine .bind (.bof F2.gHands (.of (item_loc F2.h hn) ?_))
  exact .then (F2.wWork _) fun u_ H3 F3 => .pure ⟨⟨_, rfl⟩, F3⟩

theorem s_end_old (n : Nat) (F : Foc H₀ H c) {num k : Nat} {ans a1 a2 a3 a4 a5 a6 a7 : AV} (hn : c.hs[num]? = some (.loc c.hd)) (hr : c.row = .int k) (hk : c.rows[k]? = some (.tup [a1, a2, a3, a4, a5, a6, a7])) :
    Rn (callP P08 (n + 1) "end" [.loc c.st, .int num, .loc c.w, ans]) H fun a H' => Foc H₀ H' (((c.u_rows (c.rows.set k (.tup [a1, a2, a3, a4, a5, .int c.time, ans]))).u_place (c.place + 1)).u_wv .none) := by
  refine callRn (σ := [some (.loc c.st), some (.int num), some (.loc c.w), some ans, none]) (by kernel_rfl) (by kernel_rfl) (by kernel_rfl) ?_
  have g := F.gRow
  rw [hr] at g
  rw [c_end_0]
  refine .bind (.bof g ?_)
  rw [show pCmp .Is (.int (k : Int)) .none = pure false from rfl]
  refine .pure (.bind (.pure ?_))
  refine Rn.mono (s_end_t n F hn hr hk) ?_
  rintro r H' ⟨⟨σ, rfl⟩, F'⟩
  exact F'
theorem s_end_new (n : Nat) (F : Foc H₀ H c) {num : Nat} {ans : AV} (hn : c.hs[num]? = some (.loc c.hd)) (hr : c.row = .none) (hl : c.rows.length < 100000) :
    Rn (callP P08 (n + 2) "end" [.loc c.st, .int num, .loc c.w, ans]) H fun a H' => Foc H₀ H' ((((c.u_row (.int c.rows.length)).u_rows (c.rows ++ [.tup [.int num, .int c.place, c.deed, .int c.begun, .int c.time, .int c.time, ans]])).u_place (c.place + 1)).u_wv .none) := by
  refine callRn (σ := [some (.loc c.st), some (.int num), some (.loc c.w), some ans, none]) (by kernel_rfl) (by kernel_rfl) (by kernel_rfl) ?_
  have g := F.gRow
  rw [hr] at g
  rw [c_end_0]
  refine .bind (.bof g ?_)
  rw [show pCmp .Is AV.none .none = pure true from rfl]
  refine .pure (.bind (.then (s_point n F hn hl) fun u_ H1 F1 => .pure ?_))
  refine Rn.mono (s_end_t (n + 1) F1 (k := c.rows.length) (a1 := .int num) (a2 := .int c.place) (a3 := c.deed) (a4 := .int c.begun) (a5 := .int c.time) (a6 := .none) (a7 := .none) hn rfl (by show (c.rows ++ [row0 c num])[c.rows.length]? = _; simp [row0])) ?_
  rintro r H' ⟨⟨σ, rfl⟩, F'⟩
  have e : (c.rows ++ [row0 c num]).set c.rows.length (.tup [.int num, .int c.place, c.deed, .int c.begun, .int c.time, .int c.time, ans]) = c.rows ++ [.tup [.int num, .int c.place, c.deed, .int c.begun, .int c.time, .int c.time, ans]] := by simp
  have F2 : Foc H₀ H' ((((c.u_row (.int c.rows.length)).u_rows ((c.rows ++ [row0 c num]).set c.rows.length (.tup [.int num, .int c.place, c.deed, .int c.begun, .int c.time, .int c.time, ans]))).u_place (c.place + 1)).u_wv .none) := F'
  rw [e] at F2
  exact F2
end
end Mine


set_option autoImplicit false
set_option linter.unusedVariables false
set_option maxRecDepth 100000
namespace Mine
open PySem PyProof.Rows
section
variable {H₀ H : AHeap} {c : Cn}

theorem s_take_t (n : Nat) (F : Foc H₀ H c) {w : Str} {v : AV} {i : Nat} (hd : c.deed = .tup [.str w, v]) (hi : i < c.boxes.length) :
    Rn (tl P08 (callP P08 n) "take" [] 1 39 [some (.loc c.st), some (.loc c.w), some (.int i)]) H fun r H' => r = .ret (.tup [.str "take", .int i]) ∧ Foc H₀ H' (((c.u_boxes (c.boxes.set i (.tup [v, .none]))).u_own (.int i)).u_next "look") := by
  have g := F.gDeed
  rw [hd] at g
  rw [c_take_t_1]
  refine .bind (.bind (.eachC (.bof g ?_)))
  rw [e_itT (k := 1) (a := v) rfl]
  refine .pure (.eachP (.each0 (.pure (.bof F.gBoxes ?_))))
  refine .then (F.wBox hi _) fun u_ H1 F1 => ?_
  refine .then (F1.wOwn _) fun u_ H2 F2 => ?_
  exact .then (F2.wNext _) fun u_ H3 F3 => .pure ⟨rfl, F3⟩

noncomputable def SpOk (c : Cn) : Prop := ∀ x ∈ c.spare, ∃ i : Nat, x = .int i ∧ i < c.boxes.length
theorem SpOk.rd (h : SpOk c) (H : AHeap) : ∀ x ∈ c.spare, ∃ d, rd H 7 x = some d := fun x hx => by
  obtain ⟨i, rfl, _⟩ := h x hx
  exact ⟨_, rd_int⟩

theorem s_take_new (n : Nat) (F : Foc H₀ H c) {w : Str} {v : AV} (hk : Kd c.kind) (hs : SpOk c) (hd : c.deed = .tup [.str w, v]) (hl : c.boxes.length < 100000) (hn : c.kind = "new" ∨ c.spare = []) :
    Rn (callP P08 (n + 1) "take" [.loc c.st, .loc c.w]) H fun a H' => a = .tup [.str "take", .int c.boxes.length] ∧ Foc H₀ H' (((c.u_boxes (c.boxes ++ [.tup [v, .none]])).u_own (.int c.boxes.length)).u_next "look") := by
  refine callRn (σ := [some (.loc c.st), some (.loc c.w), none]) (by kernel_rfl) (by kernel_rfl) (by kernel_rfl) ?_
  have tail : Rn (do let r ← (do let box3 ← (do let vs2 ← eachM [(pItem (.loc c.st) (.str "boxes"))]; pBI false .len vs2); (do let _ ← (do let o4 ← (pItem (.loc c.st) (.str "boxes")); let _ ← listOf o4; (pMeth "append" o4 [.none])); pure (.next [some (.loc c.st), some (.loc c.w), some box3]))); goOn (tl P08 (callP P08 n) "take" [] 1 39) r) H
      (Fl (fun u_ H' => AV.none = .tup [.str "take", .int c.boxes.length] ∧ Foc H₀ H' (((c.u_boxes (c.boxes ++ [.tup [v, .none]])).u_own (.int c.boxes.length)).u_next "look")) fun a H' => a = .tup [.str "take", .int c.boxes.length] ∧ Foc H₀ H' (((c.u_boxes (c.boxes ++ [.tup [v, .none]])).u_own (.int c.boxes.length)).u_next "look")) := by
    refine .bind (.bind (.bind (.eachE F.gBoxes (.each0 (.of (len_loc F.b) ?_)))))
    refine .bind (.bof F.gBoxes (.bof (listOf_loc F.b) ?_))
    refine Rn.mono (F.aBox hl .none) fun u_ H1 F1 => .pure ?_
    refine Rn.mono (s_take_t n F1 (w := w) (v := v) (i := c.boxes.length) hd (by show _ < (c.boxes ++ [AV.none]).length; simp)) ?_
    rintro r H' ⟨rfl, F'⟩
    refine ⟨rfl, ?_⟩
    have e : (c.boxes ++ [AV.none]).set c.boxes.length (.tup [v, .none]) = c.boxes ++ [.tup [v, .none]] := by simp
    have F2 : Foc H₀ H' (((c.u_boxes ((c.boxes ++ [AV.none]).set c.boxes.length (.tup [v, .none]))).u_own (.int c.boxes.length)).u_next "look") := F'
    rw [e] at F2
    exact F2
  rw [c_take_0]
  refine .bind (.bind (.bof F.gKind ?_))
  rw [kd_new hk]
  refine .pure ?_
  by_cases hnew : c.kind = "new"
  · rw [decide_eq_true hnew]
    exact .pure tail
  · rw [decide_eq_false hnew]
    have hsp : c.spare = [] := hn.resolve_left hnew
    refine .bind (.bof F.gSpare ?_)
    rw [e_newL (by simp), pure_bind]
    refine .of (eq_nil_loc F.sp (hs.rd H)) ?_
    rw [hsp]
    exact .pure tail

theorem s_take_pop (n : Nat) (F : Foc H₀ H c) {w : Str} {v : AV} {i : Nat} {xs : List AV} (hk : Kd c.kind) (hs : SpOk c) (hd : c.deed = .tup [.str w, v]) (hn : c.kind ≠ "new") (hx : c.spare = xs ++ [.int i]) :
    Rn (callP P08 (n + 1) "take" [.loc c.st, .loc c.w]) H fun a H' => a = .tup [.str "take", .int i] ∧ Foc H₀ H' ((((c.u_spare xs).u_boxes (c.boxes.set i (.tup [v, .none]))).u_own (.int i)).u_next "look") := by
  refine callRn (σ := [some (.loc c.st), some (.loc c.w), none]) (by kernel_rfl) (by kernel_rfl) (by kernel_rfl) ?_
  rw [c_take_0]
  refine .bind (.bind (.bof F.gKind ?_))
  rw [kd_new hk]
  refine .pure ?_
  rw [decide_eq_false hn]
  refine .bind (.bof F.gSpare ?_)
  rw [e_newL (by simp), pure_bind]
  refine .of (eq_nil_loc F.sp (hs.rd H)) ?_
  rw [show c.spare.isEmpty = false from by rw [hx]; simp]
  refine .pure (.bind (.bind (.bof F.gSpare (.bof (listOf_loc F.sp) ?_))))
  refine Rn.mono (F.pSpare hx) ?_
  rintro a H1 ⟨rfl, F1⟩
  refine .pure ?_
  have hi : i < c.boxes.length := by
    obtain ⟨j, h1, h2⟩ := hs (.int i) (by rw [hx]; simp)
    cases h1
    exact h2
  refine Rn.mono (s_take_t n F1 (w := w) (v := v) (i := i) hd hi) ?_
  rintro r H' ⟨rfl, F'⟩
  exact ⟨rfl, F'⟩

noncomputable def Wd (w : Str) : Prop := w = "push" ∨ w = "swap" ∨ w = "pop" ∨ w = "top" ∨ w = "clear"
theorem Wd.ok {w : Str} (h : Wd w) : PyData.strOk w = true := by obtain rfl | rfl | rfl | rfl | rfl := h <;> kernel_rfl
noncomputable def blk (w : Str) : Str := if w = "push" ∨ w = "clear" then "put" else "see"
noncomputable def bse (w : Str) : Str := if w = "top" then "check" else "put"
noncomputable def fst (w : Str) : Str := if w = "push" ∨ w = "swap" then "take" else "look"
theorem g_look {w : Str} (h : Wd w) : pItem g_BEHIND_LOOK (.str w) = pure (.str (blk w)) := by obtain rfl | rfl | rfl | rfl | rfl := h <;> kernel_rfl
theorem g_first {w : Str} (h : Wd w) : pItem g_FIRST (.str w) = pure (.str (fst w)) := by obtain rfl | rfl | rfl | rfl | rfl := h <;> kernel_rfl
theorem g_see {w : Str} (h : w = "swap" ∨ w = "pop" ∨ w = "top") : pItem g_BEHIND_SEE (.str w) = pure (.str (bse w)) := by obtain rfl | rfl | rfl := h <;> kernel_rfl

noncomputable def tLook (c : Cn) : AV := .tup [.str "look", c.head, .int c.mark]
noncomputable def cLook (c : Cn) (w : Str) : Cn := (c.u_seen (.tup [c.head, .int c.mark])).u_next (blk w)

theorem s_look_go (n : Nat) (F : Foc H₀ H c) {num : Nat} {w : Str} {r : List AV} {Q : AV → AHeap → Prop} (hw : Wd w) (hd : c.deed = .tup (.str w :: r))
    (h : ∀ H', Foc H₀ H' (cLook c w) → Rn (match decide (w = "push") with
      | true => (do let r ← (do let _ ← (do let vs8 ← eachM [pure (.loc c.st), (pItem (.loc c.w) (.str "own")), (pItem (.loc c.st) (.str "head"))]; callP P08 (n + 1) "put_below" vs8); pure (.next [some (.loc c.st), some (.int num), some (.loc c.w), some (.str w), some (tLook c), none])); goOn (tl P08 (callP P08 (n + 1)) "look" [] 5 35) r)
      | false => (do let r ← (do let c9 ← (do let v13 ← (pItem (.loc c.st) (.str "head")); pCmp .Is v13 (.none)); match c9 with | true => (do let r ← (do let c10 ← (pCmp .Eq (.str w) (.str "swap")); match c10 with | true => (do let r ← (do let _ ← (do let o11 ← (pItem (.loc c.st) (.str "spare")); let _ ← listOf o11; (do let vs12 ← eachM [(pItem (.loc c.w) (.str "own"))]; pMeth "append" o11 vs12)); pure (.next [some (.loc c.st), some (.int num), some (.loc c.w), some (.str w), some (tLook c), none])); goOn (tl P08 (callP P08 (n + 1)) "look" [(4, 1), (0, 0)] 1 33) r) | false => (do let r ← pure (.next [some (.loc c.st), some (.int num), some (.loc c.w), some (.str w), some (tLook c), none]); goOn (tl P08 (callP P08 (n + 1)) "look" [(4, 1), (0, 0)] 1 33) r)); goOn (fun σ => pure (.next σ)) r) | false => (do let r ← pure (.next [some (.loc c.st), some (.int num), some (.loc c.w), some (.str w), some (tLook c), none]); goOn (fun σ => pure (.next σ)) r)); goOn (tl P08 (callP P08 (n + 1)) "look" [] 5 35) r)) H' (Fl (fun u_ H' => Q .none H') Q)) :
    Rn (callP P08 (n + 2) "look" [.loc c.st, .int num, .loc c.w]) H Q := by
  refine callRn (σ := [some (.loc c.st), some (.int num), some (.loc c.w), none, none, none]) (by kernel_rfl) (by kernel_rfl) (by kernel_rfl) ?_
  have g := F.gDeed
  rw [hd] at g
  rw [c_look_0]
  refine .bind (.bof g ?_)
  rw [e_it0]
  refine .pure (.bof (s_head_of n F) ?_)
  refine .then (F.wSeen _) fun u_ H1 F1 => ?_
  rw [g_look hw, pure_bind]
  refine .then (F1.wNext _) fun u_ H2 F2 => ?_
  refine .bind (.bind (.eachP (.eachE F2.gHead (.eachE F2.gMark (.each0 (.pure ?_))))))
  rw [e_eqs hw.ok (by kernel_rfl), pure_bind]
  exact h H2 F2

theorem s_look_push (n : Nat) (F : Foc H₀ H c) {num o : Nat} {r : List AV} {v u : AV} (hd : c.deed = .tup (.str "push" :: r)) (ho : c.own = .int o) (hb : c.boxes[o]? = some (.tup [v, u])) :
    Rn (callP P08 (n + 2) "look" [.loc c.st, .int num, .loc c.w]) H fun a H' => a = tLook c ∧ Foc H₀ H' ((cLook c "push").u_boxes (c.boxes.set o (.tup [v, c.head]))) := by
  refine s_look_go n F (.inl rfl) hd fun H1 F1 => ?_
  rw [decide_eq_true rfl]
  have g := F1.gOwn
  rw [show (cLook c "push").own = .int o from ho] at g
  refine .bind (.bind (.bind (.eachP (.eachE g (.eachE F1.gHead (.each0 ?_))))))
  refine Rn.mono (s_put_below n F1 (i := o) (v := v) (u := u) hb) fun u_ H2 F2 => .pure ?_
  show Rn (tl P08 _ "look" [] 5 35 _) _ _
  rw [c_look_t_5]
  exact .pure ⟨rfl, F2⟩

theorem s_look_some (n : Nat) (F : Foc H₀ H c) {num i : Nat} {w : Str} {r : List AV} (hw : Wd w) (hp : w ≠ "push") (hd : c.deed = .tup (.str w :: r)) (hh : c.head = .int i) :
    Rn (callP P08 (n + 2) "look" [.loc c.st, .int num, .loc c.w]) H fun a H' => a = tLook c ∧ Foc H₀ H' (cLook c w) := by
  refine s_look_go n F hw hd fun H1 F1 => ?_
  rw [decide_eq_false hp]
  have g := F1.gHead
  rw [show (cLook c w).head = .int i from hh] at g
  refine .bind (.bind (.bof g ?_))
  rw [show pCmp .Is (.int (i : Int)) .none = pure false from rfl]
  refine .pure (.pure ?_)
  show Rn (tl P08 _ "look" [] 5 35 _) _ _
  rw [c_look_t_5]
  exact .pure ⟨rfl, F1⟩

noncomputable def endNew (c : Cn) (num : Nat) (ans : AV) : Cn := ((((c.u_row (.int c.rows.length)).u_rows (c.rows ++ [.tup [.int num, .int c.place, c.deed, .int c.begun, .int c.time, .int c.time, ans]])).u_place (c.place + 1)).u_wv .none)
noncomputable def cLookN (c : Cn) (w : Str) : Cn := if w = "swap" then (cLook c w).u_spare (c.spare ++ [c.own]) else cLook c w
theorem s_look_none (n : Nat) (F : Foc H₀ H c) {num : Nat} {w : Str} {r : List AV} (hw : Wd w) (hp : w ≠ "push") (hd : c.deed = .tup (.str w :: r)) (hh : c.head = .none) (hn : c.hs[num]? = some (.loc c.hd)) (hr : c.row = .none) (hl : c.rows.length < 100000) (hl2 : c.spare.length < 100000) :
    Rn (callP P08 (n + 3) "look" [.loc c.st, .int num, .loc c.w]) H fun a H' => a = tLook c ∧ Foc H₀ H' (endNew (cLookN c w) num (if w = "clear" then .tup [] else .none)) := by
  refine s_look_go (n + 1) F hw hd fun H1 F1 => ?_
  rw [decide_eq_false hp]
  have g := F1.gHead
  rw [show (cLook c w).head = .none from hh] at g
  have tail : ∀ (H2 : AHeap), Foc H₀ H2 (cLookN c w) → Rn (tl P08 (callP P08 (n + 2)) "look" [(4, 1), (0, 0)] 1 33 [some (.loc c.st), some (.int num), some (.loc c.w), some (.str w), some (tLook c), none]) H2 fun r H' => (∃ o1 o2 o3 o4 o5, r = .next [o1, o2, o3, o4, some (tLook c), o5]) ∧ Foc H₀ H' (endNew (cLookN c w) num (if w = "clear" then .tup [] else .none)) := by
    intro H2 F2
    have e1 : (cLookN c w).hs[num]? = some (.loc (cLookN c w).hd) := by unfold cLookN; split <;> exact hn
    have e2 : (cLookN c w).row = .none := by unfold cLookN; split <;> exact hr
    have e3 : (cLookN c w).rows.length < 100000 := by unfold cLookN; split <;> exact hl
    have e4 : (cLookN c w).st = c.st := by unfold cLookN; split <;> rfl
    have e5 : (cLookN c w).w = c.w := by unfold cLookN; split <;> rfl
    have q := fun ans => s_end_new n F2 (num := num) (ans := ans) e1 e2 e3
    rw [e4, e5] at q
    rw [c_look_t41_00_1, e_eqs hw.ok (by kernel_rfl), pure_bind]
    by_cases hc : w = "clear"
    · rw [decide_eq_true hc, if_pos hc]
      refine .bind (.pure ?_)
      show Rn (tl P08 _ "look" [(4, 1), (0, 0)] 3 31 _) _ _
      rw [c_look_t41_00_3]
      exact .then (q _) fun u_ H3 F3 => .pure ⟨⟨_, _, _, _, _, rfl⟩, F3⟩
    · rw [decide_eq_false hc, if_neg hc]
      refine .bind (.pure ?_)
      show Rn (tl P08 _ "look" [(4, 1), (0, 0)] 3 31 _) _ _
      rw [c_look_t41_00_3]
      exact .then (q _) fun u_ H3 F3 => .pure ⟨⟨_, _, _, _, _, rfl⟩, F3⟩
  have fin : ∀ {r' : Res} {H' : AHeap}, (∃ o1 o2 o3 o4 o5, r' = .next [o1, o2, o3, o4, some (tLook c), o5]) ∧ Foc H₀ H' (endNew (cLookN c w) num (if w = "clear" then .tup [] else .none)) →
      Rn (goOn (fun σ => pure (.next σ)) r') H' fun a H1 => Rn (goOn (tl P08 (callP P08 (n + 2)) "look" [] 5 35) a) H1 (Fl (fun u_ H' => AV.none = tLook c ∧ Foc H₀ H' (endNew (cLookN c w) num (if w = "clear" then .tup [] else .none))) fun a H' => a = tLook c ∧ Foc H₀ H' (endNew (cLookN c w) num (if w = "clear" then .tup [] else .none))) := by
    rintro r' H' ⟨⟨o1, o2, o3, o4, o5, rfl⟩, F'⟩
    refine .pure ?_
    show Rn (tl P08 _ "look" [] 5 35 _) _ _
    rw [c_look_t_5]
    exact .pure ⟨rfl, F'⟩
  refine .bind (.bind (.bof g ?_))
  rw [show pCmp .Is AV.none .none = pure true from rfl]
  refine .pure (.bind ?_)
  rw [e_eqs hw.ok (by kernel_rfl), pure_bind]
  by_cases hs : w = "swap"
  · rw [decide_eq_true hs]
    refine .bind (.bind (.bof F1.gSpare (.bof (listOf_loc F1.sp) (.bind (.eachE F1.gOwn (.each0 ?_))))))
    refine Rn.mono (F1.aSpare hl2 _) fun u_ H2 F2 => .pure ?_
    refine Rn.mono (tail H2 ?_) fun r' H' q => fin q
    unfold cLookN
    rw [if_pos hs]
    exact F2
  · rw [decide_eq_false hs]
    refine .bind (.pure ?_)
    refine Rn.mono (tail H1 ?_) fun r' H' q => fin q
    unfold cLookN
    rw [if_neg hs]
    exact F1
end
end Mine


set_option autoImplicit false
set_option linter.unusedVariables false
set_option maxRecDepth 100000
namespace Mine
open PySem PyProof.Rows
section
variable {H₀ H : AHeap} {c : Cn}

noncomputable def cSee (c : Cn) (w : Str) (v b : AV) : Cn := (c.u_inside (.tup [v, b])).u_next (bse w)
theorem s_see_go (n : Nat) (F : Foc H₀ H c) {w : Str} {r : List AV} {i : Nat} {m v b : AV} {Q : AV → AHeap → Prop} (hw : w = "swap" ∨ w = "pop" ∨ w = "top") (hd : c.deed = .tup (.str w :: r)) (hs : c.seen = .tup [.int i, m]) (hb : c.boxes[i]? = some (.tup [v, b]))
    (h : ∀ H', Foc H₀ H' (cSee c w v b) → Rn (match decide (w = "swap") with
      | true => (do let r ← (do let _ ← (do let vs12 ← eachM [pure (.loc c.st), (pItem (.loc c.w) (.str "own")), (do let x11 ← (pItem (.loc c.w) (.str "inside")); pItem x11 (.int 1))]; callP P08 n "put_below" vs12); pure (.next [some (.loc c.st), some (.loc c.w), some (.int i), some (.tup [.str "see", .int i, v, b])])); goOn (tl P08 (callP P08 n) "see" [] 5 35) r)
      | false => (do let r ← pure (.next [some (.loc c.st), some (.loc c.w), some (.int i), some (.tup [.str "see", .int i, v, b])]); goOn (tl P08 (callP P08 n) "see" [] 5 35) r)) H' (Fl (fun u_ H' => Q .none H') Q)) :
    Rn (callP P08 (n + 1) "see" [.loc c.st, .loc c.w]) H Q := by
  refine callRn (σ := [some (.loc c.st), some (.loc c.w), none, none]) (by kernel_rfl) (by kernel_rfl) (by kernel_rfl) ?_
  have g := F.gSeen
  rw [hs] at g
  have hok : PyData.strOk w = true := by obtain rfl | rfl | rfl := hw <;> kernel_rfl
  have L := LIMis
  rw [c_see_0]
  refine .bind (.bof g ?_)
  rw [e_it0]
  refine .pure (.bind (.bof F.gBoxes (.of (item_loc F.b hb) ?_)))
  refine .then (F.wInside _) fun u_ H1 F1 => ?_
  have g1 := F1.gDeed
  rw [show (c.u_inside (.tup [v, b])).deed = .tup (.str w :: r) from hd] at g1
  refine .bind (.bind (.bof g1 ?_))
  rw [e_it0]
  refine .pure ?_
  rw [g_see hw]
  refine .pure ?_
  refine .then (F1.wNext _) fun u_ H2 F2 => ?_
  refine .bind (.bof F2.gInside ?_)
  rw [show ((c.u_inside (.tup [v, b])).u_next (bse w)).inside = .tup [v, b] from rfl, m_tup (by show 4 ≤ LIM; (first | lia | omega))]
  refine .pure ?_
  have g2 := F2.gDeed
  rw [show ((c.u_inside (.tup [v, b])).u_next (bse w)).deed = .tup (.str w :: r) from hd] at g2
  refine .bind (.bind (.bof g2 ?_))
  rw [e_it0]
  refine .pure ?_
  rw [e_eqs hok (by kernel_rfl)]
  refine .pure ?_
  exact h H2 F2

theorem s_see_swap (n : Nat) (F : Foc H₀ H c) {r : List AV} {i o : Nat} {m v b v' b' : AV} (hd : c.deed = .tup (.str "swap" :: r)) (hs : c.seen = .tup [.int i, m]) (hb : c.boxes[i]? = some (.tup [v, b])) (ho : c.own = .int o) (hb' : c.boxes[o]? = some (.tup [v', b'])) :
    Rn (callP P08 (n + 2) "see" [.loc c.st, .loc c.w]) H fun a H' => a = .tup [.str "see", .int i, v, b] ∧ Foc H₀ H' ((cSee c "swap" v b).u_boxes (c.boxes.set o (.tup [v', b]))) := by
  refine s_see_go (n + 1) F (.inl rfl) hd hs hb fun H1 F1 => ?_
  rw [decide_eq_true rfl]
  have g := F1.gOwn
  rw [show (cSee c "swap" v b).own = .int o from ho] at g
  refine .bind (.bind (.bind (.eachP (.eachE g (.eachC (.bof F1.gInside ?_))))))
  rw [show (cSee c "swap" v b).inside = .tup [v, b] from rfl, e_itT (k := 1) (a := b) rfl]
  refine .pure (.each0 ?_)
  refine Rn.mono (s_put_below n F1 (i := o) (v := v') (u := b') hb') fun u_ H2 F2 => .pure ?_
  show Rn (tl P08 _ "see" [] 5 35 _) _ _
  rw [c_see_t_5]
  exact .pure ⟨rfl, F2⟩
theorem s_see (n : Nat) (F : Foc H₀ H c) {w : Str} {r : List AV} {i : Nat} {m v b : AV} (hw : w = "pop" ∨ w = "top") (hd : c.deed = .tup (.str w :: r)) (hs : c.seen = .tup [.int i, m]) (hb : c.boxes[i]? = some (.tup [v, b])) :
    Rn (callP P08 (n + 1) "see" [.loc c.st, .loc c.w]) H fun a H' => a = .tup [.str "see", .int i, v, b] ∧ Foc H₀ H' (cSee c w v b) := by
  refine s_see_go n F (.inr hw) hd hs hb fun H1 F1 => ?_
  rw [decide_eq_false (by obtain rfl | rfl := hw <;> decide)]
  refine .bind (.pure ?_)
  show Rn (tl P08 _ "see" [] 5 35 _) _ _
  rw [c_see_t_5]
  exact .pure ⟨rfl, F1⟩

theorem s_put_no (n : Nat) (F : Foc H₀ H c) {num : Nat} {x : AV} {m : Int} (hk : Kd c.kind) (hh : Ix c.head) (hx : Ix x) (hs : c.seen = .tup [x, .int m]) (hb : stillB c x m = false) :
    Rn (callP P08 (n + 2) "put" [.loc c.st, .int num, .loc c.w]) H fun a H' => a = .tup [.str "put", .bool false] ∧ Foc H₀ H' (c.u_next "look") := by
  refine callRn (σ := [some (.loc c.st), some (.int num), some (.loc c.w), none, none]) (by kernel_rfl) (by kernel_rfl) (by kernel_rfl) ?_
  rw [c_put_0]
  refine .bind (.bind (.bof (s_is_still n F hk hh hx hs) ?_))
  rw [hb, e_truth]
  refine .pure (.pure ?_)
  refine .bind (.then (F.wNext _) fun u_ H1 F1 => .pure ?_)
  exact .pure ⟨rfl, F1⟩

noncomputable def cPut (c : Cn) (w : Str) (num : Nat) (bi v : AV) : Cn :=
  if w = "clear" then ((((((c.u_mark (c.mark + 1)).u_head .none).u_row (.int c.rows.length)).u_rows (c.rows ++ [row0 c num])).u_walk c.head).u_next "walk")
  else if w = "push" then endNew ((c.u_mark (c.mark + 1)).u_head c.own) num .none
  else if w = "pop" then endNew ((((c.u_mark (c.mark + 1)).u_head c.own).u_head bi).u_spare (c.spare ++ [c.head])) num v
  else endNew (((c.u_mark (c.mark + 1)).u_head c.own).u_spare (c.spare ++ [c.head])) num v

theorem s_put_yes (n : Nat) (F : Foc H₀ H c) {num : Nat} {x v bi : AV} {m : Int} {w : Str} {r : List AV} (hw : w = "push" ∨ w = "clear" ∨ w = "swap" ∨ w = "pop") (hk : Kd c.kind) (hh : Ix c.head) (hx : Ix x) (hs : c.seen = .tup [x, .int m]) (hb : stillB c x m = true)
    (hd : c.deed = .tup (.str w :: r)) (hn : c.hs[num]? = some (.loc c.hd)) (hr : c.row = .none) (hl : c.rows.length < 100000) (hl2 : c.spare.length < 100000) (hi : (w = "swap" ∨ w = "pop") → c.inside = .tup [v, bi]) :
    Rn (callP P08 (n + 3) "put" [.loc c.st, .int num, .loc c.w]) H fun a H' => a = .tup [.str "put", .bool true] ∧ Foc H₀ H' (cPut c w num bi v) := by
  refine callRn (σ := [some (.loc c.st), some (.int num), some (.loc c.w), none, none]) (by kernel_rfl) (by kernel_rfl) (by kernel_rfl) ?_
  have hok : PyData.strOk w = true := by obtain rfl | rfl | rfl | rfl := hw <;> kernel_rfl
  rw [c_put_0]
  refine .bind (.bind (.bof (s_is_still (n + 1) F hk hh hx hs) ?_))
  rw [hb, e_truth]
  refine .pure (.pure (.bind (.pure ?_)))
  show Rn (tl P08 _ "put" [] 1 39 _) _ _
  have g := F.gDeed
  rw [hd] at g
  rw [c_put_t_1]
  refine .bind (.bof g ?_)
  rw [e_it0]
  refine .pure (.bof F.gHead (.bind (.bof F.gMark ?_)))
  rw [m_add]
  refine .pure ?_
  refine .then (F.wMark _) fun u_ H1 F1 => ?_
  rw [e_eqs hok (by kernel_rfl), pure_bind]
  have fin : ∀ {o1 o2 o3 o4 o5 : Option AV} {H' : AHeap}, Foc H₀ H' (cPut c w num bi v) → Rn (goOn (tl P08 (callP P08 (n + 2)) "put" [] 5 35) (.next [o1, o2, o3, o4, o5])) H' (Fl (fun u_ H' => AV.none = .tup [.str "put", .bool true] ∧ Foc H₀ H' (cPut c w num bi v)) fun a H' => a = .tup [.str "put", .bool true] ∧ Foc H₀ H' (cPut c w num bi v)) := by
    intro o1 o2 o3 o4 o5 H' F'
    show Rn (tl P08 _ "put" [] 5 35 _) _ _
    rw [c_put_t_5]
    exact .pure ⟨rfl, F'⟩
  by_cases h1 : w = "clear"
  · rw [decide_eq_true h1]
    have e : cPut c w num bi v = ((((((c.u_mark (c.mark + 1)).u_head .none).u_row (.int c.rows.length)).u_rows (c.rows ++ [row0 c num])).u_walk c.head).u_next "walk") := by unfold cPut; rw [if_pos h1]
    refine .bind (.then (F1.wHead _) fun u_ H2 F2 => ?_)
    refine .then (s_point (n + 1) F2 (num := num) hn hl) fun u_ H3 F3 => ?_
    refine .then (F3.wWalk c.head) fun u_ H4 F4 => ?_
    refine .then (F4.wNext _) fun u_ H5 F5 => .pure (fin ?_)
    rw [e]
    exact F5
  · rw [decide_eq_false h1]
    refine .bind ?_
    rw [e_eqs hok (by kernel_rfl), pure_bind]
    by_cases h2 : w = "push"
    · rw [decide_eq_true h2]
      have e : cPut c w num bi v = endNew ((c.u_mark (c.mark + 1)).u_head c.own) num .none := by unfold cPut; rw [if_neg h1, if_pos h2]
      refine .bind (.bof F1.gOwn (.then (F1.wHead _) fun u_ H2 F2 => ?_))
      refine .then (s_end_new n F2 (num := num) (ans := .none) hn hr hl) fun u_ H3 F3 => .pure (.pure (fin ?_))
      rw [e]
      exact F3
    · rw [decide_eq_false h2]
      have h3 : w = "swap" ∨ w = "pop" := by
        rcases hw with h | h | h | h
        · exact absurd h h2
        · exact absurd h h1
        · exact .inl h
        · exact .inr h
      have hin := hi h3
      refine .bind (.bof F1.gOwn (.then (F1.wHead _) fun u_ H2 F2 => ?_))
      rw [e_eqs hok (by kernel_rfl), pure_bind]
      by_cases h4 : w = "pop"
      · rw [decide_eq_true h4]
        have e : cPut c w num bi v = endNew ((((c.u_mark (c.mark + 1)).u_head c.own).u_head bi).u_spare (c.spare ++ [c.head])) num v := by unfold cPut; rw [if_neg h1, if_neg h2, if_pos h4]
        have g2 := F2.gInside
        rw [show (Cn.u_head (c.u_mark (c.mark + 1)) (c.u_mark (c.mark + 1)).own).inside = .tup [v, bi] from hin] at g2
        refine .bind (.bind (.bof g2 ?_))
        rw [e_itT (k := 1) (a := bi) rfl]
        refine .pure (.then (F2.wHead _) fun u_ H3 F3 => .pure ?_)
        show Rn (tl P08 _ "put" [(4, 1), (0, 1)] 2 32 _) _ _
        rw [c_put_t41_01_2]
        refine .bind (.bof F3.gSpare (.bof (listOf_loc F3.sp) ?_))
        refine Rn.mono (F3.aSpare hl2 c.head) fun u_ H4 F4 => ?_
        have g4 := F4.gInside
        refine .bind (.bind (.eachP (.eachP (.eachP (.eachC (.bof g4 ?_))))))
        rw [show (Cn.u_spare (Cn.u_head (Cn.u_head (c.u_mark (c.mark + 1)) (c.u_mark (c.mark + 1)).own) bi) _).inside = .tup [v, bi] from hin, e_itT (k := 0) (a := v) rfl]
        refine .pure (.each0 ?_)
        refine Rn.mono (s_end_new n F4 (num := num) (ans := v) hn hr hl) fun u_ H5 F5 => .pure (.pure (fin ?_))
        rw [e]
        exact F5
      · rw [decide_eq_false h4]
        have e : cPut c w num bi v = endNew (((c.u_mark (c.mark + 1)).u_head c.own).u_spare (c.spare ++ [c.head])) num v := by unfold cPut; rw [if_neg h1, if_neg h2, if_neg h4]
        refine .bind (.pure ?_)
        show Rn (tl P08 _ "put" [(4, 1), (0, 1)] 2 32 _) _ _
        rw [c_put_t41_01_2]
        refine .bind (.bof F2.gSpare (.bof (listOf_loc F2.sp) ?_))
        refine Rn.mono (F2.aSpare hl2 c.head) fun u_ H4 F4 => ?_
        have g4 := F4.gInside
        refine .bind (.bind (.eachP (.eachP (.eachP (.eachC (.bof g4 ?_))))))
        rw [show (Cn.u_spare (Cn.u_head (c.u_mark (c.mark + 1)) (c.u_mark (c.mark + 1)).own) _).inside = .tup [v, bi] from hin, e_itT (k := 0) (a := v) rfl]
        refine .pure (.each0 ?_)
        refine Rn.mono (s_end_new n F4 (num := num) (ans := v) hn hr hl) fun u_ H5 F5 => .pure (.pure (fin ?_))
        rw [e]
        exact F5

theorem s_check (n : Nat) (F : Foc H₀ H c) {num : Nat} {x v bi : AV} {m : Int} (hk : Kd c.kind) (hh : Ix c.head) (hx : Ix x) (hs : c.seen = .tup [x, .int m]) (hn : c.hs[num]? = some (.loc c.hd)) (hr : c.row = .none) (hl : c.rows.length < 100000) (hi : c.inside = .tup [v, bi]) :
    Rn (callP P08 (n + 3) "check" [.loc c.st, .int num, .loc c.w]) H fun a H' => a = tLook c ∧ Foc H₀ H' (if stillB c x m then endNew c num v else c.u_next "look") := by
  refine callRn (σ := [some (.loc c.st), some (.int num), some (.loc c.w), none]) (by kernel_rfl) (by kernel_rfl) (by kernel_rfl) ?_
  rw [c_check_0]
  refine .bind (.bind (.eachP (.eachE F.gHead (.eachE F.gMark (.each0 (.pure ?_))))))
  refine .bind (.bof (s_is_still (n + 1) F hk hh hx hs) ?_)
  rw [e_truth]
  refine .pure ?_
  cases hb : stillB c x m with
  | true =>
    have g4 := F.gInside
    rw [hi] at g4
    refine .bind (.bind (.bind (.eachP (.eachP (.eachP (.eachC (.bof g4 ?_)))))))
    rw [e_itT (k := 0) (a := v) rfl]
    refine .pure (.each0 ?_)
    refine Rn.mono (s_end_new n F (num := num) (ans := v) hn hr hl) fun u_ H5 F5 => .pure ?_
    show Rn (tl P08 _ "check" [] 2 38 _) _ _
    rw [c_check_t_2]
    exact .pure ⟨rfl, F5⟩
  | false =>
    refine .bind (.then (F.wNext _) fun u_ H1 F1 => .pure ?_)
    show Rn (tl P08 _ "check" [] 2 38 _) _ _
    rw [c_check_t_2]
    exact .pure ⟨rfl, F1⟩

noncomputable def cWalk (c : Cn) (i : Nat) (v b : AV) : Cn := ((c.u_kept (c.kept ++ [v])).u_spare (c.spare ++ [.int i])).u_walk b
noncomputable def cWalkE (c : Cn) (i k : Nat) (v b a1 a2 a3 a4 a5 : AV) : Cn := (((cWalk c i v b).u_rows (c.rows.set k (.tup [a1, a2, a3, a4, a5, .int c.time, .tup (c.kept ++ [v])]))).u_place (c.place + 1)).u_wv .none
theorem s_walk (n : Nat) (F : Foc H₀ H c) {num i k : Nat} {v b a1 a2 a3 a4 a5 a6 a7 : AV} (hw : c.walk = .int i) (hb : c.boxes[i]? = some (.tup [v, b])) (hx : Ix b) (hn : c.hs[num]? = some (.loc c.hd)) (hr : c.row = .int k) (hk : c.rows[k]? = some (.tup [a1, a2, a3, a4, a5, a6, a7])) (hl : c.kept.length < 100000) (hl2 : c.spare.length < 100000) :
    Rn (callP P08 (n + 3) "walk" [.loc c.st, .int num, .loc c.w]) H fun a H' => a = .tup [.str "see", .int i, v, b] ∧ Foc H₀ H' (if pIsNone b then cWalkE c i k v b a1 a2 a3 a4 a5 else cWalk c i v b) := by
  refine callRn (σ := [some (.loc c.st), some (.int num), some (.loc c.w), none, none, none]) (by kernel_rfl) (by kernel_rfl) (by kernel_rfl) ?_
  have g := F.gWalk
  rw [hw] at g
  rw [c_walk_0]
  refine .bof g (.bind (.bof F.gBoxes (.of (item_loc F.b hb) ?_)))
  rw [show pairOf (.tup [v, b]) = pure (v, b) from rfl, pure_bind]
  refine .bind (.bof F.gKept (.bof (listOf_loc F.k) ?_))
  refine Rn.mono (F.aKept hl _) fun u_ H1 F1 => ?_
  refine .bind (.bof F1.gSpare (.bof (listOf_loc F1.sp) ?_))
  refine Rn.mono (F1.aSpare hl2 _) fun u_ H2 F2 => ?_
  refine .then (F2.wWalk _) fun u_ H3 F3 => ?_
  obtain rfl | ⟨j, rfl⟩ := hx
  · rw [show pCmp .Is AV.none .none = pure true from rfl, pure_bind]
    refine .bind (.bind (.bind (.eachP (.eachP (.eachP (.eachC (.bind (.eachE F3.gKept (.each0 ?_)))))))))
    refine .of (a := .tup (c.kept ++ [v])) (H1 := H3) ?_ ?_
    · exact bind_of (listOf_loc F3.k) rfl
    · refine .each0 ?_
      refine Rn.mono (s_end_old (n + 1) F3 (num := num) (k := k) (ans := .tup (c.kept ++ [v])) hn hr hk) fun u_ H4 F4 => .pure ?_
      show Rn (tl P08 _ "walk" [] 6 34 _) _ _
      rw [c_walk_t_6, show pIsNone AV.none = true from rfl]
      exact .pure ⟨rfl, F4⟩
  · rw [show pCmp .Is (.int (j : Int)) .none = pure false from rfl, pure_bind]
    refine .bind (.pure ?_)
    show Rn (tl P08 _ "walk" [] 6 34 _) _ _
    rw [c_walk_t_6, show pIsNone (.int (j : Int)) = false from rfl]
    exact .pure ⟨rfl, F3⟩
end
end Mine


set_option autoImplicit false
set_option linter.unusedVariables false
set_option maxRecDepth 100000
namespace Mine
open PySem PyProof.Rows
section
variable {H₀ H : AHeap} {c : Cn}

theorem s_work_old (n : Nat) (F : Foc H₀ H c) {num : Nat} (hn : c.hs[num]? = some (.loc c.hd)) (hv : c.wv = .loc c.w) :
    callP P08 (n + 1) "work_of" [.loc c.st, .int num] H = some (.ok (.loc c.w), H) := by
  refine callR (σ := [some (.loc c.st), some (.int num), none, none]) (by kernel_rfl) (by kernel_rfl) (by kernel_rfl) ?_
  have g := F.gWork
  rw [hv] at g
  rw [c_work_of_0]
  refine Rn.val (.bind (.bof F.gHands (.of (item_loc F.h hn) (.bind (.bof g ?_)))))
  rw [show pCmp .Is (.loc c.w) .none = pure false from rfl]
  refine .pure (.bind (.pure ?_))
  show Rn (tl P08 _ "work_of" [] 2 38 _) _ _
  rw [c_work_of_t_2]
  exact .bof g (.pure ⟨rfl, rfl⟩)

theorem s_work_new (n : Nat) (F : Foc0 H₀ H c) {num p : Nat} {w : Str} {r : List AV} (hn : c.hs[num]? = some (.loc c.hd)) (hv : c.wv = .none) (hp : c.place = p) (hd : c.prog[p]? = some (.tup (.str w :: r))) (hw : Wd w) :
    Rn (callP P08 (n + 1) "work_of" [.loc c.st, .int num]) H fun a H' => a = .loc (H.length + 1) ∧ Foc H₀ H' ((c.beg H.length (H.length + 1) (.tup (.str w :: r)) (fst w)).u_wv (.loc (H.length + 1))) := by
  refine callRn (σ := [some (.loc c.st), some (.int num), none, none]) (by kernel_rfl) (by kernel_rfl) (by kernel_rfl) ?_
  have g := F.gWork
  rw [hv] at g
  have g2 := F.gPlace
  rw [hp] at g2
  have L := LIMis
  rw [c_work_of_0]
  refine .bind (.bof F.gHands (.of (item_loc F.h hn) (.bind (.bof g ?_))))
  rw [show pCmp .Is AV.none .none = pure true from rfl]
  refine .pure (.bind (.bind (.bof F.gProg (.bof g2 ?_))))
  rw [e_item_tup hd]
  refine .pure (.bind (.bind ?_))
  refine .eachP (.eachE F.gTime (.eachC ?_))
  rw [e_it0, pure_bind, g_first hw]
  refine .pure (.eachP (.eachP (.eachP (.eachP (.eachE (newT (by simp)) (.eachP (.each0 ?_)))))))
  have F1 := F.begun (.tup (.str w :: r)) (fst w)
  refine .of newDT ?_
  have e : (H ++ [AO.list []]).length = H.length + 1 := by simp
  rw [e]
  refine .then (F1.wWork (.loc (H.length + 1))) fun u_ H2 F2 => .pure ?_
  show Rn (tl P08 _ "work_of" [] 2 38 _) _ _
  rw [c_work_of_t_2]
  exact .bof F2.gWork (.pure ⟨rfl, F2⟩)

noncomputable def opCall (n : Nat) (c : Cn) (num : Nat) : M AV :=
  if c.next = "take" then callP P08 n "take" [.loc c.st, .loc c.w]
  else if c.next = "look" then callP P08 n "look" [.loc c.st, .int num, .loc c.w]
  else if c.next = "see" then callP P08 n "see" [.loc c.st, .loc c.w]
  else if c.next = "put" then callP P08 n "put" [.loc c.st, .int num, .loc c.w]
  else if c.next = "check" then callP P08 n "check" [.loc c.st, .int num, .loc c.w]
  else callP P08 n "walk" [.loc c.st, .int num, .loc c.w]

theorem s_go_t (n : Nat) (F : Foc H₀ H c) {o1 o2 o3 : Option AV} {told : AV} :
    Rn (tl P08 (callP P08 n) "go" [] 2 38 [some (.loc c.st), o1, o2, some told, o3]) H fun r H' => r = .ret told ∧ Foc H₀ H' (c.u_time (c.time + 1)) := by
  rw [c_go_t_2]
  refine .bind (.bof F.gTime ?_)
  rw [m_add]
  exact .pure (.then (F.wTime _) fun u_ H1 F1 => .pure ⟨rfl, F1⟩)

theorem s_go (n : Nat) {num : Nat} {G : AV → Cn → Prop} {c : Cn} {H1 : AHeap} {hd : Nat} {hand : List (Str × AV)} {wv : AV} {place : Int} {prog : List AV}
    (g1 : pItem (.loc c.st) (.str "hands") H = some (.ok (.loc c.lh), H)) (g2 : pItem (.loc c.lh) (.int num) H = some (.ok (.loc hd), H)) (g3 : pItem (.loc hd) (.str "work") H = some (.ok wv, H))
    (g4 : pItem (.loc hd) (.str "place") H = some (.ok (.int place), H)) (g5 : pItem (.loc hd) (.str "program") H = some (.ok (.tup prog), H)) (hc : pIsNone wv = false ∨ place ≠ prog.length) (hok : PyData.strOk c.next = true)
    (hw : callP P08 (n + 1) "work_of" [.loc c.st, .int num] H = some (.ok (.loc c.w), H1)) (F : Foc H₀ H1 c)
    (hop : Rn (opCall (n + 1) c num) H1 fun told H2 => ∃ c2, c2.st = c.st ∧ Foc H₀ H2 c2 ∧ G told c2) :
    Rn (callP P08 (n + 2) "go" [.loc c.st, .int num]) H fun told H' => ∃ c2, Foc H₀ H' (c2.u_time (c2.time + 1)) ∧ G told c2 := by
  refine callRn (σ := [some (.loc c.st), some (.int num), none, none, none]) (by kernel_rfl) (by kernel_rfl) (by kernel_rfl) ?_
  have fin : ∀ {told : AV} {H2 : AHeap} {o1 o2 o3 : Option AV}, (∃ c2, c2.st = c.st ∧ Foc H₀ H2 c2 ∧ G told c2) → Rn (tl P08 (callP P08 (n + 1)) "go" [] 2 38 [some (.loc c.st), o1, o2, some told, o3]) H2 (Fl (fun u_ H' => ∃ c2, Foc H₀ H' (c2.u_time (c2.time + 1)) ∧ G .none c2) fun told H' => ∃ c2, Foc H₀ H' (c2.u_time (c2.time + 1)) ∧ G told c2) := by
    rintro told H2 o1 o2 o3 ⟨c2, e, F2, q⟩
    rw [← e]
    refine Rn.mono (s_go_t (n + 1) F2) ?_
    rintro r H' ⟨rfl, F'⟩
    exact ⟨c2, F', q⟩
  rw [c_go_0]
  refine .bind (.bof g1 (.of g2 ?_))
  refine .bind (.bind (.bof g3 ?_))
  rw [show pCmp .Is wv .none = pure (pIsNone wv) from rfl]
  refine .pure ?_
  refine Rn.mono (R := fun b H' => b = false ∧ H' = H) ?_ ?_
  · cases hx : pIsNone wv with
    | false => exact .pure ⟨rfl, rfl⟩
    | true =>
      have hpl : place ≠ prog.length := hc.resolve_left (by rw [hx]; decide)
      refine .bind (.bof g4 (.bind (.bind (.eachE g5 (.each0 ?_)))))
      rw [e_len_tup]
      refine .pure ?_
      rw [e_eqi, decide_eq_false hpl]
      exact .pure (.pure ⟨rfl, rfl⟩)
  rintro b H' ⟨rfl, rfl⟩
  refine .bind (.bof hw ?_)
  unfold opCall at hop
  have cmp : ∀ x : Str, PyData.strOk x = true → pCmp .Eq (.str c.next) (.str x) = pure (decide (c.next = x)) := fun x hx => e_eqs hok hx
  refine .bind (.bof F.gNext ?_)
  rw [cmp _ (by kernel_rfl)]
  refine .pure ?_
  by_cases h1 : c.next = "take"
  · rw [if_pos h1] at hop
    rw [decide_eq_true h1]
    exact .bind (.then hop fun told H2 q => .pure (.pure (fin q)))
  rw [if_neg h1] at hop
  rw [decide_eq_false h1]
  refine .bind (.bind (.bof F.gNext ?_))
  rw [cmp _ (by kernel_rfl)]
  refine .pure ?_
  by_cases h2 : c.next = "look"
  · rw [if_pos h2] at hop
    rw [decide_eq_true h2]
    exact .bind (.then hop fun told H2 q => .pure (.pure (.pure (fin q))))
  rw [if_neg h2] at hop
  rw [decide_eq_false h2]
  refine .bind (.bind (.bof F.gNext ?_))
  rw [cmp _ (by kernel_rfl)]
  refine .pure ?_
  by_cases h3 : c.next = "see"
  · rw [if_pos h3] at hop
    rw [decide_eq_true h3]
    exact .bind (.then hop fun told H2 q => .pure (.pure (.pure (.pure (fin q)))))
  rw [if_neg h3] at hop
  rw [decide_eq_false h3]
  refine .bind (.bind (.bof F.gNext ?_))
  rw [cmp _ (by kernel_rfl)]
  refine .pure ?_
  by_cases h4 : c.next = "put"
  · rw [if_pos h4] at hop
    rw [decide_eq_true h4]
    exact .bind (.then hop fun told H2 q => .pure (.pure (.pure (.pure (.pure (fin q))))))
  rw [if_neg h4] at hop
  rw [decide_eq_false h4]
  refine .bind (.bind (.bof F.gNext ?_))
  rw [cmp _ (by kernel_rfl)]
  refine .pure ?_
  by_cases h5 : c.next = "check"
  · rw [if_pos h5] at hop
    rw [decide_eq_true h5]
    exact .bind (.then hop fun told H2 q => .pure (.pure (.pure (.pure (.pure (.pure (fin q)))))))
  rw [if_neg h5] at hop
  rw [decide_eq_false h5]
  exact .bind (.then hop fun told H2 q => .pure (.pure (.pure (.pure (.pure (.pure (fin q)))))))

theorem s_go_rest (n : Nat) (F : Foc0 H₀ H c) {num : Nat} (hn : c.hs[num]? = some (.loc c.hd)) (hv : c.wv = .none) (hp : c.place = c.prog.length) :
    Rn (callP P08 (n + 1) "go" [.loc c.st, .int num]) H fun told H' => told = .tup [.str "rest"] ∧ Foc0 H₀ H' (c.u_time (c.time + 1)) := by
  refine callRn (σ := [some (.loc c.st), some (.int num), none, none, none]) (by kernel_rfl) (by kernel_rfl) (by kernel_rfl) ?_
  have g := F.gWork
  rw [hv] at g
  rw [c_go_0]
  refine .bind (.bof F.gHands (.of (item_loc F.h hn) ?_))
  refine .bind (.bind (.bof g ?_))
  rw [show pCmp .Is AV.none .none = pure true from rfl]
  refine .pure (.bind (.bof F.gPlace (.bind (.bind (.eachE F.gProg (.each0 ?_))))))
  rw [e_len_tup]
  refine .pure ?_
  rw [e_eqi, decide_eq_true hp]
  refine .pure (.pure (.bind (.pure ?_)))
  show Rn (tl P08 _ "go" [] 2 38 _) _ _
  rw [c_go_t_2]
  refine .bind (.bof F.gTime ?_)
  rw [m_add]
  exact .pure (.then (F.wTime _) fun u_ H1 F1 => .pure ⟨rfl, F1⟩)
end
end Mine


set_option autoImplicit false
set_option linter.unusedVariables false
set_option maxRecDepth 100000
namespace Mine
open PySem PyProof.Rows

noncomputable def lookA : Dk → An
  | .clear => .tup []
  | _ => .none
theorem modify_at {α : Type} {f : α → α} : ∀ {l : List α} {j : Nat} {a : α}, l[j]? = some a → l.modify j f = l.set j (f a)
  | [], _, _, h => by cases h
  | x :: r, 0, a, h => by cases h; rfl
  | x :: r, j + 1, a, h => by
    rw [List.modify_succ_cons, List.set_cons_succ, modify_at (l := r) (j := j) h]
theorem ix_ix (x : Option Nat) : Ix (ixV x) := match x with
  | none => .inl rfl
  | some i => .inr ⟨i, rfl⟩
theorem eqIx_is (x y : Option Nat) : eqIx (ixV x) (ixV y) = decide (x = y) := by
  cases x with
  | none => cases y <;> rfl
  | some i => cases y with
    | none => rfl
    | some j => exact decide_eq_decide.mpr (Int.ofNat_inj.trans ⟨fun h => by rw [h], fun h => Option.some.inj h⟩)
theorem knS_kd (k : Kn) : Kd (knS k) := by cases k <;> simp [Kd, knS]
theorem knS_inj {k j : Kn} : knS k = knS j ↔ k = j := by cases k <;> cases j <;> first | exact ⟨fun u_ => rfl, fun u_ => rfl⟩ | exact ⟨fun h => absurd h (by decide), fun h => by cases h⟩
theorem dkS_wd (k : Dk) : Wd (dkS k) := by cases k <;> simp [Wd, dkS]
theorem nxS_ok (x : Nx) : PyData.strOk (nxS x) = true := by cases x <;> kernel_rfl
section
variable {H₀ H : AHeap} {L : Ly} {l : Lh} {t : Tw} {pr : List Deed} {p i k : Nat} {w : Wk}
theorem still_c {wv : AV} {x : Option Nat} {m : Nat} : stillB (cn L l t pr p wv w) (ixV x) m = t.still x m := by
  unfold stillB Tw.still
  show (eqIx (ixV t.head) (ixV x) && (decide (knS t.kind ≠ knS .marks) || decide ((t.mark : Int) = (m : Int)))) = _
  rw [eqIx_is]
  congr 2
  · exact decide_eq_decide.mpr (not_congr knS_inj)
  · exact decide_eq_decide.mpr Int.ofNat_inj
theorem sp_c {wv : AV} (T : TwOk k t) : SpOk (cn L l t pr p wv w) := fun x hx => by
  obtain ⟨j, hj, rfl⟩ := List.mem_map.mp (show x ∈ t.spare.map natV from hx)
  exact ⟨j, rfl, by show _ < (t.boxes.map bxV).length; rw [List.length_map]; exact T.spare j hj⟩
theorem deed_c {wv : AV} : (cn L l t pr p wv w).deed = .tup (.str (dkS w.deed.k) :: dkR w.deed.k w.deed.v) := deedK_is _ _

theorem r_take (n : Nat) (F : Foc H₀ H (cn L l t pr p (.loc l.w) w)) (T : TwOk k t) (hk : k < 3000) (hw : w.deed.k = .push ∨ w.deed.k = .swap) :
    Rn (callP P08 (n + 1) "take" [.loc L.st, .loc l.w]) H (Done H₀ L l pr p (opTake t w)) := by
  have hd : (cn L l t pr p (.loc l.w) w).deed = .tup [.str (dkS w.deed.k), .int w.deed.v] := by
    rw [deed_c]; rcases hw with h | h <;> rw [h] <;> rfl
  have lb := T.lb
  unfold opTake
  by_cases hc : t.kind = .new ∨ t.spare = []
  · rw [if_pos hc]
    refine Rn.mono (s_take_new n F (knS_kd _) (sp_c T) hd (by show (t.boxes.map bxV).length < _; rw [List.length_map]; (first | lia | omega)) ?_) ?_
    · exact hc.imp (fun h => by show knS t.kind = _; rw [h]; rfl) (fun h => by show t.spare.map natV = _; rw [h]; rfl)
    · rintro a H' ⟨rfl, F'⟩
      refine ⟨by show AV.tup [.str "take", .int ((t.boxes.map bxV).length : Nat)] = _; rw [List.length_map]; rfl, ?_⟩
      show Foc H₀ H' { cn L l t pr p (.loc l.w) w with boxes := (t.boxes ++ [(w.deed.v, none)]).map bxV, own := .int (t.boxes.length : Nat), next := "look" }
      rw [List.map_append, ← List.length_map (f := bxV)]
      exact F'
  · rw [if_neg hc]
    have hne : t.spare ≠ [] := fun q => hc (.inr q)
    have es : t.spare.map natV = t.spare.dropLast.map natV ++ [.int (t.spare.getLastD 0 : Nat)] := by
      have : t.spare = t.spare.dropLast ++ [t.spare.getLastD 0] := by
        cases hs : t.spare with
        | nil => exact absurd hs hne
        | cons a r => rw [show (a :: r).getLastD 0 = (a :: r).getLast (List.cons_ne_nil _ _) from rfl]; exact (List.dropLast_concat_getLast _).symm
      conv => lhs; rw [this]
      rw [List.map_append]; rfl
    refine Rn.mono (s_take_pop n F (knS_kd _) (sp_c T) hd (fun h => hc (.inl (knS_inj.mp (h.trans (show ("new" : Str) = knS .new from rfl))))) es) ?_
    rintro a H' ⟨rfl, F'⟩
    refine ⟨rfl, ?_⟩
    show Foc H₀ H' { cn L l t pr p (.loc l.w) w with boxes := (t.boxes.set (t.spare.getLastD 0) (w.deed.v, none)).map bxV, spare := t.spare.dropLast.map natV, own := .int (t.spare.getLastD 0 : Nat), next := "look" }
    rw [List.map_set]
    exact F'

theorem end_c {s : Tw} {a : An} {c : Cn} {w' : Wk} (F : Foc H₀ H (endNew c i (anV a))) (e : c = cn L l s pr p (.loc l.w) w') (hd : w'.deed = w.deed) (hb : w'.begun = w.begun) :
    ∃ w', Foc H₀ H (cn L l (s.ends i p w a) pr (p + 1) .none w') := by
  subst e
  refine ⟨{ w' with row := some s.rows.length }, ?_⟩
  have F' : Foc H₀ H { cn L l s pr (p + 1) .none w' with row := .int ((s.rows.map rwV).length : Nat), rows := s.rows.map rwV ++ [.tup [.int i, .int p, deedV w'.deed, .int w'.begun, .int s.time, .int s.time, anV a]] } := F
  show Foc H₀ H { cn L l s pr (p + 1) .none w' with row := .int (s.rows.length : Nat), rows := (s.rows ++ [(⟨i, p, w.deed, w.begun, s.time, some (s.time, a)⟩ : Row)]).map rwV }
  rw [List.map_append, ← List.length_map (f := rwV) (as := s.rows), ← hd, ← hb]
  exact F'

theorem below_map (t : Tw) (o : Nat) (u : Option Nat) : (t.below o u).boxes.map bxV = (t.boxes.map bxV).set o (.tup [.int (t.box o).1, ixV u]) := List.map_set

theorem r_look (n : Nat) (F : Foc H₀ H (cn L l t pr p (.loc l.w) w)) (T : TwOk k t) (hk : k < 3000) (hn : L.hs[i]? = some (.loc l.hd)) (hr : w.row = none) (ho : OwOk t.boxes.length w) :
    Rn (callP P08 (n + 3) "look" [.loc L.st, .int i, .loc l.w]) H (Done H₀ L l pr p (opLook t i p w)) := by
  have lr := T.lr
  have ls := T.ls
  have some_ : ∀ {kk : Dk}, w.deed.k = kk → kk ≠ .push → ∀ {x : Nat}, t.head = some x → Rn (callP P08 (n + 3) "look" [.loc L.st, .int i, .loc l.w]) H (Done H₀ L l pr p (t, some { w with seen := some (some x, t.mark), next := lookN kk }, .look (some x) t.mark)) := fun {kk} e hne {x} hx => by
    refine Rn.mono (s_look_some (n + 1) F (num := i) (i := x) (dkS_wd w.deed.k) (by rw [e]; cases kk <;> first | exact absurd rfl hne | decide) deed_c (by show ixV t.head = _; rw [hx]; rfl)) ?_
    rintro a H' ⟨rfl, F'⟩
    refine ⟨by show AV.tup [.str "look", ixV t.head, _] = _; rw [hx]; rfl, ?_⟩
    refine foc_eq F' ?_
    show ({ cn L l t pr p (.loc l.w) w with seen := .tup [ixV t.head, .int t.mark], next := blk (dkS w.deed.k) } : Cn) = { cn L l t pr p (.loc l.w) w with seen := .tup [ixV (some x), .int t.mark], next := nxS (lookN kk) }
    rw [hx, e]
    congr 1
    cases kk <;> kernel_rfl
  have none_ : ∀ {kk : Dk}, w.deed.k = kk → kk ≠ .push → kk ≠ .swap → t.head = none → Rn (callP P08 (n + 3) "look" [.loc L.st, .int i, .loc l.w]) H (Done H₀ L l pr p (t.ends i p w (lookA kk), none, .look none t.mark)) := fun {kk} e hne hns hx => by
    refine Rn.mono (s_look_none n F (num := i) (dkS_wd w.deed.k) (by rw [e]; cases kk <;> first | exact absurd rfl hne | decide) deed_c (by show ixV t.head = _; rw [hx]; rfl) hn (by show ixV w.row = _; rw [hr]; rfl) (by show (t.rows.map rwV).length < _; rw [List.length_map]; (first | lia | omega)) (by show (t.spare.map natV).length < _; rw [List.length_map]; (first | lia | omega))) ?_
    rintro a H' ⟨rfl, F'⟩
    refine ⟨by show AV.tup [.str "look", ixV t.head, _] = _; rw [hx]; rfl, ?_⟩
    have e1 : (if dkS w.deed.k = "clear" then AV.tup [] else .none) = anV (lookA kk) := by
      rw [e]; cases kk <;> kernel_rfl
    rw [e1] at F'
    refine end_c (w' := { w with seen := some (t.head, t.mark), next := lookN kk }) F' ?_ rfl rfl
    unfold cLookN
    rw [if_neg (by rw [e]; cases kk <;> first | exact absurd rfl hns | decide)]
    show ({ cn L l t pr p (.loc l.w) w with seen := .tup [ixV t.head, .int t.mark], next := blk (dkS w.deed.k) } : Cn) = { cn L l t pr p (.loc l.w) w with seen := .tup [ixV t.head, .int t.mark], next := nxS (lookN kk) }
    rw [e]
    congr 1
    cases kk <;> kernel_rfl
  unfold opLook
  cases hk : w.deed.k with
  | push =>
    unfold OwOk at ho
    rw [hk] at ho
    obtain ⟨o, h1, h2⟩ := ho
    refine Rn.mono (s_look_push (n + 1) F (num := i) (o := o) (by rw [deed_c, hk]; rfl) (by show ixV w.own = _; rw [h1]; rfl) (box_at h2)) ?_
    rintro a H' ⟨rfl, F'⟩
    refine ⟨rfl, ?_⟩
    simp only [h1, Option.getD_some]
    show Foc H₀ H' { cn L l t pr p (.loc l.w) w with boxes := (t.below o t.head).boxes.map bxV, own := ixV (some o), seen := .tup [ixV t.head, .int t.mark], next := "put" }
    rw [below_map, ← h1]
    have e : blk "push" = "put" := by kernel_rfl
    rw [← e]
    exact F'
  | swap =>
    cases hh : t.head with
    | some x => exact some_ hk (fun q => by cases q) hh
    | none =>
      unfold OwOk at ho
      rw [hk] at ho
      obtain ⟨o, h1, h2⟩ := ho
      refine Rn.mono (s_look_none n F (num := i) (dkS_wd w.deed.k) (by rw [hk]; decide) deed_c (by show ixV t.head = _; rw [hh]; rfl) hn (by show ixV w.row = _; rw [hr]; rfl) (by show (t.rows.map rwV).length < _; rw [List.length_map]; (first | lia | omega)) (by show (t.spare.map natV).length < _; rw [List.length_map]; (first | lia | omega))) ?_
      rintro a H' ⟨rfl, F'⟩
      refine ⟨by show AV.tup [.str "look", ixV t.head, _] = _; rw [hh]; rfl, ?_⟩
      have e1 : (if dkS w.deed.k = "clear" then AV.tup [] else .none) = anV .none := by rw [hk]; kernel_rfl
      rw [e1] at F'
      refine end_c (w' := { w with seen := some (t.head, t.mark), next := .see }) F' ?_ rfl rfl
      unfold cLookN
      rw [if_pos (by rw [hk]; rfl)]
      show ({ cn L l t pr p (.loc l.w) w with spare := t.spare.map natV ++ [ixV w.own], seen := .tup [ixV t.head, .int t.mark], next := blk (dkS w.deed.k) } : Cn) = { cn L l t pr p (.loc l.w) w with head := ixV none, spare := (t.spare ++ [w.own.getD 0]).map natV, seen := .tup [ixV t.head, .int t.mark], next := "see" }
      rw [hk, h1, hh, List.map_append]
      have e : blk (dkS .swap) = "see" := by kernel_rfl
      rw [e]
      show ({ cn L l t pr p (.loc l.w) w with head := ixV t.head, spare := _, seen := _, next := _ } : Cn) = _
      rw [hh]
      rfl
  | clear =>
    cases hh : t.head with
    | some x => exact some_ hk (fun q => by cases q) hh
    | none => exact none_ hk (fun q => by cases q) (fun q => by cases q) hh
  | pop =>
    cases hh : t.head with
    | some x => exact some_ hk (fun q => by cases q) hh
    | none => exact none_ hk (fun q => by cases q) (fun q => by cases q) hh
  | top =>
    cases hh : t.head with
    | some x => exact some_ hk (fun q => by cases q) hh
    | none => exact none_ hk (fun q => by cases q) (fun q => by cases q) hh

theorem r_see (n : Nat) (F : Foc H₀ H (cn L l t pr p (.loc l.w) w)) (T : TwOk k t) (hw : w.deed.k = .swap ∨ w.deed.k = .pop ∨ w.deed.k = .top) (ho : OwOk t.boxes.length w) {x m : Nat} (hx : x < t.boxes.length) (hs : w.seen = some (some x, m)) :
    Rn (callP P08 (n + 2) "see" [.loc L.st, .loc l.w]) H (Done H₀ L l pr p (opSee t w)) := by
  have eb : ((w.seen.getD (none, 0)).1).getD 0 = x := by rw [hs]; rfl
  have es : (cn L l t pr p (.loc l.w) w).seen = .tup [.int x, .int m] := by show seenV w.seen = _; rw [hs]; rfl
  have rest : ∀ {kk : Dk}, w.deed.k = kk → (dkS kk = "pop" ∨ dkS kk = "top") → Rn (callP P08 (n + 2) "see" [.loc L.st, .loc l.w]) H (Done H₀ L l pr p (t, some { w with inside := some (t.box x), next := seeN kk }, .see x (t.box x).1 (t.box x).2)) := fun {kk} e hp => by
    refine Rn.mono (s_see (n + 1) F (w := dkS w.deed.k) (by rw [e]; exact hp) deed_c es (box_at hx)) ?_
    rintro a H' ⟨rfl, F'⟩
    refine ⟨rfl, foc_eq F' ?_⟩
    show ({ cn L l t pr p (.loc l.w) w with inside := bxV (t.box x), next := bse (dkS w.deed.k) } : Cn) = { cn L l t pr p (.loc l.w) w with inside := bxV (t.box x), next := nxS (seeN kk) }
    rw [e]
    congr 1
    cases kk <;> kernel_rfl
  unfold opSee
  simp only [eb]
  rcases hw with hk | hk | hk
  · unfold OwOk at ho
    rw [hk] at ho
    obtain ⟨o, h1, h2⟩ := ho
    rw [hk, h1]
    refine Rn.mono (s_see_swap n F (by rw [deed_c, hk]; rfl) es (box_at hx) (o := o) (by show ixV w.own = _; rw [h1]; rfl) (box_at h2)) ?_
    rintro a H' ⟨rfl, F'⟩
    refine ⟨rfl, ?_⟩
    show Foc H₀ H' { cn L l t pr p (.loc l.w) w with boxes := (t.below o (t.box x).2).boxes.map bxV, own := ixV (some o), inside := bxV (t.box x), next := "put" }
    rw [below_map, ← h1]
    have e : bse "swap" = "put" := by kernel_rfl
    rw [← e]
    exact F'
  · rw [hk]; exact rest hk (.inl rfl)
  · rw [hk]; exact rest hk (.inr rfl)

theorem r_put (n : Nat) (F : Foc H₀ H (cn L l t pr p (.loc l.w) w)) (T : TwOk k t) (hk : k < 3000) (hn : L.hs[i]? = some (.loc l.hd)) (hr : w.row = none) (ho : OwOk t.boxes.length w) (hw : w.deed.k ≠ .top) {x : Option Nat} {m : Nat} (hs : w.seen = some (x, m)) (hne : w.deed.k ≠ .push → x ≠ none)
    (hi : (w.deed.k = .swap ∨ w.deed.k = .pop) → ∃ v b, w.inside = some (v, b) ∧ IxOk t.boxes.length b) : Rn (callP P08 (n + 3) "put" [.loc L.st, .int i, .loc l.w]) H (Done H₀ L l pr p (opPut t i p w)) := by
  have lr := T.lr
  have ls := T.ls
  have e1 : w.seen.getD (none, 0) = (x, m) := by rw [hs]; rfl
  have es : (cn L l t pr p (.loc l.w) w).seen = .tup [ixV x, .int m] := by show seenV w.seen = _; rw [hs]; rfl
  unfold opPut
  simp only [e1]
  cases hb : t.still x m with
  | false =>
    refine Rn.mono (s_put_no (n + 1) F (num := i) (knS_kd _) (ix_ix _) (ix_ix x) es (by rw [still_c]; exact hb)) ?_
    rintro a H' ⟨rfl, F'⟩
    exact ⟨rfl, F'⟩
  | true =>
    have hh := still_head hb
    have hx1 : ∀ {q : Nat}, x = some q → ixV t.head = .int q := fun {q} e => by rw [hh, e]; rfl
    have hwd : dkS w.deed.k = "push" ∨ dkS w.deed.k = "clear" ∨ dkS w.deed.k = "swap" ∨ dkS w.deed.k = "pop" := by
      cases hk : w.deed.k with
      | top => exact absurd hk hw
      | push => exact .inl rfl
      | clear => exact .inr (.inl rfl)
      | swap => exact .inr (.inr (.inl rfl))
      | pop => exact .inr (.inr (.inr rfl))
    obtain ⟨v, b, hin⟩ : ∃ v b, (w.deed.k = .swap ∨ w.deed.k = .pop) → w.inside = some (v, b) := by
      by_cases q : w.deed.k = .swap ∨ w.deed.k = .pop
      · obtain ⟨v, b, q1, _⟩ := hi q
        exact ⟨v, b, fun u_ => q1⟩
      · exact ⟨0, none, fun z => absurd z q⟩
    have hdk : ∀ {y : Dk}, dkS w.deed.k = dkS y → w.deed.k = y := fun {y} q => by
      revert q
      cases w.deed.k <;> cases y <;> intro q <;> first | rfl | exact absurd q (by decide)
    refine Rn.mono (s_put_yes n F (num := i) (v := .int v) (bi := ixV b) hwd (knS_kd _) (ix_ix _) (ix_ix x) es (by rw [still_c]; exact hb) deed_c hn (by show ixV w.row = _; rw [hr]; rfl) (by show (t.rows.map rwV).length < _; rw [List.length_map]; (first | lia | omega)) (by show (t.spare.map natV).length < _; rw [List.length_map]; (first | lia | omega))
      (fun q => by show insV w.inside = _; rw [hin (q.imp (fun z => hdk (y := .swap) z) fun z => hdk (y := .pop) z)]; rfl)) ?_
    rintro a H' ⟨rfl, F'⟩
    unfold cPut at F'
    have hj : w.deed.k ≠ .push → ∃ q, t.head = some q := fun z => by
      cases e : x with
      | none => exact absurd e (hne z)
      | some q => exact ⟨q, by rw [hh, e]⟩
    have hspare : ∀ {q : Nat}, t.head = some q → t.spare.map natV ++ [ixV t.head] = (t.spare ++ [t.head.getD 0]).map natV := fun {q} z => by rw [List.map_append, z]; rfl
    cases hk : w.deed.k with
    | top => exact absurd hk hw
    | clear =>
      rw [hk, if_pos (show dkS .clear = ("clear" : Str) from rfl)] at F'
      refine ⟨rfl, ?_⟩
      show Foc H₀ H' { cn L l t pr p (.loc l.w) w with mark := ((t.mark + 1 : Nat) : Int), head := .none, rows := (t.rows ++ [(⟨i, p, w.deed, w.begun, t.time, none⟩ : Row)]).map rwV, row := .int (t.rows.length : Nat), walk := ixV t.head, next := "walk" }
      rw [List.map_append, ← List.length_map (f := rwV) (as := t.rows)]
      exact F'
    | push =>
      rw [hk, if_neg (by decide), if_pos (show dkS .push = ("push" : Str) from rfl)] at F'
      exact ⟨rfl, end_c (s := { t with mark := t.mark + 1, head := w.own }) (w' := w) F' rfl rfl rfl⟩
    | pop =>
      rw [hk, if_neg (by decide), if_neg (by decide), if_pos (show dkS .pop = ("pop" : Str) from rfl)] at F'
      obtain ⟨q, hq⟩ := hj (by rw [hk]; exact fun z => by cases z)
      refine ⟨rfl, end_c (s := { t with mark := t.mark + 1, head := (w.inside.getD (0, none)).2, spare := t.spare ++ [t.head.getD 0] }) (w' := w) (a := .int (w.inside.getD (0, none)).1) (by rw [hin (.inr hk)]; exact F') ?_ rfl rfl⟩
      rw [hin (.inr hk)]
      show ({ cn L l t pr p (.loc l.w) w with mark := ((t.mark + 1 : Nat) : Int), head := ixV b, spare := t.spare.map natV ++ [ixV t.head] } : Cn) = { cn L l t pr p (.loc l.w) w with mark := ((t.mark + 1 : Nat) : Int), head := ixV b, spare := (t.spare ++ [t.head.getD 0]).map natV }
      rw [hspare hq]
    | swap =>
      rw [hk, if_neg (by decide), if_neg (by decide), if_neg (by decide)] at F'
      obtain ⟨q, hq⟩ := hj (by rw [hk]; exact fun z => by cases z)
      refine ⟨rfl, end_c (s := { t with mark := t.mark + 1, head := w.own, spare := t.spare ++ [t.head.getD 0] }) (w' := w) (a := .int (w.inside.getD (0, none)).1) (by rw [hin (.inl hk)]; exact F') ?_ rfl rfl⟩
      show ({ cn L l t pr p (.loc l.w) w with mark := ((t.mark + 1 : Nat) : Int), head := ixV w.own, spare := t.spare.map natV ++ [ixV t.head] } : Cn) = { cn L l t pr p (.loc l.w) w with mark := ((t.mark + 1 : Nat) : Int), head := ixV w.own, spare := (t.spare ++ [t.head.getD 0]).map natV }
      rw [hspare hq]

theorem r_check (n : Nat) (F : Foc H₀ H (cn L l t pr p (.loc l.w) w)) (T : TwOk k t) (hk : k < 3000) (hn : L.hs[i]? = some (.loc l.hd)) (hr : w.row = none) {x : Option Nat} {m : Nat} {v : Int} {b : Option Nat} (hs : w.seen = some (x, m)) (hi : w.inside = some (v, b)) :
    Rn (callP P08 (n + 3) "check" [.loc L.st, .int i, .loc l.w]) H (Done H₀ L l pr p (opCheck t i p w)) := by
  have lr := T.lr
  have e1 : w.seen.getD (none, 0) = (x, m) := by rw [hs]; rfl
  unfold opCheck
  simp only [e1]
  refine Rn.mono (s_check n F (num := i) (x := ixV x) (m := m) (v := .int v) (bi := ixV b) (knS_kd _) (ix_ix _) (ix_ix x) (by show seenV w.seen = _; rw [hs]; rfl) hn (by show ixV w.row = _; rw [hr]; rfl) (by show (t.rows.map rwV).length < _; rw [List.length_map]; (first | lia | omega)) (by show insV w.inside = _; rw [hi]; rfl)) ?_
  rintro a H' ⟨rfl, F'⟩
  rw [still_c] at F'
  cases hb : t.still x m with
  | true =>
    rw [hb, if_pos rfl] at F'
    exact ⟨rfl, end_c (s := t) (w' := w) (a := .int (w.inside.getD (0, none)).1) (by rw [hi]; exact F') rfl rfl rfl⟩
  | false =>
    rw [hb, if_neg (by decide)] at F'
    exact ⟨rfl, F'⟩

theorem r_walk (n : Nat) (F : Foc H₀ H (cn L l t pr p (.loc l.w) w)) (T : TwOk k t) (hk : k < 3000) (hkp : w.kept.length ≤ k) (hn : L.hs[i]? = some (.loc l.hd)) {x j : Nat} (hx : x < t.boxes.length) (hwk : w.walk = some x) (hj : j < t.rows.length) (hr : w.row = some j) :
    Rn (callP P08 (n + 3) "walk" [.loc L.st, .int i, .loc l.w]) H (Done H₀ L l pr p (opWalk t w)) := by
  have ls := T.ls
  have e1 : w.walk.getD 0 = x := by rw [hwk]; rfl
  obtain ⟨r, hr1, hr2⟩ := row_at hj
  unfold opWalk
  simp only [e1]
  refine Rn.mono (s_walk n F (num := i) (i := x) (k := j) (by show ixV w.walk = _; rw [hwk]; rfl) (box_at hx) (ix_ix _) hn (by show ixV w.row = _; rw [hr]; rfl) hr2 (by show (w.kept.map AV.int).length < _; rw [List.length_map]; (first | lia | omega)) (by show (t.spare.map natV).length < _; rw [List.length_map]; (first | lia | omega))) ?_
  rintro a H' ⟨rfl, F'⟩
  cases hb : (t.box x).2 with
  | some u =>
    rw [hb, show pIsNone (ixV (some u)) = false from rfl, if_neg (by decide)] at F'
    refine ⟨rfl, ?_⟩
    show Foc H₀ H' { cn L l t pr p (.loc l.w) w with spare := (t.spare ++ [x]).map natV, kept := (w.kept ++ [(t.box x).1]).map .int, walk := ixV (some u) }
    rw [List.map_append, List.map_append]
    exact F'
  | none =>
    rw [hb, show pIsNone (ixV none) = true from rfl, if_pos rfl] at F'
    refine ⟨rfl, { w with kept := w.kept ++ [(t.box x).1], walk := none }, ?_⟩
    have em : (t.rows.modify (w.row.getD 0) (setFin (t.time, .tup (w.kept ++ [(t.box x).1])))).map rwV = (t.rows.map rwV).set j (.tup [.int r.num, .int r.place, deedV r.deed, .int r.begun, .int r.point, .int t.time, .tup (w.kept.map .int ++ [.int (t.box x).1])]) := by
      rw [hr, Option.getD_some, modify_at hr1, List.map_set]
      congr 1
      show AV.tup [_, _, _, _, _, _, .tup ((w.kept ++ [(t.box x).1]).map .int)] = _
      rw [List.map_append]; rfl
    show Foc H₀ H' { cn L l t pr p (.loc l.w) w with spare := (t.spare ++ [x]).map natV, kept := (w.kept ++ [(t.box x).1]).map .int, walk := .none, rows := (t.rows.modify (w.row.getD 0) (setFin (t.time, .tup (w.kept ++ [(t.box x).1])))).map rwV, place := ((p + 1 : Nat) : Int), wv := .none }
    rw [em, List.map_append, List.map_append]
    exact F'

theorem r_op (n : Nat) (F : Foc H₀ H (cn L l t pr p (.loc l.w) w)) (T : TwOk k t) (hk : k < 3000) (hn : L.hs[i]? = some (.loc l.hd)) (h : WkOk k t.boxes.length t.rows.length w) :
    Rn (opCall (n + 3) (cn L l t pr p (.loc l.w) w) i) H (Done H₀ L l pr p (op t i p w)) := by
  obtain ⟨h1, h⟩ := h
  unfold op opCall
  unfold StOk at h
  have en : (cn L l t pr p (.loc l.w) w).next = nxS w.next := rfl
  cases hx : w.next with
  | take => rw [hx] at h en; have en : (cn L l t pr p (.loc l.w) w).next = ("take" : Str) := en; rw [if_pos en]; exact r_take (n + 2) F T hk h.2
  | look => rw [hx] at h en; have en : (cn L l t pr p (.loc l.w) w).next = ("look" : Str) := en; rw [if_neg (by rw [en]; decide), if_pos en]; exact r_look n F T hk hn h.1 h.2
  | see => rw [hx] at h en; have en : (cn L l t pr p (.loc l.w) w).next = ("see" : Str) := en; obtain ⟨a, b, c, x, m, d, e⟩ := h; rw [if_neg (by rw [en]; decide), if_neg (by rw [en]; decide), if_pos en]; exact r_see (n + 1) F T c b d e
  | put => rw [hx] at h en; have en : (cn L l t pr p (.loc l.w) w).next = ("put" : Str) := en; obtain ⟨a, b, c, x, m, d, e, f, g⟩ := h; rw [if_neg (by rw [en]; decide), if_neg (by rw [en]; decide), if_neg (by rw [en]; decide), if_pos en]; exact r_put n F T hk hn a b c e f g
  | check => rw [hx] at h en; have en : (cn L l t pr p (.loc l.w) w).next = ("check" : Str) := en; obtain ⟨a, b, x, m, v, y, c, d⟩ := h; rw [if_neg (by rw [en]; decide), if_neg (by rw [en]; decide), if_neg (by rw [en]; decide), if_neg (by rw [en]; decide), if_pos en]; exact r_check n F T hk hn a c d
  | walk => rw [hx] at h en; have en : (cn L l t pr p (.loc l.w) w).next = ("walk" : Str) := en; obtain ⟨a, ⟨x, b, c⟩, j, d, e⟩ := h; rw [if_neg (by rw [en]; decide), if_neg (by rw [en]; decide), if_neg (by rw [en]; decide), if_neg (by rw [en]; decide), if_neg (by rw [en]; decide)]; exact r_walk n F T hk h1 hn b c d e
end

end Mine


set_option autoImplicit false
set_option linter.unusedVariables false
set_option maxRecDepth 100000
namespace Mine
open PySem PyProof.Rows

noncomputable def mix (g h : Cn) : Cn := { h with st := g.st, lb := g.lb, lsp := g.lsp, lh := g.lh, lr := g.lr, kind := g.kind, boxes := g.boxes, head := g.head, mark := g.mark, spare := g.spare, hs := g.hs, time := g.time, rows := g.rows }
theorem mix_self (c : Cn) : mix c c = c := by cases c; rfl
noncomputable def gl5 (c : Cn) : List Nat := [c.st, c.lb, c.lsp, c.lh, c.lr]
noncomputable def hlocs (h : Cn) : List Nat := match h.wv with
  | .none => [h.hd]
  | _ => [h.hd, h.kp, h.w]
noncomputable def One (H : AHeap) (c : Cn) : Prop := (c.wv = .none ∧ Foc0 H H c) ∨ (c.wv = .loc c.w ∧ Foc H H c)
structure Rep (H : AHeap) (g : Cn) (hs : List Cn) : Prop where
  hsv : g.hs = hs.map fun h => .loc h.hd
  one : ∀ (i : Nat) h, hs[i]? = some h → One H (mix g h)
  ow : ∃ ow : Nat → Nat, (∀ l ∈ gl5 g, ow l = 0) ∧ ∀ (i : Nat) h, hs[i]? = some h → ∀ l ∈ hlocs h, ow l = i + 1

theorem mem8 {c : Cn} {l : Nat} (h : l ∈ c.ls) : l ∈ gl5 c ∨ l = c.hd ∨ l = c.kp ∨ l = c.w := by
  rcases List.mem_append.mp (show l ∈ gl5 c ++ [c.hd, c.kp, c.w] from h) with q | q
  · exact .inl q
  · exact .inr ((List.mem_cons.mp q).imp id fun q => (List.mem_cons.mp q).imp id fun q => List.mem_singleton.mp q)
theorem mem6 {c : Cn} {l : Nat} (h : l ∈ c.ls0) : l ∈ gl5 c ∨ l = c.hd := by
  rcases List.mem_append.mp (show l ∈ gl5 c ++ [c.hd] from h) with q | q
  · exact .inl q
  · exact .inr (List.mem_singleton.mp q)
theorem hl_none {c : Cn} (h : c.wv = .none) : hlocs c = [c.hd] := by unfold hlocs; rw [h]
theorem hl_loc {c : Cn} {l : Nat} (h : c.wv = .loc l) : hlocs c = [c.hd, c.kp, c.w] := by unfold hlocs; rw [h]

theorem one_keep {H H' : AHeap} {g h c' : Cn} {L : List Nat} (O : One H (mix g h)) (e : gl5 c' = gl5 g) (F : ∀ (j l : Nat) (o : AO), (gl5 c')[j]? = some l → (c'.os)[j]? = some o → H'[l]? = some o) (hl : H.length ≤ H'.length) (hout : ∀ l, l < H.length → l ∉ L → H'[l]? = H[l]?) (hL : ∀ l ∈ hlocs h, l ∉ L) : One H' (mix c' h) := by
  have e1 : c'.st = g.st := (List.cons.inj e).1
  have e2 := (List.cons.inj e).2
  have e3 : c'.lb = g.lb := (List.cons.inj e2).1
  have e4 := (List.cons.inj e2).2
  have e5 : c'.lsp = g.lsp := (List.cons.inj e4).1
  have e6 := (List.cons.inj e4).2
  have e7 : c'.lh = g.lh := (List.cons.inj e6).1
  have e8 := (List.cons.inj e6).2
  have e9 : c'.lr = g.lr := (List.cons.inj e8).1
  have ls : (mix c' h).ls = (mix g h).ls := by show [c'.st, c'.lb, c'.lsp, c'.lh, c'.lr, h.hd, h.kp, h.w] = [g.st, g.lb, g.lsp, g.lh, g.lr, h.hd, h.kp, h.w]; rw [e1, e3, e5, e7, e9]
  have ls0 : (mix c' h).ls0 = (mix g h).ls0 := by show [c'.st, c'.lb, c'.lsp, c'.lh, c'.lr, h.hd] = [g.st, g.lb, g.lsp, g.lh, g.lr, h.hd]; rw [e1, e3, e5, e7, e9]
  have kp : ∀ {l : Nat} {o : AO}, l ∈ hlocs h → H[l]? = some o → H'[l]? = some o := fun hm ho => by
    rw [hout _ (List.getElem?_eq_some_iff.mp ho).1 (hL _ hm)]; exact ho
  rcases O with ⟨hv, O⟩ | ⟨hv, O⟩
  · refine .inl ⟨hv, ⟨?_, by rw [ls0]; exact O.nd, Nat.le_refl _, fun u_ u_ u_ => rfl⟩⟩
    have m1 : h.hd ∈ hlocs h := by rw [hl_none (c := h) hv]; simp
    intro j l o hj ho
    match j, hj, ho with
    | 0, hj, ho => exact F 0 l o hj ho
    | 1, hj, ho => exact F 1 l o hj ho
    | 2, hj, ho => exact F 2 l o hj ho
    | 3, hj, ho => exact F 3 l o hj ho
    | 4, hj, ho => exact F 4 l o hj ho
    | 5, hj, ho =>
      have hj' : h.hd = l := Option.some.inj hj
      subst hj'
      exact kp m1 (O.all 5 h.hd o rfl ho)
    | j + 6, hj, ho => exact absurd hj (by simp [Cn.ls0])
  · refine .inr ⟨hv, ⟨?_, by rw [ls]; exact O.nd, Nat.le_refl _, fun u_ u_ u_ => rfl⟩⟩
    have m1 : h.hd ∈ hlocs h ∧ h.kp ∈ hlocs h ∧ h.w ∈ hlocs h := by rw [hl_loc (c := h) (l := h.w) hv]; simp
    intro j l o hj ho
    match j, hj, ho with
    | 0, hj, ho => exact F 0 l o hj ho
    | 1, hj, ho => exact F 1 l o hj ho
    | 2, hj, ho => exact F 2 l o hj ho
    | 3, hj, ho => exact F 3 l o hj ho
    | 4, hj, ho => exact F 4 l o hj ho
    | 5, hj, ho =>
      have hj' : h.hd = l := Option.some.inj hj
      subst hj'
      exact kp m1.1 (O.all 5 h.hd o rfl ho)
    | 6, hj, ho =>
      have hj' : h.kp = l := Option.some.inj hj
      subst hj'
      exact kp m1.2.1 (O.all 6 h.kp o rfl ho)
    | 7, hj, ho =>
      have hj' : h.w = l := Option.some.inj hj
      subst hj'
      exact kp m1.2.2 (O.all 7 h.w o rfl ho)
    | j + 8, hj, ho => exact absurd hj (by simp [Cn.ls])

theorem One.lt {H : AHeap} {g h : Cn} (O : One H (mix g h)) {l : Nat} (hl : l ∈ hlocs h) : l < H.length := by
  rcases O with ⟨hv, O⟩ | ⟨hv, O⟩
  · rw [hl_none (c := h) hv] at hl
    simp at hl
    subst hl
    exact (List.getElem?_eq_some_iff.mp (O.all 5 h.hd _ rfl rfl)).1
  · rw [hl_loc (c := h) (l := h.w) hv] at hl
    simp at hl
    rcases hl with rfl | rfl | rfl
    · exact (List.getElem?_eq_some_iff.mp (O.all 5 h.hd _ rfl rfl)).1
    · exact (List.getElem?_eq_some_iff.mp (O.all 6 h.kp _ rfl rfl)).1
    · exact (List.getElem?_eq_some_iff.mp (O.all 7 h.w _ rfl rfl)).1

theorem Rep.step {H H' : AHeap} {g h c' : Cn} {hs : List Cn} {i : Nat} {L : List Nat} (R : Rep H g hs) (hi : hs[i]? = some h) (O : One H' c') (e : gl5 c' = gl5 g) (ehs : c'.hs = g.hs) (ehd : c'.hd = h.hd)
    (F : ∀ (j l : Nat) (o : AO), (gl5 c')[j]? = some l → (c'.os)[j]? = some o → H'[l]? = some o) (hl : H.length ≤ H'.length) (hout : ∀ l, l < H.length → l ∉ L → H'[l]? = H[l]?)
    (hL : ∀ l ∈ L, l ∈ gl5 g ∨ l ∈ hlocs h ∨ H.length ≤ l) (hn : ∀ l ∈ hlocs c', l ∈ hlocs h ∨ H.length ≤ l) : Rep H' c' (hs.set i c') where
  hsv := by
    rw [ehs, R.hsv, List.map_set]
    have hil := (List.getElem?_eq_some_iff.mp hi).1
    apply List.ext_getElem?
    intro j
    by_cases hij : i = j
    · subst hij
      rw [List.getElem?_set_self (by rw [List.length_map]; exact hil), List.getElem?_map, hi, ehd]; rfl
    · rw [List.getElem?_set_ne hij]
  one := fun j hj hjj => by
    obtain ⟨ow, o1, o2⟩ := R.ow
    by_cases hij : i = j
    · subst hij
      rw [List.getElem?_set_self (List.getElem?_eq_some_iff.mp hi).1] at hjj
      cases hjj
      rw [mix_self]; exact O
    · rw [List.getElem?_set_ne hij] at hjj
      have Oj := R.one j hj hjj
      refine one_keep Oj e F hl hout fun l hlm hLm => ?_
      have q := o2 j hj hjj l hlm
      rcases hL l hLm with z | z | z
      · rw [o1 l z] at q; (first | lia | omega)
      · rw [o2 i h hi l z] at q; (first | lia | omega)
      · exact absurd (Oj.lt hlm) (by (first | lia | omega))
  ow := by
    obtain ⟨ow, o1, o2⟩ := R.ow
    refine ⟨fun l => if l < H.length then ow l else i + 1, fun l hm => ?_, fun j hj hjj l hm => ?_⟩
    · rw [e] at hm
      have hlt : l < H.length := by
        have Oi := R.one i h hi
        have : ∃ o, H[l]? = some o := by
          simp only [gl5, List.mem_cons, List.not_mem_nil, or_false] at hm
          rcases Oi with ⟨_, Oi⟩ | ⟨_, Oi⟩
          · rcases hm with rfl | rfl | rfl | rfl | rfl
            · exact ⟨_, Oi.all 0 g.st _ rfl rfl⟩
            · exact ⟨_, Oi.all 1 g.lb _ rfl rfl⟩
            · exact ⟨_, Oi.all 2 g.lsp _ rfl rfl⟩
            · exact ⟨_, Oi.all 3 g.lh _ rfl rfl⟩
            · exact ⟨_, Oi.all 4 g.lr _ rfl rfl⟩
          · rcases hm with rfl | rfl | rfl | rfl | rfl
            · exact ⟨_, Oi.all 0 g.st _ rfl rfl⟩
            · exact ⟨_, Oi.all 1 g.lb _ rfl rfl⟩
            · exact ⟨_, Oi.all 2 g.lsp _ rfl rfl⟩
            · exact ⟨_, Oi.all 3 g.lh _ rfl rfl⟩
            · exact ⟨_, Oi.all 4 g.lr _ rfl rfl⟩
        obtain ⟨o, ho⟩ := this
        exact (List.getElem?_eq_some_iff.mp ho).1
      simp only [hlt, if_true]
      exact o1 l hm
    · by_cases hij : i = j
      · subst hij
        rw [List.getElem?_set_self (List.getElem?_eq_some_iff.mp hi).1] at hjj
        cases hjj
        rcases hn l hm with z | z
        · have hlt := (R.one i h hi).lt z
          simp only [hlt, if_true]
          exact o2 i h hi l z
        · have hlt : ¬ l < H.length := by (first | lia | omega)
          simp only [hlt, if_false]
      · rw [List.getElem?_set_ne hij] at hjj
        have hlt := (R.one j hj hjj).lt hm
        simp only [hlt, if_true]
        exact o2 j hj hjj l hm

theorem foc_g {H₀ H : AHeap} {c : Cn} (F : Foc H₀ H c) : ∀ (j l : Nat) (o : AO), (gl5 c)[j]? = some l → (c.os)[j]? = some o → H[l]? = some o := fun j l o hj ho => by
  match j, hj, ho with
  | 0, hj, ho => exact F.all 0 l o hj ho
  | 1, hj, ho => exact F.all 1 l o hj ho
  | 2, hj, ho => exact F.all 2 l o hj ho
  | 3, hj, ho => exact F.all 3 l o hj ho
  | 4, hj, ho => exact F.all 4 l o hj ho
  | j + 5, hj, ho => exact absurd hj (by simp [gl5])
theorem foc0_g {H₀ H : AHeap} {c : Cn} (F : Foc0 H₀ H c) : ∀ (j l : Nat) (o : AO), (gl5 c)[j]? = some l → (c.os)[j]? = some o → H[l]? = some o := fun j l o hj ho => by
  match j, hj, ho with
  | 0, hj, ho => exact F.all 0 l o hj ho
  | 1, hj, ho => exact F.all 1 l o hj ho
  | 2, hj, ho => exact F.all 2 l o hj ho
  | 3, hj, ho => exact F.all 3 l o hj ho
  | 4, hj, ho => exact F.all 4 l o hj ho
  | j + 5, hj, ho => exact absurd hj (by simp [gl5])
theorem foc_one {H₀ H : AHeap} {c : Cn} (F : Foc H₀ H c) (h : c.wv = .none ∨ c.wv = .loc c.w) : One H c := by
  rcases h with h | h
  · refine .inl ⟨h, ⟨?_, (List.nodup_append.mp (show (c.ls0 ++ [c.kp, c.w]).Nodup from F.nd)).1, Nat.le_refl _, fun u_ u_ u_ => rfl⟩⟩
    intro j l o hj ho
    match j, hj, ho with
    | 0, hj, ho => exact F.all 0 l o hj ho
    | 1, hj, ho => exact F.all 1 l o hj ho
    | 2, hj, ho => exact F.all 2 l o hj ho
    | 3, hj, ho => exact F.all 3 l o hj ho
    | 4, hj, ho => exact F.all 4 l o hj ho
    | 5, hj, ho => exact F.all 5 l o hj ho
    | j + 6, hj, ho => exact absurd hj (by simp [Cn.ls0])
  · exact .inr ⟨h, ⟨F.all, F.nd, Nat.le_refl _, fun u_ u_ u_ => rfl⟩⟩

noncomputable def wvOf (h : Hd) (l : Lh) : AV := match h.work with
  | none => .none
  | some _ => .loc l.w
noncomputable def HIs (L : Ly) (h : Hd) (c : Cn) : Prop := ∃ l t w, c = cn L l t h.prog h.place (wvOf h l) w ∧ ∀ w', h.work = some w' → w = w'
noncomputable def Free (g : Cn) (hs : List Cn) (l : Nat) : Prop := l ∉ gl5 g ∧ ∀ (i : Nat) h, hs[i]? = some h → l ∉ hlocs h
structure TR (H : AHeap) (L : Ly) (t : Tw) (U : Nat → Prop) (g : Cn) (hs : List Cn) : Prop where
  gis : ∃ l pr p wv w, g = cn L l t pr p wv w
  rep : Rep H g hs
  len : hs.length = t.hands.length
  his : ∀ (i : Nat) h c, t.hands[i]? = some h → hs[i]? = some c → HIs L h c
  fr : ∀ x, U x → x < H.length ∧ Free g hs x
noncomputable def TRep (H : AHeap) (L : Ly) (t : Tw) (U : Nat → Prop) : Prop := ∃ g hs, TR H L t U g hs
section
variable {H H' : AHeap} {L : Ly} {t t' : Tw} {U : Nat → Prop} {g c c' : Cn} {hs : List Cn} {i k : Nat} {h h' : Hd} {l l' : Lh} {w' : Wk} {Ls : List Nat}
theorem hd_in (c : Cn) : c.hd ∈ hlocs c := by
  unfold hlocs
  split <;> exact List.mem_cons_self
theorem trep_step (T : TR H L t U g hs) (hi : hs[i]? = some c) (O : One H' c') (ec : c' = cn L l' t' h'.prog h'.place (wvOf h' l') w') (hw' : ∀ w, h'.work = some w → w' = w) (eh : t'.hands = t.hands.set i h') (ehd : c'.hd = c.hd)
    (F : ∀ (j l : Nat) (o : AO), (gl5 c')[j]? = some l → (c'.os)[j]? = some o → H'[l]? = some o) (hl : H.length ≤ H'.length) (hout : ∀ l, l < H.length → l ∉ Ls → H'[l]? = H[l]?)
    (hL : ∀ l ∈ Ls, l ∈ gl5 c' ∨ l ∈ hlocs c ∨ H.length ≤ l) (hn : ∀ l ∈ hlocs c', l ∈ hlocs c ∨ H.length ≤ l) : TRep H' L t' U ∧ ∀ x, U x → H'[x]? = H[x]? := by
  obtain ⟨l0, pr, p, wv, w0, eg⟩ := T.gis
  have e5 : gl5 c' = gl5 g := by rw [ec, eg]; rfl
  have hil := (List.getElem?_eq_some_iff.mp hi).1
  refine ⟨⟨c', hs.set i c', ⟨_, _, _, _, _, ec⟩, T.rep.step (L := Ls) hi O e5 (by rw [ec, eg]; rfl) ehd F hl hout (fun l h => e5 ▸ hL l h) hn, by rw [List.length_set, T.len, eh, List.length_set], fun j h1 c1 q1 q2 => ?_, fun x hx => ?_⟩, fun x hx => ?_⟩
  · rw [eh] at q1
    by_cases hij : i = j
    · subst hij
      rw [List.getElem?_set_self (T.len ▸ hil)] at q1
      rw [List.getElem?_set_self hil] at q2
      cases q1; cases q2
      exact ⟨l', t', w', ec, hw'⟩
    · rw [List.getElem?_set_ne hij] at q1 q2
      exact T.his j h1 c1 q1 q2
  · obtain ⟨f0, f1, f2⟩ := T.fr x hx
    refine ⟨Nat.lt_of_lt_of_le f0 hl, by rw [e5]; exact f1, fun j c1 q1 hm => ?_⟩
    by_cases hij : i = j
    · subst hij
      rw [List.getElem?_set_self hil] at q1
      cases q1
      rcases hn x hm with z | z
      · exact f2 i c hi z
      · exact absurd f0 (Nat.not_lt.mpr z)
    · rw [List.getElem?_set_ne hij] at q1
      exact f2 j c1 q1 hm
  · obtain ⟨f0, f1, f2⟩ := T.fr x hx
    refine hout x f0 fun hm => ?_
    rcases hL x hm with z | z | z
    · exact f1 (e5 ▸ z)
    · exact f2 i c hi z
    · exact absurd f0 (Nat.not_lt.mpr z)
theorem trep_work (T : TR H L t U g hs) (hi : hs[i]? = some c) (F : Foc H H' (cn L l' t' h'.prog h'.place (wvOf h' l') w')) (hw' : ∀ w, h'.work = some w → w' = w) (eh : t'.hands = t.hands.set i h') (ehd : l'.hd = c.hd)
    (hl : (l'.kp ∈ hlocs c ∧ l'.w ∈ hlocs c) ∨ (H.length ≤ l'.kp ∧ H.length ≤ l'.w)) : TRep H' L t' U ∧ ∀ x, U x → H'[x]? = H[x]? := by
  have sub : ∀ x, x = l'.hd ∨ x = l'.kp ∨ x = l'.w → x ∈ hlocs c ∨ H.length ≤ x := fun x q => by
    rcases q with q | q | q
    · rw [q, ehd]; exact .inl (hd_in c)
    · rw [q]; exact hl.imp (·.1) (·.1)
    · rw [q]; exact hl.imp (·.2) (·.2)
  have hwv : wvOf h' l' = .none ∨ wvOf h' l' = .loc l'.w := by
    unfold wvOf
    split
    · exact .inl rfl
    · exact .inr rfl
  refine trep_step T hi (foc_one F hwv) rfl hw' eh ehd (foc_g F) F.len (fun l a b => F.out l a b) (fun l hm => ?_) fun l hm => ?_
  · rcases mem8 hm with q | q
    · exact .inl q
    · exact .inr (sub l q)
  · rcases hwv with q | q
    · rw [hl_none (c := cn L l' t' h'.prog h'.place (wvOf h' l') w') q] at hm
      exact sub l (.inl (List.mem_singleton.mp hm))
    · rw [hl_loc (c := cn L l' t' h'.prog h'.place (wvOf h' l') w') q] at hm
      exact sub l ((List.mem_cons.mp hm).imp id fun q => (List.mem_cons.mp q).imp id fun q => List.mem_singleton.mp q)
theorem done_is {r : Tw × Option Wk × Td} {told : AV} (D : Done H L l h.prog h.place r told H') : told = tdV r.2.2 ∧ ∃ w', Foc H H' (cn L l r.1 (h.next r.2.1).prog (h.next r.2.1).place (wvOf (h.next r.2.1) l) w') ∧ ∀ w, (h.next r.2.1).work = some w → w' = w := by
  obtain ⟨t1, o, td⟩ := r
  obtain ⟨e, D⟩ := D
  refine ⟨e, ?_⟩
  cases o with
  | some w1 => exact ⟨w1, D, fun w e => Option.some.inj e⟩
  | none => obtain ⟨w1, D⟩ := D; exact ⟨w1, D, fun w e => nomatch e⟩
theorem fst_is (k : Dk) : fst (dkS k) = nxS (firstN k) := by cases k <;> kernel_rfl
theorem go_work (n : Nat) {H1 : AHeap} {hd : Nat} {wv : AV} {w : Wk} (T : TR H L t U g hs) (hi : hs[i]? = some c) (A : AllOk k t) (hk : k < 3000) (hn : L.hs[i]? = some (.loc l.hd)) (ehd : l.hd = c.hd)
    (g1 : pItem (.loc L.st) (.str "hands") H = some (.ok (.loc L.lh), H)) (g2 : pItem (.loc L.lh) (.int i) H = some (.ok (.loc hd), H)) (g3 : pItem (.loc hd) (.str "work") H = some (.ok wv, H))
    (g4 : pItem (.loc hd) (.str "place") H = some (.ok (.int h.place), H)) (g5 : pItem (.loc hd) (.str "program") H = some (.ok (.tup (h.prog.map deedV)), H)) (hc : pIsNone wv = false ∨ (h.place : Int) ≠ (h.prog.map deedV).length)
    (hw : callP P08 (n + 4) "work_of" [.loc L.st, .int i] H = some (.ok (.loc l.w), H1)) (F : Foc H H1 (cn L l t h.prog h.place (.loc l.w) w)) (W : WkOk k t.boxes.length t.rows.length w) (hh : t.hands[i]? = some h) (hnow : h.now t.time = some w)
    (hl : (l.kp ∈ hlocs c ∧ l.w ∈ hlocs c) ∨ (H.length ≤ l.kp ∧ H.length ≤ l.w)) :
    Rn (callP P08 (n + 5) "go" [.loc L.st, .int i]) H fun told H' => told = tdV (step t i).2 ∧ TRep H' L (step t i).1 U ∧ ∀ x, U x → H'[x]? = H[x]? := by
  have es : step t i = ({ (op t i h.place w).1 with hands := t.hands.set i (h.next (op t i h.place w).2.1), time := t.time + 1 }, (op t i h.place w).2.2) := by unfold step; rw [hh]; show (match h.now t.time with | none => _ | some w => _) = _; rw [hnow]
  have O := op_wf (i := i) (p := h.place) A.tw W
  refine Rn.mono (s_go (n + 3) (num := i) (G := fun told c2 => told = tdV (op t i h.place w).2.2 ∧ ∃ w', c2 = cn L l (op t i h.place w).1 (h.next (op t i h.place w).2.1).prog (h.next (op t i h.place w).2.1).place (wvOf (h.next (op t i h.place w).2.1) l) w' ∧ ∀ w2, (h.next (op t i h.place w).2.1).work = some w2 → w' = w2)
    (hand := []) (c := cn L l t h.prog h.place (.loc l.w) w) g1 g2 g3 g4 g5 hc (nxS_ok w.next) hw F ((r_op (n + 1) F A.tw hk hn W).mono fun told H2 D => ?_)) fun told H' ⟨c2, F2, e, w', ec, hw'⟩ => ?_
  · obtain ⟨e, w', F', hw'⟩ := done_is D
    exact ⟨cn L l (op t i h.place w).1 (h.next (op t i h.place w).2.1).prog (h.next (op t i h.place w).2.1).place (wvOf (h.next (op t i h.place w).2.1) l) w', rfl, F', e, w', rfl, hw'⟩
  · subst ec
    rw [es]
    have F3 : Foc H H' (cn L l { (op t i h.place w).1 with hands := t.hands.set i (h.next (op t i h.place w).2.1), time := t.time + 1 } (h.next (op t i h.place w).2.1).prog (h.next (op t i h.place w).2.1).place (wvOf (h.next (op t i h.place w).2.1) l) w') := by
      have e2 : ((op t i h.place w).1.time : Int) + 1 = ((t.time + 1 : Nat) : Int) := by rw [O.1.time]; rfl
      have F2' : Foc H H' ((cn L l (op t i h.place w).1 (h.next (op t i h.place w).2.1).prog (h.next (op t i h.place w).2.1).place (wvOf (h.next (op t i h.place w).2.1) l) w').u_time (((op t i h.place w).1.time : Int) + 1)) := F2
      rw [e2] at F2'
      exact F2'
    exact ⟨e, trep_work T hi F3 hw' rfl ehd hl⟩
theorem go_step (n : Nat) (T : TRep H L t U) (A : AllOk k t) (hk : k < 3000) (hi : i < t.hands.length) :
    Rn (callP P08 (n + 5) "go" [.loc L.st, .int i]) H fun told H' => told = tdV (step t i).2 ∧ TRep H' L (step t i).1 U ∧ ∀ x, U x → H'[x]? = H[x]? := by
  obtain ⟨g, hs, T⟩ := T
  have hh := List.getElem?_eq_getElem hi
  have hc := List.getElem?_eq_getElem (T.len ▸ hi : i < hs.length)
  generalize t.hands[i] = h at hh
  generalize hs[i]'(T.len ▸ hi) = c at hc
  obtain ⟨l, t0, w, ec, hwe⟩ := T.his i h c hh hc
  obtain ⟨l0, pr, p, wv, w0, eg⟩ := T.gis
  have hn : L.hs[i]? = some (.loc l.hd) := by
    have := T.rep.hsv
    rw [eg] at this
    rw [show L.hs = hs.map fun h => .loc h.hd from this, List.getElem?_map, hc, ec]; rfl
  have HK := A.hd h (List.mem_of_getElem? hh)
  have O := T.rep.one i c hc
  rw [eg, ec] at O
  have ehd : l.hd = c.hd := by rw [ec]; rfl
  cases hwk : h.work with
  | some w1 =>
    have ew := hwe w1 hwk
    subst ew
    have ev : wvOf h l = .loc l.w := by unfold wvOf; rw [hwk]
    rw [ev] at ec O
    rcases O with ⟨q, _⟩ | ⟨_, F⟩
    · cases q
    · have F : Foc H H (cn L l t h.prog h.place (.loc l.w) w) := F
      obtain ⟨hp, W⟩ := HK.work w hwk
      exact go_work n T hc A hk hn ehd F.gHands (item_loc F.h hn) F.gWork F.gPlace F.gProg (.inl rfl) (s_work_old (n + 3) F hn rfl) F W hh (by unfold Hd.now; rw [hwk])
        (.inl (by rw [ec, hl_loc (c := cn L l t0 h.prog h.place (.loc l.w) w) rfl]; exact ⟨List.mem_cons_of_mem _ List.mem_cons_self, List.mem_cons_of_mem _ (List.mem_cons_of_mem _ List.mem_cons_self)⟩))
  | none =>
    have ev : wvOf h l = .none := by unfold wvOf; rw [hwk]
    rw [ev] at ec O
    rcases O with ⟨_, F⟩ | ⟨q, _⟩
    · have F : Foc0 H H (cn L l t h.prog h.place .none w) := F
      by_cases hp : h.place = h.prog.length
      · have es : step t i = ({ t with time := t.time + 1 }, .rest) := by
          unfold step; rw [hh]; show (match h.now t.time with | none => _ | some w => _) = _
          have : h.now t.time = none := by unfold Hd.now; rw [hwk]; show (h.prog[h.place]?).map _ = none; rw [List.getElem?_eq_none (Nat.le_of_eq hp.symm)]; rfl
          rw [this]
        refine Rn.mono (s_go_rest (n + 4) F (num := i) hn rfl (by show (h.place : Int) = ((h.prog.map deedV).length : Int); rw [List.length_map, hp])) fun told H' ⟨e, F'⟩ => ?_
        rw [es]
        refine ⟨e, trep_step (l' := l) (h' := h) (w' := w) (c' := cn L l { t with time := t.time + 1 } h.prog h.place .none w) (Ls := (cn L l t h.prog h.place .none w).ls0) T hc (.inl ⟨rfl, ⟨F'.all, F'.nd, Nat.le_refl _, fun u_ u_ u_ => rfl⟩⟩) (by rw [ev]) hwe ?_ ehd (foc0_g F') F'.len (fun l a b => F'.out l a b) (fun x hm => ?_) fun x hm => ?_⟩
        · show t.hands = t.hands.set i h
          exact (List.ext_getElem? fun j => by
            by_cases hij : i = j
            · subst hij; rw [List.getElem?_set_self hi, hh]
            · rw [List.getElem?_set_ne hij])
        · rcases mem6 hm with q | q
          · exact .inl q
          · rw [show x = l.hd from q, ehd]; exact .inr (.inl (hd_in c))
        · rw [show x = l.hd from List.mem_singleton.mp hm, ehd]; exact .inl (hd_in c)
      · have hlt : h.place < h.prog.length := Nat.lt_of_le_of_ne HK.place hp
        have hd : (cn L l t h.prog h.place .none w).prog[h.place]? = some (.tup (.str (dkS h.prog[h.place].k) :: dkR h.prog[h.place].k h.prog[h.place].v)) := by
          show (h.prog.map deedV)[h.place]? = _
          rw [List.getElem?_map, List.getElem?_eq_getElem hlt, ← deedK_is]; rfl
        obtain ⟨a, H1, e1, e2, F1⟩ := s_work_new (n + 3) F (num := i) hn rfl rfl hd (dkS_wd _)
        subst e2
        have F2 : Foc H H1 (cn L ⟨l.hd, H.length + 1, H.length⟩ t h.prog h.place (.loc (H.length + 1)) (newW h.prog[h.place] t.time)) := by
          rw [← deedK_is, fst_is] at F1
          exact F1
        exact go_work (l := ⟨l.hd, H.length + 1, H.length⟩) n T hc A hk hn ehd F.gHands (item_loc F.h hn) F.gWork F.gPlace F.gProg (.inr (by rw [List.length_map]; exact fun q => hp (Int.ofNat_inj.mp q))) e1 F2 (newW_ok _) hh (by unfold Hd.now; rw [hwk]; show (h.prog[h.place]?).map _ = _; rw [List.getElem?_eq_getElem hlt]; rfl)
          (.inr ⟨Nat.le_refl _, Nat.le_succ _⟩)
    · cases q
end

end Mine


set_option autoImplicit false
set_option linter.unusedVariables false
set_option maxRecDepth 100000
namespace Mine
open PySem PyProof.Rows

theorem s_mixed (n : Nat) (c k : Int) : callP P08 (n + 1) "_law_mixed" [.int c, .int k] = pure (.int (mixed c k)) := by
  refine callQ (σ := [some (.int c), some (.int k), none]) (by kernel_rfl) (by kernel_rfl) (by kernel_rfl) ?_
  have h := fmod_lt ((c + 7919 * k) * 48271) (b := 2147483647) (by decide)
  rw [c_mixed_0, m_mulL (by decide), pure_bind, m_add, pure_bind, m_mulR (by decide), pure_bind, m_mod (by decide), pure_bind, m_mulL (by omega), pure_bind, m_mod (by decide)]
  rfl

theorem s_cell_at (n : Nat) (ns : List Int) (k : Nat) : callP P08 (n + 2) "_law_cell_at" [.lst (ns.map .int), .int k] = pure (.int (cellAt ns k)) := by
  refine callQ (σ := [some (.lst (ns.map .int)), some (.int k)]) (by kernel_rfl) (by kernel_rfl) (by kernel_rfl) ?_
  rw [c_cell_at_0, e_len_lst, pure_bind, e_lt, pure_bind]
  unfold cellAt
  cases hk : ns[k]? with
  | none =>
    have : ¬ ((k : Int) < (((ns.map AV.int).length : Nat) : Int)) := by rw [List.length_map]; rw [List.getElem?_eq_none_iff] at hk; (first | lia | omega)
    rw [decide_eq_false this]
    simp only [pure_bind, e_go_next, c_cell_at_t_1]
  | some c =>
    have hlt := (List.getElem?_eq_some_iff.mp hk).1
    have : ((k : Int) < (((ns.map AV.int).length : Nat) : Int)) := by rw [List.length_map]; (first | lia | omega)
    rw [decide_eq_true this]
    have hit : (ns.map AV.int)[k]? = some (.int c) := by rw [List.getElem?_map, hk]; rfl
    simp only [e_item_lst hit, e_eachp, e_each0, pure_bind, s_mixed, e_go_ret]

theorem s_value_by (n : Nat) (c : Int) : callP P08 (n + 1) "_law_value_by" [.int c] = pure (.int (valueBy c)) := by
  refine callQ (σ := [some (.int c)]) (by kernel_rfl) (by kernel_rfl) (by kernel_rfl) ?_
  rw [c_value_by_0, m_mod (by decide), pure_bind, e_eqi, pure_bind]
  unfold valueBy
  by_cases h : c.fmod 4 = 0
  · rw [decide_eq_true h, if_pos h]
    simp only [m_div (i := c) (j := 4) d4, pure_bind, m_mulR (j := 7919) (by decide)]
    rfl
  · rw [decide_eq_false h, if_neg h]
    simp only [pure_bind, e_go_next, c_value_by_t_1, m_div (i := c) (j := 4) d4, m_mod (j := 5) (by decide), m_sub]

theorem deed_rest (n : Nat) (c : Int) (k : Dk) (b : Bool) (nm : Str) (h : pCmp .In (.str nm) (.lst [.str "push", .str "swap"]) = pure b) (hk : (cond b (.tup [.str nm, .int (valueBy (c.fdiv 12))]) (.tup [.str nm]) : AV) = deedK k (valueBy (c.fdiv 12))) :
    (do let c4 ← ((do let c8 ← (newL false [.str "push", .str "swap"]); pCmp .In (.str nm) c8)); match c4 with | true => (do let r ← (do let y7 ← (do let vs6 ← eachM [pure (.str nm), (do let vs5 ← eachM [(pBin false .FloorDiv (.int c) (.int 12))]; callP P08 (n + 1) "_law_value_by" vs5)]; pure (.tup vs6)); pure (.ret y7)); goOn (tl P08 (callP P08 (n + 1)) "_law_deed_by" [] 2 38) r) | false => (do let r ← pure (.next [some (.int c), some (.str nm)]); goOn (tl P08 (callP P08 (n + 1)) "_law_deed_by" [] 2 38) r) : M Res)
      = pure (.ret (deedK k (valueBy (c.fdiv 12)))) := by
  rw [e_newL (by decide), pure_bind, h, pure_bind, ← hk]
  cases b with
  | true => simp only [m_div (i := c) (j := 12) d12, e_eachp, e_each0, pure_bind, s_value_by, e_go_ret]; rfl
  | false => simp only [pure_bind, e_go_next, c_deed_by_t_2]; rfl

noncomputable def DdOk (v : Int) (a : AV) : Prop := ∃ (b : Bool) (k : Dk) (nm : Str), a = .str nm ∧ pCmp .In (.str nm) (.lst [.str "push", .str "swap"]) = pure b ∧ (cond b (.tup [.str nm, .int v]) (.tup [.str nm]) : AV) = deedK k v
theorem dd_push (v : Int) : DdOk v (.str "push") := ⟨true, .push, _, rfl, by kernel_rfl, rfl⟩
theorem dd_pop (v : Int) : DdOk v (.str "pop") := ⟨false, .pop, _, rfl, by kernel_rfl, rfl⟩
theorem dd_top (v : Int) : DdOk v (.str "top") := ⟨false, .top, _, rfl, by kernel_rfl, rfl⟩
theorem dd_swap (v : Int) : DdOk v (.str "swap") := ⟨true, .swap, _, rfl, by kernel_rfl, rfl⟩
theorem dd_clear (v : Int) : DdOk v (.str "clear") := ⟨false, .clear, _, rfl, by kernel_rfl, rfl⟩
noncomputable def dd12 : List AV := [.str "push", .str "push", .str "push", .str "push", .str "pop", .str "pop", .str "pop", .str "top", .str "top", .str "swap", .str "swap", .str "clear"]
noncomputable def All (P : AV → Prop) : List AV → Prop
  | [] => True
  | a :: r => P a ∧ All P r
theorem All.at {P : AV → Prop} : ∀ {l : List AV} {j : Nat} {a : AV}, All P l → l[j]? = some a → P a
  | _ :: _, 0, _, h, e => Option.some.inj e ▸ h.1
  | _ :: r, j + 1, _, h, e => All.at (l := r) (j := j) h.2 e
theorem dd12_ok (v : Int) : All (DdOk v) dd12 := ⟨dd_push v, dd_push v, dd_push v, dd_push v, dd_pop v, dd_pop v, dd_pop v, dd_top v, dd_top v, dd_swap v, dd_swap v, dd_clear v, trivial⟩
theorem s_deed_by (n : Nat) (c : Int) : ∃ k, callP P08 (n + 2) "_law_deed_by" [.int c] = pure (deedK k (valueBy (c.fdiv 12))) := by
  have h := fmod_lt c (b := 12) (by decide)
  obtain ⟨j, hm⟩ := Int.eq_ofNat_of_zero_le h.1
  have hj : j < dd12.length := Int.ofNat_lt.mp (hm ▸ h.2)
  have e := List.getElem?_eq_getElem hj
  obtain ⟨b, k, nm, h1, h2, h3⟩ := (dd12_ok (valueBy (c.fdiv 12))).at e
  rw [h1] at e
  refine ⟨k, callQ (σ := [some (.int c), none]) (by kernel_rfl) (by kernel_rfl) (by kernel_rfl) ?_⟩
  unfold dd12 at e
  rw [c_deed_by_0, e_newL (by decide), pure_bind, m_mod (by decide), pure_bind, hm, e_item_lst (k := j) e, pure_bind]
  exact deed_rest n c k b nm h2 h3

theorem deed_is (n : Nat) (k : Dk) (v : Int) : callP P08 (n + 2) "is_deed" [deedK k v] = pure (.bool true) := by
  cases k <;> kernel_rfl

theorem s_start_t (n : Nat) (c m : Int) (hm : 0 ≤ m ∧ m ≤ 60) : ∃ L : List Int, L.length ≤ 60 ∧ tl P08 (callP P08 (n + 1)) "_law_start_by" [] 2 38 [some (.int c), some (.int m)] = pure (.ret (.lst (L.map .int))) := by
  have hb : ∀ a ∈ rangeL 0 m, (do let y2 ← (do let vs4 ← eachM [(do let vs3 ← eachM [(pBin false .FloorDiv (.int c) (.int 8)), pure a]; callP P08 (n + 1) "_law_mixed" vs3)]; callP P08 (n + 1) "_law_value_by" vs4); pure (some y2) : M (Option AV)) = pure (some ((fun a => match a with | .int i => AV.int (valueBy (mixed (c.fdiv 8) i)) | a => a) a)) := by
    intro a ha
    obtain ⟨i, rfl, hi⟩ := mem_rangeL ha
    simp only [m_div (i := c) d8, e_eachp, e_each0, pure_bind, s_mixed, s_value_by]
  refine ⟨(List.range (m - 0).toNat).map fun (k : Nat) => valueBy (mixed (c.fdiv 8) (0 + (k : Int))), ?_, ?_⟩
  · rw [List.length_map, List.length_range]; (first | lia | omega)
  · rw [c_start_by_t_2, e_range1, pure_bind, srcOf_range (by (first | lia | omega)) (by (first | lia | omega)), pure_bind, compM _ (by rw [rangeL_length]; (first | lia | omega)) hb, pure_bind, e_newL (by rw [List.length_map, rangeL_length]; have := LIMis; (first | lia | omega)), pure_bind]
    unfold rangeL
    rw [List.map_map, List.map_map]
    rfl
theorem s_start_by (n : Nat) (c : Int) : ∃ L : List Int, L.length ≤ 60 ∧ callP P08 (n + 2) "_law_start_by" [.int c] = pure (.lst (L.map .int)) := by
  have h4 := fmod_lt c (b := 4) (by decide)
  have h61 := fmod_lt (c.fdiv 32) (b := 61) (by decide)
  by_cases h : (c.fdiv 4).fmod 8 = 1
  · obtain ⟨L, h1, h2⟩ := s_start_t n c ((c.fdiv 32).fmod 61) (by omega)
    refine ⟨L, h1, callQ (σ := [some (.int c), none]) (by kernel_rfl) (by kernel_rfl) (by kernel_rfl) ?_⟩
    rw [c_start_by_0, m_mod (by decide), pure_bind, m_div d4, pure_bind, m_mod (by decide), pure_bind, e_eqi, pure_bind, decide_eq_true h]
    simp only [m_div (i := c) d32, pure_bind, m_mod (j := 61) (by decide), e_go_next, h2]
  · obtain ⟨L, h1, h2⟩ := s_start_t n c (c.fmod 4) (by omega)
    refine ⟨L, h1, callQ (σ := [some (.int c), none]) (by kernel_rfl) (by kernel_rfl) (by kernel_rfl) ?_⟩
    rw [c_start_by_0, m_mod (by decide), pure_bind, m_div d4, pure_bind, m_mod (by decide), pure_bind, e_eqi, pure_bind, decide_eq_false h]
    simp only [pure_bind, e_go_next, h2]

theorem s_hands_by (n : Nat) (c : Int) : ∃ m : Nat, 1 ≤ m ∧ m ≤ 20 ∧ callP P08 (n + 1) "_law_hands_by" [.int c] = pure (.int m) := by
  have h4 := fmod_lt c (b := 4) (by decide)
  have h16 := fmod_lt (c.fdiv 32) (b := 16) (by decide)
  by_cases h : (c.fdiv 4).fmod 8 = 1
  · refine ⟨(5 + (c.fdiv 32).fmod 16).toNat, by omega, by omega, callQ (σ := [some (.int c)]) (by kernel_rfl) (by kernel_rfl) (by kernel_rfl) ?_⟩
    rw [c_hands_by_0, m_div d4, pure_bind, m_mod (by decide), pure_bind, e_eqi, pure_bind, decide_eq_true h]
    simp only [m_div (i := c) d32, pure_bind, m_mod (i := c.fdiv 32) (j := 16) (by decide), m_add, e_go_ret]
    rw [Int.toNat_of_nonneg (by omega)]
  · refine ⟨(1 + c.fmod 4).toNat, by omega, by omega, callQ (σ := [some (.int c)]) (by kernel_rfl) (by kernel_rfl) (by kernel_rfl) ?_⟩
    rw [c_hands_by_0, m_div d4, pure_bind, m_mod (by decide), pure_bind, e_eqi, pure_bind, decide_eq_false h]
    simp only [pure_bind, e_go_next, c_hands_by_t_1, m_mod (i := c) (j := 4) (by decide), m_add]
    rw [Int.toNat_of_nonneg (by omega)]

theorem s_cells (n : Nat) (ns : List Int) (hns : ns.length ≤ 63) (a b : Nat) (hab : a ≤ b ∧ b ≤ 63) : ∃ L : List AV, AllN L ∧ L.length ≤ b - a ∧ callP P08 (n + 2) "_law_cells" [.lst (ns.map .int), .int a, .int b] = pure (.lst L) := by
  have hmin : (if ((ns.map AV.int).length : Int) < (b : Int) then ((ns.map AV.int).length : Int) else (b : Int)) ≤ b := by split <;> (first | lia | omega)
  have hmin2 : (if ((ns.map AV.int).length : Int) < (b : Int) then ((ns.map AV.int).length : Int) else (b : Int)) ≤ ns.length := by rw [List.length_map]; split <;> (first | lia | omega)
  have hmin3 : 0 ≤ (if ((ns.map AV.int).length : Int) < (b : Int) then ((ns.map AV.int).length : Int) else (b : Int)) := by split <;> (first | lia | omega)
  obtain ⟨e, he⟩ : ∃ e, e = (if ((ns.map AV.int).length : Int) < (b : Int) then ((ns.map AV.int).length : Int) else (b : Int)) := ⟨_, rfl⟩
  rw [← he] at hmin hmin2 hmin3
  have hb : ∀ u ∈ rangeL a e, (do let y2 ← (do let vs3 ← eachM [(pItem (.lst (ns.map .int)) u), pure u]; callP P08 (n + 1) "_law_mixed" vs3); pure (some y2) : M (Option AV)) = pure (some ((fun u => match u with | .int i => AV.int (mixed (ns.getD i.toNat 0) i) | u => u) u)) := by
    intro u hu
    obtain ⟨i, rfl, hi⟩ := mem_rangeL hu
    have hlt : a + i < ns.length := by (first | lia | omega)
    have hit : (ns.map AV.int)[a + i]? = some (.int ns[a + i]) := by rw [List.getElem?_map, List.getElem?_eq_getElem hlt]; rfl
    rw [show ((a : Int) + (i : Int)) = ((a + i : Nat) : Int) from by (first | lia | omega)]
    simp only [e_item_lst hit, e_eachp, e_each0, pure_bind, s_mixed, Int.toNat_natCast]
    rw [List.getD_eq_getElem?_getD, List.getElem?_eq_getElem hlt]; rfl
  refine ⟨(rangeL a e).map (fun u => match u with | .int i => AV.int (mixed (ns.getD i.toNat 0) i) | u => u), ?_, ?_, callQ (σ := [some (.lst (ns.map .int)), some (.int a), some (.int b)]) (by kernel_rfl) (by kernel_rfl) (by kernel_rfl) ?_⟩
  · intro x hx
    obtain ⟨u, hu, rfl⟩ := List.mem_map.mp hx
    obtain ⟨i, rfl, hi⟩ := mem_rangeL hu
    exact ⟨_, rfl, mixed_ge _ _⟩
  · rw [List.length_map, rangeL_length]; (first | lia | omega)
  · rw [c_cells_0, e_len_lst]
    simp only [e_eachp, e_each0, pure_bind]
    rw [show pBI false .min [.int b, .int ((ns.map AV.int).length : Nat)] = pure (.int e) from by rw [he]; rfl]
    simp only [e_eachp, e_each0, pure_bind]
    rw [e_range2, pure_bind, srcOf_range (by (first | lia | omega)) (by (first | lia | omega)), pure_bind, compM _ (by rw [rangeL_length]; (first | lia | omega)) hb, pure_bind, e_newL (by rw [List.length_map, rangeL_length]; have := LIMis; (first | lia | omega)), pure_bind]
noncomputable def Frm (H : AHeap) (l : Nat) (H1 : AHeap) : Prop := H.length ≤ l ∧ H.length ≤ H1.length ∧ ∀ x, x < H.length → H1[x]? = H[x]?
theorem Frm.app {H H1 : AHeap} {l : Nat} {o : AO} (h : Frm H l H1) : Frm H H1.length (H1 ++ [o]) := ⟨h.2.1, by rw [List.length_append]; exact Nat.le_add_right_of_le h.2.1, fun x hx => by rw [app_lt (Nat.lt_of_lt_of_le hx h.2.1)]; exact h.2.2 x hx⟩
theorem Frm.set {H H1 : AHeap} {l : Nat} {o : AO} (h : Frm H l H1) : Frm H l (H1.set l o) := ⟨h.1, by rw [List.length_set]; exact h.2.1, fun x hx => by rw [List.getElem?_set_ne (Nat.ne_of_gt (Nat.lt_of_lt_of_le hx h.1))]; exact h.2.2 x hx⟩
theorem we9_ok : All (fun a => ∃ t : Nat, t ≤ 7 ∧ a = .int t) [.int 1, .int 2, .int 2, .int 3, .int 3, .int 4, .int 6, .int 6, .int 7] := ⟨⟨1, by decide, rfl⟩, ⟨2, by decide, rfl⟩, ⟨2, by decide, rfl⟩, ⟨3, by decide, rfl⟩, ⟨3, by decide, rfl⟩, ⟨4, by decide, rfl⟩, ⟨6, by decide, rfl⟩, ⟨6, by decide, rfl⟩, ⟨7, by decide, rfl⟩, trivial⟩
theorem we9_at {q : Nat} (hq : q < 9) : ∃ t : Nat, t ≤ 7 ∧ ([.int 1, .int 2, .int 2, .int 3, .int 3, .int 4, .int 6, .int 6, .int 7] : List AV)[q]? = some (.int t) := by
  have e := List.getElem?_eq_getElem (l := ([.int 1, .int 2, .int 2, .int 3, .int 3, .int 4, .int 6, .int 6, .int 7] : List AV)) hq
  obtain ⟨t, h1, h2⟩ := we9_ok.at e
  exact ⟨t, h1, by rw [e, h2]⟩
theorem s_weaving (n : Nat) (ns : List Int) (hns : ns.length ≤ 63) (m : Nat) (hm : 1 ≤ m ∧ m ≤ 20) (H : AHeap) :
    Rn (callP P08 (n + 3) "_law_weaving_by" [.lst (ns.map .int), .int m]) H fun a H' => ∃ l W, a = .loc l ∧ H'[l]? = some (.list W) ∧ (∀ x ∈ W, InR m x) ∧ W.length ≤ 252 ∧ ∀ x, x < H.length → H'[x]? = H[x]? := by
  have L := LIMis
  obtain ⟨cs, hc1, hc2, hc3⟩ := s_cells n ns hns 27 63 (by (first | lia | omega))
  refine callRn (σ := [some (.lst (ns.map .int)), some (.int m), none, none, none, none]) (by kernel_rfl) (by kernel_rfl) (by kernel_rfl) ?_
  rw [c_weaving_by_0]
  refine .bof (newT (by simp)) ?_
  rw [show (AV.int 27) = .int ((27 : Nat) : Int) from rfl, show (AV.int 63) = .int ((63 : Nat) : Int) from rfl, hc3, pure_bind, srcOf_lst, pure_bind]
  refine .then (forI (fun k σ H1 => ∃ l W o1 o2 o3 o4, σ = [o1, some (.int m), some (.loc l), o2, o3, o4] ∧ H1[l]? = some (.list W) ∧ (∀ x ∈ W, InR m x) ∧ W.length ≤ 7 * k ∧ Frm H l H1)
    (Q := fun r H1 => ∃ l W o1 o2 o3 o4, r = .next [o1, some (.int m), some (.loc l), o2, o3, o4] ∧ H1[l]? = some (.list W) ∧ (∀ x ∈ W, InR m x) ∧ W.length ≤ 252 ∧ Frm H l H1) (by (first | lia | omega)) ?_ ?_ ?_) ?_
  · exact ⟨_, [], _, _, _, _, rfl, app_at, (fun x hx => by cases hx), by simp, .app ⟨Nat.le_refl _, Nat.le_refl _, fun u_ u_ => rfl⟩⟩
  · rintro k a σ H1 ha ⟨l, W, o1, o2, o3, o4, rfl, hl, hW, hlen, hfr⟩
    obtain ⟨v, rfl, hv⟩ := hc1 a (List.mem_of_getElem? ha)
    have hk : k < cs.length := (List.getElem?_eq_some_iff.mp ha).1
    rw [c_weaving_by_for_1, m_div d36, pure_bind, m_mod (by decide), pure_bind, e_gt, pure_bind]
    cases decide (0 < v.fmod 4) with
    | true =>
      obtain ⟨j, hj, hje⟩ := mod_nat (i := v.fdiv 36) hm.1
      have h9 := fmod_lt (v.fdiv 4) (b := 9) (by decide)
      obtain ⟨q, hq⟩ := Int.eq_ofNat_of_zero_le h9.1
      have hq9 : q < 9 := by (first | lia | omega)
      have hit := we9_at hq9
      obtain ⟨t, ht, hit⟩ := hit
      refine .bind (.bind (.bind ?_))
      rw [hje, e_eachp, e_each0, pure_bind, pure_bind, e_newL (by simp; (first | lia | omega))]
      rw [pure_bind, e_newL (by simp; (first | lia | omega)), pure_bind, m_div d4, pure_bind, m_mod (by decide), pure_bind, hq, e_item_lst hit, pure_bind, m_mul_lst (by (first | lia | omega)) (by simp)]
      refine .pure ?_
      have hfl : (List.replicate t [AV.int j]).flatten.length = t := by rw [List.length_flatten]; simp
      refine .of (m_cat_loc hl (by (first | lia | omega))) ?_
      refine .pure (.pure ⟨_, _, _, _, _, _, rfl, app_at, fun x hx => ?_, by rw [List.length_append, hfl]; (first | lia | omega), hfr.app⟩)
      rcases List.mem_append.mp hx with h | h
      · exact hW x h
      · obtain ⟨l', h1, h2⟩ := List.mem_flatten.mp h
        rw [List.eq_of_mem_replicate h1, List.mem_singleton] at h2
        exact ⟨j, h2, by (first | lia | omega), by (first | lia | omega)⟩
    | false =>
      rw [e_range1, pure_bind, srcOf_range (by (first | lia | omega)) (by (first | lia | omega)), pure_bind]
      refine .bind (.then (forI (fun t σ H2 => ∃ W o1 o2 o3 v, σ = [o1, some (.int m), some (.loc l), o2, some (.int v), o3] ∧ H2[l]? = some (.list W) ∧ (∀ x ∈ W, InR m x) ∧ W.length ≤ 7 * k + t ∧ Frm H l H2)
        (Q := fun r H2 => ∃ W o1 o2 o3 o4, r = .next [o1, some (.int m), some (.loc l), o2, o3, o4] ∧ H2[l]? = some (.list W) ∧ (∀ x ∈ W, InR m x) ∧ W.length ≤ 7 * (k + 1) ∧ Frm H l H2) (by rw [rangeL_length]; decide) ?_ ?_ ?_) ?_)
      · exact ⟨W, _, _, _, _, rfl, hl, hW, by (first | lia | omega), hfr⟩
      · rintro t a σ H2 ha ⟨W, o1, o2, o3, v, rfl, hl, hW, hlen, hfr⟩
        obtain ⟨rfl, ht⟩ := rangeL_at ha
        obtain ⟨j, hj, hje⟩ := mod_nat (i := v) hm.1
        rw [c_weaving_by_for10_11_0]
        refine .bind ?_
        rw [pure_bind]
        refine .bof (listOf_loc hl) ?_
        rw [hje, e_eachp, e_each0, pure_bind, pure_bind]
        refine .of (append_loc hl (by (first | lia | omega))) ?_
        rw [m_div ⟨by (first | lia | omega), by (first | lia | omega)⟩, pure_bind]
        refine .pure ⟨_, _, _, _, _, rfl, set_at hl, fun x hx => ?_, by rw [List.length_append]; simp; (first | lia | omega), hfr.set⟩
        rcases List.mem_append.mp hx with h | h
        · exact hW x h
        · rw [List.mem_singleton] at h
          exact ⟨j, h, by (first | lia | omega), by (first | lia | omega)⟩
      · rintro σ H2 ⟨W, o1, o2, o3, v, rfl, hl, hW, hlen, hfr⟩
        rw [rangeL_length] at hlen
        exact ⟨W, _, _, _, _, rfl, hl, hW, by (first | lia | omega), hfr⟩
      · rintro r H2 ⟨W, o1, o2, o3, o4, rfl, hl, hW, hlen⟩
        exact .pure (.pure ⟨_, W, _, _, _, _, rfl, hl, hW, hlen⟩)
  · rintro σ H1 ⟨l, W, o1, o2, o3, o4, rfl, hl, hW, hlen, hfr⟩
    exact ⟨l, W, _, _, _, _, rfl, hl, hW, by (first | lia | omega), hfr⟩
  · rintro r H1 ⟨l, W, o1, o2, o3, o4, rfl, hl, hW, hlen, hfr⟩
    rw [e_go_next, c_weaving_by_t_2]
    exact .pure ⟨l, W, rfl, hl, hW, hlen, hfr.2.2⟩

structure Prs (H : AHeap) (lp : Nat) (PL : List Nat) (ps : List (List Deed)) (t : Nat) : Prop where
  at' : H[lp]? = some (.list (PL.map .loc))
  nd : PL.Nodup
  len : PL.length = ps.length
  prog : ∀ (j : Nat) q p, PL[j]? = some q → ps[j]? = some p → q ≠ lp ∧ H[q]? = some (.list (p.map deedV))
  sum : (ps.map List.length).sum ≤ t
theorem sum_set {d : Deed} {ps : List (List Deed)} : ∀ {j : Nat} {p : List Deed}, ps[j]? = some p → ((ps.set j (p ++ [d])).map List.length).sum = (ps.map List.length).sum + 1 := by
  induction ps with
  | nil => intro j p h; cases h
  | cons x r ih =>
    intro j p h
    cases j with
    | zero =>
      cases h
      rw [List.set_cons_zero, List.map_cons, List.map_cons, List.sum_cons, List.sum_cons, List.length_append]
      exact Nat.succ_add x.length _
    | succ j =>
      rw [List.set_cons_succ, List.map_cons, List.map_cons, List.sum_cons, List.sum_cons, ih h]
      rfl
theorem sum_ge {ps : List (List Deed)} : ∀ {p : List Deed}, p ∈ ps → p.length ≤ (ps.map List.length).sum := by
  induction ps with
  | nil => intro p h; cases h
  | cons x r ih =>
    intro p h
    rw [List.map_cons, List.sum_cons]
    rcases List.mem_cons.mp h with e | e
    · rw [e]; exact Nat.le_add_right _ _
    · exact Nat.le_trans (ih e) (Nat.le_add_left _ _)
theorem s_programs (n : Nat) (ns : List Int) (hns : ns.length ≤ 63) (m : Nat) (hm : 1 ≤ m ∧ m ≤ 20) (H : AHeap) :
    Rn (callP P08 (n + 3) "_law_programs_by" [.lst (ns.map .int), .int m]) H fun a H' => ∃ lp PL ps, a = .loc lp ∧ Prs H' lp PL ps 24 ∧ ps.length = m ∧ ∀ l, l < H.length → H'[l]? = H[l]? := by
  have L := LIMis
  obtain ⟨cs, hc1, hc2, hc3⟩ := s_cells n ns hns 3 27 (by (first | lia | omega))
  refine callRn (σ := [some (.lst (ns.map .int)), some (.int m), none, none]) (by kernel_rfl) (by kernel_rfl) (by kernel_rfl) ?_
  rw [c_programs_by_0, e_range1, pure_bind, srcOf_range (by (first | lia | omega)) (by (first | lia | omega)), pure_bind]
  refine .bind (.then (compA (rangeL 0 m) (fun i acc H1 => ∃ PL : List Nat, acc = PL.map .loc ∧ PL.Nodup ∧ H.length ≤ H1.length ∧ (∀ l, l < H.length → H1[l]? = H[l]?) ∧ ∀ q ∈ PL, q < H1.length ∧ H.length ≤ q ∧ H1[q]? = some (.list [])) (by rw [rangeL_length]; (first | lia | omega)) (fun u_ u_ u_ u_ => rfl) ⟨[], rfl, .nil, Nat.le_refl _, fun u_ u_ => rfl, fun q hq => by cases hq⟩ ?_) ?_)
  · rintro i a acc H1 ha hacc ⟨PL, rfl, nd, h1, h2, h3⟩
    refine .bof (newT (by simp)) (.pure ⟨_, rfl, PL ++ [H1.length], by simp, ?_, by simp; (first | lia | omega), fun l hl => ?_, fun q hq => ?_⟩)
    · exact List.nodup_append.mpr ⟨nd, List.nodup_cons.mpr ⟨List.not_mem_nil, .nil⟩, fun x hx y hy e => by
        have := (h3 x hx).1
        rw [e, List.mem_singleton.mp hy] at this
        exact absurd this (Nat.lt_irrefl _)⟩
    · rw [app_lt (by (first | lia | omega))]; exact h2 l hl
    · rcases List.mem_append.mp hq with h | h
      · obtain ⟨q1, q2, q3⟩ := h3 q h
        exact ⟨by simp; (first | lia | omega), q2, by rw [app_lt q1]; exact q3⟩
      · rw [List.mem_singleton] at h
        subst h
        exact ⟨by simp, h1, app_at⟩
  · rintro acc H1 ⟨⟨PL, rfl, nd, h1, h2, h3⟩, hlen⟩
    rw [rangeL_length, List.length_map] at hlen
    refine .of (newT (by rw [List.length_map]; (first | lia | omega))) ?_
    rw [show (AV.int 3) = .int ((3 : Nat) : Int) from rfl, show (AV.int 27) = .int ((27 : Nat) : Int) from rfl, hc3, pure_bind, srcOf_lst, pure_bind]
    refine .then (forI (fun k σ H2 => (∃ o1 o2, σ = [o1, some (.int m), some (.loc H1.length), o2]) ∧ (∃ ps, Prs H2 H1.length PL ps k) ∧ H1.length < H2.length ∧ ∀ l, l < H.length → H2[l]? = H[l]?)
      (Q := fun r H2 => (∃ o1 o2, r = .next [o1, some (.int m), some (.loc H1.length), o2]) ∧ (∃ ps, Prs H2 H1.length PL ps 24) ∧ ∀ l, l < H.length → H2[l]? = H[l]?) (by (first | lia | omega)) ?_ ?_ ?_) ?_
    · refine ⟨⟨_, _, rfl⟩, ⟨List.replicate PL.length [], app_at, nd, by rw [List.length_replicate], fun j q p hq hp => ?_, ?_⟩, by simp, fun l hl => by rw [app_lt (by (first | lia | omega))]; exact h2 l hl⟩
      · rw [List.getElem?_replicate] at hp
        split at hp
        · cases hp
          obtain ⟨q1, q2, q3⟩ := h3 q (List.mem_of_getElem? hq)
          exact ⟨by (first | lia | omega), by rw [app_lt q1]; exact q3⟩
        · cases hp
      · rw [List.map_replicate]; simp
    · rintro k a σ H2 ha ⟨⟨o1, o2, rfl⟩, ⟨ps, p⟩, p3, p4⟩
      obtain ⟨v, rfl, hv⟩ := hc1 a (List.mem_of_getElem? ha)
      have hk : k < cs.length := (List.getElem?_eq_some_iff.mp ha).1
      obtain ⟨j, hj, hje⟩ := mod_nat (i := v) hm.1
      have hjl : j < PL.length := by (first | lia | omega)
      have hjp : j < ps.length := by rw [← p.len]; exact hjl
      have hit : (PL.map AV.loc)[j]? = some (.loc PL[j]) := by rw [List.getElem?_map, List.getElem?_eq_getElem hjl]; rfl
      obtain ⟨hne, hds⟩ := p.prog j _ _ (List.getElem?_eq_getElem hjl) (List.getElem?_eq_getElem hjp)
      have hdl : ps[j].length ≤ k := Nat.le_trans (sum_ge (List.getElem_mem hjp)) p.sum
      obtain ⟨jj, hdd⟩ := s_deed_by n (v.fdiv 4)
      rw [c_programs_by_for_1]
      refine .bind (.bind ?_)
      rw [hje, pure_bind]
      refine .of (item_loc p.at' hit) ?_
      refine .bof (listOf_loc hds) ?_
      rw [m_div d4]
      simp only [e_eachp, e_each0, pure_bind]
      rw [hdd]
      simp only [e_eachp, e_each0, pure_bind]
      refine .of (append_loc hds (by rw [List.length_map]; (first | lia | omega))) ?_
      refine .pure ⟨⟨_, _, rfl⟩, ⟨ps.set j (ps[j] ++ [⟨jj, valueBy ((v.fdiv 4).fdiv 12)⟩]), ?_, p.nd, by rw [List.length_set]; exact p.len, fun j' q p' hq hp => ?_, by rw [sum_set (List.getElem?_eq_getElem hjp)]; exact Nat.succ_le_succ p.sum⟩, by rw [List.length_set]; exact p3, fun l hl => ?_⟩
      · rw [List.getElem?_set_ne hne]; exact p.at'
      · by_cases e : j = j'
        · subst e
          rw [List.getElem?_eq_getElem hjl] at hq
          cases hq
          rw [List.getElem?_set_self hjp] at hp
          cases hp
          refine ⟨hne, ?_⟩
          rw [List.map_append]; exact set_at hds
        · rw [List.getElem?_set_ne e] at hp
          obtain ⟨g1, g2⟩ := p.prog j' q p' hq hp
          refine ⟨g1, ?_⟩
          rw [List.getElem?_set_ne fun z => e (by
            obtain ⟨hl', e'⟩ := List.getElem?_eq_some_iff.mp hq
            exact (List.getElem_inj p.nd).mp (z.trans e'.symm))]
          exact g2
      · obtain ⟨q1, q2, q3⟩ := h3 _ (List.getElem_mem hjl)
        rw [List.getElem?_set_ne (by (first | lia | omega))]; exact p4 l hl
    · rintro σ H2 ⟨⟨o1, o2, rfl⟩, ⟨ps, p⟩, p3, p4⟩
      exact ⟨⟨_, _, rfl⟩, ⟨ps, p.at', p.nd, p.len, p.prog, Nat.le_trans p.sum (by (first | lia | omega))⟩, p4⟩
    · rintro r H2 ⟨⟨o1, o2, rfl⟩, ⟨ps, p⟩, p4⟩
      rw [e_go_next, c_programs_by_t_2]
      exact .pure ⟨_, PL, ps, rfl, p, by rw [← p.len]; (first | lia | omega), p4⟩

end Mine


set_option autoImplicit false
set_option linter.unusedVariables false
set_option maxRecDepth 100000
namespace Mine
open PySem PyProof.Rows

noncomputable def Sv (H : AHeap) (v : AV) (xs : List AV) : Prop := v = .lst xs ∨ ∃ l, v = .loc l ∧ H[l]? = some (.list xs)
section
variable {H H' : AHeap} {v : AV} {xs : List AV}
theorem Sv.keep (h : Sv H v xs) (k : ∀ (l : Nat) (o : AO), H[l]? = some o → H'[l]? = some o) : Sv H' v xs := h.imp id fun ⟨l, e, a⟩ => ⟨l, e, k l _ a⟩
theorem Sv.len (h : Sv H v xs) : pBI false .len [v] H = some (.ok (.int xs.length), H) := by
  rcases h with rfl | ⟨l, rfl, h⟩
  · rw [e_len_lst]; rfl
  · exact len_loc h
theorem Sv.lof (h : Sv H v xs) : listOf v H = some (.ok xs, H) := by
  rcases h with rfl | ⟨l, rfl, h⟩
  · rfl
  · exact listOf_loc h
theorem Sv.src (h : Sv H v xs) : ∃ src, srcOf v H = some (.ok src, H) ∧ ∀ i H', Sv H' v xs → src.get i H' = some (.ok xs[i]?, H') := by
  rcases h with rfl | ⟨l, rfl, h⟩
  · refine ⟨.items xs, rfl, fun i H' q => rfl⟩
  · refine ⟨.at l, srcOf_loc h, fun i H' q => ?_⟩
    rcases q with q | ⟨l', e, q⟩
    · cases q
    · cases e; exact get_loc q
end
theorem forS {src : Src} {xs : List AV} {body : AV → Loc → M Res} {σ : Loc} {H : AHeap} (I : Nat → Loc → AHeap → Prop) {Q : Res → AHeap → Prop} (hF : xs.length < 100000) (h0 : I 0 σ H)
    (hl : ∀ i σ H, I i σ H → src.get i H = some (.ok xs[i]?, H))
    (hs : ∀ i a σ H, xs[i]? = some a → I i σ H → Rn (body a σ) H (Fl (I (i + 1)) fun v H' => Q (.ret v) H')) (he : ∀ σ H, I xs.length σ H → Q (.next σ) H) :
    Rn (forLoop src body FUEL 0 σ) H Q :=
  forR (fun i => xs[i]?) xs.length I hF (List.getElem?_eq_none (Nat.le_refl _)) (fun i σ H u_ h => hl i σ H h) h0
    (fun i σ H hi h => ⟨xs[i], List.getElem?_eq_getElem hi, hs i _ σ H (List.getElem?_eq_getElem hi) h⟩) he
noncomputable def PrV (H : AHeap) (pv : AV) (ps : List (List Deed)) : Prop := ∃ pvs, Sv H pv pvs ∧ pvs.length = ps.length ∧ (∀ (i : Nat) v p, pvs[i]? = some v → ps[i]? = some p → Sv H v (p.map deedV)) ∧ ∀ p ∈ ps, p.length ≤ 60
theorem s_whole (n : Nat) (i : Int) : callP P08 (n + 1) "is_whole" [.int i] = pure (.bool true) := by
  refine callQ (σ := [some (.int i)]) (by kernel_rfl) (by kernel_rfl) (by kernel_rfl) ?_
  rw [c_is_whole_0]; rfl
theorem kd_in (kd : Kn) : pCmp .NotIn (.str (knS kd)) g_KINDS = pure false := by cases kd <;> kernel_rfl
theorem deed_ok (n : Nat) (d : Deed) : callP P08 (n + 2) "is_deed" [deedV d] = pure (.bool true) := deed_is n d.k d.v
theorem s_need_all (n : Nat) {xs : List Int} {kd : Kn} {H : AHeap} {pv : AV} {ps : List (List Deed)} (hl : xs.length ≤ 60) (hP : PrV H pv ps) (hp : ps.length ≤ 20) :
    Rn (callP P08 (n + 3) "need_all" [.lst (xs.map .int), pv, .str (knS kd)]) H fun u_ H' => H' = H := by
  refine callRn (σ := [some (.lst (xs.map .int)), some (pv), some (.str (knS kd)), none, none, none]) (by kernel_rfl) (by kernel_rfl) (by kernel_rfl) ?_
  rw [c_need_all_0, kd_in]
  simp only [pure_bind]
  rw [show pIsi (.str (knS kd)) .str = pure true from rfl]
  simp only [pure_bind, e_truth, Bool.not_true]
  show Rn (tl P08 _ "need_all" [] 1 39 _) _ _
  rw [c_need_all_t_1, e_len_lst, pure_bind, g_MOST_VALUES, e_gt, pure_bind, List.length_map, decide_eq_false (by (first | lia | omega))]
  refine .bind (.pure ?_)
  show Rn (tl P08 _ "need_all" [] 2 38 _) _ _
  rw [c_need_all_t_2, pure_bind, srcOf_lst, pure_bind]
  refine .then (forI (fun k σ H1 => H1 = H ∧ ∃ o1 o2 o3 o4 o5, σ = [o1, some (pv), o2, o3, o4, o5]) (Q := fun r H1 => H1 = H ∧ ∃ o1 o2 o3 o4 o5, r = .next [o1, some (pv), o2, o3, o4, o5]) (by rw [List.length_map]; (first | lia | omega)) ⟨rfl, _, _, _, _, _, rfl⟩ ?_ ?_) ?_
  · rintro k a σ H1 ha ⟨rfl, o1, o2, o3, o4, o5, rfl⟩
    obtain ⟨v, _, rfl⟩ := List.mem_map.mp (List.mem_of_getElem? ha)
    rw [c_need_all_for_2, s_whole (n + 1)]
    simp only [pure_bind, e_truth, Bool.not_true]
    exact .pure ⟨rfl, _, _, _, _, _, rfl⟩
  · rintro σ H1 ⟨rfl, o1, o2, o3, o4, o5, rfl⟩
    exact ⟨rfl, _, _, _, _, _, rfl⟩
  rintro r H1 ⟨rfl, o1, o2, o3, o4, o5, rfl⟩
  obtain ⟨pvs, hP1, hP2, hP3, hP4⟩ := hP
  obtain ⟨src, hs1, hs2⟩ := hP1.src
  rw [e_go_next, c_need_all_t_3]
  refine .bind (.bof hP1.len ?_)
  rw [g_MOST_PROGRAMS, e_gt, decide_eq_false (by (first | lia | omega))]
  refine .pure (.bind (.pure ?_))
  show Rn (tl P08 _ "need_all" [] 4 36 _) _ _
  rw [c_need_all_t_4, pure_bind]
  refine .bof hs1 ?_
  refine .then (forS (xs := pvs) (fun k σ H2 => H2 = H1 ∧ ∃ o1 o2 o3 o4 o5 o6, σ = [o1, o2, o3, o4, o5, o6]) (Q := fun r H2 => H2 = H1 ∧ ∃ σ, r = .next σ) (by (first | lia | omega)) ⟨rfl, _, _, _, _, _, _, rfl⟩ (fun i σ H2 q => hs2 i H2 (by rw [q.1]; exact hP1)) ?_ ?_) ?_
  · rintro k a σ H2 ha ⟨rfl, o1, o2, o3, o4, o5, o6, rfl⟩
    have hkp : k < ps.length := hP2 ▸ (List.getElem?_eq_some_iff.mp ha).1
    have hds := hP3 k a _ ha (List.getElem?_eq_getElem hkp)
    have hdl := hP4 _ (List.getElem_mem hkp)
    generalize ps[k] = p at hds hdl
    obtain ⟨src2, hz1, hz2⟩ := hds.src
    rw [c_need_all_for_4]
    refine .bind (.bof hds.len ?_)
    rw [g_MOST_DEEDS, e_gt, List.length_map, decide_eq_false (by (first | lia | omega))]
    refine .pure (.bind (.pure ?_))
    show Rn (tl P08 _ "need_all" [(4, 0)] 1 34 _) _ _
    rw [c_need_all_t40_1, pure_bind]
    refine .bof hz1 ?_
    refine .then (forS (xs := p.map deedV) (fun k σ H3 => H3 = H2 ∧ ∃ o1 o2 o3 o4 o5 o6, σ = [o1, o2, o3, o4, o5, o6]) (Q := fun r H3 => H3 = H2 ∧ ∃ o1 o2 o3 o4 o5 o6, r = .next [o1, o2, o3, o4, o5, o6]) (by rw [List.length_map]; (first | lia | omega)) ⟨rfl, _, _, _, _, _, _, rfl⟩ (fun i σ H3 q => hz2 i H3 (by rw [q.1]; exact hds)) ?_ ?_) ?_
    · rintro k a σ H3 ha ⟨rfl, o1, o2, o3, o4, o5, o6, rfl⟩
      obtain ⟨d, _, rfl⟩ := List.mem_map.mp (List.mem_of_getElem? ha)
      rw [c_need_all_for40_1, deed_ok n]
      simp only [pure_bind, e_truth, Bool.not_true]
      exact .pure ⟨rfl, _, _, _, _, _, _, rfl⟩
    · rintro σ H3 ⟨rfl, o1, o2, o3, o4, o5, o6, rfl⟩
      exact ⟨rfl, _, _, _, _, _, _, rfl⟩
    · rintro r H3 ⟨rfl, o1, o2, o3, o4, o5, o6, rfl⟩
      exact .pure ⟨rfl, _, _, _, _, _, _, rfl⟩
  · rintro σ H2 ⟨rfl, o1, o2, o3, o4, o5, o6, rfl⟩
    exact ⟨rfl, _, rfl⟩
  · rintro r H2 ⟨rfl, σ, rfl⟩
    exact .pure rfl

noncomputable def handD (p : List Deed) : AO := .dict [("program", .tup (p.map deedV)), ("place", .int 0), ("work", .none)]
noncomputable def ly0 (b n m : Nat) : Ly := ⟨n + 3, b, n + 1, n, n + 2, (List.range m).map fun j => .loc (b + 1 + j)⟩
noncomputable def wk0 : Wk := newW ⟨.pop, 0⟩ 0
noncomputable def cn0 (b n m j : Nat) (t : Tw) (p : List Deed) : Cn := cn (ly0 b n m) ⟨b + 1 + j, 0, 0⟩ t p 0 .none wk0
theorem tail_at {X Y : AHeap} (k : Nat) : (X ++ Y)[X.length + k]? = Y[k]? := by rw [List.getElem?_append_right (Nat.le_add_right _ _), Nat.add_sub_cancel_left]
theorem mapIdx_at {α β : Type} {f : Nat → α → β} {ps : List α} {j : Nat} {y : β} (h : (ps.mapIdx f)[j]? = some y) : ∃ p, ps[j]? = some p ∧ y = f j p := by
  rw [List.getElem?_mapIdx, Option.map_eq_some_iff] at h
  obtain ⟨p, h1, h2⟩ := h
  exact ⟨p, h1, h2.symm⟩
theorem tower_rep {X : AHeap} {b : Nat} {kd : Kn} {xs : List Int} {ps : List (List Deed)} (hb : X[b]? = some (.list ((bx0 xs).map bxV))) (hX : X.length = b + 1 + ps.length) (hh : ∀ j p, ps[j]? = some p → X[b + 1 + j]? = some (handD p)) :
    TRep (X ++ [.list (ly0 b X.length ps.length).hs, .list [], .list [], .dict (cn0 b X.length ps.length 0 (tw0 kd xs ps) []).sD]) (ly0 b X.length ps.length) (tw0 kd xs ps) (fun x => x < b) := by
  have lt : ∀ {l : Nat} {o : AO} {Y : AHeap}, X[l]? = some o → (X ++ Y)[l]? = some o := fun h => by rw [List.getElem?_append_left (List.getElem?_eq_some_iff.mp h).1]; exact h
  have g5 : gl5 (cn0 b X.length ps.length 0 (tw0 kd xs ps) []) = [X.length + 3, b, X.length + 1, X.length, X.length + 2] := rfl
  refine ⟨cn0 b X.length ps.length 0 (tw0 kd xs ps) [], ps.mapIdx fun j p => cn0 b X.length ps.length j (tw0 kd xs ps) p, ⟨⟨_, _, _, _, _, rfl⟩, ⟨?_, fun j c hj => ?_, ?_⟩, by rw [List.length_mapIdx]; exact (List.length_map ..).symm, fun j h c e1 e2 => ?_, fun x hx => ⟨?_, fun hm => ?_, fun j c hj hm => ?_⟩⟩⟩
  · show (List.range ps.length).map (fun j => AV.loc (b + 1 + j)) = (ps.mapIdx fun j p => cn0 b X.length ps.length j (tw0 kd xs ps) p).map fun h => .loc h.hd
    refine List.ext_getElem? fun j => ?_
    rw [List.getElem?_map, List.getElem?_map, List.getElem?_mapIdx]
    by_cases hj : j < ps.length
    · rw [List.getElem?_range hj, List.getElem?_eq_getElem hj]; rfl
    · rw [List.getElem?_eq_none (by rw [List.length_range]; (first | lia | omega)), List.getElem?_eq_none (by (first | lia | omega))]; rfl
  · obtain ⟨p, hp, rfl⟩ := mapIdx_at hj
    have hjl := (List.getElem?_eq_some_iff.mp hp).1
    refine .inl ⟨rfl, ⟨fun i l o hi ho => ?_, ?_, Nat.le_refl _, fun u_ u_ u_ => rfl⟩⟩
    · match i, hi, ho with
      | 0, hi, ho => exact Option.some.inj hi ▸ Option.some.inj ho ▸ tail_at 3
      | 1, hi, ho => exact Option.some.inj hi ▸ Option.some.inj ho ▸ lt hb
      | 2, hi, ho => exact Option.some.inj hi ▸ Option.some.inj ho ▸ tail_at 1
      | 3, hi, ho => exact Option.some.inj hi ▸ Option.some.inj ho ▸ tail_at 0
      | 4, hi, ho => exact Option.some.inj hi ▸ Option.some.inj ho ▸ tail_at 2
      | 5, hi, ho => exact Option.some.inj hi ▸ Option.some.inj ho ▸ lt (hh j p hp)
      | i + 6, hi, ho => cases hi
    · show [X.length + 3, b, X.length + 1, X.length, X.length + 2, b + 1 + j].Nodup
      simp only [List.nodup_cons, List.mem_cons, List.not_mem_nil, or_false, not_or, List.nodup_nil, and_true, not_false_eq_true]
      (first | lia | omega)
  · refine ⟨fun l => if b + 1 ≤ l ∧ l < b + 1 + ps.length then l - b else 0, fun l hm => if_neg ?_, fun j c hj l hm => ?_⟩
    · rw [g5] at hm
      simp only [List.mem_cons, List.not_mem_nil, or_false] at hm
      (first | lia | omega)
    · obtain ⟨p, hp, rfl⟩ := mapIdx_at hj
      have hjl := (List.getElem?_eq_some_iff.mp hp).1
      have e : l = b + 1 + j := List.mem_singleton.mp hm
      show (if _ then _ else _) = _
      rw [if_pos (by (first | lia | omega))]; (first | lia | omega)
  · obtain ⟨p, hp, rfl⟩ := mapIdx_at e2
    have e1 : (ps.map fun p => (⟨p, 0, none⟩ : Hd))[j]? = some h := e1
    rw [List.getElem?_map, hp] at e1
    cases e1
    exact ⟨_, _, wk0, rfl, fun w e => nomatch e⟩
  · rw [List.length_append]; (first | lia | omega)
  · rw [g5] at hm
    simp only [List.mem_cons, List.not_mem_nil, or_false] at hm
    (first | lia | omega)
  · obtain ⟨p, hp, rfl⟩ := mapIdx_at hj
    have e : x = b + 1 + j := List.mem_singleton.mp hm
    (first | lia | omega)

end Mine


set_option autoImplicit false
set_option linter.unusedVariables false
set_option maxRecDepth 100000
namespace Mine
open PySem PyProof.Rows

theorem s_tower (n : Nat) {xs : List Int} {kd : Kn} {H : AHeap} {pv : AV} {ps : List (List Deed)} (hl : xs.length ≤ 60) (hP : PrV H pv ps) (hp : ps.length ≤ 20) :
    Rn (callP P08 (n + 4) "tower_of" [.lst (xs.map .int), pv, .str (knS kd)]) H fun a H' => ∃ L, a = .loc L.st ∧ TRep H' L (tw0 kd xs ps) (fun x => x < H.length) ∧ ∀ x, x < H.length → H'[x]? = H[x]? := by
  have hLIM := LIMis
  refine callRn (σ := [some (.lst (xs.map .int)), some (pv), some (.str (knS kd)), none, none, none, none, none, none]) (by kernel_rfl) (by kernel_rfl) (by kernel_rfl) ?_
  rw [c_tower_of_0]
  refine .then (s_need_all n hl hP hp) ?_
  rintro _ H1 rfl
  refine .bof (newT (Nat.zero_le _)) ?_
  rw [pure_bind, listOf_lst, pure_bind, srcOf_lst, pure_bind]
  refine .then (forE (fun k σ H2 => ∃ o1 o2 o3 o4 o5, σ = [some (.lst (xs.map .int)), some (pv), some (.str (knS kd)), some (.loc H1.length), o1, o2, o3, o4, o5] ∧ H2 = H1 ++ [.list (((bx0 xs).take k).map bxV)])
    (Q := fun r H2 => ∃ o1 o2 o3 o4 o5, r = .next [some (.lst (xs.map .int)), some (pv), some (.str (knS kd)), some (.loc H1.length), o1, o2, o3, o4, o5] ∧ H2 = H1 ++ [.list ((bx0 xs).map bxV)]) (by rw [List.length_map]; (first | lia | omega)) ⟨_, _, _, _, _, rfl, rfl⟩ ?_ ?_) ?_
  · rintro k a σ H2 ha ⟨o1, o2, o3, o4, o5, rfl, rfl⟩
    rw [List.getElem?_map, Option.map_eq_some_iff] at ha
    obtain ⟨v, hv, rfl⟩ := ha
    have hk : k < xs.length := (List.getElem?_eq_some_iff.mp hv).1
    have hbx := bx0_at hv
    have htk : (bx0 xs).take (k + 1) = (bx0 xs).take k ++ [(v, if k + 1 = xs.length then none else some (k + 1))] := by rw [List.take_add_one, hbx]; rfl
    have tail : ∀ (bl : AV), bl = ixV (if k + 1 = xs.length then none else some (k + 1)) → Rn (tl P08 (callP P08 (n + 3)) "tower_of" [(2, 0)] 2 35 [some (.lst (xs.map .int)), some (pv), some (.str (knS kd)), some (.loc H1.length), some (.int k), some (.int v), some bl, o4, o5]) (H1 ++ [.list (((bx0 xs).take k).map bxV)])
        (Fl (fun σ H2 => ∃ o1 o2 o3 o4 o5, σ = [some (.lst (xs.map .int)), some (pv), some (.str (knS kd)), some (.loc H1.length), o1, o2, o3, o4, o5] ∧ H2 = H1 ++ [.list (((bx0 xs).take (k + 1)).map bxV)])
          fun v H' => ∃ o1 o2 o3 o4 o5, Res.ret v = .next [some (.lst (xs.map .int)), some (pv), some (.str (knS kd)), some (.loc H1.length), o1, o2, o3, o4, o5] ∧ H' = H1 ++ [.list ((bx0 xs).map bxV)]) := by
      rintro bl rfl
      rw [c_tower_of_t20_2]
      refine .bind ?_
      rw [pure_bind]
      refine .bof (listOf_loc app_at) (.of (append_loc app_at (by rw [List.length_map, List.length_take]; (first | lia | omega))) ?_)
      refine .pure ⟨_, _, _, _, _, rfl, ?_⟩
      rw [htk, List.map_append, List.set_append_right _ _ (Nat.le_refl _), Nat.sub_self]; rfl
    rw [c_tower_of_for_2, m_add, pure_bind, e_len_lst, pure_bind, e_eqi, pure_bind, List.length_map]
    by_cases he : k + 1 = xs.length
    · rw [decide_eq_true (by (first | lia | omega))]
      exact .bind (.pure (tail .none (by rw [if_pos he]; rfl)))
    · rw [decide_eq_false (by (first | lia | omega))]
      exact .bind (.pure (tail (.int ((k : Int) + 1)) (by rw [if_neg he]; rfl)))
  · rintro σ H2 ⟨o1, o2, o3, o4, o5, rfl, rfl⟩
    exact ⟨_, _, _, _, _, rfl, by rw [List.length_map, ← bx0_len xs, List.take_length]⟩
  rintro r H2 ⟨o1, o2, o3, o4, o5, rfl, rfl⟩
  obtain ⟨pvs, hP1, hP2, hP3, hP4⟩ := hP
  have tail : ∀ (hd : AV), hd = ixV (tw0 kd xs ps).head → Rn (tl P08 (callP P08 (n + 3)) "tower_of" [] 5 35 [some (.lst (xs.map .int)), some (pv), some (.str (knS kd)), some (.loc H1.length), o1, o2, o3, some hd, o5]) (H1 ++ [.list ((bx0 xs).map bxV)])
      (Fl (fun u_ H' => ∃ L, AV.none = .loc L.st ∧ TRep H' L (tw0 kd xs ps) (fun x => x < H1.length) ∧ ∀ x, x < H1.length → H'[x]? = H1[x]?) fun a H' => ∃ L, a = .loc L.st ∧ TRep H' L (tw0 kd xs ps) (fun x => x < H1.length) ∧ ∀ x, x < H1.length → H'[x]? = H1[x]?) := by
    rintro hd rfl
    have at0 : ∀ {Y : AHeap} {x : Nat} {o : AO}, H1[x]? = some o → (H1 ++ [.list ((bx0 xs).map bxV)] ++ Y)[x]? = some o := fun h => by
      rw [List.append_assoc, List.getElem?_append_left (List.getElem?_eq_some_iff.mp h).1]; exact h
    rw [c_tower_of_t_5, pure_bind]
    obtain ⟨src, hs1, hs2⟩ := (hP1.keep (H' := H1 ++ [.list ((bx0 xs).map bxV)]) fun l o h => by rw [app_lt (List.getElem?_eq_some_iff.mp h).1]; exact h).src
    refine .bind (.bof hs1 ?_)
    refine .then (compA pvs (fun i acc H3 => H3 = H1 ++ [.list ((bx0 xs).map bxV)] ++ (ps.take i).map handD ∧ acc = (List.range i).map (fun j => .loc (H1.length + 1 + j))) (by (first | lia | omega)) (fun i acc H3 q => hs2 i H3 (by rw [q.1]; exact hP1.keep fun l o h => at0 h)) ⟨(List.append_nil _).symm, rfl⟩ ?_) ?_
    · rintro i a acc H3 ha hacc ⟨rfl, rfl⟩
      have hip : i < ps.length := hP2 ▸ (List.getElem?_eq_some_iff.mp ha).1
      have hds := hP3 i a _ ha (List.getElem?_eq_getElem hip)
      refine .bind (.bind ?_)
      refine .eachE (a := .tup (ps[i].map deedV)) (bind_of (hds.keep fun l o h => at0 h).lof rfl) (.eachP (.eachP (.each0 (.of newDT (.pure ⟨_, rfl, ?_, ?_⟩)))))
      · rw [List.take_add_one, List.getElem?_eq_getElem hip, List.map_append, ← List.append_assoc]; rfl
      · rw [List.range_succ, List.map_append]
        congr 1
        show [AV.loc _] = [AV.loc _]
        rw [List.length_append, List.length_append, List.length_map, List.length_take, Nat.min_eq_left (Nat.le_of_lt hip)]; rfl
    · rintro acc H3 ⟨⟨rfl, rfl⟩, hlen⟩
      rw [hP2, List.take_length]
      have hXl : (H1 ++ [AO.list ((bx0 xs).map bxV)] ++ ps.map handD).length = H1.length + 1 + ps.length := by rw [List.length_append, List.length_append, List.length_map]; rfl
      have R := tower_rep (kd := kd) (X := H1 ++ [AO.list ((bx0 xs).map bxV)] ++ ps.map handD) (b := H1.length) (xs := xs) (ps := ps) (by rw [List.append_assoc]; exact tail_at (Y := [AO.list ((bx0 xs).map bxV)] ++ ps.map handD) 0) hXl (fun j p hj => by
        rw [List.append_assoc, Nat.add_assoc, tail_at (Y := [AO.list ((bx0 xs).map bxV)] ++ ps.map handD) (1 + j), Nat.add_comm 1 j]
        show (ps.map handD)[j]? = _
        rw [List.getElem?_map, hj]; rfl)
      refine .of (newT (by rw [List.length_map, List.length_range]; (first | lia | omega))) ?_
      refine .bind (.bind (.eachP (.eachP (.eachP (.eachP (.eachE (newT (Nat.zero_le _)) (.eachP (.eachP (.eachE (newT (Nat.zero_le _)) (.each0 (.of newDT (.pure ?_))))))))))))
      have hXp : ∀ x, x < H1.length → (H1 ++ [AO.list ((bx0 xs).map bxV)] ++ ps.map handD)[x]? = H1[x]? := fun x hx => by rw [List.append_assoc, List.getElem?_append_left hx]
      generalize H1 ++ [AO.list ((bx0 xs).map bxV)] ++ ps.map handD = X at R hXl hXp ⊢
      have e1 : ∀ {a : AO}, (X ++ [a]).length = X.length + 1 := List.length_append ..
      have e2 : ∀ {a b : AO}, (X ++ [a] ++ [b]).length = X.length + 2 := fun {a b} => by rw [List.length_append, e1]; rfl
      have e3 : ∀ {a b c : AO}, (X ++ [a] ++ [b] ++ [c]).length = X.length + 3 := fun {a b c} => by rw [List.length_append, e2]; rfl
      refine ⟨ly0 H1.length X.length ps.length, congrArg AV.loc e3, ?_, fun x hx => ?_⟩
      · rw [e1, e2, List.append_assoc, List.append_assoc, List.append_assoc]
        exact R
      · rw [List.append_assoc, List.append_assoc, List.append_assoc, List.getElem?_append_left (by (first | lia | omega))]
        exact hXp x hx
  rw [e_go_next, c_tower_of_t_3, e_len_lst, pure_bind, e_gt, pure_bind, List.length_map]
  by_cases h0' : xs.length = 0
  · rw [decide_eq_false (by (first | lia | omega))]
    exact .bind (.pure (tail .none (by show _ = ixV (if xs.length = 0 then none else some 0); rw [if_pos h0']; rfl)))
  · rw [decide_eq_true (by (first | lia | omega))]
    exact .bind (.pure (tail (.int 0) (by show _ = ixV (if xs.length = 0 then none else some 0); rw [if_neg h0']; rfl)))
end Mine


set_option autoImplicit false
set_option linter.unusedVariables false
set_option maxRecDepth 100000
namespace Mine
open PySem PyProof.Rows

noncomputable def stD (L : Ly) (t : Tw) : List (Str × AV) := [("kind", .str (knS t.kind)), ("boxes", .loc L.lb), ("head", ixV t.head), ("mark", .int t.mark), ("spare", .loc L.lsp), ("hands", .loc L.lh), ("time", .int t.time), ("rows", .loc L.lr)]
noncomputable def hdD (h : Hd) (wv : AV) : List (Str × AV) := [("program", .tup (h.prog.map deedV)), ("place", .int h.place), ("work", wv)]
noncomputable def wkD (w : Wk) (kp : Nat) : List (Str × AV) := [("deed", deedV w.deed), ("begun", .int w.begun), ("next", .str (nxS w.next)), ("own", ixV w.own), ("seen", seenV w.seen), ("inside", insV w.inside), ("walk", ixV w.walk), ("kept", .loc kp), ("row", ixV w.row)]
noncomputable def WkR (H : AHeap) (P : Nat → Prop) (wv : AV) : Option Wk → Prop
  | none => wv = .none
  | some w => ∃ lw lk, wv = .loc lw ∧ (P lw ∧ H[lw]? = some (.dict (wkD w lk))) ∧ P lk ∧ H[lk]? = some (.list (w.kept.map .int))
noncomputable def HdR (H : AHeap) (P : Nat → Prop) (d : Nat) (h : Hd) : Prop := ∃ wv, (P d ∧ H[d]? = some (.dict (hdD h wv))) ∧ WkR H P wv h.work
structure TRd (H : AHeap) (L : Ly) (t : Tw) (P : Nat → Prop) : Prop where
  st : P L.st ∧ H[L.st]? = some (.dict (stD L t))
  lb : P L.lb ∧ H[L.lb]? = some (.list (t.boxes.map bxV))
  lsp : P L.lsp ∧ H[L.lsp]? = some (.list (t.spare.map natV))
  lh : P L.lh ∧ H[L.lh]? = some (.list L.hs)
  lr : P L.lr ∧ H[L.lr]? = some (.list (t.rows.map rwV))
  len : L.hs.length = t.hands.length
  hd : ∀ (i : Nat) h, t.hands[i]? = some h → ∃ d, L.hs[i]? = some (.loc d) ∧ HdR H P d h
section
variable {H H' : AHeap} {P P' U : Nat → Prop} {L : Ly} {t : Tw}
theorem WkR.keep {wv : AV} (hk : ∀ x, P x → H'[x]? = H[x]?) (hp : ∀ x, P x → P' x) : ∀ {o : Option Wk}, WkR H P wv o → WkR H' P' wv o
  | none, h => h
  | some w, ⟨lw, lk, e, ⟨a1, a2⟩, b1, b2⟩ => ⟨lw, lk, e, ⟨hp _ a1, (hk _ a1).trans a2⟩, hp _ b1, (hk _ b1).trans b2⟩
theorem TRd.keep (T : TRd H L t P) (hk : ∀ x, P x → H'[x]? = H[x]?) (hp : ∀ x, P x → P' x) : TRd H' L t P' :=
  have k : ∀ {l : Nat} {o : AO}, P l ∧ H[l]? = some o → P' l ∧ H'[l]? = some o := fun q => ⟨hp _ q.1, (hk _ q.1).trans q.2⟩
  ⟨k T.st, k T.lb, k T.lsp, k T.lh, k T.lr, T.len, fun i h hi => let ⟨d, e, wv, a, b⟩ := T.hd i h hi; ⟨d, e, wv, k a, b.keep hk hp⟩⟩
theorem TRep.rd (T : TRep H L t U) (h0 : 0 < t.hands.length) : TRd H L t (fun x => x < H.length ∧ ¬ U x) := by
  obtain ⟨g, hs, T⟩ := T
  obtain ⟨l, pr, p, wv, w, eg⟩ := T.gis
  have hl : L.hs = hs.map fun h => .loc h.hd := by have := T.rep.hsv; rw [eg] at this; exact this
  have lt : ∀ {l : Nat} {o : AO}, H[l]? = some o → l < H.length := fun h => (List.getElem?_eq_some_iff.mp h).1
  have nu : ∀ {l : Nat}, l ∈ gl5 g → ¬ U l := fun hm hu => (T.fr _ hu).2.1 hm
  have nh : ∀ {l i : Nat} {c : Cn}, hs[i]? = some c → l ∈ hlocs c → ¬ U l := fun hc hm hu => (T.fr _ hu).2.2 _ _ hc hm
  have five : ∃ c, hs[0]? = some c := ⟨_, List.getElem?_eq_getElem (T.len ▸ h0 : 0 < hs.length)⟩
  obtain ⟨c, hc⟩ := five
  have O := T.rep.one 0 c hc
  have A : H[L.st]? = some (.dict (stD L t)) ∧ H[L.lb]? = some (.list (t.boxes.map bxV)) ∧ H[L.lsp]? = some (.list (t.spare.map natV)) ∧ H[L.lh]? = some (.list L.hs) ∧ H[L.lr]? = some (.list (t.rows.map rwV)) := by
    rw [eg] at O
    rcases O with ⟨_, F⟩ | ⟨_, F⟩
    · exact ⟨F.all 0 _ _ rfl rfl, F.all 1 _ _ rfl rfl, F.all 2 _ _ rfl rfl, F.all 3 _ _ rfl rfl, F.all 4 _ _ rfl rfl⟩
    · exact ⟨F.all 0 _ _ rfl rfl, F.all 1 _ _ rfl rfl, F.all 2 _ _ rfl rfl, F.all 3 _ _ rfl rfl, F.all 4 _ _ rfl rfl⟩
  have g5 : gl5 g = [L.st, L.lb, L.lsp, L.lh, L.lr] := by rw [eg]; rfl
  have m5 : ∀ {l : Nat} {o : AO}, l ∈ [L.st, L.lb, L.lsp, L.lh, L.lr] → H[l]? = some o → (l < H.length ∧ ¬ U l) ∧ H[l]? = some o := fun hm h => ⟨⟨lt h, nu (g5 ▸ hm)⟩, h⟩
  refine ⟨m5 (by simp) A.1, m5 (by simp) A.2.1, m5 (by simp) A.2.2.1, m5 (by simp) A.2.2.2.1, m5 (by simp) A.2.2.2.2, by rw [hl, List.length_map, T.len], fun i h hi => ?_⟩
  have hil : i < hs.length := T.len ▸ (List.getElem?_eq_some_iff.mp hi).1
  have hc := List.getElem?_eq_getElem hil
  obtain ⟨l', t', w', ec, hw⟩ := T.his i h _ hi hc
  have O := T.rep.one i _ hc
  have eh : (mix g hs[i]).hD = hdD h (wvOf h l') := by rw [ec]; rfl
  have ew : (mix g hs[i]).wD = wkD w' l'.kp := by rw [ec]; rfl
  have ek : (mix g hs[i]).kept = w'.kept.map .int := by rw [ec]; rfl
  have e1 : (mix g hs[i]).hd = l'.hd := by rw [ec]; rfl
  have e2 : (mix g hs[i]).w = l'.w := by rw [ec]; rfl
  have e3 : (mix g hs[i]).kp = l'.kp := by rw [ec]; rfl
  have ev : (mix g hs[i]).wv = wvOf h l' := by rw [ec]; rfl
  have ehl : hlocs hs[i] = match wvOf h l' with | .none => [l'.hd] | _ => [l'.hd, l'.kp, l'.w] := by rw [ec]; rfl
  refine ⟨l'.hd, by rw [hl, List.getElem?_map, hc, ec]; rfl, wvOf h l', ?_, ?_⟩
  · have hd1 : H[l'.hd]? = some (.dict (hdD h (wvOf h l'))) := by
      rcases O with ⟨_, F⟩ | ⟨_, F⟩
      · have := F.d; rw [e1, eh] at this; exact this
      · have := F.d; rw [e1, eh] at this; exact this
    refine ⟨⟨lt hd1, nh hc ?_⟩, hd1⟩
    have := hd_in hs[i]
    rw [show hs[i].hd = l'.hd by rw [ec]; rfl] at this
    exact this
  · cases hq : h.work with
    | none => show wvOf h l' = .none; unfold wvOf; rw [hq]
    | some w1 =>
      have := hw w1 hq
      subst this
      have e4 : wvOf h l' = .loc l'.w := by unfold wvOf; rw [hq]
      rw [e4] at ehl ev
      rcases O with ⟨e, _⟩ | ⟨_, F⟩
      · rw [ev] at e; cases e
      · have f1 := F.w
        have f2 := F.k
        rw [e2, ew] at f1
        rw [e3, ek] at f2
        exact ⟨l'.w, l'.kp, e4, ⟨⟨lt f1, nh hc (by rw [ehl]; simp)⟩, f1⟩, ⟨lt f2, nh hc (by rw [ehl]; simp)⟩, f2⟩
end
end Mine


set_option autoImplicit false
set_option linter.unusedVariables false
set_option maxRecDepth 100000
namespace Mine
open PySem PyProof.Rows

theorem dict_new {H : AHeap} {l : Nat} {es : List (Str × AV)} (h : H[l]? = some (.dict es)) : pBI false .dict [.loc l] H = some (.ok (.loc H.length), H ++ [.dict es]) :=
  show (do let es ← dictAt l; newD es : M AV) H = _ from bind_of (dictAt_is h) newDT
theorem list_new {H : AHeap} {l : Nat} {xs : List AV} (h : H[l]? = some (.list xs)) (hl : xs.length ≤ LIM) : pBI true .list [.loc l] H = some (.ok (.loc H.length), H ++ [.list xs]) :=
  show (do let xs ← listOf (.loc l); newL true xs : M AV) H = _ from bind_of (listOf_loc h) (newT hl)
theorem s_copied_work (n : Nat) {H : AHeap} {lw lk : Nat} {w : Wk} (h1 : H[lw]? = some (.dict (wkD w lk))) (h2 : H[lk]? = some (.list (w.kept.map .int))) (hk : w.kept.length ≤ 5000) :
    callP P08 (n + 1) "copied_work" [.loc lw] H = some (.ok (.loc H.length), H ++ [.dict (wkD w (H.length + 1)), .list (w.kept.map .int)]) := by
  have hL := LIMis
  have R : Rn (callP P08 (n + 1) "copied_work" [.loc lw]) H fun a H' => a = .loc H.length ∧ H' = H ++ [.dict (wkD w (H.length + 1)), .list (w.kept.map .int)] := by
    refine callRn (σ := [some (.loc lw), none]) (by kernel_rfl) (by kernel_rfl) (by kernel_rfl) ?_
    rw [c_copied_work_0, show pCmp .Is (.loc lw) .none = pure false from rfl]
    simp only [pure_bind, e_go_next]
    rw [c_copied_work_t_1]
    have l1 : lw < H.length := (List.getElem?_eq_some_iff.mp h1).1
    have l2 : lk < H.length := (List.getElem?_eq_some_iff.mp h2).1
    refine .bof (dict_new h1) (.bind (.bind ?_))
    refine .eachE (dItem (v := .loc lk) (by rw [app_lt l1]; exact h1) (by kernel_rfl)) (.each0 ?_)
    refine .of (list_new (xs := w.kept.map .int) (by rw [app_lt l2]; exact h2) (by rw [List.length_map]; (first | lia | omega))) ?_
    rw [show (H ++ [AO.dict (wkD w lk)]).length = H.length + 1 from List.length_append ..]
    refine .bof (dStore (es := wkD w lk) (es' := wkD w (H.length + 1)) (v := .loc (H.length + 1)) ?_ (by kernel_rfl) (by kernel_rfl)) (.pure ⟨rfl, ?_⟩)
    · rw [List.getElem?_append_left (by rw [List.length_append]; exact Nat.lt_succ_self _)]; exact app_at
    · rw [List.append_assoc, List.set_append_right _ _ (Nat.le_refl _), Nat.sub_self]; rfl
  obtain ⟨a, H', e, rfl, rfl⟩ := R
  exact e
noncomputable def cpT (d : Nat) (h : Hd) : AHeap := match h.work with
  | none => [.dict (hdD h .none)]
  | some w => [.dict (hdD h (.loc (d + 1))), .dict (wkD w (d + 2)), .list (w.kept.map .int)]
noncomputable def cpL (d : Nat) (h : Hd) : List Nat := match h.work with
  | none => [d]
  | some _ => [d, d + 2, d + 1]
structure Cp (H : AHeap) (L : Ly) (t : Tw) (G : AHeap) (ls : List Nat) : Prop where
  ly : L.st = H.length ∧ L.lb = H.length + 1 ∧ L.lsp = H.length + 2 ∧ L.lr = H.length + 3 ∧ L.lh = H.length + 4
  len : H.length + 5 ≤ G.length
  out : ∀ x, x < H.length → G[x]? = H[x]?
  st : G[H.length]? = some (.dict (stD L t))
  lb : G[H.length + 1]? = some (.list (t.boxes.map bxV))
  lsp : G[H.length + 2]? = some (.list (t.spare.map natV))
  lr : G[H.length + 3]? = some (.list (t.rows.map rwV))
  lh : G[H.length + 4]? = some (.list (ls.map .loc))
  hd : ∀ (j d : Nat), ls[j]? = some d → ∃ h, t.hands[j]? = some h ∧ H.length + 5 ≤ d ∧ (∀ k o, (cpT d h)[k]? = some o → G[d + k]? = some o)
  ow : ∃ ow : Nat → Nat, (∀ x, x < H.length + 5 → ow x = 0) ∧ ∀ (j d : Nat), ls[j]? = some d → ∃ h, t.hands[j]? = some h ∧ ∀ x ∈ cpL d h, ow x = j + 1
theorem cpL_in {d x : Nat} {h : Hd} (hx : x ∈ cpL d h) : ∃ k o, x = d + k ∧ (cpT d h)[k]? = some o := by
  unfold cpL at hx
  unfold cpT
  revert hx
  cases h.work with
  | none => exact fun hx => ⟨0, _, List.mem_singleton.mp hx, rfl⟩
  | some w =>
    intro hx
    simp only [List.mem_cons, List.not_mem_nil, or_false] at hx
    rcases hx with rfl | rfl | rfl
    · exact ⟨0, _, rfl, rfl⟩
    · exact ⟨2, _, rfl, rfl⟩
    · exact ⟨1, _, rfl, rfl⟩
theorem Cp.more {H : AHeap} {L : Ly} {t : Tw} {G : AHeap} {ls : List Nat} (C : Cp H L t G ls) {h : Hd} (hh : t.hands[ls.length]? = some h) : Cp H L t ((G ++ cpT G.length h).set (H.length + 4) (.list ((ls ++ [G.length]).map .loc))) (ls ++ [G.length]) := by
  have hl := C.len
  have ne : ∀ {x : Nat}, x ≠ H.length + 4 → ((G ++ cpT G.length h).set (H.length + 4) (.list ((ls ++ [G.length]).map .loc)))[x]? = (G ++ cpT G.length h)[x]? := fun hx => List.getElem?_set_ne fun e => hx e.symm
  have lt : ∀ {x : Nat}, x < G.length → (G ++ cpT G.length h)[x]? = G[x]? := fun hx => List.getElem?_append_left hx
  have k5 : ∀ {x : Nat} {o : AO}, x ≠ H.length + 4 → G[x]? = some o → ((G ++ cpT G.length h).set (H.length + 4) (.list ((ls ++ [G.length]).map .loc)))[x]? = some o := fun hx ho => by rw [ne hx, lt (List.getElem?_eq_some_iff.mp ho).1]; exact ho
  have last : ∀ {j d : Nat}, (ls ++ [G.length])[j]? = some d → ls[j]? = some d ∨ (j = ls.length ∧ d = G.length) := fun {j d} e => by
    by_cases hj : j < ls.length
    · rw [List.getElem?_append_left hj] at e; exact .inl e
    · have h2 := (List.getElem?_eq_some_iff.mp e).1
      rw [List.length_append] at h2
      have : j = ls.length := by have : [G.length].length = 1 := rfl; (first | lia | omega)
      subst this
      rw [List.getElem?_concat_length] at e
      cases e
      exact .inr ⟨rfl, rfl⟩
  refine ⟨C.ly, by rw [List.length_set, List.length_append]; (first | lia | omega), fun x hx => ?_, k5 (by (first | lia | omega)) C.st, k5 (by (first | lia | omega)) C.lb, k5 (by (first | lia | omega)) C.lsp, k5 (by (first | lia | omega)) C.lr, ?_, fun j d e => ?_, ?_⟩
  · rw [ne (by (first | lia | omega)), lt (by (first | lia | omega))]; exact C.out x hx
  · rw [List.getElem?_set_self (by rw [List.length_append]; (first | lia | omega))]
  · rcases last e with q | ⟨rfl, rfl⟩
    · obtain ⟨g, a1, a2, a3⟩ := C.hd j d q
      exact ⟨g, a1, a2, fun k o ho => k5 (by (first | lia | omega)) (a3 k o ho)⟩
    · refine ⟨h, hh, hl, fun k o ho => ?_⟩
      rw [ne (by (first | lia | omega)), tail_at]; exact ho
  · obtain ⟨ow, o1, o2⟩ := C.ow
    refine ⟨fun x => if x < G.length then ow x else ls.length + 1, fun x hx => ?_, fun j d e => ?_⟩
    · show (if _ then _ else _) = _
      rw [if_pos (by (first | lia | omega))]; exact o1 x hx
    · rcases last e with q | ⟨rfl, rfl⟩
      · obtain ⟨g, a1, a2⟩ := o2 j d q
        refine ⟨g, a1, fun x hx => ?_⟩
        obtain ⟨g', b1, b2, b3⟩ := C.hd j d q
        rw [a1] at b1; cases b1
        obtain ⟨k, o, rfl, ho⟩ := cpL_in hx
        show (if _ then _ else _) = _
        rw [if_pos (List.getElem?_eq_some_iff.mp (b3 k o ho)).1]
        exact a2 _ hx
      · refine ⟨h, hh, fun x hx => ?_⟩
        obtain ⟨k, o, rfl, ho⟩ := cpL_in hx
        show (if _ then _ else _) = _
        rw [if_neg (by (first | lia | omega))]
theorem Cp.rep {H : AHeap} {L : Ly} {t : Tw} {G : AHeap} {ls : List Nat} (C : Cp H L t G ls) (hs : L.hs = ls.map .loc) (hl : ls.length = t.hands.length) : TRep G L t (fun x => x < H.length) := by
  obtain ⟨l1, l2, l3, l4, l5⟩ := C.ly
  have hlen := C.len
  let cj : Nat → Hd → Cn := fun j h => cn L ⟨(ls[j]?).getD 0, (ls[j]?).getD 0 + 1, (ls[j]?).getD 0 + 2⟩ t h.prog h.place (wvOf h ⟨(ls[j]?).getD 0, (ls[j]?).getD 0 + 1, (ls[j]?).getD 0 + 2⟩) (h.work.getD wk0)
  have at' : ∀ {j : Nat} {h : Hd}, t.hands[j]? = some h → ∃ d, ls[j]? = some d ∧ cj j h = cn L ⟨d, d + 1, d + 2⟩ t h.prog h.place (wvOf h ⟨d, d + 1, d + 2⟩) (h.work.getD wk0) := fun {j h} e => by
    have hj : j < ls.length := hl ▸ (List.getElem?_eq_some_iff.mp e).1
    refine ⟨ls[j], List.getElem?_eq_getElem hj, ?_⟩
    show cn L _ _ _ _ _ _ = _
    rw [List.getElem?_eq_getElem hj]; rfl
  have hloc : ∀ {d : Nat} {h : Hd}, hlocs (cn L ⟨d, d + 1, d + 2⟩ t h.prog h.place (wvOf h ⟨d, d + 1, d + 2⟩) (h.work.getD wk0)) = cpL d h := fun {d h} => by
    unfold hlocs cpL wvOf
    cases hw : h.work <;> rfl
  have g5 : ∀ {x : Nat}, x ∈ [L.st, L.lb, L.lsp, L.lh, L.lr] → H.length ≤ x ∧ x < H.length + 5 := fun hx => by
    simp only [List.mem_cons, List.not_mem_nil, or_false] at hx
    (first | lia | omega)
  refine ⟨cn L ⟨0, 0, 0⟩ t [] 0 .none wk0, t.hands.mapIdx cj, ⟨⟨_, _, _, _, _, rfl⟩, ⟨?_, fun j c hj => ?_, ?_⟩, List.length_mapIdx .., fun j h c e1 e2 => ?_, fun x hx => ⟨by (first | lia | omega), fun hm => ?_, fun j c hj hm => ?_⟩⟩⟩
  · show L.hs = _
    rw [hs]
    refine List.ext_getElem? fun j => ?_
    rw [List.getElem?_map, List.getElem?_map, List.getElem?_mapIdx]
    cases hj : t.hands[j]? with
    | none => rw [List.getElem?_eq_none (by have := List.getElem?_eq_none_iff.mp hj; (first | lia | omega))]; rfl
    | some h =>
      obtain ⟨d, e1, e2⟩ := at' hj
      rw [e1]
      show some (AV.loc d) = some (AV.loc (cj j h).hd)
      rw [e2]; rfl
  · obtain ⟨h, hh, rfl⟩ := mapIdx_at hj
    obtain ⟨d, e1, e2⟩ := at' hh
    obtain ⟨h', b1, b2, b3⟩ := C.hd j d e1
    rw [hh] at b1; cases b1
    rw [e2]
    have st := C.st; have lb := C.lb; have lsp := C.lsp; have lr := C.lr; have lh := C.lh
    rw [← l1] at st; rw [← l2] at lb; rw [← l3] at lsp; rw [← l4] at lr; rw [← l5, ← hs] at lh
    cases hw : h.work with
    | none =>
      have t0 := b3 0 (.dict (hdD h .none)) (by unfold cpT; rw [hw]; rfl)
      have ewv : wvOf h ⟨d, d + 1, d + 2⟩ = .none := by unfold wvOf; rw [hw]
      rw [ewv]
      refine .inl ⟨rfl, ⟨fun i l o hi ho => ?_, ?_, Nat.le_refl _, fun u_ u_ u_ => rfl⟩⟩
      · match i, hi, ho with
        | 0, hi, ho => exact Option.some.inj hi ▸ Option.some.inj ho ▸ st
        | 1, hi, ho => exact Option.some.inj hi ▸ Option.some.inj ho ▸ lb
        | 2, hi, ho => exact Option.some.inj hi ▸ Option.some.inj ho ▸ lsp
        | 3, hi, ho => exact Option.some.inj hi ▸ Option.some.inj ho ▸ lh
        | 4, hi, ho => exact Option.some.inj hi ▸ Option.some.inj ho ▸ lr
        | 5, hi, ho => exact Option.some.inj hi ▸ Option.some.inj ho ▸ t0
        | i + 6, hi, ho => cases hi
      · show [L.st, L.lb, L.lsp, L.lh, L.lr, d].Nodup
        simp only [List.nodup_cons, List.mem_cons, List.not_mem_nil, or_false, not_or, List.nodup_nil, and_true, not_false_eq_true]
        (first | lia | omega)
    | some w =>
      have t0 := b3 0 (.dict (hdD h (.loc (d + 1)))) (by unfold cpT; rw [hw]; rfl)
      have t1 := b3 1 (.dict (wkD w (d + 2))) (by unfold cpT; rw [hw]; rfl)
      have t2 := b3 2 (.list (w.kept.map .int)) (by unfold cpT; rw [hw]; rfl)
      have ewv : wvOf h ⟨d, d + 1, d + 2⟩ = .loc (d + 1) := by unfold wvOf; rw [hw]
      rw [ewv]
      refine .inr ⟨rfl, ⟨fun i l o hi ho => ?_, ?_, Nat.le_refl _, fun u_ u_ u_ => rfl⟩⟩
      · match i, hi, ho with
        | 0, hi, ho => exact Option.some.inj hi ▸ Option.some.inj ho ▸ st
        | 1, hi, ho => exact Option.some.inj hi ▸ Option.some.inj ho ▸ lb
        | 2, hi, ho => exact Option.some.inj hi ▸ Option.some.inj ho ▸ lsp
        | 3, hi, ho => exact Option.some.inj hi ▸ Option.some.inj ho ▸ lh
        | 4, hi, ho => exact Option.some.inj hi ▸ Option.some.inj ho ▸ lr
        | 5, hi, ho => exact Option.some.inj hi ▸ Option.some.inj ho ▸ t0
        | 6, hi, ho => exact Option.some.inj hi ▸ Option.some.inj ho ▸ t2
        | 7, hi, ho => exact Option.some.inj hi ▸ Option.some.inj ho ▸ t1
        | i + 8, hi, ho => cases hi
      · show [L.st, L.lb, L.lsp, L.lh, L.lr, d, d + 2, d + 1].Nodup
        simp only [List.nodup_cons, List.mem_cons, List.not_mem_nil, or_false, not_or, List.nodup_nil, and_true, not_false_eq_true]
        (first | lia | omega)
  · obtain ⟨ow, o1, o2⟩ := C.ow
    refine ⟨ow, fun l hm => o1 l (g5 hm).2, fun j c hj l hm => ?_⟩
    obtain ⟨h, hh, rfl⟩ := mapIdx_at hj
    obtain ⟨d, e1, e2⟩ := at' hh
    obtain ⟨h', b1, b2⟩ := o2 j d e1
    rw [hh] at b1; cases b1
    rw [e2, hloc] at hm
    exact b2 l hm
  · obtain ⟨h', hh, rfl⟩ := mapIdx_at e2
    rw [e1] at hh; cases hh
    exact ⟨_, _, _, rfl, fun w' e => by rw [e]; rfl⟩
  · exact absurd hx (Nat.not_lt.mpr (g5 hm).1)
  · obtain ⟨h, hh, rfl⟩ := mapIdx_at hj
    obtain ⟨d, e1, e2⟩ := at' hh
    obtain ⟨h', b1, b2, b3⟩ := C.hd j d e1
    rw [hh] at b1; cases b1
    rw [e2, hloc] at hm
    obtain ⟨k, o, rfl, ho⟩ := cpL_in hm
    (first | lia | omega)
end Mine


set_option autoImplicit false
set_option linter.unusedVariables false
set_option maxRecDepth 100000
namespace Mine
open PySem PyProof.Rows

theorem set_hd {H Y : AHeap} {o p : AO} : (H ++ (o :: Y)).set H.length p = H ++ (p :: Y) := by rw [List.set_append_right _ _ (Nat.le_refl _), Nat.sub_self]; rfl
theorem Cp.turn {H : AHeap} {L L' : Ly} {t : Tw} {G : AHeap} {ls : List Nat} (C : Cp H L t G ls) (h1 : L'.st = L.st) (h2 : L'.lb = L.lb) (h3 : L'.lsp = L.lsp) (h4 : L'.lr = L.lr) (h5 : L'.lh = L.lh) : Cp H L' t G ls :=
  ⟨by rw [h1, h2, h3, h4, h5]; exact C.ly, C.len, C.out, by rw [C.st]; unfold stD; rw [h2, h3, h4, h5], C.lb, C.lsp, C.lr, C.lh, C.hd, C.ow⟩
structure Szs (t : Tw) : Prop where
  b : t.boxes.length ≤ 5000
  s : t.spare.length ≤ 5000
  r : t.rows.length ≤ 5000
  h : t.hands.length ≤ 100
  k : ∀ h ∈ t.hands, ∀ w, h.work = some w → w.kept.length ≤ 5000
theorem s_copied (n : Nat) {H : AHeap} {L : Ly} {t : Tw} {P : Nat → Prop} (T : TRd H L t P) (Z : Szs t) :
    Rn (callP P08 (n + 2) "copied" [.loc L.st]) H fun a H' => ∃ L', a = .loc L'.st ∧ TRep H' L' t (fun x => x < H.length) ∧ ∀ x, x < H.length → H'[x]? = H[x]? := by
  have hL := LIMis
  have Zb := Z.b; have Zs := Z.s; have Zr := Z.r; have Zh := Z.h
  refine callRn (σ := [some (.loc L.st), none, none, none]) (by kernel_rfl) (by kernel_rfl) (by kernel_rfl) ?_
  have kp : ∀ {X : AHeap} {l : Nat} {o : AO}, H[l]? = some o → (H ++ X)[l]? = some o := fun h => by rw [List.getElem?_append_left (List.getElem?_eq_some_iff.mp h).1]; exact h
  have top : ∀ {X : AHeap} {o : AO}, (H ++ (o :: X))[H.length]? = some o := fun {X o} => by have := tail_at (X := H) (Y := o :: X) 0; exact this
  have ln : ∀ {X : AHeap}, (H ++ X).length = H.length + X.length := fun {X} => List.length_append ..
  rw [c_copied_0]
  refine .bof (dict_new T.st.2) ?_
  refine .bind (.bind (.eachE (dItem (v := .loc L.lb) (kp T.st.2) (by kernel_rfl)) (.each0 (.of (list_new (kp T.lb.2) (by rw [List.length_map]; (first | lia | omega))) ?_))))
  rw [List.append_assoc, ln]
  refine .bof (dStore (v := .loc (H.length + 1)) (es := stD L t) (es' := stD { L with lb := H.length + 1 } t) top (by kernel_rfl) (by kernel_rfl)) ?_
  show Rn _ ((H ++ (_ :: _)).set H.length _) _
  rw [set_hd]
  refine .bind (.bind (.eachE (dItem (v := .loc L.lsp) (kp T.st.2) (by kernel_rfl)) (.each0 (.of (list_new (kp T.lsp.2) (by rw [List.length_map]; (first | lia | omega))) ?_))))
  rw [List.append_assoc, ln]
  refine .bof (dStore (v := .loc (H.length + 2)) (es := stD { L with lb := H.length + 1 } t) (es' := stD { L with lb := H.length + 1, lsp := H.length + 2 } t) top (by kernel_rfl) (by kernel_rfl)) ?_
  show Rn _ ((H ++ (_ :: _)).set H.length _) _
  rw [set_hd]
  refine .bind (.bind (.eachE (dItem (v := .loc L.lr) (kp T.st.2) (by kernel_rfl)) (.each0 (.of (list_new (kp T.lr.2) (by rw [List.length_map]; (first | lia | omega))) ?_))))
  rw [List.append_assoc, ln]
  refine .bof (dStore (v := .loc (H.length + 3)) (es := stD { L with lb := H.length + 1, lsp := H.length + 2 } t) (es' := stD { L with lb := H.length + 1, lsp := H.length + 2, lr := H.length + 3 } t) top (by kernel_rfl) (by kernel_rfl)) ?_
  show Rn _ ((H ++ (_ :: _)).set H.length _) _
  rw [set_hd]
  refine .bof (newT (Nat.zero_le _)) ?_
  rw [List.append_assoc, ln]
  refine .bof (dStore (v := .loc (H.length + 4)) (es := stD { L with lb := H.length + 1, lsp := H.length + 2, lr := H.length + 3 } t) (es' := stD { L with st := H.length, lb := H.length + 1, lsp := H.length + 2, lr := H.length + 3, lh := H.length + 4 } t) top (by kernel_rfl) (by kernel_rfl)) ?_
  show Rn _ ((H ++ (_ :: _)).set H.length _) _
  rw [set_hd]
  obtain ⟨L4, hL4⟩ : ∃ L4 : Ly, L4 = { L with st := H.length, lb := H.length + 1, lsp := H.length + 2, lr := H.length + 3, lh := H.length + 4 } := ⟨_, rfl⟩
  rw [← hL4]
  have C0 : Cp H L4 t (H ++ [.dict (stD L4 t), .list (t.boxes.map bxV), .list (t.spare.map natV), .list (t.rows.map rwV), .list []]) [] := by
    refine ⟨by rw [hL4]; exact ⟨rfl, rfl, rfl, rfl, rfl⟩, by rw [ln]; exact Nat.le_refl _, fun x hx => List.getElem?_append_left hx, tail_at 0, tail_at 1, tail_at 2, tail_at 3, tail_at 4, fun j d e => (nomatch e), fun u_ => 0, fun u_ u_ => rfl, fun j d e => nomatch e⟩
  show Rn _ (H ++ [.dict (stD L4 t), .list (t.boxes.map bxV), .list (t.spare.map natV), .list (t.rows.map rwV), .list []]) _
  generalize H ++ [AO.dict (stD L4 t), .list (t.boxes.map bxV), .list (t.spare.map natV), .list (t.rows.map rwV), .list []] = G0 at C0
  have old : ∀ {G : AHeap} {ls : List Nat} {l : Nat} {o : AO}, Cp H L4 t G ls → H[l]? = some o → G[l]? = some o := fun C h => (C.out _ (List.getElem?_eq_some_iff.mp h).1).trans h
  refine .bof (dItem (v := .loc L.lh) (old C0 T.st.2) (by kernel_rfl)) (.bof (srcOf_loc (old C0 T.lh.2)) ?_)
  refine .then (forA (xs := L.hs) (fun k σ G => (∃ o3 o4, σ = [some (.loc L.st), some (.loc H.length), o3, o4]) ∧ ∃ ls, ls.length = k ∧ Cp H L4 t G ls)
    (Q := fun r G => (∃ o3 o4, r = .next [some (.loc L.st), some (.loc H.length), o3, o4]) ∧ ∃ ls, ls.length = L.hs.length ∧ Cp H L4 t G ls) (by rw [T.len]; (first | lia | omega)) ⟨⟨_, _, rfl⟩, [], rfl, C0⟩ (fun i σ G q => old q.2.choose_spec.2 T.lh.2) ?_ fun σ G ⟨⟨o3, o4, e⟩, q⟩ => ⟨⟨o3, o4, by rw [e]⟩, q⟩) ?_
  · rintro k a σ G ha ⟨⟨o3, o4, rfl⟩, ls, rfl, C⟩
    have hkl : ls.length < t.hands.length := T.len ▸ (List.getElem?_eq_some_iff.mp ha).1
    have hh := List.getElem?_eq_getElem hkl
    generalize t.hands[ls.length] = h at hh
    obtain ⟨d, e1, wv, ⟨_, hd⟩, hw⟩ := T.hd ls.length h hh
    rw [ha] at e1; cases e1
    have hGl := C.len
    have ap : ∀ {X : AHeap} {l : Nat} {o : AO}, H[l]? = some o → (G ++ X)[l]? = some o := fun h => by rw [List.getElem?_append_left (by have := (List.getElem?_eq_some_iff.mp h).1; (first | lia | omega))]; exact old C h
    have fin : Rn (do let _ ← (do let o4 ← (pItem (.loc H.length) (.str "hands")); let _ ← listOf o4; (pMeth "append" o4 [.loc G.length])); pure (.next [some (.loc L.st), some (.loc H.length), some (.loc d), some (.loc G.length)]) : M Res) (G ++ cpT G.length h)
        (Fl (fun σ G => (∃ o3 o4, σ = [some (.loc L.st), some (.loc H.length), o3, o4]) ∧ ∃ ls', ls'.length = ls.length + 1 ∧ Cp H L4 t G ls') fun v G => (∃ o3 o4, Res.ret v = .next [some (.loc L.st), some (.loc H.length), o3, o4]) ∧ ∃ ls, ls.length = L.hs.length ∧ Cp H L4 t G ls) := by
      have st := C.st
      have lh := C.lh
      have g1 : (G ++ cpT G.length h)[H.length]? = some (.dict (stD L4 t)) := by rw [List.getElem?_append_left (by (first | lia | omega))]; exact st
      have g2 : (G ++ cpT G.length h)[H.length + 4]? = some (.list (ls.map .loc)) := by rw [List.getElem?_append_left (by (first | lia | omega))]; exact lh
      refine .bind (.bof (dItem (v := .loc (H.length + 4)) g1 (by rw [hL4]; kernel_rfl)) (.bof (listOf_loc g2) (.of (append_loc g2 (by rw [List.length_map]; (first | lia | omega))) (.pure ⟨⟨_, _, rfl⟩, ls ++ [G.length], by rw [List.length_append]; rfl, ?_⟩))))
      have := C.more hh
      rw [List.map_append] at this
      exact this
    rw [c_copied_for_5]
    refine .bof (dict_new (old C hd)) ?_
    cases hwk : h.work with
    | none =>
      rw [hwk] at hw
      have hw : wv = .none := hw
      subst hw
      have cw : callP P08 (n + 1) "copied_work" [.none] = pure .none := by
        refine callQ (σ := [some .none, none]) (by kernel_rfl) (by kernel_rfl) (by kernel_rfl) ?_
        rw [c_copied_work_0, show pCmp .Is .none .none = pure true from by kernel_rfl]
        rfl
      refine .bind (.bind (.eachE (dItem (v := .none) (ap hd) (by kernel_rfl)) (.each0 (.eq cw ?_))))
      refine .bof (dStore (v := .none) (es := hdD h .none) (es' := hdD h .none) app_at (by kernel_rfl) (by kernel_rfl)) ?_
      rw [show (G ++ [AO.dict (hdD h .none)]).set G.length (.dict (hdD h .none)) = G ++ cpT G.length h by rw [set_hd]; unfold cpT; rw [hwk]]
      exact fin
    | some w =>
      rw [hwk] at hw
      obtain ⟨lw, lk, rfl, ⟨_, h1⟩, _, h2⟩ := hw
      have cw := s_copied_work n (H := G ++ [.dict (hdD h (.loc lw))]) (ap h1) (ap h2) (Z.k h (List.mem_of_getElem? hh) w hwk)
      rw [show (G ++ [AO.dict (hdD h (.loc lw))]).length = G.length + 1 from List.length_append ..] at cw
      refine .bind (.bind (.eachE (dItem (v := .loc lw) (ap hd) (by kernel_rfl)) (.each0 (.of cw ?_))))
      rw [List.append_assoc]
      refine .bof (dStore (v := .loc (G.length + 1)) (es := hdD h (.loc lw)) (es' := hdD h (.loc (G.length + 1))) (by have := tail_at (X := G) (Y := [AO.dict (hdD h (.loc lw))] ++ [AO.dict (wkD w (G.length + 1 + 1)), .list (w.kept.map .int)]) 0; exact this) (by kernel_rfl) (by kernel_rfl)) ?_
      rw [show (G ++ ([AO.dict (hdD h (.loc lw))] ++ [AO.dict (wkD w (G.length + 1 + 1)), .list (w.kept.map .int)])).set G.length (.dict (hdD h (.loc (G.length + 1)))) = G ++ cpT G.length h by rw [show [AO.dict (hdD h (.loc lw))] ++ [AO.dict (wkD w (G.length + 1 + 1)), .list (w.kept.map .int)] = AO.dict (hdD h (.loc lw)) :: [AO.dict (wkD w (G.length + 1 + 1)), .list (w.kept.map .int)] from rfl, set_hd]; unfold cpT; rw [hwk]]
      exact fin
  · rintro r G ⟨⟨o3, o4, rfl⟩, ls, hls, C⟩
    rw [e_go_next, c_copied_t_6]
    have C' := C.turn (L' := { L4 with hs := ls.map .loc }) rfl rfl rfl rfl rfl
    refine .pure ⟨{ L4 with hs := ls.map .loc }, by rw [hL4], C'.rep rfl (by rw [hls, T.len]), C.out⟩
end Mine


set_option autoImplicit false
set_option linter.unusedVariables false
set_option maxRecDepth 100000
namespace Mine
open PySem PyProof.Rows

theorem szs_of {k : Nat} {t : Tw} (A : AllOk k t) (hk : k < 3000) (hh : t.hands.length ≤ 100) : Szs t := by
  have h1 := A.tw.lb; have h2 := A.tw.ls; have h3 := A.tw.lr
  exact ⟨by (first | lia | omega), by (first | lia | omega), by (first | lia | omega), hh, fun h hm w e => by have := ((A.hd h hm).work w e).2.1; (first | lia | omega)⟩
noncomputable def cn1 (L : Ly) (t : Tw) : Cn := cn L ⟨0, 0, 0⟩ t [] 0 .none wk0
theorem s_need_hand (n : Nat) {H : AHeap} {c : Cn} {i : Nat} (h1 : H[c.st]? = some (.dict c.sD)) (h2 : H[c.lh]? = some (.list c.hs)) (hi : i < c.hs.length) :
    callP P08 (n + 2) "need_hand" [.loc c.st, .int i] H = some (.ok .none, H) := by
  refine callN (σ := [some (.loc c.st), some (.int i)]) (σ' := [some (.loc c.st), some (.int i)]) (by kernel_rfl) (by kernel_rfl) (by kernel_rfl) ?_
  rw [c_need_hand_0, s_whole n]
  simp only [pure_bind, e_truth, Bool.not_true]
  rw [e_le, decide_eq_true (by (first | lia | omega))]
  simp only [pure_bind]
  refine Rn.val (.bind (.bind (.bind (.bind (.bind (.eachE (dItem (v := .loc c.lh) h1 (by kernel_rfl)) (.each0 (.of (len_loc h2) ?_))))))))
  rw [e_lt, decide_eq_true (by (first | lia | omega))]
  exact .pure (.pure (.pure (.pure ⟨rfl, rfl⟩)))
theorem s_stepped (n : Nat) {H : AHeap} {L : Ly} {t : Tw} {P : Nat → Prop} {k i : Nat} (T : TRd H L t P) (A : AllOk k t) (hk : k < 3000) (hh : t.hands.length ≤ 100) (hi : i < t.hands.length) :
    Rn (callP P08 (n + 6) "stepped" [.loc L.st, .int i]) H fun a H' => ∃ L', a = .tup [.loc L'.st, tdV (step t i).2] ∧ TRep H' L' (step t i).1 (fun x => x < H.length) ∧ ∀ x, x < H.length → H'[x]? = H[x]? := by
  refine callRn (σ := [some (.loc L.st), some (.int i), none, none]) (by kernel_rfl) (by kernel_rfl) (by kernel_rfl) ?_
  rw [c_stepped_0]
  refine .bof (s_need_hand (n + 3) (c := cn1 L t) T.st.2 T.lh.2 (by show i < L.hs.length; rw [T.len]; exact hi)) ?_
  refine .then (s_copied (n + 3) T (szs_of A hk hh)) ?_
  rintro _ H1 ⟨L', rfl, T1, hf⟩
  refine .then (go_step n T1 A hk hi) ?_
  rintro told H2 ⟨rfl, T2, hf2⟩
  exact .pure ⟨L', rfl, T2, fun x hx => (hf2 x hx).trans (hf x hx)⟩
section
variable {H : AHeap} {L : Ly} {t : Tw} {P : Nat → Prop}
theorem s_spare_of (n : Nat) (T : TRd H L t P) (hl : t.spare.length ≤ 5000) : callP P08 (n + 1) "spare_of" [.loc L.st] H = some (.ok (.loc H.length), H ++ [.list (t.spare.map natV)]) := by
  have hL := LIMis
  have R : Rn (callP P08 (n + 1) "spare_of" [.loc L.st]) H fun a H' => a = .loc H.length ∧ H' = H ++ [.list (t.spare.map natV)] := by
    refine callRn (σ := [some (.loc L.st)]) (by kernel_rfl) (by kernel_rfl) (by kernel_rfl) ?_
    rw [c_spare_of_0]
    exact .bind (.bind (.eachE (dItem (v := .loc L.lsp) T.st.2 (by kernel_rfl)) (.each0 (.of (list_new T.lsp.2 (by rw [List.length_map]; (first | lia | omega))) (.pure ⟨rfl, rfl⟩)))))
  obtain ⟨a, H', e, rfl, rfl⟩ := R
  exact e
end
theorem mapM_nats {H : AHeap} {n : Nat} : ∀ xs : List Nat, (xs.map natV).mapM (rd H n) = some (xs.map fun (i : Nat) => PyData.int (i : Int))
  | [] => rfl
  | x :: r => by rw [List.map_cons, List.mapM_cons, show rd H n (natV x) = some (.int x) from rd_int, mapM_nats r]; rfl
theorem rd_nats {H : AHeap} {l : Nat} {ds : List Nat} (h : H[l]? = some (.list (ds.map natV))) : rd H 8 (.loc l) = some (.list (ds.map fun (i : Nat) => PyData.int (i : Int))) := by
  show (match H[l]? with | some (.list xs) => (xs.mapM (rd H 7)).map PyData.list | _ => none) = _
  rw [h]
  show Option.map _ ((ds.map natV).mapM (rd H 7)) = _
  rw [mapM_nats]; rfl
theorem in_nats {H : AHeap} {l b : Nat} {ds : List Nat} (h : H[l]? = some (.list (ds.map natV))) : pCmp .NotIn (.int b) (.loc l) H = some (.ok (!decide (b ∈ ds)), H) := by
  refine bind_of (a := decide (b ∈ ds)) (H1 := H) (bind_of (rdM_is rd_int) (bind_of (rdM_is (rd_nats h)) (bind_of (a := ds.map fun (i : Nat) => PyData.int (i : Int)) (H1 := H) rfl ?_))) rfl
  show some (Except.ok _, H) = some (Except.ok _, H)
  congr 3
  rw [Bool.eq_iff_iff, List.any_eq_true, decide_eq_true_iff]
  constructor
  · rintro ⟨x, hx, e⟩
    obtain ⟨i, hi, rfl⟩ := List.mem_map.mp hx
    have e : ((b : Int) == (i : Int)) = true ∨ ((i : Int) == (b : Int)) = true := .inr e
    have : b = i := e.elim (fun e => Int.ofNat_inj.mp (beq_iff_eq.mp e)) fun e => (Int.ofNat_inj.mp (beq_iff_eq.mp e)).symm
    exact this ▸ hi
  · intro hb
    exact ⟨.int b, List.mem_map.mpr ⟨b, hb, rfl⟩, by show ((b : Int) == (b : Int)) = true; rw [beq_iff_eq]⟩
section
variable {H : AHeap} {L : Ly} {t : Tw} {P : Nat → Prop}
theorem s_boxes_bf (n : Nat) (T : TRd H L t P) {x : Option Nat} {pile : List Nat} (hc : Bf t.boxes x [] pile) (hl : pile.length ≤ 10000) :
    Rn (callP P08 (n + 1) "boxes_from" [.loc L.st, ixV x]) H fun a H' => a = .loc H.length ∧ H' = H ++ [.list (pile.map natV)] := by
  have hL := LIMis
  have h1 := T.st.2
  have h2 := T.lb.2
  have l1 : L.st < H.length := (List.getElem?_eq_some_iff.mp h1).1
  have l2 : L.lb < H.length := (List.getElem?_eq_some_iff.mp h2).1
  refine callRn (σ := [some (.loc L.st), some (ixV x), none]) (by kernel_rfl) (by kernel_rfl) (by kernel_rfl) ?_
  rw [c_boxes_from_0]
  refine .bof (newT (Nat.zero_le _)) ?_
  refine .then (whR pile.length (fun m σ H2 => ∃ y done rest, pile = done ++ rest ∧ σ = [some (.loc L.st), some (ixV y), some (.loc H.length)] ∧ H2 = H ++ [.list (done.map natV)] ∧ Bf t.boxes y done rest ∧ m = rest.length)
    (Q := fun r H2 => ∃ o1 o2, r = .next [o1, o2, some (.loc H.length)] ∧ H2 = H ++ [.list (pile.map natV)]) (by (first | lia | omega)) ⟨x, [], pile, rfl, rfl, rfl, hc, rfl⟩ ?_) ?_
  · rintro m σ H2 ⟨y, done, rest, rfl, rfl, rfl, hr, rfl⟩
    rw [c_boxes_from_while_1t]
    cases rest with
    | nil =>
      rw [List.append_nil]
      rcases hr with rfl | ⟨b, rfl, hb⟩
      · exact .pure (.inl ⟨rfl, _, _, rfl, rfl⟩)
      · rw [show ixV (some b) = .int b from rfl, e_isnoneI, pure_bind]
        refine Rn.bof (in_nats app_at) ?_
        rw [decide_eq_true hb]
        exact .pure (.inl ⟨rfl, _, _, rfl, rfl⟩)
    | cons b rest =>
      obtain ⟨rfl, hb, v, u, e1, e2⟩ := hr
      rw [show ixV (some b) = .int b from rfl, e_isnoneI, pure_bind]
      refine .bof (in_nats app_at) ?_
      rw [decide_eq_false hb]
      refine .pure (.inr ⟨rfl, ?_⟩)
      rw [c_boxes_from_while_1b]
      have hbx : (t.boxes.map bxV)[b]? = some (bxV (v, u)) := by rw [List.getElem?_map, e1]; rfl
      have hdl : (done.map natV).length < LIM := by rw [List.length_map]; rw [List.length_append] at hl; (first | lia | omega)
      rw [pure_bind]
      refine .bind ?_
      refine .bof (listOf_loc app_at) (.of (append_loc app_at hdl) ?_)
      rw [List.set_append_right _ _ (Nat.le_refl _), Nat.sub_self]
      show Rn _ (H ++ [.list (done.map natV ++ [.int b])]) _
      refine .bind (.bind (.bof (dItem (v := .loc L.lb) (by rw [app_lt l1]; exact h1) (by kernel_rfl)) (.of (item_loc (by rw [app_lt l2]; exact h2) hbx) ?_)))
      rw [show pItem (bxV (v, u)) (.int 1) = pure (ixV u) from e_it1]
      refine .pure (.pure ⟨rest.length, Nat.lt_succ_self _, u, done ++ [b], rest, by rw [List.append_assoc]; rfl, rfl, by rw [List.map_append]; rfl, e2, rfl⟩)
  · rintro r H2 ⟨o1, o2, rfl, rfl⟩
    rw [e_go_next, c_boxes_from_t_2]
    exact .pure ⟨rfl, rfl⟩
theorem s_values_bf (n : Nat) (T : TRd H L t P) {pile : List Nat} (hc : Bf t.boxes t.head [] pile) (hl : pile.length ≤ 10000) :
    Rn (callP P08 (n + 2) "values_on" [.loc L.st]) H fun a H' => a = .loc (H.length + 1) ∧ H' = H ++ [.list (pile.map natV), .list ((vl t.boxes pile).map .int)] := by
  have hL := LIMis
  have h1 := T.st.2
  have h2 := T.lb.2
  have l1 : L.st < H.length := (List.getElem?_eq_some_iff.mp h1).1
  have l2 : L.lb < H.length := (List.getElem?_eq_some_iff.mp h2).1
  refine callRn (σ := [some (.loc L.st)]) (by kernel_rfl) (by kernel_rfl) (by kernel_rfl) ?_
  rw [c_values_on_0]
  refine .bind (.bind (.bind ?_))
  refine .eachP (.eachE (dItem (v := ixV t.head) h1 (by kernel_rfl)) (.each0 ?_))
  refine .mono (s_boxes_bf n T hc hl) ?_
  rintro _ H2 ⟨rfl, rfl⟩
  refine .bof (srcOf_loc app_at) ?_
  refine .then (compA (pile.map natV) (fun i acc H3 => H3 = H ++ [.list (pile.map natV)] ∧ acc = (vl t.boxes (pile.take i)).map .int) (by rw [List.length_map]; (first | lia | omega)) (fun i acc H3 q => get_loc (by rw [q.1]; exact app_at)) ⟨rfl, rfl⟩ ?_) ?_
  · rintro i a acc H3 ha hacc ⟨rfl, rfl⟩
    rw [List.getElem?_map, Option.map_eq_some_iff] at ha
    obtain ⟨b, hb, rfl⟩ := ha
    have hlt := bf_lt hc b (List.mem_of_getElem? hb)
    have hbx : (t.boxes.map bxV)[b]? = some (bxV t.boxes[b]) := by rw [List.getElem?_map, List.getElem?_eq_getElem hlt]; rfl
    refine .bind (.bind (.bof (dItem (v := .loc L.lb) (by rw [app_lt l1]; exact h1) (by kernel_rfl)) (.of (item_loc (by rw [app_lt l2]; exact h2) hbx) ?_)))
    rw [show pItem (bxV t.boxes[b]) (.int 0) = pure (.int t.boxes[b].1) from e_it0]
    refine .pure (.pure ⟨_, rfl, rfl, ?_⟩)
    rw [List.take_add_one, hb]
    unfold vl
    rw [List.map_append, List.map_append]
    show _ = _ ++ [AV.int ((t.boxes[b]?).getD (0, none)).1]
    rw [List.getElem?_eq_getElem hlt]; rfl
  · rintro ys H3 ⟨⟨rfl, rfl⟩, hlen⟩
    rw [List.length_map, List.take_length] at *
    refine .of (newT (by unfold vl; rw [List.length_map, List.length_map]; (first | lia | omega))) (.pure ⟨?_, ?_⟩)
    · rw [List.length_append]; rfl
    · rw [List.append_assoc]; rfl
end
end Mine


set_option autoImplicit false
set_option linter.unusedVariables false
set_option maxRecDepth 100000
namespace Mine
open PySem PyProof.Rows

inductive Pw where
  | pile | spare | held
noncomputable def wdS : Pw → Str
  | .pile => "pile"
  | .spare => "spare"
  | .held => "held"
noncomputable def wsO (ws : List Pw) : AO := .list (ws.map fun w => .str (wdS w))
noncomputable def addW (w : Pw) (wds : List (List Pw)) (bs : List Nat) : List (List Pw) := bs.foldl (fun wds b => wds.modify b (· ++ [w])) wds
noncomputable def wordsOf (t : Tw) : List (List Pw) := t.hands.foldl (fun wds h => addW .held wds (heldOf t.boxes h)) (addW .spare (addW .pile (List.replicate t.boxes.length []) (pl t.boxes t.head)) t.spare)
theorem addW_len {w : Pw} : ∀ (bs : List Nat) (wds : List (List Pw)), (addW w wds bs).length = wds.length
  | [], _ => rfl
  | b :: r, wds => by
    show (addW w (wds.modify b (· ++ [w])) r).length = _
    rw [addW_len r, List.length_modify]
theorem addW_snoc {w : Pw} {wds : List (List Pw)} {bs : List Nat} {b : Nat} : addW w wds (bs ++ [b]) = (addW w wds bs).modify b (· ++ [w]) := by
  unfold addW; rw [List.foldl_append]; rfl
theorem modify_le {w : Pw} {c b : Nat} {wds : List (List Pw)} (h : ∀ ws ∈ wds, ws.length ≤ c) : ∀ ws ∈ wds.modify b (· ++ [w]), ws.length ≤ c + 1 := fun ws hm => by
  obtain ⟨i, hi⟩ := List.mem_iff_getElem?.mp hm
  rw [List.getElem?_modify] at hi
  cases hw : wds[i]? with
  | none => rw [hw] at hi; cases hi
  | some u =>
    rw [hw] at hi
    have hu := h u (List.mem_of_getElem? hw)
    have hi : (if b = i then u ++ [w] else u) = ws := Option.some.inj hi
    rw [← hi]
    split
    · rw [List.length_append]; exact Nat.succ_le_succ hu
    · exact Nat.le_succ_of_le hu
theorem addW_le {w : Pw} : ∀ (bs : List Nat) {c : Nat} {wds : List (List Pw)}, (∀ ws ∈ wds, ws.length ≤ c) → ∀ ws ∈ addW w wds bs, ws.length ≤ c + bs.length
  | [], c, wds, h => h
  | b :: r, c, wds, h => fun ws hm => by
    have := addW_le r (modify_le (b := b) (w := w) h) ws hm
    show ws.length ≤ c + (r.length + 1)
    (first | lia | omega)
noncomputable def plc (H : AHeap) (wds : List (List Pw)) (Y : AHeap) : AHeap := H ++ (wds.map wsO ++ Y)
noncomputable def plL (H : AHeap) (nb : Nat) : AO := .list ((List.range nb).map fun j => .loc (H.length + j))
section
variable {H Y : AHeap} {wds : List (List Pw)} {b nb : Nat} {w : Pw}
theorem plc_old {x : Nat} (h : x < H.length) : (plc H wds Y)[x]? = H[x]? := List.getElem?_append_left h
theorem plc_wd (h : b < wds.length) : (plc H wds Y)[H.length + b]? = some (wsO wds[b]) := by
  unfold plc
  rw [tail_at, List.getElem?_append_left (by rw [List.length_map]; exact h), List.getElem?_map, List.getElem?_eq_getElem h]; rfl
theorem plc_y {k : Nat} (h : wds.length = nb) : (plc H wds Y)[H.length + (nb + k)]? = Y[k]? := by
  unfold plc
  have e : (wds.map wsO).length = nb := by rw [List.length_map, h]
  rw [tail_at, ← e, tail_at]
theorem plc_len : (plc H wds Y).length = H.length + (wds.length + Y.length) := by unfold plc; rw [List.length_append, List.length_append, List.length_map]
theorem plc_app {X : AHeap} : plc H wds Y ++ X = plc H wds (Y ++ X) := by unfold plc; rw [List.append_assoc, List.append_assoc]
theorem plc_set (h : b < wds.length) : (plc H wds Y).set (H.length + b) (wsO (wds[b] ++ [w])) = plc H (wds.modify b (· ++ [w])) Y := by
  unfold plc
  rw [List.set_append_right _ _ (Nat.le_add_right _ _), Nat.add_sub_cancel_left, List.set_append_left _ _ (by rw [List.length_map]; exact h)]
  congr 2
  refine List.ext_getElem? fun i => ?_
  rw [List.getElem?_map, List.getElem?_modify, List.getElem?_set, List.getElem?_map, List.length_map]
  by_cases e : b = i
  · subst e
    rw [if_pos rfl, if_pos h, List.getElem?_eq_getElem h]
    show _ = some (wsO (if b = b then _ else _))
    rw [if_pos rfl]
  · rw [if_neg e]
    cases wds[i]? with
    | none => rfl
    | some u =>
      show _ = some (wsO (if b = i then _ else _))
      rw [if_neg e]; rfl
theorem put_word {X : AHeap} (h : b < wds.length) (hn : wds.length = nb) (hl : ∀ ws ∈ wds, ws.length ≤ 500000) :
    Rn (do let o1 ← pItem (.loc (H.length + nb)) (.int b); let _ ← listOf o1; pMeth "append" o1 [.str (wdS w)] : M AV) (plc H wds (plL H nb :: X)) fun u_ H' => H' = plc H (wds.modify b (· ++ [w])) (plL H nb :: X) := by
  have hL := LIMis
  have e1 : (plc H wds (plL H nb :: X))[H.length + nb]? = some (plL H nb) := plc_y (k := 0) hn
  refine .bof (item_loc (a := .loc (H.length + b)) e1 (by rw [List.getElem?_map, List.getElem?_range (hn ▸ h)]; rfl)) ?_
  have e2 : (plc H wds (plL H nb :: X))[H.length + b]? = some (.list (wds[b].map fun w => .str (wdS w))) := plc_wd h
  refine .bof (listOf_loc e2) (.of (append_loc e2 (by rw [List.length_map]; have := hl _ (List.getElem_mem h); (first | lia | omega))) ?_)
  have := plc_set (H := H) (Y := plL H nb :: X) (w := w) h
  unfold wsO at this
  rw [List.map_append] at this
  exact this
theorem wordsL {X : AHeap} {src : Src} {body : AV → Loc → M Res} {bs : List Nat} {s o2 o4 : Option AV} {c : Nat} (hn : wds.length = nb) (hb : ∀ b ∈ bs, b < nb) (hc : ∀ ws ∈ wds, ws.length ≤ c) (hl : c + bs.length ≤ 90000)
    (hsrc : ∀ (i : Nat) wds', wds'.length = nb → src.get i (plc H wds' (plL H nb :: X)) = some (.ok (bs.map natV)[i]?, plc H wds' (plL H nb :: X)))
    (hbody : ∀ a o2, body a [s, o2, some (.loc (H.length + nb)), o4] = (do let _ ← (do let o1 ← (pItem (.loc (H.length + nb)) a); let _ ← listOf o1; (pMeth "append" o1 [.str (wdS w)])); pure (.next [s, some a, some (.loc (H.length + nb)), o4]))) :
    Rn (forLoop src body FUEL 0 [s, o2, some (.loc (H.length + nb)), o4]) (plc H wds (plL H nb :: X)) fun r H' => (∃ o2, r = .next [s, o2, some (.loc (H.length + nb)), o4]) ∧ H' = plc H (addW w wds bs) (plL H nb :: X) := by
  refine (forS (xs := bs.map natV) (fun i σ H' => (∃ o2, σ = [s, o2, some (.loc (H.length + nb)), o4]) ∧ H' = plc H (addW w wds (bs.take i)) (plL H nb :: X)) (Q := fun r H' => (∃ o2, r = .next [s, o2, some (.loc (H.length + nb)), o4]) ∧ H' = plc H (addW w wds bs) (plL H nb :: X)) (by rw [List.length_map]; (first | lia | omega)) ⟨⟨_, rfl⟩, rfl⟩ (fun i σ H' q => by rw [q.2]; exact hsrc i _ (by rw [addW_len]; exact hn)) ?_ ?_).mono fun r H' q => q
  · rintro i a σ H' ha ⟨⟨o2, rfl⟩, rfl⟩
    rw [List.getElem?_map, Option.map_eq_some_iff] at ha
    obtain ⟨b, hbi, rfl⟩ := ha
    have hbl := hb b (List.mem_of_getElem? hbi)
    rw [hbody]
    refine .then (put_word (b := b) (by rw [addW_len, hn]; exact hbl) (by rw [addW_len]; exact hn) fun ws hm => ?_) ?_
    · have := addW_le _ hc ws hm
      rw [List.length_take] at this
      (first | lia | omega)
    · rintro _ H2 rfl
      refine .pure ⟨⟨_, rfl⟩, ?_⟩
      rw [List.take_add_one, hbi]
      show _ = plc H (addW w wds (bs.take i ++ [b])) _
      rw [addW_snoc]
  · rintro σ H' ⟨⟨o2, rfl⟩, rfl⟩
    exact ⟨⟨_, rfl⟩, by rw [List.length_map, List.take_length]⟩
end
theorem nx_walk {x : Nx} (h : x ≠ .walk) : pCmp .Eq (.str (nxS x)) (.str "walk") = pure false := by
  cases x with
  | walk => exact absurd rfl h
  | _ => kernel_rfl
theorem s_held (n : Nat) {H : AHeap} {L : Ly} {t : Tw} {P : Nat → Prop} {d : Nat} {h : Hd} (T : TRd H L t P) (A : HdR H P d h) (hb : BsOk t.boxes.length t.boxes) (hl : t.boxes.length ≤ 5000) (hw : ∀ w, h.work = some w → w.next = .walk → IxOk t.boxes.length w.walk) :
    Rn (do let vs3 ← eachM [pure (.loc L.st), (pItem (.loc d) (.str "work"))]; callP P08 (n + 2) "held_by" vs3 : M AV) H fun a H' => (a = .lst ((heldOf t.boxes h).map natV) ∨ ∃ l, a = .loc l ∧ H.length ≤ l ∧ H'[l]? = some (.list ((heldOf t.boxes h).map natV))) ∧ ∃ X, H' = H ++ X := by
  have hL := LIMis
  obtain ⟨wv, ⟨_, h1⟩, hwk⟩ := A
  cases hk : h.work with
  | none =>
    rw [hk] at hwk
    have hwk : wv = .none := hwk
    subst hwk
    refine .bind (.eachP (.eachE (dItem (v := .none) h1 (by kernel_rfl)) (.each0 ?_)))
    refine .eq (callQ (σ := [some (.loc L.st), some .none]) (by kernel_rfl) (by kernel_rfl) (by kernel_rfl) (a := .lst []) ?_) ⟨.inl (by unfold heldOf; rw [hk]; rfl), [], (List.append_nil _).symm⟩
    rw [c_held_by_0, show pCmp .Is .none .none = pure true from by kernel_rfl, pure_bind, e_newL (Nat.zero_le _)]
    rfl
  | some w =>
    rw [hk] at hwk
    obtain ⟨lw, lk, rfl, ⟨_, h3⟩, _⟩ := hwk
    refine .bind (.eachP (.eachE (dItem (v := .loc lw) h1 (by kernel_rfl)) (.each0 ?_)))
    refine callRn (σ := [some (.loc L.st), some (.loc lw)]) (by kernel_rfl) (by kernel_rfl) (by kernel_rfl) ?_
    rw [c_held_by_0, show pCmp .Is (.loc lw) .none = pure false from rfl, pure_bind]
    simp only [pure_bind, e_go_next]
    rw [c_held_by_t_1]
    refine .bind (.bof (dItem (v := .str (nxS w.next)) h3 (by kernel_rfl)) ?_)
    by_cases hx : w.next = .walk
    · rw [hx]
      refine .eq (show pCmp .Eq (.str (nxS .walk)) (.str "walk") = pure true from by kernel_rfl) ?_
      obtain ⟨p1, p2⟩ := pl_is hb (hw w hk hx)
      refine .bind (.bind (.bind (.eachP (.eachE (dItem (v := ixV w.walk) h3 (by kernel_rfl)) (.each0 ((s_boxes_bf n T p1 (by (first | lia | omega))).mono ?_))))))
      rintro _ H2 ⟨rfl, rfl⟩
      refine .pure (.pure ⟨.inr ⟨_, rfl, Nat.le_refl _, ?_⟩, _, rfl⟩)
      unfold heldOf
      simp only [hk, hx]
      exact app_at
    · have hho : heldOf t.boxes h = match w.own with | none => [] | some f => [f] := by
        unfold heldOf
        simp only [hk]
        try (cases hq : w.next <;> first | rfl | exact absurd hq hx)
      refine .eq (nx_walk hx) ?_
      simp only [pure_bind, e_go_next]
      rw [c_held_by_t_2, hho]
      refine .bind (.bof (dItem (v := ixV w.own) h3 (by kernel_rfl)) ?_)
      cases ho : w.own with
      | none =>
        refine .eq (show pCmp .IsNot .none .none = pure false from by kernel_rfl) ?_
        simp only [pure_bind, e_go_next, c_held_by_t_3, e_newL (xs := []) (Nat.zero_le _)]
        exact .pure ⟨.inl rfl, [], (List.append_nil _).symm⟩
      | some f =>
        refine .eq (show pCmp .IsNot (.int (f : Int)) .none = pure true from rfl) ?_
        refine .bind (.bind (.bind (.eachE (dItem (v := ixV w.own) h3 (by kernel_rfl)) (.each0 ?_))))
        rw [ho]
        refine .eq (e_newL (by show 1 ≤ LIM; (first | lia | omega))) (.pure (.pure ⟨.inl rfl, [], (List.append_nil _).symm⟩))
end Mine


set_option autoImplicit false
set_option linter.unusedVariables false
set_option maxRecDepth 100000
namespace Mine
open PySem PyProof.Rows

structure Tl (t : Tw) : Prop where
  bs : BsOk t.boxes.length t.boxes
  hd : IxOk t.boxes.length t.head
  sp : ∀ b ∈ t.spare, b < t.boxes.length
  lb : t.boxes.length ≤ 500
  ls : t.spare.length ≤ 500
  lr : t.rows.length ≤ 500
  lh : t.hands.length ≤ 20
  own : ∀ h ∈ t.hands, ∀ w, h.work = some w → IxOk t.boxes.length w.own
  wk : ∀ h ∈ t.hands, ∀ w, h.work = some w → w.next = .walk → IxOk t.boxes.length w.walk
theorem Tl.held {t : Tw} (Z : Tl t) {h : Hd} (hm : h ∈ t.hands) : (∀ b ∈ heldOf t.boxes h, b < t.boxes.length) ∧ (heldOf t.boxes h).length ≤ 500 := by
  have hb := Z.lb
  unfold heldOf
  cases hk : h.work with
  | none => exact ⟨fun b h => (nomatch h), Nat.zero_le _⟩
  | some w =>
    have rest : (∀ b ∈ (match w.own with | none => [] | some f => [f] : List Nat), b < t.boxes.length) ∧ (match w.own with | none => [] | some f => [f] : List Nat).length ≤ 500 := by
      have ho := Z.own h hm w hk
      cases hq : w.own with
      | none => exact ⟨fun b h => (nomatch h), Nat.zero_le _⟩
      | some f => exact ⟨fun b hb => by rw [List.mem_singleton.mp hb]; exact ho f hq, Nat.succ_le_succ (Nat.zero_le _)⟩
    dsimp only
    cases hx : w.next with
    | walk =>
      obtain ⟨p1, p2⟩ := pl_is Z.bs (Z.wk h hm w hk hx)
      exact ⟨bf_lt p1, Nat.le_trans p2 hb⟩
    | _ => exact rest
theorem s_places (n : Nat) {H : AHeap} {L : Ly} {t : Tw} {P : Nat → Prop} (T : TRd H L t P) (hP : ∀ x, P x → x < H.length) (Z : Tl t) :
    Rn (callP P08 (n + 3) "places_of" [.loc L.st]) H fun a H' => a = .loc (H.length + t.boxes.length) ∧ ∃ X, H' = plc H (wordsOf t) (plL H t.boxes.length :: X) := by
  have hL := LIMis
  have Zb := Z.lb; have Zs := Z.ls; have Zh := Z.lh
  have Tk : ∀ {wds : List (List Pw)} {Y : AHeap}, TRd (plc H wds Y) L t P := fun {wds Y} => T.keep (fun x hx => plc_old (hP x hx)) fun u_ h => h
  refine callRn (σ := [some (.loc L.st), none, none, none]) (by kernel_rfl) (by kernel_rfl) (by kernel_rfl) ?_
  rw [c_places_of_0]
  refine .bind (.bof (dItem (v := .loc L.lb) T.st.2 (by kernel_rfl)) (.bof (srcOf_loc T.lb.2) ?_))
  refine .then (compA (t.boxes.map bxV) (fun i acc H1 => H1 = plc H (List.replicate i []) [] ∧ acc = (List.range i).map fun j => .loc (H.length + j)) (by rw [List.length_map]; (first | lia | omega)) (fun i acc H1 q => get_loc (by rw [q.1]; exact Tk.lb.2)) ⟨(List.append_nil _).symm, rfl⟩ ?_) ?_
  · rintro i a acc H1 ha hacc ⟨rfl, rfl⟩
    refine .bof (newT (Nat.zero_le _)) (.pure ⟨_, rfl, ?_, ?_⟩)
    · rw [plc_app, List.replicate_succ']
      unfold plc
      rw [List.map_append, List.append_assoc]; rfl
    · rw [List.range_succ, List.map_append, plc_len, List.length_replicate]; rfl
  rintro acc H1 ⟨⟨rfl, rfl⟩, _⟩
  rw [List.length_map]
  refine .of (newT (by rw [List.length_map, List.length_range]; (first | lia | omega))) ?_
  rw [plc_app, plc_len, List.length_replicate]
  show Rn _ (plc H (List.replicate t.boxes.length []) [plL H t.boxes.length]) _
  show Rn (do let it7 ← _; _) _ _
  obtain ⟨p1, p2⟩ := pl_is Z.bs Z.hd
  refine .bind (.bind (.eachP (.eachE (dItem (v := ixV t.head) Tk.st.2 (by kernel_rfl)) (.each0 ((s_boxes_bf (n + 1) Tk p1 (by (first | lia | omega))).mono ?_)))))
  rintro _ H2 ⟨rfl, rfl⟩
  rw [plc_app, plc_len, List.length_replicate]
  have hsl : ∀ {wds : List (List Pw)} {X : AHeap}, wds.length = t.boxes.length → (plc H wds ([plL H t.boxes.length] ++ .list ((pl t.boxes t.head).map natV) :: X))[H.length + (t.boxes.length + 1)]? = some (.list ((pl t.boxes t.head).map natV)) := fun h => plc_y (k := 1) h
  refine .bof (srcOf_loc (hsl (List.length_replicate ..))) ?_
  show Rn (do let r ← forLoop (.at (H.length + (t.boxes.length + 1))) _ FUEL 0 [some (.loc L.st), none, some (.loc (H.length + t.boxes.length)), none]; _) (plc H (List.replicate t.boxes.length []) (plL H t.boxes.length :: [.list ((pl t.boxes t.head).map natV)])) _
  refine .then (wordsL (w := .pile) (bs := pl t.boxes t.head) (c := 0) (List.length_replicate ..) (bf_lt p1) (fun ws hm => by rw [(List.mem_replicate.mp hm).2]; exact Nat.le_refl _) (by (first | lia | omega)) (fun i wds' h => get_loc (hsl h)) fun a o2 => by rw [c_places_of_for_1]; rfl) ?_
  rintro r H3 ⟨⟨o2, rfl⟩, rfl⟩
  have n1 : (addW .pile (List.replicate t.boxes.length []) (pl t.boxes t.head)).length = t.boxes.length := by rw [addW_len, List.length_replicate]
  have c1 := addW_le (w := .pile) (pl t.boxes t.head) (c := 0) (wds := List.replicate t.boxes.length []) fun ws hm => by rw [(List.mem_replicate.mp hm).2]; exact Nat.le_refl _
  generalize hg1 : addW .pile (List.replicate t.boxes.length []) (pl t.boxes t.head) = w1 at n1 c1 ⊢
  rw [e_go_next, c_places_of_t_2]
  refine .bof (dItem (v := .loc L.lsp) Tk.st.2 (by kernel_rfl)) (.bof (srcOf_loc Tk.lsp.2) ?_)
  refine .then (wordsL (w := .spare) (bs := t.spare) n1 Z.sp c1 (by (first | lia | omega)) (fun i wds' h => get_loc Tk.lsp.2) fun a o2 => by rw [c_places_of_for_2]; rfl) ?_
  rintro r H3 ⟨⟨o2', rfl⟩, rfl⟩
  have n2 : (addW .spare w1 t.spare).length = t.boxes.length := by rw [addW_len, n1]
  have c2 := addW_le (w := .spare) t.spare c1
  rw [e_go_next, c_places_of_t_3]
  refine .bof (dItem (v := .loc L.lh) Tk.st.2 (by kernel_rfl)) (.bof (srcOf_loc Tk.lh.2) ?_)
  have hwo : wordsOf t = t.hands.foldl (fun wds h => addW .held wds (heldOf t.boxes h)) (addW .spare w1 t.spare) := by unfold wordsOf; rw [hg1]
  rw [hwo]
  generalize addW .spare w1 t.spare = w2 at n2 c2 ⊢
  refine .then (forA (xs := L.hs) (fun i σ H' => (∃ o1 o3, σ = [some (.loc L.st), o1, some (.loc (H.length + t.boxes.length)), o3]) ∧ ∃ X wds, H' = plc H wds (plL H t.boxes.length :: X) ∧ wds = (t.hands.take i).foldl (fun wds h => addW .held wds (heldOf t.boxes h)) w2 ∧ wds.length = t.boxes.length ∧ ∀ ws ∈ wds, ws.length ≤ 1000 + 500 * i)
    (Q := fun r H' => (∃ o1 o3, r = .next [some (.loc L.st), o1, some (.loc (H.length + t.boxes.length)), o3]) ∧ ∃ X, H' = plc H (t.hands.foldl (fun wds h => addW .held wds (heldOf t.boxes h)) w2) (plL H t.boxes.length :: X)) (by rw [T.len]; (first | lia | omega)) ⟨⟨_, _, rfl⟩, _, w2, rfl, rfl, n2, fun ws hm => by have := c2 ws hm; (first | lia | omega)⟩ (fun i σ H' q => by obtain ⟨_, X, wds, rfl, _⟩ := q; exact Tk.lh.2) ?_ ?_) ?_
  · rintro i a σ H' ha ⟨⟨o1, o3, rfl⟩, X, wds, rfl, hwd, nw, cw⟩
    have hil : i < t.hands.length := T.len ▸ (List.getElem?_eq_some_iff.mp ha).1
    have hh := List.getElem?_eq_getElem hil
    have hm := List.getElem_mem hil
    generalize t.hands[i] = h at hh hm
    obtain ⟨d, e1, A⟩ := (Tk (wds := wds) (Y := plL H t.boxes.length :: X)).hd i h hh
    rw [ha] at e1; cases e1
    obtain ⟨q1, q2⟩ := Z.held hm
    rw [c_places_of_for_3]
    refine .then (s_held n Tk A Z.bs (by (first | lia | omega)) (Z.wk h hm)) ?_
    rintro it H' ⟨S, X2, rfl⟩
    rw [plc_app] at S ⊢
    obtain ⟨src, hs1, hs2⟩ := Sv.src (H := plc H wds (plL H t.boxes.length :: X ++ X2)) (v := it) (xs := (heldOf t.boxes h).map natV) (S.imp id fun ⟨l, e, _, hl⟩ => ⟨l, e, hl⟩)
    refine .bof hs1 ?_
    have hS : ∀ wds', wds'.length = t.boxes.length → Sv (plc H wds' (plL H t.boxes.length :: X ++ X2)) it ((heldOf t.boxes h).map natV) := fun wds' hn => by
      rcases S with e | ⟨l, e, hge, hl⟩
      · exact .inl e
      · refine .inr ⟨l, e, ?_⟩
        rw [plc_len] at hge
        obtain ⟨z, rfl⟩ := Nat.exists_eq_add_of_le (show H.length + t.boxes.length ≤ l by (first | lia | omega))
        rw [Nat.add_assoc, plc_y nw] at hl
        rw [Nat.add_assoc, plc_y hn]; exact hl
    refine .then (wordsL (w := .held) (bs := heldOf t.boxes h) (X := X ++ X2) nw q1 cw (by (first | lia | omega)) (fun j wds' hn => hs2 j _ (hS wds' hn)) fun a o2 => by rw [c_places_of_for30_0]; rfl) ?_
    rintro r H' ⟨⟨o2, rfl⟩, rfl⟩
    rw [e_go_next]
    refine .pure ⟨⟨_, _, rfl⟩, _, _, rfl, ?_, by rw [addW_len]; exact nw, fun ws hm => ?_⟩
    · rw [List.take_add_one, hh, hwd]
      show _ = ((t.hands.take i) ++ [h]).foldl _ w2
      rw [List.foldl_append]; rfl
    · have := addW_le _ cw ws hm
      (first | lia | omega)
  · rintro σ H' ⟨⟨o1, o3, rfl⟩, X, wds, rfl, hwd, _⟩
    refine ⟨⟨_, _, rfl⟩, X, ?_⟩
    rw [hwd, T.len, List.take_length]
  · rintro r H' ⟨⟨o1, o3, rfl⟩, X, rfl⟩
    rw [e_go_next, c_places_of_t_4]
    exact .pure ⟨rfl, X, rfl⟩
end Mine


set_option autoImplicit false
set_option linter.unusedVariables false
set_option maxRecDepth 100000
namespace Mine
open PySem PyProof.Rows

theorem bf_of {bs : List (Int × Option Nat)} {c : List Nat} : ∀ {x : Option Nat} {fd : List Nat}, Ch bs x c → (fd ++ c).Nodup → Bf bs x fd c := by
  induction c with
  | nil => intro x fd h _; exact .inl h
  | cons b r ih =>
    intro x fd h nd
    obtain ⟨e, v, u, h1, h2⟩ := h
    refine ⟨e, fun q => (List.nodup_append.mp nd).2.2 b q b List.mem_cons_self rfl, v, u, h1, ih h2 ?_⟩
    rw [List.append_assoc]; exact nd
theorem bf_eq {bs : List (Int × Option Nat)} {r : List Nat} : ∀ {x : Option Nat} {fd r' : List Nat}, Bf bs x fd r → Bf bs x fd r' → r = r' := by
  induction r with
  | nil =>
    intro x fd r' h h'
    cases r' with
    | nil => rfl
    | cons b q =>
      obtain ⟨e, nf, _⟩ := h'
      rcases h with z | ⟨c, z1, z2⟩
      · rw [z] at e; cases e
      · rw [z1] at e; cases e; exact absurd z2 nf
  | cons b r ih =>
    intro x fd r' h h'
    obtain ⟨e, nf, v, u, h1, h2⟩ := h
    cases r' with
    | nil =>
      rcases h' with z | ⟨c, z1, z2⟩
      · rw [z] at e; cases e
      · rw [z1] at e; cases e; exact absurd z2 nf
    | cons b' q =>
      obtain ⟨e', _, v', u', h1', h2'⟩ := h'
      rw [e] at e'
      cases e'
      rw [h1] at h1'
      cases h1'
      rw [ih h2 h2']
theorem pl_eq {bs : List (Int × Option Nat)} {x : Option Nat} {c : List Nat} (hb : BsOk bs.length bs) (hx : IxOk bs.length x) (h : Ch bs x c) (nd : c.Nodup) : pl bs x = c := bf_eq (pl_is hb hx).1 (bf_of (fd := []) h nd)
theorem addW_at {w : Pw} {b : Nat} {bs : List Nat} : ∀ {wds : List (List Pw)}, bs.Nodup → (addW w wds bs)[b]? = (wds[b]?).map fun ws => if b ∈ bs then ws ++ [w] else ws := by
  induction bs with
  | nil => intro wds _; show wds[b]? = _; cases wds[b]? <;> rfl
  | cons c r ih =>
    intro wds nd
    obtain ⟨n1, n2⟩ := List.nodup_cons.mp nd
    show (addW w (wds.modify c (· ++ [w])) r)[b]? = _
    rw [ih n2, List.getElem?_modify]
    cases wds[b]? with
    | none => rfl
    | some ws =>
      show some (if b ∈ r then (if c = b then ws ++ [w] else ws) ++ [w] else (if c = b then ws ++ [w] else ws)) = some (if b ∈ c :: r then ws ++ [w] else ws)
      by_cases e : c = b
      · subst e
        rw [if_neg n1, if_pos rfl, if_pos List.mem_cons_self]
      · rw [if_neg e]
        by_cases q : b ∈ r
        · rw [if_pos q, if_pos (List.mem_cons_of_mem _ q)]
        · rw [if_neg q, if_neg fun z => (List.mem_cons.mp z).elim (fun y => e y.symm) q]
noncomputable def heldW (bs : List (Int × Option Nat)) (hs : List Hd) (wds : List (List Pw)) : List (List Pw) := hs.foldl (fun wds h => addW .held wds (heldOf bs h)) wds
theorem heldW_none {bs : List (Int × Option Nat)} {b : Nat} {hs : List Hd} : ∀ {wds : List (List Pw)}, (∀ h ∈ hs, (heldOf bs h).Nodup ∧ b ∉ heldOf bs h) → (heldW bs hs wds)[b]? = wds[b]? := by
  induction hs with
  | nil => intro wds _; rfl
  | cons h r ih =>
    intro wds hh
    show (heldW bs r (addW .held wds (heldOf bs h)))[b]? = _
    obtain ⟨q1, q2⟩ := hh h List.mem_cons_self
    rw [ih fun g hg => hh g (List.mem_cons_of_mem _ hg), addW_at q1]
    cases wds[b]? with
    | none => rfl
    | some ws => show some (if b ∈ heldOf bs h then _ else _) = _; rw [if_neg q2]
theorem heldW_one {bs : List (Int × Option Nat)} {b : Nat} {hs : List Hd} : ∀ {i : Nat} {wds : List (List Pw)}, (∀ h ∈ hs, (heldOf bs h).Nodup) → i < hs.length → (∀ (j : Nat) h, hs[j]? = some h → (b ∈ heldOf bs h ↔ j = i)) → (heldW bs hs wds)[b]? = (wds[b]?).map (· ++ [.held]) := by
  induction hs with
  | nil => intro i wds _ hi; exact absurd hi (Nat.not_lt_zero _)
  | cons h r ih =>
    intro i wds nd hi hj
    have n1 := nd h List.mem_cons_self
    have n2 : ∀ g ∈ r, (heldOf bs g).Nodup := fun g hg => nd g (List.mem_cons_of_mem _ hg)
    have h0 := hj 0 h rfl
    show (heldW bs r (addW .held wds (heldOf bs h)))[b]? = _
    cases i with
    | zero =>
      rw [heldW_none fun g hg => ⟨n2 g hg, fun q => ?_⟩, addW_at n1]
      · cases wds[b]? with
        | none => rfl
        | some ws => show some (if b ∈ heldOf bs h then _ else _) = _; rw [if_pos (h0.mpr rfl)]; rfl
      · obtain ⟨j, hg⟩ := List.mem_iff_getElem?.mp hg
        have := (hj (j + 1) g hg).mp q
        cases this
    | succ i =>
      rw [ih n2 (Nat.lt_of_succ_lt_succ hi) fun j g hg => by rw [hj (j + 1) g hg]; exact ⟨Nat.succ.inj, fun e => by rw [e]⟩, addW_at n1]
      cases wds[b]? with
      | none => rfl
      | some ws => show some ((if b ∈ heldOf bs h then _ else _) ++ _) = _; rw [if_neg fun q => nomatch (h0.mp q)]; rfl
noncomputable def pw (v : Nat) : Pw := if v = 0 then .pile else if v = 1 then .spare else .held
section
variable {t : Tw} {ow : Ow} {pile : List Nat}
theorem held_mem (I : Inv t ow pile) (Z : Tl t) {i : Nat} {h : Hd} (hh : t.hands[i]? = some h) : (heldOf t.boxes h).Nodup ∧ ∀ b, b ∈ heldOf t.boxes h ↔ b < t.boxes.length ∧ (ow b = 2 * i + 2 ∨ ow b = 2 * i + 3) := by
  have hm := List.mem_of_getElem? hh
  have X := I.hi i
  have e0 : workAt t i = h.work := by unfold workAt; rw [hh]; rfl
  rw [e0] at X
  obtain ⟨c, c1, c2, c3⟩ := X.ch
  unfold heldOf
  cases hk : h.work with
  | none =>
    rw [hk] at X c3
    have c3 : c = [] := c3
    subst c3
    refine ⟨.nil, fun b => ⟨fun q => (nomatch q), fun q => ?_⟩⟩
    rcases q.2 with z | z
    · cases (X.own b).mpr ⟨q.1, z⟩
    · exact (c2 b).mpr ⟨q.1, z⟩
  | some w =>
    rw [hk] at X c3
    by_cases hw : w.next = .walk
    · obtain ⟨ch, ho⟩ := c3.1 hw
      have e : pl t.boxes w.walk = c := pl_eq Z.bs (Z.wk h hm w hk hw) ch c1
      simp only [hw, e]
      refine ⟨c1, fun b => ⟨fun q => ⟨((c2 b).mp q).1, .inr ((c2 b).mp q).2⟩, fun q => ?_⟩⟩
      rcases q.2 with z | z
      · have := (X.own b).mpr ⟨q.1, z⟩
        have : w.own = some b := this
        rw [ho] at this; cases this
      · exact (c2 b).mpr ⟨q.1, z⟩
    · have c0 := c3.2 hw
      subst c0
      have en : (match w.next with | .walk => pl t.boxes w.walk | _ => match w.own with | none => [] | some f => [f]) = match w.own with | none => [] | some f => [f] := by
        cases hq : w.next with
        | walk => exact absurd hq hw
        | _ => rfl
      have fin : ∀ L : List Nat, L = (match w.own with | none => [] | some f => [f]) → L.Nodup ∧ ∀ b, b ∈ L ↔ b < t.boxes.length ∧ (ow b = 2 * i + 2 ∨ ow b = 2 * i + 3) := fun L eL => by
        have n3 : ∀ b, b < t.boxes.length → ow b ≠ 2 * i + 3 := fun b q1 q2 => nomatch (c2 b).mpr ⟨q1, q2⟩
        cases ho : w.own with
        | none =>
          rw [ho] at eL
          subst eL
          refine ⟨.nil, fun b => ⟨fun q => (nomatch q), fun q => ?_⟩⟩
          rcases q.2 with z | z
          · have : w.own = some b := (X.own b).mpr ⟨q.1, z⟩
            rw [ho] at this; cases this
          · exact absurd z (n3 b q.1)
        | some f =>
          rw [ho] at eL
          subst eL
          refine ⟨List.nodup_cons.mpr ⟨List.not_mem_nil, .nil⟩, fun b => ?_⟩
          rw [List.mem_singleton]
          constructor
          · intro e
            have := (X.own b).mp (show w.own = some b by rw [ho, e])
            exact ⟨this.1, .inl this.2⟩
          · intro q
            rcases q.2 with z | z
            · have : w.own = some b := (X.own b).mpr ⟨q.1, z⟩
              rw [ho] at this; exact (Option.some.inj this).symm
            · exact absurd z (n3 b q.1)
      exact fin _ en
theorem words_at (I : Inv t ow pile) (Z : Tl t) {b : Nat} (hb : b < t.boxes.length) : (wordsOf t)[b]? = some [pw (ow b)] := by
  have ep : pl t.boxes t.head = pile := pl_eq Z.bs Z.hd I.ch I.nd
  have nd : ∀ h ∈ t.hands, (heldOf t.boxes h).Nodup := fun h hm => by
    obtain ⟨i, hi⟩ := List.mem_iff_getElem?.mp hm
    exact (held_mem I Z hi).1
  show (heldW t.boxes t.hands (addW .spare (addW .pile (List.replicate t.boxes.length []) (pl t.boxes t.head)) t.spare))[b]? = _
  have base : (addW .spare (addW .pile (List.replicate t.boxes.length []) (pl t.boxes t.head)) t.spare)[b]? = some (if b ∈ t.spare then (if b ∈ pile then [.pile] else []) ++ [.spare] else if b ∈ pile then [.pile] else []) := by
    rw [addW_at I.sn, ep, addW_at I.nd, List.getElem?_replicate, if_pos hb]
    rfl
  have hp : b ∈ pile ↔ ow b = 0 := (I.po b).trans ⟨fun q => q.2, fun q => ⟨hb, q⟩⟩
  have hs : b ∈ t.spare ↔ ow b = 1 := (I.so b).trans ⟨fun q => q.2, fun q => ⟨hb, q⟩⟩
  unfold pw
  by_cases h0 : ow b = 0
  · rw [heldW_none fun h hm => ⟨nd h hm, fun q => ?_⟩, base, if_neg (fun z => by have := hs.mp z; (first | lia | omega)), if_pos (hp.mpr h0), if_pos h0]
    obtain ⟨i, hi⟩ := List.mem_iff_getElem?.mp hm
    have := ((held_mem I Z hi).2 b).mp q
    (first | lia | omega)
  · by_cases h1 : ow b = 1
    · rw [heldW_none fun h hm => ⟨nd h hm, fun q => ?_⟩, base, if_pos (hs.mpr h1), if_neg (fun z => h0 (hp.mp z)), if_neg h0, if_pos h1]
      · rfl
      · obtain ⟨i, hi⟩ := List.mem_iff_getElem?.mp hm
        have := ((held_mem I Z hi).2 b).mp q
        (first | lia | omega)
    · have hw : ow b = 2 * ((ow b - 2) / 2) + 2 ∨ ow b = 2 * ((ow b - 2) / 2) + 3 := by (first | lia | omega)
      have hl : (ow b - 2) / 2 < t.hands.length := by
        rcases Nat.lt_or_ge ((ow b - 2) / 2) t.hands.length with z | z
        · exact z
        · have X := I.hi ((ow b - 2) / 2)
          have e0 : workAt t ((ow b - 2) / 2) = none := by unfold workAt; rw [List.getElem?_eq_none z]; rfl
          rw [e0] at X
          rcases hw with y | y
          · cases (X.own b).mpr ⟨hb, y⟩
          · obtain ⟨c, _, c2, c3⟩ := X.ch
            have c3 : c = [] := c3
            subst c3
            cases (c2 b).mpr ⟨hb, y⟩
      rw [heldW_one (i := (ow b - 2) / 2) nd hl fun j h hj => ?_, base, if_neg (fun z => h1 (hs.mp z)), if_neg (fun z => h0 (hp.mp z)), if_neg h0, if_neg h1]
      · rfl
      · rw [(held_mem I Z hj).2 b]
        constructor
        · intro q; (first | lia | omega)
        · intro e; rw [e]; exact ⟨hb, hw⟩
theorem wordsOf_len : (wordsOf t).length = t.boxes.length := by
  have : ∀ (hs : List Hd) (wds : List (List Pw)), (heldW t.boxes hs wds).length = wds.length := fun hs => by
    induction hs with
    | nil => intro wds; rfl
    | cons h r ih => intro wds; show (heldW t.boxes r (addW .held wds _)).length = _; rw [ih, addW_len]
  show (heldW t.boxes t.hands _).length = _
  rw [this, addW_len, addW_len, List.length_replicate]
noncomputable def ofV (n : Nat) (ow : Ow) (v : Nat) : List Nat := (List.range n).filter fun b => decide (ow b = v)
theorem ofV_perm {n v : Nat} {l : List Nat} (h : Is n ow v (· ∈ l)) (nd : l.Nodup) : l.Perm (ofV n ow v) := by
  refine (List.perm_ext_iff_of_nodup nd (List.nodup_range.filter _)).mpr fun b => ?_
  rw [show b ∈ l ↔ _ from h b]
  rw [List.mem_filter, List.mem_range, decide_eq_true_iff]
theorem sortI_spare (I : Inv t ow pile) : sortI (t.spare.map fun (b : Nat) => (b : Int)) = (ofV t.boxes.length ow 1).map fun (b : Nat) => (b : Int) := by
  have p1 : (sortI (t.spare.map fun (b : Nat) => (b : Int))).Perm ((ofV t.boxes.length ow 1).map fun (b : Nat) => (b : Int)) := (List.mergeSort_perm _ _).trans ((ofV_perm I.so I.sn).map _)
  refine p1.eq_of_pairwise (le := (· ≤ ·)) (fun a b u_ u_ h1 h2 => Int.le_antisymm h1 h2) ?_ ?_
  · have := List.pairwise_mergeSort (le := fun (a b : Int) => decide (a ≤ b)) (by intro a b c; simp; (first | lia | omega)) (by intro a b; simp; (first | lia | omega)) (t.spare.map fun (b : Nat) => (b : Int))
    simpa [sortI] using this
  · refine List.Pairwise.map _ (R := (· ≤ ·)) (fun a b h => Int.ofNat_le.mpr h) ?_
    exact List.Pairwise.filter _ (List.pairwise_le_range)
theorem count_pile (I : Inv t ow pile) : (ofV t.boxes.length ow 0).length = pile.length := (ofV_perm I.po I.nd).length_eq.symm
end
end Mine


set_option autoImplicit false
set_option linter.unusedVariables false
namespace Mine
open PySem PyProof.Rows

noncomputable def oB : Option Nat → Nat
  | none => 0
  | some _ => 1
noncomputable def oW : Option Wk → Nat
  | none => 1
  | some w => oB w.own
theorem oB_le (o : Option Nat) : oB o ≤ 1 := by
  cases o with
  | none => exact Nat.zero_le _
  | some _ => exact Nat.le_refl _
noncomputable def tkH (h : Hd) : Nat := h.place + (match h.work with | some w => oB w.own | none => 0)
noncomputable def tkS (t : Tw) : Nat := (t.hands.map tkH).sum
section
variable {t : Tw} {w : Wk} {i p : Nat}
noncomputable def TkR (t : Tw) (w : Wk) (r : Tw × Option Wk × Td) : Prop := r.1.boxes.length + oB w.own ≤ t.boxes.length + oW r.2.1
theorem tkr {s : Tw} {o : Option Wk} {d : Td} (h1 : s.boxes.length = t.boxes.length) (h2 : ∀ z, o = some z → z.own = w.own) : TkR t w (s, o, d) := by
  show s.boxes.length + oB w.own ≤ t.boxes.length + oW o
  rw [h1]
  refine Nat.add_le_add_left ?_ _
  cases o with
  | none => exact oB_le _
  | some z => show oB w.own ≤ oB z.own; rw [h2 z rfl]; exact Nat.le_refl _
theorem tk_op (h0 : w.next = .take → w.own = none) : TkR t w (op t i p w) := by
  unfold op
  cases hn : w.next with
  | take =>
    have h0 := h0 hn
    show TkR t w (opTake t w)
    unfold opTake
    split
    · show (t.boxes ++ _).length + oB w.own ≤ t.boxes.length + 1
      rw [h0, List.length_append]; exact Nat.le_refl _
    · show (t.boxes.set _ _).length + oB w.own ≤ t.boxes.length + 1
      rw [h0, List.length_set]; exact Nat.le_succ _
  | look =>
    show TkR t w (opLook t i p w)
    unfold opLook
    cases w.deed.k with
    | push => exact tkr (List.length_set ..) fun z e => by cases e; rfl
    | _ => cases t.head with
      | some h => exact tkr rfl fun z e => by cases e; rfl
      | none => exact tkr rfl fun z e => nomatch e
  | see =>
    show TkR t w (opSee t w)
    unfold opSee
    cases w.deed.k with
    | swap => exact tkr (List.length_set ..) fun z e => by cases e; rfl
    | _ => exact tkr rfl fun z e => by cases e; rfl
  | put =>
    show TkR t w (opPut t i p w)
    unfold opPut
    dsimp only
    cases t.still (w.seen.getD (none, 0)).1 (w.seen.getD (none, 0)).2 with
    | false => exact tkr rfl fun z e => by cases e; rfl
    | true => cases w.deed.k with
      | clear => exact tkr rfl fun z e => by cases e; rfl
      | _ => exact tkr rfl fun z e => nomatch e
  | check =>
    show TkR t w (opCheck t i p w)
    unfold opCheck
    dsimp only
    cases t.still (w.seen.getD (none, 0)).1 (w.seen.getD (none, 0)).2 with
    | false => exact tkr rfl fun z e => by cases e; rfl
    | true => exact tkr rfl fun z e => nomatch e
  | walk =>
    show TkR t w (opWalk t w)
    unfold opWalk
    dsimp only
    split
    · exact tkr rfl fun z e => by cases e; rfl
    · exact tkr rfl fun z e => nomatch e
end
theorem sum_at {f : Hd → Nat} {h h' : Hd} {hs : List Hd} : ∀ {i : Nat}, hs[i]? = some h → ((hs.set i h').map f).sum + f h = (hs.map f).sum + f h' := by
  induction hs with
  | nil => intro i e; cases e
  | cons x r ih =>
    intro i e
    cases i with
    | zero => cases e; rw [List.set_cons_zero, List.map_cons, List.map_cons, List.sum_cons, List.sum_cons]; (first | lia | omega)
    | succ i => rw [List.set_cons_succ, List.map_cons, List.map_cons, List.sum_cons, List.sum_cons]; have := ih e; (first | lia | omega)
structure Bd (n : Nat) (ps : List (List Deed)) (t : Tw) : Prop where
  len : t.boxes.length ≤ n + tkS t
  hp : t.hands.map Hd.prog = ps
theorem Bd.step {n : Nat} {ps : List (List Deed)} {t : Tw} {ow : Ow} {pile : List Nat} (B : Bd n ps t) (I : Inv t ow pile) (i : Nat) : Bd n ps (step t i).1 := by
  unfold Mine.step
  cases hh : t.hands[i]? with
  | none => exact B
  | some h =>
    show Bd n ps (match h.now t.time with | none => _ | some w => _ : Tw × Td).1
    cases hn : h.now t.time with
    | none => exact ⟨B.len, B.hp⟩
    | some w =>
      have X0 := I.hi i
      have e0 : workAt t i = h.work := by unfold workAt; rw [hh]; rfl
      rw [e0] at X0
      have X := X0.now hn
      have hk : tkH h = h.place + oB w.own := by
        unfold Hd.now at hn
        unfold tkH
        cases e : h.work with
        | some w1 => rw [e] at hn; cases hn; rfl
        | none =>
          rw [e] at hn
          obtain ⟨d, _, rfl⟩ := Option.map_eq_some_iff.mp hn
          rfl
      have hr := tk_op (t := t) (i := i) (p := h.place) (X.wk w rfl).tk
      show Bd n ps (aft t i h (op t i h.place w))
      generalize op t i h.place w = r at hr ⊢
      obtain ⟨s, o, d⟩ := r
      have hk' : tkH (h.next o) = h.place + oW o := by cases o <;> rfl
      have hs := sum_at (f := tkH) (h' := h.next o) hh
      refine ⟨?_, ?_⟩
      · show s.boxes.length ≤ n + ((t.hands.set i (h.next o)).map tkH).sum
        have h1 := B.len
        have h2 : s.boxes.length + oB w.own ≤ t.boxes.length + oW o := hr
        unfold tkS at h1
        (first | lia | omega)
      · show (t.hands.set i (h.next o)).map Hd.prog = ps
        rw [List.map_set, ← B.hp]
        have e : (h.next o).prog = h.prog := by cases o <;> rfl
        rw [e]
        refine List.ext_getElem? fun j => ?_
        by_cases q : i = j
        · subst q; rw [List.getElem?_set_self (by rw [List.length_map]; exact (List.getElem?_eq_some_iff.mp hh).1), List.getElem?_map, hh]; rfl
        · rw [List.getElem?_set_ne q]
theorem Bd.start (kd : Kn) (xs : List Int) (ps : List (List Deed)) : Bd xs.length ps (tw0 kd xs ps) := by
  refine ⟨?_, ?_⟩
  · show (bx0 xs).length ≤ _
    rw [bx0_len]; exact Nat.le_add_right _ _
  · show (ps.map fun p => (⟨p, 0, none⟩ : Hd)).map Hd.prog = ps
    rw [List.map_map]; exact List.map_id _
theorem sum_le {f g : Hd → Nat} {hs : List Hd} (h : ∀ x ∈ hs, f x ≤ g x) : (hs.map f).sum ≤ (hs.map g).sum := by
  induction hs with
  | nil => exact Nat.le_refl _
  | cons x r ih =>
    rw [List.map_cons, List.map_cons, List.sum_cons, List.sum_cons]
    exact Nat.add_le_add (h x List.mem_cons_self) (ih fun y hy => h y (List.mem_cons_of_mem _ hy))
theorem Bd.bound {n k : Nat} {ps : List (List Deed)} {t : Tw} (B : Bd n ps t) (A : AllOk k t) : t.boxes.length ≤ n + (ps.map List.length).sum := by
  refine Nat.le_trans B.len (Nat.add_le_add_left ?_ _)
  rw [← B.hp, List.map_map]
  refine sum_le fun h hm => ?_
  have H := A.hd h hm
  show h.place + _ ≤ h.prog.length
  cases e : h.work with
  | none => exact H.place
  | some w => exact Nat.le_trans (Nat.add_le_add_left (oB_le _) _) (H.work w e).1
end Mine


set_option autoImplicit false
set_option linter.unusedVariables false
set_option maxRecDepth 100000
namespace Mine
open PySem PyProof.Rows

theorem compT_go {src : Src} {xs : List AV} {body : AV → M (Option AV)} {H : AHeap} {g : AV → Option AV} (hs : ∀ i : Nat, src.get i H = some (.ok xs[i]?, H)) (hb : ∀ a ∈ xs, body a H = some (.ok (g a), H)) (hl : xs.length < 100000) :
    ∀ (fuel i : Nat) (acc : List AV), i ≤ xs.length → xs.length < i + fuel → acc.length ≤ i → compLoop src body fuel i acc H = some (.ok (acc ++ (xs.drop i).filterMap g), H) := by
  intro fuel
  induction fuel with
  | zero => intro i acc h1 h2; exact absurd h2 (Nat.not_lt.mpr h1)
  | succ f ih =>
    intro i acc h1 hf ha
    refine bind_of (hs i) ?_
    rcases Nat.eq_or_lt_of_le h1 with e | hi
    · rw [List.getElem?_eq_none (Nat.le_of_eq e.symm), List.drop_of_length_le (Nat.le_of_eq e.symm), List.filterMap_nil, List.append_nil]
      rfl
    · rw [List.getElem?_eq_getElem hi, List.drop_eq_getElem_cons hi, List.filterMap_cons]
      have hx : noX (body xs[i]) H = some (.ok (g xs[i]), H) := by unfold noX; rw [hb _ (List.getElem_mem hi)]
      refine bind_of hx ?_
      cases g xs[i] with
      | none => exact ih (i + 1) acc hi (Nat.succ_add_eq_add_succ i f ▸ hf) (Nat.le_succ_of_le ha)
      | some y =>
        show (if acc.length < LIM then compLoop src body f (i + 1) (acc ++ [y]) else stuck) H = _
        rw [if_pos (ltLIM (Nat.lt_trans (Nat.lt_of_le_of_lt ha hi) hl)), ih (i + 1) _ hi (Nat.succ_add_eq_add_succ i f ▸ hf) (by rw [List.length_append]; exact Nat.succ_le_succ ha), List.append_assoc]
        rfl
theorem compT {src : Src} {xs : List AV} {body : AV → M (Option AV)} {H : AHeap} (g : AV → Option AV) (hs : ∀ i : Nat, src.get i H = some (.ok xs[i]?, H)) (hb : ∀ a ∈ xs, body a H = some (.ok (g a), H)) (hl : xs.length < 100000) :
    compLoop src body FUEL 0 [] H = some (.ok (xs.filterMap g), H) :=
  compT_go hs hb hl FUEL 0 [] (Nat.zero_le _) (by rw [FUEL_is, Nat.zero_add]; exact hl) (Nat.le_refl _)
noncomputable def pwq (x : Pw) : Pw → Bool
  | .pile => (match x with | .pile => true | _ => false)
  | .spare => (match x with | .spare => true | _ => false)
  | .held => (match x with | .held => true | _ => false)
theorem pw_ok (x : Pw) : PyData.strOk (wdS x) = true := by cases x <;> kernel_rfl
theorem rd_word {H : AHeap} {l n : Nat} {x : Pw} (h : H[l]? = some (wsO [x])) : rd H (n + 2) (.loc l) = some (.list [.str (wdS x)]) := by
  refine rd_loc h ?_
  show [AV.str (wdS x)].mapM (rd H (n + 1)) = _
  rw [List.mapM_cons, List.mapM_nil, show rd H (n + 1) (.str (wdS x)) = some (.str (wdS x)) from if_pos (pw_ok x)]
  rfl
theorem rd_w {H : AHeap} {n : Nat} {x : Pw} : rd H (n + 2) (.lst [.str (wdS x)]) = some (.list [.str (wdS x)]) := by
  show Option.map _ ([AV.str (wdS x)].mapM (rd H (n + 1))) = _
  rw [List.mapM_cons, List.mapM_nil, show rd H (n + 1) (.str (wdS x)) = some (.str (wdS x)) from if_pos (pw_ok x)]
  rfl
theorem eqv_w {x y : Pw} : PyData.eqv (.list [.str (wdS x)]) (.list [.str (wdS y)]) = pwq x y := by
  show ((wdS x == wdS y) && true) = _
  cases x <;> cases y <;> kernel_rfl
theorem pw1 (v : Nat) : pwq (pw v) .spare = decide (v = 1) := by
  unfold pw
  by_cases h0 : v = 0
  · rw [if_pos h0, h0]; rfl
  · rw [if_neg h0]
    by_cases h1 : v = 1
    · rw [if_pos h1, h1]; rfl
    · rw [if_neg h1, decide_eq_false h1]; rfl
theorem pw0 (v : Nat) : pwq (pw v) .pile = decide (v = 0) := by
  unfold pw
  by_cases h0 : v = 0
  · rw [if_pos h0, h0]; rfl
  · rw [if_neg h0, decide_eq_false h0]
    split <;> rfl
noncomputable def w3 : AV := .lst [.lst [.str "pile"], .lst [.str "spare"], .lst [.str "held"]]
theorem notin3 {H : AHeap} {l : Nat} {x : Pw} (h : H[l]? = some (wsO [x])) : pCmp .NotIn (.loc l) w3 H = some (.ok false, H) := by
  have e1 : rd H 8 w3 = some (.list [.list [.str (wdS .pile)], .list [.str (wdS .spare)], .list [.str (wdS .held)]]) := by
    show Option.map _ ([AV.lst [.str (wdS .pile)], .lst [.str (wdS .spare)], .lst [.str (wdS .held)]].mapM (rd H 7)) = _
    rw [List.mapM_cons, List.mapM_cons, List.mapM_cons, List.mapM_nil, rd_w, rd_w, rd_w]
    rfl
  have e3 : ([PyData.list [.str (wdS .pile)], .list [.str (wdS .spare)], .list [.str (wdS .held)]].any fun y => PyData.eqv y (.list [.str (wdS x)])) = true := by
    rw [List.any_cons, List.any_cons, List.any_cons, eqv_w, eqv_w, eqv_w]
    cases x <;> rfl
  have e2 : pIn (.loc l) w3 H = some (.ok true, H) := bind_of (rdM_is (rd_word h)) (bind_of (rdM_is e1) (by
    show some (Except.ok ([PyData.list [.str (wdS .pile)], .list [.str (wdS .spare)], .list [.str (wdS .held)]].any fun y => PyData.eqv y (.list [.str (wdS x)])), H) = _
    rw [e3]))
  exact bind_of e2 rfl
theorem eq_word {H : AHeap} {l : Nat} {x y : Pw} (h : H[l]? = some (wsO [x])) : pCmp .Eq (.loc l) (.lst [.str (wdS y)]) H = some (.ok (pwq x y), H) := by
  rw [eq_is (rd_word h) rd_w, eqv_w]
theorem intsOf_nats (xs : List Nat) : intsOf (xs.map natV) = some (xs.map fun (b : Nat) => (b : Int)) := by
  have := intsOf_map (xs.map fun (b : Nat) => (b : Int))
  rw [List.map_map] at this
  exact this
theorem m_sorted {H : AHeap} {l : Nat} {xs : List Nat} (h : H[l]? = some (.list (xs.map natV))) (hl : xs.length < 128) : pBI false .sorted [.loc l] H = some (.ok (.lst ((sortI (xs.map fun (b : Nat) => (b : Int))).map .int)), H) := by
  show (do let xs ← listOf (.loc l); let is ← ofOpt (intsOf xs); if is.length < 128 then newL false ((sortI is).map .int) else stuck) H = _
  refine bind_of (listOf_loc h) ?_
  rw [intsOf_nats]
  show (if (xs.map fun (b : Nat) => (b : Int)).length < 128 then newL false ((sortI (xs.map fun (b : Nat) => (b : Int))).map .int) else stuck) H = _
  rw [List.length_map, if_pos hl, e_newL (by
    rw [List.length_map]
    show ((xs.map fun (b : Nat) => (b : Int)).mergeSort _).length ≤ LIM
    rw [List.length_mergeSort, List.length_map]
    exact Nat.le_of_lt (ltLIM (by (first | lia | omega))))]
  rfl
theorem mapM_words {H : AHeap} {m : Nat} {f : Nat → Pw} {g : Nat → Nat} : ∀ xs : List Nat, (∀ b ∈ xs, H[g b]? = some (wsO [f b])) → (xs.map fun b => AV.loc (g b)).mapM (rd H (m + 2)) = some (xs.map fun b => PyData.list [.str (wdS (f b))]) := by
  intro xs
  induction xs with
  | nil => intro _; rfl
  | cons x r ih =>
    intro h
    rw [List.map_cons, List.mapM_cons, rd_word (h x List.mem_cons_self), ih fun b hb => h b (List.mem_cons_of_mem _ hb)]
    rfl
theorem m_count {H : AHeap} {l : Nat} {xs : List Nat} {f : Nat → Pw} {g : Nat → Nat} (h : H[l]? = some (.list (xs.map fun b => AV.loc (g b)))) (hw : ∀ b ∈ xs, H[g b]? = some (wsO [f b])) : pMeth "count" (.loc l) [.lst [.str (wdS .pile)]] H = some (.ok (.int ((xs.filter fun b => pwq (f b) .pile).length : Nat)), H) := by
  show (do let xs ← listAt l; mCount xs [.lst [.str (wdS .pile)]]) H = _
  refine bind_of (listAt_is h) ?_
  show (match (xs.map fun b => AV.loc (g b)).mapM (rd H 7), rd H 8 (.lst [.str (wdS .pile)]) with
    | some ys, some y => some (.ok (.int (ys.countP fun z => PyData.eqv z y : Nat)), H)
    | _, _ => none : Option (Except Str AV × AHeap)) = _
  rw [mapM_words xs hw, rd_w]
  show some (Except.ok (AV.int (((xs.map fun b => PyData.list [.str (wdS (f b))]).countP fun z => PyData.eqv z (.list [.str (wdS .pile)]) : Nat) : Int)), H) = _
  rw [List.countP_map]
  congr 5
  show xs.countP (fun b => PyData.eqv (.list [.str (wdS (f b))]) (.list [.str (wdS .pile)])) = _
  rw [List.countP_eq_length_filter]
  congr 2
  funext b
  exact eqv_w
end Mine


set_option autoImplicit false
set_option linter.unusedVariables false
set_option maxRecDepth 100000
namespace Mine
open PySem PyProof.Rows
theorem rangeL_nats (n : Nat) : rangeL 0 n = (List.range n).map natV := by
  unfold rangeL
  rw [Int.sub_zero, Int.toNat_natCast]
  exact List.map_congr_left fun k u_ => by rw [Int.zero_add]; rfl
theorem fm_none {xs : List AV} : xs.filterMap (fun u_ => (none : Option AV)) = [] := by
  induction xs with
  | nil => rfl
  | cons x r ih => rw [List.filterMap_cons]; exact ih
noncomputable def numIf (p : Nat → Bool) : AV → Option AV
  | .int i => if p i.toNat then some (.int i) else none
  | a => some a
theorem fm_if {p : Nat → Bool} (xs : List Nat) : (xs.map natV).filterMap (numIf p) = (xs.filter p).map natV := by
  induction xs with
  | nil => rfl
  | cons x r ih =>
    rw [List.map_cons, List.filterMap_cons, ih, List.filter_cons]
    have e : numIf p (natV x) = if p x then some (natV x) else none := by
      show (if p ((x : Int)).toNat = true then some (AV.int (x : Int)) else none) = _
      rw [Int.toNat_natCast]; rfl
    rw [e]
    cases p x <;> rfl
theorem three : (do let vs12 ← eachM [(newL false [.str "pile"]), (newL false [.str "spare"]), (newL false [.str "held"])]; newL false vs12 : M AV) = pure w3 := by
  have h1 : ([AV.str "pile"] : List AV).length ≤ LIM := ltLIM (by decide) |> Nat.le_of_lt
  rw [e_newL h1, e_newL (xs := [.str "spare"]) h1, e_newL (xs := [.str "held"]) h1]
  simp only [e_eachp, e_each0, pure_bind]
  exact e_newL (Nat.le_of_lt (ltLIM (by show 3 < 100000; decide)))
theorem s_stands (n : Nat) {H : AHeap} {L : Ly} {t : Tw} {P : Nat → Prop} {ow : Ow} {pile : List Nat} (T : TRd H L t P) (hP : ∀ x, P x → x < H.length) (Z : Tl t) (I : Inv t ow pile) (hb : t.boxes.length < 128) :
    Rn (callP P08 (n + 4) "_law_stands" [.loc L.st]) H fun a H' => a = .bool true ∧ ∀ x, x < H.length → H'[x]? = H[x]? := by
  have hL := LIMis
  refine callRn (σ := [some (.loc L.st), none, none]) (by kernel_rfl) (by kernel_rfl) (by kernel_rfl) ?_
  rw [c_stands_0]
  refine .then (s_places n T hP Z) ?_
  rintro _ H1 ⟨rfl, X, rfl⟩
  have hw := wordsOf_len (t := t)
  have hat : (plc H (wordsOf t) (plL H t.boxes.length :: X))[H.length + t.boxes.length]? = some (.list ((List.range t.boxes.length).map fun j => AV.loc (H.length + j))) := by
    have := plc_y (H := H) (Y := plL H t.boxes.length :: X) (k := 0) hw
    rw [Nat.add_zero] at this
    exact this
  have hwd : ∀ b, b < t.boxes.length → (plc H (wordsOf t) (plL H t.boxes.length :: X))[H.length + b]? = some (wsO [pw (ow b)]) := fun b q => by
    have h1 := words_at I Z q
    have h2 := List.getElem?_eq_getElem (l := wordsOf t) (i := b) (by rw [hw]; exact q)
    rw [plc_wd (by rw [hw]; exact q)]
    rw [h1] at h2
    rw [← Option.some.inj h2]
  have Tk : TRd (plc H (wordsOf t) (plL H t.boxes.length :: X)) L t P := T.keep (fun x hx => plc_old (hP x hx)) fun u_ h => h
  have old : ∀ x, x < H.length → (plc H (wordsOf t) (plL H t.boxes.length :: X))[x]? = H[x]? := fun x hx => plc_old hx
  have hH1 : H.length + t.boxes.length < (plc H (wordsOf t) (plL H t.boxes.length :: X)).length := (List.getElem?_eq_some_iff.mp hat).1
  generalize plc H (wordsOf t) (plL H t.boxes.length :: X) = G at hat hwd Tk old hH1 ⊢
  refine .bind (.bind (.bind (.bind (.bind (.pure (.bind (.of (show pIsi (.loc (H.length + t.boxes.length)) .list G = some (.ok true, G) from bind_of (listAt_is hat) rfl) (.pure ?_))))))))
  rw [e_truth]
  refine .pure (.pure ?_)
  have lr : ((List.range t.boxes.length).map fun j => AV.loc (H.length + j)).length < 100000 := by rw [List.length_map, List.length_range]; (first | lia | omega)
  have cmp1 : compLoop (.at (H.length + t.boxes.length)) (fun u9 => (do let t11 ← ((do let c13 ← (do let vs12 ← eachM [(newL false [.str "pile"]), (newL false [.str "spare"]), (newL false [.str "held"])]; newL false vs12); pCmp .NotIn u9 c13)); if t11 = true then pure (some u9) else pure none)) FUEL 0 [] G = some (.ok [], G) := by
    rw [compT (fun u_ => none) (fun i => get_loc hat) (fun a ha => ?_) lr, fm_none]
    obtain ⟨b, hb1, rfl⟩ := List.mem_map.mp ha
    rw [three]
    simp only [pure_bind]
    exact bind_of (notin3 (hwd b (List.mem_range.mp hb1))) rfl
  have cmp2 : compLoop (.items (rangeL 0 t.boxes.length)) (fun u1 => (do let t3 ← (do let v4 ← (pItem (.loc (H.length + t.boxes.length)) u1); (do let c5 ← (newL false [.str "spare"]); pCmp .Eq v4 c5)); if t3 = true then pure (some u1) else pure none)) FUEL 0 [] G = some (.ok ((ofV t.boxes.length ow 1).map natV), G) := by
    rw [rangeL_nats, compT (numIf fun b => decide (ow b = 1)) (fun i => rfl) (fun a ha => ?_) (by rw [List.length_map, List.length_range]; (first | lia | omega)), fm_if]
    · rfl
    · obtain ⟨b, hb1, rfl⟩ := List.mem_map.mp ha
      have hbl := List.mem_range.mp hb1
      rw [e_newL (xs := [.str "spare"]) (Nat.le_of_lt (ltLIM (by show 1 < 100000; decide)))]
      refine bind_of (a := decide (ow b = 1)) (H1 := G) (bind_of (item_loc (k := b) hat (by rw [List.getElem?_map, List.getElem?_range hbl]; rfl)) ?_) ?_
      · show pCmp .Eq (.loc (H.length + b)) (.lst [.str (wdS .spare)]) G = _
        rw [eq_word (hwd b hbl), pw1]
      · show (if decide (ow b = 1) = true then pure (some (AV.int (b : Int))) else pure none : M (Option AV)) G = some (.ok (if decide (ow ((b : Int)).toNat = 1) = true then some (AV.int (b : Int)) else none), G)
        rw [Int.toNat_natCast]
        cases decide (ow b = 1) <;> rfl
  refine .bind (.bind (.bind (.pure (.bind (.of (srcOf_loc hat) (.bind (.of cmp1 ?_)))))))
  rw [e_newL (Nat.zero_le _)]
  refine .pure (.bind (.pure ?_))
  refine .of (show pCmp .NotEq (.lst []) (.lst []) G = some (.ok false, G) from bind_of (eq_is rd_nil rd_nil) rfl) (.pure ?_)
  show Rn (do let r ← pure (Res.next [some (AV.loc L.st), some (AV.loc (H.length + t.boxes.length)), none]); goOn (tl P08 (callP P08 (n + 3)) "_law_stands" [] 2 38) r) G _
  rw [pure_bind, e_go_next, c_stands_t_2]
  refine .bind (.bind (.bind (.eachE (len_loc hat) (.each0 ?_))))
  rw [List.length_map, List.length_range, e_range1]
  refine .pure ?_
  rw [srcOf_range (by (first | lia | omega)) (by (first | lia | omega)), pure_bind]
  refine .bof cmp2 ?_
  have lo : (ofV t.boxes.length ow 1).length ≤ t.boxes.length := by
    have := List.length_filter_le (fun b => decide (ow b = 1)) (List.range t.boxes.length)
    rw [List.length_range] at this; exact this
  have ls : t.spare.length ≤ t.boxes.length := by rw [(ofV_perm I.so I.sn).length_eq]; exact lo
  rw [e_newL (by rw [List.length_map]; (first | lia | omega))]
  refine .pure ?_
  refine .bind (.bind (.bind (.bind (.eachE (s_spare_of (n + 2) Tk (by (first | lia | omega))) (.each0 ?_)))))
  refine .of (m_sorted (l := G.length) app_at (by (first | lia | omega))) ?_
  rw [sortI_spare I, List.map_map]
  have rs : rd (G ++ [.list (t.spare.map natV)]) 8 (.lst ((ofV t.boxes.length ow 1).map natV)) = some (.list ((ofV t.boxes.length ow 1).map fun (i : Nat) => PyData.int (i : Int))) := by
    show Option.map _ (((ofV t.boxes.length ow 1).map natV).mapM (rd (G ++ [.list (t.spare.map natV)]) 7)) = _
    rw [mapM_nats]; rfl
  refine .bof (eq_same rs rs) (.pure ?_)
  rw [e_truth, pure_bind]
  have hat2 : (G ++ [.list (t.spare.map natV)])[H.length + t.boxes.length]? = some (.list ((List.range t.boxes.length).map fun j => AV.loc (H.length + j))) := by rw [app_lt hH1]; exact hat
  have hwd2 : ∀ b ∈ List.range t.boxes.length, (G ++ [.list (t.spare.map natV)])[H.length + b]? = some (wsO [pw (ow b)]) := fun b q => by
    have := List.mem_range.mp q
    rw [app_lt (by (first | lia | omega))]; exact hwd b this
  show Rn (do let v16 ← _; _) _ _
  rw [e_newL (xs := [.str "pile"]) (Nat.le_of_lt (ltLIM (by show 1 < 100000; decide)))]
  simp only [e_eachp, e_each0, pure_bind]
  refine .bind (.bof (listOf_loc hat2) ?_)
  refine .of (m_count (g := fun j => H.length + j) hat2 hwd2) ?_
  have ep : (List.filter (fun b => pwq (pw (ow b)) .pile) (List.range t.boxes.length)).length = pile.length := by
    rw [← count_pile I]
    unfold ofV
    congr 2
    funext b
    exact pw0 _
  rw [ep]
  have lp : pile.length ≤ t.boxes.length := by
    rw [(ofV_perm I.po I.nd).length_eq]
    have := List.length_filter_le (fun b => decide (ow b = 0)) (List.range t.boxes.length)
    rw [List.length_range] at this; exact this
  have Tk2 : TRd (G ++ [.list (t.spare.map natV)]) L t P := Tk.keep (fun x hx => app_lt (Nat.lt_of_lt_of_le (hP x hx) (by (first | lia | omega)))) fun u_ h => h
  refine .bind (.bind (.bind (.eachC ((s_values_bf (n + 1) Tk2 (bf_of (fd := []) I.ch I.nd) (by (first | lia | omega))).mono ?_))))
  rintro _ H3 ⟨rfl, rfl⟩
  refine .each0 (.of (len_loc get2b) ?_)
  rw [e_eqi, decide_eq_true (by rw [List.length_map]; unfold vl; rw [List.length_map])]
  refine .pure (.pure (.pure ⟨rfl, fun x hx => ?_⟩))
  rw [List.append_assoc, List.getElem?_append_left (by (first | lia | omega))]
  exact old x hx
end Mine


set_option autoImplicit false
set_option linter.unusedVariables false
set_option maxRecDepth 100000
namespace Mine
open PySem PyProof.Rows
theorem tl_of {k : Nat} {t : Tw} (A : AllOk k t) (O : OwT t) (hk : k ≤ 300) (hh : t.hands.length ≤ 20) : Tl t := by
  have h1 := A.tw.lb; have h2 := A.tw.ls; have h3 := A.tw.lr
  refine ⟨A.tw.boxes, A.tw.head, A.tw.spare, by (first | lia | omega), by (first | lia | omega), by (first | lia | omega), hh, O.own, fun h hm w e hx => ?_⟩
  have S : StAt t.boxes.length t.rows.length w w.next := ((A.hd h hm).work w e).2.2
  rw [hx] at S
  obtain ⟨_, ⟨i, hi, ew⟩, _⟩ := S
  rw [ew]; exact .some hi
theorem nats_of {m : Nat} {O : List AV} (h : ∀ o ∈ O, InR m o) : ∃ W : List Nat, O = W.map natV ∧ ∀ i ∈ W, i < m := by
  induction O with
  | nil => exact ⟨[], rfl, fun u_ h => nomatch h⟩
  | cons a r ih =>
    obtain ⟨i, rfl, h1, h2⟩ := h a List.mem_cons_self
    obtain ⟨j, rfl⟩ := Int.eq_ofNat_of_zero_le h1
    obtain ⟨W, e, hW⟩ := ih fun o ho => h o (List.mem_cons_of_mem _ ho)
    exact ⟨j :: W, by rw [e]; rfl, fun x hx => (List.mem_cons.mp hx).elim (fun e => by rw [e]; exact Int.ofNat_lt.mp h2) (hW x)⟩
theorem kind2 {c : Int} : ∃ kd : Kn, (kd = .marks ∨ kd = .new) ∧ pItem (.lst [.str "marks", .str "new"]) (.int (c.fmod 2)) = pure (.str (knS kd)) := by
  have h := fmod_lt c (b := 2) (by decide)
  rcases Int.lt_or_le (c.fmod 2) 1 with q | q
  · rw [show c.fmod 2 = ((0 : Nat) : Int) by (first | lia | omega)]; exact ⟨.marks, .inl rfl, e_item_lst (k := 0) rfl⟩
  · rw [show c.fmod 2 = ((1 : Nat) : Int) by (first | lia | omega)]; exact ⟨.new, .inr rfl, e_item_lst (k := 1) rfl⟩
theorem Prs.prv {H : AHeap} {lp : Nat} {PL : List Nat} {ps : List (List Deed)} (p : Prs H lp PL ps 24) : PrV H (.loc lp) ps :=
  ⟨PL.map .loc, .inr ⟨lp, rfl, p.at'⟩, by rw [List.length_map]; exact p.len, fun i v q h1 h2 => by
    rw [List.getElem?_map, Option.map_eq_some_iff] at h1
    obtain ⟨x, hx, rfl⟩ := h1
    exact .inr ⟨x, rfl, (p.prog i x q hx h2).2⟩, fun q hq => Nat.le_trans (sum_ge hq) (Nat.le_trans p.sum (by decide))⟩
structure Way (m : Nat) (ps : List (List Deed)) (k : Nat) (t : Tw) : Prop where
  ok : AllOk k t
  ow : OwT t
  bd : Bd 60 ps t
  hn : t.hands.length = m
  iv : ∃ ow pile, Inv t ow pile
theorem Way.step {m k : Nat} {ps : List (List Deed)} {t : Tw} (W : Way m ps k t) (i : Nat) : Way m ps (k + 1) (step t i).1 := by
  obtain ⟨ow, pile, I⟩ := W.iv
  exact ⟨step_wf W.ok, W.ow.step W.ok.tw i, W.bd.step I i, (step_hands t i W.ok).trans W.hn, I.step W.ok⟩
theorem Way.stands {m k : Nat} {ps : List (List Deed)} {t : Tw} (W : Way m ps k t) (n : Nat) {H : AHeap} {L : Ly} {P : Nat → Prop} (T : TRd H L t P) (hP : ∀ x, P x → x < H.length) (hm : 1 ≤ m ∧ m ≤ 20) (hk : k ≤ 300) (hs : (ps.map List.length).sum ≤ 24) :
    Rn (callP P08 (n + 4) "_law_stands" [.loc L.st]) H fun a H' => a = .bool true ∧ ∀ x, x < H.length → H'[x]? = H[x]? := by
  obtain ⟨ow, pile, I⟩ := W.iv
  have h := W.hn
  have hb := W.bd.bound W.ok
  exact s_stands n T hP (tl_of W.ok W.ow hk (by (first | lia | omega))) I (by (first | lia | omega))
theorem s_law (ns : List Int) (hns : ns.length ≤ 63) : Rn (callP P08 8 "law" [.lst (ns.map .int)]) [] fun a u_ => a = .bool true := by
  have hL := LIMis
  refine callRn (n := 7) (σ := [some (.lst (ns.map .int)), none, none, none, none, none, none]) (by kernel_rfl) (by kernel_rfl) (by kernel_rfl) ?_
  obtain ⟨m, hm1, hm2, hm⟩ := s_hands_by 6 (cellAt ns 2)
  obtain ⟨xs, hx, hs⟩ := s_start_by 5 (cellAt ns 0)
  obtain ⟨kd, hkd, hki⟩ := kind2 (c := cellAt ns 1)
  have c0 : callP P08 7 "_law_cell_at" [.lst (ns.map .int), .int 0] = _ := s_cell_at 5 ns 0
  have c1 : callP P08 7 "_law_cell_at" [.lst (ns.map .int), .int 1] = _ := s_cell_at 5 ns 1
  have c2 : callP P08 7 "_law_cell_at" [.lst (ns.map .int), .int 2] = _ := s_cell_at 5 ns 2
  rw [c_law_0, c2, c0]
  simp only [e_eachp, e_each0, pure_bind, hm, hs]
  refine .then (s_weaving 4 ns hns m ⟨hm1, hm2⟩ []) ?_
  rintro _ H1 ⟨lw, W0, rfl, hw, hW, hWl, _⟩
  obtain ⟨W, rfl, hWn⟩ := nats_of hW
  rw [List.length_map] at hWl
  rw [c1, e_newL (by show 2 ≤ LIM; (first | lia | omega)), pure_bind, pure_bind, m_mod (by decide), pure_bind, hki, pure_bind]
  refine .bind (.bind (.bind (.eachC ((s_programs 4 ns hns m ⟨hm1, hm2⟩ H1).mono ?_))))
  rintro _ H2 ⟨lp, PL, ps, rfl, hP, hpl, hf2⟩
  refine .eachP (.each0 (.pure ((s_tower 3 (kd := kd) hx hP.prv (by (first | lia | omega))).mono ?_)))
  rintro _ H3 ⟨L, rfl, T, hf3⟩
  have hw3 : H3[lw]? = some (.list (W.map natV)) := by
    have l1 := (List.getElem?_eq_some_iff.mp hw).1
    have h2 := (hf2 lw l1).trans hw
    exact (hf3 _ (List.getElem?_eq_some_iff.mp h2).1).trans h2
  have Y0 : Way m ps 0 (tw0 kd xs ps) := ⟨tw0_ok hx, ow0 kd xs ps, ⟨Nat.le_trans (Bd.start kd xs ps).len (Nat.add_le_add_right hx _), (Bd.start kd xs ps).hp⟩, (List.length_map ..).trans hpl, _, _, inv0 hkd⟩
  refine .bind (.bind (.eachE (len_loc hw3) (.each0 ?_)))
  rw [List.length_map, e_range1]
  refine .pure ?_
  rw [srcOf_range (by (first | lia | omega)) (by (first | lia | omega)), pure_bind]
  have rd0 : ∀ {k : Nat} {t : Tw} {H : AHeap} {L : Ly} {U : Nat → Prop}, Way m ps k t → TRep H L t U → TRd H L t (fun x => x < H.length ∧ ¬ U x) := fun Y T => T.rd (by rw [Y.hn]; exact hm1)
  refine .then (forI (fun k σ H' => ∃ (t : Tw) (L' : Ly) (P : Nat → Prop) (o : Option AV), σ = [some (.lst (ns.map .int)), some (.int m), some (.lst (xs.map .int)), some (.loc lw), some (.str (knS kd)), some (.loc L'.st), o] ∧ Way m ps k t ∧ (TRd H' L' t P ∧ ∀ x, P x → x < H'.length) ∧ H'[lw]? = some (.list (W.map natV)))
    (Q := fun r H' => ∃ (t : Tw) (L' : Ly) (P : Nat → Prop) (o : Option AV), r = .next [some (.lst (ns.map .int)), some (.int m), some (.lst (xs.map .int)), some (.loc lw), some (.str (knS kd)), some (.loc L'.st), o] ∧ Way m ps W.length t ∧ TRd H' L' t P ∧ ∀ x, P x → x < H'.length) (by rw [rangeL_length]; (first | lia | omega)) ⟨_, L, _, _, rfl, Y0, ⟨rd0 Y0 T, fun x hx => hx.1⟩, hw3⟩ ?_ ?_) ?_
  · rintro k a σ H4 ha ⟨t, L', P, o, rfl, Y, ⟨T4, hP4⟩, hw4⟩
    obtain ⟨rfl, hk⟩ := rangeL_at ha
    have hkW : k < W.length := by
      have := (List.getElem?_eq_some_iff.mp ha).1
      rw [rangeL_length] at this; (first | lia | omega)
    have hit : (W.map natV)[k]? = some (.int (W[k] : Nat)) := by rw [List.getElem?_map, List.getElem?_eq_getElem hkW]; rfl
    rw [Int.zero_add, c_law_for_5]
    refine .bind (.bind (.bind (.eachP (.eachE (item_loc hw4 hit) (.each0 ((s_stepped 1 T4 Y.ok (by (first | lia | omega)) (by rw [Y.hn]; (first | lia | omega)) (by rw [Y.hn]; exact hWn _ (List.getElem_mem hkW))).mono ?_))))))
    rintro _ H5 ⟨L5, rfl, T5, hf5⟩
    rw [show pItem (.tup [.loc L5.st, tdV (step t W[k]).2]) (.int 0) = pure (.loc L5.st) from rfl]
    refine .pure ?_
    have Y5 := Y.step W[k]
    have R5 := rd0 Y5 T5
    have hw5 := (hf5 lw (List.getElem?_eq_some_iff.mp hw4).1).trans hw4
    rw [m_mod (by decide), pure_bind, c1, pure_bind, m_div ⟨by decide, by decide⟩, pure_bind, m_mod (by decide), pure_bind, e_eqi, pure_bind]
    cases decide (((k : Int)).fmod 5 = ((cellAt ns 1).fdiv 2).fmod 5) with
    | false =>
      simp only [pure_bind, e_go_next]
      exact .pure ⟨_, L5, _, _, rfl, Y5, ⟨R5, fun x hx => hx.1⟩, hw5⟩
    | true =>
      refine .bind (.bind (.bind (.bind ((Y5.stands 3 R5 (fun x hx => hx.1) ⟨hm1, hm2⟩ (by (first | lia | omega)) hP.sum).mono ?_))))
      rintro _ H6 ⟨rfl, hf6⟩
      rw [e_truth]
      refine .pure (.pure (.pure ?_))
      simp only [pure_bind, e_go_next]
      refine .pure ⟨_, L5, _, _, rfl, Y5, ⟨R5.keep (fun x hx => hf6 x hx.1) fun u_ h => h, fun x hx => ?_⟩, ?_⟩
      · exact (List.getElem?_eq_some_iff.mp ((hf6 x hx.1).trans (List.getElem?_eq_getElem hx.1))).1
      · exact (hf6 lw (List.getElem?_eq_some_iff.mp hw5).1).trans hw5
  · rintro σ H4 ⟨t, L', P, o, rfl, Y, T4, hw4⟩
    rw [rangeL_length] at Y
    exact ⟨t, L', P, o, rfl, by rwa [show ((W.length : Int) - 0).toNat = W.length by (first | lia | omega)] at Y, T4⟩
  · rintro r H4 ⟨t, L', P, o, rfl, Y, T4, hP4⟩
    rw [e_go_next, c_law_t_6]
    refine .then (Y.stands 3 T4 hP4 ⟨hm1, hm2⟩ (by (first | lia | omega)) hP.sum) ?_
    rintro _ H5 ⟨rfl, _⟩
    exact .pure rfl
end Mine


open PySem PySem.W PyProof.Rows
set_option Elab.async false
set_option maxRecDepth 100000
set_option maxHeartbeats 8000000
namespace Mine
noncomputable def t08_KINDS : List (Str × Tok) := [("marks", 305), ("bare", 306), ("new", 307)]
noncomputable def t08_FIRST : List (Str × Tok × Str × Tok) := [("push", 396, "take", 397), ("swap", 398, "take", 399), ("pop", 400, "look", 401), ("top", 402, "look", 403), ("clear", 404, "look", 405)]
noncomputable def t08_BEHIND_LOOK : List (Str × Tok × Str × Tok) := [("push", 412, "put", 413), ("swap", 414, "see", 415), ("pop", 416, "see", 417), ("top", 418, "see", 419), ("clear", 420, "put", 421)]
noncomputable def t08_BEHIND_SEE : List (Str × Tok × Str × Tok) := [("swap", 428, "put", 429), ("pop", 430, "put", 431), ("top", 432, "check", 433)]
noncomputable def D08 : Tbl := [("KINDS", 102, tObj t08_KINDS), ("FIRST", 167, dObj t08_FIRST 5), ("BEHIND_LOOK", 168, dObj t08_BEHIND_LOOK 5), ("BEHIND_SEE", 169, dObj t08_BEHIND_SEE 3)]
noncomputable def q08 : Program := viewOf PySem.Challenge.pw_uf020017_08
noncomputable def loose08 : List Str := ["FIRST", "BEHIND_LOOK", "BEHIND_SEE"]
noncomputable def top08 (w : World) : Prop := (openEnds treeTable PySem.Challenge.pw_uf020017_08 w 6000).map (fun s => (openSeen q08 loose08 (importedModules PySem.Challenge.pw_uf020017_08.main.body) (fun s => xlAt q08 [] s && recOk (RowW.records PySem.Challenge.rw_uf020017_08.row.toRowW) s && tblX D08 s) true s, tblF D08 s)) = some (openGood q08 loose08, tblA D08 w)
theorem left08a (w : World) : top08 (w.withFollow "special-get-raises" false) := by
  unfold top08 openEnds fencedOpening topFrom
  rw [PySem.W.Fast.te10274390034422433532, PySem.W.Fast.te14082659384304107361, PySem.W.Fast.te4187177175401517315, PySem.W.Fast.te14364793385576792824, PySem.W.Fast.te1435165496053646825, PySem.W.Fast.te14289696077712309145, PySem.W.Fast.te5923862056798008813]
  kernel_rfl
theorem left08b (w : World) : top08 (w.withFollow "special-get-raises" true) := by
  unfold top08 openEnds fencedOpening topFrom
  rw [PySem.W.Fast.te10274390034422433532, PySem.W.Fast.te14082659384304107361, PySem.W.Fast.te4187177175401517315, PySem.W.Fast.te14364793385576792824, PySem.W.Fast.te1435165496053646825, PySem.W.Fast.te14289696077712309145, PySem.W.Fast.te5923862056798008813]
  kernel_rfl
theorem left08 : LeftO PySem.Challenge.rw_uf020017_08.row.prog q08 loose08 (fun s => xlAt q08 [] s && recOk (RowW.records PySem.Challenge.rw_uf020017_08.row.toRowW) s && tblX D08 s) (tblF D08) (tblA D08) 6000 :=
  byRow2 (P := top08) "special-get-raises" left08a left08b
theorem said08 : PySem.Challenge.rw_uf020017_08.wellSaid = true := by
  rw [PySem.W.Fast.te9446332074065402090]
  kernel_rfl
theorem promised08 : PySem.Challenge.rw_uf020017_08.row.toRowW.promised := by
  w_witness2
theorem glob08 (w : World) (mean : ExcName → Option Value) (mg mb : Str → Option Value) (h : Heap) (os : OsState) (X : tblXP D08 mg) (Y : tblP D08 w h) (T : Top q08 (looseW q08 loose08) mean mg mb h) (x : Str) (a : AV) (hg : P08.glob x = some a) :
    Gl ⟨PySem.Challenge.rw_uf020017_08.prog, w, h, os, mg, mb⟩ x a := by
  exact AllG.look (Q := Gl ⟨PySem.Challenge.rw_uf020017_08.prog, w, h, os, mg, mb⟩) (l := [("KINDS", g_KINDS), ("MOST_VALUES", g_MOST_VALUES), ("MOST_PROGRAMS", g_MOST_PROGRAMS), ("MOST_DEEDS", g_MOST_DEEDS), ("FIRST", g_FIRST), ("BEHIND_LOOK", g_BEHIND_LOOK), ("BEHIND_SEE", g_BEHIND_SEE)]) ⟨gl_tup (cx := ⟨PySem.Challenge.rw_uf020017_08.prog, w, h, os, mg, mb⟩) X Y (es := t08_KINDS) (a := 102) (.head _) (by kernel_rfl), gl_int (cx := ⟨PySem.Challenge.rw_uf020017_08.prog, w, h, os, mg, mb⟩) T (i := 60) (by kernel_rfl), gl_int (cx := ⟨PySem.Challenge.rw_uf020017_08.prog, w, h, os, mg, mb⟩) T (i := 20) (by kernel_rfl), gl_int (cx := ⟨PySem.Challenge.rw_uf020017_08.prog, w, h, os, mg, mb⟩) T (i := 60) (by kernel_rfl), gl_dict (cx := ⟨PySem.Challenge.rw_uf020017_08.prog, w, h, os, mg, mb⟩) X Y (es := t08_FIRST) (a := 167) (n := 5) (.tail _ (.head _)) (by decide), gl_dict (cx := ⟨PySem.Challenge.rw_uf020017_08.prog, w, h, os, mg, mb⟩) X Y (es := t08_BEHIND_LOOK) (a := 168) (n := 5) (.tail _ (.tail _ (.head _))) (by decide), gl_dict (cx := ⟨PySem.Challenge.rw_uf020017_08.prog, w, h, os, mg, mb⟩) X Y (es := t08_BEHIND_SEE) (a := 169) (n := 3) (.tail _ (.tail _ (.tail _ (.head _)))) (by decide), trivial⟩ hg
end Mine
theorem PySem.Challenge.cw_uf020017_08_holds : PySem.Challenge.rw_uf020017_08.Holds := by
  refine Mine.head_law (q := Mine.q08) (loose := Mine.loose08) (D := Mine.D08) (P := Mine.P08) (n := 8) Mine.said08 Mine.left08 (by kernel_rfl) (by kernel_rfl) (by kernel_rfl) (by kernel_rfl) (by kernel_rfl) ⟨rfl, rfl, rfl, rfl, rfl, by decide +kernel⟩ Mine.promised08 rfl rfl (by kernel_rfl) (Mine.defs_ok (by kernel_rfl) (by kernel_rfl)) (by kernel_rfl) (by decide)
    Mine.glob08 (fun ns hl => ?_)
  obtain ⟨a, H', h, rfl⟩ := Mine.s_law ns hl
  exact ⟨H', h⟩

