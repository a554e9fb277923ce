import PyProof.Rows.All
import PyProof.P3Statements
import PyProof.Claim2
import PyProof.TableCode
import PyProof.Defs
import PyProof.Rows.Top
import PyProof.Rows.CellsFrame
import PyProof.ListOps
import PyProof.TupleOps
import PyProof.P3In
import PyProof.DictTable
import PyProof.RangeFor
import PyProof.SliceMore
import PyProof.Rows.RuleB_mul
import PyProof.Rows.RuleB_floordiv
import PyProof.Rows.RuleB_mod
import PyProof.Rows.RuleB_sub
import PyProof.Rows.RuleB_small
import PyProof.Rows.RuleU_int
import PyProof.Rows.IntRules
import PyProof.Rows.ListMul
import PyProof.Rows.ListMulArg
import PyProof.NeData
import PyProof.IsiPairs
import PyProof.IsiNone
import PyProof.IsiSeqPairs
import PyProof.IsiTupleAll
import PyProof.IsiTupleOf
import PyProof.ListIndexNeg
import PyProof.DictRoads
import PyProof.ListRange
import PyProof.TupleOfSeq
import PyProof.ListCopy
import PyProof.Rows.IntOr
import PyProof.Rows.RuleC_int
import PyProof.DictStraight
import PyProof.WalkInts
import PyProof.ConsumeWalk
import PyProof.Conv_int_bool
import PyProof.Rows.TupMore
import PyProof.DictCopy
import PyProof.LetGo
import KE.KRevSl
import KE.KDictOf
import PyProof.Rows.Chain
import PyProof.Rows.TupSub
import PyProof.Rows.SeqSlice
import PyProof.ExcArgsOwn
import PyProof.ExcAttrAll.ValueError
import PyProof.ExcBaseAll.ValueError
import PyProof.IsInstance
import PyProof.RangeIter
import PyProof.TupleIter
import PyProof.CompFree
import PyProof.EnumMake
import PyProof.EnumStmt
import PyProof.Rows.Exc
import PyProof.StationsW
import OpenK.KCall
import PyProof.Raises
import PyProof.ExcClass2
import PyProof.ZipIter
import PyProof.CollectWalk
import PyProof.ListNew
import PyProof.Rows.ZipGen
import Wide.All
import OpenK.AllK
import Wide.FinOn
import PySem.Challenge.RW_uf020017_13
set_option Elab.async false
set_option tactic.hygienic false
set_option backward.match.sparseCases false
set_option genInjectivity false
set_option genSizeOf false
set_option bootstrap.genMatcherCode false
set_option autoImplicit false
set_option linter.unusedVariables false
namespace Mine
open PySem PyProof.Rows

inductive AV where
  | none
  | bool (b : Bool)
  | int (i : Int)
  | str (s : Str)
  | tup (xs : List AV)
  | lst (xs : List AV)
  | loc (l : Nat)
  | range (a b : Int)
  | cdict (es : List (Str × Str))
  | exc (c : Str)

inductive AO where
  | list (xs : List AV)
  | dict (es : List (Str × AV))

abbrev AHeap := List AO

noncomputable def LIM : Nat := 2 ^ 20

abbrev M := ExceptT Str (StateT AHeap Option)
noncomputable def stuck {α : Type} : M α := fun u_ => none

noncomputable def FUEL : Nat := 100000

theorem no_some {α : Type} {x : α} {C : Prop} (h : (none : Option α) = some x) : C := nomatch h
theorem no_true {C : Prop} (h : false = true) : C := nomatch h
theorem byC {G : Prop} (h : ∀ C : Prop, (G → C) → C) : G := h G id
noncomputable def rd (H : AHeap) : Nat → AV → Option PyData
  | _, .none => some .none
  | _, .bool b => some (.bool b)
  | _, .int i => some (.int i)
  | _, .str x => if PyData.strOk x then some (.str x) else none
  | n + 1, .tup xs => (xs.mapM (rd H n)).map .tuple
  | n + 1, .lst xs => (xs.mapM (rd H n)).map .list
  | n + 1, .loc l => match H[l]? with
    | some (.list xs) => (xs.mapM (rd H n)).map .list
    | _ => none
  | _, _ => none

noncomputable def objAt (l : Nat) : M AO := fun H => match H[l]? with
  | some o => some (.ok o, H)
  | none => none
noncomputable def asList : AO → M (List AV)
  | .list xs => pure xs
  | .dict _ => stuck
noncomputable def asDict : AO → M (List (Str × AV))
  | .list _ => stuck
  | .dict es => pure es
noncomputable def setAt (l : Nat) (o : AO) : M Unit := fun H => some (.ok (), H.set l o)
noncomputable def listAt (l : Nat) : M (List AV) := do asList (← objAt l)
noncomputable def dictAt (l : Nat) : M (List (Str × AV)) := do asDict (← objAt l)
noncomputable def listOf : AV → M (List AV)
  | .lst xs => pure xs
  | .loc l => listAt l
  | _ => stuck
noncomputable def seqOf : AV → M (List AV)
  | .tup xs => pure xs
  | .lst xs => pure xs
  | .loc l => listAt l
  | _ => stuck
noncomputable def newO (o : AO) : M AV := fun H => some (.ok (.loc H.length), H ++ [o])
noncomputable def newL (mu : Bool) (xs : List AV) : M AV := if xs.length ≤ LIM then (match mu with
    | true => newO (.list xs)
    | false => pure (.lst xs)) else stuck
noncomputable def newD (es : List (Str × AV)) : M AV := newO (.dict es)

noncomputable def truth : AV → M Bool
  | .bool b => pure b
  | _ => stuck

noncomputable def isL : AV → Bool
  | .lst _ | .loc _ => true
  | _ => false
noncomputable def isTp : AV → Bool
  | .tup _ => true
  | _ => false

noncomputable def asI (v : AV) : Option Int := match v with
  | .int i => some i
  | _ => none
noncomputable def int2 (a b : AV) (f : Int → Int → M AV) : M AV := match asI a with
  | some i => match asI b with
    | some j => f i j
    | none => stuck
  | none => stuck
noncomputable def addTup (xs : List AV) (b : AV) : M AV := match b with
  | .tup ys => if xs.isEmpty || ys.isEmpty || decide (LIM < xs.length + ys.length) then stuck else pure (.tup (xs ++ ys))
  | _ => stuck
noncomputable def addSeq (mu : Bool) (a b : AV) : M AV := match a with
  | .tup xs => addTup xs b
  | a => do
    let xs ← listOf a
    let ys ← listOf b
    newL mu (xs ++ ys)
noncomputable def bAdd (mu : Bool) (a b : AV) : M AV := match asI a with
  | some i => match asI b with
    | some j => pure (.int (i + j))
    | none => stuck
  | none => addSeq mu a b
noncomputable def bMul (mu : Bool) (a b : AV) : M AV := match asI b with
  | some n => match asI a with
    | some i => if n.natAbs < 2 ^ 64 ∨ i.natAbs < 2 ^ 64 then pure (.int (i * n)) else stuck
    | none => do
      let xs ← listOf a
      if n < 0 ∨ 1048576 < n ∨ LIM < n.toNat * xs.length then stuck else newL mu (List.replicate n.toNat xs).flatten
  | none => stuck
noncomputable def pBin (mu : Bool) (op : Operator) (a b : AV) : M AV := match op with
  | .Add => bAdd mu a b
  | .Sub => int2 a b fun i j => pure (.int (i - j))
  | .Mult => bMul mu a b
  | .FloorDiv => int2 a b fun i j => if j = 0 ∨ 1073741824 ≤ j.natAbs then stuck else pure (.int (i.fdiv j))
  | .Mod => int2 a b fun i j => if j = 0 then stuck else pure (.int (i.fmod j))
  | .Pow => int2 a b fun i j => if i = 10 ∧ j = 20 then pure (.int 100000000000000000000) else stuck
  | _ => stuck

noncomputable def pNeg : AV → M AV
  | .int i => pure (.int (-i))
  | _ => stuck

noncomputable def cmpI (op : CmpOp) (i j : Int) : M Bool := match op with
  | .Lt => pure (decide (i < j))
  | .LtE => pure (decide (i ≤ j))
  | .Gt => pure (decide (j < i))
  | .GtE => pure (decide (j ≤ i))
  | _ => stuck
noncomputable def rdM (a : AV) : M PyData := fun H => match rd H 8 a with
  | some d => some (.ok d, H)
  | none => none
noncomputable def itemsD : PyData → M (List PyData)
  | .list ys => pure ys
  | .tuple ys => pure ys
  | _ => stuck
noncomputable def pEq (a b : AV) : M Bool := do
  let x ← rdM a
  let y ← rdM b
  pure (PyData.eqv x y)
noncomputable def pIn (a b : AV) : M Bool := do
  let x ← rdM a
  let y ← rdM b
  let ys ← itemsD y
  pure (ys.any fun y => PyData.eqv y x)
noncomputable def pIsNone : AV → Bool
  | .none => true
  | _ => false
noncomputable def pCmp (op : CmpOp) (a b : AV) : M Bool := match op with
  | .Eq => pEq a b
  | .NotEq => do let r ← pEq a b; pure (!r)
  | .In => pIn a b
  | .NotIn => do let r ← pIn a b; pure (!r)
  | .Is => match b with
    | .none => pure (pIsNone a)
    | _ => stuck
  | .IsNot => match b with
    | .none => pure (!pIsNone a)
    | _ => stuck
  | op => match asI a with
    | some i => match asI b with
      | some j => cmpI op i j
      | none => stuck
    | none => stuck

noncomputable def idx (k : Int) (n : Nat) : Option Nat := if 0 ≤ k then (if k < n then some k.toNat else none) else (if -k ≤ n then some (k + n).toNat else none)

noncomputable def look {α : Type} (es : List (Str × α)) (k : Str) : Option α := (es.find? fun e => e.1 = k).map (·.2)
noncomputable def put (es : List (Str × AV)) (k : Str) (v : AV) : List (Str × AV) :=
  if es.any (fun e => e.1 = k) then es.map (fun e => if e.1 = k then (e.1, v) else e) else es ++ [(k, v)]

noncomputable def ofOpt {α : Type} : Option α → M α
  | some a => pure a
  | none => stuck

noncomputable def pItem (o i : AV) : M AV := match i with
  | .str k => match o with
    | .cdict es => do let v ← ofOpt (look es k); pure (.str v)
    | .loc l => do
      let es ← dictAt l
      ofOpt (look es k)
    | _ => stuck
  | .int k => do
    let xs ← seqOf o
    ofOpt ((idx k xs.length).bind fun j => xs[j]?)
  | _ => stuck

noncomputable def clipA (n : Nat) (i : Int) : Nat := (max 0 (min (if i < 0 then i + n else i) n)).toNat

noncomputable def cut (xs : List AV) (lo hi : Option Int) : List AV :=
  let n := xs.length
  let a := lo.elim 0 (clipA n)
  let b := hi.elim n (clipA n)
  (xs.drop a).take (b - a)

noncomputable def pSlice (mu : Bool) (o : AV) (lo hi : Option Int) : M AV := match o with
  | .tup xs => match lo, hi with
    | none, some b => if 0 ≤ b ∧ b < xs.length then pure (.tup (xs.take b.toNat)) else stuck
    | _, _ => stuck
  | o => do
    let xs ← listOf o
    newL mu (cut xs lo hi)
noncomputable def pRev (mu : Bool) (o : AV) : M AV := do
  let xs ← listOf o
  newL mu xs.reverse

noncomputable def storeK (l : Nat) (k : Str) (v : AV) : M Unit := do
  let es ← dictAt l
  if es.length < LIM then setAt l (.dict (put es k v)) else stuck
noncomputable def storeI (l : Nat) (k : Int) (v : AV) : M Unit := do
  let xs ← listAt l
  if 0 ≤ k ∧ k < xs.length then setAt l (.list (xs.set k.toNat v)) else stuck
noncomputable def pStore (o i v : AV) : M Unit := match o with
  | .loc l => (match i with
    | .str k => storeK l k v
    | .int k => storeI l k v
    | _ => stuck)
  | _ => stuck

inductive Ty where
  | int | bool | str | tuple | list
  deriving DecidableEq
noncomputable def tyOf (x : Str) : Option Ty :=
  if x = ("int" : Str) then some .int else if x = ("bool" : Str) then some .bool else if x = ("str" : Str) then some .str
  else if x = ("tuple" : Str) then some .tuple else if x = ("list" : Str) then some .list else none

noncomputable def isTy : AV → Option Ty
  | .bool _ => some .bool
  | .int _ => some .int
  | .str _ => some .str
  | .tup _ => some .tuple
  | .lst _ => some .list
  | .loc _ => some .list
  | _ => none
noncomputable def tyLe (u t : Ty) : Bool := decide (u = t) || (decide (u = .bool) && decide (t = .int))
noncomputable def pIsi (v : AV) (t : Ty) : M Bool := match v with
  | .none => pure false
  | .loc l => do
    let _ ← listAt l
    pure (tyLe .list t)
  | v => match isTy v with
    | some u => pure (tyLe u t)
    | none => stuck

inductive BI where
  | len | list | tuple | dict | int | range | min | max | any | sorted
  deriving DecidableEq
noncomputable def biOf (x : Str) : Option BI :=
  if x = ("len" : Str) then some .len else if x = ("list" : Str) then some .list else if x = ("tuple" : Str) then some .tuple
  else if x = ("dict" : Str) then some .dict else if x = ("int" : Str) then some .int else if x = ("range" : Str) then some .range
  else if x = ("min" : Str) then some .min else if x = ("max" : Str) then some .max else if x = ("any" : Str) then some .any
  else if x = ("sorted" : Str) then some .sorted else none

noncomputable def rangeL (a b : Int) : List AV := (List.range (b - a).toNat).map fun (k : Nat) => .int (a + (k : Int))
noncomputable def small62 (i : Int) : Bool := decide (-(2 ^ 62) ≤ i) && decide (i < 2 ^ 62)
noncomputable def boolsOf : List AV → Option (List Bool)
  | [] => some []
  | .bool i :: r => (boolsOf r).map (i :: ·)
  | _ => none
noncomputable def one (vs : List AV) (f : AV → M AV) : M AV := match vs with
  | [v] => f v
  | _ => stuck
noncomputable def bList (mu : Bool) (v : AV) : M AV := match v with
  | .range a b => if small62 a && small62 b then newL mu (rangeL a b) else stuck
  | v => do let xs ← seqOf v; newL mu xs
noncomputable def bInt (v : AV) : M AV := match v with
  | .bool b => pure (.int (if b then 1 else 0))
  | _ => stuck
noncomputable def bRange (vs : List AV) : M AV := match vs with
  | [v] => match asI v with
    | some n => pure (.range 0 n)
    | none => stuck
  | [v, w] => match asI v with
    | some a => match asI w with
      | some b => pure (.range a b)
      | none => stuck
    | none => stuck
  | _ => stuck
noncomputable def bMin (vs : List AV) : M AV := match vs with
  | [v, w] => match asI v with
    | some a => match asI w with
      | some b => pure (.int (if b < a then b else a))
      | none => stuck
    | none => stuck
  | _ => stuck
noncomputable def pBI (mu : Bool) (b : BI) (vs : List AV) : M AV := match b with
  | .len => one vs fun v => do let xs ← seqOf v; pure (.int xs.length)
  | .list => one vs (bList mu)
  | .tuple => one vs fun v => do let xs ← listOf v; pure (.tup xs)
  | .dict => stuck
  | .int => one vs bInt
  | .range => bRange vs
  | .min => bMin vs
  | .max => stuck
  | .any => one vs fun v => do let xs ← listOf v; let bs ← ofOpt (boolsOf xs); pure (.bool (bs.any id))
  | .sorted => stuck

noncomputable def pZip (mu : Bool) (a b : AV) : M AV := do
  let xs ← seqOf a
  let ys ← seqOf b
  if (isTp a == isTp b) && decide (xs.length = ys.length) then newL mu (List.zipWith (fun x y => .tup [x, y]) xs ys) else stuck

noncomputable def mAppend (l : Nat) (xs : List AV) : List AV → M AV
  | [v] => if xs.length < LIM then do
      setAt l (.list (xs ++ [v]))
      pure .none
    else stuck
  | _ => stuck
noncomputable def popAt (l : Nat) (xs : List AV) (i : Nat) : M AV := match xs[i]? with
  | some v => do
    setAt l (.list (xs.eraseIdx i))
    pure v
  | none => stuck
noncomputable def mPop (l : Nat) (xs : List AV) : List AV → M AV
  | [] => popAt l xs (xs.length - 1)
  | [v] => (match asI v with
    | some k => if 0 ≤ k ∧ k < xs.length then popAt l xs k.toNat else stuck
    | none => stuck)
  | _ => stuck
inductive Mt where
  | append | pop | clear | count
noncomputable def mtOf (m : Str) : Option Mt :=
  if m = ("append" : Str) then some .append else if m = ("pop" : Str) then some .pop else if m = ("clear" : Str) then some .clear
  else if m = ("count" : Str) then some .count else none
noncomputable def methL (l : Nat) (xs vs : List AV) : Mt → M AV
  | .append => mAppend l xs vs
  | .pop => mPop l xs vs
  | .clear => stuck
  | .count => stuck
noncomputable def methF (xs vs : List AV) (k : Mt) : M AV := stuck
noncomputable def pMethK (k : Mt) (o : AV) (vs : List AV) : M AV := match o with
  | .loc l => do
    let xs ← listAt l
    methL l xs vs k
  | .lst xs => methF xs vs k
  | _ => stuck
noncomputable def pMeth (m : Str) (o : AV) (vs : List AV) : M AV := match mtOf m with
  | some k => pMethK k o vs
  | none => stuck

noncomputable def pZipL (mu : Bool) : List AV → M AV
  | [a, b] => pZip mu a b
  | _ => stuck
inductive Src where
  | items (xs : List AV)
  | at (l : Nat)
  | enum (s : Src)
noncomputable def Src.get : Src → Nat → M (Option AV)
  | .items xs, i => pure xs[i]?
  | .at l, i => do
    let xs ← listAt l
    pure xs[i]?
  | .enum s, i => do
    let r ← s.get i
    pure (r.map fun v => .tup [.int i, v])

noncomputable def srcOf : AV → M Src
  | .tup xs => pure (.items xs)
  | .lst xs => pure (.items xs)
  | .range a b => if small62 a && small62 b then pure (.items (rangeL a b)) else stuck
  | .loc l => do
    let _ ← listAt l
    pure (.at l)
  | _ => stuck

noncomputable def exOk : Expr → Bool
  | .Starred _ _ => false
  | .Set _ _ _ => false
  | .IfExp _ _ _ _ => false
  | _ => true
noncomputable def evAll (ev : Expr → M AV) : List Expr → M (List AV)
  | [] => pure []
  | e :: r => do
    let v ← ev e
    let vs ← evAll ev r
    pure (v :: vs)
noncomputable def evEach (ev : Expr → M AV) (es : List Expr) : M (List AV) := if es.all exOk then evAll ev es else stuck

noncomputable def bOp (ev : Expr → M AV) (op : BoolOp) : List Expr → M AV
  | [] => stuck
  | [e] => ev e
  | e :: r => do
    let v ← ev e
    let t ← truth v
    match op with
    | .And => (match t with
      | false => pure v
      | true => bOp ev .And r)
    | .Or => (match t with
      | true => pure v
      | false => bOp ev .Or r)

noncomputable def chain (ev : Expr → M AV) (a : AV) : List CmpOp → List Expr → M Bool
  | [op], [e] => if exOk e then do
      let b ← ev e
      pCmp op a b
    else stuck
  | op :: op' :: ops, e :: e' :: es => do
    let b ← ev e
    let t ← pCmp op a b
    match t with
    | true => chain ev b (op' :: ops) (e' :: es)
    | false => pure false
  | _, _ => stuck

noncomputable def tests (te : Expr → M Bool) (op : BoolOp) : List Expr → M Bool
  | [] => pure (op == .And)
  | e :: r => do
    let t ← te e
    match op with
    | .And => (match t with
      | false => pure false
      | true => tests te .And r)
    | .Or => (match t with
      | true => pure true
      | false => tests te .Or r)

noncomputable def plainT (ev : Expr → M AV) (e : Expr) : M Bool := if exOk e then do
    let v ← ev e
    truth v
  else stuck
noncomputable def denT (ev : Expr → M AV) : Nat → Expr → M Bool
  | 0, _ => stuck
  | n + 1, e => match e with
    | .UnaryOp op x p => match op with
      | .Not => do let b ← denT ev n x; pure (!b)
      | op => plainT ev (.UnaryOp op x p)
    | .BoolOp op vs _ => tests (denT ev n) op vs
    | .Compare l ops cs _ => do let a ← ev l; chain ev a ops cs
    | e => plainT ev e

structure Fn where
  params : List Str
  names : List Str
  body : List Stmt
  scope : Scope

structure Pg where
  fn : Str → Option Fn
  glob : Str → Option AV
  mu : Pos → Bool
  /-- the text's exception classes: those of the text that each is under -/
  cls : Str → Option (List Str) := fun u_ => none
  /-- no exception is being handled -/
  free : Bool := true
noncomputable def Pg.off (P : Pg) : Pg := ⟨P.fn, P.glob, P.mu, P.cls, false⟩

abbrev Loc := List (Option AV)

noncomputable def nameV (ns : List Str) (x : Str) (σ : Loc) : M AV := match ns.idxOf? x with
  | some i => match σ[i]? with
    | some (some v) => pure v
    | _ => stuck
  | none => stuck

noncomputable def isLocal (sc : Scope) (x : Str) : Bool := match sc.names.lookup x with
  | some .local | some .cell | some .free => true
  | _ => false
noncomputable def isGlob (sc : Scope) (x : Str) : Bool := match sc.names.lookup x with
  | some .globalImplicit => true
  | _ => false

noncomputable def constV : Const → M AV
  | .none => pure .none
  | .bool b => pure (.bool b)
  | .int i => pure (.int i)
  | .str s => pure (.str s)
  | _ => stuck

noncomputable def noX {α : Type} (m : M α) : M α := fun H => match m H with
  | some (.ok a, H') => some (.ok a, H')
  | _ => none
noncomputable def compLoop (src : Src) (body : AV → M (Option AV)) : Nat → Nat → List AV → M (List AV)
  | 0, _, _ => stuck
  | f + 1, i, acc => do
    match ← src.get i with
    | none => pure acc
    | some v => do
      match ← noX (body v) with
      | none => compLoop src body f (i + 1) acc
      | some y => if acc.length < LIM then compLoop src body f (i + 1) (acc ++ [y]) else stuck

noncomputable def ifs1 (te : Expr → M Bool) : List Expr → M Bool
  | [] => pure true
  | [e] => te e
  | _ => stuck

noncomputable def strKey1 : Option Expr → Option Str
  | some (.Constant (.str k) _ _) => some k
  | _ => none
noncomputable def strKeys : List (Option Expr) → Option (List Str)
  | [] => some []
  | k :: r => (strKey1 k).bind fun x => (strKeys r).map (x :: ·)

noncomputable def intM (v : AV) : M Int := ofOpt (asI v)
noncomputable def sliceEnd (ev : Expr → M AV) : Option Expr → M (Option Int)
  | none => pure none
  | some e => do
    let v ← ev e
    let i ← intM v
    pure (some i)

noncomputable def compOk (sc : Scope) (ns : List Str) (scope : Scope) (x : Str) : Bool :=
  scope.kind == .function && scope.names.lookup x == some .local && !(ns.contains (".0" : Str)) &&
  scope.names.all fun (y, k) => match k with
    | .local => (y == x || y == (".0" : Str)) && scope.names.lookup y == some .local
    | .free => sc.names.lookup y == some .cell && ns.contains y
    | .globalImplicit => true
    | _ => false
noncomputable def plainBase : Expr → Bool
  | .Name _ _ => true
  | .Subscript _ _ _ => true
  | _ => false

noncomputable def isTL (t u : Str) : Bool := decide (t = ("tuple" : Str)) && decide (u = ("list" : Str))
noncomputable def pIsiTL : AV → M Bool
  | .none => pure false
  | .bool _ => pure false
  | .int _ => pure false
  | .str _ => pure false
  | .tup _ => pure true
  | .lst _ => pure true
  | .loc l => do
    let _ ← listAt l
    pure true
  | _ => stuck

noncomputable def dName (P : Pg) (sc : Scope) (ns : List Str) (σ : Loc) (x : Str) : M AV :=
  if x == ("__debug__" : Str) || x == ("__classdict__" : Str) then stuck else if isLocal sc x then nameV ns x σ else if isGlob sc x then ofOpt (P.glob x) else stuck
noncomputable def dUn (ev : Expr → M AV) (op : UnaryOp) (x : Expr) : M AV := match op with
  | .USub => do let v ← ev x; pNeg v
  | .Not => do let v ← ev x; let b ← truth v; pure (.bool !b)
  | _ => stuck
noncomputable def dDict (ev : Expr → M AV) (keys : List (Option Expr)) (vals : List Expr) : M AV := match strKeys keys with
  | some ks => if ks.length = vals.length ∧ ks.length ≤ 15 ∧ ks ≠ [] ∧ ks.Nodup then do
      let vs ← evEach ev vals
      newD (ks.zip vs)
    else stuck
  | none => stuck
noncomputable def isOne : Const → Bool
  | .int i => decide (i = 1)
  | _ => false
noncomputable def isC1 : Expr → Bool
  | .Constant c _ _ => isOne c
  | _ => false
noncomputable def isNegOp : UnaryOp → Bool
  | .USub => true
  | _ => false
noncomputable def isM1 : Expr → Bool
  | .UnaryOp op x _ => isNegOp op && isC1 x
  | _ => false
noncomputable def dSlice (ev : Expr → M AV) (mu : Bool) (o : Expr) (lo hi st : Option Expr) : M AV := match st with
  | none => do
    let ov ← ev o
    let a ← sliceEnd ev lo
    let b ← sliceEnd ev hi
    pSlice mu ov a b
  | some e => if isM1 e && lo.isNone && hi.isNone then do
      let ov ← ev o
      pRev mu ov
    else stuck
noncomputable def dSub (ev : Expr → M AV) (mu : Bool) (o i : Expr) : M AV := match i with
  | .Slice lo hi st _ => dSlice ev mu o lo hi st
  | i => do
    let ov ← ev o
    let iv ← ev i
    pItem ov iv
noncomputable def nameOf1 : Expr → Option (Str × Pos)
  | .Name x p => some (x, p)
  | _ => none
noncomputable def compGen : List Comprehension → Option (Str × Expr × List Expr)
  | [g] => if g.is_async = 0 then (nameOf1 g.target).map fun x => (x.1, g.iter, g.ifs) else none
  | _ => none
noncomputable def pairN : List Expr → Option ((Str × Pos) × Str × Pos)
  | [a, b] => match nameOf1 a with
    | some x => (nameOf1 b).map fun y => (x, y)
    | none => none
  | _ => none
noncomputable def callOf : Expr → Option (Str × List Expr)
  | .Call f args kws _ => match kws with
    | [] => (nameOf1 f).map fun x => (x.1, args)
    | _ => none
  | _ => none
noncomputable def isZip (sc : Scope) (args : List Expr) : Option (Expr × Expr) := match args with
  | [e] => match callOf e with
    | some (z, [x, y]) => if z = ("zip" : Str) ∧ isGlob sc z then some (x, y) else none
    | _ => none
  | _ => none
noncomputable def pIsX (P : Pg) (x : Str) : AV → M AV
  | .exc c => do
    let cs ← ofOpt (P.cls c)
    if x = ("ValueError" : Str) then pure (.bool true) else do
      let _ ← ofOpt (P.cls x)
      pure (.bool (decide (x = c) || cs.contains x))
  | _ => stuck
noncomputable def dIsX (P : Pg) (ev : Expr → M AV) (x : Str) (e : Expr) : M AV := if x = ("ValueError" : Str) ∨ (P.cls x).isSome then do
    let v ← ev e
    pIsX P x v
  else stuck
noncomputable def dIsi1 (P : Pg) (ev : Expr → M AV) (sc : Scope) (e : Expr) (t : Expr) : M AV := match t with
  | .Name t _ => if isGlob sc t then (match tyOf t with
    | some t => do
      let v ← ev e
      let b ← pIsi v t
      pure (.bool b)
    | none => dIsX P ev t e) else stuck
  | .Tuple es _ _ => match pairN es with
    | some (t, u) => if isTL t.1 u.1 && isGlob sc t.1 && isGlob sc u.1 then do
        let v ← ev e
        let b ← pIsiTL v
        pure (.bool b)
      else stuck
    | none => stuck
  | _ => stuck
noncomputable def dIsi (P : Pg) (ev : Expr → M AV) (sc : Scope) (args : List Expr) : M AV := match args with
  | [e, t] => if exOk e then dIsi1 P ev sc e t else stuck
  | _ => stuck
noncomputable def dBI (ev : Expr → M AV) (mu : Bool) (sc : Scope) (b : BI) (args : List Expr) : M AV := match (if b = .list then isZip sc args else none) with
  | some (x, y) => do
    let vs ← evEach ev [x, y]
    pZipL mu vs
  | none => do
    let vs ← evEach ev args
    pBI mu b vs
noncomputable def looksH : BI → Bool
  | .list => true
  | .min => true
  | .max => true
  | .any => true
  | _ => false
noncomputable def dCallN (P : Pg) (ev : Expr → M AV) (cf : Str → List AV → M AV) (mu : Bool) (sc : Scope) (f : Str) (args : List Expr) : M AV :=
  if isGlob sc f then (if f = ("isinstance" : Str) then dIsi P ev sc args else match biOf f with
    | some b => if P.free || !looksH b then dBI ev mu sc b args else stuck
    | none => if (P.fn f).isSome then do
        let vs ← evEach ev args
        cf f vs
      else stuck) else stuck
noncomputable def dCall (P : Pg) (ev : Expr → M AV) (cf : Str → List AV → M AV) (mu : Bool) (sc : Scope) (f : Expr) (args : List Expr) (p : Pos) : M AV := match f with
  | .Attribute o m ap => match mtOf m with
    | some k => if plainBase o && ap.endLine == p.line && decide (args.length ≤ 2) && args.all exOk then do
        let ov ← ev o
        let _ ← listOf ov
        let vs ← evAll ev args
        pMethK k ov vs
      else stuck
    | none => stuck
  | .Name f _ => dCallN P ev cf mu sc f args
  | _ => stuck

noncomputable def dComp (ev : Expr → M AV) (ec : Str → AV → Expr → M AV) (n : Nat) (mu : Bool) (sc : Scope) (ns : List Str) (scope : Scope) (elt : Expr) (gens : List Comprehension) : M AV := match compGen gens with
  | some (x, iter, ifs) => if compOk sc ns scope x && exOk iter then do
    let iv ← ev iter
    let src ← srcOf iv
    let ys ← compLoop src (fun v => do
      let t ← ifs1 (denT (ec x v) n) ifs
      if t then do
        let y ← ec x v elt
        pure (some y)
      else pure none) FUEL 0 []
    newL mu ys
    else stuck
  | none => stuck

noncomputable def den (P : Pg) (cf : Str → List AV → M AV) : Nat → Scope → List Str → Loc → Expr → M AV
  | 0, _, _, _, _ => stuck
  | n + 1, sc, ns, σ, e => match e with
    | .Constant c _ _ => constV c
    | .Name x _ => dName P sc ns σ x
    | .BoolOp op vs _ => bOp (den P cf n sc ns σ) op vs
    | .BinOp l op r p => do
      let a ← den P cf n sc ns σ l
      let b ← den P cf n sc ns σ r
      pBin (P.mu p) op a b
    | .UnaryOp op x _ => dUn (den P cf n sc ns σ) op x
    | .Compare l ops cs _ => do
      let a ← den P cf n sc ns σ l
      let b ← chain (den P cf n sc ns σ) a ops cs
      pure (.bool b)
    | .Tuple es _ _ => if es.length ≤ 100 then do let vs ← evEach (den P cf n sc ns σ) es; pure (.tup vs) else stuck
    | .List es p => do let vs ← evEach (den P cf n sc ns σ) es; newL (P.mu p) vs
    | .Dict ks vs _ => dDict (den P cf n sc ns σ) ks vs
    | .Subscript o i p => dSub (den P cf n sc ns σ) (P.mu p) o i
    | .ListComp elt gens scope p => dComp (den P cf n sc ns σ) (fun x v => den P cf n scope (x :: ns) (some v :: σ)) n (P.mu p) sc ns scope elt gens
    | .Call f args kws p => match kws with
      | [] => dCall P (den P cf n sc ns σ) cf (P.mu p) sc f args p
      | _ => stuck
    | _ => stuck

inductive Res where
  | next (σ : Loc)
  | ret (v : AV)

noncomputable def setN (ns : List Str) (x : Str) (v : AV) (σ : Loc) : M Loc := match ns.idxOf? x with
  | some i => pure (σ.set i (some v))
  | none => stuck

noncomputable def assignP (sc : Scope) (ns : List Str) (v : AV) (σ : Loc) (x y : Str) : M Loc := match v with
  | .tup vs => match vs with
    | [a, b] => if isLocal sc x && isLocal sc y then do
        let σ ← setN ns x a σ
        setN ns y b σ
      else stuck
    | _ => stuck
  | _ => stuck
noncomputable def assignTo (ev : Loc → Expr → M AV) (sc : Scope) (ns : List Str) (v : AV) (σ : Loc) : Expr → M Loc
  | .Name x _ => if isLocal sc x then setN ns x v σ else stuck
  | .Subscript o i _ => do
    let ov ← ev σ o
    let iv ← ev σ i
    pStore ov iv v
    pure σ
  | .Tuple es _ _ => match pairN es with
    | some (x, y) => assignP sc ns v σ x.1 y.1
    | none => stuck
  | _ => stuck

noncomputable def forLoop (src : Src) (body : AV → Loc → M Res) : Nat → Nat → Loc → M Res
  | 0, _, _ => stuck
  | f + 1, i, σ => do
    match ← src.get i with
    | none => pure (.next σ)
    | some v => do
      match ← body v σ with
      | .next σ' => forLoop src body f (i + 1) σ'
      | .ret w => pure (.ret w)

noncomputable def whileLoop (test : Loc → M Bool) (body : Loc → M Res) : Nat → Loc → M Res
  | 0, _ => stuck
  | f + 1, σ => do
    match ← test σ with
    | false => pure (.next σ)
    | true => do
      match ← body σ with
      | .next σ' => whileLoop test body f σ'
      | .ret w => pure (.ret w)

noncomputable def noComp : Expr → Bool
  | .ListComp _ _ _ _ => false
  | _ => true
noncomputable def isTupE : Expr → Bool
  | .Tuple _ _ _ => true
  | _ => false
noncomputable def pairOf : AV → M (AV × AV)
  | .tup [a, b] => pure (a, b)
  | _ => stuck

noncomputable def enumArg (sc : Scope) (it : Expr) : Option Expr := match callOf it with
  | some (f, [e]) => if (f = ("enumerate" : Str) ∧ isGlob sc f = true) ∧ exOk e = true then some e else none
  | _ => none
noncomputable def goOn (m : Loc → M Res) : Res → M Res
  | .next σ' => m σ'
  | .ret v => pure (.ret v)
noncomputable def bAssign (ev : Expr → M AV) (sc : Scope) (ns : List Str) (m : Loc → M Res) (σ : Loc) (e : Expr) (t : Expr) : M Res := match t with
  | .Name x _ => if isLocal sc x then do
      let v ← ev e
      let σ' ← setN ns x v σ
      m σ'
    else stuck
  | .Subscript o i _ => do
    let v ← ev e
    let ov ← ev o
    let iv ← ev i
    pStore ov iv v
    m σ
  | .Tuple es _ _ => match pairN es with
    | some (x, y) => if isTupE e || !isLocal sc x.1 || !isLocal sc y.1 then stuck else do
      let v ← ev e
      let p ← pairOf v
      let σ1 ← setN ns x.1 p.1 σ
      let σ2 ← setN ns y.1 p.2 σ1
      m σ2
    | none => stuck
  | _ => stuck
noncomputable def bFor (ev : Loc → Expr → M AV) (sc : Scope) (ns : List Str) (body : Loc → M Res) (m : Loc → M Res) (σ : Loc) (t it : Expr) : M Res := match t with
  | .Name x px => if exOk it then do
      let v ← ev σ it
      let src ← srcOf v
      let r ← forLoop src (fun v σ => do
        let σ' ← assignTo ev sc ns v σ (.Name x px)
        body σ') FUEL 0 σ
      goOn m r
    else stuck
  | .Tuple es k pt => match pairN es with
    | some (x, y) => match enumArg sc it with
      | some e => do
        let v ← ev σ e
        let _ ← listOf v
        let src ← srcOf v
        let r ← forLoop (.enum src) (fun v σ => do
          let σ' ← assignTo ev sc ns v σ (.Tuple [.Name x.1 x.2, .Name y.1 y.2] k pt)
          body σ') FUEL 0 σ
        goOn m r
      | none => stuck
    | none => stuck
  | _ => stuck

noncomputable def isStrC : Expr → Bool
  | .Constant (.str _) _ _ => true
  | _ => false
noncomputable def oneStr : List Expr → Bool
  | [e] => isStrC e
  | _ => false
noncomputable def raiseOf (sc : Scope) (P : Pg) : Option Expr → Option Str
  | some e => match callOf e with
    | some (x, args) => if oneStr args && isGlob sc x && (P.cls x).isSome && P.free then some x else none
    | none => none
  | none => none
noncomputable def throwM {α : Type} (x : Str) : M α := fun H => some (.error x, H)
noncomputable def bRaise (sc : Scope) (P : Pg) (e c : Option Expr) : M Res := match c with
  | none => match raiseOf sc P e with
    | some x => throwM x
    | none => stuck
  | some _ => stuck
noncomputable def denB (P : Pg) (cf : Str → List AV → M AV) (sc : Scope) (ns : List Str) : Nat → List Stmt → Loc → M Res
  | _, [], σ => pure (.next σ)
  | 0, _ :: _, _ => stuck
  | n + 1, s :: rest, σ => match s with
    | .Pass _ => denB P cf sc ns n rest σ
    | .Return v _ => match v with
      | none => pure (.ret .none)
      | some e => do let v ← den P cf n sc ns σ e; pure (.ret v)
    | .Expr e _ => if noComp e then do
        let _ ← den P cf n sc ns σ e
        denB P cf sc ns n rest σ
      else stuck
    | .Assign ts e _ => match ts with
      | [t] => if P.free || !isTupE t then bAssign (den P cf n sc ns σ) sc ns (denB P cf sc ns n rest) σ e t else stuck
      | _ => stuck
    | .If t b o _ => do
      let c ← denT (den P cf n sc ns σ) n t
      match c with
      | true => do
        let r ← denB P cf sc ns n b σ
        goOn (denB P cf sc ns n rest) r
      | false => do
        let r ← denB P cf sc ns n o σ
        goOn (denB P cf sc ns n rest) r
    | .For t it b o _ => match o with
      | [] => if P.free then bFor (fun σ e => den P cf n sc ns σ e) sc ns (denB P cf sc ns n b) (denB P cf sc ns n rest) σ t it else stuck
      | _ => stuck
    | .While t b o _ => match o with
      | [] => do
        let r ← whileLoop (fun σ => denT (den P cf n sc ns σ) n t) (denB P cf sc ns n b) FUEL σ
        goOn (denB P cf sc ns n rest) r
      | _ => stuck
    | .Raise e c _ => bRaise sc P e c
    | _ => stuck

noncomputable def EFUEL : Nat := 40

noncomputable def tBody (ev : Expr → M AV) : Nat → List Stmt → M Unit
  | _, [] => pure ()
  | 0, _ :: _ => stuck
  | n + 1, s :: rest => match s with
    | .Expr e _ => if noComp e then do
        let _ ← ev e
        tBody ev n rest
      else stuck
    | .If t b o _ => do
      let c ← denT ev n t
      match c with
      | true => do
        tBody ev n b
        tBody ev n rest
      | false => do
        tBody ev n o
        tBody ev n rest
    | _ => stuck
structure TryF where
  body : List Stmt
  ty : Str
  tp : Pos
  nm : Str
  h0 : Stmt
  hs : List Stmt
  hp : Pos
  pos : Pos
  rest : List Stmt
noncomputable def TryF.st (t : TryF) : List Stmt := .Try t.body [.ExceptHandler (some (.Name t.ty t.tp)) (some t.nm) (t.h0 :: t.hs) t.hp] [] [] t.pos :: t.rest
noncomputable def tryH (body rest : List Stmt) (pos : Pos) : ExceptHandler → Option TryF
  | .ExceptHandler ty nm hb hp => match ty with
    | some e => match nameOf1 e with
      | some x => match nm with
        | some n => match hb with
          | h0 :: hs => some ⟨body, x.1, x.2, n, h0, hs, hp, pos, rest⟩
          | [] => none
        | none => none
      | none => none
    | none => none
noncomputable def tryS (rest : List Stmt) : Stmt → Option TryF
  | .Try body hs o f p => match hs with
    | [h] => match o with
      | [] => match f with
        | [] => tryH body rest p h
        | _ => none
      | _ => none
    | _ => none
  | _ => none
noncomputable def tryOf : List Stmt → Option TryF
  | s :: rest => tryS rest s
  | [] => none
noncomputable def resV : Res → M AV
  | .ret v => pure v
  | .next _ => pure .none
noncomputable def onlyRet : Res → M AV
  | .ret v => pure v
  | .next _ => stuck
noncomputable def tryHand (P : Pg) (ch : Str → List AV → M AV) (sc : Scope) (ns : List Str) (t : TryF) (σ : Loc) (x : Str) : M AV := do
  let cs ← ofOpt (P.cls x)
  let _ ← ofOpt (P.cls t.ty)
  if (decide (t.ty = x) || cs.contains t.ty) && isGlob sc t.ty && decide (sc.names.lookup t.nm = some .local) then do
    let σ' ← setN ns t.nm (.exc x) σ
    let r ← noX (denB P.off ch sc ns EFUEL (t.h0 :: t.hs) σ')
    onlyRet r
  else stuck
noncomputable def tryRun (P : Pg) (cf ch : Str → List AV → M AV) (sc : Scope) (ns : List Str) (t : TryF) (σ : Loc) : M AV := fun H => match tBody (den P cf EFUEL sc ns σ) EFUEL t.body H with
  | some (.ok _, H') => (do let r ← denB P cf sc ns EFUEL t.rest σ; resV r : M AV) H'
  | some (.error x, H') => tryHand P ch sc ns t σ x H'
  | none => none
noncomputable def bodyRun (P : Pg) (cf ch : Str → List AV → M AV) (sc : Scope) (ns : List Str) (body : List Stmt) (σ : Loc) : M AV := match tryOf body with
  | some t => tryRun P cf ch sc ns t σ
  | none => do
    let r ← denB P cf sc ns EFUEL body σ
    resV r
noncomputable def cN : Nat → Pg → Str → List AV → M AV
  | 0, _, _, _ => stuck
  | n + 1, P, f, args => match P.fn f with
    | none => stuck
    | some fn =>
      if args.length = fn.params.length then bodyRun P (cN n P) (cN n P.off) fn.scope fn.names fn.body (args.map some ++ List.replicate (fn.names.length - args.length) none)
      else stuck
noncomputable abbrev callP (P : Pg) (n : Nat) : Str → List AV → M AV := cN n P

noncomputable def fnChk (fn : Fn) : Bool :=
  fn.scope.kind == .function && !fn.scope.isCoroutine && !fn.scope.isGenerator &&
  (fn.scope.names.all fun (_, k) => k == .local || k == .cell || k == .globalImplicit) &&
  decide (fn.params.Nodup) && fn.names.take fn.params.length == fn.params &&
  fn.params.all fun x => fn.scope.names.lookup x == some .local || fn.scope.names.lookup x == some .cell

end Mine


set_option autoImplicit false
set_option linter.unusedVariables false
namespace Mine
open PySem PyProof.Rows

structure Cx where
  prog : Program
  w : World
  h₀ : Heap
  os₀ : OsState
  mg : Str → Option Value
  mb : Str → Option Value
  /-- the outer calls' frames -/
  fr : List Addr
  /-- the exception that is being handled -/
  hd : Option Addr

structure Wl where
  ι : List Addr
  π : List Addr
  s : Shared
def No : Addr → Prop := fun u_ => False
structure Lv (w w' : Wl) : Prop where
  pre : w.ι <+: w'.ι
  fz : ∀ b o, w.s.heap.get? b = some o → b ∉ w.ι → b ∉ w.π → w'.s.heap.get? b = some o ∧ b ∉ w'.ι ∧ b ∉ w'.π
def UpS (cx : Cx) (b : Addr) (o : Obj) (r : Option Obj) : Prop := ∃ sl, r = some { o with slots := sl } ∧ ((b ∈ cx.fr ∧ ∃ es ep, o.data = .dict es ep) ∨ sl = o.slots)
section
variable {cx : Cx} {b : Addr} {o : Obj} {r r' : Option Obj}
theorem UpS.of (e : r = some o) : UpS cx b o r := ⟨o.slots, e, .inr rfl⟩
theorem UpS.trans (x : UpS cx b o r) (y : ∀ q, r = some q → UpS cx b q r') : UpS cx b o r' := by
  obtain ⟨sl, e, h⟩ := x
  obtain ⟨sl', e', h'⟩ := y _ e
  refine ⟨sl', e', h'.elim (fun z => .inl z) fun z => h.imp id fun z' => ?_⟩
  exact z.trans z'
theorem UpS.nd (x : UpS cx b o r) (h : ∀ es ep, o.data ≠ .dict es ep) : r = some o := by
  obtain ⟨sl, e, h'⟩ := x
  rcases h' with ⟨_, es, ep, z⟩ | z
  · exact (h es ep z).elim
  · rw [e, z]
theorem UpS.nf (x : UpS cx b o r) (h : b ∉ cx.fr) : r = some o := by
  obtain ⟨sl, e, h'⟩ := x
  rcases h' with ⟨z, _⟩ | z
  · exact (h z).elim
  · rw [e, z]
theorem UpS.ns {h h' : Heap} {m : Str → Option Value} (hn : h.Ns b m) (x : ∀ o, h.get? b = some o → UpS cx b o (h'.get? b)) : h'.Ns b m := by
  obtain ⟨o, es, ep, ho, hd, q⟩ := hn
  obtain ⟨sl, e, _⟩ := x o ho
  exact ⟨_, es, ep, e, hd, q⟩
end
structure Le (cx : Cx) (p : Addr → Prop) (w w' : Wl) : Prop extends Lv w w' where
  pv : ∀ b, b ∈ w.π → ¬ p b → b ∈ w'.π
  kp : ∀ b o, b ∈ w.π → ¬ p b → w.s.heap.get? b = some o → UpS cx b o (w'.s.heap.get? b)
def Fz (w : Wl) (b : Addr) : Prop := b ∉ w.ι ∧ b ∉ w.π

theorem Le.refl {cx : Cx} {p : Addr → Prop} (w : Wl) : Le cx p w w := ⟨⟨List.prefix_refl _, fun u_ u_ e h1 h2 => ⟨e, h1, h2⟩⟩, fun u_ h u_ => h, fun u_ u_ u_ u_ e => .of e⟩
theorem Lv.trans {a b c : Wl} (x : Lv a b) (y : Lv b c) : Lv a c := ⟨x.pre.trans y.pre, fun d o e h1 h2 => let q := x.fz d o e h1 h2; y.fz d o q.1 q.2.1 q.2.2⟩
theorem Le.trans {cx : Cx} {p : Addr → Prop} {a b c : Wl} (x : Le cx p a b) (y : Le cx p b c) : Le cx p a c where
  toLv := x.toLv.trans y.toLv
  pv := fun d h q => y.pv d (x.pv d h q) q
  kp := fun d o h1 h2 e => (x.kp d o h1 h2 e).trans fun q e' => y.kp d q (x.pv d h1 h2) h2 e'
theorem Le.weak {cx : Cx} {p q : Addr → Prop} {a b : Wl} (x : Le cx p a b) (h : ∀ d, d ∈ a.π → p d → q d) : Le cx q a b := ⟨x.toLv, fun d h1 h2 => x.pv d h1 fun z => h2 (h d h1 z), fun d o h1 h2 e => x.kp d o h1 (fun z => h2 (h d h1 z)) e⟩
theorem Le.no {cx : Cx} {p : Addr → Prop} {a b : Wl} (x : Le cx No a b) : Le cx p a b := x.weak fun u_ u_ z => z.elim
def HdAt (w : Wl) (a : Addr) : Prop := Fz w a ∧ ∃ o vs, w.s.heap.get? a = some o ∧ o.data = .fields vs ∧ vs[2]? = some .none
def HdW (cx : Cx) (w : Wl) : Prop := ∀ a, cx.hd = some a → HdAt w a
theorem HdAt.lv {w w' : Wl} {a : Addr} (x : Lv w w') (h : HdAt w a) : HdAt w' a := let ⟨h1, o, vs, h2, h3⟩ := h; let q := x.fz a o h2 h1.1 h1.2; ⟨q.2, o, vs, q.1, h3⟩
theorem HdW.lv {cx : Cx} {w w' : Wl} (x : Lv w w') (h : HdW cx w) : HdW cx w' := fun a e => (h a e).lv x
theorem Lv.keeps {w : Wl} {s' : Shared} (hk : ∀ b o, w.s.heap.get? b = some o → s'.heap.get? b = some o) : Lv w ⟨w.ι, w.π, s'⟩ := ⟨List.prefix_refl _, fun b o e h1 h2 => ⟨hk b o e, h1, h2⟩⟩
theorem Le.keeps {cx : Cx} {p : Addr → Prop} {w : Wl} {s' : Shared} (hk : ∀ b o, w.s.heap.get? b = some o → s'.heap.get? b = some o) : Le cx p w ⟨w.ι, w.π, s'⟩ :=
  ⟨.keeps hk, fun u_ h u_ => h, fun b o u_ u_ e => .of (hk b o e)⟩
theorem Le.tok {cx : Cx} {p : Addr → Prop} {w : Wl} (t : Nat) : Le cx p w ⟨w.ι, w.π, { w.s with toks := t }⟩ := .keeps fun u_ u_ e => e

def StrVs : List Str → List Value → Prop
  | [], vs => vs = []
  | x :: r, vs => ∃ t us, vs = .str x t :: us ∧ StrVs r us
mutual
noncomputable def VR (cx : Cx) (w : Wl) : AV → Value → Prop
  | .none, v => v = .none
  | .bool b, v => v = .bool b
  | .int i, v => ∃ t, v = .int i t
  | .str x, v => ∃ t, v = .str x t
  | .tup xs, v => ∃ a vs n, v = .ref a ∧ IsT w.s.heap a vs n ∧ Fz w a ∧ xs.length ≤ LIM ∧ VRs cx w xs vs.toList
  | .lst xs, v => ∃ a vs n, v = .ref a ∧ IsL w.s.heap a vs n ∧ Fz w a ∧ xs.length ≤ LIM ∧ VRs cx w xs vs.toList
  | .loc l, v => ∃ a, v = .ref a ∧ w.ι[l]? = some a
  | .range a b, v => ∃ r t u x, v = .ref r ∧ IsRange w.s.heap r a b 1 t u x ∧ Fz w r
  | .cdict es, v => ∃ d kvs, v = .ref d ∧ w.s.heap.DictOf (strKind cx.prog cx.w) d kvs ∧ Fz w d ∧ kvs.map (·.1) = es.map (·.1) ∧ StrVs (es.map (·.2)) (kvs.map (·.2))
  | .exc c, v => ∃ a o C, v = .ref a ∧ w.s.heap.get? a = some o ∧ Fz w a ∧ o.cls = .ref C ∧ cx.mg c = some (.ref C)
noncomputable def VRs (cx : Cx) (w : Wl) : List AV → List Value → Prop
  | [], vs => vs = []
  | a :: r, vs => ∃ v us, vs = v :: us ∧ VR cx w a v ∧ VRs cx w r us
end
section
variable {cx : Cx} {w w' : Wl} {p : Addr → Prop}
theorem VR.none : VR cx w .none .none := rfl
theorem VR.bool {b : Bool} : VR cx w (.bool b) (.bool b) := rfl
theorem VR.int {i : Int} {t : Tok} : VR cx w (.int i) (.int i t) := ⟨t, rfl⟩
theorem VR.str {x : Str} {t : Tok} : VR cx w (.str x) (.str x t) := ⟨t, rfl⟩
theorem VR.tup {a : Addr} {vs : Array Value} {n : Nat} {xs : List AV} (h1 : IsT w.s.heap a vs n) (h2 : Fz w a) (h3 : xs.length ≤ LIM) (h4 : VRs cx w xs vs.toList) : VR cx w (.tup xs) (.ref a) := ⟨a, vs, n, rfl, h1, h2, h3, h4⟩
theorem VR.lst {a : Addr} {vs : Array Value} {n : Nat} {xs : List AV} (h1 : IsL w.s.heap a vs n) (h2 : Fz w a) (h3 : xs.length ≤ LIM) (h4 : VRs cx w xs vs.toList) : VR cx w (.lst xs) (.ref a) := ⟨a, vs, n, rfl, h1, h2, h3, h4⟩
theorem VR.loc {l : Nat} {a : Addr} (h : w.ι[l]? = some a) : VR cx w (.loc l) (.ref a) := ⟨a, rfl, h⟩
theorem VRs.nil : VRs cx w [] [] := rfl
theorem VRs.cons {a : AV} {v : Value} {xs : List AV} {vs : List Value} (h1 : VR cx w a v) (h2 : VRs cx w xs vs) : VRs cx w (a :: xs) (v :: vs) := ⟨v, vs, rfl, h1, h2⟩

@[elab_as_elim] theorem VR.noneE {v : Value} {C : Value → Prop} (r : VR cx w .none v) (k : C .none) : C v := (show v = .none from r) ▸ k
@[elab_as_elim] theorem VR.boolE {b : Bool} {v : Value} {C : Value → Prop} (r : VR cx w (.bool b) v) (k : C (.bool b)) : C v := (show v = .bool b from r) ▸ k
@[elab_as_elim] theorem VR.intE {i : Int} {v : Value} {C : Value → Prop} (r : VR cx w (.int i) v) (k : ∀ t, C (.int i t)) : C v := by obtain ⟨t, e⟩ := r; exact e ▸ k t
@[elab_as_elim] theorem VR.strE {x : Str} {v : Value} {C : Value → Prop} (r : VR cx w (.str x) v) (k : ∀ t, C (.str x t)) : C v := by obtain ⟨t, e⟩ := r; exact e ▸ k t
@[elab_as_elim] theorem VR.tupE {xs : List AV} {v : Value} {C : Value → Prop} (r : VR cx w (.tup xs) v) (k : ∀ a vs n, IsT w.s.heap a vs n → Fz w a → xs.length ≤ LIM → VRs cx w xs vs.toList → C (.ref a)) : C v := by obtain ⟨a, vs, n, e, h1, h2, h3, h4⟩ := r; exact e ▸ k a vs n h1 h2 h3 h4
@[elab_as_elim] theorem VR.lstE {xs : List AV} {v : Value} {C : Value → Prop} (r : VR cx w (.lst xs) v) (k : ∀ a vs n, IsL w.s.heap a vs n → Fz w a → xs.length ≤ LIM → VRs cx w xs vs.toList → C (.ref a)) : C v := by obtain ⟨a, vs, n, e, h1, h2, h3, h4⟩ := r; exact e ▸ k a vs n h1 h2 h3 h4
@[elab_as_elim] theorem VR.locE {l : Nat} {v : Value} {C : Value → Prop} (r : VR cx w (.loc l) v) (k : ∀ a, w.ι[l]? = some a → C (.ref a)) : C v := by obtain ⟨a, e, h⟩ := r; exact e ▸ k a h
@[elab_as_elim] theorem VR.rangeE {a b : Int} {v : Value} {C : Value → Prop} (r : VR cx w (.range a b) v) (k : ∀ d t u x, IsRange w.s.heap d a b 1 t u x → Fz w d → C (.ref d)) : C v := by obtain ⟨d, t, u, x, e, h1, h2⟩ := r; exact e ▸ k d t u x h1 h2
@[elab_as_elim] theorem VRs.nilE {vs : List Value} {C : List Value → Prop} (r : VRs cx w [] vs) (k : C []) : C vs := (show vs = [] from r) ▸ k
@[elab_as_elim] theorem VRs.consE {a : AV} {xs : List AV} {vs : List Value} {C : List Value → Prop} (r : VRs cx w (a :: xs) vs) (k : ∀ v us, VR cx w a v → VRs cx w xs us → C (v :: us)) : C vs := by obtain ⟨v, us, e, h1, h2⟩ := r; exact e ▸ k v us h1 h2

theorem prefix_get {α : Type} {l l' : List α} (h : l <+: l') {i : Nat} {a : α} (e : l[i]? = some a) : l'[i]? = some a := by
  obtain ⟨t, rfl⟩ := h
  rw [List.getElem?_append_left (List.getElem?_eq_some_iff.mp e).1]; exact e
theorem DictOf.at' {h h' : Heap} {d : Addr} {kvs : List (Str × Value)} (x : h.DictOf (strKind cx.prog cx.w) d kvs) (e : ∀ o, h.get? d = some o → h'.get? d = some o) :
    h'.DictOf (strKind cx.prog cx.w) d kvs := by obtain ⟨o, es, ep, ho, r⟩ := x; exact ⟨o, es, ep, e o ho, r⟩
theorem DictOf.obj {h : Heap} {d : Addr} {kvs : List (Str × Value)} (x : h.DictOf (strKind cx.prog cx.w) d kvs) : ∃ o, h.get? d = some o := by obtain ⟨o, _, _, ho, _⟩ := x; exact ⟨o, ho⟩
theorem Lv.fz' (x : Lv w w') {b : Addr} {o : Obj} (e : w.s.heap.get? b = some o) (h : Fz w b) : w'.s.heap.get? b = some o ∧ Fz w' b := x.fz b o e h.1 h.2
abbrev Cx.on (cx : Cx) (l : List Addr) (d : Option Addr) : Cx := ⟨cx.prog, cx.w, cx.h₀, cx.os₀, cx.mg, cx.mb, l, d⟩
mutual
theorem VR.go (x : Lv w w') (f : List Addr) (g : Option Addr) : ∀ {a : AV} {v : Value}, VR cx w a v → VR (cx.on f g) w' a v
  | .none, _, h => h
  | .bool _, _, h => h
  | .int _, _, h => h
  | .str _, _, h => h
  | .tup _, _, h => by obtain ⟨a, vs, n, e, h1, h2, h3, h4⟩ := h; exact ⟨a, vs, n, e, (x.fz' h1 h2).1, (x.fz' h1 h2).2, h3, VRs.go x f g h4⟩
  | .lst _, _, h => by obtain ⟨a, vs, n, e, h1, h2, h3, h4⟩ := h; exact ⟨a, vs, n, e, (x.fz' h1 h2).1, (x.fz' h1 h2).2, h3, VRs.go x f g h4⟩
  | .loc _, _, h => by obtain ⟨a, e, h⟩ := h; exact ⟨a, e, prefix_get x.pre h⟩
  | .range _ _, _, h => by obtain ⟨d, t, u, y, e, h1, h2⟩ := h; exact ⟨d, t, u, y, e, (x.fz' h1 h2).1, (x.fz' h1 h2).2⟩
  | .cdict _, _, h => by obtain ⟨d, kvs, e, h1, h2, h3, h4⟩ := h; exact ⟨d, kvs, e, DictOf.at' h1 fun o q => (x.fz' q h2).1, (DictOf.obj h1).elim fun u_ q => (x.fz' q h2).2, h3, h4⟩
  | .exc _, _, h => by obtain ⟨a, o, C, e, h1, h2, h3⟩ := h; exact ⟨a, o, C, e, (x.fz' h1 h2).1, (x.fz' h1 h2).2, h3⟩
theorem VRs.go (x : Lv w w') (f : List Addr) (g : Option Addr) : ∀ {xs : List AV} {vs : List Value}, VRs cx w xs vs → VRs (cx.on f g) w' xs vs
  | [], _, h => h
  | _ :: _, _, h => by obtain ⟨v, us, e, h1, h2⟩ := h; exact ⟨v, us, e, VR.go x f g h1, VRs.go x f g h2⟩
end
theorem VR.lv (x : Lv w w') {a : AV} {v : Value} (r : VR cx w a v) : VR cx w' a v := VR.go x cx.fr cx.hd r
theorem VRs.lv (x : Lv w w') {xs : List AV} {vs : List Value} (r : VRs cx w xs vs) : VRs cx w' xs vs := VRs.go x cx.fr cx.hd r
theorem VR.mono (x : Le cx p w w') {a : AV} {v : Value} (r : VR cx w a v) : VR cx w' a v := r.lv x.toLv
theorem VRs.mono (x : Le cx p w w') {a : List AV} {v : List Value} (r : VRs cx w a v) : VRs cx w' a v := r.lv x.toLv
namespace VRs
theorem length {xs : List AV} : ∀ {vs : List Value}, VRs cx w xs vs → xs.length = vs.length := by
  induction xs with
  | nil => intro vs h; rw [show vs = [] from h]; rfl
  | cons a r ih => intro vs h; obtain ⟨_, us, rfl, _, h⟩ := h; exact congrArg Nat.succ (ih h)
theorem get {xs : List AV} : ∀ {vs : List Value}, VRs cx w xs vs → ∀ {i : Nat} {a : AV}, xs[i]? = some a → ∃ v, vs[i]? = some v ∧ VR cx w a v := by
  induction xs with
  | nil => intro vs h i a e; cases e
  | cons a r ih =>
    intro vs h i b e
    obtain ⟨v, us, rfl, h1, h2⟩ := h
    cases i with
    | zero => cases e; exact ⟨v, rfl, h1⟩
    | succ i => exact ih h2 (i := i) e
theorem append {xs ys : List AV} {ws : List Value} : ∀ {vs : List Value}, VRs cx w xs vs → VRs cx w ys ws → VRs cx w (xs ++ ys) (vs ++ ws) := by
  induction xs with
  | nil => intro vs h y; rw [show vs = [] from h]; exact y
  | cons a r ih => intro vs h y; obtain ⟨v, us, rfl, h1, h2⟩ := h; exact ⟨v, _, rfl, h1, ih h2 y⟩
theorem drop {xs : List AV} : ∀ {vs : List Value} (n : Nat), VRs cx w xs vs → VRs cx w (xs.drop n) (vs.drop n) := by
  induction xs with
  | nil => intro vs n h; rw [show vs = [] from h, List.drop_nil, List.drop_nil]; exact .nil
  | cons a r ih =>
    intro vs n h
    cases n with
    | zero => exact h
    | succ n => obtain ⟨v, us, rfl, h1, h2⟩ := h; exact ih n h2
theorem take {xs : List AV} : ∀ {vs : List Value} (n : Nat), VRs cx w xs vs → VRs cx w (xs.take n) (vs.take n) := by
  induction xs with
  | nil => intro vs n h; rw [show vs = [] from h, List.take_nil, List.take_nil]; exact .nil
  | cons a r ih =>
    intro vs n h
    obtain ⟨v, us, rfl, h1, h2⟩ := h
    cases n with
    | zero => exact .nil
    | succ n => exact .cons h1 (ih n h2)
theorem set {xs : List AV} {a : AV} {v : Value} : ∀ {vs : List Value} (n : Nat), VRs cx w xs vs → VR cx w a v → VRs cx w (xs.set n a) (vs.set n v) := by
  induction xs with
  | nil => intro vs n h y; rw [show vs = [] from h]; exact .nil
  | cons b r ih =>
    intro vs n h y
    obtain ⟨u, us, rfl, h1, h2⟩ := h
    cases n with
    | zero => exact .cons y h2
    | succ n => exact .cons h1 (ih n h2 y)
theorem eraseIdx {xs : List AV} : ∀ {vs : List Value} (n : Nat), VRs cx w xs vs → VRs cx w (xs.eraseIdx n) (vs.eraseIdx n) := by
  induction xs with
  | nil => intro vs n h; rw [show vs = [] from h]; exact .nil
  | cons b r ih =>
    intro vs n h
    obtain ⟨u, us, rfl, h1, h2⟩ := h
    cases n with
    | zero => exact h2
    | succ n => exact .cons h1 (ih n h2)
theorem reverse {xs : List AV} : ∀ {vs : List Value}, VRs cx w xs vs → VRs cx w xs.reverse vs.reverse := by
  induction xs with
  | nil => intro vs h; rw [show vs = [] from h]; exact .nil
  | cons a r ih => intro vs h; obtain ⟨v, us, rfl, h1, h2⟩ := h; rw [List.reverse_cons, List.reverse_cons]; exact (ih h2).append (.cons h1 .nil)
theorem rep {xs : List AV} {vs : List Value} (x : VRs cx w xs vs) : ∀ k : Nat, VRs cx w (List.replicate k xs).flatten (List.replicate k vs).flatten
  | 0 => .nil
  | k + 1 => by rw [List.replicate_succ, List.replicate_succ, List.flatten_cons, List.flatten_cons]; exact x.append (rep x k)
theorem size {xs : List AV} {vs : Array Value} (x : VRs cx w xs vs.toList) : vs.size = xs.length := by rw [x.length]; rfl
end VRs

def OR (cx : Cx) (w : Wl) (a : Addr) : AO → Prop
  | .list xs => ∃ vs n, IsL w.s.heap a vs n ∧ xs.length ≤ LIM ∧ VRs cx w xs vs.toList
  | .dict es => ∃ kvs, w.s.heap.DictOf (strKind cx.prog cx.w) a kvs ∧ ((a == sysModules) = false ∧ es.length ≤ LIM) ∧ kvs.map (·.1) = es.map (·.1) ∧ VRs cx w (es.map (·.2)) (kvs.map (·.2))
theorem OR.go (x : Lv w w') (f : List Addr) (g : Option Addr) {a : Addr} (e : ∀ q, w.s.heap.get? a = some q → w'.s.heap.get? a = some q) {o : AO} (h : OR cx w a o) : OR (cx.on f g) w' a o := by
  cases o with
  | list xs => obtain ⟨vs, n, h1, h2, h3⟩ := h; exact ⟨vs, n, e _ h1, h2, h3.go x f g⟩
  | dict es => obtain ⟨kvs, h1, h2, h3, h4⟩ := h; exact ⟨kvs, DictOf.at' h1 e, h2, h3, h4.go x f g⟩
theorem OR.keep (x : Lv w w') {a : Addr} (e : ∀ q, w.s.heap.get? a = some q → w'.s.heap.get? a = some q) {o : AO} (h : OR cx w a o) : OR cx w' a o := OR.go x cx.fr cx.hd e h
theorem OR.obj {a : Addr} {o : AO} (h : OR cx w a o) : ∃ q, w.s.heap.get? a = some q := by
  cases o with
  | list xs => obtain ⟨_, _, h1, _⟩ := h; exact ⟨_, h1⟩
  | dict es => obtain ⟨_, h1, _⟩ := h; exact DictOf.obj h1
structure St (cx : Cx) (w : Wl) (H : AHeap) : Prop where
  base : ∀ b o, cx.h₀.get? b = some o → w.s.heap.get? b = some o ∧ b ∉ w.ι ∧ b ∉ w.π
  len : w.ι.length = H.length
  nodup : w.ι.Nodup
  dj : ∀ a ∈ w.ι, a ∉ w.π
  pvx : ∀ a ∈ w.π, ∃ o, w.s.heap.get? a = some o
  own : ∀ (l : Nat) (a : Addr) (o : AO), w.ι[l]? = some a → H[l]? = some o → OR cx w a o
  gens : w.s.gens = #[]
  os : w.s.os = cx.os₀
  sysm : ∃ o, cx.h₀.get? cStatics = some o
end
end Mine


set_option autoImplicit false
set_option linter.unusedVariables false
namespace Mine
open PySem PyProof.Rows

def XF (vs : Array Value) : Prop := vs[1]? = some .none
def XT (n : Addr → Prop) (w : Wl) (a : Addr) (vs : Array Value) : Prop := ∃ T o ts fl, vs[1]? = some (.ref T) ∧ T ∈ w.π ∧ (T ≠ a ∧ n T) ∧ w.s.heap.get? T = some o ∧ o.data = .fields ts ∧ ts[3]? = some fl
structure XA (cx : Cx) (n : Addr → Prop) (w : Wl) (x : Str) (e : Value) (a : Addr) (o : Obj) (vs : Array Value) : Prop where
  ref : e = .ref a
  pv : a ∈ w.π
  new : n a
  at' : w.s.heap.get? a = some o
  data : o.data = .fields vs
  cls : ∃ C, o.cls = .ref C ∧ cx.mg x = some (.ref C)
  zero : ∃ v, vs[0]? = some v
  two : vs[2]? = some .none
def FrAt (w : Wl) (b : Addr) : Prop := b ∈ w.π ∧ ∃ o es ep, w.s.heap.get? b = some o ∧ o.data = .dict es ep
def XR (cx : Cx) (n : Addr → Prop) (w : Wl) (x : Str) (e : Value) : Prop := (∀ b, b ∈ cx.fr → FrAt w b) ∧ ∃ a o vs, XA cx n w x e a o vs ∧ (XF vs ∨ XT n w a vs)
theorem XA.mono {cx : Cx} {n n' : Addr → Prop} {w : Wl} {x : Str} {e : Value} {a : Addr} {o : Obj} {vs : Array Value} (X : XA cx n w x e a o vs) (h : ∀ b, n b → n' b) : XA cx n' w x e a o vs := ⟨X.ref, X.pv, h _ X.new, X.at', X.data, X.cls, X.zero, X.two⟩
theorem XT.mono {n n' : Addr → Prop} {w : Wl} {a : Addr} {vs : Array Value} (X : XT n w a vs) (h : ∀ b, n b → n' b) : XT n' w a vs := by obtain ⟨T, o, ts, fl, h1, h2, h3, h4⟩ := X; exact ⟨T, o, ts, fl, h1, h2, ⟨h3.1, h _ h3.2⟩, h4⟩
theorem XR.mono {cx : Cx} {n n' : Addr → Prop} {w : Wl} {x : Str} {e : Value} (X : XR cx n w x e) (h : ∀ b, n b → n' b) : XR cx n' w x e := by obtain ⟨h1, a, o, vs, h2, h3⟩ := X; exact ⟨h1, a, o, vs, h2.mono h, h3.imp id fun z => z.mono h⟩
def Nw (p : Addr → Prop) (w : Wl) (b : Addr) : Prop := b ∉ w.π ∧ ¬ p b
def Post (cx : Cx) (p : Addr → Prop) (w : Wl) {α β : Type} (R : Wl → α → β → Prop) (r : Except Str α) (H' : AHeap) (b : β) (s' : Shared) : Prop :=
  ∃ ι π a, r = .ok a ∧ Le cx p w ⟨ι, π, s'⟩ ∧ St cx ⟨ι, π, s'⟩ H' ∧ R ⟨ι, π, s'⟩ a b
def PostX (cx : Cx) (p : Addr → Prop) (w : Wl) {α : Type} (r : Except Str α) (H' : AHeap) (e : Value) (s' : Shared) : Prop :=
  ∃ ι π x, r = .error x ∧ Le cx p w ⟨ι, π, s'⟩ ∧ St cx ⟨ι, π, s'⟩ H' ∧ XR cx (Nw p w) ⟨ι, π, s'⟩ x e ∧ ∀ b, p b → b ∈ π
theorem Post.el {cx : Cx} {p : Addr → Prop} {w : Wl} {α β : Type} {R : Wl → α → β → Prop} {r : Except Str α} {H' : AHeap} {b : β} {s' : Shared} {C : Prop} (h : Post cx p w R r H' b s') (k : ∀ ι π a, r = .ok a → Le cx p w ⟨ι, π, s'⟩ → St cx ⟨ι, π, s'⟩ H' → R ⟨ι, π, s'⟩ a b → C) : C := by
  refine byC fun C_ k_ => ?_
  obtain ⟨ι, π, a, e, l, S, q⟩ := h
  refine k_ ?_
  clear k_ C_
  exact k ι π a e l S q
theorem PostX.el {cx : Cx} {p : Addr → Prop} {w : Wl} {α : Type} {r : Except Str α} {H' : AHeap} {e : Value} {s' : Shared} {C : Prop} (h : PostX cx p w r H' e s') (k : ∀ ι π x, r = .error x → Le cx p w ⟨ι, π, s'⟩ → St cx ⟨ι, π, s'⟩ H' → XR cx (Nw p w) ⟨ι, π, s'⟩ x e → (∀ b, p b → b ∈ π) → C) : C := by
  refine byC fun C_ k_ => ?_
  obtain ⟨ι, π, x, e, l, S, X, O⟩ := h
  refine k_ ?_
  clear k_ C_
  exact k ι π x e l S X O
theorem Post.out {cx : Cx} {p : Addr → Prop} {w : Wl} {α β : Type} {R : Wl → α → β → Prop} {x : Str} {H' : AHeap} {b : β} {s' : Shared} {C : Prop} (h : Post cx p w R (.error x) H' b s') : C := h.el fun u_ u_ u_ e u_ u_ u_ => nomatch e
theorem PostX.out {cx : Cx} {p : Addr → Prop} {w : Wl} {α : Type} {a : α} {H' : AHeap} {e : Value} {s' : Shared} {C : Prop} (h : PostX cx p w (.ok a) H' e s') : C := h.el fun u_ u_ u_ e u_ u_ u_ u_ => nomatch e
def Rf (cx : Cx) (A : Around) (p : Addr → Prop) (w : Wl) {α β : Type} (R : Wl → α → β → Prop) (m : M α) (t : Sem β) : Prop :=
  ∀ H, St cx w H → ∀ r H', m H = some (r, H') → wpAny (model cx.prog cx.w) A t (Post cx p w R r H') (PostX cx p w r H') w.s

theorem pure_some {α : Type} {a : α} {r : Except Str α} {H H' : AHeap} (h : (pure a : M α) H = some (r, H')) : r = .ok a ∧ H' = H := by
  change some (Except.ok a, H) = some (r, H') at h; cases h; exact ⟨rfl, rfl⟩
theorem bindM {α β : Type} (m : M α) (f : α → M β) (H : AHeap) : (m >>= f) H = (m H).bind fun q => match q.1 with
    | .ok a => f a q.2
    | .error x => some (.error x, q.2) := by
  show Option.bind (m H) _ = _
  congr 1
  funext q
  obtain ⟨r, H1⟩ := q
  cases r <;> rfl
theorem bind_inv {α β : Type} {m : M α} {f : α → M β} {H : AHeap} {r : Except Str β} {H'' : AHeap} {C : Prop} (h : (m >>= f) H = some (r, H'')) (k : ∀ a H', m H = some (.ok a, H') → f a H' = some (r, H'') → C)
    (kx : ∀ x, m H = some (.error x, H'') → r = .error x → C) : C := by
  rw [bindM] at h
  cases hm : m H with
  | none => rw [hm] at h; cases h
  | some q =>
    rw [hm] at h
    obtain ⟨r1, H1⟩ := q
    cases r1 with
    | ok a => exact k a H1 hm h
    | error x => cases h; exact kx x hm rfl

section
variable {cx : Cx} {A : Around} {p : Addr → Prop} {w : Wl} {α β γ δ : Type} {R : Wl → α → β → Prop} {R' : Wl → γ → δ → Prop} {m : M α} {t : Sem β} {f : α → M γ} {k : β → Sem δ}
theorem Rf.stuck : Rf cx A p w R (Mine.stuck : M α) t := fun H S r H' h => nomatch h
theorem Post.here {a : α} {b : β} {H : AHeap} (S : St cx w H) (h : R w a b) : Post cx p w R (.ok a) H b w.s := ⟨w.ι, w.π, a, rfl, .refl _, S, h⟩
theorem Post.le {p : Addr → Prop} {w w' : Wl} {r : Except Str α} {H' : AHeap} {b : β} {s' : Shared} (l : Le cx p w w') (x : Post cx p w' R r H' b s') : Post cx p w R r H' b s' := x.el fun ι π c e l2 S q => ⟨ι, π, c, e, l.trans l2, S, q⟩
theorem PostX.le {p : Addr → Prop} {w w' : Wl} {r : Except Str α} {H' : AHeap} {b : Value} {s' : Shared} (l : Le cx p w w') (x : PostX cx p w' r H' b s') : PostX cx p w r H' b s' := x.el fun ι π c e l2 S X O => ⟨ι, π, c, e, l.trans l2, S, X.mono fun b h => ⟨fun z => h.1 (l.pv b z h.2), h.2⟩, O⟩
theorem PostX.weak {p q : Addr → Prop} {w : Wl} {r : Except Str α} {H' : AHeap} {b : Value} {s' : Shared} (x : PostX cx p w r H' b s') (h : ∀ d, d ∈ w.π → p d → q d) (hq : ∀ d, q d → p d ∨ d ∈ w.π) : PostX cx q w r H' b s' := x.el fun ι π c e l S X O => ⟨ι, π, c, e, l.weak h, S, X.mono fun b h => ⟨h.1, fun z => (hq b z).elim h.2 h.1⟩, fun b hb => (hq b hb).elim (O b) fun z => (Classical.em (p b)).elim (O b) (l.pv b z)⟩
theorem PostX.no {p : Addr → Prop} {w : Wl} {r : Except Str α} {H' : AHeap} {b : Value} {s' : Shared} (x : PostX cx No w r H' b s') (hq : ∀ d, p d → d ∈ w.π) : PostX cx p w r H' b s' := x.weak (fun u_ u_ z => z.elim) fun d h => .inr (hq d h)
theorem Rf.run (x : Rf cx A p w R m t) {H : AHeap} (S : St cx w H) {r : Except Str γ} {H' : AHeap} (h : (m >>= f) H = some (r, H')) {K : β → Shared → Prop} (k : ∀ w1 a b H1, Le cx p w w1 → St cx w1 H1 → R w1 a b → f a H1 = some (r, H') → K b w1.s) :
    wpAny (model cx.prog cx.w) A t K (PostX cx p w r H') w.s := by
  refine bind_inv h (fun a H1 h1 h2 => ?_) fun e h1 h2 => ?_
  · refine wpAny_mono (x H S _ H1 h1) (fun b s1 z_ => z_.el fun ι π a' e l S1 r1 => ?_) fun u_ u_ z_ => z_.out
    cases e
    exact k _ a b H1 l S1 r1 h2
  · subst h2
    exact wpAny_mono (x H S _ H' h1) (fun b s1 z_ => z_.out) fun d s2 z_ => z_.el fun ι2 π2 c e2 l2 S2 X2 O2 => ⟨ι2, π2, c, by cases e2; rfl, l2, S2, X2, O2⟩
theorem Rf.seqw {T : Sem δ} (x : Rf cx A p w R m t) (y : ∀ w' a b, Le cx p w w' → R w' a b → Rf cx A p w' R' (f a) (k b))
    (hT : ∀ {Q : δ → Shared → Prop} {E : Value → Shared → Prop}, wpAny (model cx.prog cx.w) A t (fun b s' => wpAny (model cx.prog cx.w) A (k b) Q E s') E w.s → wpAny (model cx.prog cx.w) A T Q E w.s) : Rf cx A p w R' (m >>= f) T := fun H S r H' h =>
  hT (x.run S h fun w1 a b H1 l S1 r1 h2 => wpAny_mono (y w1 a b l r1 H1 S1 r H' h2) (fun u_ u_ q => q.le l) fun u_ u_ q => q.le l)
theorem Rf.bind (x : Rf cx A p w R m t) (y : ∀ w' a b, Le cx p w w' → R w' a b → Rf cx A p w' R' (f a) (k b)) : Rf cx A p w R' (m >>= f) (t >>= k) := x.seqw y wpAny_bind
theorem Rf.img {R' : Wl → α → δ → Prop} {g : β → δ} {t' : Sem δ} (x : Rf cx A p w R m t) (hR : ∀ w' a b, R w' a b → R' w' a (g b))
    (h : ∀ {Q : δ → Shared → Prop} {E : Value → Shared → Prop}, wpAny (model cx.prog cx.w) A t (fun b s' => Q (g b) s') E w.s → wpAny (model cx.prog cx.w) A t' Q E w.s) : Rf cx A p w R' m t' := fun H S r H' e =>
  h (wpAny_mono (x H S r H' e) (fun b u_ z_ => z_.el fun ι π a e l s r => ⟨ι, π, a, e, l, s, hR _ a b r⟩) fun u_ u_ z => z)
theorem Rf.pure {a : α} {b : β} (h : R w a b) : Rf cx A p w R (Pure.pure a) (Pure.pure b) := fun H S r H' q => by
  obtain ⟨rfl, rfl⟩ := pure_some q
  exact wpAny_pure (Post.here S h)
theorem Rf.weak {q : Addr → Prop} (x : Rf cx A p w R m t) (h : ∀ d, d ∈ w.π → p d → q d) (hq : ∀ d, q d → p d ∨ d ∈ w.π) : Rf cx A q w R m t := fun H S r H' e =>
  wpAny_mono (x H S r H' e) (fun u_ u_ z_ => z_.el fun ι π a e l s r => ⟨ι, π, a, e, l.weak h, s, r⟩) fun u_ u_ z => z.weak h hq
theorem Rf.no (x : Rf cx A No w R m t) (hq : ∀ d, p d → d ∈ w.π) : Rf cx A p w R m t := x.weak (fun u_ u_ z => z.elim) fun d h => .inr (hq d h)
theorem Rf.map {δ : Type} {R' : Wl → α → δ → Prop} {k : β → Sem δ} (x : Rf cx A p w R m t) (y : ∀ w' a b, Le cx p w w' → R w' a b → Rf cx A p w' R' (Pure.pure a) (k b)) : Rf cx A p w R' m (t >>= k) := by
  have := Rf.bind (f := Pure.pure) x y
  rwa [bind_pure] at this
theorem Rf.mono {R' : Wl → α → β → Prop} (x : Rf cx A p w R m t) (h : ∀ w' a b, Le cx p w w' → R w' a b → R' w' a b) : Rf cx A p w R' m t := fun H S r H' e =>
  wpAny_mono (x H S r H' e) (fun b u_ z_ => z_.el fun ι π a e l s r => ⟨ι, π, a, e, l, s, h _ a b l r⟩) fun u_ u_ z => z
theorem Rf.standAt {q : Pos} (x : Rf cx A p w R m t) : Rf cx A p w R m (PySem.standAt q >>= fun u_ => t) := fun H S r H' e => wpAny_bind (wpAny_standAt (x H S r H' e))
theorem Rf.holding {vs : List Value} (x : Rf cx A p w R m t) : Rf cx A p w R m (PySem.holding vs t) := fun H S r H' e => wpAny_holding (x H S r H' e)
def Rd (cx : Cx) (w : Wl) {γ : Type} (m : M γ) (K : γ → Prop) : Prop := ∀ H, St cx w H → ∀ r H', m H = some (r, H') → H' = H ∧ ∃ c, r = .ok c ∧ K c
theorem Rf.read {m : M γ} {f : γ → M α} {K : γ → Prop} (x : Rd cx w m K) (y : ∀ c, K c → Rf cx A p w R (f c) t) : Rf cx A p w R (m >>= f) t := fun H S r H' h =>
  bind_inv h (fun a H1 h1 h2 => by obtain ⟨rfl, c, e, hc⟩ := x H S _ H1 h1; cases e; exact y a hc H1 S r H' h2) fun e h1 h2 => by obtain ⟨_, c, e, _⟩ := x H S _ H' h1; cases e
theorem Rd.pure {c : γ} {K : γ → Prop} (h : K c) : Rd cx w (Pure.pure c) K := fun H S r H' e => by obtain ⟨rfl, rfl⟩ := pure_some e; exact ⟨rfl, c, rfl, h⟩
theorem Rd.stuck {K : γ → Prop} : Rd cx w (Mine.stuck : M γ) K := fun H S r H' e => nomatch e
theorem Rd.bind {m : M γ} {f : γ → M δ} {K : γ → Prop} {J : δ → Prop} (x : Rd cx w m K) (y : ∀ c, K c → Rd cx w (f c) J) : Rd cx w (m >>= f) J := fun H S r H' h =>
  bind_inv h (fun a H1 h1 h2 => by obtain ⟨rfl, c, e, hc⟩ := x H S _ H1 h1; cases e; exact y a hc H1 S r H' h2) fun e h1 h2 => by obtain ⟨_, c, e, _⟩ := x H S _ H' h1; cases e
theorem Rd.mono {m : M γ} {K J : γ → Prop} (x : Rd cx w m K) (y : ∀ c, K c → J c) : Rd cx w m J := fun H S r H' h => by obtain ⟨e, c, h1, h2⟩ := x H S r H' h; exact ⟨e, c, h1, y c h2⟩
theorem Rd.opt {o : Option γ} : Rd cx w (ofOpt o) (fun c => o = some c) := by
  cases o with
  | none => exact .stuck
  | some c => exact .pure rfl
theorem Rf.leaf {c : α} (x : ∀ H, St cx w H → wpAny (model cx.prog cx.w) A t (Post cx p w R (.ok c) H) (PostX cx p w (.ok c : Except Str α) H) w.s) : Rf cx A p w R (Pure.pure c) t := fun H S r H' h => by
  obtain ⟨rfl, rfl⟩ := pure_some h
  exact x _ S
end

section
variable {cx : Cx} {A : Around} {p : Addr → Prop} {w : Wl} {H : AHeap}
theorem get_size (h : Heap) : h.get? h.objs.size = none := by
  cases e : h.get? h.objs.size with
  | none => rfl
  | some o => exact absurd (Heap.lt_size e) (Nat.lt_irrefl _)
namespace St
theorem obj (S : St cx w H) {a : Addr} (ha : a ∈ w.ι) : ∃ q, w.s.heap.get? a = some q := by
  obtain ⟨l, hl, e⟩ := List.mem_iff_getElem.mp ha
  exact (S.own l a (H[l]'(S.len ▸ hl)) (by rw [List.getElem?_eq_getElem hl, e]) (List.getElem?_eq_getElem _)).obj
theorem new (S : St cx w H) {a : Addr} (ha : w.s.heap.get? a = none) : Fz w a :=
  ⟨fun h => (S.obj h).elim fun u_ e => (nomatch ha.symm.trans e), fun h => (S.pvx a h).elim fun u_ e => nomatch ha.symm.trans e⟩
theorem not_sys (S : St cx w H) : (w.s.heap.objs.size == sysModules) = false := by
  obtain ⟨o, e⟩ := S.sysm
  have h1 := Heap.lt_size (S.base _ _ e).1
  exact beq_eq_false_iff_ne.mpr (Nat.ne_of_gt (Nat.lt_trans (by decide) h1))
theorem keeps (S : St cx w H) {h' : Heap} {t : Nat} (hk : ∀ b o, w.s.heap.get? b = some o → h'.get? b = some o) : St cx ⟨w.ι, w.π, { w.s with heap := h', toks := t }⟩ H where
  base := fun b o e => let q := S.base b o e; ⟨hk b o q.1, q.2⟩
  len := S.len
  nodup := S.nodup
  dj := S.dj
  pvx := fun a ha => let ⟨o, e⟩ := S.pvx a ha; ⟨o, hk a o e⟩
  own := fun l a o e1 e2 => (S.own l a o e1 e2).keep (w' := ⟨w.ι, w.π, { w.s with heap := h', toks := t }⟩) (Lv.keeps hk) (hk a)
  gens := S.gens
  os := S.os
  sysm := S.sysm
theorem alloc (S : St cx w H) {h' : Heap} {t : Nat} {a : Addr} {o : AO} (hk : ∀ b q, w.s.heap.get? b = some q → h'.get? b = some q) (ha : w.s.heap.get? a = none)
    (r : Le cx No w ⟨w.ι ++ [a], w.π, { w.s with heap := h', toks := t }⟩ → OR cx ⟨w.ι ++ [a], w.π, { w.s with heap := h', toks := t }⟩ a o) :
    Le cx No w ⟨w.ι ++ [a], w.π, { w.s with heap := h', toks := t }⟩ ∧ St cx ⟨w.ι ++ [a], w.π, { w.s with heap := h', toks := t }⟩ (H ++ [o]) := by
  have hf := S.new ha
  have ne : ∀ {b : Addr} {q : Obj}, w.s.heap.get? b = some q → b ∉ w.ι → b ∉ w.ι ++ [a] := fun {b q} e h1 h2 => by
    rcases List.mem_append.mp h2 with h | h
    · exact h1 h
    · rw [List.mem_singleton.mp h, ha] at e; cases e
  have l : Le cx No w ⟨w.ι ++ [a], w.π, { w.s with heap := h', toks := t }⟩ := ⟨⟨List.prefix_append _ _, fun b q e h1 h2 => ⟨hk b q e, ne e h1, h2⟩⟩, fun u_ h u_ => h, fun b q u_ u_ e => .of (hk b q e)⟩
  refine ⟨l, ⟨fun b q e => let z := S.base b q e; ⟨hk b q z.1, ne z.1 z.2.1, z.2.2⟩, by rw [List.length_append, List.length_append, S.len]; rfl, ?_, ?_, fun b hb => let ⟨q, e⟩ := S.pvx b hb; ⟨q, hk b q e⟩, ?_, S.gens, S.os, S.sysm⟩⟩
  · exact List.nodup_append.mpr ⟨S.nodup, List.nodup_cons.mpr ⟨List.not_mem_nil, List.nodup_nil⟩, fun x hx y hy e => hf.1 (by rw [List.mem_singleton.mp hy] at e; exact e ▸ hx)⟩
  · intro b hb
    rcases List.mem_append.mp hb with h | h
    · exact S.dj b h
    · rw [List.mem_singleton.mp h]; exact hf.2
  · intro i b q e1 e2
    rcases Nat.lt_trichotomy i w.ι.length with h | h | h
    · rw [List.getElem?_append_left h] at e1
      rw [List.getElem?_append_left (S.len ▸ h)] at e2
      exact (S.own i b q e1 e2).keep l.toLv (hk b)
    · subst h
      rw [List.getElem?_concat_length] at e1
      rw [S.len, List.getElem?_concat_length] at e2
      cases e1; cases e2
      exact r l
    · rw [List.getElem?_eq_none (by rw [List.length_append]; exact h)] at e1; cases e1
theorem turn (S : St cx w H) {l : Nat} {a : Addr} {h' : Heap} {t : Nat} {o : AO} (hl : w.ι[l]? = some a) (hk : ∀ b q, b ≠ a → w.s.heap.get? b = some q → h'.get? b = some q)
    (r : Le cx No w ⟨w.ι, w.π, { w.s with heap := h', toks := t }⟩ → OR cx ⟨w.ι, w.π, { w.s with heap := h', toks := t }⟩ a o) :
    Le cx No w ⟨w.ι, w.π, { w.s with heap := h', toks := t }⟩ ∧ St cx ⟨w.ι, w.π, { w.s with heap := h', toks := t }⟩ (H.set l o) := by
  have hm : a ∈ w.ι := List.mem_of_getElem? hl
  have hp : ∀ b ∈ w.π, b ≠ a := fun b hb e => S.dj a hm (e ▸ hb)
  have le : Le cx No w ⟨w.ι, w.π, { w.s with heap := h', toks := t }⟩ := ⟨⟨List.prefix_refl _, fun b q e h1 h2 => ⟨hk b q (fun z => h1 (z ▸ hm)) e, h1, h2⟩⟩, fun u_ h u_ => h, fun b q h u_ e => .of (hk b q (hp b h) e)⟩
  refine ⟨le, ⟨fun b q e => let z := S.base b q e; ⟨hk b q (fun y => z.2.1 (y ▸ hm)) z.1, z.2⟩, by rw [List.length_set]; exact S.len, S.nodup, S.dj, fun b hb => let ⟨q, e⟩ := S.pvx b hb; ⟨q, hk b q (hp b hb) e⟩, fun i b q e1 e2 => ?_, S.gens, S.os, S.sysm⟩⟩
  by_cases hi : l = i
  · subst hi
    rw [hl] at e1; cases e1
    rw [List.getElem?_set_self ((S.len ▸ (List.getElem?_eq_some_iff.mp hl).1 :))] at e2
    cases e2
    exact r le
  · rw [List.getElem?_set_ne hi] at e2
    have hba : b ≠ a := fun z => hi (by
      refine byC fun C_ k_ => ?_
      obtain ⟨h1, q1⟩ := List.getElem?_eq_some_iff.mp hl
      obtain ⟨h2, q2⟩ := List.getElem?_eq_some_iff.mp e1
      refine k_ ?_
      clear k_ C_
      exact (List.getElem_inj S.nodup).mp (q1.trans (z.symm.trans q2.symm)))
    exact (S.own i b q e1 e2).keep le.toLv fun q' e => hk b q' hba e
end St
section
variable {R : Wl → AV → Value → Prop}
theorem Post.tok {α β : Type} {R : Wl → α → β → Prop} {a : α} {b : β} (S : St cx w H) (t : Nat) (h : R ⟨w.ι, w.π, { w.s with toks := t }⟩ a b) : Post cx p w R (.ok a) H b { w.s with toks := t } :=
  ⟨w.ι, w.π, a, rfl, .tok t, S.keeps (t := t) fun u_ u_ e => e, h⟩
end
set_option tactic.hygienic true in
theorem newL_post (S : St cx w H) {mu : Bool} {xs : List AV} {vs : Array Value} {r : Except Str AV} {H' : AHeap} {h' : Heap} {t : Nat} {d : Addr} {n : Nat} (he : newL mu xs H = some (r, H'))
    (hk : ∀ b q, w.s.heap.get? b = some q → h'.get? b = some q) (hd : w.s.heap.get? d = none) (hL : IsL h' d vs n) (x : VRs cx w xs vs.toList) : Post cx p w (VR cx) r H' (.ref d) { w.s with heap := h', toks := t } := by
  unfold newL at he
  split at he
  · rename_i hz
    cases mu with
    | true =>
      cases he
      obtain ⟨l, S1⟩ := S.alloc (t := t) hk hd (o := .list xs) (fun l => ⟨vs, n, hL, hz, x.mono l⟩)
      exact ⟨_, _, _, rfl, l.no, S1, .loc (by rw [← S.len]; exact List.getElem?_concat_length)⟩
    | false =>
      obtain ⟨rfl, rfl⟩ := pure_some he
      have l : Le cx No w ⟨w.ι, w.π, { w.s with heap := h', toks := t }⟩ := .keeps hk
      exact ⟨_, _, _, rfl, l.no, S.keeps hk, .lst hL (S.new hd) hz (x.mono l)⟩
  · cases he
theorem newL_len {mu : Bool} {xs : List AV} {q : Except Str AV × AHeap} (he : newL mu xs H = some q) : xs.length ≤ LIM := by
  unfold newL at he
  split at he
  · assumption
  · cases he
theorem LIM_le : LIM ≤ sizeLine := by decide
theorem LIM_is : LIM = 1048576 := by decide
theorem newList_rf {mu : Bool} {xs : List AV} {vs : List Value} (x : VRs cx w xs vs) : Rf cx A p w (VR cx) (newL mu xs) (newList vs) := fun H S r H' he =>
  wpAny_newObj_type (newL_post S he (t := w.s.toks) (fun b q e => Heap.get?_push_of_some _ e) (get_size _) (IsL.new _ _) x) (by
    show vs.toArray.size ≤ sizeLine
    rw [List.size_toArray, ← x.length]; exact Nat.le_trans (newL_len he) LIM_le)
theorem newTuple_rf {xs : List AV} {vs : List Value} (hl : xs.length ≤ LIM) (x : VRs cx w xs vs) : Rf cx A p w (VR cx) (pure (.tup xs)) (newTuple vs) := .leaf fun H S =>
  wpAny_newObj_type ⟨w.ι, w.π, _, rfl, .keeps fun b q e => Heap.get?_push_of_some _ e, S.keeps (t := w.s.toks) fun b q e => Heap.get?_push_of_some _ e, .tup (IsT.new _ _) (S.new (get_size _)) hl (x.mono (p := No) (.keeps fun b q e => Heap.get?_push_of_some _ e))⟩ (by
    show vs.toArray.size ≤ sizeLine
    rw [List.size_toArray, ← x.length]; exact Nat.le_trans hl LIM_le)

set_option tactic.hygienic true in
theorem listAt_rd {l : Nat} {a : Addr} (h : w.ι[l]? = some a) : Rd cx w (listAt l) fun xs => ∃ vs n, IsL w.s.heap a vs n ∧ xs.length ≤ LIM ∧ VRs cx w xs vs.toList := fun H S r H' e => by
  refine bind_inv e (fun o H1 h1 h2 => ?_) fun x h1 h2 => ?_
  · unfold objAt at h1
    split at h1
    · rename_i o' ho
      cases h1
      cases o with
      | list xs => obtain ⟨rfl, rfl⟩ := pure_some h2; exact ⟨rfl, xs, rfl, S.own l a _ h ho⟩
      | dict es => cases h2
    · cases h1
  · unfold objAt at h1
    split at h1 <;> cases h1
set_option tactic.hygienic true in
theorem dictAt_rd {l : Nat} {a : Addr} (h : w.ι[l]? = some a) : Rd cx w (dictAt l) fun es => OR cx w a (.dict es) := fun H S r H' e => by
  refine bind_inv e (fun o H1 h1 h2 => ?_) fun x h1 h2 => ?_
  · unfold objAt at h1
    split at h1
    · rename_i o' ho
      cases h1
      cases o with
      | dict xs => obtain ⟨rfl, rfl⟩ := pure_some h2; exact ⟨rfl, xs, rfl, S.own l a _ h ho⟩
      | list es => cases h2
    · cases h1
  · unfold objAt at h1
    split at h1 <;> cases h1
theorem listOf_rd {a : AV} {v : Value} (x : VR cx w a v) : Rd cx w (listOf a) fun xs => ∃ l vs n, v = .ref l ∧ IsL w.s.heap l vs n ∧ xs.length ≤ LIM ∧ VRs cx w xs vs.toList := by
  cases a with
  | lst xs => obtain ⟨l, vs, n, e, h1, _, h3, h4⟩ := x; exact .pure ⟨l, vs, n, e, h1, h3, h4⟩
  | loc i => obtain ⟨l, e, h⟩ := x; exact (listAt_rd h).mono fun xs ⟨vs, n, q⟩ => ⟨l, vs, n, e, q⟩
  | _ => exact .stuck
inductive IsSeq (h : Heap) (l : Addr) (vs : Array Value) (n : Nat) : Prop
  | list (x : IsL h l vs n)
  | tuple (x : IsT h l vs n)
theorem seqOf_rd {a : AV} {v : Value} (x : VR cx w a v) : Rd cx w (seqOf a) fun xs => ∃ l vs n, v = .ref l ∧ IsSeq w.s.heap l vs n ∧ xs.length ≤ LIM ∧ VRs cx w xs vs.toList := by
  cases a with
  | tup xs => obtain ⟨l, vs, n, e, h1, _, h3, h4⟩ := x; exact .pure ⟨l, vs, n, e, .tuple h1, h3, h4⟩
  | lst xs => obtain ⟨l, vs, n, e, h1, _, h3, h4⟩ := x; exact .pure ⟨l, vs, n, e, .list h1, h3, h4⟩
  | loc i => obtain ⟨l, e, h⟩ := x; exact (listAt_rd h).mono fun xs ⟨vs, n, q1, q⟩ => ⟨l, vs, n, e, .list q1, q⟩
  | _ => exact .stuck
theorem mul_fits_of {i j : Int} (h : j.natAbs < 2 ^ 64 ∨ i.natAbs < 2 ^ 64) : IntMulOk i j := by
  rcases h with h | h
  · exact .of_right (intBits_le_64 (by omega) (by omega))
  · exact .of_left (intBits_le_64 (by omega) (by omega))
theorem int2_rf {a b : AV} {f : Int → Int → M AV} {op : Operator} {v u : Value} {R : Wl → AV → Value → Prop} (ra : VR cx w a v) (rb : VR cx w b u) (k : ∀ i j t s, Rf cx A p w R (f i j) (binaryOp op (.int i t) (.int j s))) : Rf cx A p w R (int2 a b f) (binaryOp op v u) := by
  cases a with
  | int i =>
    cases b with
    | int j =>
      refine byC fun C_ k_ => ?_
      obtain ⟨t, rfl⟩ := ra
      obtain ⟨s, rfl⟩ := rb
      refine k_ ?_
      clear k_ C_
      exact k i j t s
    | _ => exact .stuck
  | _ => exact .stuck
theorem ite_rf {c : Prop} [Decidable c] {α β : Type} {R : Wl → α → β → Prop} {m n : M α} {t : Sem β} (h1 : c → Rf cx A p w R m t) (h2 : ¬ c → Rf cx A p w R n t) : Rf cx A p w R (if c then m else n) t := by
  split
  · exact h1 ‹_›
  · exact h2 ‹_›
theorem addList_rf {mu : Bool} {a b : AV} {v u : Value} (ra : VR cx w a v) (rb : VR cx w b u) : Rf cx A p w (VR cx) (do let xs ← listOf a; let ys ← listOf b; newL mu (xs ++ ys)) (binaryOp .Add v u) := by
  refine .read (listOf_rd ra) fun xs ⟨l, vs, n, e, hl, hz, hvs⟩ => .read (listOf_rd rb) fun ys ⟨l2, ws, n2, e2, hl2, hz2, hws⟩ => ?_
  subst e; subst e2
  refine fun H S r H' he => P.add_list hl hl2 (newL_post S he (t := w.s.toks) (fun b q e => Heap.get?_push_of_some _ e) (get_size _) (IsL.new _ _) (by rw [Array.toList_append]; exact hvs.append hws)) ?_
  have h1 := newL_len he
  rw [List.length_append] at h1
  rw [hvs.size, hws.size]; exact Nat.le_trans h1 LIM_le
theorem addTup_rf {a b : AV} {xs : List AV} {v u : Value} (ra : VR cx w (.tup xs) v) (rb : VR cx w b u) : Rf cx A p w (VR cx) (addTup xs b) (binaryOp .Add v u) := by
  cases b with
  | tup ys =>
    refine ite_rf (fun u_ => .stuck) fun hc => ?_
    have hc := Bool.eq_false_iff.mpr hc
    rw [Bool.or_eq_false_iff, Bool.or_eq_false_iff, List.isEmpty_eq_false_iff, List.isEmpty_eq_false_iff, decide_eq_false_iff_not] at hc
    obtain ⟨⟨hx, hy⟩, hlen⟩ := hc
    refine ra.tupE fun a vs n ha hfa hza hsa => rb.tupE fun b ws m hb hfb hzb hsb => .leaf fun H S => ?_
    have ne : ∀ {zs : List AV} {us : Array Value}, VRs cx w zs us.toList → zs ≠ [] → ¬ us.isEmpty = true := fun {zs us} h1 h2 h3 => h2 (List.length_eq_zero_iff.mp (by rw [← h1.size]; exact Array.isEmpty_iff_size_eq_zero.mp h3))
    refine P.add_tuple ha hb (ne hsa hx) (ne hsb hy) ⟨w.ι, w.π, _, rfl, .keeps fun b q e => Heap.get?_push_of_some _ e, S.keeps (t := w.s.toks) fun b q e => Heap.get?_push_of_some _ e, .tup (IsT.new _ _) (S.new (get_size _)) (by rw [List.length_append]; exact Nat.not_lt.mp hlen) ?_⟩ ?_
    · rw [Array.toList_append]; exact (hsa.append hsb).mono (p := No) (.keeps fun b q e => Heap.get?_push_of_some _ e)
    · rw [hsa.size, hsb.size]; exact Nat.le_trans (Nat.not_lt.mp hlen) LIM_le
  | _ => exact .stuck
theorem add_rf {mu : Bool} {a b : AV} {v u : Value} (ra : VR cx w a v) (rb : VR cx w b u) : Rf cx A p w (VR cx) (bAdd mu a b) (binaryOp .Add v u) := by
  cases a with
  | int i =>
    cases b with
    | int j => exact ra.intE fun t => rb.intE fun s => .leaf fun H S => add_int (.tok S _ .int)
    | _ => exact .stuck
  | tup xs => exact addTup_rf (a := .none) ra rb
  | _ => exact addList_rf ra rb
theorem mulList_rf {mu : Bool} {a : AV} {v : Value} {n : Int} {t : Tok} (ra : VR cx w a v) :
    Rf cx A p w (VR cx) (do let xs ← listOf a; if n < 0 ∨ 1048576 < n ∨ LIM < n.toNat * xs.length then stuck else newL mu (List.replicate n.toNat xs).flatten) (binaryOp .Mult v (.int n t)) := by
  refine .read (listOf_rd ra) fun xs ⟨l, vs, k, e, hl, hz, hvs⟩ => ite_rf (fun u_ => .stuck) fun hc => fun H S r H' he => ?_
  subst e
  have L := LIM_is
  have h2 : vs.size * n.toNat ≤ 2 ^ 24 := by rw [hvs.size, Nat.mul_comm]; omega
  refine wpAny_binaryOp_repeat_ref (T := "list") (U := "int") (by decide) ⟨_, hl, rfl⟩ (fun s' => typeIs_int s' n t) noFill_list_mul F.fills_int_mul F.slot_int_rmul repeat_list F.slot_int_index.lookup
    (call_meets F.slot_int_rmul (typeIs_int w.s n t) F.entry_int_rmul (F.args_int_rmul_2 _ _) (int___rmul___int_list n t l vs k)
      ⟨hl, rfl, ⟨_, hl, rfl⟩, call_meets F.slot_list_mul ⟨_, hl, rfl⟩ F.entry_list_mul (F.args_list_mul_2 _ _)
        (AutoListH.list___mul___list_int_3 l vs k n t (by simp [Builtin.List.listFitsIndex]; omega) (by omega) (by simp [Builtin.List.listTooLong, sizeLine]; omega))
        ⟨hl, ?_⟩⟩)
  refine newL_post S he (t := w.s.toks) (fun b q e => Heap.get?_push_of_some _ e) (get_size _) (IsL.new _ _) ?_
  rw [listMul_foldl_if]
  simpa using hvs.rep n.toNat
theorem mul_rf {mu : Bool} {a b : AV} {v u : Value} (ra : VR cx w a v) (rb : VR cx w b u) : Rf cx A p w (VR cx) (bMul mu a b) (binaryOp .Mult v u) := by
  cases b with
  | int n =>
    refine rb.intE fun t => ?_
    cases a with
    | int i => exact ra.intE fun t => ite_rf (fun hc => .leaf fun H S => mul_int (.tok S _ .int) (mul_fits_of hc)) fun u_ => .stuck
    | _ => exact mulList_rf ra
  | _ => exact .stuck
theorem bin_rf {mu : Bool} {op : Operator} {a b : AV} {v u : Value} (ra : VR cx w a v) (rb : VR cx w b u) : Rf cx A p w (VR cx) (pBin mu op a b) (binaryOp op v u) := by
  cases op with
  | Add => exact add_rf ra rb
  | Sub => exact int2_rf ra rb fun i j t s => .leaf fun H S => sub_int' (.tok S _ .int)
  | Mult => exact mul_rf ra rb
  | FloorDiv => exact int2_rf ra rb fun i j t s => ite_rf (fun u_ => .stuck) fun hc => .leaf fun H S => floordiv_int (fun z => hc (.inl z)) (.tok S _ .int) (.inl (PyProof.noPylong_small (by (first | lia | omega))))
  | Mod => exact int2_rf ra rb fun i j t s => ite_rf (fun u_ => .stuck) fun hc => .leaf fun H S => mod_int' hc (.tok S _ .int)
  | Pow => exact int2_rf ra rb fun i j t s => ite_rf (fun ⟨h1, h2⟩ => by subst h1; subst h2; exact .leaf fun H S => pow_int_small (by decide) (by decide) (by decide) (.tok S _ .int)) fun u_ => .stuck
  | _ => exact .stuck
theorem neg_rf {a : AV} {v : Value} (ra : VR cx w a v) : Rf cx A p w (VR cx) (pNeg a) (unaryOp .USub v) := by
  cases a with
  | int i => exact ra.intE fun t => .leaf fun H S => neg_int (.tok S _ .int)
  | _ => exact .stuck
theorem truth_rf {a : AV} {v : Value} (ra : VR cx w a v) : Rf cx A p w (fun u_ x y => x = y ∧ a = .bool x) (truth a) (truthy v) := by
  cases a with
  | bool b => exact ra.boolE (.leaf fun H S => wpAny_truthy_bool (.here S ⟨rfl, rfl⟩))
  | _ => exact .stuck
end
end Mine


set_option autoImplicit false
set_option linter.unusedVariables false
namespace Mine
open PySem PyProof.Rows PySem.SeqAt

section
variable {cx : Cx} {A : Around} {p : Addr → Prop} {w : Wl} {H : AHeap}

theorem mapM_cons_some {α β : Type} {f : α → Option β} {x : α} {xs : List α} {r : List β} (h : (x :: xs).mapM f = some r) : ∃ y ys, f x = some y ∧ xs.mapM f = some ys ∧ r = y :: ys := by
  rw [List.mapM_cons] at h
  refine byC fun C_ k_ => ?_
  obtain ⟨y, h1, h2⟩ := Option.bind_eq_some_iff.mp h
  obtain ⟨ys, h3, h4⟩ := Option.bind_eq_some_iff.mp h2
  refine k_ ?_
  clear k_ C_
  cases h4
  exact ⟨y, ys, h1, h3, rfl⟩
def RdOk (w : Wl) (n : Nat) (v : Value) (d : PyData) : Prop := ∃ as, Reads w.s.heap v d as ∧ d.canLay0 = true ∧ d.depth ≤ n
def RdsOk (w : Wl) (n : Nat) (vs : List Value) (ds : List PyData) : Prop := ∃ as, ReadsAll w.s.heap vs ds as ∧ PyData.canLayAll0 ds = true ∧ PyData.depthAll ds ≤ n
theorem rds_sound (n : Nat) (ih : ∀ {a : AV} {v : Value} {d : PyData}, VR cx w a v → rd H n a = some d → RdOk w n v d) : ∀ {xs : List AV} {vs : List Value} {ds : List PyData}, VRs cx w xs vs → xs.mapM (rd H n) = some ds → RdsOk w n vs ds
  | [], vs, ds, x, h => by cases h; rw [show vs = [] from x]; exact ⟨[], .nil, rfl, Nat.zero_le _⟩
  | a :: xs, vs, ds, ⟨v, us, e, r, rs⟩, h => by
    refine byC fun C_ k_ => ?_
    obtain ⟨y, ys, h1, h2, rfl⟩ := mapM_cons_some h
    obtain ⟨as, q1, q2, q3⟩ := ih r h1
    obtain ⟨bs, p1, p2, p3⟩ := rds_sound n ih rs h2
    refine k_ ?_
    clear k_ C_
    rw [e]
    exact ⟨as ++ bs, .cons q1 p1, show (y.canLay0 && PyData.canLayAll0 ys) = true by rw [q2, p2]; rfl, Nat.max_le.mpr ⟨q3, p3⟩⟩
theorem rdL {n : Nat} {l : Addr} {vs : Array Value} {k : Nat} {ds : List PyData} (h : IsL w.s.heap l vs k) (x : RdsOk w n vs.toList ds) : RdOk w (n + 1) (.ref l) (.list ds) :=
  by obtain ⟨_, p1, p2, p3⟩ := x; exact ⟨_, .list h rfl rfl p1, p2, Nat.succ_le_succ p3⟩
set_option tactic.hygienic true in
theorem rd0 (n : Nat) {a : AV} {v : Value} {d : PyData} (r : VR cx w a v) (h : rd H n a = some d) (h1 : isTp a = false) (h2 : isL a = false) : RdOk w n v d := by
  cases a with
  | none => rw [show v = .none from r]; cases n <;> (cases h; exact ⟨[], .none, rfl, Nat.zero_le _⟩)
  | bool b => rw [show v = .bool b from r]; cases n <;> (cases h; exact ⟨[], .bool b, rfl, Nat.zero_le _⟩)
  | int i => obtain ⟨t, r⟩ := r; rw [r]; cases n <;> (cases h; exact ⟨[], .int i t, rfl, Nat.zero_le _⟩)
  | str x =>
    obtain ⟨t, r⟩ := r
    have h' : (if PyData.strOk x then some (PyData.str x) else none) = some d := by cases n <;> exact h
    split at h'
    · rename_i ho; cases h'; rw [r]; exact ⟨[], .str x t, ho, Nat.zero_le _⟩
    · cases h'
  | range _ _ => cases n <;> cases h
  | cdict _ => cases n <;> cases h
  | exc _ => cases n <;> cases h
  | tup _ => cases h1
  | lst _ => cases h2
  | loc _ => cases h2
theorem rd_sound (S : St cx w H) (n : Nat) : ∀ {a : AV} {v : Value} {d : PyData}, VR cx w a v → rd H n a = some d → RdOk w n v d := by
  induction n with
  | zero =>
    intro a v d r h
    cases a with
    | tup _ => cases h
    | lst _ => cases h
    | loc _ => cases h
    | _ => exact rd0 0 r h rfl rfl
  | succ n ih =>
    intro a v d r h
    cases a with
    | tup xs =>
      refine byC fun C_ k_ => ?_
      obtain ⟨a, vs, k, e, h1, _, _, h4⟩ := r
      obtain ⟨ds, h5, h6⟩ := Option.map_eq_some_iff.mp h
      obtain ⟨as, p1, p2, p3⟩ := rds_sound n ih h4 h5
      refine k_ ?_
      clear k_ C_
      rw [e, ← h6]
      exact ⟨as, .tuple h1 rfl rfl p1, p2, Nat.succ_le_succ p3⟩
    | lst xs =>
      refine byC fun C_ k_ => ?_
      obtain ⟨a, vs, k, e, h1, _, _, h4⟩ := r
      obtain ⟨ds, h5, h6⟩ := Option.map_eq_some_iff.mp h
      refine k_ ?_
      clear k_ C_
      rw [e, ← h6]
      exact rdL h1 (rds_sound n ih h4 h5)
    | loc l =>
      obtain ⟨a, e, h1⟩ := r
      cases hH : H[l]? with
      | none => rw [show rd H (n + 1) (.loc l) = (match H[l]? with | some (.list xs) => (xs.mapM (rd H n)).map .list | _ => none) from rfl, hH] at h; cases h
      | some o =>
        rw [show rd H (n + 1) (.loc l) = (match H[l]? with | some (.list xs) => (xs.mapM (rd H n)).map .list | _ => none) from rfl, hH] at h
        cases o with
        | dict es => cases h
        | list xs =>
          refine byC fun C_ k_ => ?_
          obtain ⟨ds, h5, h6⟩ := Option.map_eq_some_iff.mp h
          obtain ⟨vs, k, h2, _, h4⟩ := S.own _ _ _ h1 hH
          refine k_ ?_
          clear k_ C_
          rw [e, ← h6]
          exact rdL h2 (rds_sound n ih h4 h5)
    | _ => exact rd0 (n + 1) r h rfl rfl
set_option tactic.hygienic true in
theorem rdM_rd {a : AV} {v : Value} (x : VR cx w a v) : Rd cx w (rdM a) (RdOk w 8 v) := fun H S r H' h => by
  unfold rdM at h
  split at h
  · rename_i d hd; cases h; exact ⟨rfl, d, rfl, rd_sound S 8 x hd⟩
  · cases h
abbrev Room (A : Around) : Prop := A.units + 100 < cLine
theorem room_min {R : Room A} {a b : Nat} (h : a ≤ 8) : A.units + min a b < cLine := by unfold Room at R; (first | lia | omega)
theorem room_min1 {R : Room A} {a b : Nat} (h : b ≤ 8) : A.units + 1 + min a b < cLine := by unfold Room at R; (first | lia | omega)
theorem isNone_of {a : AV} {v : Value} (r : VR cx w a v) : (v == .none) = pIsNone a := by
  cases a with
  | none => rw [show v = .none from r]; rfl
  | bool b => rw [show v = .bool b from r]; rfl
  | int i => obtain ⟨t, e⟩ := r; rw [e]; rfl
  | str i => obtain ⟨t, e⟩ := r; rw [e]; rfl
  | tup i => obtain ⟨_, _, _, e, _⟩ := r; rw [e]; rfl
  | lst i => obtain ⟨_, _, _, e, _⟩ := r; rw [e]; rfl
  | loc i => obtain ⟨_, e, _⟩ := r; rw [e]; rfl
  | range i j => obtain ⟨_, _, _, _, e, _⟩ := r; rw [e]; rfl
  | cdict i => obtain ⟨_, _, e, _⟩ := r; rw [e]; rfl
  | exc i => obtain ⟨_, _, _, e, _⟩ := r; rw [e]; rfl
theorem is_not_none {v : Value} {s : Shared} {M : Model} {E : Value → Shared → Prop} {Q : Value → Shared → Prop} (h : Q (.bool (!(v == .none))) s) : wpAny M A (compareOp .IsNot v .none) Q E s := by
  show wpAny M A (do return .bool !(← isSame v .none)) Q E s
  rw [isSame_none]
  exact wpAny_bind (wpAny_pure (wpAny_pure h))
def Rb (w : Wl) (b : Bool) (v : Value) : Prop := v = .bool b
theorem eq_rf (R : Room A) {a b : AV} {v u : Value} (ra : VR cx w a v) (rb : VR cx w b u) : Rf cx A p w Rb (pEq a b) (compareOp .Eq v u) :=
  .read (rdM_rd ra) fun x ⟨_, p1, p2, p3⟩ => .read (rdM_rd rb) fun y ⟨_, q1, q2, q3⟩ => .leaf fun H S => compareEq_reads p1 q1 p2 q2 (room_min (R := R) p3) (.here S rfl)
theorem in_rf (R : Room A) {a b : AV} {v u : Value} (ra : VR cx w a v) (rb : VR cx w b u) : Rf cx A p w Rb (pIn a b) (compareOp .In v u) :=
  .read (rdM_rd ra) fun x ⟨_, p1, p2, p3⟩ => .read (rdM_rd rb) fun y ⟨_, q1, q2, q3⟩ => by
    cases y with
    | list ys => exact .leaf fun H S => in_list_reads q1 p1 q2 p2 (room_min1 (R := R) p3) (.here S rfl)
    | tuple ys => exact .leaf fun H S => in_tuple_reads q1 p1 q2 p2 (room_min1 (R := R) p3) (.here S rfl)
    | _ => exact .stuck
theorem notIn_rf (R : Room A) {a b : AV} {v u : Value} (ra : VR cx w a v) (rb : VR cx w b u) : Rf cx A p w Rb (do let r ← pIn a b; pure (!r)) (compareOp .NotIn v u) := by
  unfold pIn
  simp only [bind_assoc, pure_bind]
  exact .read (rdM_rd ra) fun x ⟨_, p1, p2, p3⟩ => .read (rdM_rd rb) fun y ⟨_, q1, q2, q3⟩ => by
    cases y with
    | list ys => exact .leaf fun H S => notIn_list_reads q1 p1 q2 p2 (room_min1 (R := R) p3) (.here S rfl)
    | tuple ys => exact .leaf fun H S => notIn_tuple_reads q1 p1 q2 p2 (room_min1 (R := R) p3) (.here S rfl)
    | _ => exact .stuck
theorem ne_rf (R : Room A) {a b : AV} {v u : Value} (ra : VR cx w a v) (rb : VR cx w b u) : Rf cx A p w Rb (do let r ← pEq a b; pure (!r)) (compareOp .NotEq v u) := by
  unfold pEq
  simp only [bind_assoc, pure_bind]
  exact .read (rdM_rd ra) fun x ⟨_, p1, p2, p3⟩ => .read (rdM_rd rb) fun y ⟨_, q1, q2, q3⟩ => .leaf fun H S => compareNe_reads p1 q1 p2 q2 (room_min (R := R) p3) (.here S rfl)
theorem cmp_rf (R : Room A) {op : CmpOp} {a b : AV} {v u : Value} (ra : VR cx w a v) (rb : VR cx w b u) : Rf cx A p w Rb (pCmp op a b) (compareOp op v u) := by
  have two : ∀ {q : CmpOp} {t : Sem Value}, (∀ i j s t', v = .int i s → u = .int j t' → Rf cx A p w Rb (cmpI q i j) t) → Rf cx A p w Rb (match asI a with | some i => (match asI b with | some j => cmpI q i j | none => stuck) | none => stuck : M Bool) t := fun {q t} k => by
    cases a with
    | int i =>
      cases b with
      | int j => obtain ⟨s, e⟩ := ra; obtain ⟨s', e'⟩ := rb; exact k i j s s' e e'
      | _ => exact .stuck
    | _ => exact .stuck
  cases op with
  | Eq => exact eq_rf R ra rb
  | NotEq => exact ne_rf R ra rb
  | In => exact in_rf R ra rb
  | NotIn => exact notIn_rf R ra rb
  | Is =>
    cases b with
    | none => exact rb.noneE (.leaf fun H S => is_none (by rw [isNone_of ra]; exact .here S rfl))
    | _ => exact .stuck
  | IsNot =>
    cases b with
    | none => exact rb.noneE (.leaf fun H S => is_not_none (by rw [isNone_of ra]; exact .here S rfl))
    | _ => exact .stuck
  | Lt => exact two fun i j s t h1 h2 => h1 ▸ h2 ▸ .leaf fun H S => wpAny_lt_int (.here S rfl)
  | LtE => exact two fun i j s t h1 h2 => h1 ▸ h2 ▸ .leaf fun H S => le_int (.here S rfl)
  | Gt => exact two fun i j s t h1 h2 => h1 ▸ h2 ▸ .leaf fun H S => PyProof.Rows.gt_int (.here S rfl)
  | GtE => exact two fun i j s t h1 h2 => h1 ▸ h2 ▸ .leaf fun H S => ge_int (.here S rfl)

theorem idx_some {k : Int} {n j : Nat} (h : idx k n = some j) : j < n ∧ ((0 ≤ k ∧ k < n ∧ j = k.toNat) ∨ (k < 0 ∧ -k ≤ n ∧ j = (k + n).toNat)) := by
  unfold idx at h
  split at h
  · split at h
    · cases h; exact ⟨by (first | lia | omega), .inl ⟨by assumption, by assumption, rfl⟩⟩
    · cases h
  · split at h
    · cases h; exact ⟨by (first | lia | omega), .inr ⟨Int.not_le.mp (by assumption), by assumption, rfl⟩⟩
    · cases h
theorem getItem_seq {l : Addr} {vs : Array Value} {n : Nat} {k : Int} {t : Tok} {j : Nat} {y : Value} {s : Shared} {Q : Value → Shared → Prop} {E : Value → Shared → Prop} (hs : IsSeq s.heap l vs n) (hj : idx k vs.size = some j) (hy : vs[j]? = some y)
    (hb : vs.size < 2 ^ 62) (h : Q y s) : wpAny (model cx.prog cx.w) A (getItem (.ref l) (.int k t)) Q E s := by
  obtain ⟨hlt, hc⟩ := idx_some hj
  cases hs with
  | list hl =>
    rcases hc with ⟨h0, h1, rfl⟩ | ⟨h0, h1, rfl⟩
    · exact wpAny_getItem_list hl.isList h0 (by omega) hy h
    · exact wpAny_getItem_list_neg hl.isList h0 (by omega) (by omega) hy h
  | tuple hl =>
    refine P.getItem_tuple hl (by omega) (by omega) (k := j) ?_ hy h
    rcases hc with ⟨h0, h1, rfl⟩ | ⟨h0, h1, rfl⟩
    · exact seqIndex_of h0 h1
    · exact PySem.seqIndex_neg h0 (by omega)
theorem look_valueAt : ∀ {es : List (Str × AV)} {kvs : List (Str × Value)} {k : Str} {a : AV}, kvs.map (·.1) = es.map (·.1) → VRs cx w (es.map (·.2)) (kvs.map (·.2)) → look es k = some a → ∃ v, valueAt kvs k = some v ∧ VR cx w a v
  | [], _, _, _, _, _, h => by cases h
  | _ :: _, [], _, _, h, _, _ => by cases h
  | e :: es, kv :: kvs, k, a, he, ⟨v, us, q, r1, r2⟩, hl => by
    refine byC fun C_ k_ => ?_
    obtain ⟨h1, h2⟩ := List.cons.inj he
    obtain ⟨q1, q2⟩ := List.cons.inj q
    refine k_ ?_
    clear k_ C_
    unfold look at hl
    unfold valueAt
    rw [List.find?_cons] at hl ⊢
    rw [show kv.1 = e.1 from h1]
    by_cases hk : e.1 = k
    · rw [decide_eq_true hk] at hl ⊢
      cases hl
      exact ⟨kv.2, rfl, by rw [show kv.2 = v from q1]; exact r1⟩
    · rw [decide_eq_false hk] at hl ⊢
      exact look_valueAt (es := es) h2 (q2 ▸ r2) hl
theorem look_strAt : ∀ {es : List (Str × Str)} {kvs : List (Str × Value)} {k x : Str}, kvs.map (·.1) = es.map (·.1) → StrVs (es.map (·.2)) (kvs.map (·.2)) → look es k = some x → ∃ t, valueAt kvs k = some (.str x t)
  | [], _, _, _, _, _, h => by cases h
  | _ :: _, [], _, _, h, _, _ => by cases h
  | e :: es, kv :: kvs, k, a, he, ⟨t, us, q, r2⟩, hl => by
    refine byC fun C_ k_ => ?_
    obtain ⟨h1, h2⟩ := List.cons.inj he
    obtain ⟨q1, q2⟩ := List.cons.inj q
    refine k_ ?_
    clear k_ C_
    unfold look at hl
    unfold valueAt
    rw [List.find?_cons] at hl ⊢
    rw [show kv.1 = e.1 from h1]
    by_cases hk : e.1 = k
    · rw [decide_eq_true hk] at hl ⊢
      cases hl
      exact ⟨t, congrArg some q1⟩
    · rw [decide_eq_false hk] at hl ⊢
      exact look_strAt (es := es) h2 (q2 ▸ r2) hl
theorem getItem_dict {d : Addr} {kvs : List (Str × Value)} {k : Str} {t : Tok} {v : Value} {s : Shared} {Q : Value → Shared → Prop} {E : Value → Shared → Prop} (hd : s.heap.DictOf (strKind cx.prog cx.w) d kvs) (hv : valueAt kvs k = some v)
    (h : Q v { s with toks := s.toks + 1 }) : wpAny (model cx.prog cx.w) A (getItem (.ref d) (.str k t)) Q E s :=
  wpAny_getItem_of (strKind_is _ _ k t) hd.mapOf hv h
def Subs (s : Shared) (v : Value) : Prop := ∃ T id, s.TypeIs v T ∧ typeLookup (.type T) "__getitem__" = pure (some (.builtin id))
theorem Subs.list {s : Shared} {l : Addr} {vs : Array Value} {n : Nat} (hl : IsL s.heap l vs n) : Subs s (.ref l) := ⟨"list", _, ⟨_, hl, rfl⟩, list_getitem_lookup⟩
theorem Subs.tuple {s : Shared} {l : Addr} {vs : Array Value} {n : Nat} (hl : IsT s.heap l vs n) : Subs s (.ref l) := ⟨"tuple", _, ⟨_, hl, rfl⟩, F.slot_tuple_getitem.lookup⟩
theorem Subs.seq {s : Shared} {l : Addr} {vs : Array Value} {n : Nat} : IsSeq s.heap l vs n → Subs s (.ref l)
  | .list x => .list x
  | .tuple x => .tuple x
theorem Subs.dict {s : Shared} {d : Addr} {kvs : List (Str × Value)} (hd : s.heap.DictOf (strKind cx.prog cx.w) d kvs) : Subs s (.ref d) := ⟨"dict", _, hd.mapOf.typeIs, slot_dict_getitem.lookup⟩
theorem item_rf {o i : AV} {v u : Value} {t : Sem Value} (ro : VR cx w o v) (ri : VR cx w i u) (ht : ∀ {Q E : Value → Shared → Prop}, Subs w.s v → wpAny (model cx.prog cx.w) A (getItem v u) Q E w.s → wpAny (model cx.prog cx.w) A t Q E w.s) : Rf cx A p w (VR cx) (pItem o i) t := by
  cases i with
  | str k =>
    obtain ⟨tk, rfl⟩ := ri
    cases o with
    | cdict es =>
      refine byC fun C_ k_ => ?_
      obtain ⟨d, kvs, rfl, h1, h2, h3, h4⟩ := ro
      refine k_ ?_
      clear k_ C_
      refine .read .opt fun x hx => .leaf fun H S => ?_
      obtain ⟨tx, hv⟩ := look_strAt h3 h4 hx
      exact ht (.dict h1) (getItem_dict h1 hv (.tok S _ .str))
    | loc l =>
      obtain ⟨a, rfl, hl⟩ := ro
      refine .read (dictAt_rd hl) fun es ⟨kvs, h1, h2, h3, h4⟩ => ?_
      cases hk : look es k with
      | none => exact .stuck
      | some x =>
        obtain ⟨v, hv, rv⟩ := look_valueAt h3 h4 hk
        exact .leaf fun H S => ht (.dict h1) (getItem_dict h1 hv (.tok S _ (rv.mono (p := No) (.tok _))))
    | _ => exact .stuck
  | int k =>
    obtain ⟨tk, rfl⟩ := ri
    refine .read (seqOf_rd ro) fun xs ⟨l, vs, n, e, hl, hz, hvs⟩ => ?_
    subst e
    cases hj : idx k xs.length with
    | none => exact .stuck
    | some j =>
      show Rf cx A p w (VR cx) (ofOpt xs[j]?) t
      cases hx : xs[j]? with
      | none => exact .stuck
      | some x =>
        obtain ⟨y, hy, ry⟩ := hvs.get hx
        exact .leaf fun H S => ht (.seq hl) (getItem_seq hl (j := j) (by rw [hvs.size]; exact hj) (by rw [← Array.getElem?_toList]; exact hy) (by rw [hvs.size]; have := LIM_is; (first | lia | omega)) (.here S ry))
  | _ => exact .stuck
end
end Mine


set_option autoImplicit false
set_option linter.unusedVariables false
namespace Mine
open PySem PyProof.Rows PySem.SeqAt

section
variable {cx : Cx} {A : Around} {p : Addr → Prop} {w : Wl} {H : AHeap}

theorem pushk {h : Heap} (o : Obj) : ∀ b q, h.get? b = some q → (h.push o).get? b = some q := fun b q e => Heap.get?_push_of_some _ e
theorem cut_vrs {xs : List AV} {vs : Array Value} (r : VRs cx w xs vs.toList) (lo hi : Option Int) : VRs cx w (cut xs lo hi) (slicePick vs lo hi none).toList := by
  rw [slicePick_plain]
  unfold cut
  rw [r.size]
  exact (r.drop _).take _
theorem sliceApplied_upto {sl : Addr} {b n : Nat} {u : Tok} {s : Shared} {E : Value → Shared → Prop} {Q : Int × Int × Nat → Shared → Prop} (hs : s.heap.IsSliceOf sl .none (.int b u) .none) (hb : b ≤ n) (h : Q (0, 1, b) s) :
    wpAny (model cx.prog cx.w) A (Builtin.Slice.sliceApplied (.ref sl) (pure (n : Int))) Q E s := by
  refine byC fun C_ k_ => ?_
  obtain ⟨os, hos, hcs, hds⟩ := id hs
  refine k_ ?_
  clear k_ C_
  unfold Builtin.Slice.sliceApplied Builtin.Slice.sliceFields
  refine wpAny_bind (wpAny_bind (wpAny_field hos hds (x := .none) rfl (wpAny_bind (wpAny_field hos hds (x := .int b u) rfl (wpAny_bind (wpAny_field hos hds (x := .none) rfl (wpAny_pure ?_)))))))
  refine wpAny_bind (slicePart_none ?_)
  show wpAny _ _ (if ((1 : Int) == 0) = true then _ else _) _ _ s
  rw [if_neg (by decide)]
  refine wpAny_bind (slicePart_none (wpAny_bind (slicePart_int (wpAny_bind (wpAny_pure ?_)))))
  have e1 : Builtin.Slice.sliceAdjust none (some (b : Int)) 1 (n : Int) = (0, (b : Int)) := by
    unfold Builtin.Slice.sliceAdjust
    have h2 : ¬ ((b : Int) < 0) := by (first | lia | omega)
    have h1 : ¬ ((1 : Int) < 0) := by (first | lia | omega)
    simp only [h1, h2, if_false]
    congr 1
    (first | lia | omega)
  have e2 : Builtin.Slice.slicePlaces 0 (b : Int) 1 = b := by
    unfold Builtin.Slice.slicePlaces
    have h1 : (1 : Int) > 0 := by (first | lia | omega)
    simp only [h1, if_true, Int.ediv_one]
    split <;> (first | lia | omega)
  show wpAny _ _ (match Builtin.Slice.sliceAdjust none (some (b : Int)) 1 (n : Int) with | (lo, hi) => pure (lo, (1 : Int), Builtin.Slice.slicePlaces lo hi 1)) _ _ s
  rw [e1]
  show wpAny _ _ (pure (0, (1 : Int), Builtin.Slice.slicePlaces 0 (b : Int) 1)) _ _ s
  rw [e2]
  exact wpAny_pure h
theorem pick_upto (xs : Array Value) (b : Nat) : ((List.range b).filterMap fun (k : Nat) => xs[((0 : Int) + (k : Int) * 1).toNat]?).toArray = (xs.toList.take b).toArray := by
  have e : (fun (k : Nat) => xs[((0 : Int) + (k : Int) * 1).toNat]?) = fun k => xs[0 + k]? := by
    funext k
    rw [Int.mul_one, Int.zero_add, Int.toNat_natCast, Nat.zero_add]
  rw [e]
  have := pick_run xs 0 b
  rw [List.filterMap_map] at this
  rw [show (fun k => xs[0 + k]?) = ((fun x => xs[x]?) ∘ fun x => 0 + x) from rfl, this, List.drop_zero]
theorem getItem_tuple_upto {t sl : Addr} {items : Array Value} {b n : Nat} {u : Tok} {s : Shared} {E : Value → Shared → Prop} {Q : Value → Shared → Prop} (ht : IsT s.heap t items n) (hs : s.heap.IsSliceOf sl .none (.int b u) .none) (hb : b < items.size)
    (h : Q (.ref s.heap.objs.size) { s with heap := s.heap.push { cls := .type "tuple", data := .seq (items.toList.take b).toArray } })
    (hsz : items.size ≤ sizeLine) : wpAny (model cx.prog cx.w) A (getItem (.ref t) (.ref sl)) Q E s := by
  have hdrop : sizeOk (.seq (items.toList.take b).toArray) := by
    show (items.toList.take b).toArray.size ≤ sizeLine
    rw [List.size_toArray, List.length_take, Array.length_toList]
    exact Nat.le_trans (Nat.min_le_right _ _) hsz
  have hT : s.TypeIs (.ref t) "tuple" := ⟨_, ht, rfl⟩
  refine byC fun C_ k_ => ?_
  obtain ⟨os, hos, hcs, hds⟩ := id hs
  refine k_ ?_
  clear k_ C_
  have hTs : s.TypeIs (.ref sl) "slice" := ⟨os, hos, hcs⟩
  unfold getItem
  try with_reducible refine wpAny_holding ?_
  first | refine wpAny_bind (wpAny_pure ?_) | skip
  refine wpAny_bind (wpAny_sequenceKey hT (by decide) ?_)
  refine wpAny_bind (wpAny_callSpecial?_slot (name := Str.ofString "__getitem__") hT slot_tuple_getitem
    (wpAny_call_entry slot_tuple_getitem hT entry_tuple_getitem ?_ (args_tuple_getitem _ _)))
  show wpAny _ _ (Builtin.Tuple.tupleItemsOf (.ref t) >>= _) _ _ s
  refine wpAny_bind (tupleItemsOf_ ⟨_, ht, rfl, n, rfl⟩ ?_)
  refine wpAny_bind (wpAny_typeOf hTs ?_)
  rw [if_pos (by decide)]
  refine wpAny_bind (sliceApplied_upto hs (Nat.le_of_lt hb) ?_)
  have hno : ¬ (((0 : Int) == 0 && (1 : Int) == 1 && b == items.size) = true) := by
    rw [show (b == items.size) = false from beq_eq_false_iff_ne.mpr (Nat.ne_of_lt hb)]; decide
  show wpAny _ _ (if ((0 : Int) == 0 && (1 : Int) == 1 && b == items.size) = true then _ else _) _ _ s
  rw [if_neg hno, pick_upto items b]
  first
    | exact wpAny_bind (m := Builtin.Tuple.tupleExact _) (wpAny_newObj_type (wpAny_pure ⟨_, rfl, wpAny_pure h⟩) hdrop)
    | exact wpAny_bind (m := Builtin.Tuple.tupleExact _) (wpAny_newObj_type (wpAny_bind (wpAny_pure (wpAny_pure ⟨_, rfl, wpAny_pure h⟩))) hdrop)
    | exact wpAny_bind (wpAny_bind (m := Builtin.Tuple.tupleExact _) (wpAny_newObj_type (wpAny_pure (wpAny_pure ⟨_, rfl, wpAny_pure h⟩)) hdrop))
    | exact wpAny_bind (wpAny_bind (m := Builtin.Tuple.tupleExact _) (wpAny_newObj_type (wpAny_pure ⟨_, rfl, wpAny_pure h⟩) hdrop))
theorem slice_rf {mu : Bool} {o : AV} {sl : Addr} {v vl vu : Value} {lo hi : Option Int} {t : Sem Value} (ro : VR cx w o v) (hs : w.s.heap.IsSliceOf sl vl vu .none) (pl : IsPart vl lo) (pu : IsPart vu hi)
    (ht : ∀ {Q E : Value → Shared → Prop}, Subs w.s v → wpAny (model cx.prog cx.w) A (getItem v (.ref sl)) Q E w.s → wpAny (model cx.prog cx.w) A t Q E w.s) : Rf cx A p w (VR cx) (pSlice mu o lo hi) t := by
  have lists : Rf cx A p w (VR cx) (do let xs ← listOf o; newL mu (cut xs lo hi)) t := .read (listOf_rd ro) fun xs ⟨a, vs, n, e, hl, hz, hvs⟩ H S r H' he => by
    subst e
    exact ht (.list hl) (wpAny_getItem_list_slice hl.isList hs pl pu .none (by simp) (newL_post S he (t := w.s.toks) (pushk _) (get_size _) (IsL.new _ _) (cut_vrs hvs lo hi)) (by rw [hvs.size]; exact Nat.le_trans hz LIM_le))
  cases o with
  | tup xs =>
    cases lo with
    | some _ => exact .stuck
    | none =>
      cases hi with
      | none => exact .stuck
      | some b =>
        refine ite_rf (fun hb => .leaf fun H S => ?_) fun u_ => .stuck
        refine byC fun C_ k_ => ?_
        obtain ⟨a, vs, n, rfl, h1, h2, h3, h4⟩ := ro
        refine k_ ?_
        clear k_ C_
        cases pl
        cases pu with | int _ u =>
        obtain ⟨k, rfl⟩ := Int.eq_ofNat_of_zero_le hb.1
        have hk : k < xs.length := Int.ofNat_lt.mp hb.2
        refine ht (.tuple h1) (getItem_tuple_upto h1 hs (by rw [h4.size]; exact hk) ?_ (by rw [h4.size]; exact Nat.le_trans h3 LIM_le))
        exact ⟨w.ι, w.π, _, rfl, .keeps (pushk _), S.keeps (t := w.s.toks) (pushk _), .tup (IsT.new _ _) (S.new (get_size _)) (by rw [List.length_take]; exact Nat.le_trans (Nat.min_le_right _ _) h3) ((h4.take k).mono (p := No) (.keeps (pushk _)))⟩
  | _ => exact lists
theorem rev_rf {mu : Bool} {o : AV} {sl : Addr} {v : Value} {tk : Tok} {t : Sem Value} (ro : VR cx w o v) (hs : w.s.heap.IsSliceOf sl .none .none (.int (-1) tk))
    (ht : ∀ {Q E : Value → Shared → Prop}, Subs w.s v → wpAny (model cx.prog cx.w) A (getItem v (.ref sl)) Q E w.s → wpAny (model cx.prog cx.w) A t Q E w.s) : Rf cx A p w (VR cx) (pRev mu o) t :=
  .read (listOf_rd ro) fun xs ⟨a, vs, n, e, hl, hz, hvs⟩ H S r H' he => by
    subst e
    refine ht (.list hl) (wpAny_getItem_list_slice hl.isList hs .none .none (.int (-1) tk) (by simp) (newL_post S he (t := w.s.toks) (pushk _) (get_size _) (IsL.new _ _) ?_) (by rw [hvs.size]; exact Nat.le_trans hz LIM_le))
    rw [PySem.W.krv_pick]
    exact hvs.reverse

theorem stored_map {es : List (Str × AV)} {kvs : List (Str × Value)} {k : Str} {a : AV} {v : Value} (ra : VR cx w a v) (he : kvs.map (·.1) = es.map (·.1)) (r : VRs cx w (es.map (·.2)) (kvs.map (·.2))) :
    (kvs.map fun e => if e.1 = k then (e.1, v) else e).map (·.1) = (es.map fun e => if e.1 = k then (e.1, a) else e).map (·.1) ∧ VRs cx w ((es.map fun e => if e.1 = k then (e.1, a) else e).map (·.2)) ((kvs.map fun e => if e.1 = k then (e.1, v) else e).map (·.2)) := by
  induction es generalizing kvs with
  | nil => cases kvs with | nil => exact ⟨rfl, .nil⟩ | cons _ _ => cases he
  | cons e es ih =>
    cases kvs with
    | nil => first | exact no_some he | exact no_true he | cases he
    | cons kv kvs =>
      refine byC fun C_ k_ => ?_
      obtain ⟨h1, h2⟩ := List.cons.inj he
      obtain ⟨x, us, q, r1, r2⟩ := r
      obtain ⟨q1, q2⟩ := List.cons.inj q
      obtain ⟨i1, i2⟩ := ih h2 (q2 ▸ r2)
      refine k_ ?_
      clear k_ C_
      have h1 : kv.1 = e.1 := h1
      have q1 : kv.2 = x := q1
      rw [List.map_cons, List.map_cons, List.map_cons, List.map_cons, List.map_cons, List.map_cons, i1]
      by_cases hk : e.1 = k
      · rw [if_pos hk, if_pos (h1.trans hk)]
        exact ⟨by rw [h1], .cons ra i2⟩
      · rw [if_neg hk, if_neg (fun z => hk (h1.symm.trans z))]
        exact ⟨by rw [h1], .cons (q1 ▸ r1) i2⟩
theorem stored_put {es : List (Str × AV)} {kvs : List (Str × Value)} {k : Str} {a : AV} {v : Value} (ra : VR cx w a v) (he : kvs.map (·.1) = es.map (·.1)) (r : VRs cx w (es.map (·.2)) (kvs.map (·.2))) :
    (stored kvs k v).map (·.1) = (put es k a).map (·.1) ∧ VRs cx w ((put es k a).map (·.2)) ((stored kvs k v).map (·.2)) := by
  have hany : kvs.any (fun kv => kv.1 = k) = es.any (fun e => e.1 = k) := by
    have : (kvs.map (·.1)).any (fun x => x = k) = (es.map (·.1)).any (fun x => x = k) := by rw [he]
    rw [List.any_map, List.any_map] at this; exact this
  unfold stored put
  rw [hany]
  split
  · exact stored_map ra he r
  · rw [List.map_append, List.map_append, List.map_append, List.map_append]
    exact ⟨by rw [he]; rfl, r.append (.cons ra .nil)⟩
theorem put_length (es : List (Str × AV)) (k : Str) (v : AV) : (put es k v).length ≤ es.length + 1 := by
  unfold put; split
  · rw [List.length_map]; exact Nat.le_succ _
  · rw [List.length_append]; exact Nat.le_refl _
theorem setItem_isL {l : Addr} {items : Array Value} {n : Nat} {k : Int} {t : Tok} {v : Value} {s : Shared} {E : Value → Shared → Prop} {Q : Unit → Shared → Prop} (hl : IsL s.heap l items n)
    (h0 : 0 ≤ k) (hfit : k < 2 ^ 63) (hn : k < items.size) (hQ : ∀ h' n', IsL h' l (items.setIfInBounds k.toNat v) n' → Heap.SameBut l s.heap h' → Q () { s with heap := h' }) :
    wpAny (model cx.prog cx.w) A (setItem (.ref l) (.int k t) v) Q E s := by
  unfold setItem
  try with_reducible refine wpAny_holding ?_
  first | refine wpAny_bind (wpAny_pure ?_) | skip
  refine wpAny_bind (wpAny_sequenceKey hl.isList.typeIs (by decide) ?_)
  refine wpAny_bind (wpAny_callSpecial?_slot (name := Str.ofString "__setitem__") hl.isList.typeIs slot_list_setitem
    (wpAny_call_entry slot_list_setitem hl.isList.typeIs entry_list_setitem ?_ (args_list_setitem _ _ _)))
  show wpAny _ _ (Builtin.List.listSubscript? (.int k t) >>= _) _ _ s
  refine wpAny_bind (wpAny_listSubscript_int (fitsIndex_of h0 hfit) ?_)
  clear hfit
  obtain ⟨j, rfl⟩ := Int.eq_ofNat_of_zero_le h0
  have hj : j < items.size := by (first | lia | omega)
  have hx' : items[j]? = some items[j] := Array.getElem?_eq_getElem hj
  show wpAny _ _ ((seqItemAt l j >>= fun r => pure (r.map (j, ·))) >>= _) _ _ s
  refine wpAny_bind (wpAny_bind (wpAny_seqItemAt hl rfl (wpAny_pure ?_)))
  rw [hx']
  show wpAny _ _ (setSeqItemAt l j v >>= _) _ _ s
  refine wpAny_bind (wpAny_setSeqItemAt hl rfl ?_)
  first
    | exact wpAny_bind (wpAny_pure (wpAny_pure ⟨.none, rfl, wpAny_pure (hQ _ _ (IsL.update hl _) (Heap.SameBut.update ..))⟩))
    | exact wpAny_pure ⟨.none, rfl, wpAny_pure (hQ _ _ (IsL.update hl _) (Heap.SameBut.update ..))⟩
def Ru {α β : Type} (w : Wl) (a : α) (b : β) : Prop := True
theorem storeK_rf {l : Nat} {a : Addr} {k : Str} {t : Tok} {x : AV} {u : Value} (hl : w.ι[l]? = some a) (rx : VR cx w x u) : Rf cx A p w Ru (storeK l k x) (setItem (.ref a) (.str k t) u) :=
  .read (dictAt_rd hl) fun es ⟨kvs, h1, h2, h3, h4⟩ => ite_rf (fun hlen H S r H' he => by
    cases he
    refine wpAny_setItem_pairs (strKind_is _ _ _ _) h1 (fun h' hd' hsb => ?_) ?_
    · refine byC fun C_ k_ => ?_
      obtain ⟨q1, q2⟩ := stored_put (k := k) rx h3 h4
      obtain ⟨l1, S'⟩ := S.turn (t := w.s.toks + 1) (o := .dict (put es k x)) hl (fun b q hb e => (hsb.2 b hb).trans e) fun l1 => ⟨_, hd', ⟨h2.1, Nat.le_trans (put_length es k x) hlen⟩, q1, q2.mono l1⟩
      refine k_ ?_
      clear k_ C_
      exact ⟨_, _, _, rfl, l1.no, S', trivial⟩
    · have := congrArg List.length h3; simp only [List.length_map] at this; have := LIM_le; (first | lia | omega)) fun u_ => .stuck
theorem storeI_rf {l : Nat} {a : Addr} {k : Int} {t : Tok} {x : AV} {u : Value} (hl : w.ι[l]? = some a) (rx : VR cx w x u) : Rf cx A p w Ru (storeI l k x) (setItem (.ref a) (.int k t) u) :=
  .read (listAt_rd hl) fun xs ⟨vs, n, hL, hz, hs⟩ => ite_rf (fun hk H S r H' he => by
    cases he
    have hsz := hs.size
    have hz' := LIM_is
    refine setItem_isL hL hk.1 (by (first | lia | omega)) (by (first | lia | omega)) fun h' n' hL' hsb => ?_
    obtain ⟨l1, S'⟩ := S.turn (t := w.s.toks) (o := .list (xs.set k.toNat x)) hl (fun b q hb e => (hsb.2 b hb).trans e) fun l1 => by
      refine ⟨_, n', hL', by rw [List.length_set]; exact hz, ?_⟩
      rw [Array.toList_setIfInBounds]
      exact (hs.set _ rx).mono l1
    exact ⟨_, _, _, rfl, l1.no, S', trivial⟩) fun u_ => .stuck
theorem store_rf {o i x : AV} {v u y : Value} (ro : VR cx w o v) (ri : VR cx w i u) (rx : VR cx w x y) : Rf cx A p w Ru (pStore o i x) (setItem v u y) := by
  cases o with
  | loc l =>
    cases i with
    | str k => exact ro.locE fun a hl => ri.strE fun t => storeK_rf hl rx
    | int k => exact ro.locE fun a hl => ri.intE fun t => storeI_rf hl rx
    | _ => exact .stuck
  | _ => exact .stuck

noncomputable def tyStr : Ty → String
  | .int => "int"
  | .bool => "bool"
  | .str => "str"
  | .tuple => "tuple"
  | .list => "list"
theorem isi_list {l : Addr} {vs : Array Value} {n : Nat} (hl : IsL w.s.heap l vs n) (t : Ty) : Rf cx A p w Rb (pure (tyLe .list t)) (call (.builtin "isinstance") [.ref l, .type (tyStr t)]) := .leaf fun H S => by
  have hL := hl.isList
  cases t with
  | int => exact IsiPair.isList_int hL (fun u_ u_ e => e) (.tok S _ rfl)
  | bool => exact IsiPair.isList_bool hL (fun u_ u_ e => e) (.tok S _ rfl)
  | str => exact IsiPair.isList_str hL (fun u_ u_ e => e) (.tok S _ rfl)
  | tuple => exact IsiPair.isList_tuple hL (fun u_ u_ e => e) (.tok S _ rfl)
  | list => exact IsiPair.isList_list hL (fun u_ u_ e => e) (.here S rfl)
theorem isi_rf {a : AV} {t : Ty} {v : Value} (ra : VR cx w a v) : Rf cx A p w Rb (pIsi a t) (call (.builtin "isinstance") [v, .type (tyStr t)]) := by
  cases a with
  | none =>
    refine ra.noneE (.leaf fun H S => ?_)
    cases t with
    | int => exact IsiPair.NoneType_int (.tok S _ rfl)
    | bool => exact IsiPair.NoneType_bool (.tok S _ rfl)
    | str => exact IsiPair.NoneType_str (.tok S _ rfl)
    | tuple => exact IsiPair.NoneType_tuple (.tok S _ rfl)
    | list => exact IsiPair.NoneType_list (.tok S _ rfl)
  | bool b =>
    refine ra.boolE (.leaf fun H S => ?_)
    cases t with
    | int => exact IsiPair.bool_int (.here S rfl)
    | bool => exact IsiPair.bool_bool (.here S rfl)
    | str => exact IsiPair.bool_str (.tok S _ rfl)
    | tuple => exact IsiPair.bool_tuple (.tok S _ rfl)
    | list => exact IsiPair.bool_list (.tok S _ rfl)
  | int i =>
    refine ra.intE fun u => .leaf fun H S => ?_
    cases t with
    | int => exact IsiPair.int_int (.here S rfl)
    | bool => exact IsiPair.int_bool (.tok S _ rfl)
    | str => exact IsiPair.int_str (.tok S _ rfl)
    | tuple => exact IsiPair.int_tuple (.tok S _ rfl)
    | list => exact IsiPair.int_list (.tok S _ rfl)
  | str x =>
    refine ra.strE fun u => .leaf fun H S => ?_
    cases t with
    | int => exact IsiPair.str_int (.tok S _ rfl)
    | bool => exact IsiPair.str_bool (.tok S _ rfl)
    | str => exact IsiPair.str_str (.here S rfl)
    | tuple => exact IsiPair.str_tuple (.tok S _ rfl)
    | list => exact IsiPair.str_list (.tok S _ rfl)
  | tup xs =>
    refine ra.tupE fun l vs n hl u_ u_ u_ => .leaf fun H S => ?_
    have hL : w.s.heap.IsTuple l vs := ⟨_, hl, rfl, _, rfl⟩
    cases t with
    | int => exact IsiPair.isTuple_int hL (fun u_ u_ e => e) (.tok S _ rfl)
    | bool => exact IsiPair.isTuple_bool hL (fun u_ u_ e => e) (.tok S _ rfl)
    | str => exact IsiPair.isTuple_str hL (fun u_ u_ e => e) (.tok S _ rfl)
    | tuple => exact IsiPair.isTuple_tuple hL (fun u_ u_ e => e) (.here S rfl)
    | list => exact IsiPair.isTuple_list hL (fun u_ u_ e => e) (.tok S _ rfl)
  | lst xs => exact ra.lstE fun l vs n hl u_ u_ u_ => isi_list hl t
  | loc i => exact ra.locE fun l h => .read (listAt_rd h) fun xs ⟨vs, n, hl, _⟩ => isi_list hl t
  | _ => exact .stuck
end
end Mine


set_option autoImplicit false
set_option linter.unusedVariables false
namespace Mine
open PySem PyProof.Rows PySem.SeqAt

section
variable {cx : Cx} {A : Around} {p : Addr → Prop} {w : Wl} {H : AHeap}
theorem toList_eraseIdx (vs : Array Value) (k : Nat) (hk : k < vs.size) : (vs.eraseIdxIfInBounds k).toList = vs.toList.eraseIdx k := by
  rw [Array.eraseIdxIfInBounds, dif_pos hk]; exact Array.toList_eraseIdx
theorem St.listTurn (S : St cx w H) {i : Nat} {a : Addr} {ws : Array Value} {n : Nat} {xs : List AV} (f : Array Value → Array Value) (hl : w.ι[i]? = some a) (hL : IsL w.s.heap a ws n) (hz : xs.length ≤ LIM) (hs : VRs cx w xs (f ws).toList) :
    Le cx No w ⟨w.ι, w.π, { w.s with heap := w.s.heap.update a (Obj.mapSeq f) }⟩ ∧ St cx ⟨w.ι, w.π, { w.s with heap := w.s.heap.update a (Obj.mapSeq f) }⟩ (H.set i (.list xs)) :=
  S.turn (t := w.s.toks) hl (fun b q hb e => (Heap.get?_update_other _ _ (Ne.symm hb)).trans e) fun l => ⟨_, _, IsL.update hL f, hz, hs.mono l⟩
theorem turn_post (S : St cx w H) {i : Nat} {a : Addr} {ws : Array Value} {n : Nat} {xs : List AV} {c : AV} {v : Value} {r : Except Str AV} {H' : AHeap} (f : Array Value → Array Value) (hl : w.ι[i]? = some a) (hL : IsL w.s.heap a ws n) (hz : xs.length ≤ LIM) (hs : VRs cx w xs (f ws).toList) (rc : VR cx w c v)
    (he : (do setAt i (.list xs); pure c : M AV) H = some (r, H')) : Post cx p w (VR cx) r H' v { w.s with heap := w.s.heap.update a (Obj.mapSeq f) } := by
  cases he
  obtain ⟨l, S'⟩ := S.listTurn f hl hL hz hs
  exact ⟨_, _, _, rfl, l.no, S', rc.mono l⟩
section
variable {i : Nat} {a : Addr} {xs : List AV} {ws : Array Value} {n : Nat} (hl : w.ι[i]? = some a) (hL : IsL w.s.heap a ws n) (hz : xs.length ≤ LIM) (hs : VRs cx w xs ws.toList)
include hl hL hz hs
theorem append_rf : ∀ {as : List AV} {vs : List Value}, VRs cx w as vs → Rf cx A p w (VR cx) (mAppend i xs as) (PySem.call (.builtin "list.append") (.ref a :: vs))
  | [], _, _ => .stuck
  | _ :: _ :: _, _, _ => .stuck
  | [c], vs, r => r.consE fun v us rc r0 => r0.nilE (ite_rf (fun h H S q H' he => call_meets F.slot_list_append ⟨_, hL, rfl⟩ F.entry_list_append (F.args_list_append_2 _ _) (list_append _ ws n v (by rw [hs.size]; exact Nat.le_trans hz LIM_le))
      ⟨hL, turn_post S (fun x1 => x1.push v) hl hL (by rw [List.length_append]; exact h) (by rw [Array.toList_push]; exact hs.append (.cons rc .nil)) .none he⟩) fun u_ => .stuck)
theorem popAt_post {j : Nat} {y : AV} {yv : Value} (S : St cx w H) (hy : xs[j]? = some y) (ry : VR cx w y yv) {r : Except Str AV} {H' : AHeap} (he : popAt i xs j H = some (r, H')) : Post cx p w (VR cx) r H' yv { w.s with heap := w.s.heap.update a (Obj.mapSeq fun x1 => x1.eraseIdxIfInBounds j) } := by
  unfold popAt at he
  rw [hy] at he
  exact turn_post S (fun x1 => x1.eraseIdxIfInBounds j) hl hL (Nat.le_trans (List.length_eraseIdx_le xs j) hz) (by rw [toList_eraseIdx _ _ (by rw [hs.size]; exact (List.getElem?_eq_some_iff.mp hy).1)]; exact hs.eraseIdx j) ry he
theorem pop_rf {as : List AV} {vs : List Value} (r : VRs cx w as vs) : Rf cx A p w (VR cx) (mPop i xs as) (PySem.call (.builtin "list.pop") (.ref a :: vs)) := by
  have hLIM := LIM_is
  have hsz := hs.size
  have hw : ws.size ≤ sizeLine := by rw [hsz]; exact Nat.le_trans hz LIM_le
  match as, r with
  | [], r =>
    refine r.nilE ?_
    cases hy : xs[xs.length - 1]? with
    | none => show Rf cx A p w (VR cx) (popAt i xs (xs.length - 1)) _; unfold popAt; rw [hy]; exact .stuck
    | some y =>
      obtain ⟨yv, hyv, ry⟩ := hs.get hy
      exact fun H S q H' he => call_meets F.slot_list_pop ⟨_, hL, rfl⟩ F.entry_list_pop (F.args_list_pop_1 _) (MeetsSeq.list_pop_last _ ws n yv (by rw [← Array.getElem?_toList, hsz]; exact hyv) hw) ⟨hL, by rw [hsz]; exact popAt_post hl hL hz hs S hy ry he⟩
  | [c], r =>
    cases c with
    | int k =>
      refine r.consE fun v us rc r0 => r0.nilE (rc.intE fun t => ite_rf (fun hk => ?_) fun u_ => .stuck)
      cases hy : xs[k.toNat]? with
      | none => unfold popAt; rw [hy]; exact .stuck
      | some y =>
        obtain ⟨yv, hyv, ry⟩ := hs.get hy
        exact fun H S q H' he => call_meets F.slot_list_pop ⟨_, hL, rfl⟩ F.entry_list_pop (F.args_list_pop_2 _ _) (MeetsSeq.list_pop_at _ ws n k _ k.toNat yv (fitsIndex_of hk.1 (by (first | lia | omega))) (seqIndex_of hk.1 (by (first | lia | omega))) (by rw [← Array.getElem?_toList]; exact hyv) hw) ⟨hL, popAt_post hl hL hz hs S hy ry he⟩
    | _ => exact .stuck
  | _ :: _ :: _, _ => exact .stuck
end
noncomputable def mtId : Mt → String
  | .append => "list.append"
  | .pop => "list.pop"
  | .clear => "list.clear"
  | .count => "list.count"
theorem methL_rf (R : Room A) {m : Mt} {i : Nat} {a : Addr} {xs as : List AV} {ws : Array Value} {n : Nat} {vs : List Value} (hl : w.ι[i]? = some a) (hL : IsL w.s.heap a ws n) (hz : xs.length ≤ LIM) (hs : VRs cx w xs ws.toList) (r : VRs cx w as vs) :
    Rf cx A p w (VR cx) (methL i xs as m) (PySem.call (.builtin (mtId m)) (.ref a :: vs)) := by
  cases m with
  | append => exact append_rf hl hL hz hs r
  | pop => exact pop_rf hl hL hz hs r
  | clear => exact .stuck
  | count => exact .stuck

noncomputable def biV : BI → Value
  | .len => .builtin "len"
  | .list => .type "list"
  | .tuple => .type "tuple"
  | .dict => .type "dict"
  | .int => .type "int"
  | .range => .type "range"
  | .min => .builtin "min"
  | .max => .builtin "max"
  | .any => .builtin "any"
  | .sorted => .builtin "sorted"
theorem small_of {a b : Int} (h : (small62 a && small62 b) = true) : Builtin.Range.small a b 1 = true := by
  unfold small62 at h
  simp only [Bool.and_eq_true, decide_eq_true_eq] at h
  exact small_one h.1.1 h.1.2 h.2.1 h.2.2
theorem range_count (a b : Int) : Builtin.Range.rangeSize a b 1 = ((b - a).toNat : Nat) := by
  rw [rangeSize_one]; split <;> (first | lia | omega)
theorem VRs.at {xs : List AV} : ∀ {vs : List Value}, xs.length = vs.length → (∀ (j : Nat) a v, xs[j]? = some a → vs[j]? = some v → VR cx w a v) → VRs cx w xs vs := by
  induction xs with
  | nil => intro vs h _; rw [List.eq_nil_of_length_eq_zero h.symm]; exact .nil
  | cons a xs ih =>
    intro vs h k
    cases vs with
    | nil => first | exact no_some h | exact no_true h | cases h
    | cons v vs => exact .cons (k 0 a v rfl rfl) (ih (Nat.succ.inj h) fun j b u h1 h2 => k (j + 1) b u h1 h2)
theorem one_rf {as : List AV} {f : AV → M AV} {vs : List Value} {c : Value} (r : VRs cx w as vs) (k : ∀ a v, VR cx w a v → Rf cx A p w (VR cx) (f a) (PySem.call c [v])) : Rf cx A p w (VR cx) (one as f) (PySem.call c vs) := by
  match as, r with
  | [], _ => exact .stuck
  | _ :: _ :: _, _ => exact .stuck
  | [a], r => exact r.consE fun v us ra r0 => r0.nilE (k a v ra)
theorem len_rf {a : AV} {v : Value} (ra : VR cx w a v) : Rf cx A p w (VR cx) (do let xs ← seqOf a; pure (.int xs.length)) (PySem.call (.builtin "len") [v]) := .read (seqOf_rd ra) fun xs ⟨l, ws, n, e, hl, hz, hvs⟩ => by
  subst e
  have hsz := hvs.size
  have hLIM := LIM_is
  cases hl with
  | list hl => exact .leaf fun H S => PySem.Calls.call_len_list hl.isList (by (first | lia | omega)) (by rw [hsz]; exact .tok S _ .int)
  | tuple hl => exact .leaf fun H S => P.len_tuple hl (by (first | lia | omega)) (by rw [hsz]; exact .tok S _ .int)
theorem list_rf (hh : A.handled = none) {mu : Bool} {a : AV} {v : Value} (ra : VR cx w a v) : Rf cx A p w (VR cx) (bList mu a) (PySem.call (.type "list") [v]) := by
  have seqs : Rf cx A p w (VR cx) (do let xs ← seqOf a; newL mu xs) (PySem.call (.type "list") [v]) := .read (seqOf_rd ra) fun xs ⟨l, ws, n, e, hl, hz, hvs⟩ H S r H' he => by
    subst e
    have hw : ws.size ≤ sizeLine := by rw [hvs.size]; exact Nat.le_trans hz LIM_le
    cases hl with
    | list hl => exact call_list_seq l (.inl rfl) hl rfl rfl (fun h' c' hk hL => newL_post S he (t := w.s.toks) hk (get_size _) hL hvs) hw
    | tuple hl => exact call_list_seq l (.inr rfl) hl rfl rfl (fun h' c' hk hL => newL_post S he (t := w.s.toks) hk (get_size _) hL hvs) hw
  cases a with
  | range a b =>
    refine ra.rangeE fun d t u x hr hf => ite_rf (fun hsm H S r H' he => ?_) fun u_ => .stuck
    have hlen := newL_len he
    unfold rangeL at hlen
    rw [List.length_map, List.length_range] at hlen
    refine call_list_range hh hr (small_of hsm) (range_count _ _) (Nat.le_trans hlen LIM_le) fun h' tk acc' c' hk hL hit => newL_post S he hk (get_size _) hL ?_
    unfold rangeL
    refine .at (by rw [List.length_map, List.length_range]; exact hit.1.symm) fun j a v h1 h2 => ?_
    rw [List.getElem?_map] at h1
    refine byC fun C_ k_ => ?_
    obtain ⟨i, h3, rfl⟩ := Option.map_eq_some_iff.mp h1
    obtain ⟨h4, h5⟩ := List.getElem?_eq_some_iff.mp h3
    rw [List.getElem_range] at h5
    subst h5
    obtain ⟨t, rfl⟩ := hit.2 j v (by rw [← Array.getElem?_toList]; exact h2)
    refine k_ ?_
    clear k_ C_
    rw [Int.mul_one]; exact .int
  | _ => exact seqs
theorem tuple_rf {a : AV} {v : Value} (ra : VR cx w a v) : Rf cx A p w (VR cx) (do let xs ← listOf a; pure (.tup xs)) (PySem.call (.type "tuple") [v]) := .read (listOf_rd ra) fun xs ⟨l, ws, n, e, hl, hz, hvs⟩ => .leaf fun H S => by
  subst e
  refine call_tuple_list hl.isList (fun h' hk => ?_) (by rw [hvs.size]; exact Nat.le_trans hz LIM_le)
  have l1 : Le cx No w ⟨w.ι, w.π, { w.s with heap := h' }⟩ := .keeps hk
  have S₁ : St cx ⟨w.ι, w.π, { w.s with heap := h' }⟩ H := S.keeps (t := w.s.toks) hk
  exact ⟨w.ι, w.π, _, rfl, .trans (b := ⟨w.ι, w.π, { w.s with heap := h' }⟩) l1.no (.keeps (pushk _)), S₁.keeps (t := w.s.toks) (pushk _), .tup (IsT.new _ _) (S₁.new (get_size _)) hz ((hvs.mono l1).mono (p := No) (.keeps (pushk _)))⟩
theorem int_rf {a : AV} {v : Value} (ra : VR cx w a v) : Rf cx A p w (VR cx) (bInt a) (PySem.call (.type "int") [v]) := by
  cases a with
  | bool b => exact ra.boolE (.leaf fun H S => call_int_bool (.tok S _ .int))
  | _ => exact .stuck
theorem range_rf {as : List AV} {vs : List Value} (r : VRs cx w as vs) : Rf cx A p w (VR cx) (bRange as) (PySem.call (.type "range") vs) := by
  match as, r with
  | [], _ => exact .stuck
  | _ :: _ :: _ :: _, _ => exact .stuck
  | [a], r =>
    refine r.consE fun v us ra r0 => r0.nilE ?_
    cases a with
    | int i => exact ra.intE fun t => .leaf fun H S => call_range_1 ⟨w.ι, w.π, _, rfl, .keeps (pushk _), S.keeps (pushk _), ⟨_, _, _, _, rfl, IsRange.new .., S.new (get_size _)⟩⟩
    | _ => exact .stuck
  | [a, b], r =>
    refine r.consE fun v us ra r0 => r0.consE fun v' us' rb r1 => r1.nilE ?_
    cases a with
    | int i =>
      cases b with
      | int j => exact ra.intE fun t => rb.intE fun u => .leaf fun H S => call_range_2 ⟨w.ι, w.π, _, rfl, .keeps (pushk _), S.keeps (pushk _), ⟨_, _, _, _, rfl, IsRange.new .., S.new (get_size _)⟩⟩
      | _ => exact .stuck
    | _ => exact .stuck
theorem min_rf (hh : A.handled = none) {as : List AV} {vs : List Value} (r : VRs cx w as vs) : Rf cx A p w (VR cx) (bMin as) (PySem.call (.builtin "min") vs) := by
  match as, r with
  | [], _ => exact .stuck
  | [_], _ => exact .stuck
  | _ :: _ :: _ :: _, _ => exact .stuck
  | [a, b], r =>
    refine r.consE fun v us ra r0 => r0.consE fun v' us' rb r1 => r1.nilE ?_
    cases a with
    | int i =>
      cases b with
      | int j =>
        refine ra.intE fun t => rb.intE fun u => .leaf fun H S => min_two_ints hh fun h' tk hk => ⟨w.ι, w.π, _, rfl, .keeps hk, S.keeps hk, ?_⟩
        split <;> exact .int
      | _ => exact .stuck
    | _ => exact .stuck
theorem bools_items : ∀ {xs : List AV} {vs : List Value} {bs : List Bool}, VRs cx w xs vs → boolsOf xs = some bs → vs = bs.map .bool
  | [], vs, is, r, e => by cases e; exact r
  | .bool i :: xs, vs, is, ⟨v, us, q, r, rs⟩, e => by
    obtain ⟨js, h1, rfl⟩ := Option.map_eq_some_iff.mp (show (boolsOf xs).map (i :: ·) = some is from e)
    rw [q, show v = .bool i from r, bools_items rs h1]; rfl
  | .none :: _, _, _, _, e | .int _ :: _, _, _, _, e | .str _ :: _, _, _, _, e | .tup _ :: _, _, _, _, e | .lst _ :: _, _, _, _, e | .loc _ :: _, _, _, _, e | .range _ _ :: _, _, _, _, e | .cdict _ :: _, _, _, _, e | .exc _ :: _, _, _, _, e => by cases e
theorem any_rf (hh : A.handled = none) {a : AV} {v : Value} (ra : VR cx w a v) : Rf cx A p w (VR cx) (do let xs ← listOf a; let bs ← ofOpt (boolsOf xs); pure (.bool (bs.any id))) (PySem.call (.builtin "any") [v]) :=
  .read (listOf_rd ra) fun xs ⟨l, ws, n, e, hl, hz, hvs⟩ => .read .opt fun bs h8 => .leaf fun H S => by
    subst e
    have hb := bools_items hvs h8
    have hlt : l < w.s.heap.objs.size := Heap.lt_size hl
    refine call_any_walk (wpAny_pyIter_list hl.isList ?_)
    refine ⟨w.s.heap.objs.size, [w.s.heap.objs.size, l], [w.s.heap.objs.size], ws.size, _, _, fun i => (bs[i]?).getD false, rfl, Walks.list (A := A.in1) hh _ l (Nat.ne_of_lt hlt) ws,
      ⟨⟨_, Heap.get?_push_size _ rfl, rfl, rfl⟩, hl.isList.push _⟩, fun i v s' Q' E' hP hQ => ?_, fun h' tk hk => ?_⟩
    · have hP' : ws.toList[i]? = some v := by rw [Array.getElem?_toList]; exact hP
      rw [hb, List.getElem?_map] at hP'
      cases hbi : bs[i]? with
      | none => rw [hbi] at hP'; cases hP'
      | some q =>
        rw [hbi] at hP'
        dsimp only at hQ
        rw [hbi] at hQ
        cases hP'
        exact wpAny_truthy_bool hQ
    · have hk' : ∀ b q, w.s.heap.get? b = some q → h'.get? b = some q := fun b q e => hk b q (by
        intro hm; rw [List.mem_singleton.mp hm] at e; exact Nat.lt_irrefl _ (Heap.lt_size e)) (Heap.get?_push_of_some _ e)
      have e : ((List.range ws.size).any fun i => (bs[i]?).getD false) = bs.any id := by
        have hl' : ws.size = bs.length := by have := congrArg List.length hb; simpa using this
        rw [hl', Bool.eq_iff_iff, List.any_eq_true, List.any_eq_true]
        constructor
        · rintro ⟨i, hi, hx⟩
          have hi' := List.mem_range.mp hi
          rw [List.getElem?_eq_getElem hi'] at hx
          exact ⟨bs[i], List.getElem_mem hi', hx⟩
        · rintro ⟨q, hq, hx⟩
          obtain ⟨i, hi, rfl⟩ := List.mem_iff_getElem.mp hq
          exact ⟨i, List.mem_range.mpr hi, by rw [List.getElem?_eq_getElem hi]; exact hx⟩
      rw [e]
      exact ⟨w.ι, w.π, _, rfl, .keeps hk', S.keeps hk', rfl⟩
theorem bi_rf {mu : Bool} {b : BI} (hh : looksH b = true → A.handled = none) {as : List AV} {vs : List Value} (r : VRs cx w as vs) : Rf cx A p w (VR cx) (pBI mu b as) (PySem.call (biV b) vs) := by
  cases b with
  | len => exact one_rf r fun a v ra => len_rf ra
  | list => exact one_rf r fun a v ra => list_rf (hh rfl) ra
  | tuple => exact one_rf r fun a v ra => tuple_rf ra
  | dict => exact .stuck
  | int => exact one_rf r fun a v ra => int_rf ra
  | range => exact range_rf r
  | min => exact min_rf (hh rfl) r
  | max => exact .stuck
  | any => exact one_rf r fun a v ra => any_rf (hh rfl) ra
  | sorted => exact .stuck
end
end Mine


set_option autoImplicit false
set_option linter.unusedVariables false
namespace Mine
open PySem PyProof.Rows PySem.SeqAt

def EvOK (cx : Cx) (A : Around) (env : Env) (I : Wl → Prop) (ev : Expr → M AV) : Prop := ∀ e w, I w → Rf cx A No w (VR cx) (ev e) (eval e env)
def Stable (cx : Cx) (I : Wl → Prop) : Prop := ∀ w w', I w → Le cx No w w' → I w'
section
variable {cx : Cx} {A : Around} {p : Addr → Prop} {w : Wl} {α β γ δ : Type} {R : Wl → α → β → Prop} {m : M α} {t : Sem β}
theorem Rf.pureL {b : γ} {k : γ → Sem β} (x : Rf cx A p w R m (k b)) : Rf cx A p w R m (Pure.pure b >>= k) := fun H S r H' h => wpAny_bind (wpAny_pure (x H S r H' h))
theorem Rf.pureR {a : γ} {f : γ → M α} (x : Rf cx A p w R (f a) t) : Rf cx A p w R (Pure.pure a >>= f) t := by rw [pure_bind]; exact x
theorem Rf.operate {R : Wl → α → Value → Prop} {t : Sem Value} {vs : List Value} (x : Rf cx A p w R m t) : Rf cx A p w R m (PySem.operate vs t) := fun H S r H' h => wpAny_operating (x H S r H' h)
theorem Rf.release {vs ks : List Value} (x : Rf cx A p w R m t) : Rf cx A p w R m (PySem.release vs ks >>= fun u_ => t) := fun H S r H' h => wpAny_bind (wpAny_release' (x H S r H' h))
theorem Rf.wp {t' : Sem β} (x : Rf cx A p w R m t) (h : ∀ {Q : β → Shared → Prop} {E : Value → Shared → Prop}, wpAny (model cx.prog cx.w) A t Q E w.s → wpAny (model cx.prog cx.w) A t' Q E w.s) : Rf cx A p w R m t' := fun H S r H' e => h (x H S r H' e)
end
section
variable {cx : Cx} {A : Around} {w : Wl} {env : Env} {I : Wl → Prop} {ev : Expr → M AV}
theorem exOk_star {e : Expr} {r : List Expr} (h : exOk e = true) : starEach (e :: r) env = (false, eval e env) :: starEach r env := by
  cases e <;> first | rfl | (cases h; done)
theorem exOk_behind {op : CmpOp} {e : Expr} {t : Sem Value} (h : exOk e = true) : markedBehindIn op e t = t := by
  cases e <;> first | rfl | (cases h; done)
theorem exOk_set {e : Expr} {v : Value} (h : exOk e = true) : foldedSetIterable e env v = pure v := by
  cases e <;> first | rfl | (cases h; done)
def VRn (cx : Cx) (n : Nat) (w : Wl) (as : List AV) (vs : List Value) : Prop := VRs cx w as vs ∧ as.length = n
theorem all_rf (hst : Stable cx I) (hev : EvOK cx A env I ev) (pos : Pos) : ∀ (es : List Expr) {w : Wl}, es.all exOk = true → I w → Rf cx A No w (VRn cx es.length) (evAll ev es) (spliced (backTo pos (starEach es env)))
  | [], w, _, i => .pure ⟨rfl, rfl⟩
  | e :: r, w, h, i => by
    rw [List.all_cons, Bool.and_eq_true] at h
    rw [exOk_star h.1]
    exact .bind (hev e w i) fun w1 a v l1 r1 => .pureL (.bind (.holding (all_rf hst hev pos r h.2 (hst _ _ i l1))) fun w2 as vs l2 r2 => .pure ⟨.cons (r1.mono l2) r2.1, congrArg Nat.succ r2.2⟩)
theorem each_rf (hst : Stable cx I) (hev : EvOK cx A env I ev) (pos : Pos) (es : List Expr) (i : I w) : Rf cx A No w (VRn cx es.length) (evEach ev es) (spliced (backTo pos (starEach es env))) := ite_rf (fun h => all_rf hst hev pos es h i) fun u_ => .stuck
theorem bOp_rf (hst : Stable cx I) (hev : EvOK cx A env I ev) (pos : Pos) (op : BoolOp) : ∀ (es : List Expr) {w : Wl}, I w → Rf cx A No w (VR cx) (bOp ev op es) (boolOp pos op (evalEach es env))
  | [], w, i => .stuck
  | [e], w, i => hev e w i
  | e :: e2 :: r, w, i => by
    show Rf cx A No w (VR cx) _ (boolOp pos op (eval e env :: eval e2 env :: evalEach r env))
    refine Rf.bind (t := eval e env) (hev e w i) fun w1 a v l1 r1 => .standAt (.bind (.holding (truth_rf r1)) fun w2 x y l2 ⟨q1, q2⟩ => ?_)
    subst q1; subst q2
    have hb := r1.mono l2
    have ih := bOp_rf hst hev pos op (e2 :: r) (hst _ _ (hst _ _ i l1) l2)
    cases op <;> cases x
    · exact .pure hb
    · exact ih
    · exact ih
    · exact .pure hb
theorem marked_cons {op op' : CmpOp} {ops : List CmpOp} {e e' : Expr} {es : List Expr} : markedEach (op :: op' :: ops) (e :: e' :: es) (evalEach (e :: e' :: es) env) = eval e env :: markedEach (op' :: ops) (e' :: es) (evalEach (e' :: es) env) := rfl
theorem compareChain_one {pos : Pos} {v : Value} {op : CmpOp} {x : Sem Value} : compareChain pos v [op] [x] = (do
    let rv ← holding [v] x
    standAt pos
    operate [v, rv] (compareOp op v rv)) := rfl
theorem testChain_one {pos : Pos} {v : Value} {op : CmpOp} {x : Sem Value} : testChain pos v [op] [x] = (do
    let rv ← holding [v] x
    standAt pos
    let c ← operate [v, rv] (compareOp op v rv)
    holding [c] (truthy c)) := rfl
theorem compareChain_two {pos : Pos} {v : Value} {op op' : CmpOp} {ops : List CmpOp} {x : Sem Value} {T : List (Sem Value)} : compareChain pos v (op :: op' :: ops) (x :: T) = (do
    let rv ← holding [v] x
    standAt pos
    let c ← holding [v, rv] (compareOp op v rv)
    release [v, rv] [c]
    if ← holding [c, rv] (truthy c) then compareChain pos rv (op' :: ops) T else pure c) := rfl
theorem testChain_two {pos : Pos} {v : Value} {op op' : CmpOp} {ops : List CmpOp} {x : Sem Value} {T : List (Sem Value)} : testChain pos v (op :: op' :: ops) (x :: T) = (do
    let rv ← holding [v] x
    standAt pos
    let c ← holding [v, rv] (compareOp op v rv)
    release [v, rv] [c]
    if ← holding [c, rv] (truthy c) then testChain pos rv (op' :: ops) T else pure false) := rfl
theorem truthB_rf {b : Bool} {p : Addr → Prop} {α β : Type} {R : Wl → α → β → Prop} {m : M α} {vs : List Value} {k : Bool → Sem β} (x : Rf cx A p w R m (k b)) : Rf cx A p w R m (holding vs (truthy (.bool b)) >>= k) := fun H S r H' h => wpAny_bind (wpAny_holding (wpAny_truthy_bool (x H S r H' h)))
def Rt (w : Wl) (a b : Bool) : Prop := a = b
theorem chain_rf (R : Room A) (hst : Stable cx I) (hev : EvOK cx A env I ev) (pos : Pos) : ∀ (ops : List CmpOp) (es : List Expr) {w : Wl} {a : AV} {v : Value}, I w → VR cx w a v →
    Rf cx A No w Rb (chain ev a ops es) (compareChain pos v ops (markedEach ops es (evalEach es env)))
  | [], _, w, a, v, i, r => .stuck
  | [op], [], w, a, v, i, r => .stuck
  | [op], _ :: _ :: _, w, a, v, i, r => .stuck
  | _ :: _ :: _, [], w, a, v, i, r => .stuck
  | op :: op' :: ops, [e], w, a, v, i, r => .stuck
  | [op], [e], w, a, v, i, r => ite_rf (fun hs => by
    show Rf cx A No w Rb (ev e >>= fun b => pCmp op a b) (compareChain pos v [op] [markedBehindIn op e (eval e env)])
    rw [exOk_behind hs, compareChain_one]
    exact .bind (.holding (hev e w i)) fun w1 b u l1 r1 => .standAt (.operate (cmp_rf R (r.mono l1) r1))) fun u_ => .stuck
  | op :: op' :: ops, e :: e' :: es, w, a, v, i, r => by
    rw [marked_cons, compareChain_two]
    refine .bind (.holding (hev e w i)) fun w1 b u l1 r1 => .standAt (.bind (.holding (cmp_rf R (r.mono l1) r1)) fun w2 c x l2 q => .release ?_)
    rw [show x = .bool c from q]
    refine truthB_rf ?_
    cases c with
    | true => exact chain_rf R hst hev pos (op' :: ops) (e' :: es) (hst _ _ (hst _ _ i l1) l2) (r1.mono l2)
    | false => exact .pure rfl
theorem testChain_rf (R : Room A) (hst : Stable cx I) (hev : EvOK cx A env I ev) (pos : Pos) : ∀ (ops : List CmpOp) (es : List Expr) {w : Wl} {a : AV} {v : Value}, I w → VR cx w a v →
    Rf cx A No w Rt (chain ev a ops es) (testChain pos v ops (markedEach ops es (evalEach es env)))
  | [], _, w, a, v, i, r => .stuck
  | [op], [], w, a, v, i, r => .stuck
  | [op], _ :: _ :: _, w, a, v, i, r => .stuck
  | _ :: _ :: _, [], w, a, v, i, r => .stuck
  | op :: op' :: ops, [e], w, a, v, i, r => .stuck
  | [op], [e], w, a, v, i, r => ite_rf (fun hs => by
    show Rf cx A No w Rt (ev e >>= fun b => pCmp op a b) (testChain pos v [op] [markedBehindIn op e (eval e env)])
    rw [exOk_behind hs, testChain_one]
    refine .bind (.holding (hev e w i)) fun w1 b u l1 r1 => .standAt (.map (.operate (cmp_rf R (r.mono l1) r1)) fun w2 c x l2 q => ?_)
    rw [show x = .bool c from q]
    exact .leaf fun H S => wpAny_holding (wpAny_truthy_bool (.here S rfl))) fun u_ => .stuck
  | op :: op' :: ops, e :: e' :: es, w, a, v, i, r => by
    rw [marked_cons, testChain_two]
    refine .bind (.holding (hev e w i)) fun w1 b u l1 r1 => .standAt (.bind (.holding (cmp_rf R (r.mono l1) r1)) fun w2 c x l2 q => .release ?_)
    rw [show x = .bool c from q]
    refine truthB_rf ?_
    cases c with
    | true => exact testChain_rf R hst hev pos (op' :: ops) (e' :: es) (hst _ _ (hst _ _ i l1) l2) (r1.mono l2)
    | false => exact .pure rfl
def TeOK (cx : Cx) (A : Around) (env : Env) (I : Wl → Prop) (te : Expr → M Bool) : Prop := ∀ e w, I w → Rf cx A No w Rt (te e) (isTrue e env (eval e env))
theorem tests_rf {te : Expr → M Bool} (hst : Stable cx I) (hte : TeOK cx A env I te) (op : BoolOp) : ∀ (es : List Expr) {w : Wl}, I w → Rf cx A No w Rt (tests te op es) (allTrue op es env)
  | [], w, i => .pure rfl
  | e :: r, w, i => by
    refine Rf.bind (hte e w i) fun w1 x y l1 q => ?_
    rw [← show x = y from q]
    have ih := tests_rf hst hte op r (hst _ _ i l1)
    cases op <;> cases x
    · exact .pure rfl
    · exact ih
    · exact ih
    · exact .pure rfl
theorem denT_rf (R : Room A) (hst : Stable cx I) (hev : EvOK cx A env I ev) : ∀ n : Nat, TeOK cx A env I (denT ev n)
  | 0 => fun e w i => .stuck
  | n + 1 => fun e w i => by
    have ih := denT_rf R hst hev n
    have fin : ∀ e, Rf cx A No w Rt (plainT ev e) (do let v ← eval e env; standAt e.pos; holding [v] (truthy v)) := fun e => ite_rf (fun u_ =>
      .bind (hev e w i) fun w1 a v l1 r1 => .standAt (.holding ((truth_rf r1).mono fun u_ u_ u_ u_ q => q.1))) fun u_ => .stuck
    cases e with
    | UnaryOp op x p =>
      cases op with
      | Not =>
        show Rf cx A No w Rt (denT ev n x >>= fun b => pure (!b)) (PySem.isTrue x env (eval x env) >>= fun b => pure (!b))
        exact .bind (ih x w i) fun w1 b c l q => .pure (congrArg not q)
      | _ => exact fin _
    | BoolOp op vs p => exact (tests_rf hst ih op vs i).wp fun h => wpAny_isTrue_BoolOp h
    | Compare l ops cs p => rw [arm_isTrue_Compare]; exact .bind (hev l w i) fun w1 a v l1 r1 => testChain_rf R hst hev _ ops cs (hst _ _ i l1) r1
    | IfExp t b o p => exact .stuck
    | _ => exact fin _
end
end Mine


set_option autoImplicit false
set_option linter.unusedVariables false
set_option maxRecDepth 100000
namespace Mine
open PySem
open Sem (wp)

abbrev VEm : List Value := [.type "ValueError", .type "Exception", .type "BaseException", .type "object"]
def NoC (h : Heap) (v : Value) : Prop := ∃ a c0 dd cd sl m, v = .ref a ∧ h.get? a = some { cls := c0, dict := dd, data := .cls cd, slots := sl } ∧ h.Ns cd.ns m ∧ m "__class__" = none
structure ExCls (h : Heap) (C : Addr) (cs : List Value) : Prop where
  obj : ∃ N nm q bs hdct sn sub ab col dd k0 k1 k2 k3 k5 mN, h.get? C = some (excClassObj nm q C N bs (cs ++ VEm) hdct sn sub ab col dd k0 k1 k2 k3 k5 "ValueError.__new__") ∧ h.Ns N mN ∧ (∀ n ∈ quietNames, mN n = none) ∧ mN "__class__" = none
  tail : OwnTailQ h VEm (cs ++ VEm)
  noC : ∀ v ∈ cs, NoC h v
theorem ExCls.keeps {h h' : Heap} {C : Addr} {cs : List Value} (x : ExCls h C cs) (hk : ∀ b o, h.get? b = some o → h'.get? b = some o) : ExCls h' C cs where
  obj := by
    obtain ⟨N, nm, q, bs, hdct, sn, sub, ab, col, dd, k0, k1, k2, k3, k5, mN, h1, h2, h3⟩ := x.obj
    exact ⟨N, nm, q, bs, hdct, sn, sub, ab, col, dd, k0, k1, k2, k3, k5, mN, hk _ _ h1, h2.keeps hk, h3⟩
  tail := x.tail.keeps hk
  noC := fun v hv => let ⟨a, c0, dd, cd, sl, m, h1, h2, h3, h4⟩ := x.noC v hv; ⟨a, c0, dd, cd, sl, m, h1, hk _ _ h2, h3.keeps hk, h4⟩

theorem lk_ve_class : typeLookup (.type "ValueError") "__class__" = pure (some (.builtin "object.__class__")) := by rw [typeLookup_type, builtinLookup_eq_fast]; kernel_rfl

section
variable {M : Model} {prog : Program} {w : World} {A : Around} {E : Value → Shared → Prop} {h : Heap} {g : Array GenState} {d : Drawn} {t : Nat} {os : OsState} {a C : Addr} {o : Obj} {cs : List Value}
theorem along_class {Q : Option Value → Shared → Prop} (hq : Q (some (.builtin "object.__class__")) ⟨h, g, d, t, os⟩) : ∀ cs : List Value, (∀ v ∈ cs, NoC h v) → wpAny M A (lookupAlong (cs ++ VEm) "__class__") Q E ⟨h, g, d, t, os⟩
  | [], _ => by
    have e := lk_ve_class
    rw [typeLookup_eq, F.attrBase_ValueError.mro] at e
    have e : lookupAlong VEm "__class__" = pure (some (.builtin "object.__class__")) := e
    show wpAny M A (lookupAlong VEm "__class__") _ _ _
    rw [e]
    exact wpAny_pure hq
  | v :: r, hn => by
    obtain ⟨b, c0, dd, cd, sl, m, e, h1, h2, h3⟩ := hn v (List.mem_cons_self ..)
    subst e
    show wpAny M A (lookupAlong (.ref b :: (r ++ VEm)) "__class__") _ _ _
    rw [lookupAlong_cons]
    refine wpAny_bind (wpAny_classOwn_cls h1 h2 ?_)
    rw [h3]
    exact along_class hq r fun v hv => hn v (List.mem_cons_of_mem _ hv)
theorem ExCls.lookClass (X : ExCls h C cs) {Q : Option Value → Shared → Prop} (hq : Q (some (.builtin "object.__class__")) ⟨h, g, d, t, os⟩) : wpAny M A (typeLookup (.ref C) "__class__") Q E ⟨h, g, d, t, os⟩ := by
  obtain ⟨N, nm, q, bs, hdct, sn, sub, ab, col, dd, k0, k1, k2, k3, k5, mN, hC, hN, hq', hc⟩ := X.obj
  rw [typeLookup_eq]
  refine wpAny_bind (wpAny_mroOf_exc hC ?_)
  rw [lookupAlong_cons]
  refine wpAny_bind (wpAny_classOwn_exc hC hN ?_)
  rw [hc]
  exact along_class hq cs X.noC
theorem ExCls.sub (X : ExCls h C cs) {base : Value} {Q : Bool → Shared → Prop} (hq : Q ((Value.ref C :: (cs ++ VEm)).contains base) ⟨h, g, d, t, os⟩) : wpAny M A (isSubtype (.ref C) base) Q E ⟨h, g, d, t, os⟩ := by
  obtain ⟨_, _, _, _, _, _, _, _, _, _, _, _, _, _, _, _, hC, _⟩ := X.obj
  exact wpAny_isSubtype_exc hC hq
theorem ExCls.has (X : ExCls h C cs) {T : String} (hT : VEm.contains (.type T) = true) : (Value.ref C :: (cs ++ VEm)).contains (.type T) = true := by
  rw [List.contains_cons, X.tail.tail.hasType hT, Bool.or_true]

theorem exc_class_get (X : ExCls h C cs) {R : Result → Shared → Prop} (hx : h.get? a = some o) (hc : o.cls = .ref C) (hq : R (.ok (.ret (.ref C))) ⟨h, g, d, t, os⟩) :
    codeAny (model prog w) A (.call (.builtin "getset_descriptor.__get__") ⟨[.builtin "object.__class__", .ref a, .ref C], []⟩) R ⟨h, g, d, t, os⟩ := by
  have hT5 : (⟨h, g, d, t, os⟩ : Shared).TypeIs (.builtin "object.__class__") "getset_descriptor" := F.typeOf_object_class
  have hcB : (Value.ref C :: (cs ++ VEm)).contains (.type (".".intercalate ("object.__class__".cutAt '.').dropLast)) = true := by
    rw [F.owner_object_class]; exact X.has (by decide)
  refine codeAny_call_builtin F.slot_gs_get.plain F.entry_gs_get (F.slot_gs_get.check _ _ _ _ _ _ _ _ hT5 (F.args_gs_get _ _ _) ?_)
  repeat (any_goals (first | assumption | (with_reducible refine wpAny_loadPart_at hx ?_; rw [hc]) | (with_reducible refine X.sub ?_; rw [hcB]) | wp_step))
  refine ⟨Code.quiet_builtin _ (by decide +kernel), codeAny_builtin F.entry_object_class ?_⟩
  repeat (any_goals (first | assumption | (with_reducible refine wpAny_loadPart_at hx ?_; rw [hc]) | wp_step))

theorem exc_class_entry (X : ExCls h C cs) {tk : Tok} {Q : Fin → Shared → Prop} (hx : h.get? a = some o) (hc : o.cls = .ref C) (hq : Q (.done (.ret (.ref C))) ⟨h, g, d, t, os⟩) :
    wpAny (model prog w) A (Builtin.«object.__getattribute__» ⟨[.ref a, .str "__class__" tk], []⟩) Q E ⟨h, g, d, t, os⟩ := by
  have hT5 : (⟨h, g, d, t, os⟩ : Shared).TypeIs (.builtin "object.__class__") "getset_descriptor" := F.typeOf_object_class
  have f5 := F.typeOf_object_class
  have f6 := F.slot_gs_get.lookup
  have f7 := F.slot_gs_set.lookup
  repeat (any_goals (first | assumption | (with_reducible refine wpAny_loadPart_at hx ?_; rw [hc]) | with_reducible refine X.lookClass ?_ | wp_step))
  refine exc_class_get X hx hc ?_
  repeat (any_goals (first | assumption | wp_step))
theorem exc_class_call (X : ExCls h C cs) {tk : Tok} {R : Result → Shared → Prop} (hx : h.get? a = some o) (hc : o.cls = .ref C) (hq : R (.ok (.ret (.ref C))) ⟨h, g, d, t, os⟩) :
    codeAny (model prog w) A (.call (.builtin "BaseException.__getattribute__") ⟨[.ref a, .str "__class__" tk], []⟩) R ⟨h, g, d, t, os⟩ := by
  obtain ⟨_, _, _, _, _, _, _, _, _, _, _, _, _, _, _, _, hC, _⟩ := X.obj
  exact codeAny_call_builtin F.attrBase_ValueError.ga.plain F.entry_bexc_ga (wpAny_check_ga_own F.attrBase_ValueError hC X.tail hx hc (exc_class_entry X hx hc hq))
theorem exc_class_by (X : ExCls h C cs) {tk : Tok} {Q : Value → Shared → Prop} (hx : h.get? a = some o) (hc : o.cls = .ref C) (hq : Q (.ref C) ⟨h, g, d, t, os⟩) :
    wpAny (model prog w) A (getAttrBy (.ref a) (.str "__class__" tk) false) Q E ⟨h, g, d, t, os⟩ := by
  obtain ⟨N, nm, q, bs, hdct, sn, sub, ab, col, dd, k0, k1, k2, k3, k5, mN, hC, hN, hmN, _⟩ := X.obj
  have f3 := F.attrBase_ValueError.ga.bind (.ref a)
  have hx2 : (Value.builtin "BaseException.__getattribute__" == Value.builtin "object.__getattribute__") = false := by decide +kernel
  have hx1 : (onTheHeap (Value.ref C) && Value.builtin "BaseException.__getattribute__" == Value.builtin "object.__getattribute__") = false := by rw [hx2]; rfl
  have hm1 : ("__getattribute__" : Str) ∈ quietNames := .tail _ (.head _)
  have hm2 : ("__getattr__" : Str) ∈ quietNames := .tail _ (.tail _ (.head _))
  repeat (any_goals (first | assumption | (with_reducible refine wpAny_loadPart_at hx ?_; rw [hc]) | with_reducible refine wpAny_typeLookup_tailQ hm1 hC hN hmN X.tail F.attrBase_ValueError.mro F.attrBase_ValueError.ga.lookup ?_ | with_reducible refine wpAny_typeLookup_tailQ hm2 hC hN hmN X.tail F.attrBase_ValueError.mro F.attrBase_ValueError.noGetattr ?_ | wp_step))
  refine exc_class_call X hx hc ?_
  repeat (any_goals (first | assumption | wp_step))
theorem exc_class_attr (X : ExCls h C cs) {Q : Option Value → Shared → Prop} (hx : h.get? a = some o) (hc : o.cls = .ref C) (hq : Q (some (.ref C)) ⟨h, g, d, t + 1, os⟩) : wpAny (model prog w) A (getAttr? (.ref a) "__class__") Q E ⟨h, g, d, t, os⟩ := by
  unfold getAttr? getAttrBy?
  repeat (any_goals (first | assumption | with_reducible apply exc_class_by X hx hc | wp_step))
end
end Mine


set_option autoImplicit false
set_option linter.unusedVariables false
set_option maxRecDepth 100000
namespace Mine
open PySem
open Sem (wp)
section
variable {M : Model} {prog : Program} {w : World} {A : Around} {E : Value → Shared → Prop} {h : Heap} {g : Array GenState} {d : Drawn} {t : Nat} {os : OsState} {a C D : Addr} {o : Obj} {cs ds : List Value}
theorem isi_nested_ref (X : ExCls h C cs) (Y : ExCls h D ds) {b : Bool} {dep : Int} {tk : Tok} {Q : Fin → Shared → Prop} (hx : h.get? a = some o) (hc : o.cls = .ref C) (hb : (Value.ref C :: (cs ++ VEm)).contains (.ref D) = b)
    (hq : ∀ t, Q (.done (.ret (.bool b))) ⟨h, g, d, t, os⟩) : wpAny (model prog w) A (Builtin.«isinstance.nested» ⟨[.ref a, .ref D, .int dep tk], []⟩) Q E ⟨h, g, d, t, os⟩ := by
  obtain ⟨N, nm, q, bs, hdct, sn, sub, ab, col, dd, k0, k1, k2, k3, k5, mN, hD, _⟩ := Y.obj
  obtain ⟨N', nm', q', bs', hdct', sn', sub', ab', col', dd', k0', k1', k2', k3', k5', mN', hC, _⟩ := X.obj
  by_cases he : (Value.ref C == Value.ref D) = true
  · have e : C = D := Value.ref.inj (beq_iff_eq.mp he)
    have hb' : b = true := by rw [← hb, ← e, List.contains_cons, beq_self_eq_true, Bool.true_or]
    subst hb'
    have hq := hq t
    repeat (any_goals (first | assumption | (with_reducible refine wpAny_loadPart_at hx ?_; rw [hc]) | wp_step))
  · have he' : (Value.ref C == Value.ref D) = false := Bool.eq_false_iff.mpr he
    have hq0 := hq t
    have hq1 := hq (t + 1)
    cases b with
    | true => repeat (any_goals (first | assumption | (with_reducible refine wpAny_loadPart_at hx ?_; rw [hc]) | with_reducible refine wpAny_loadPart_at hD ?_ | (with_reducible refine X.sub ?_; rw [hb]) | wp_step))
    | false => repeat (any_goals (first | assumption | (with_reducible refine wpAny_loadPart_at hx ?_; rw [hc]) | with_reducible refine wpAny_loadPart_at hD ?_ | with_reducible refine wpAny_loadPart_at hC ?_ | (with_reducible refine X.sub ?_; rw [hb]) | with_reducible refine exc_class_attr X hx hc ?_ | wp_step))
theorem isi_nested_ve (X : ExCls h C cs) {dep : Int} {tk : Tok} {Q : Fin → Shared → Prop} (hx : h.get? a = some o) (hc : o.cls = .ref C)
    (hq : Q (.done (.ret (.bool true))) ⟨h, g, d, t, os⟩) : wpAny (model prog w) A (Builtin.«isinstance.nested» ⟨[.ref a, .type "ValueError", .int dep tk], []⟩) Q E ⟨h, g, d, t, os⟩ := by
  have he' : (Value.ref C == Value.type "ValueError") = false := rfl
  have hty : typeOf (.type "ValueError") = pure (.type "type") := by kernel_rfl
  have hb : (Value.ref C :: (cs ++ VEm)).contains (.type "ValueError") = true := X.has (by decide)
  repeat (any_goals (first | assumption | (with_reducible refine wpAny_loadPart_at hx ?_; rw [hc]) | (with_reducible refine X.sub ?_; rw [hb]) | wp_step))
end
section
variable {prog : Program} {w : World} {A : Around} {E : Value → Shared → Prop} {s : Shared} {a C D : Addr} {o : Obj} {cs ds : List Value}
theorem isi_exc (X : ExCls s.heap C cs) (Y : ExCls s.heap D ds) {b : Bool} {Q : Value → Shared → Prop} (hx : s.heap.get? a = some o) (hc : o.cls = .ref C) (hb : (Value.ref C :: (cs ++ VEm)).contains (.ref D) = b) (hq : ∀ t, Q (.bool b) { s with toks := t }) :
    wpAny (model prog w) A (PySem.call (.builtin "isinstance") [.ref a, .ref D]) Q E s :=
  call_isinstance (S := fun u_ R s => (s.heap.get? a = some o ∧ ExCls s.heap C cs ∧ ExCls s.heap D ds) ∧ ∀ t, R (.ok (.ret (.bool b))) { s with toks := t })
    (fun u_ u_ u_ u_ s hs => by obtain ⟨h, g, d, t, os⟩ := s; exact isinstance_outer (isi_nested_ref hs.1.2.1 hs.1.2.2 hs.1.1 hc hb hs.2) (by intro q; cases q)) ⟨⟨hx, X, Y⟩, hq⟩
theorem isi_exc_ve (X : ExCls s.heap C cs) {Q : Value → Shared → Prop} (hx : s.heap.get? a = some o) (hc : o.cls = .ref C) (hq : Q (.bool true) s) :
    wpAny (model prog w) A (PySem.call (.builtin "isinstance") [.ref a, .type "ValueError"]) Q E s :=
  call_isinstance (S := fun u_ R s => (s.heap.get? a = some o ∧ ExCls s.heap C cs) ∧ R (.ok (.ret (.bool true))) s)
    (fun u_ u_ u_ u_ s hs => by obtain ⟨h, g, d, t, os⟩ := s; exact isinstance_outer (isi_nested_ve hs.1.2 hs.1.1 hc hs.2) (by intro q; cases q)) ⟨⟨hx, X⟩, hq⟩
theorem matches_exc {h : Heap} {g : Array GenState} {d : Drawn} {t : Nat} {os : OsState} {M : Model} (X : ExCls h C cs) (Y : ExCls h D ds) {Q : Bool → Shared → Prop} (hx : h.get? a = some o) (hc : o.cls = .ref C) (hb : (Value.ref C :: (cs ++ VEm)).contains (.ref D) = true) (hq : Q true ⟨h, g, d, t, os⟩) :
    wpAny M A (excMatches (.ref a) (.ref D)) Q E ⟨h, g, d, t, os⟩ := by
  obtain ⟨N, nm, q, bs, hdct, sn, sub, ab, col, dd, k0, k1, k2, k3, k5, mN, hD, _⟩ := Y.obj
  have hcB : (Value.ref D :: (ds ++ VEm)).contains (.type "BaseException") = true := Y.has (by decide)
  have f := tc_notTuple
  unfold excMatches
  repeat (first | (with_reducible refine wpAny_loadPart_at hx ?_; rw [hc]) | with_reducible refine wpAny_loadPart_at hD ?_ | (with_reducible refine X.sub ?_; rw [hb]) | (with_reducible refine Y.sub ?_; rw [hcB]) | wp_step)
  exact hq
end
end Mine


set_option autoImplicit false
set_option linter.unusedVariables false
set_option maxRecDepth 100000
namespace Mine
open PySem
open Sem (wp)
theorem entry_unchain : entryFor table "proto.unchain" = some Builtin.«proto.unchain» := entryFor_of_fast (by kernel_rfl)
def HdOK (A : Around) (h : Heap) : Prop := A.handled = none ∨ ∃ a o vs, A.handled = some (.ref a) ∧ h.get? a = some o ∧ o.data = .fields vs ∧ vs[2]? = some .none
theorem HdOK.keeps {A : Around} {h h' : Heap} (x : HdOK A h) (hk : ∀ b o, A.handled = some (.ref b) → h.get? b = some o → h'.get? b = some o) : HdOK A h' := x.imp id fun ⟨a, o, vs, h1, h2, h3⟩ => ⟨a, o, vs, h1, hk a o h1 h2, h3⟩
section
variable {prog : Program} {w : World} {A : Around} {E : Value → Shared → Prop} {s : Shared} {a : Addr} {o : Obj} {vs : Array Value}
theorem unchain_wp {e : Value} {Q : Value → Shared → Prop} (ha : s.heap.get? a = some o) (hd : o.data = .fields vs) (h2 : vs[2]? = some .none) (h : Q .none s) :
    wpAny (model prog w) A (runValue (.builtin "proto.unchain" ⟨[e, .ref a, .ref a, .bool false], []⟩)) Q E s := by
  refine wpAny_runValue (codeAny_builtin entry_unchain ?_)
  show wpAny _ _ (field (.ref a) 2 >>= _) _ _ s
  refine wpAny_bind (wpAny_field ha hd h2 ?_)
  rw [if_pos (by decide)]
  exact wpAny_pure h
theorem stop_wp {α : Type} {it : Addr} {Q : α → Shared → Prop} (hk : HdOK A s.heap) (h : ∀ h' e, Heap.ExtBut it s.heap h' → (⟨h', s.gens, s.drawn, s.toks, s.os⟩ : Shared).TypeIs (.ref e) "StopIteration" → E (.ref e) { s with heap := h' }) :
    wpAny (model prog w) A (newExc (.type "StopIteration") [] >>= fun e => (raiseNew e : Sem α)) Q E s := by
  refine wpAny_bind ?_
  simp only [newExc, newTuple]
  refine wpAny_bind (wpAny_newObj_type ?_ (by size_fits))
  refine wpAny_bind (m := firstArgMember _ _) (wpAny_of_eq (a := Value.none) (by first | rfl | (simp only [firstArgMember]; rfl)) ?_)
  refine wpAny_newObj_type ?_ (by size_fits)
  have x1 : Heap.ExtBut it s.heap _ := ((Heap.ExtBut.refl it s.heap).push { cls := .type "tuple", data := .seq ([] : List Value).toArray }).push { cls := .type "StopIteration", dict := none, data := .fields (#[Value.ref s.heap.objs.size, .none, .none, .none, .bool false, .none] ++ ownMembersOf (.type "StopIteration") []) }
  have k1 : ∀ b o, s.heap.get? b = some o → ((s.heap.push { cls := .type "tuple", data := .seq ([] : List Value).toArray }).push { cls := .type "StopIteration", dict := none, data := .fields (#[Value.ref s.heap.objs.size, .none, .none, .none, .bool false, .none] ++ ownMembersOf (.type "StopIteration") []) }).get? b = some o := fun b o e => Heap.get?_push_of_some _ (Heap.get?_push_of_some _ e)
  have g1 := Heap.get?_push_size (s.heap.push { cls := .type "tuple", data := .seq ([] : List Value).toArray }) (o := { cls := .type "StopIteration", dict := none, data := .fields (#[Value.ref s.heap.objs.size, .none, .none, .none, .bool false, .none] ++ ownMembersOf (.type "StopIteration") []) }) rfl
  simp only [raiseNew]
  refine wpAny_bind (wpAny_handled ?_)
  rcases hk with hh | ⟨a, o, vs, hh, h1, h2, h3⟩
  · first | rw [show A.in1.handled = none from hh] | rw [hh]
    exact wpAny_bind (wpAny_pure (wpAny_throw (h _ _ x1 ⟨_, g1, rfl⟩)))
  · first | rw [show A.in1.handled = some (.ref a) from hh] | rw [hh]
    have hne : a ≠ (s.heap.push { cls := .type "tuple", data := .seq ([] : List Value).toArray }).objs.size := by
      rw [Heap.size_push]; exact Nat.ne_of_lt (Nat.lt_succ_of_lt (Heap.lt_size h1))
    show wpAny _ _ (if (Value.ref a != Value.ref _) = true then _ else _) _ _ _
    rw [if_pos (by simp only [bne_iff_ne, ne_eq, Value.ref.injEq]; exact hne)]
    refine wpAny_bind (wpAny_holding ?_)
    refine unchain_wp (a := a) (o := o) (vs := vs) ?_ h2 h3 ?_
    · exact k1 _ _ h1
    refine wpAny_bind ?_
    simp only [updateField]
    refine wpAny_bind (wpAny_load g1 ?_)
    refine wpAny_update g1 (wpAny_throw (h _ _ (fun b q hb e => ?_) ⟨_, Heap.get?_update_self _ g1 rfl, rfl⟩))
    exact (Heap.get?_update_other _ _ (Ne.symm (Nat.ne_of_lt (by rw [Heap.size_push]; exact Nat.lt_succ_of_lt (Heap.lt_size e))))).trans (k1 b q e)
theorem range_end {it : Addr} {x left step : Int} {Q : Option Value → Shared → Prop} (hk : HdOK A s.heap) (hit : IsRangeIter s.heap it x left step) (hleft : left ≤ 0) (hQ : ∀ h', Heap.ExtBut it s.heap h' → Q none { s with heap := h' }) :
    wpAny (model prog w) A (pyNext (.ref it)) Q E s := by
  have hT : s.TypeIs (.ref it) "range_iterator" := ⟨_, hit, rfl⟩
  unfold pyNext
  refine wpAny_bind (wpAny_attempt (wpAny_callSpecial?_slot (name := Str.ofString "__next__") hT F.slot_range_iterator_next (wpAny_call_entry F.slot_range_iterator_next hT F.entry_range_iterator_next ?_ (F.args_range_iterator_next_1 _))))
  show wpAny _ _ (field (.ref it) 0 >>= _) _ _ s
  refine wpAny_bind (wpAny_field hit rfl (x := rawInt x) rfl ?_)
  show wpAny _ _ (field (.ref it) 1 >>= _) _ _ s
  refine wpAny_bind (wpAny_field hit rfl (x := rawInt left) rfl ?_)
  show wpAny _ _ (field (.ref it) 2 >>= _) _ _ s
  refine wpAny_bind (wpAny_field hit rfl (x := rawInt step) rfl ?_)
  show wpAny _ _ (if left ≤ 0 then _ else _) _ _ s
  rw [if_pos hleft]
  refine wpAny_bind (wpAny_rule (wpAny_bind (stop_wp (it := it) (show HdOK A.in1 _ from hk) fun h' e x t => ?_)))
  exact wpAny_bind (wpAny_isInstance (T := "StopIteration") (b := true) t isSubtype_stop (wpAny_pure (hQ h' x)))
theorem list_end {it l : Addr} {i : Nat} {items : Array Value} {Q : Option Value → Shared → Prop} (hk : HdOK A s.heap) (hne : A.handled ≠ some (.ref it)) (hit : s.heap.IsListIter it l i) (hl : s.heap.IsList l items) (hx : items[i]? = none) (hQ : ∀ h', Heap.ExtBut it s.heap h' → Q none { s with heap := h' }) :
    wpAny (model prog w) A (pyNext (.ref it)) Q E s := by
  obtain ⟨o, ho, hc, hd⟩ := id hit
  obtain ⟨ol, hol, _, nl, hdl⟩ := hl
  unfold pyNext
  refine wpAny_bind (wpAny_attempt (wpAny_callSpecial?_slot (name := Str.ofString "__next__") hit.typeIs slot_listiter_next (wpAny_call_entry slot_listiter_next hit.typeIs entry_listiter_next ?_ (args_listiter_next _))))
  show wpAny _ _ (field (.ref it) 0 >>= _) _ _ s
  refine wpAny_bind (wpAny_field ho hd (x := .ref l) rfl ?_)
  show wpAny _ _ (if (Value.ref l == Value.none) = true then _ else _) _ _ s
  rw [if_neg (show ¬ ((Value.ref l == Value.none) = true) from Bool.false_ne_true)]
  show wpAny _ _ (field (.ref it) 1 >>= _) _ _ s
  refine wpAny_bind (wpAny_field ho hd (x := .int i 0) rfl ?_)
  show wpAny _ _ (seqItems? (.ref l) >>= _) _ _ s
  refine wpAny_bind (wpAny_seqItems hol hdl ?_)
  simp only [Int.toNat_natCast, hx]
  refine wpAny_bind (wpAny_rule (wpAny_bind (wpAny_setField ho hd (by simp) ?_)))
  refine stop_wp (it := it) (show HdOK A.in1 _ from hk.keeps fun b o h e => (Heap.get?_update_other _ _ fun (z : it = b) => hne (by rw [z]; exact h)).trans e) fun h' e x t => ?_
  exact wpAny_bind (wpAny_isInstance (T := "StopIteration") (b := true) t isSubtype_stop (wpAny_pure (hQ h' fun b q hb e => x b q hb ((Heap.get?_update_other _ _ (Ne.symm hb)).trans e))))
theorem tuple_end {it l : Addr} {i : Nat} {items : Array Value} {Q : Option Value → Shared → Prop} (hk : HdOK A s.heap) (hne : A.handled ≠ some (.ref it)) (hit : s.heap.IsTupleIter it l i) (hl : s.heap.IsTuple l items) (hx : items[i]? = none) (hQ : ∀ h', Heap.ExtBut it s.heap h' → Q none { s with heap := h' }) :
    wpAny (model prog w) A (pyNext (.ref it)) Q E s := by
  obtain ⟨o, ho, hc, hd⟩ := id hit
  obtain ⟨ol, hol, _, nl, hdl⟩ := hl
  unfold pyNext
  refine wpAny_bind (wpAny_attempt (wpAny_callSpecial?_slot (name := Str.ofString "__next__") hit.typeIs F.slot_tuple_iterator_next (wpAny_call_entry F.slot_tuple_iterator_next hit.typeIs F.entry_tuple_iterator_next ?_ (F.args_tuple_iterator_next_1 _))))
  show wpAny _ _ (field (.ref it) 0 >>= _) _ _ s
  refine wpAny_bind (wpAny_field ho hd (x := .ref l) rfl ?_)
  show wpAny _ _ (if (Value.ref l == Value.none) = true then _ else _) _ _ s
  rw [if_neg (show ¬ ((Value.ref l == Value.none) = true) from Bool.false_ne_true)]
  show wpAny _ _ (field (.ref it) 1 >>= _) _ _ s
  refine wpAny_bind (wpAny_field ho hd (x := .int i 0) rfl ?_)
  show wpAny _ _ (seqItems? (.ref l) >>= _) _ _ s
  refine wpAny_bind (wpAny_seqItems hol hdl ?_)
  simp only [Int.toNat_natCast, hx]
  refine wpAny_bind (wpAny_rule (wpAny_bind (wpAny_setField ho hd (by simp) ?_)))
  refine stop_wp (it := it) (show HdOK A.in1 _ from hk.keeps fun b o h e => (Heap.get?_update_other _ _ fun (z : it = b) => hne (by rw [z]; exact h)).trans e) fun h' e x t => ?_
  exact wpAny_bind (wpAny_isInstance (T := "StopIteration") (b := true) t isSubtype_stop (wpAny_pure (hQ h' fun b q hb e => x b q hb ((Heap.get?_update_other _ _ (Ne.symm hb)).trans e))))
end
end Mine


set_option autoImplicit false
set_option linter.unusedVariables false
namespace Mine
open PySem PyProof.Rows PySem.SeqAt

def Own (env : Env) (b : Addr) : Prop := b = env.locals ∨ ∃ n, env.cells.lookup n = some b
def OwnF (cx : Cx) (env : Env) (b : Addr) : Prop := Own env b ∨ b ∈ cx.fr
theorem FrAt.le {cx : Cx} {p : Addr → Prop} {w w' : Wl} {b : Addr} (x : FrAt w b) (l : Le cx p w w') (h : ¬ p b) : FrAt w' b := let ⟨h1, o, es, ep, h2, h3⟩ := x; let ⟨sl, q, _⟩ := l.kp b o h1 h h2; ⟨l.pv b h1 h, _, es, ep, q, h3⟩
theorem FrAt.ns {w : Wl} {b : Addr} {m : Str → Option Value} (h1 : b ∈ w.π) (h2 : w.s.heap.Ns b m) : FrAt w b := by obtain ⟨o, es, ep, e, d, _⟩ := h2; exact ⟨h1, o, es, ep, e, d⟩
def HdA (cx : Cx) (A : Around) : Prop := A.handled = cx.hd.map Value.ref
theorem HdA.ok {cx : Cx} {A : Around} {w : Wl} (h : HdA cx A) (x : HdW cx w) : HdOK A w.s.heap := by
  unfold HdA at h
  cases hd : cx.hd with
  | none => rw [hd] at h; exact .inl h
  | some a => rw [hd] at h; obtain ⟨_, o, vs, q⟩ := x a hd; exact .inr ⟨a, o, vs, h, q⟩
theorem HdA.ne {cx : Cx} {A : Around} {w : Wl} {it : Addr} (h : HdA cx A) (x : HdW cx w) (hp : it ∈ w.π) : A.handled ≠ some (.ref it) := fun e => by
  unfold HdA at h
  rw [h] at e
  cases hd : cx.hd with
  | none => rw [hd] at e; cases e
  | some a => rw [hd] at e; cases e; exact (x it hd).1.2 hp
structure EnvK (env : Env) (sc : Scope) : Prop where
  kind : env.scope.kind = .function
  glob : env.globals = mainGlobals
  blt : env.builtins = builtinsNs
  klocal : ∀ x, isLocal sc x = true → env.kindOf x = some .local ∨ env.kindOf x = some .cell ∨ env.kindOf x = some .free
  kcell : ∀ x, sc.names.lookup x = some .cell → env.kindOf x = some .cell
  kglob : ∀ x, isGlob sc x = true → env.kindOf x = some .globalImplicit
structure EnvR (cx : Cx) (env : Env) (sc : Scope) (ns : List Str) (σ : Loc) (w : Wl) : Prop where
  k : EnvK env sc
  pl : env.locals ∈ w.π
  nsm : ∃ m, w.s.heap.Ns env.locals m ∧ ∀ (x : Str) (i : Nat) (a : AV), ns.idxOf? x = some i → σ[i]? = some (some a) → env.kindOf x = some .local → ∃ v, m x = some v ∧ VR cx w a v
  cel : ∀ (x : Str) (i : Nat) (a : AV), ns.idxOf? x = some i → σ[i]? = some (some a) → (env.kindOf x = some .cell ∨ env.kindOf x = some .free) → ∃ c v, env.cells.lookup x = some c ∧ c ∈ w.π ∧ w.s.heap.IsCell c (some v) ∧ VR cx w a v
  has : ∀ x, ns.contains x = true → sc.names.lookup x = some .cell → ∃ c v, env.cells.lookup x = some c ∧ c ∈ w.π ∧ w.s.heap.IsCell c v
  cls : ∀ n c, env.cells.lookup n = some c → c ∈ w.π
  fr : ∀ b, b ∈ cx.fr → FrAt w b
  hd : HdW cx w
structure Good (cx : Cx) (P : Pg) : Prop where
  g : cx.h₀.Ns mainGlobals cx.mg
  b : cx.h₀.Ns builtinsNs cx.mb
  nolim : cx.h₀.NoLimit
  glob : ∀ x a, P.glob x = some a → ∃ v, cx.mg x = some v ∧ ∀ w H, St cx w H → VR cx w a v
  bi : ∀ x b, biOf x = some b → cx.mg x = none ∧ cx.mb x = some (biV b)
  isi : cx.mg "isinstance" = none ∧ cx.mb "isinstance" = some (.builtin "isinstance")
  ty : ∀ x t, tyOf x = some t → cx.mg x = none ∧ cx.mb x = some (.type (tyStr t))
  zip : cx.mg "zip" = none ∧ cx.mb "zip" = some (.type "zip")
  enum : cx.mg "enumerate" = none ∧ cx.mb "enumerate" = some (.type "enumerate")
  ve : cx.mg "ValueError" = none ∧ cx.mb "ValueError" = some (.type "ValueError")
  cls : ∀ c cs, P.cls c = some cs → (c == ("__debug__" : Str)) = false ∧ ∃ C vs, cx.mg c = some (.ref C) ∧ ExCls cx.h₀ C vs ∧
    ∀ x xs D, P.cls x = some xs → cx.mg x = some (.ref D) → (Value.ref C :: (vs ++ VEm)).contains (.ref D) = (decide (x = c) || cs.contains x)
def CallOK (cx : Cx) (A : Around) (P : Pg) (cf : Str → List AV → M AV) : Prop := ∀ f, (P.fn f).isSome = true →
  (f == ("__debug__" : Str)) = false ∧ ∃ fa o fd, cx.mg f = some (.ref fa) ∧ cx.h₀.get? fa = some o ∧ o.data = .func fd ∧ ∀ w as vs, (∀ b, b ∈ cx.fr → FrAt w b) → HdW cx w → VRs cx w as vs → Rf cx A No w (VR cx) (cf f as) (PySem.call (.ref fa) vs)
section
variable {cx : Cx} {A : Around} {p : Addr → Prop} {w w' : Wl} {H : AHeap} {env : Env} {sc : Scope} {ns : List Str} {σ : Loc} {P : Pg}
theorem cell_up {h h' : Heap} {c : Addr} {v : Option Value} (x : h.IsCell c v) (e : ∀ o, h.get? c = some o → UpS cx c o (h'.get? c)) : h'.IsCell c v := by obtain ⟨o, h1, h2⟩ := x; exact ⟨o, (e o h1).nd fun es ep z => by (rw [h2] at z; cases z), h2⟩
theorem EnvR.mono (x : EnvR cx env sc ns σ w) (l : Le cx p w w') (hq : ∀ b, OwnF cx env b → ¬ p b) : EnvR cx env sc ns σ w' := have hp : ∀ b, Own env b → ¬ p b := fun b h => hq b (.inl h)
 ⟨x.k,
  l.pv _ x.pl (hp _ (.inl rfl)),
  by obtain ⟨m, h1, h2⟩ := x.nsm; exact ⟨m, UpS.ns h1 fun o e => l.kp _ o x.pl (hp _ (.inl rfl)) e, fun y i a q1 q2 q3 => let ⟨v, r1, r2⟩ := h2 y i a q1 q2 q3; ⟨v, r1, r2.mono l⟩⟩,
  fun y i a q1 q2 q3 => let ⟨c, v, r1, r2, r3, r4⟩ := x.cel y i a q1 q2 q3; ⟨c, v, r1, l.pv _ r2 (hp _ (.inr ⟨y, r1⟩)), cell_up r3 fun o e => l.kp _ o r2 (hp _ (.inr ⟨y, r1⟩)) e, r4.mono l⟩,
  fun y q1 q2 => let ⟨c, v, r1, r2, r3⟩ := x.has y q1 q2; ⟨c, v, r1, l.pv _ r2 (hp _ (.inr ⟨y, r1⟩)), cell_up r3 fun o e => l.kp _ o r2 (hp _ (.inr ⟨y, r1⟩)) e⟩,
  fun n c q => l.pv _ (x.cls n c q) (hp _ (.inr ⟨n, q⟩)),
  fun b hb => (x.fr b hb).le l (hq b (.inr hb)), x.hd.lv l.toLv⟩
theorem EnvR.own (x : EnvR cx env sc ns σ w) {b : Addr} (h : Own env b) : b ∈ w.π := h.elim (fun e => e ▸ x.pl) fun ⟨n, q⟩ => x.cls n b q
theorem EnvR.ownF (x : EnvR cx env sc ns σ w) {b : Addr} (h : OwnF cx env b) : b ∈ w.π := h.elim (fun q => x.own q) fun q => (x.fr b q).1
theorem EnvR.stable : Stable cx (EnvR cx env sc ns σ) := fun u_ u_ x l => x.mono l fun u_ u_ z => z
theorem St.g (S : St cx w H) (G : Good cx P) : w.s.heap.Ns mainGlobals cx.mg := G.g.keeps fun b o e => (S.base b o e).1
theorem St.b (S : St cx w H) (G : Good cx P) : w.s.heap.Ns builtinsNs cx.mb := G.b.keeps fun b o e => (S.base b o e).1
theorem load_glob {x : Str} {pos : Pos} {v : Value} {E : Value → Shared → Prop} {Q : Value → Shared → Prop} (G : Good cx P) (S : St cx w H) (K : EnvK env sc) (hx : isGlob sc x = true) (hd : (x == ("__debug__" : Str)) = false) (hv : cx.mg x = some v) (h : Q v w.s) :
    wpAny (model cx.prog cx.w) A (eval (.Name x pos) env) Q E w.s := Calls.Name_function_global K.kind (K.kglob x hx) (Calls.loadGlobal_global (by rw [K.glob]; exact S.g G) hv h) hd
theorem load_bi {x : Str} {pos : Pos} {v : Value} {E : Value → Shared → Prop} {Q : Value → Shared → Prop} (G : Good cx P) (S : St cx w H) (K : EnvK env sc) (hx : isGlob sc x = true) (hd : (x == ("__debug__" : Str)) = false) (hv : cx.mg x = none ∧ cx.mb x = some v) (h : Q v w.s) :
    wpAny (model cx.prog cx.w) A (eval (.Name x pos) env) Q E w.s := Calls.Name_function_global K.kind (K.kglob x hx) (Calls.loadGlobal_builtin (by rw [K.glob]; exact S.g G) hv.1 (by rw [K.blt]; exact S.b G) hv.2 h) hd
theorem name_rf {x : Str} {pos : Pos} (I : EnvR cx env sc ns σ w) (hl : isLocal sc x = true) (hd : (x == ("__debug__" : Str) || x == ("__classdict__" : Str)) = false) : Rf cx A p w (VR cx) (nameV ns x σ) (eval (.Name x pos) env) := by
  rw [Bool.or_eq_false_iff] at hd
  unfold nameV
  cases hi : ns.idxOf? x with
  | none => exact .stuck
  | some i =>
    show Rf cx A p w (VR cx) (match σ[i]? with | some (some v) => pure v | _ => stuck) _
    cases hv : σ[i]? with
    | none => exact .stuck
    | some ov =>
      cases ov with
      | none => exact .stuck
      | some a =>
        refine .leaf fun H S => wpAny_Name ?_ hd.1
        rcases I.k.klocal x hl with k | k | k
        · refine byC fun C_ k_ => ?_
          obtain ⟨m, hm, hmv⟩ := I.nsm
          obtain ⟨v, q1, q2⟩ := hmv x i a hi hv k
          refine k_ ?_
          clear k_ C_
          exact wpAny_loadName_local I.k.kind k hm q1 (.here S q2)
        · refine byC fun C_ k_ => ?_
          obtain ⟨c, v, q1, _, q2, q3⟩ := I.cel x i a hi hv (.inl k)
          refine k_ ?_
          clear k_ C_
          exact wpAny_loadName_cell I.k.kind k q1 q2 (.here S q3)
        · refine byC fun C_ k_ => ?_
          obtain ⟨c, v, q1, _, q2, q3⟩ := I.cel x i a hi hv (.inr k)
          refine k_ ?_
          clear k_ C_
          exact wpAny_loadName_free I.k.kind k q1 q2 (.here S q3) hd.2
theorem dName_rf {x : Str} {pos : Pos} (G : Good cx P) (I : EnvR cx env sc ns σ w) : Rf cx A p w (VR cx) (dName P sc ns σ x) (eval (.Name x pos) env) :=
  ite_rf (fun u_ => .stuck) fun hd => ite_rf (fun hl => name_rf I hl (Bool.eq_false_iff.mpr hd)) fun u_ => ite_rf (fun hg => by
    cases hx : P.glob x with
    | none => exact .stuck
    | some a =>
      obtain ⟨v, q1, q2⟩ := G.glob x a hx
      have hd := Bool.eq_false_iff.mpr hd
      rw [Bool.or_eq_false_iff] at hd
      exact .leaf fun H S => load_glob G S I.k hg hd.1 q1 (.here S (q2 w H S))) fun u_ => .stuck
end

section
variable {cx : Cx} {A : Around} {w : Wl} {env : Env} {I : Wl → Prop} {ev : Expr → M AV}
theorem const_rf {c : Const} {k : Nat} {q : Pos} : Rf cx A No w (VR cx) (constV c) (eval (.Constant c k q) env) := by
  cases c with
  | none => exact .leaf fun H S => wpAny_Constant_none (.here S .none)
  | bool b => exact .leaf fun H S => wpAny_Constant_bool (.here S .bool)
  | int i => exact .leaf fun H S => wpAny_Constant_int (.tok S _ .int)
  | str x => exact .leaf fun H S => wpAny_Constant_str (.tok S _ .str)
  | _ => exact .stuck
theorem binop_rf {l r : Expr} {op : Operator} {q : Pos} {mu : Bool} (hst : Stable cx I) (hev : EvOK cx A env I ev) (i : I w) : Rf cx A No w (VR cx) (do let a ← ev l; let b ← ev r; pBin mu op a b) (eval (.BinOp l op r q) env) :=
  Rf.bind (hev l w i) fun w1 a v l1 r1 => .bind (.holding (hev r w1 (hst _ _ i l1))) fun w2 b u l2 r2 => .standAt (.operate (bin_rf (r1.mono l2) r2))
theorem not_rf {a : AV} {v : Value} (ra : VR cx w a v) : Rf cx A No w (VR cx) (do let b ← truth a; pure (.bool !b)) (unaryOp .Not v) := by
  cases a with
  | bool b => exact ra.boolE (.pureR (.leaf fun H S => not_value (wpAny_truthy_bool (.here S .bool))))
  | _ => exact .stuck
theorem unop_rf {x : Expr} {op : UnaryOp} {q : Pos} (hev : EvOK cx A env I ev) (i : I w) : Rf cx A No w (VR cx) (dUn ev op x) (eval (.UnaryOp op x q) env) := by
  cases op with
  | USub => exact Rf.bind (hev x w i) fun w1 a v l1 r1 => .standAt (.holding (neg_rf r1))
  | Not => exact Rf.bind (hev x w i) fun w1 a v l1 r1 => .standAt (.holding (not_rf r1))
  | _ => exact .stuck
theorem compare_rf (R : Room A) {l : Expr} {ops : List CmpOp} {cs : List Expr} {q : Pos} (hst : Stable cx I) (hev : EvOK cx A env I ev) (i : I w) : Rf cx A No w (VR cx) (do let a ← ev l; let b ← chain ev a ops cs; pure (.bool b)) (eval (.Compare l ops cs q) env) :=
  Rf.bind (hev l w i) fun w1 a v l1 r1 => by
    have := Rf.bind (k := Pure.pure) (chain_rf R hst hev q ops cs (hst _ _ i l1) r1) fun w2 b x l2 e => Rf.pure (R := VR cx) (a := .bool b) e
    rwa [bind_pure] at this
theorem tuple_lit_rf {es : List Expr} {k : Nat} {q : Pos} (hst : Stable cx I) (hev : EvOK cx A env I ev) (i : I w) : Rf cx A No w (VR cx) (if es.length ≤ 100 then (do let vs ← evEach ev es; pure (.tup vs)) else stuck) (eval (.Tuple es k q) env) :=
  ite_rf (fun hl => .standAt (.bind (each_rf hst hev q es i) fun w1 as vs l1 r1 => newTuple_rf (by rw [r1.2]; exact Nat.le_trans hl (by decide)) r1.1)) fun u_ => .stuck
theorem list_lit_rf {es : List Expr} {q : Pos} {mu : Bool} (hst : Stable cx I) (hev : EvOK cx A env I ev) (i : I w) : Rf cx A No w (VR cx) (do let vs ← evEach ev es; newL mu vs) (eval (.List es q) env) :=
  .standAt (.bind (each_rf hst hev q es i) fun w1 as vs l1 r1 => newList_rf r1.1)

set_option tactic.hygienic true in
theorem sub_tail {value slice : Expr} {o i : Value} {s : Shared} {Q E : Value → Shared → Prop} (hs : Subs s o) (h : wpAny (model cx.prog cx.w) A (getItem o i) Q E s) :
    wpAny (model cx.prog cx.w) A (do let r ← subscripted slice (← getitemInPython o) o i; letTemporaryGo value o r; pure r) Q E s := by
  refine byC fun C_ k_ => ?_
  obtain ⟨T, id, hT, hl⟩ := hs
  refine k_ ?_
  clear k_ C_
  rw [getitemInPython_of_ne hT.not_modules]
  have hg : wpAny (model cx.prog cx.w) A (getItem o i) (fun r s₃ => wpAny (model cx.prog cx.w) A (letTemporaryGo value o r >>= fun u_ => pure r) Q E s₃) E s :=
    wpAny_mono h (fun r s₃ h₃ => wpAny_bind (wpAny_letTemporaryGo (wpAny_pure h₃))) fun u_ u_ x => x
  refine wpAny_bind (wpAny_bind (wpAny_specialOf hT hl (wpAny_pure (wpAny_bind ?_))))
  cases slice
  case Slice lo hi st q => cases st <;> exact wpAny_operating hg
  all_goals exact wpAny_operating hg
theorem item_at_rf {o i : Expr} {q : Pos} (hst : Stable cx I) (hev : EvOK cx A env I ev) (j : I w) : Rf cx A No w (VR cx) (do let ov ← ev o; let iv ← ev i; pItem ov iv) (eval (.Subscript o i q) env) :=
  Rf.bind (hev o w j) fun w1 a v l1 r1 => .bind (.holding (hev i w1 (hst _ _ j l1))) fun w2 b u l2 r2 => .standAt (item_rf (r1.mono l2) r2 fun hs h => sub_tail hs h)
def RPart (w : Wl) (k : Option Int) (v : Value) : Prop := IsPart v k
theorem sliceEnd_rf {e : Option Expr} (hev : EvOK cx A env I ev) (j : I w) : Rf cx A No w RPart (sliceEnd ev e) (evalPart e env) := by
  cases e with
  | none => rw [evalPart_none]; exact .pure .none
  | some e =>
    rw [evalPart_some]
    refine Rf.seqw (k := fun v => pure v) (hev e w j) (fun w1 a v l1 r1 => ?_) fun h => by have := wpAny_bind h; rwa [bind_pure] at this
    cases a with
    | int i => exact r1.intE fun t => .pureR (.pure (.int i t))
    | _ => exact .stuck
def RSl (w : Wl) (k : Option Int × Option Int) (v : Value) : Prop := ∃ a vl vu, v = .ref a ∧ w.s.heap.IsSliceOf a vl vu .none ∧ IsPart vl k.1 ∧ IsPart vu k.2
theorem slc_rf {lo hi : Option Expr} {sp : Pos} (hst : Stable cx I) (hev : EvOK cx A env I ev) (j : I w) : Rf cx A No w RSl (do let a ← sliceEnd ev lo; let b ← sliceEnd ev hi; pure (a, b)) (eval (.Slice lo hi none sp) env) :=
  Rf.bind (sliceEnd_rf hev j) fun w1 a vl l1 p1 => .bind (.holding (sliceEnd_rf hev (hst _ _ j l1))) fun w2 b vu l2 p2 => by
    show Rf cx A No w2 RSl (pure (a, b)) (holding [vl, vu] (evalPart none env) >>= fun s => newFields "slice" [vl, vu, s])
    rw [evalPart_none]
    exact fun H S r H' h => wpAny_bind (wpAny_holding (wpAny_pure (wpAny_newObj_type (by
      obtain ⟨rfl, rfl⟩ := pure_some h
      exact ⟨w2.ι, w2.π, _, rfl, .keeps (pushk _), S.keeps (t := w2.s.toks) (pushk _), _, vl, vu, rfl, Heap.IsSliceOf.new .., p1, p2⟩))))
theorem slice_at_rf {o : Expr} {lo hi : Option Expr} {sp q : Pos} {mu : Bool} (hst : Stable cx I) (hev : EvOK cx A env I ev) (j : I w) :
    Rf cx A No w (VR cx) (do let ov ← ev o; let a ← sliceEnd ev lo; let b ← sliceEnd ev hi; pSlice mu ov a b) (eval (.Subscript o (.Slice lo hi none sp) q) env) :=
  Rf.bind (hev o w j) fun w1 a v l1 r1 => by
    have := Rf.bind (f := fun k => pSlice mu a k.1 k.2) (Rf.holding (vs := [v]) (slc_rf (lo := lo) (hi := hi) (sp := sp) hst hev (hst _ _ j l1))) fun w2 k u l2 ⟨sl, vl, vu, e, hs, p1, p2⟩ => Rf.standAt (q := q) (t := (do let r ← subscripted (.Slice lo hi none sp) (← getitemInPython v) v u; letTemporaryGo o v r; pure r)) (slice_rf (A := A) (p := No) (mu := mu) (r1.mono l2) hs p1 p2 fun h1 h2 => e ▸ sub_tail h1 h2)
    simp only [bind_assoc, pure_bind] at this
    exact this
theorem rev_at_rf {o : Expr} {sp q p1 p2 : Pos} {k : Nat} {mu : Bool} (hev : EvOK cx A env I ev) (j : I w) :
    Rf cx A No w (VR cx) (do let ov ← ev o; pRev mu ov) (eval (.Subscript o (.Slice none none (some (.UnaryOp .USub (.Constant (.int 1) k p1) p2)) sp) q) env) :=
  Rf.bind (hev o w j) fun w1 a v l1 r1 => fun H S r H' h => by
    refine wpAny_bind (wpAny_holding (wpAny_Slice ?_))
    rw [evalPart_none]
    refine wpAny_pure (wpAny_pure ?_)
    rw [evalPart_some]
    refine wpAny_UnaryOp (wpAny_Constant_int (neg_int (wpAny_bind (wpAny_standAt ?_))))
    have l : Le cx No w1 ⟨w1.ι, w1.π, { w1.s with heap := w1.s.heap.push { cls := .type "slice", data := .fields #[.none, .none, .int (-1) (w1.s.toks + 1)] }, toks := w1.s.toks + 1 + 1 }⟩ := .keeps (pushk _)
    exact wpAny_mono (rev_rf (mu := mu) (p := No) (t := (do let r ← subscripted (.Slice none none (some (.UnaryOp .USub (.Constant (.int 1) k p1) p2)) sp) (← getitemInPython v) v (.ref w1.s.heap.objs.size); letTemporaryGo o v r; pure r)) (r1.mono l) (Heap.IsSliceOf.new ..) (fun h1 h2 => sub_tail h1 h2) H (S.keeps (pushk _)) r H' h) (fun u_ u_ q => q.le l) fun u_ u_ q => q.le l
theorem sub_rf {o i : Expr} {q : Pos} {mu : Bool} (hst : Stable cx I) (hev : EvOK cx A env I ev) (j : I w) : Rf cx A No w (VR cx) (dSub ev mu o i) (eval (.Subscript o i q) env) := by
  cases i with
  | Slice lo hi st sp =>
    cases st with
    | none => exact slice_at_rf hst hev j
    | some e =>
      refine ite_rf (fun hc => ?_) fun u_ => .stuck
      rw [Bool.and_eq_true, Bool.and_eq_true, Option.isNone_iff_eq_none, Option.isNone_iff_eq_none] at hc
      obtain ⟨⟨h1, rfl⟩, rfl⟩ := hc
      cases e with
      | UnaryOp op x p =>
        have h1 : (isNegOp op && isC1 x) = true := h1
        rw [Bool.and_eq_true] at h1
        cases op with
        | USub =>
          cases x with
          | Constant c k p1 =>
            cases c with
            | int i => have : i = 1 := of_decide_eq_true h1.2; subst this; exact rev_at_rf hev j
            | _ => cases h1.2
          | _ => cases h1.2
        | _ => cases h1.1
      | _ => first | exact no_some h1 | exact no_true h1 | cases h1
  | _ => exact item_at_rf hst hev j
end
end Mine


set_option autoImplicit false
set_option linter.unusedVariables false
namespace Mine
open PySem PyProof.Rows PySem.SeqAt

section
variable {cx : Cx} {A : Around} {p : Addr → Prop} {w w' w0 : Wl} {H : AHeap} {d : Addr}
theorem St.old (S : St cx w H) (hd : w.s.heap.get? d = none) {b : Addr} {o : Obj} (e : w.s.heap.get? b = some o) : b ≠ d := fun z => by rw [z, hd] at e; cases e
theorem St.hides (S : St cx w H) (ds : List Addr) {h' : Heap} {t : Nat} (hk : ∀ b o, w.s.heap.get? b = some o → h'.get? b = some o) (hd : ∀ d, d ∈ ds → w.s.heap.get? d = none) (hx : ∀ d, d ∈ ds → ∃ o, h'.get? d = some o) :
    Le cx No w ⟨w.ι, ds ++ w.π, { w.s with heap := h', toks := t }⟩ ∧ St cx ⟨w.ι, ds ++ w.π, { w.s with heap := h', toks := t }⟩ H := by
  have ne : ∀ {b : Addr} {o : Obj}, w.s.heap.get? b = some o → b ∉ w.π → b ∉ ds ++ w.π := fun e h1 h2 => (List.mem_append.mp h2).elim (fun h => S.old (hd _ h) e rfl) h1
  have l : Le cx No w ⟨w.ι, ds ++ w.π, { w.s with heap := h', toks := t }⟩ := ⟨⟨List.prefix_refl _, fun b o e h1 h2 => ⟨hk b o e, h1, ne e h2⟩⟩, fun u_ h u_ => List.mem_append_right _ h, fun b o u_ u_ e => .of (hk b o e)⟩
  refine ⟨l, ⟨fun b o e => let q := S.base b o e; ⟨hk b o q.1, q.2.1, ne q.1 q.2.2⟩, S.len, S.nodup, fun a ha h => ?_, fun a ha => ?_, fun i a o e1 e2 => (S.own i a o e1 e2).keep l.toLv (hk a), S.gens, S.os, S.sysm⟩⟩
  · obtain ⟨o, e⟩ := S.obj ha
    exact ne e (S.dj a ha) h
  · rcases List.mem_append.mp ha with h | h
    · exact hx a h
    · obtain ⟨o, e⟩ := S.pvx a h; exact ⟨o, hk a o e⟩
theorem St.hide (S : St cx w H) {h' : Heap} {t : Nat} (hk : ∀ b o, w.s.heap.get? b = some o → h'.get? b = some o) (hd : w.s.heap.get? d = none) (hx : ∃ o, h'.get? d = some o) :
    Le cx No w ⟨w.ι, d :: w.π, { w.s with heap := h', toks := t }⟩ ∧ St cx ⟨w.ι, d :: w.π, { w.s with heap := h', toks := t }⟩ H :=
  S.hides [d] hk (fun b e => List.mem_singleton.mp e ▸ hd) fun b e => List.mem_singleton.mp e ▸ hx
theorem St.privs (S : St cx w H) {h' : Heap} {t : Nat} {p : Addr → Prop} (hd : ∀ b, p b → b ∈ w.π) (hk : ∀ b o, ¬ p b → w.s.heap.get? b = some o → h'.get? b = some o) (hx : ∀ b, p b → ∃ o, h'.get? b = some o) :
    Le cx p w ⟨w.ι, w.π, { w.s with heap := h', toks := t }⟩ ∧ St cx ⟨w.ι, w.π, { w.s with heap := h', toks := t }⟩ H := by
  have l : Le cx p w ⟨w.ι, w.π, { w.s with heap := h', toks := t }⟩ := ⟨⟨List.prefix_refl _, fun b o e h1 h2 => ⟨hk b o (fun z => h2 (hd b z)) e, h1, h2⟩⟩, fun u_ h u_ => h, fun b o u_ h e => .of (hk b o h e)⟩
  refine ⟨l, ⟨fun b o e => let q := S.base b o e; ⟨hk b o (fun z => q.2.2 (hd b z)) q.1, q.2⟩, S.len, S.nodup, S.dj, fun a ha => ?_, fun i a o e1 e2 => (S.own i a o e1 e2).keep l.toLv fun o e => hk a o (fun z => S.dj a (List.mem_of_getElem? e1) (hd a z)) e, S.gens, S.os, S.sysm⟩⟩
  by_cases h : p a
  · exact hx a h
  · obtain ⟨o, e⟩ := S.pvx a ha; exact ⟨o, hk a o h e⟩
theorem St.priv (S : St cx w H) {h' : Heap} {t : Nat} (hd : d ∈ w.π) (hk : ∀ b o, b ≠ d → w.s.heap.get? b = some o → h'.get? b = some o) (hx : ∃ o, h'.get? d = some o) :
    Le cx (fun b => b = d) w ⟨w.ι, w.π, { w.s with heap := h', toks := t }⟩ ∧ St cx ⟨w.ι, w.π, { w.s with heap := h', toks := t }⟩ H := S.privs (fun b e => e ▸ hd) hk fun b e => e ▸ hx
def outP (π : List Addr) (d : Addr) : List Addr := π.filter fun b => decide (b ≠ d)
theorem mem_outP {π : List Addr} {b : Addr} : b ∈ outP π d ↔ b ∈ π ∧ b ≠ d := by unfold outP; rw [List.mem_filter, decide_eq_true_iff]
theorem St.drop (S : St cx w H) {h' : Heap} {t : Nat} (hd : d ∈ w.π) (hk : ∀ b o, b ≠ d → w.s.heap.get? b = some o → h'.get? b = some o) :
    Le cx (fun b => b = d) w ⟨w.ι, outP w.π d, { w.s with heap := h', toks := t }⟩ ∧ St cx ⟨w.ι, outP w.π d, { w.s with heap := h', toks := t }⟩ H := by
  have l : Le cx (fun b => b = d) w ⟨w.ι, outP w.π d, { w.s with heap := h', toks := t }⟩ := ⟨⟨List.prefix_refl _, fun b o e h1 h2 => ⟨hk b o (fun z => h2 (z ▸ hd)) e, h1, fun z => h2 (mem_outP.mp z).1⟩⟩, fun u_ h q => mem_outP.mpr ⟨h, q⟩, fun b o u_ h e => .of (hk b o h e)⟩
  exact ⟨l, ⟨fun b o e => let q := S.base b o e; ⟨hk b o (fun z => q.2.2 (z ▸ hd)) q.1, q.2.1, fun z => q.2.2 (mem_outP.mp z).1⟩, S.len, S.nodup, fun a ha z => S.dj a ha (mem_outP.mp z).1, fun a ha => let ⟨q1, q2⟩ := mem_outP.mp ha; let ⟨o, e⟩ := S.pvx a q1; ⟨o, hk a o q2 e⟩, fun i a o e1 e2 => (S.own i a o e1 e2).keep l.toLv fun o e => hk a o (fun z => S.dj a (List.mem_of_getElem? e1) (z ▸ hd)) e, S.gens, S.os, S.sysm⟩⟩
theorem St.adopt (S : St cx w H) {h' : Heap} {t : Nat} {o : AO} (hd : d ∈ w.π) (hk : ∀ b q, b ≠ d → w.s.heap.get? b = some q → h'.get? b = some q)
    (r : Le cx (fun b => b = d) w ⟨w.ι ++ [d], outP w.π d, { w.s with heap := h', toks := t }⟩ → OR cx ⟨w.ι ++ [d], outP w.π d, { w.s with heap := h', toks := t }⟩ d o) :
    Le cx (fun b => b = d) w ⟨w.ι ++ [d], outP w.π d, { w.s with heap := h', toks := t }⟩ ∧ St cx ⟨w.ι ++ [d], outP w.π d, { w.s with heap := h', toks := t }⟩ (H ++ [o]) := by
  have ne : ∀ {b : Addr}, b ∉ w.ι → b ∉ w.π → b ∉ w.ι ++ [d] := fun h1 h2 h3 => (List.mem_append.mp h3).elim h1 fun h => h2 (List.mem_singleton.mp h ▸ hd)
  have l : Le cx (fun b => b = d) w ⟨w.ι ++ [d], outP w.π d, { w.s with heap := h', toks := t }⟩ := ⟨⟨List.prefix_append _ _, fun b q e h1 h2 => ⟨hk b q (fun z => h2 (z ▸ hd)) e, ne h1 h2, fun z => h2 (mem_outP.mp z).1⟩⟩, fun u_ h q => mem_outP.mpr ⟨h, q⟩, fun b o u_ h e => .of (hk b o h e)⟩
  refine ⟨l, ⟨fun b q e => let z := S.base b q e; ⟨hk b q (fun y => z.2.2 (y ▸ hd)) z.1, ne z.2.1 z.2.2, fun y => z.2.2 (mem_outP.mp y).1⟩, by rw [List.length_append, List.length_append, S.len]; rfl, ?_, ?_, fun b hb => ?_, ?_, S.gens, S.os, S.sysm⟩⟩
  · exact List.nodup_append.mpr ⟨S.nodup, List.nodup_cons.mpr ⟨List.not_mem_nil, List.nodup_nil⟩, fun x hx y hy e => S.dj x hx (by rw [e, List.mem_singleton.mp hy]; exact hd)⟩
  · intro b hb z
    rcases List.mem_append.mp hb with h | h
    · exact S.dj b h (mem_outP.mp z).1
    · exact (mem_outP.mp z).2 (List.mem_singleton.mp h)
  · refine byC fun C_ k_ => ?_
    obtain ⟨h1, h2⟩ := mem_outP.mp hb
    obtain ⟨q, e⟩ := S.pvx b h1
    refine k_ ?_
    clear k_ C_
    exact ⟨q, hk b q h2 e⟩
  · intro i b q e1 e2
    rcases Nat.lt_trichotomy i w.ι.length with h | h | h
    · rw [List.getElem?_append_left h] at e1
      rw [List.getElem?_append_left (S.len ▸ h)] at e2
      exact (S.own i b q e1 e2).keep l.toLv fun q' e => hk b q' (fun z => S.dj b (List.mem_of_getElem? e1) (z ▸ hd)) e
    · subst h
      rw [List.getElem?_concat_length] at e1
      rw [S.len, List.getElem?_concat_length] at e2
      cases e1; cases e2
      exact r l
    · rw [List.getElem?_eq_none (by rw [List.length_append]; exact h)] at e1; cases e1
end

section
variable {cx : Cx} {A : Around} {w : Wl} {env : Env} {I : Wl → Prop} {ev : Expr → M AV}
theorem strKey1_of {k : Option Expr} {x : Str} (h : strKey1 k = some x) : ∃ kd kp, k = some (.Constant (.str x) kd kp) := by
  cases k with
  | none => first | exact no_some h | exact no_true h | cases h
  | some e =>
    cases e with
    | Constant c kd kp =>
      cases c with
      | str y => cases h; exact ⟨kd, kp, rfl⟩
      | _ => exact no_some h
    | _ => exact no_some h
theorem strKeys_cons {k : Option Expr} {r : List (Option Expr)} {ks : List Str} (h : strKeys (k :: r) = some ks) : ∃ x kd kp ks', k = some (.Constant (.str x) kd kp) ∧ strKeys r = some ks' ∧ ks = x :: ks' := by
  refine byC fun C_ k_ => ?_
  obtain ⟨x, h1, h2⟩ := Option.bind_eq_some_iff.mp h
  obtain ⟨ks', h3, h4⟩ := Option.map_eq_some_iff.mp h2
  obtain ⟨kd, kp, e⟩ := strKey1_of h1
  refine k_ ?_
  clear k_ C_
  exact ⟨x, kd, kp, ks', e, h3, h4.symm⟩
def RPairs (cx : Cx) (ks : List Str) (w : Wl) (as : List AV) (vs : List (Value × Value)) : Prop := allStrKeys vs = true ∧ (strPairs vs).map (·.1) = ks ∧ VRs cx w as ((strPairs vs).map (·.2)) ∧ as.length = ks.length
theorem constS_rf {x : Str} {kd : Nat} {kp : Pos} : Rf cx A No w (fun _ (_ : Unit) v => ∃ t, v = .str x t) (pure ()) (eval (.Constant (.str x) kd kp) env) := .leaf fun H S => wpAny_Constant_str (.tok S _ ⟨_, rfl⟩)
theorem pairs_rf (hst : Stable cx I) (hev : EvOK cx A env I ev) (pos : Pos) : ∀ (keys : List (Option Expr)) (vals : List Expr) {ks : List Str} {w : Wl}, I w → strKeys keys = some ks → ks.length = vals.length → Rf cx A No w (RPairs cx ks) (evAll ev vals) (evalPairs (pairTrees keys vals env pos))
  | [], [], ks, w, i, hk, hl => by cases hk; exact .leaf fun H S => pairTrees_nil_walk (.here S ⟨rfl, rfl, rfl, rfl⟩)
  | [], _ :: _, ks, w, i, hk, hl => by cases hk; cases hl
  | k :: keys, [], ks, w, i, hk, hl => by obtain ⟨x, kd, kp, ks', _, _, rfl⟩ := strKeys_cons hk; cases hl
  | k :: keys, e :: vals, ks, w, i, hk, hl => by
    refine byC fun C_ k_ => ?_
    obtain ⟨x, kd, kp, ks', rfl, hk', rfl⟩ := strKeys_cons hk
    refine k_ ?_
    clear k_ C_
    rw [← pure_bind () fun u_ => evAll ev (e :: vals)]
    refine Rf.bind constS_rf fun w1 _ kv l1 ⟨tk, hkv⟩ => ?_
    subst hkv
    have i1 := hst _ _ i l1
    refine .bind (t := holding [.str x tk] (do let x ← eval e env; standAt pos; pure x)) (.holding (.map (hev e w1 i1) fun w2 a v l2 r2 => .standAt (.pure r2))) fun w2 a v l2 r2 => ?_
    refine .bind (.holding (pairs_rf hst hev pos keys vals (hst _ _ i1 l2) hk' (Nat.succ.inj hl))) fun w3 as vs l3 ⟨q1, q2, q3, q4⟩ => .pure ⟨q1, congrArg (x :: ·) q2, .cons (r2.mono l3) q3, congrArg Nat.succ q4⟩
theorem zip_fst : ∀ {ks : List Str} {as : List AV}, as.length = ks.length → (ks.zip as).map (·.1) = ks
  | [], [], _ => rfl
  | [], _ :: _, h => by cases h
  | _ :: _, [], h => by cases h
  | k :: ks, a :: as, h => congrArg (k :: ·) (zip_fst (Nat.succ.inj h))
theorem zip_snd : ∀ {ks : List Str} {as : List AV}, as.length = ks.length → (ks.zip as).map (·.2) = as
  | [], [], _ => rfl
  | [], _ :: _, h => by cases h
  | _ :: _, [], h => by cases h
  | k :: ks, a :: as, h => congrArg (a :: ·) (zip_snd (Nat.succ.inj h))
theorem strKeys_all : ∀ {keys : List (Option Expr)} {ks : List Str}, strKeys keys = some ks → keys.all (·.isSome) = true ∧ keys.length = ks.length
  | [], _, h => by cases h; exact ⟨rfl, rfl⟩
  | k :: keys, ks, h => by
    refine byC fun C_ k_ => ?_
    obtain ⟨x, kd, kp, ks', rfl, hk', rfl⟩ := strKeys_cons h
    obtain ⟨q1, q2⟩ := strKeys_all hk'
    refine k_ ?_
    clear k_ C_
    exact ⟨q1, congrArg Nat.succ q2⟩
theorem dict_lit_rf {keys : List (Option Expr)} {vals : List Expr} {q : Pos} (hst : Stable cx I) (hev : EvOK cx A env I ev) (i : I w) (hfr : ∀ b, b ∈ cx.fr → FrAt w b) : Rf cx A No w (VR cx) (dDict ev keys vals) (eval (.Dict keys vals q) env) := by
  unfold dDict
  cases hk : strKeys keys with
  | none => exact .stuck
  | some ks =>
    refine ite_rf (fun ⟨hl1, hl2, hl3, hl4⟩ => ?_) fun u_ => .stuck
    unfold evEach
    split
    · intro H S r H' h
      refine byC fun C_ k_ => ?_
      obtain ⟨k1, k2⟩ := strKeys_all hk
      have hdn : w.s.heap.get? w.s.heap.objs.size = none := get_size _
      obtain ⟨l0, S0⟩ := S.hide (t := w.s.toks) (pushk { cls := .type "dict", data := .dict #[] }) hdn ⟨_, Heap.get?_push_size _ rfl⟩
      refine k_ ?_
      clear k_ C_
      have hnp := (S.new hdn).2
      refine wpAny_Dict_walk (knd := strKind cx.prog cx.w) k1 (k2.trans hl1) (fun z => by subst z; cases hk; exact hl3 rfl) (by rw [k2]; exact hl2) ?_
      refine wpAny_mono ((pairs_rf hst hev q keys vals (hst _ _ i l0) hk hl1).run S0 h fun w1 as vs H1 l1 S1 ⟨q1, q2, q3, q4⟩ h2 => ?_) (fun u_ u_ z => z) fun u_ u_ q => q.le l0
      cases h2
      have hd : w.s.heap.objs.size ∈ w1.π := l1.pv _ List.mem_cons_self id
      have hD1 : w1.s.heap.DictOf (strKind cx.prog cx.w) w.s.heap.objs.size [] := DictOf.at' (Heap.DictOf.new _) fun o ho => (l1.kp _ o List.mem_cons_self id ho).nf fun z => by (obtain ⟨_, o, es, ep, e, _⟩ := hfr _ z; rw [hdn] at e; cases e)
      refine display_done_str q1 (by rw [q2]; exact hl4) hD1 fun h' hd' hs' => ?_
      obtain ⟨l2, S2⟩ := S1.adopt (t := w1.s.toks + vs.length) (o := .dict (ks.zip as)) hd hs'.extBut fun l2 => ⟨strPairs vs, hd', ⟨S.not_sys, by rw [List.length_zip]; exact Nat.le_trans (Nat.min_le_left _ _) (Nat.le_trans hl2 (by decide))⟩, by rw [q2, zip_fst q4], by rw [zip_snd q4]; exact q3.mono l2⟩
      exact ⟨_, _, _, rfl, (l0.no.trans (l1.no.trans l2)).weak (fun b hb e => hnp (e ▸ hb)), S2, .loc (by rw [← S1.len]; exact List.getElem?_concat_length)⟩
    · exact .stuck
end
end Mine


set_option autoImplicit false
set_option linter.unusedVariables false
namespace Mine
open PySem PyProof.Rows PySem.SeqAt

section
variable {cx : Cx} {A : Around} {w : Wl} {env : Env} {I : Wl → Prop} {ev : Expr → M AV}
def RArgs (cx : Cx) (w : Wl) (as : List AV) (a : Args) : Prop := ∃ vs, a = ⟨vs, []⟩ ∧ VRs cx w as vs
theorem any_star (pos : Pos) : ∀ (es : List Expr), es.all exOk = true → (backTo pos (starEach es env)).any (·.1) = false
  | [], _ => rfl
  | e :: r, h => by
    rw [List.all_cons, Bool.and_eq_true] at h
    rw [exOk_star h.1]
    exact any_star pos r h.2
theorem len_star (pos : Pos) : ∀ (es : List Expr), es.all exOk = true → (backTo pos (starEach es env)).length = es.length ∧ (backTo pos (starEach es env)).all (fun x => !x.1) = true
  | [], _ => ⟨rfl, rfl⟩
  | e :: r, h => by
    rw [List.all_cons, Bool.and_eq_true] at h
    rw [exOk_star h.1]
    exact ⟨congrArg Nat.succ (len_star pos r h.2).1, (len_star pos r h.2).2⟩
theorem args_rf {f : Value} {pos : Pos} {es : List Expr} (hst : Stable cx I) (hev : EvOK cx A env I ev) (i : I w) (h : es.all exOk = true) : Rf cx A No w (RArgs cx) (evAll ev es) (evalArgs f true (backTo pos (starEach es env)) []) := by
  have x := all_rf hst hev pos es h i
  cases es with
  | nil => exact .leaf fun H S => evalArgs_nil3 (.here S ⟨[], rfl, rfl⟩)
  | cons e r =>
    rw [List.all_cons, Bool.and_eq_true] at h
    rw [exOk_star h.1] at x ⊢
    exact Rf.img (g := fun vs => (⟨vs, []⟩ : Args)) (t' := evalArgs f true ((false, eval e env) :: backTo pos (starEach r env)) []) x (fun w' a b q => ⟨b, rfl, q.1⟩) fun h => Calls.evalArgs_plain h
theorem each_call {es : List Expr} {α β : Type} {p : Addr → Prop} {R : Wl → α → β → Prop} {f : List AV → M α} {t : Sem β} (k : es.all exOk = true → Rf cx A p w R (evAll ev es >>= f) t) : Rf cx A p w R (evEach ev es >>= f) t := by
  unfold evEach
  split
  · exact k ‹_›
  · exact .stuck
theorem builtin_rf {id : String} {pos : Pos} {first : List Value} {es : List Expr} {f : List AV → M AV} (hst : Stable cx I) (hev : EvOK cx A env I ev) (i : I w)
    (k : ∀ w' as vs, Le cx No w w' → VRs cx w' as vs → Rf cx A No w' (VR cx) (f as) (PySem.call (.builtin id) (first ++ vs))) : Rf cx A No w (VR cx) (evEach ev es >>= f) (callWith pos (.builtin id) first (backTo pos (starEach es env)) []) :=
  each_call fun h => Rf.seqw (k := fun a => PySem.call (.builtin id) (first ++ a.pos) a.kw) (args_rf (f := .builtin id) (pos := pos) hst hev i h) (fun w' as a l ⟨vs, e, r⟩ => by subst e; exact k w' as vs l r) fun q => Calls.callWith_builtin (any_star pos es h) q
theorem type_rf {T : String} {pos : Pos} {es : List Expr} {f : List AV → M AV} (hst : Stable cx I) (hev : EvOK cx A env I ev) (i : I w)
    (k : ∀ w' as vs, Le cx No w w' → VRs cx w' as vs → Rf cx A No w' (VR cx) (f as) (PySem.call (.type T) vs)) : Rf cx A No w (VR cx) (evEach ev es >>= f) (callWith pos (.type T) [] (backTo pos (starEach es env)) []) :=
  each_call fun h => Rf.seqw (k := fun a => PySem.call (.type T) ([] ++ a.pos) a.kw) (args_rf (f := .type T) (pos := pos) hst hev i h) (fun w' as a l ⟨vs, e, r⟩ => by subst e; exact k w' as vs l r) fun q => PyProof.Rows.callWith_type (any_star pos es h) q
end
section
variable {cx : Cx} {A : Around} {w : Wl} {env : Env} {sc : Scope} {ns : List Str} {σ : Loc} {ev : Expr → M AV} {P : Pg}
theorem named_rf {f : Str} {fp q : Pos} {args : List Expr} {m : M AV} {v : Value} (hv : ∀ {H : AHeap} {Q E : Value → Shared → Prop}, St cx w H → Q v w.s → wpAny (model cx.prog cx.w) A (eval (.Name f fp) env) Q E w.s)
    (x : Rf cx A No w (VR cx) m (callWith q v [] (backTo q (starEach args env)) [])) : Rf cx A No w (VR cx) m (eval (.Call (.Name f fp) args [] q) env) := fun H S r H' h => Call_Name rfl (hv S (x H S r H' h))
theorem no_debug {α : Type} {g : Str → Option α} {x : Str} {b : α} (hg : g ("__debug__" : Str) = none) (h : g x = some b) : (x == ("__debug__" : Str)) = false := by
  cases hx : x == ("__debug__" : Str) with
  | false => rfl
  | true => rw [beq_iff_eq.mp hx, hg] at h; cases h
theorem bi_call {f : Str} {fp q : Pos} {args : List Expr} {b : BI} {mu : Bool} (hh : looksH b = true → A.handled = none) (G : Good cx P) (hev : EvOK cx A env (EnvR cx env sc ns σ) ev) (i : EnvR cx env sc ns σ w) (hg : isGlob sc f = true) (hb : biOf f = some b) :
    Rf cx A No w (VR cx) (do let vs ← evEach ev args; pBI mu b vs) (eval (.Call (.Name f fp) args [] q) env) := by
  refine named_rf (fun S h => load_bi G S i.k hg (no_debug (g := biOf) (by decide) hb) (G.bi f b hb) h) ?_
  have bt : ∀ {id : String}, biV b = .builtin id → Rf cx A No w (VR cx) (do let vs ← evEach ev args; pBI mu b vs) (callWith q (biV b) [] (backTo q (starEach args env)) []) := fun {id} e => by
    rw [e]; exact builtin_rf EnvR.stable hev i fun w' as vs l r => by rw [List.nil_append, ← e]; exact bi_rf hh r
  have ty : ∀ {T : String}, biV b = .type T → Rf cx A No w (VR cx) (do let vs ← evEach ev args; pBI mu b vs) (callWith q (biV b) [] (backTo q (starEach args env)) []) := fun {T} e => by
    rw [e]; exact type_rf EnvR.stable hev i fun w' as vs l r => by rw [← e]; exact bi_rf hh r
  cases b with
  | len => exact bt rfl
  | list => exact ty rfl
  | tuple => exact ty rfl
  | dict => exact ty rfl
  | int => exact ty rfl
  | range => exact ty rfl
  | min => exact bt rfl
  | max => exact bt rfl
  | any => exact bt rfl
  | sorted => exact bt rfl
theorem isi1_rf {e : Expr} {x : Str} {t : Ty} {fp q tp : Pos} (G : Good cx P) (hev : EvOK cx A env (EnvR cx env sc ns σ) ev) (i : EnvR cx env sc ns σ w) (hg : isGlob sc ("isinstance" : Str) = true) (hx : isGlob sc x = true) (ht : tyOf x = some t) (he : exOk e = true) :
    Rf cx A No w (VR cx) (do let v ← ev e; let b ← pIsi v t; pure (.bool b)) (eval (.Call (.Name ("isinstance" : Str) fp) [e, .Name x tp] [] q) env) :=
  named_rf (fun S h => load_bi G S i.k hg (by decide) G.isi h) fun H S r H' h => by
    refine Calls.callWith_builtin (any_star q _ (by rw [List.all_cons, he]; rfl)) ?_
    rw [exOk_star he]
    refine Calls.evalArgs_plain (Calls.spliced_cons ((hev e w i).run S h fun w1 a v H1 l1 S1 r1 h1 => Calls.spliced_cons (load_bi G S1 i.k hx (no_debug (g := tyOf) (by decide) ht) (G.ty x t ht) (Calls.spliced_nil ?_))))
    have z := Rf.bind (k := Pure.pure) (isi_rf (A := A) (p := No) (t := t) r1) fun w2 b x l2 e => Rf.pure (R := VR cx) (a := .bool b) e
    rw [bind_pure] at z
    exact wpAny_mono (z H1 S1 r H' h1) (fun u_ u_ q => q.le l1) fun u_ u_ q => q.le l1
theorem isX_leaf {a : AV} {v : Value} {x : Str} {u : Value} (G : Good cx P) (ra : VR cx w a v) (hu : (x = ("ValueError" : Str) ∧ u = .type "ValueError") ∨ (x ≠ ("ValueError" : Str) ∧ cx.mg x = some u)) : Rf cx A No w (VR cx) (pIsX P x a) (PySem.call (.builtin "isinstance") [v, u]) := by
  cases a with
  | exc c =>
    refine byC fun C_ k_ => ?_
    obtain ⟨b, o, C, e, h1, h2, h3, h4⟩ := ra
    refine k_ ?_
    clear k_ C_
    subst e
    have key : ∀ {cs : List Str}, P.cls c = some cs → ∃ vs, ExCls cx.h₀ C vs ∧ ∀ x xs D, P.cls x = some xs → cx.mg x = some (.ref D) → (Value.ref C :: (vs ++ VEm)).contains (.ref D) = (decide (x = c) || cs.contains x) := fun hc => by
      refine byC fun C_ k_ => ?_
      obtain ⟨_, C', vs, q1, q2, q3⟩ := G.cls c _ hc
      refine k_ ?_
      clear k_ C_
      rw [h4] at q1
      cases q1
      exact ⟨vs, q2, q3⟩
    refine .read .opt fun cs hc => ?_
    obtain ⟨vs, X, hX⟩ := key hc
    refine ite_rf (fun hx => ?_) fun hx => ?_
    · rcases hu with ⟨_, rfl⟩ | hu
      · exact .leaf fun H S => isi_exc_ve (X.keeps fun b o e => (S.base b o e).1) h1 h3 (.here S .bool)
      · exact (hu.1 hx).elim
    · refine .read .opt fun xs hxs => ?_
      refine byC fun C_ k_ => ?_
      obtain ⟨_, D, ds, q1, Y, _⟩ := G.cls x xs hxs
      refine k_ ?_
      clear k_ C_
      rcases hu with hu | hu
      · exact (hx hu.1).elim
      · rw [hu.2] at q1
        cases q1
        exact .leaf fun H S => isi_exc (X.keeps fun b o e => (S.base b o e).1) (Y.keeps fun b o e => (S.base b o e).1) h1 h3 (hX x xs D hxs hu.2) fun t => .tok S t .bool
  | _ => exact .stuck
theorem isX_rf {e : Expr} {x : Str} {fp q tp : Pos} (G : Good cx P) (hev : EvOK cx A env (EnvR cx env sc ns σ) ev) (i : EnvR cx env sc ns σ w) (hg : isGlob sc ("isinstance" : Str) = true) (hx : isGlob sc x = true) (he : exOk e = true) :
    Rf cx A No w (VR cx) (dIsX P ev x e) (eval (.Call (.Name ("isinstance" : Str) fp) [e, .Name x tp] [] q) env) := ite_rf (fun hc =>
  named_rf (fun S h => load_bi G S i.k hg (by decide) G.isi h) fun H S r H' h => by
    refine Calls.callWith_builtin (any_star q _ (by rw [List.all_cons, he]; rfl)) ?_
    rw [exOk_star he]
    refine Calls.evalArgs_plain (Calls.spliced_cons ((hev e w i).run S h fun w1 a v H1 l1 S1 r1 h1 => Calls.spliced_cons ?_))
    by_cases hve : x = ("ValueError" : Str)
    · refine load_bi G S1 i.k hx (by rw [hve]; decide) (by rw [hve]; exact G.ve) (Calls.spliced_nil ?_)
      exact wpAny_mono (isX_leaf G r1 (.inl ⟨hve, rfl⟩) H1 S1 r H' h1) (fun u_ u_ q => q.le l1) fun u_ u_ q => q.le l1
    · refine byC fun C_ k_ => ?_
      obtain ⟨xs, hxs⟩ := Option.isSome_iff_exists.mp (hc.resolve_left hve)
      obtain ⟨hd, D, ds, q1, _⟩ := G.cls x xs hxs
      refine k_ ?_
      clear k_ C_
      refine load_glob G S1 i.k hx hd q1 (Calls.spliced_nil ?_)
      exact wpAny_mono (isX_leaf G r1 (.inr ⟨hve, q1⟩) H1 S1 r H' h1) (fun u_ u_ q => q.le l1) fun u_ u_ q => q.le l1) fun u_ => .stuck
theorem isiTL_leaf {a : AV} {v : Value} {tp : Addr} (ra : VR cx w a v) (ht : w.s.heap.get? tp = some { cls := .type "tuple", data := .seq #[.type "tuple", .type "list"] }) : Rf cx A No w Rb (pIsiTL a) (PySem.call (.builtin "isinstance") [v, .ref tp]) := by
  have lists : ∀ {l : Addr} {vs : Array Value} {n : Nat}, IsL w.s.heap l vs n → Rf cx A No w Rb (pure true) (PySem.call (.builtin "isinstance") [.ref l, .ref tp]) := fun hl => .leaf fun H S =>
    IsiPair.tupleOfB (Tx := "list") (vs := [false, true]) (.cons (.of_false_list (by decide +kernel) F.isi_meta_tuple F.sub_list_tuple) (.cons (.of_true F.isi_meta_list F.sub_list_list) .nil)) ⟨_, hl, rfl⟩ ht rfl fun t => .tok S t rfl
  cases a with
  | none => exact ra.noneE (.leaf fun H S => IsiPair.tupleOfB (Tx := "NoneType") (vs := [false, false]) (.cons (.of_false_none (by decide +kernel) F.isi_meta_tuple F.sub_NoneType_tuple) (.cons (.of_false_none (by decide +kernel) F.isi_meta_list F.sub_NoneType_list) .nil)) rfl ht rfl fun t => .tok S t rfl)
  | bool b => exact ra.boolE (.leaf fun H S => IsiPair.tupleOfB (Tx := "bool") (vs := [false, false]) (.cons (.of_false_bool (by decide +kernel) F.isi_meta_tuple F.sub_bool_tuple) (.cons (.of_false_bool (by decide +kernel) F.isi_meta_list F.sub_bool_list) .nil)) rfl ht rfl fun t => .tok S t rfl)
  | int i => exact ra.intE fun u => .leaf fun H S => IsiPair.tupleOfB (Tx := "int") (vs := [false, false]) (.cons (.of_false_int (by decide +kernel) F.isi_meta_tuple F.sub_int_tuple) (.cons (.of_false_int (by decide +kernel) F.isi_meta_list F.sub_int_list) .nil)) rfl ht rfl fun t => .tok S t rfl
  | str x => exact ra.strE fun u => .leaf fun H S => IsiPair.tupleOfB (Tx := "str") (vs := [false, false]) (.cons (.of_false_str (by decide +kernel) F.isi_meta_tuple F.sub_str_tuple) (.cons (.of_false_str (by decide +kernel) F.isi_meta_list F.sub_str_list) .nil)) rfl ht rfl fun t => .tok S t rfl
  | tup xs => exact ra.tupE fun l vs n hl u_ u_ u_ => .leaf fun H S => IsiPair.tupleOfB (Tx := "tuple") (vs := [true, false]) (.cons (.of_true F.isi_meta_tuple F.sub_tuple_tuple) (.cons (.of_false_tuple (by decide +kernel) F.isi_meta_list F.sub_tuple_list) .nil)) ⟨_, hl, rfl⟩ ht rfl fun t => .tok S t rfl
  | lst xs => exact ra.lstE fun l vs n hl u_ u_ u_ => lists hl
  | loc i => exact ra.locE fun l h => .read (listAt_rd h) fun xs ⟨vs, n, hl, _⟩ => lists hl
  | _ => exact .stuck
theorem isi2_rf {e : Expr} {fp q tp1 tp2 tp3 : Pos} {k : Nat} {x y : Str} (G : Good cx P) (hev : EvOK cx A env (EnvR cx env sc ns σ) ev) (i : EnvR cx env sc ns σ w) (hg : isGlob sc ("isinstance" : Str) = true) (hx : isGlob sc x = true) (hy : isGlob sc y = true) (ht : isTL x y = true) (he : exOk e = true) :
    Rf cx A No w (VR cx) (do let v ← ev e; let b ← pIsiTL v; pure (.bool b)) (eval (.Call (.Name ("isinstance" : Str) fp) [e, .Tuple [.Name x tp1, .Name y tp2] k tp3] [] q) env) := by
  unfold isTL at ht
  rw [Bool.and_eq_true] at ht
  have h1 := of_decide_eq_true ht.1
  have h2 := of_decide_eq_true ht.2
  subst h1; subst h2
  refine named_rf (fun S h => load_bi G S i.k hg (by decide) G.isi h) fun H S r H' h => ?_
  refine Calls.callWith_builtin (any_star q _ (by rw [List.all_cons, he]; rfl)) ?_
  rw [exOk_star he]
  refine Calls.evalArgs_plain (Calls.spliced_cons ((hev e w i).run S h fun w1 a v H1 l1 S1 r1 h1 => Calls.spliced_cons (Tuple_ (k := k) ?_)))
  show wpAny _ _ (spliced [(false, eval (.Name ("tuple" : Str) tp1) env), (false, eval (.Name ("list" : Str) tp2) env)]) _ _ _
  refine Calls.spliced_cons (load_bi G S1 i.k hx (by decide) (G.ty _ .tuple (by decide)) (Calls.spliced_cons (load_bi G S1 i.k hy (by decide) (G.ty _ .list (by decide)) (Calls.spliced_nil ?_))))
  refine wpAny_newObj_type (Calls.spliced_nil ?_) (by size_fits)
  have l2 : Le cx No w1 ⟨w1.ι, w1.π, { w1.s with heap := w1.s.heap.push { cls := .type "tuple", data := .seq #[.type "tuple", .type "list"] } }⟩ := .keeps (pushk _)
  have z := Rf.bind (k := Pure.pure) (isiTL_leaf (A := A) (r1.mono l2) (Heap.get?_push_size _ rfl)) fun w2 b x l2 e => Rf.pure (R := VR cx) (a := .bool b) e
  rw [bind_pure] at z
  exact wpAny_mono (z H1 (S1.keeps (t := w1.s.toks) (pushk _)) r H' h1) (fun u_ u_ q => q.le (l1.trans l2)) fun u_ u_ q => q.le (l1.trans l2)

theorem mt_slot (m : Mt) : ∃ x : Str, Slot "list" x (mtId m) ∧ typeOf (.builtin (mtId m)) = pure (.type "method_descriptor") ∧ ∀ y, mtOf y = some m → y = x := by
  have key : ∀ y, (mtOf y = some .append → y = ("append" : Str)) ∧ (mtOf y = some .pop → y = ("pop" : Str)) ∧ (mtOf y = some .clear → y = ("clear" : Str)) ∧ (mtOf y = some .count → y = ("count" : Str)) := fun y => by
    unfold mtOf
    split
    · exact ⟨fun u_ => ‹_›, fun h => (nomatch h), fun h => (nomatch h), fun h => (nomatch h)⟩
    split
    · exact ⟨fun h => (nomatch h), fun u_ => ‹_›, fun h => (nomatch h), fun h => (nomatch h)⟩
    split
    · exact ⟨fun h => (nomatch h), fun h => (nomatch h), fun u_ => ‹_›, fun h => (nomatch h)⟩
    split
    · exact ⟨fun h => (nomatch h), fun h => (nomatch h), fun h => (nomatch h), fun u_ => ‹_›⟩
    · exact ⟨fun h => (nomatch h), fun h => (nomatch h), fun h => (nomatch h), fun h => (nomatch h)⟩
  cases m with
  | append => exact ⟨_, F.slot_list_append, by kernel_rfl, fun y => (key y).1⟩
  | pop => exact ⟨_, F.slot_list_pop, by kernel_rfl, fun y => (key y).2.1⟩
  | clear => exact ⟨_, F.slot_list_clear, by kernel_rfl, fun y => (key y).2.2.1⟩
  | count => exact ⟨_, F.slot_list_count, by kernel_rfl, fun y => (key y).2.2.2⟩
theorem plainBase_attr {o : Expr} {m : Str} (h : plainBase o = true) : attributeBase o m env (eval o env) = eval o env := by
  cases o <;> first | rfl | (cases h; done)
theorem pMeth_rf (R : Room A) {k : Mt} {o : AV} {l : Addr} {as : List AV} {vs : List Value} (ro : VR cx w o (.ref l)) (r : VRs cx w as vs) : Rf cx A No w (VR cx) (pMethK k o as) (PySem.call (.builtin (mtId k)) (.ref l :: vs)) := by
  cases o with
  | loc i => obtain ⟨a, e, h⟩ := ro; cases e; exact .read (listAt_rd h) fun xs ⟨ws, n, hL, hz, hs⟩ => methL_rf R h hL hz hs r
  | lst xs =>
    refine byC fun C_ k_ => ?_
    obtain ⟨a, ws, n, e, hL, _, hz, hs⟩ := ro
    refine k_ ?_
    clear k_ C_
    cases e
    exact .stuck
  | _ => exact .stuck
theorem meth_rf (R : Room A) {o : Expr} {m : Str} {k : Mt} {ap q : Pos} {args : List Expr} (hev : EvOK cx A env (EnvR cx env sc ns σ) ev) (i : EnvR cx env sc ns σ w) (hm : mtOf m = some k) (hb : (plainBase o && ap.endLine == q.line && decide (args.length ≤ 2) && args.all exOk) = true) :
    Rf cx A No w (VR cx) (do let ov ← ev o; let _ ← listOf ov; let vs ← evAll ev args; pMethK k ov vs) (eval (.Call (.Attribute o m ap) args [] q) env) := fun H S r H' h => by
  rw [Bool.and_eq_true, Bool.and_eq_true, Bool.and_eq_true] at hb
  refine byC fun C_ k_ => ?_
  obtain ⟨⟨⟨hb1, hb2⟩, hb3⟩, hb4⟩ := hb
  obtain ⟨x, hs1, hs2, hs3⟩ := mt_slot k
  refine k_ ?_
  clear k_ C_
  have hm' := hs3 m hm
  subst hm'
  refine wpAny_Call_method_late (trees := backTo q (starEach args env)) (plainBase_attr hb1) ?_ hb2 rfl ((hev o w i).run S h fun w1 a v H1 l1 S1 r1 h1 => ?_)
  · rw [(len_star q args hb4).2]
    show (true && decide _) = true
    rw [Bool.true_and, decide_eq_true_iff]
    exact Nat.lt_of_le_of_lt (of_decide_eq_true hb3) (by decide)
  · refine bind_inv h1 (fun xs H2 g1 g2 => ?_) fun e g1 g2 => (by obtain ⟨_, c, e', _⟩ := listOf_rd r1 H1 S1 _ H' g1; cases e')
    refine byC fun C_ k_ => ?_
    obtain ⟨rfl, c, e', l, vs, n, rfl, hL, hz, hvs⟩ := listOf_rd r1 H1 S1 _ H2 g1
    refine k_ ?_
    clear k_ C_
    refine ⟨"list", mtId k, F.plainAttrs_list, hs1, hs2, ⟨_, hL, rfl⟩, fun a' z => by cases z; exact ⟨_, hL, rfl⟩, ?_⟩
    have z := Rf.seqw (f := pMethK k a) (T := callWith q (.builtin (mtId k)) [.ref l] (backTo q (starEach args env)) []) (k := fun a => PySem.call (.builtin (mtId k)) ([.ref l] ++ a.pos) a.kw) (args_rf (f := .builtin (mtId k)) (pos := q) EnvR.stable hev (EnvR.stable _ _ i l1) hb4)
      (fun w' as a' l ⟨vs, e, r⟩ => by subst e; exact pMeth_rf R (r1.mono l) r) fun z => Calls.callWith_builtin (any_star q args hb4) z
    exact wpAny_mono (z _ S1 r H' g2) (fun u_ u_ q => q.le l1) fun u_ u_ q => q.le l1
theorem fn_rf {f : Str} {fp q : Pos} {args : List Expr} {cf : Str → List AV → M AV} (G : Good cx P) (C : CallOK cx A P cf) (hev : EvOK cx A env (EnvR cx env sc ns σ) ev) (i : EnvR cx env sc ns σ w) (hg : isGlob sc f = true) (hf : (P.fn f).isSome = true) :
    Rf cx A No w (VR cx) (do let vs ← evEach ev args; cf f vs) (eval (.Call (.Name f fp) args [] q) env) := by
  refine byC fun C_ k_ => ?_
  obtain ⟨hd, fa, o, fd, q1, q2, q3, q4⟩ := C f hf
  refine k_ ?_
  clear k_ C_
  refine named_rf (fun S h => load_glob G S i.k hg hd q1 h) (each_call fun h H S r H' hh => Calls.callWith_function (o := o) (fd := fd) ((args_rf (f := .ref fa) (pos := q) EnvR.stable hev i h).run S hh fun w1 as a H1 l1 S1 ⟨vs, e, r1⟩ h1 => ?_))
  subst e
  exact ⟨⟨(S1.base _ _ q2).1, q3⟩, wpAny_mono (q4 w1 as vs (EnvR.stable _ _ i l1).fr (EnvR.stable _ _ i l1).hd r1 H1 S1 r H' h1) (fun u_ u_ q => q.le l1) fun u_ u_ q => q.le l1⟩
def ZipOK (cx : Cx) (A : Around) : Prop := ∀ w a b v u mu H r H', VR cx w a v → VR cx w b u → St cx w H → pZip mu a b H = some (r, H') →
  wpAny (model cx.prog cx.w) A (PySem.call (.type "zip") [v, u]) (fun z s1 => wpAny (model cx.prog cx.w) A (PySem.call (.type "list") [z]) (Post cx No w (VR cx) r H') (PostX cx No w r H') s1) (PostX cx No w r H') w.s
theorem nameOf1_of {e : Expr} {x : Str × Pos} (h : nameOf1 e = some x) : e = .Name x.1 x.2 := by
  cases e with
  | Name y q => cases h; rfl
  | _ => exact no_some h
theorem pairN_of {es : List Expr} {x y : Str × Pos} (h : pairN es = some (x, y)) : es = [.Name x.1 x.2, .Name y.1 y.2] := by
  match es, h with
  | [a, b], h =>
    unfold pairN at h
    cases ha : nameOf1 a with
    | none => simp only [ha] at h; cases h
    | some z =>
      simp only [ha] at h
      obtain ⟨u, h1, h2⟩ := Option.map_eq_some_iff.mp h
      cases h2
      rw [nameOf1_of ha, nameOf1_of h1]
theorem callOf_of {e : Expr} {f : Str} {args : List Expr} (h : callOf e = some (f, args)) : ∃ fp p, e = .Call (.Name f fp) args [] p := by
  cases e with
  | Call g as kws p =>
    cases kws with
    | nil =>
      obtain ⟨z, h1, h2⟩ := Option.map_eq_some_iff.mp (show (nameOf1 g).map (fun x => (x.1, as)) = some (f, args) from h)
      cases h2
      exact ⟨z.2, p, by rw [nameOf1_of h1]⟩
    | cons _ _ => first | exact no_some h | exact no_true h | cases h
  | _ => exact no_some h
set_option tactic.hygienic true in
theorem isZip_of {args : List Expr} {x y : Expr} (h : isZip sc args = some (x, y)) : ∃ zp q, args = [.Call (.Name ("zip" : Str) zp) [x, y] [] q] ∧ isGlob sc ("zip" : Str) = true := by
  match args, h with
  | [e], h =>
    unfold isZip at h
    simp only at h
    split at h
    · rename_i z x' y' hc
      split at h
      · rename_i hz
        cases h
        refine byC fun C_ k_ => ?_
        obtain ⟨fp, p, rfl⟩ := callOf_of hc
        obtain ⟨rfl, h2⟩ := hz
        refine k_ ?_
        clear k_ C_
        exact ⟨fp, p, rfl, h2⟩
      · cases h
    · cases h
theorem zip_rf {f : Str} {fp q : Pos} {args : List Expr} {x y : Expr} {mu : Bool} (Z : ZipOK cx A) (G : Good cx P) (hev : EvOK cx A env (EnvR cx env sc ns σ) ev) (i : EnvR cx env sc ns σ w) (hg : isGlob sc f = true) (hb : biOf f = some .list) (hz : isZip sc args = some (x, y)) :
    Rf cx A No w (VR cx) (do let vs ← evEach ev [x, y]; pZipL mu vs) (eval (.Call (.Name f fp) args [] q) env) := by
  refine byC fun C_ k_ => ?_
  obtain ⟨zp, q', rfl, hgz⟩ := isZip_of hz
  refine k_ ?_
  clear k_ C_
  refine named_rf (fun S h => load_bi G S i.k hg (no_debug (g := biOf) (by decide) hb) (G.bi f .list hb) h) (each_call fun h H S r H' hh => ?_)
  refine PyProof.Rows.callWith_type rfl (Calls.evalArgs_plain (Calls.spliced_cons (Call_Name rfl (load_bi G S i.k hgz (by decide) G.zip ?_))))
  refine PyProof.Rows.callWith_type (any_star q' _ h) ((args_rf (f := .type "zip") (pos := q') EnvR.stable hev i h).run S hh fun w1 as a H1 l1 S1 ⟨vs, e, r1⟩ h1 => ?_)
  subst e
  match as, r1, h1 with
  | [a, b], r1, h1 =>
    refine r1.consE fun v us ra r0 => r0.consE fun v' us' rb r2 => r2.nilE ?_
    refine wpAny_mono (Z w1 a b v v' mu H1 r H' ra rb S1 h1) (fun z s2 h2 => Calls.spliced_nil ?_) fun u_ u_ q => q.le l1
    exact wpAny_mono h2 (fun u_ u_ q => q.le l1) fun u_ u_ q => q.le l1
  | [], _, h1 => cases h1
  | [_], _, h1 => cases h1
  | _ :: _ :: _ :: _, _, h1 => cases h1
set_option tactic.hygienic true in
theorem call_rf {f : Expr} {args : List Expr} {q : Pos} {mu : Bool} {cf : Str → List AV → M AV} (hh : P.free = true → A.handled = none) (R : Room A) (Z : P.free = true → ZipOK cx A) (G : Good cx P) (C : CallOK cx A P cf) (hev : EvOK cx A env (EnvR cx env sc ns σ) ev) (i : EnvR cx env sc ns σ w) :
    Rf cx A No w (VR cx) (dCall P ev cf mu sc f args q) (eval (.Call f args [] q) env) := by
  cases f with
  | Attribute o m ap =>
    show Rf cx A No w (VR cx) (match mtOf m with | some k => _ | none => stuck) _
    cases hm : mtOf m with
    | none => exact .stuck
    | some k => exact ite_rf (fun hb => meth_rf R hev i hm hb) fun u_ => .stuck
  | Name f fp =>
    refine ite_rf (fun hg => ite_rf (fun hf => ?_) fun hf => ?_) fun u_ => .stuck
    · subst hf
      match args with
      | [] => exact .stuck
      | [_] => exact .stuck
      | _ :: _ :: _ :: _ => exact .stuck
      | [e, t] =>
        refine ite_rf (fun he => ?_) fun u_ => .stuck
        cases t with
        | Name t tp =>
          refine ite_rf (fun hx => ?_) fun u_ => .stuck
          cases ht : tyOf t with
          | none => exact isX_rf G hev i hg hx he
          | some t => exact isi1_rf G hev i hg hx ht he
        | Tuple es k tp =>
          show Rf cx A No w (VR cx) (match pairN es with | some (t, u) => _ | none => stuck) _
          cases hp : pairN es with
          | none => exact .stuck
          | some tu =>
            obtain ⟨t, u⟩ := tu
            refine ite_rf (fun hx => ?_) fun u_ => .stuck
            rw [Bool.and_eq_true, Bool.and_eq_true] at hx
            rw [pairN_of hp]
            exact isi2_rf G hev i hg hx.1.2 hx.2 hx.1.1 he
        | _ => exact .stuck
    · show Rf cx A No w (VR cx) (match biOf f with | some b => _ | none => _) _
      cases hb : biOf f with
      | none => exact ite_rf (fun hf => fn_rf G C hev i hg hf) fun u_ => .stuck
      | some b =>
        refine ite_rf (fun hfr => ?_) fun u_ => .stuck
        show Rf cx A No w (VR cx) (dBI ev mu sc b args) _
        unfold dBI
        cases hz : (if b = .list then isZip sc args else none : Option (Expr × Expr)) with
        | none => exact bi_call (fun hb' => hh (by rw [hb'] at hfr; simpa using hfr)) G hev i hg hb
        | some xy =>
          obtain ⟨x, y⟩ := xy
          split at hz
          · rename_i hl; subst hl; exact zip_rf (Z (by simpa [looksH] using hfr)) G hev i hg hb hz
          · cases hz
  | _ => exact .stuck
end
end Mine


set_option autoImplicit false
set_option linter.unusedVariables false
namespace Mine
open PySem PyProof.Rows PySem.SeqAt

inductive ItI (cx : Cx) (w : Wl) (it : Addr) (xs : List AV) (i : Nat) : Prop
  | list (l : Addr) (vs : Array Value) (n : Nat) (h1 : w.s.heap.IsListIter it l i) (h2 : IsL w.s.heap l vs n) (h3 : Fz w l) (h4 : VRs cx w xs vs.toList)
  | tup (l : Addr) (vs : Array Value) (n : Nat) (h1 : w.s.heap.IsTupleIter it l i) (h2 : IsT w.s.heap l vs n) (h3 : Fz w l) (h4 : VRs cx w xs vs.toList)
  | range (a b : Int) (e : xs = rangeL a b) (h1 : IsRangeIter w.s.heap it (a + i) (((b - a).toNat : Int) - i) 1)
def ItR (cx : Cx) (w : Wl) (it : Addr) (i : Nat) : Src → Prop
  | .items xs => ItI cx w it xs i
  | .at l => ∃ a, w.ι[l]? = some a ∧ w.s.heap.IsListIter it a i
  | .enum _ => False
section
variable {cx : Cx} {A : Around} {p : Addr → Prop} {w w' : Wl} {H : AHeap} {it : Addr} {i : Nat}
theorem li_up {h h' : Heap} {a l : Addr} {i : Nat} (x : h.IsListIter a l i) (e : ∀ o, h.get? a = some o → UpS cx a o (h'.get? a)) : h'.IsListIter a l i := by obtain ⟨o, h1, h2, h3⟩ := x; exact ⟨o, (e o h1).nd fun es ep z => by (rw [h3] at z; cases z), h2, h3⟩
theorem ItR.mono (l : Le cx p w w') (hp : it ∈ w.π) (hn : ¬ p it) : ∀ {src : Src}, ItR cx w it i src → ItR cx w' it i src
  | .items _, .list a vs n h1 h2 h3 h4 => .list a vs n (li_up h1 fun o e => l.kp _ o hp hn e) (l.fz' h2 h3).1 (l.fz' h2 h3).2 (h4.mono l)
  | .items _, .tup a vs n ⟨o, e, q1, q2⟩ h2 h3 h4 => .tup a vs n ⟨o, (l.kp _ o hp hn e).nd fun es ep z => by (rw [q2] at z; cases z), q1, q2⟩ (l.fz' h2 h3).1 (l.fz' h2 h3).2 (h4.mono l)
  | .items _, .range a b e h1 => .range a b e ((l.kp _ _ hp hn h1).nd fun es ep z => nomatch z)
  | .at _, ⟨a, h1, h2⟩ => ⟨a, prefix_get l.pre h1, li_up h2 fun o e => l.kp _ o hp hn e⟩
def RNext (cx : Cx) (it : Addr) (i : Nat) (src : Src) (w : Wl) (r : Option AV) (o : Option Value) : Prop := match r with
  | none => o = none
  | some a => ∃ v, o = some v ∧ VR cx w a v ∧ it ∈ w.π ∧ ItR cx w it (i + 1) src
theorem rangeL_get {a b : Int} {i : Nat} : (rangeL a b)[i]? = if i < (b - a).toNat then some (.int (a + i)) else none := by
  unfold rangeL
  rw [List.getElem?_map]
  by_cases h : i < (b - a).toNat
  · rw [List.getElem?_range h, if_pos h]; rfl
  · rw [List.getElem?_eq_none (by rw [List.length_range]; exact Nat.not_lt.mp h), if_neg h]; rfl
theorem next_item (S : St cx w H) (hp : it ∈ w.π) {h' : Heap} {t : Nat} (hk : ∀ b o, b ≠ it → w.s.heap.get? b = some o → h'.get? b = some o) {src : Src} {a : AV} {v : Value}
    (k : Le cx (fun b => b = it) w ⟨w.ι, w.π, { w.s with heap := h', toks := t }⟩ → VR cx ⟨w.ι, w.π, { w.s with heap := h', toks := t }⟩ a v ∧ ItR cx ⟨w.ι, w.π, { w.s with heap := h', toks := t }⟩ it (i + 1) src)
    (hx : ∃ o, h'.get? it = some o) : Post cx (fun b => b = it) w (RNext cx it i src) (.ok (some a)) H (some v) { w.s with heap := h', toks := t } :=
  let q := S.priv (t := t) hp hk hx; ⟨w.ι, w.π, _, rfl, q.1, q.2, v, rfl, (k q.1).1, hp, (k q.1).2⟩
theorem next_end (S : St cx w H) (hp : it ∈ w.π) {h' : Heap} {t : Nat} (hk : ∀ b o, b ≠ it → w.s.heap.get? b = some o → h'.get? b = some o) {src : Src} : Post cx (fun b => b = it) w (RNext cx it i src) (.ok none) H none { w.s with heap := h', toks := t } :=
  let q := S.drop (t := t) hp hk; ⟨w.ι, _, _, rfl, q.1, q.2, rfl⟩
theorem ne_vs {vs : Array Value} {xs : List AV} (h4 : VRs cx w xs vs.toList) (hx : xs[i]? = none) : vs[i]? = none := by
  rw [Array.getElem?_eq_none_iff, h4.size]; exact List.getElem?_eq_none_iff.mp hx
theorem nextL_rf (hk : HdOK A w.s.heap) (hne : A.handled ≠ some (.ref it)) (hp : it ∈ w.π) {l : Addr} {vs : Array Value} {n : Nat} {xs : List AV} {src : Src} (h1 : w.s.heap.IsListIter it l i) (h2 : IsL w.s.heap l vs n) (h4 : VRs cx w xs vs.toList)
    (k : ∀ {h' : Heap} {t : Nat}, Le cx (fun b => b = it) w ⟨w.ι, w.π, { w.s with heap := h', toks := t }⟩ → h'.IsListIter it l (i + 1) → ItR cx ⟨w.ι, w.π, { w.s with heap := h', toks := t }⟩ it (i + 1) src) :
    Rf cx A (fun b => b = it) w (RNext cx it i src) (pure xs[i]?) (pyNext (.ref it)) := .leaf fun H S => by
  cases hx : xs[i]? with
  | none => exact list_end hk hne h1 h2.isList (ne_vs h4 hx) fun h' he => next_end S (t := w.s.toks) hp he
  | some a =>
    obtain ⟨v, hv, rv⟩ := h4.get hx
    exact wpAny_pyNext_list_item h1 h2.isList (x := v) (by rw [← Array.getElem?_toList]; exact hv) fun h' hit hs => next_item S (t := w.s.toks) hp hs.extBut (fun l => ⟨rv.mono l, k l hit⟩) (let ⟨o, e, _⟩ := hit; ⟨o, e⟩)
theorem next_rf (hk : HdOK A w.s.heap) (hne : A.handled ≠ some (.ref it)) (hp : it ∈ w.π) : ∀ {src : Src}, ItR cx w it i src → Rf cx A (fun b => b = it) w (RNext cx it i src) (src.get i) (pyNext (.ref it))
  | .items xs, .list a vs n h1 h2 h3 h4 => nextL_rf hk hne hp h1 h2 h4 fun l hit => .list a vs n hit (l.fz' h2 h3).1 (l.fz' h2 h3).2 (h4.mono l)
  | .at j, ⟨a, h1, h2⟩ => .read (listAt_rd h1) fun xs ⟨vs, n, hL, hz, hs⟩ => nextL_rf hk hne hp h2 hL hs fun l hit => ⟨a, h1, hit⟩
  | .items xs, .tup a vs n h1 h2 h3 h4 => .leaf fun H S => by
    have hT : w.s.heap.IsTuple a vs := ⟨_, h2, rfl, n, rfl⟩
    cases hx : xs[i]? with
    | none => exact tuple_end hk hne h1 hT (ne_vs h4 hx) fun h' he => next_end S (t := w.s.toks) hp he
    | some c =>
      obtain ⟨v, hv, rv⟩ := h4.get hx
      exact wpAny_pyNext_tuple_item h1 hT (x := v) (by rw [← Array.getElem?_toList]; exact hv) fun h' hit hs => next_item S (t := w.s.toks) hp hs.extBut (fun l => ⟨rv.mono l, .tup a vs n hit (l.fz' h2 h3).1 (l.fz' h2 h3).2 (h4.mono l)⟩) (let ⟨o, e, _⟩ := hit; ⟨o, e⟩)
  | .items xs, .range a b e h1 => .leaf fun H S => by
    rw [e, rangeL_get]
    split
    · refine wpAny_pyNext_range_item h1 (by (first | lia | omega)) fun h' hit hs => next_item S (t := w.s.toks + 1) hp hs.extBut (fun l => ⟨.int, .range a b rfl ?_⟩) ⟨_, hit⟩
      have e1 : a + ((i + 1 : Nat) : Int) = a + i + 1 := by (first | lia | omega)
      have e2 : ((b - a).toNat : Int) - ((i + 1 : Nat) : Int) = ((b - a).toNat : Int) - i - 1 := by (first | lia | omega)
      rw [e1, e2]; exact hit
    · exact range_end hk h1 (by (first | lia | omega)) fun h' he => next_end S (t := w.s.toks) hp he
def RIter (cx : Cx) (w₀ w : Wl) (src : Src) (v : Value) : Prop := ∃ it, v = .ref it ∧ it ∈ w.π ∧ ItR cx w it 0 src ∧ w₀.s.heap.get? it = none
theorem iter_post (S : St cx w H) {o : Obj} {src : Src} (k : Le cx No w ⟨w.ι, w.s.heap.objs.size :: w.π, { w.s with heap := w.s.heap.push o }⟩ → ItR cx ⟨w.ι, w.s.heap.objs.size :: w.π, { w.s with heap := w.s.heap.push o }⟩ w.s.heap.objs.size 0 src) (hf : o.isFreed = false) :
    Post cx No w (RIter cx w) (.ok src) H (.ref w.s.heap.objs.size) { w.s with heap := w.s.heap.push o } :=
  let q := S.hide (t := w.s.toks) (pushk o) (get_size _) ⟨o, Heap.get?_push_size _ hf⟩; ⟨w.ι, _, src, rfl, q.1, q.2, _, rfl, List.mem_cons_self, k q.1, get_size _⟩
theorem iter_rf {a : AV} {v : Value} (ra : VR cx w a v) : Rf cx A No w (RIter cx w) (srcOf a) (pyIter v) := by
  cases a with
  | tup xs => exact ra.tupE fun l vs n h1 h2 h3 h4 => .leaf fun H S => wpAny_pyIter_tuple ⟨_, h1, rfl, _, rfl⟩ (iter_post S (fun q => .tup l vs n ⟨_, Heap.get?_push_size _ rfl, rfl, rfl⟩ (q.fz' h1 h2).1 (q.fz' h1 h2).2 (h4.mono q)) rfl)
  | lst xs => exact ra.lstE fun l vs n h1 h2 h3 h4 => .leaf fun H S => wpAny_pyIter_list h1.isList (iter_post S (fun q => .list l vs n ⟨_, Heap.get?_push_size _ rfl, rfl, rfl⟩ (q.fz' h1 h2).1 (q.fz' h1 h2).2 (h4.mono q)) rfl)
  | range a b => exact ra.rangeE fun d t u x hr hf => ite_rf (fun hsm => .leaf fun H S => wpAny_pyIter_range hr (small_of hsm) (iter_post S (fun q => .range a b rfl (by rw [range_count, show ((0 : Nat) : Int) = 0 from rfl, Int.add_zero, Int.sub_zero]; exact Heap.get?_push_size _ rfl)) rfl)) fun u_ => .stuck
  | loc i => exact ra.locE fun l h => .read (listAt_rd h) fun xs ⟨vs, n, hL, _⟩ => .leaf fun H S => wpAny_pyIter_list hL.isList (iter_post S (fun q => ⟨l, h, _, Heap.get?_push_size _ rfl, rfl, rfl⟩) rfl)
  | _ => exact .stuck
theorem self_iter {Q : Value → Shared → Prop} {E : Value → Shared → Prop} (h : Q (.ref it) w.s) : ∀ {src : Src}, ItR cx w it i src → wpAny (model cx.prog cx.w) A (pyIter (.ref it)) Q E w.s
  | .items _, .list _ _ _ h1 _ _ _ => wpAny_pyIter_listiter h1 h
  | .items _, .tup _ _ _ h1 _ _ _ => wpAny_pyIter_tupleiter h1 h
  | .items _, .range _ _ _ h1 => wpAny_pyIter_rangeiter h1 h
  | .at _, ⟨_, _, h1⟩ => wpAny_pyIter_listiter h1 h
end
end Mine


set_option autoImplicit false
set_option linter.unusedVariables false
namespace Mine
open PySem PyProof.Rows PySem.SeqAt

section
variable {cx : Cx} {A : Around} {env : Env} {sc : Scope} {ns : List Str} {σ : Loc}
theorem closureFor_some {scope : Scope} (h : ∀ y, (y, NameKind.free) ∈ scope.names → ∃ c, env.cells.lookup y = some c) :
    ∃ cl, closureFor scope env = pure cl ∧ (∀ y, (y, NameKind.free) ∈ scope.names → cl.lookup y = env.cells.lookup y) ∧ ∀ y c, cl.lookup y = some c → env.cells.lookup y = some c := by
  have go : ∀ (names : List (Str × NameKind)) (acc : List (Str × Addr)), (∀ y, (y, NameKind.free) ∈ names → ∃ c, env.cells.lookup y = some c) →
      (∀ y c, acc.lookup y = some c → env.cells.lookup y = some c) →
      ∃ cl, (forIn (m := Sem) names acc fun x r => if (x.2 == NameKind.free) = true then (do let c ← cellOf env x.1; pure (ForInStep.yield ((x.1, c) :: r))) else pure (ForInStep.yield r)) = pure cl ∧
        (∀ y c, cl.lookup y = some c → env.cells.lookup y = some c) ∧ (∀ y, (y, NameKind.free) ∈ names → ∃ c, cl.lookup y = some c) ∧ (∀ y c, acc.lookup y = some c → ∃ c', cl.lookup y = some c') := by
    intro names
    induction names with
    | nil => intro acc _ ha; exact ⟨acc, rfl, ha, fun y hy => (nomatch hy), fun y c hc => ⟨c, hc⟩⟩
    | cons x r ih =>
      intro acc hn ha
      rw [List.forIn_cons]
      by_cases hx : x.2 = .free
      · obtain ⟨c, hc⟩ := hn x.1 (by rw [← hx]; exact List.mem_cons_self)
        have hcell : cellOf env x.1 = pure c := by unfold cellOf; rw [hc]
        rw [if_pos (by rw [hx]; rfl), hcell]
        simp only [pure_bind]
        have ha' : ∀ y c', ((x.1, c) :: acc).lookup y = some c' → env.cells.lookup y = some c' := fun y c' h' => by
          rw [List.lookup_cons] at h'
          cases hb : y == x.1 with
          | true => rw [hb] at h'; cases h'; rw [beq_iff_eq.mp hb]; exact hc
          | false => rw [hb] at h'; exact ha y c' h'
        refine byC fun C_ k_ => ?_
        obtain ⟨cl, e1, e2, e3, e4⟩ := ih ((x.1, c) :: acc) (fun y hy => hn y (List.mem_cons_of_mem _ hy)) ha'
        refine k_ ?_
        clear k_ C_
        refine ⟨cl, e1, e2, fun y hy => ?_, fun y c' h' => ?_⟩
        · rcases List.mem_cons.mp hy with q | q
          · exact e4 y c (by rw [← q, List.lookup_cons, beq_self_eq_true])
          · exact e3 y q
        · cases hb : y == x.1 with
          | true => exact e4 y c (by rw [List.lookup_cons, hb])
          | false => exact e4 y c' (by rw [List.lookup_cons, hb]; exact h')
      · rw [if_neg (fun z => hx (by simpa using z))]
        simp only [pure_bind]
        refine byC fun C_ k_ => ?_
        obtain ⟨cl, e1, e2, e3, e4⟩ := ih acc (fun y hy => hn y (List.mem_cons_of_mem _ hy)) ha
        refine k_ ?_
        clear k_ C_
        refine ⟨cl, e1, e2, fun y hy => ?_, e4⟩
        rcases List.mem_cons.mp hy with q | q
        · exact absurd (by rw [← q]) hx
        · exact e3 y q
  refine byC fun C_ k_ => ?_
  obtain ⟨cl, e1, e2, e3, _⟩ := go scope.names [] h (fun y c hc => by cases hc)
  refine k_ ?_
  clear k_ C_
  refine ⟨cl, ?_, fun y hy => ?_, e2⟩
  · have e0 : closureFor scope env = ((forIn (m := Sem) scope.names ([] : List (Str × Addr)) fun x r => if (x.2 == NameKind.free) = true then (do let c ← cellOf env x.1; pure (ForInStep.yield ((x.1, c) :: r))) else pure (ForInStep.yield r)) >>= fun cs => pure cs) := by
      unfold closureFor
      congr 1
    rw [e0, e1]; rfl
  · obtain ⟨c, hc⟩ := e3 y hy
    rw [hc, e2 y c hc]
def relK (env : Env) (y : Str) (k : NameKind) : NameKind := if (k == NameKind.free && env.scope.kind == .function && env.kindOf y == some .cell) then NameKind.cell else k
theorem relabel_lookup (y : Str) : ∀ (names : List (Str × NameKind)),
    (names.map fun (n, k) => if (k == NameKind.free && env.scope.kind == .function && env.kindOf n == some .cell) then (n, NameKind.cell) else (n, k)).lookup y = (names.lookup y).map (relK env y)
  | [] => rfl
  | (n, k) :: r => by
    have ih := relabel_lookup y r
    show List.lookup y ((if (k == NameKind.free && env.scope.kind == .function && env.kindOf n == some .cell) = true then (n, NameKind.cell) else (n, k)) :: _) = _
    rw [show (if (k == NameKind.free && env.scope.kind == .function && env.kindOf n == some .cell) = true then (n, NameKind.cell) else (n, k)) = (n, relK env n k) from by unfold relK; split <;> rfl, List.lookup_cons, List.lookup_cons]
    cases hx : y == n with
    | true => rw [beq_iff_eq.mp hx]; rfl
    | false => exact ih
theorem lookup_mem {names : List (Str × NameKind)} {y : Str} {k : NameKind} (h : names.lookup y = some k) : (y, k) ∈ names := by
  induction names with
  | nil => first | exact no_some h | exact no_true h | cases h
  | cons p r ih =>
    rw [List.lookup_cons] at h
    cases hb : y == p.1 with
    | true => rw [hb] at h; cases h; rw [beq_iff_eq.mp hb]; exact List.mem_cons_self
    | false => rw [hb] at h; exact List.mem_cons_of_mem _ (ih h)
structure CompOK (sc : Scope) (ns : List Str) (scope : Scope) (x : Str) : Prop where
  kind : scope.kind = .function
  own : scope.names.lookup x = some .local
  no0 : (".0" : Str) ∉ ns
  loc : ∀ y, (y, NameKind.local) ∈ scope.names → (y = x ∨ y = (".0" : Str)) ∧ scope.names.lookup y = some .local
  free : ∀ y, (y, NameKind.free) ∈ scope.names → sc.names.lookup y = some .cell ∧ ns.contains y = true
  kinds : ∀ y k, (y, k) ∈ scope.names → k = .local ∨ k = .free ∨ k = .globalImplicit
theorem compOk_of {scope : Scope} {x : Str} (h : compOk sc ns scope x = true) : CompOK sc ns scope x := by
  unfold compOk at h
  rw [Bool.and_eq_true, Bool.and_eq_true, Bool.and_eq_true, List.all_eq_true] at h
  refine byC fun C_ k_ => ?_
  obtain ⟨⟨⟨h1, h2⟩, h3⟩, h4⟩ := h
  refine k_ ?_
  clear k_ C_
  refine ⟨by simpa using h1, by simpa using h2, by simpa using h3, fun y hy => ?_, fun y hy => ?_, fun y k hy => ?_⟩
  · have := h4 _ hy
    simpa using this
  · have := h4 _ hy
    simpa using this
  · have h5 := h4 _ hy
    cases k with
    | «local» => exact .inl rfl
    | free => exact .inr (.inl rfl)
    | globalImplicit => exact .inr (.inr rfl)
    | _ => first | exact no_some h5 | exact no_true h5 | cases h5
theorem idxOf_cons_ne {x y : Str} (h : y ≠ x) : (x :: ns).idxOf? y = (ns.idxOf? y).map (· + 1) := by
  rw [List.idxOf?_cons, if_neg (by simpa using Ne.symm h)]
theorem EnvR.comp {w : Wl} {scope : Scope} {x : Str} {cl : List (Str × Addr)} {C : Addr} {m : Str → Option Value} {a : AV} {v : Value} (e : EnvR cx env sc ns σ w) (ok : CompOK sc ns scope x) (hcl : (∀ y, (y, NameKind.free) ∈ scope.names → cl.lookup y = env.cells.lookup y) ∧ ∀ y c, cl.lookup y = some c → env.cells.lookup y = some c)
    (hC : C ∈ w.π) (hn : w.s.heap.Ns C m) (hx : m x = some v) (r : VR cx w a v) : EnvR cx (compEnvC scope cl C env) scope (x :: ns) (some a :: σ) w := by
  have hk : ∀ y, (compEnvC scope cl C env).kindOf y = (scope.names.lookup y).map (relK env y) := fun y => relabel_lookup (env := env) y scope.names
  have hlook : ∀ y k, scope.names.lookup y = some k → k = .local ∨ k = .free ∨ k = .globalImplicit := fun y k q => ok.kinds y k (lookup_mem q)
  have kf : ∀ y, relK env y .free = .cell ∨ relK env y .free = .free := fun y => by unfold relK; split; exact .inl rfl; exact .inr rfl
  refine ⟨⟨?_, e.k.glob, e.k.blt, ?_, ?_, ?_⟩, hC, ⟨m, hn, ?_⟩, ?_, ?_, fun n c q => e.cls n c (hcl.2 n c q), e.fr, e.hd⟩
  · show (relabel scope env).kind = _; exact ok.kind
  · intro y hy
    rw [hk]
    unfold isLocal at hy
    cases hl : scope.names.lookup y with
    | none => rw [hl] at hy; cases hy
    | some k =>
      rcases hlook y k hl with q | q | q
      · subst q; exact .inl rfl
      · subst q; rcases kf y with z | z
        · exact .inr (.inl (congrArg some z))
        · exact .inr (.inr (congrArg some z))
      · subst q; rw [hl] at hy; cases hy
  · intro y h2
    rcases hlook y _ h2 with q | q | q <;> cases q
  · intro y hy
    rw [hk]
    unfold isGlob at hy
    cases hl : scope.names.lookup y with
    | none => rw [hl] at hy; cases hy
    | some k =>
      rcases hlook y k hl with q | q | q
      · subst q; rw [hl] at hy; cases hy
      · subst q; rw [hl] at hy; cases hy
      · subst q; rfl
  · intro y i b h1 h2 h3
    rw [hk] at h3
    obtain ⟨k, hl, h3⟩ := Option.map_eq_some_iff.mp h3
    rcases hlook y k hl with q | q | q
    · subst q
      by_cases hyx : y = x
      · subst hyx
        rw [List.idxOf?_cons, beq_self_eq_true] at h1
        cases h1; cases h2
        exact ⟨v, hx, r⟩
      · rcases (ok.loc y (lookup_mem hl)).1 with hy | hy
        · exact absurd hy hyx
        · rw [idxOf_cons_ne hyx, List.idxOf?_eq_none_iff.mpr (by rw [hy]; exact ok.no0)] at h1; cases h1
    · subst q; rcases kf y with z | z <;> rw [z] at h3 <;> cases h3
    · subst q; cases h3
  · intro y i b h1 h2 h3
    rw [hk] at h3
    cases hl : scope.names.lookup y with
    | none => rw [hl] at h3; rcases h3 with h3 | h3 <;> cases h3
    | some k =>
      rw [hl] at h3
      rcases hlook y k hl with q | q | q
      · subst q; rcases h3 with h3 | h3 <;> cases h3
      · subst q
        refine byC fun C_ k_ => ?_
        obtain ⟨f1, f2⟩ := ok.free y (lookup_mem hl)
        have hyx : y ≠ x := fun q => by subst q; rw [ok.own] at hl; cases hl
        rw [idxOf_cons_ne hyx] at h1
        obtain ⟨j, hi, rfl⟩ := Option.map_eq_some_iff.mp h1
        obtain ⟨c, u, q1, q2, q3, q4⟩ := e.cel y j b hi h2 (.inl (e.k.kcell y f1))
        refine k_ ?_
        clear k_ C_
        exact ⟨c, u, (hcl.1 y (lookup_mem hl)).trans q1, q2, q3, q4⟩
      · subst q; rcases h3 with h3 | h3 <;> cases h3
  · intro y h1 h2
    rcases hlook y _ h2 with q | q | q <;> cases q
end
end Mine


set_option autoImplicit false
set_option linter.unusedVariables false
namespace Mine
open PySem PyProof.Rows PySem.SeqAt

noncomputable def compBody (te : AV → Expr → M Bool) (ev : AV → Expr → M AV) (ifs : List Expr) (elt : Expr) (v : AV) : M (Option AV) := do
  let t ← ifs1 (te v) ifs
  if t then do
    let y ← ev v elt
    pure (some y)
  else pure none
def P3 (it C D : Addr) : Addr → Prop := fun b => b = it ∨ b = C ∨ b = D
section
variable {cx : Cx} {A : Around} {p : Addr → Prop} {w w' w₁ : Wl} {H : AHeap} {env : Env} {sc : Scope} {ns : List Str} {σ : Loc} {src : Src} {it C D : Addr} {i : Nat} {acc : List AV}
set_option tactic.hygienic true in
theorem noX_ok {α : Type} {m : M α} {H H' : AHeap} {r : Except Str α} (h : noX m H = some (r, H')) : ∃ a, r = .ok a ∧ m H = some (.ok a, H') := by
  unfold noX at h
  split at h
  · rename_i a H1 e; cases h; exact ⟨a, rfl, e⟩
  · cases h
structure CL (cx : Cx) (env : Env) (sc : Scope) (ns : List Str) (σ : Loc) (w₁ : Wl) (it C D : Addr) (src : Src) (i : Nat) (acc : List AV) (w : Wl) (H : AHeap) : Prop where
  S : St cx w H
  X : Le cx (P3 it C D) w₁ w
  E : EnvR cx env sc ns σ w
  pI : it ∈ w.π
  J : ItR cx w it i src
  pD : D ∈ w.π
  L : ∃ vs n, IsL w.s.heap D vs n ∧ VRs cx w acc vs.toList
  pC : C ∈ w.π
  N : ∃ m, w.s.heap.Ns C m
structure CLs (cx : Cx) (env : Env) (it C D : Addr) : Prop where
  iC : it ≠ C
  iD : it ≠ D
  cD : C ≠ D
  oI : ¬ OwnF cx env it
  oC : ¬ OwnF cx env C
  oD : ¬ OwnF cx env D
theorem ns_keep {h h' : Heap} {a : Addr} (x : ∃ m, h.Ns a m) (e : ∀ o, h.get? a = some o → h'.get? a = some o) : ∃ m, h'.Ns a m := by obtain ⟨m, h1⟩ := x; exact ⟨m, h1.at' e⟩
theorem ns_up {h h' : Heap} {a : Addr} (x : ∃ m, h.Ns a m) (e : ∀ o, h.get? a = some o → UpS cx a o (h'.get? a)) : ∃ m, h'.Ns a m := by obtain ⟨m, h1⟩ := x; exact ⟨m, UpS.ns h1 e⟩
theorem lst_keep {acc : List AV} (l : Le cx p w w') (hp : D ∈ w.π) (hn : ¬ p D) (x : ∃ vs n, IsL w.s.heap D vs n ∧ VRs cx w acc vs.toList) : ∃ vs n, IsL w'.s.heap D vs n ∧ VRs cx w' acc vs.toList := by obtain ⟨vs, n, h1, h2⟩ := x; exact ⟨vs, n, (l.kp _ _ hp hn h1).nd (fun es ep z => nomatch z), h2.mono l⟩
theorem CL.mono {H' : AHeap} (c : CL cx env sc ns σ w₁ it C D src i acc w H) (l : Le cx No w w') (S : St cx w' H') : CL cx env sc ns σ w₁ it C D src i acc w' H' :=
  ⟨S, c.X.trans l.no, EnvR.stable _ _ c.E l, l.pv _ c.pI id, c.J.mono l c.pI id, l.pv _ c.pD id, lst_keep l c.pD id c.L, l.pv _ c.pC id, ns_up c.N fun o e => l.kp _ o c.pC id e⟩
theorem turn_rf (hh : HdA cx A) (c : CL cx env sc ns σ w₁ it C D src i acc w H) : Rf cx A (fun b => b = it) w (RNext cx it i src) (src.get i) (pyNext (.ref it)) := next_rf (hh.ok c.E.hd) (hh.ne c.E.hd c.pI) c.pI c.J
theorem CL.turnI {H' : AHeap} {j : Nat} (K : CLs cx env it C D) (c : CL cx env sc ns σ w₁ it C D src i acc w H) (l : Le cx (fun b => b = it) w w') (S : St cx w' H') (pI : it ∈ w'.π) (J : ItR cx w' it j src) : CL cx env sc ns σ w₁ it C D src j acc w' H' :=
  ⟨S, c.X.trans (l.weak fun b u_ h => .inl h), c.E.mono l fun b hb h => K.oI (h ▸ hb), pI, J, l.pv _ c.pD (Ne.symm K.iD), lst_keep l c.pD (Ne.symm K.iD) c.L, l.pv _ c.pC (Ne.symm K.iC), ns_up c.N fun o e => l.kp _ o c.pC (Ne.symm K.iC) e⟩
theorem CL.turnC {H' : AHeap} (K : CLs cx env it C D) (c : CL cx env sc ns σ w₁ it C D src i acc w H) (l : Le cx (fun b => b = C) w w') (S : St cx w' H') (pC : C ∈ w'.π) (N : ∃ m, w'.s.heap.Ns C m) : CL cx env sc ns σ w₁ it C D src i acc w' H' :=
  ⟨S, c.X.trans (l.weak fun b u_ h => .inr (.inl h)), c.E.mono l fun b hb h => K.oC (h ▸ hb), l.pv _ c.pI K.iC, c.J.mono l c.pI K.iC, l.pv _ c.pD (Ne.symm K.cD), lst_keep l c.pD (Ne.symm K.cD) c.L, pC, N⟩
theorem CL.add (K : CLs cx env it C D) (c : CL cx env sc ns σ w₁ it C D src i acc w H) {a : AV} {v : Value} {Q : Value → Shared → Prop} {E : Value → Shared → Prop} (r : VR cx w a v) (hz : acc.length < LIM)
    (hQ : ∀ u w', CL cx env sc ns σ w₁ it C D src i (acc ++ [a]) w' H → Q u w'.s) : wpAny (model cx.prog cx.w) A (PySem.call (.builtin "list.append") [.ref D, v]) Q E w.s := by
  refine byC fun C_ k_ => ?_
  obtain ⟨vs, n, l1, l2⟩ := c.L
  refine k_ ?_
  clear k_ C_
  refine call_meets F.slot_list_append ⟨_, l1, rfl⟩ F.entry_list_append (F.args_list_append_2 _ _) (list_append _ vs n v (by rw [l2.size]; exact Nat.le_trans (Nat.le_of_lt hz) LIM_le)) ⟨l1, hQ _ ⟨w.ι, w.π, { w.s with heap := w.s.heap.update D (Obj.mapSeq (·.push v)) }⟩ ?_⟩
  have hk : ∀ b o, b ≠ D → w.s.heap.get? b = some o → (w.s.heap.update D (Obj.mapSeq (·.push v))).get? b = some o := fun b o hb e => (Heap.get?_update_other _ _ (Ne.symm hb)).trans e
  have hL := IsL.update l1 (·.push v)
  obtain ⟨l, S⟩ := c.S.priv (t := w.s.toks) c.pD hk ⟨_, hL⟩
  exact ⟨S, c.X.trans (l.weak fun b u_ h => .inr (.inr h)), c.E.mono l fun b hb h => K.oD (h ▸ hb), c.pI, c.J.mono l c.pI K.iD, c.pD, ⟨_, _, hL, by rw [Array.toList_push]; exact (l2.append (.cons r .nil)).mono l⟩, c.pC, ns_keep c.N fun o e => hk C o K.cD e⟩
theorem ifs_rf {te : Expr → M Bool} {I : Wl → Prop} {env' : Env} (hte : TeOK cx A env' I te) (i : I w) {ifs : List Expr} :
    Rf cx A No w Rt (ifs1 te ifs) (forIn ifs true fun c r => if r = true then do let ok ← PySem.isTrue c env' (eval c env'); pure (ForInStep.yield ok) else pure (ForInStep.yield r)) := by
  match ifs with
  | [] => exact .leaf fun H S => wpAny_tests_nil (.here S rfl)
  | [e] => exact (hte e w i).wp fun h => wpAny_tests_one h
  | _ :: _ :: _ => exact .stuck
theorem compLoop_sound {elt iter : Expr} {x : Str} {px pos : Pos} {ifs : List Expr} {scope : Scope} {cl : List (Str × Addr)} {ys : List AV} {te : AV → Expr → M Bool} {ev : AV → Expr → M AV} {R : Result → Shared → Prop} {H3 : AHeap}
    (hh : HdA cx A) (ok : CompOK sc ns scope x) (hcl : (∀ y, (y, NameKind.free) ∈ scope.names → cl.lookup y = env.cells.lookup y) ∧ ∀ y c, cl.lookup y = some c → env.cells.lookup y = some c) (K : CLs cx env it C D)
    (hev : ∀ env' a, EvOK cx A env' (EnvR cx env' scope (x :: ns) (some a :: σ)) (ev a)) (hte : ∀ env' a, TeOK cx A env' (EnvR cx env' scope (x :: ns) (some a :: σ)) (te a))
    (hR : ∀ w', St cx w' H3 → Le cx (P3 it C D) w₁ w' → EnvR cx env sc ns σ w' → D ∈ w'.π → (∃ vs n, IsL w'.s.heap D vs n ∧ VRs cx w' ys vs.toList) → C ∈ w'.π → (∃ m, w'.s.heap.Ns C m) → R (.ok .next) w'.s)
    (f : Nat) (i : Nat) (hc : CL cx env sc ns σ w₁ it C D src i acc w H) (hl : compLoop src (compBody te ev ifs elt) f i acc H = some (.ok ys, H3)) :
    codeAny (model cx.prog cx.w) A (.compLoop (.ListComp elt [⟨.Name x px, iter, ifs, 0⟩] scope pos) 0 (.ref it) (.ref D) (compEnvC scope cl C env)) R w.s := by
  refine codeAny_compLoop_tests (fun k s' => ∃ w H' i acc, w.s = s' ∧ CL cx env sc ns σ w₁ it C D src i acc w H' ∧ compLoop src (compBody te ev ifs elt) k i acc H' = some (.ok ys, H3)) ?_ f ⟨w, H, i, acc, rfl, hc, hl⟩
  clear hc hl
  rintro k s ⟨w, H, i, acc, rfl, c, hl⟩
  cases k with
  | zero => cases hl
  | succ k =>
    unfold compLoop at hl
    refine wpAny_mono ((turn_rf hh c).run c.S hl fun w1 r o H1 l1 S1 hr h2 => ?_) (fun u_ u_ z => z) fun u_ u_ z_ => z_.out
    cases r with
    | none =>
      have hr : o = none := hr
      subst hr
      obtain ⟨e1, rfl⟩ := pure_some h2
      cases e1
      exact hR w1 S1 (c.X.trans (l1.weak fun b u_ h => .inl h)) (c.E.mono l1 fun b hb h => K.oI (h ▸ hb)) (l1.pv _ c.pD (Ne.symm K.iD)) (lst_keep l1 c.pD (Ne.symm K.iD) c.L) (l1.pv _ c.pC (Ne.symm K.iC)) (ns_up c.N fun o e => l1.kp _ o c.pC (Ne.symm K.iC) e)
    | some a =>
      refine byC fun C_ k_ => ?_
      obtain ⟨v, rfl, rv, pI, J'⟩ := hr
      have c1 := c.turnI K l1 S1 pI J'
      obtain ⟨m, hm⟩ := c1.N
      refine k_ ?_
      clear k_ C_
      refine wpAny_assign_Name (wpAny_storeName_local (env := compEnvC scope cl C env) (lookup_relabel_local ok.own) hm (fun h'' hn'' hs'' => ?_) (by simp [compEnvC, relabel, ok.kind]))
      obtain ⟨l2, S2⟩ := c1.S.priv (t := w1.s.toks + 1) c1.pC hs''.extBut (let ⟨o, _, _, e, _⟩ := hn''; ⟨o, e⟩)
      have c2 := c1.turnC K l2 S2 c1.pC ⟨_, hn''⟩
      have I2 : EnvR cx (compEnvC scope cl C env) scope (x :: ns) (some a :: σ) ⟨w1.ι, w1.π, { w1.s with heap := h'', toks := w1.s.toks + 1 }⟩ := c2.E.comp ok hcl c1.pC hn'' (by simp) (rv.mono l2)
      refine bind_inv h2 (fun b H2 h3 h4 => ?_) fun x h3 h4 => by cases h4
      obtain ⟨b', e', h3⟩ := noX_ok h3
      cases e'
      refine wpAny_mono ((ifs_rf (hte _ a) I2 (ifs := ifs)).run c2.S h3 fun w3 t t' H3' l3 S3 ht h5 => ?_) (fun u_ u_ z => z) fun u_ u_ z_ => z_.out
      have c3 := c2.mono l3 S3
      rw [← show t = t' from ht]
      cases t with
      | false =>
        obtain ⟨e1, rfl⟩ := pure_some h5
        cases e1
        exact ⟨k, Nat.lt_succ_self _, w3, _, _, _, rfl, c3, h4⟩
      | true =>
        refine wpAny_mono ((hev _ a elt w3 (EnvR.stable _ _ I2 l3)).run (f := fun y => pure (some y)) c3.S h5 fun w4 y u H5 l4 S4 r4 h6 => ?_) (fun u_ u_ z => z) fun u_ u_ z_ => z_.out
        obtain ⟨e1, rfl⟩ := pure_some h6
        cases e1
        have h4 : (if acc.length < LIM then compLoop src (compBody te ev ifs elt) k (i + 1) (acc ++ [y]) else stuck : M (List AV)) _ = some (.ok ys, H3) := h4
        split at h4
        · exact (c3.mono l4 S4).add K r4 ‹_› fun u_ w5 c5 => ⟨k, Nat.lt_succ_self _, w5, _, _, _, rfl, c5, h4⟩
        · cases h4
theorem listAt_ok {l : Nat} {H H' : AHeap} {r : Except Str (List AV)} (h : listAt l H = some (r, H')) : ∃ a, r = .ok a := by
  refine bind_inv h (fun o H1 h1 h2 => ?_) fun x h1 h2 => ?_
  · cases o with
    | list xs => exact ⟨xs, (pure_some h2).1⟩
    | dict _ => cases h2
  · unfold objAt at h1
    split at h1 <;> cases h1
theorem get_ok {H H' : AHeap} : ∀ {src : Src} {r : Except Str (Option AV)}, src.get i H = some (r, H') → ∃ a, r = .ok a
  | .items xs, r, h => ⟨_, (pure_some h).1⟩
  | .at l, r, h => bind_inv h (fun xs H1 h1 h2 => ⟨_, (pure_some h2).1⟩) fun x h1 h2 => by obtain ⟨a, e⟩ := listAt_ok h1; cases e
  | .enum s, r, h => bind_inv h (fun xs H1 h1 h2 => ⟨_, (pure_some h2).1⟩) fun x h1 h2 => by obtain ⟨a, e⟩ := get_ok (src := s) h1; cases e
theorem compLoop_ok {body : AV → M (Option AV)} : ∀ (f i : Nat) (acc : List AV) {H H' : AHeap} {r : Except Str (List AV)}, compLoop src body f i acc H = some (r, H') → ∃ a, r = .ok a
  | 0, _, _, _, _, _, h => nomatch h
  | f + 1, i, acc, H, H', r, h => by
    unfold compLoop at h
    refine bind_inv h (fun o H1 h1 h2 => ?_) fun x h1 h2 => by obtain ⟨a, e⟩ := get_ok h1; cases e
    cases o with
    | none => exact ⟨_, (pure_some h2).1⟩
    | some v =>
      refine bind_inv h2 (fun b H2 h3 h4 => ?_) fun x h3 h4 => by obtain ⟨a, e, _⟩ := noX_ok h3; cases e
      cases b with
      | none => exact compLoop_ok f (i + 1) acc h4
      | some y =>
        have h4 : (if acc.length < LIM then compLoop src body f (i + 1) (acc ++ [y]) else stuck : M (List AV)) H2 = some (r, H') := h4
        split at h4
        · exact compLoop_ok f (i + 1) _ h4
        · cases h4
theorem comp_core {elt iter : Expr} {x : Str} {px pos pos' : Pos} {ifs : List Expr} {scope : Scope} {mu : Bool} {ei : Expr → M AV} {te : AV → Expr → M Bool} {ev : AV → Expr → M AV} {use : Option (Value → Sem Unit)} {Q : Value → Shared → Prop} {r : Except Str AV} {H' : AHeap}
    (hh : HdA cx A) (ok : CompOK sc ns scope x) (hx : exOk iter = true) (hi : EvOK cx A env (EnvR cx env sc ns σ) ei)
    (hev : ∀ env' a, EvOK cx A env' (EnvR cx env' scope (x :: ns) (some a :: σ)) (ev a)) (hte : ∀ env' a, TeOK cx A env' (EnvR cx env' scope (x :: ns) (some a :: σ)) (te a)) (S : St cx w H) (I : EnvR cx env sc ns σ w)
    (h : (do let iv ← ei iter; let src ← srcOf iv; let ys ← compLoop src (compBody te ev ifs elt) FUEL 0 []; newL mu ys : M AV) H = some (r, H'))
    (hfin : ∀ D C w' a, r = .ok a → Le cx No w w' → St cx w' H' → VR cx w' a (.ref D) → EnvR cx env sc ns σ w' → C ∈ w'.π → C ∉ w.π → ¬ OwnF cx env C → (∃ m, w'.s.heap.Ns C m) → compPost (model cx.prog cx.w) A (PostX cx No w r H') use Q (.ref D) C (.ok .next) w'.s) :
    wpAny (model cx.prog cx.w) A (comprehension (.ListComp elt [⟨.Name x px, iter, ifs, 0⟩] scope pos) scope env pos' (newList []) false (eval iter env) use) Q (PostX cx No w r H') w.s := by
  obtain ⟨cl, hclos, hcl⟩ := closureFor_some (env := env) (scope := scope) (fun y hy => by
    refine byC fun C_ k_ => ?_
    obtain ⟨f1, f2⟩ := ok.free y hy
    obtain ⟨c, v, q, _⟩ := I.has y f2 f1
    refine k_ ?_
    clear k_ C_
    exact ⟨c, q⟩)
  refine wpAny_comprehension_free (use := use) rfl (fun v => exOk_set hx) hclos ok.kind (fun z hz hl => (ok.loc z.1 (by rw [← hl]; exact hz)).2) ((hi iter w I).run S h fun w1 iv xv H1 l1 S1 r1 h1 => ?_)
  refine wpAny_mono ((iter_rf r1).run S1 h1 fun w2 src itv H2 l2 S2 ⟨it, e, pI, J, hitn⟩ h2 => ?_) (fun u_ u_ z => z) fun u_ u_ q => q.le l1
  subst e
  -- the list
  have hDn : w2.s.heap.get? w2.s.heap.objs.size = none := get_size _
  obtain ⟨l3, S3⟩ := S2.hide (t := w2.s.toks) (pushk { cls := .type "list", dict := none, data := .seq ([] : List Value).toArray }) hDn ⟨_, Heap.get?_push_size _ rfl⟩
  refine wpAny_newObj_type (wpAny_newFunctionEnv (fun z hz => by rcases ok.kinds z.1 z.2 hz with q | q | q <;> rw [q] <;> simp) (by intro y hy; simp at hy) (fun h4 hns hsb => ?_) ok.kind)
  dsimp only at hns hsb ⊢
  have hD3 : IsL (w2.s.heap.push { cls := .type "list", dict := none, data := .seq ([] : List Value).toArray }) w2.s.heap.objs.size #[] 0 := Heap.get?_push_size _ rfl
  have hGs : (w2.s.heap.push { cls := .type "list", dict := none, data := .seq ([] : List Value).toArray }).objs.size = w2.s.heap.objs.size + 1 := Heap.size_push ..
  generalize w2.s.heap.push { cls := .type "list", dict := none, data := .seq ([] : List Value).toArray } = G at hns hsb l3 S3 hD3 hGs ⊢
  have hk4 : ∀ b o, G.get? b = some o → h4.get? b = some o := fun b o e => hsb.extBut b o (Nat.ne_of_lt (Heap.lt_size e)) (Heap.get?_push_of_some _ e)
  refine byC fun C_ k_ => ?_
  obtain ⟨l4, S4⟩ := S3.hide (t := w2.s.toks + 0) hk4 (get_size _) (let ⟨o, _, _, e, _⟩ := hns; ⟨o, e⟩)
  have I1 := EnvR.stable _ _ I l1
  have I2 := EnvR.stable _ _ I1 l2
  have I4 := EnvR.stable _ _ (EnvR.stable _ _ I2 l3) l4
  obtain ⟨oi, hoi⟩ := S2.pvx it pI
  refine k_ ?_
  clear k_ C_
  have iD : it ≠ w2.s.heap.objs.size := Nat.ne_of_lt (Heap.lt_size hoi)
  have iC : it ≠ G.objs.size := by rw [hGs]; exact Nat.ne_of_lt (Nat.lt_succ_of_lt (Heap.lt_size hoi))
  have cD : G.objs.size ≠ w2.s.heap.objs.size := by rw [hGs]; exact Nat.succ_ne_self _
  have old : ∀ {b : Addr}, OwnF cx env b → b < w2.s.heap.objs.size ∧ b ≠ it := fun {b} hb => by
    refine byC fun C_ k_ => ?_
    obtain ⟨o, e⟩ := S1.pvx b (I1.ownF hb)
    obtain ⟨o2, e2⟩ := S2.pvx b (I2.ownF hb)
    refine k_ ?_
    clear k_ C_
    exact ⟨Heap.lt_size e2, fun z => by rw [z, hitn] at e; cases e⟩
  have K : CLs cx env it G.objs.size w2.s.heap.objs.size := ⟨iC, iD, cD, fun h => (old h).2 rfl, fun h => absurd (old h).1 (by rw [hGs]; exact Nat.not_lt.mpr (Nat.le_succ _)), fun h => Nat.lt_irrefl _ (old h).1⟩
  have c0 : CL cx env sc ns σ ⟨w2.ι, G.objs.size :: w2.s.heap.objs.size :: w2.π, { w2.s with heap := h4, toks := w2.s.toks + 0 }⟩ it G.objs.size w2.s.heap.objs.size src 0 [] ⟨w2.ι, G.objs.size :: w2.s.heap.objs.size :: w2.π, { w2.s with heap := h4, toks := w2.s.toks + 0 }⟩ H2 :=
    ⟨S4, .refl _, I4, List.mem_cons_of_mem _ (List.mem_cons_of_mem _ pI), (J.mono l3 pI id).mono l4 (List.mem_cons_of_mem _ pI) id, List.mem_cons_of_mem _ List.mem_cons_self, ⟨#[], 0, hk4 _ _ hD3, rfl⟩, List.mem_cons_self, ⟨_, hns⟩⟩
  refine bind_inv h2 (fun ys H3 h5 h6 => ?_) fun e h5 h6 => by obtain ⟨a, e⟩ := compLoop_ok _ _ _ h5; cases e
  have hz := newL_len h6
  have np : ∀ b, b ∈ w.π → ¬ P3 it G.objs.size w2.s.heap.objs.size b := fun b hb h => by
    refine byC fun C_ k_ => ?_
    obtain ⟨o, e⟩ := S1.pvx b (l1.pv b hb id)
    obtain ⟨o2, e2⟩ := S2.pvx b (l2.pv b (l1.pv b hb id) id)
    refine k_ ?_
    clear k_ C_
    rcases h with h | h | h
    · rw [h, hitn] at e; cases e
    · rw [h] at e2; exact absurd (Heap.lt_size e2) (by rw [hGs]; exact Nat.not_lt.mpr (Nat.le_succ _))
    · rw [h] at e2; exact Nat.lt_irrefl _ (Heap.lt_size e2)
  have lw : ∀ {w'}, Le cx (P3 it G.objs.size w2.s.heap.objs.size) ⟨w2.ι, G.objs.size :: w2.s.heap.objs.size :: w2.π, { w2.s with heap := h4, toks := w2.s.toks + 0 }⟩ w' → Le cx No w w' := fun l => (l1.no.trans (l2.no.trans (l3.no.trans (l4.no.trans l)))).weak fun b hb h => np b hb h
  have loop : codeAny (model cx.prog cx.w) A (.compLoop (.ListComp elt [⟨.Name x px, iter, ifs, 0⟩] scope pos) 0 (.ref it) (.ref w2.s.heap.objs.size) (compEnvC scope cl G.objs.size env)) (compPost (model cx.prog cx.w) A (PostX cx No w r H') use Q (.ref w2.s.heap.objs.size) G.objs.size) { w2.s with heap := h4, toks := w2.s.toks + 0 } := by
    refine compLoop_sound hh ok hcl K hev hte (fun w5 S5 l5 I5 pD ⟨vs, n, hL, hvs⟩ pC hN => ?_) FUEL 0 c0 h5
    have oc : ¬ OwnF cx env G.objs.size := K.oC
    have nc : G.objs.size ∉ w.π := fun hb => np _ hb (.inr (.inl rfl))
    unfold newL at h6
    rw [if_pos hz] at h6
    cases mu with
    | false =>
      refine byC fun C_ k_ => ?_
      obtain ⟨rfl, rfl⟩ := pure_some h6
      obtain ⟨l6, S6⟩ := S5.drop (t := w5.s.toks) pD fun u_ u_ u_ e => e
      refine k_ ?_
      clear k_ C_
      have l7 := l5.trans (l6.weak fun b u_ h => .inr (.inr h))
      exact hfin _ _ ⟨w5.ι, outP w5.π w2.s.heap.objs.size, { w5.s with heap := w5.s.heap, toks := w5.s.toks }⟩ _ rfl (lw l7) S6 (.lst hL ⟨fun z => S5.dj _ z pD, fun z => (mem_outP.mp z).2 rfl⟩ hz (hvs.mono l6)) (I5.mono l6 fun b hb h => K.oD (h ▸ hb)) (mem_outP.mpr ⟨pC, cD⟩) nc oc hN
    | true =>
      cases h6
      obtain ⟨l6, S6⟩ := S5.adopt (t := w5.s.toks) (o := .list ys) pD (fun u_ u_ u_ e => e) fun l6 => ⟨vs, n, hL, hz, hvs.mono l6⟩
      have l7 := l5.trans (l6.weak fun b u_ h => .inr (.inr h))
      exact hfin _ _ ⟨w5.ι ++ [w2.s.heap.objs.size], outP w5.π w2.s.heap.objs.size, { w5.s with heap := w5.s.heap, toks := w5.s.toks }⟩ _ rfl (lw l7) S6 (.loc (by rw [← S5.len]; exact List.getElem?_concat_length)) (I5.mono l6 fun b hb h => K.oD (h ▸ hb)) (mem_outP.mpr ⟨pC, cD⟩) nc oc hN
  exact codeAny_compStart_list loop (self_iter (w := ⟨w2.ι, G.objs.size :: w2.s.heap.objs.size :: w2.π, { w2.s with heap := h4, toks := w2.s.toks + 0 }⟩) loop c0.J)
theorem comp_rf {elt iter : Expr} {x : Str} {px pos : Pos} {ifs : List Expr} {scope : Scope} {mu : Bool} {ei : Expr → M AV} {te : AV → Expr → M Bool} {ev : AV → Expr → M AV}
    (hh : HdA cx A) (ok : CompOK sc ns scope x) (hx : exOk iter = true) (hi : EvOK cx A env (EnvR cx env sc ns σ) ei)
    (hev : ∀ env' a, EvOK cx A env' (EnvR cx env' scope (x :: ns) (some a :: σ)) (ev a)) (hte : ∀ env' a, TeOK cx A env' (EnvR cx env' scope (x :: ns) (some a :: σ)) (te a)) (I : EnvR cx env sc ns σ w) :
    Rf cx A No w (VR cx) (do let iv ← ei iter; let src ← srcOf iv; let ys ← compLoop src (compBody te ev ifs elt) FUEL 0 []; newL mu ys) (eval (.ListComp elt [⟨.Name x px, iter, ifs, 0⟩] scope pos) env) := fun H S r H' h => by
  rw [eval_ListComp]
  refine comp_core (use := none) (mu := mu) hh ok hx hi hev hte S I h fun D C w' a e l S' rv I' pC nC oC ⟨m, hN⟩ => ⟨m, hN, fun h' hs => ?_⟩
  subst e
  obtain ⟨l2, S2⟩ := S'.drop (t := w'.s.toks) pC hs.extBut
  exact ⟨_, _, a, rfl, (l.no.trans l2).weak (fun b hb h => nC (h ▸ hb)), S2, rv.mono l2⟩
end
end Mine


set_option autoImplicit false
set_option linter.unusedVariables false
namespace Mine
open PySem PyProof.Rows PySem.SeqAt

section
variable {cx : Cx} {A : Around} {w : Wl} {P : Pg} {cf : Str → List AV → M AV}
set_option tactic.hygienic true in
theorem compGen_of {gens : List Comprehension} {x : Str} {iter : Expr} {ifs : List Expr} (h : compGen gens = some (x, iter, ifs)) : ∃ px, gens = [⟨.Name x px, iter, ifs, 0⟩] := by
  match gens, h with
  | [⟨tg, it, fs, k⟩], h =>
    have h' : (if k = 0 then (nameOf1 tg).map fun x => (x.1, it, fs) else none) = some (x, iter, ifs) := h
    split at h'
    · rename_i h0
      obtain ⟨y, h1, h2⟩ := Option.map_eq_some_iff.mp h'
      cases h2
      rw [nameOf1_of h1, h0]
      exact ⟨y.2, rfl⟩
    · cases h'
theorem dComp_cases {sc : Scope} {ns : List Str} {T : M AV → Prop} {elt : Expr} {gens : List Comprehension} {scope : Scope} {n : Nat} {mu : Bool} {ev : Expr → M AV} {ec : Str → AV → Expr → M AV} (h0 : T stuck)
    (h1 : ∀ x px iter ifs, gens = [⟨.Name x px, iter, ifs, 0⟩] → CompOK sc ns scope x → exOk iter = true → T (do let iv ← ev iter; let src ← srcOf iv; let ys ← compLoop src (compBody (fun v => denT (ec x v) n) (fun v => ec x v) ifs elt) FUEL 0 []; newL mu ys)) : T (dComp ev ec n mu sc ns scope elt gens) := by
  unfold dComp
  cases hg : compGen gens with
  | none => exact h0
  | some q =>
    refine byC fun C_ k_ => ?_
    obtain ⟨x, iter, ifs⟩ := q
    obtain ⟨px, e⟩ := compGen_of hg
    refine k_ ?_
    clear k_ C_
    show T (if compOk sc ns scope x && exOk iter then _ else stuck)
    by_cases hok : (compOk sc ns scope x && exOk iter) = true
    · rw [if_pos hok]; rw [Bool.and_eq_true] at hok; exact h1 x px iter ifs e (compOk_of hok.1) hok.2
    · rw [if_neg hok]; exact h0
theorem den_rf (hk : HdA cx A) (hh : P.free = true → A.handled = none) (R : Room A) (Z : P.free = true → ZipOK cx A) (G : Good cx P) (C : CallOK cx A P cf) : ∀ (n : Nat) (env : Env) (sc : Scope) (ns : List Str) (σ : Loc), EvOK cx A env (EnvR cx env sc ns σ) (den P cf n sc ns σ)
  | 0, env, sc, ns, σ => fun e w i => .stuck
  | n + 1, env, sc, ns, σ => fun e w i => by
    have ih := den_rf hk hh R Z G C n
    have hev := ih env sc ns σ
    have hst : Stable cx (EnvR cx env sc ns σ) := EnvR.stable
    cases e with
    | Constant c k p => exact const_rf
    | Name x p => exact dName_rf G i
    | BoolOp op vs p => rw [arm_eval_BoolOp]; exact bOp_rf hst hev _ _ _ i
    | BinOp l op r p => exact binop_rf hst hev i
    | UnaryOp op x p => exact unop_rf hev i
    | Compare l ops cs p => exact compare_rf R hst hev i
    | Tuple es k p => exact tuple_lit_rf hst hev i
    | List es p => exact list_lit_rf hst hev i
    | Dict keys vals p => exact dict_lit_rf hst hev i i.fr
    | Subscript o j p => exact sub_rf hst hev i
    | ListComp elt gens scope p =>
      refine dComp_cases (T := fun m => Rf cx A No w (VR cx) m (eval (.ListComp elt gens scope p) env)) .stuck fun x px iter ifs e ok hx => ?_
      subst e
      exact comp_rf hk ok hx hev (fun env' a => ih env' scope (x :: ns) (some a :: σ)) (fun env' a => denT_rf R EnvR.stable (ih env' scope (x :: ns) (some a :: σ)) n) i
    | Call f args kws p =>
      cases kws with
      | nil => exact call_rf hh R Z G C hev i
      | cons _ _ => exact .stuck
    | _ => exact .stuck
end
end Mine


set_option autoImplicit false
set_option linter.unusedVariables false
namespace Mine
open PySem PyProof.Rows PySem.W

structure FrA (cx : Cx) (l : List Env) : Prop where
  adr : ∀ env ∈ l, ∃ a, env.frame = some a ∧ a ∈ cx.fr
  kind : ∀ env ∈ l, env.scope.kind ≠ .module
theorem FrA.tail {cx : Cx} {env : Env} {l : List Env} (F : FrA cx (env :: l)) : FrA cx l := ⟨fun e h => F.adr e (List.mem_cons_of_mem _ h), fun e h => F.kind e (List.mem_cons_of_mem _ h)⟩
def XRt (cx : Cx) (n : Addr → Prop) (w : Wl) (x : Str) (e : Value) : Prop := (∀ b, b ∈ cx.fr → FrAt w b) ∧ ∃ a o vs, XA cx n w x e a o vs ∧ XT n w a vs
theorem XRt.xr {cx : Cx} {n : Addr → Prop} {w : Wl} {x : Str} {e : Value} (h : XRt cx n w x e) : XR cx n w x e := by obtain ⟨h1, a, o, vs, h2, h3⟩ := h; exact ⟨h1, a, o, vs, h2, .inr h3⟩
structure Fly (cx : Cx) (p : Addr → Prop) (w₀ : Wl) (H : AHeap) (x : Str) (e : Value) (w : Wl) : Prop where
  le : Le cx p w₀ w
  S : St cx w H
  X : XR cx (Nw p w₀) w x e
  own : ∀ b, p b → b ∈ w.π
structure FlyT (cx : Cx) (p : Addr → Prop) (w₀ : Wl) (H : AHeap) (x : Str) (e : Value) (w : Wl) : Prop where
  le : Le cx p w₀ w
  S : St cx w H
  X : XRt cx (Nw p w₀) w x e
  own : ∀ b, p b → b ∈ w.π
theorem funFrames_of {cx : Cx} {w : Wl} {hid : List Addr} (hs : ∀ b, b ∈ cx.fr → FrAt w b) (hh : ∀ b, b ∈ cx.fr → b ∈ hid) : ∀ {l : List Env}, FrA cx l → w.s.heap.FunFrames (hideAll w.s.heap hid) l
  | [], _ => trivial
  | env :: l, F => by
    refine byC fun C_ k_ => ?_
    obtain ⟨a, h1, h2⟩ := F.adr env List.mem_cons_self
    obtain ⟨_, o, es, ep, h3, h4⟩ := hs a h2
    refine k_ ?_
    clear k_ C_
    exact ⟨F.kind env List.mem_cons_self, ⟨a, o, h1, hideAll_none _ (hh a h2), h3, fun vs z => by rw [h4] at z; cases z⟩, funFrames_of hs hh F.tail⟩
section
variable {cx : Cx} {A : Around} {p : Addr → Prop} {w w₀ : Wl} {H : AHeap} {x : Str} {e : Value}
theorem FlyT.fly (F : FlyT cx p w₀ H x e w) : Fly cx p w₀ H x e w := ⟨F.le, F.S, F.X.xr, F.own⟩
theorem Fly.post {α : Type} {r : Except Str α} (F : Fly cx p w₀ H x e w) (hr : r = .error x) : PostX cx p w₀ r H e w.s := ⟨w.ι, w.π, x, hr, F.le, F.S, F.X, F.own⟩
theorem fly_world {a T : Addr} {o oe oT : Obj} {vs vs' ts : Array Value} {a0 fl : Value} {hid : List Addr} {h' : Heap} (L : Le cx p w₀ w) (S : St cx w H) (O : ∀ b, p b → b ∈ w.π) (fs : ∀ b, b ∈ cx.fr → FrAt w b) (X : XA cx (Nw p w₀) w x e a o vs) (hid_pv : ∀ b, b ∈ hid → b ∈ w.π ∧ (Nw p w₀ b ∨ b ∈ cx.fr))
    (st : ∀ b q, w.s.heap.get? b = some q → b ∉ hid → h'.get? b = some q) (up : ∀ b q, b ∈ cx.fr → w.s.heap.get? b = some q → ∃ sl, h'.get? b = some { q with slots := sl }) (hTn : w.s.heap.get? T = none)
    (he : h'.get? a = some oe) (hcls : oe.cls = o.cls) (hd : oe.data = .fields vs') (h0 : vs'[0]? = some a0) (h1 : vs'[1]? = some (.ref T)) (h2 : vs'[2]? = some .none) (hT : h'.get? T = some oT) (hdT : oT.data = .fields ts) (h3 : ts[3]? = some fl) :
    ∃ w', w'.s = { w.s with heap := h' } ∧ FlyT cx p w₀ H x e w' := by
  have ne : ∀ {b q}, w.s.heap.get? b = some q → b ≠ T := fun {b q} e z => by rw [z, hTn] at e; cases e
  have stay : ∀ {b q}, w.s.heap.get? b = some q → b ∉ w.π → h'.get? b = some q ∧ b ≠ T := fun {b q} e h => ⟨st b q e fun z => h (hid_pv b z).1, ne e⟩
  have mem : ∀ {b}, b ∈ T :: w.π.filter (fun b => (h'.get? b).isSome) ↔ b = T ∨ (b ∈ w.π ∧ (h'.get? b).isSome = true) := fun {b} => by rw [List.mem_cons, List.mem_filter]
  have out : ∀ {b q}, w.s.heap.get? b = some q → b ∉ w.π → b ∉ T :: w.π.filter (fun b => (h'.get? b).isSome) := fun {b q} e h z => (mem.mp z).elim (ne e) fun y => h y.1
  have up1 : ∀ {b q}, w.s.heap.get? b = some q → ¬ Nw p w₀ b → UpS cx b q (h'.get? b) := fun {b q} e h => by
    by_cases hb : b ∈ hid
    · rcases (hid_pv b hb).2 with z | z
      · exact (h z).elim
      · refine byC fun C_ k_ => ?_
        obtain ⟨_, q', es, ep, z1, z2⟩ := fs b z
        rw [e] at z1; cases z1
        obtain ⟨sl, z3⟩ := up b q z e
        refine k_ ?_
        clear k_ C_
        exact ⟨sl, z3, .inl ⟨z, es, ep, z2⟩⟩
    · exact .of (st b q e hb)
  have old : ∀ {b}, b ∈ w.π → ¬ Nw p w₀ b → b ∈ T :: w.π.filter (fun b => (h'.get? b).isSome) := fun {b} hb h => by
    refine byC fun C_ k_ => ?_
    obtain ⟨q, e⟩ := S.pvx b hb
    obtain ⟨sl, z, _⟩ := up1 e h
    refine k_ ?_
    clear k_ C_
    exact mem.mpr (.inr ⟨hb, by rw [z]; rfl⟩)
  have lv : Lv w ⟨w.ι, T :: w.π.filter (fun b => (h'.get? b).isSome), { w.s with heap := h' }⟩ := ⟨List.prefix_refl _, fun b q e h1 h2 => ⟨(stay e h2).1, h1, out e h2⟩⟩
  have nw : T ∉ w.π := fun z => let ⟨q, e⟩ := S.pvx T z; ne e rfl
  have nT : Nw p w₀ T := ⟨fun z => (Classical.em (p T)).elim (fun y => nw (O T y)) fun y => nw (L.pv T z y), fun y => nw (O T y)⟩
  have hTe : T ≠ a := fun z => ne X.at' z.symm
  refine ⟨_, rfl, ⟨L.toLv.trans lv, fun b hb hp => old (L.pv b hb hp) fun z => z.1 hb, fun b q hb hp e => (L.kp b q hb hp e).trans fun q' e' => up1 e' fun z => z.1 hb⟩,
    ⟨fun b q e => ?_, S.len, S.nodup, fun b hb => ?_, fun b hb => ?_, fun i b q e1 e2 => ?_, S.gens, S.os, S.sysm⟩,
    ⟨fun b hb => ?_, a, oe, vs', ⟨X.ref, mem.mpr (.inr ⟨X.pv, by rw [he]; rfl⟩), X.new, he, hd, ?_, ⟨_, h0⟩, h2⟩, T, oT, ts, fl, h1, List.mem_cons_self, ⟨hTe, nT⟩, hT, hdT, h3⟩, fun b hb => old (O b hb) fun z => z.2 hb⟩
  · obtain ⟨z1, z2, z3⟩ := S.base b q e
    exact ⟨(stay z1 z3).1, z2, out z1 z3⟩
  · obtain ⟨q, e⟩ := S.obj hb
    exact out e (S.dj b hb)
  · rcases mem.mp hb with z | ⟨_, z⟩
    · exact ⟨oT, z ▸ hT⟩
    · exact Option.isSome_iff_exists.mp z
  · exact (S.own i b q e1 e2).keep lv fun q' e' => (stay e' (S.dj b (List.mem_of_getElem? e1))).1
  · refine byC fun C_ k_ => ?_
    obtain ⟨z0, q, es, ep, z1, z2⟩ := fs b hb
    obtain ⟨sl, z3⟩ := up b q hb z1
    refine k_ ?_
    clear k_ C_
    exact ⟨mem.mpr (.inr ⟨z0, by rw [z3]; rfl⟩), _, es, ep, z3, z2⟩
  · obtain ⟨C, c1, c2⟩ := X.cls
    exact ⟨C, hcls.trans c1, c2⟩
theorem entry_wp {M : Model} {s : Shared} {base : Heap} {env : Env} {outer : List Env} {L a : Addr} {oe : Obj} {vs : Array Value} {head : Value} {hadNext : Bool} {Q : Unit → Shared → Prop} {E : Value → Shared → Prop}
    (hfr : A.frames = some (env :: outer)) (hl : s.heap.FunFrames base (env :: outer)) (hf : env.frame = some L) (he : s.heap.get? a = some oe) (hd : oe.data = .fields vs) (hsz : 1 < vs.size)
    (h : ∀ h' T oT ts, s.heap.get? T = none → h'.get? a = some (Obj.mapFields (·.setIfInBounds 1 (.ref T)) oe) → h'.get? T = some oT → oT.data = .fields ts → ts[3]? = some (rawInt L) →
      (∀ b q, b ≠ a → b ∉ (env :: outer).filterMap (·.frame) → s.heap.get? b = some q → h'.get? b = some q) → (∀ b q, b ≠ a → s.heap.get? b = some q → ∃ sl, h'.get? b = some { q with slots := sl }) → Q () { s with heap := h' }) :
    wpAny M A (do let f ← frameOf env; let pl ← entryPlaceOf L hadNext; let b ← EntryCells.newEntry head f .none (rawInt L) .none pl; setField (.ref a) 1 b) Q E s := by
  have hna : a ∉ (env :: outer).filterMap (·.frame) := fun hm => by
    obtain ⟨_, o, ho, hnf⟩ := hl.mem hm
    rw [he] at ho; cases ho; exact hnf vs hd
  refine wpAny_bind (wpAny_frameOf_fun hfr hl hf fun g hg => wpAny_bind (wpAny_entryPlaceOf fun pl hpl => ?_))
  unfold EntryCells.newEntry newFields
  refine wpAny_bind (wpAny_newObj_type ?_ (hpl.sizeOk5 _ _ _ _ _))
  have ga : g.get? a = some oe := (hg.2.1 a hna).trans he
  have size : g.objs.size = s.heap.objs.size := hg.1
  refine wpAny_setField (Heap.get?_push_of_some _ ga) hd hsz ?_
  have far : ∀ {b q}, g.get? b = some q → b ≠ g.objs.size := fun e => Nat.ne_of_lt (Heap.lt_size e)
  refine h _ g.objs.size _ _ (by rw [size]; exact get_size _) (Heap.get?_update_self _ (Heap.get?_push_of_some _ ga) (Obj.isFreed_of_fields (Obj.data_mapFields hd _))) ((Heap.get?_update_other _ _ (far ga)).trans (Heap.get?_push_size g rfl)) rfl ?_ (fun b q hb hf e => ?_) fun b q hb e => ?_
  · first | (simp; done) | (rcases hpl with rfl | ⟨_, _, _, _, _, _, _, rfl⟩ <;> simp)
  · exact (Heap.get?_update_other _ _ (Ne.symm hb)).trans (Heap.get?_push_of_some _ ((hg.2.1 b hf).trans e))
  · obtain ⟨sl, z⟩ := hg.2.2 b q e
    exact ⟨sl, (Heap.get?_update_other _ _ (Ne.symm hb)).trans (Heap.get?_push_of_some _ z)⟩
theorem note_wp {env : Env} {outer : List Env} {Q : Unit → Shared → Prop} {E : Value → Shared → Prop} {M : Model} (hfr : A.frames = some (env :: outer)) (FA : FrA cx (env :: outer)) (F : Fly cx p w₀ H x e w)
    (k : ∀ w', FlyT cx p w₀ H x e w' → Q () w'.s) : wpAny M A (noteFrame e env) Q E w.s := by
  refine byC fun C_ k_ => ?_
  obtain ⟨fs, a, o, vs, XA', hx⟩ := F.X
  obtain ⟨L, hf, hL⟩ := FA.adr env List.mem_cons_self
  obtain ⟨a0, h0⟩ := XA'.zero
  refine k_ ?_
  clear k_ C_
  have fin : ∀ {b}, b ∈ (env :: outer).filterMap (·.frame) → b ∈ cx.fr := fun {b} hb => by
    obtain ⟨v, h1, h2⟩ := List.mem_filterMap.mp hb
    obtain ⟨c, h3, h4⟩ := FA.adr v h1
    rw [h3] at h2; cases h2; exact h4
  have dict_ne : ∀ {b c q ts}, b ∈ cx.fr → w.s.heap.get? c = some q → q.data = .fields ts → b ≠ c := fun {b c q ts} hb h1 h2 z => by
    obtain ⟨_, o', es, ep, z1, z2⟩ := fs b hb
    rw [z, h1] at z1; cases z1; rw [h2] at z2; cases z2
  have d' : ∀ T, (Obj.mapFields (·.setIfInBounds 1 (.ref T)) o).data = .fields (vs.setIfInBounds 1 (.ref T)) := fun T => Obj.data_mapFields XA'.data _
  have g0 : ∀ T : Addr, (vs.setIfInBounds 1 (.ref T))[0]? = some a0 := fun T => by rw [Array.getElem?_setIfInBounds_ne (by decide)]; exact h0
  have g2 : ∀ T : Addr, (vs.setIfInBounds 1 (.ref T))[2]? = some .none := fun T => by rw [Array.getElem?_setIfInBounds_ne (by decide)]; exact XA'.two
  rw [XA'.ref]
  unfold noteFrame
  simp only [hf]
  rcases hx with h1 | ⟨T, oT, ts, fl, h1, hTp, ⟨hTa, hTn⟩, hT, hdT, h3⟩
  · have hsz := (Array.getElem?_eq_some_iff.mp h1).1
    refine wpAny_bind (wpAny_field XA'.at' XA'.data h1 ?_)
    rw [if_neg (by decide)]
    refine entry_wp (base := hideAll w.s.heap cx.fr) hfr (funFrames_of fs (fun b hb => hb) FA) hf XA'.at' XA'.data hsz fun h' T oT ts e1 e2 e3 e4 e5 e6 e7 => ?_
    obtain ⟨w', q1, X'⟩ := fly_world (hid := a :: cx.fr) F.le F.S F.own fs XA' (fun b hb => (List.mem_cons.mp hb).elim (fun z => z ▸ ⟨XA'.pv, .inl XA'.new⟩) fun z => ⟨(fs b z).1, .inr z⟩)
      (fun b q e hn => e6 b q (fun z => hn (z ▸ List.mem_cons_self)) (fun z => hn (List.mem_cons_of_mem _ (fin z))) e) (fun b q hb e => e7 b q (dict_ne hb XA'.at' XA'.data) e) e1 e2 (Obj.cls_mapFields _ _) (d' T) (g0 T) (by simp [hsz]) (g2 T) e3 e4 e5
    rw [← q1]
    exact k w' X'
  · have hsz := (Array.getElem?_eq_some_iff.mp h1).1
    refine wpAny_bind (wpAny_field XA'.at' XA'.data h1 ?_)
    rw [if_pos (show (Value.ref T != Value.none) = true from by simp)]
    refine wpAny_bind (wpAny_field hT hdT h3 ?_)
    by_cases hfl : (fl == rawInt L) = true
    · rw [if_pos hfl]
      exact wpAny_pure (k w ⟨F.le, F.S, ⟨fs, a, o, vs, XA', T, oT, ts, fl, h1, hTp, ⟨hTa, hTn⟩, hT, hdT, h3⟩, F.own⟩)
    · rw [if_neg hfl]
      refine wpAny_bind (wpAny_setField hT hdT (Array.getElem?_eq_some_iff.mp h3).1 ?_)
      have other : ∀ {b q}, b ≠ T → w.s.heap.get? b = some q → (w.s.heap.update T (Obj.mapFields (·.setIfInBounds 3 Value.none))).get? b = some q := fun hb e => (Heap.get?_update_other _ _ (Ne.symm hb)).trans e
      have back : ∀ {b}, (w.s.heap.update T (Obj.mapFields (·.setIfInBounds 3 Value.none))).get? b = none → w.s.heap.get? b = none := fun {b} e => by
        by_cases hb : b = T
        · subst hb
          rw [Heap.get?_update_self _ hT (Obj.isFreed_of_fields (Obj.data_mapFields hdT _))] at e; cases e
        · rw [Heap.get?_update_other _ _ (Ne.symm hb)] at e; exact e
      refine entry_wp (base := hideAll w.s.heap cx.fr) hfr ((funFrames_of fs (fun b hb => hb) FA).of_keeps fun b q hb hnf => ⟨q, other (fun z => by subst z; rw [hT] at hb; cases hb; exact hnf ts hdT) hb, rfl⟩) hf (other (Ne.symm hTa) XA'.at') XA'.data hsz fun h' T' oT' ts' e1 e2 e3 e4 e5 e6 e7 => ?_
      obtain ⟨w', q1, X'⟩ := fly_world (hid := a :: T :: cx.fr) F.le F.S F.own fs XA' (fun b hb => (List.mem_cons.mp hb).elim (fun z => z ▸ ⟨XA'.pv, .inl XA'.new⟩) fun z => (List.mem_cons.mp z).elim (fun z => z ▸ ⟨hTp, .inl hTn⟩) fun z => ⟨(fs b z).1, .inr z⟩)
        (fun b q e hn => e6 b q (fun z => hn (z ▸ List.mem_cons_self)) (fun z => hn (List.mem_cons_of_mem _ (List.mem_cons_of_mem _ (fin z)))) (other (fun z => hn (z ▸ List.mem_cons_of_mem _ List.mem_cons_self)) e)) (fun b q hb e => e7 b q (dict_ne hb XA'.at' XA'.data) (other (dict_ne hb hT hdT) e)) (back e1) e2 (Obj.cls_mapFields _ _) (d' T') (g0 T') (by simp [hsz]) (g2 T') e3 e4 e5
      rw [← q1]
      exact k w' X'
theorem flight_wp {fr : Option Addr} {Q : Unit → Shared → Prop} {E : Value → Shared → Prop} {M : Model} (F : FlyT cx p w₀ H x e w)
    (k : ∀ w', FlyT cx p w₀ H x e w' → Q () w'.s) : wpAny M A (setFlight e fr) Q E w.s := by
  refine byC fun C_ k_ => ?_
  obtain ⟨fs, a, o, vs, XA', T, oT, ts, fl, h1, hTp, ⟨hTa, hTn⟩, hT, hdT, h3⟩ := F.X
  refine k_ ?_
  clear k_ C_
  rw [XA'.ref]
  unfold setFlight
  refine wpAny_bind (wpAny_field XA'.at' XA'.data h1 ?_)
  rw [if_pos (show (Value.ref T != Value.none) = true from by simp)]
  have hsz := (Array.getElem?_eq_some_iff.mp h3).1
  refine wpAny_setField hT hdT hsz ?_
  generalize hv : (fr.elim Value.none fun f => rawInt f) = v
  have hd' := Obj.data_mapFields hdT (·.setIfInBounds 3 v)
  have hT' := Heap.get?_update_self (Obj.mapFields (·.setIfInBounds 3 v)) hT (Obj.isFreed_of_fields hd')
  have other : ∀ b q, b ≠ T → w.s.heap.get? b = some q → (w.s.heap.update T (Obj.mapFields (·.setIfInBounds 3 v))).get? b = some q := fun b q hb e => (Heap.get?_update_other _ _ (Ne.symm hb)).trans e
  obtain ⟨l, S'⟩ := F.S.priv (t := w.s.toks) hTp other ⟨_, hT'⟩
  have nr : ∀ b o es ep, w.s.heap.get? b = some o → o.data = .dict es ep → b ≠ T := fun b o es ep hb hnf q => by
    rw [q, hT] at hb; injection hb with hb; subst hb; rw [hdT] at hnf; cases hnf
  refine k ⟨w.ι, w.π, { w.s with heap := w.s.heap.update T (Obj.mapFields (·.setIfInBounds 3 v)), toks := w.s.toks }⟩ ⟨⟨F.le.toLv.trans l.toLv, F.le.pv, fun b q hb hp e => (F.le.kp b q hb hp e).trans fun q' e' => .of (other b q' (fun z => hTn.1 (z ▸ hb)) e')⟩, S', ⟨fun b hb => ?_, a, o, vs, ⟨XA'.ref, XA'.pv, XA'.new, other a o (Ne.symm hTa) XA'.at', XA'.data, XA'.cls, XA'.zero, XA'.two⟩, T, _, _, v, h1, hTp, ⟨hTa, hTn⟩, hT', hd', by simp [hsz]⟩, F.own⟩
  refine byC fun C_ k_ => ?_
  obtain ⟨q1, q, es, ep, q2, q3⟩ := fs b hb
  refine k_ ?_
  clear k_ C_
  exact ⟨q1, q, es, ep, other b q (nr b q es ep q2 q3) q2, q3⟩
theorem leave_wp {env : Env} {outer : List Env} {Q : Unit → Shared → Prop} {E : Value → Shared → Prop} {M : Model} (hfr : A.frames = some (env :: outer)) (FA : FrA cx (env :: outer)) (F : Fly cx p w₀ H x e w)
    (k : ∀ w', FlyT cx p w₀ H x e w' → Q () w'.s) : wpAny M A (leaving env e) Q E w.s :=
  wpAny_bind (note_wp hfr FA F fun w1 F1 => flight_wp F1 k)
theorem came_wp {env : Env} {E : Value → Shared → Prop} {M : Model} (F : FlyT cx p w₀ H x e w) (k : ∀ w', FlyT cx p w₀ H x e w' → E e w'.s) : cameBackBy M A env E e w.s := by
  refine byC fun C_ k_ => ?_
  obtain ⟨fs, a, o, vs, XA', T, oT, ts, fl, h1, r⟩ := F.X
  refine k_ ?_
  clear k_ C_
  show wpAny M A _ _ _ _
  have hr := XA'.ref
  subst hr
  refine wpAny_bind (wpAny_field XA'.at' XA'.data h1 ?_)
  rw [if_neg (by simp)]
  exact flight_wp F k
theorem noted_wp {env : Env} {outer : List Env} {E : Value → Shared → Prop} {M : Model} (hfr : A.frames = some (env :: outer)) (FA : FrA cx (env :: outer)) (F : Fly cx p w₀ H x e w)
    (k : ∀ w', FlyT cx p w₀ H x e w' → E e w'.s) : notedBy M A env E e w.s := note_wp hfr FA F k
end
end Mine


set_option autoImplicit false
set_option linter.unusedVariables false
namespace Mine
open PySem PyProof.Rows PySem.SeqAt

structure FrS (cx : Cx) (A : Around) (env : Env) (sc : Scope) : Prop where
  scp : env.scope = sc
  ll : ∀ n c, env.cells.lookup n = some c → c ≠ env.locals
  inj : ∀ n n' c, env.cells.lookup n = some c → env.cells.lookup n' = some c → n = n'
  nofree : ∀ x, isLocal sc x = true → sc.names.lookup x = some .local ∨ sc.names.lookup x = some .cell
  nfr : ∀ n c, env.cells.lookup n = some c → c ∉ cx.fr
  fr : ∃ outer, A.frames = some (env :: outer) ∧ FrA cx (env :: outer)
def RL (cx : Cx) (env : Env) (sc : Scope) (ns : List Str) {β : Type} (w : Wl) (σ : Loc) (_ : β) : Prop := EnvR cx env sc ns σ w
section
variable {cx : Cx} {A : Around} {p : Addr → Prop} {w w' : Wl} {H : AHeap} {env : Env} {sc : Scope} {ns : List Str} {σ : Loc} {P : Pg} {cf : Str → List AV → M AV}
theorem idx_get {x : Str} {i : Nat} (h : ns.idxOf? x = some i) : ∃ q : i < ns.length, ns[i] = x := by
  rw [List.idxOf?, List.findIdx?_eq_some_iff_getElem] at h
  exact ⟨h.1, beq_iff_eq.mp h.2.1⟩
set_option tactic.hygienic true in
theorem set_get {x y : Str} {i j : Nat} {a b : AV} (hi : ns.idxOf? x = some i) (h1 : ns.idxOf? y = some j) (h2 : (σ.set i (some a))[j]? = some (some b)) : (y = x ∧ b = a) ∨ (y ≠ x ∧ σ[j]? = some (some b)) := by
  rw [List.getElem?_set] at h2
  split at h2
  · rename_i e
    subst e
    refine byC fun C_ k_ => ?_
    obtain ⟨q1, e1⟩ := idx_get hi
    obtain ⟨q2, e2⟩ := idx_get h1
    refine k_ ?_
    clear k_ C_
    split at h2
    · cases h2; exact .inl ⟨e2.symm.trans e1, rfl⟩
    · cases h2
  · rename_i e
    exact .inr ⟨fun q => by subst q; rw [hi] at h1; cases h1; exact e rfl, h2⟩
theorem storeN_rf {x : Str} {a : AV} {v : Value} (F : FrS cx A env sc) (hx : isLocal sc x = true) (I : EnvR cx env sc ns σ w) (r : VR cx w a v) : Rf cx A (Own env) w (RL cx env sc ns) (setN ns x a σ) (storeName env x v) := by
  unfold setN
  cases hi : ns.idxOf? x with
  | none => exact .stuck
  | some i =>
    have hk : ∀ y, env.kindOf y = sc.names.lookup y := fun y => by rw [← F.scp]; rfl
    refine .leaf fun H S => ?_
    obtain ⟨m, hm, hv⟩ := I.nsm
    rcases F.nofree x hx with hl | hl
    · refine wpAny_storeName_local ((hk x).trans hl) hm (fun h' hn hs => ?_) (by rw [I.k.kind]; rfl)
      obtain ⟨l, S'⟩ := S.priv (t := w.s.toks + 1) I.pl hs.extBut (let ⟨o, _, _, e, _⟩ := hn; ⟨o, e⟩)
      have kc : ∀ {n c u}, env.cells.lookup n = some c → c ∈ w.π → w.s.heap.IsCell c u → h'.IsCell c u := fun h1 h2 h3 => cell_up h3 fun o e => l.kp _ o h2 (F.ll _ _ h1) e
      refine ⟨_, _, _, rfl, l.weak fun b u_ e => .inl e, S', ⟨I.k, I.pl, ⟨_, hn, fun y j b h1 h2 h3 => ?_⟩, fun y j b h1 h2 h3 => ?_, fun y h1 h2 => ?_, I.cls, fun b hb => ?_, I.hd.lv l.toLv⟩⟩
      · rcases set_get hi h1 h2 with ⟨rfl, rfl⟩ | ⟨hne, h4⟩
        · exact ⟨v, if_pos rfl, r.mono l⟩
        · obtain ⟨u, q1, q2⟩ := hv y j b h1 h4 h3
          exact ⟨u, (if_neg hne).trans q1, q2.mono l⟩
      · rcases set_get hi h1 h2 with ⟨rfl, rfl⟩ | ⟨hne, h4⟩
        · rw [hk, hl] at h3; rcases h3 with h3 | h3 <;> cases h3
        · refine byC fun C_ k_ => ?_
          obtain ⟨c, u, q1, q2, q3, q4⟩ := I.cel y j b h1 h4 h3
          refine k_ ?_
          clear k_ C_
          exact ⟨c, u, q1, q2, kc q1 q2 q3, q4.mono l⟩
      · refine byC fun C_ k_ => ?_
        obtain ⟨c, u, q1, q2, q3⟩ := I.has y h1 h2
        refine k_ ?_
        clear k_ C_
        exact ⟨c, u, q1, q2, kc q1 q2 q3⟩
      · by_cases hbl : b = env.locals
        · subst hbl; exact FrAt.ns I.pl hn
        · exact (I.fr b hb).le l hbl
    · refine byC fun C_ k_ => ?_
      obtain ⟨qi, ei⟩ := idx_get hi
      obtain ⟨c, u0, hc, hp, hc0⟩ := I.has x (List.contains_iff_mem.mpr (ei ▸ List.getElem_mem qi)) hl
      refine k_ ?_
      clear k_ C_
      refine wpAny_storeName_cell I.k.kind ((hk x).trans hl) hc hc0 fun h' hcv hs => ?_
      obtain ⟨l, S'⟩ := S.priv (t := w.s.toks) hp hs.extBut (let ⟨o, e, _⟩ := hcv; ⟨o, e⟩)
      have kc : ∀ {n d u}, n ≠ x → env.cells.lookup n = some d → d ∈ w.π → w.s.heap.IsCell d u → h'.IsCell d u := fun h0 h1 h2 h3 => cell_up h3 fun o e => l.kp _ o h2 (fun z => h0 (F.inj _ _ c (z ▸ h1) hc)) e
      refine ⟨_, _, _, rfl, l.weak fun b u_ e => .inr ⟨x, e ▸ hc⟩, S', ⟨I.k, I.pl, ⟨m, UpS.ns hm fun o e => l.kp _ o I.pl (fun z => F.ll _ _ hc z.symm) e, fun y j b h1 h2 h3 => ?_⟩, fun y j b h1 h2 h3 => ?_, fun y h1 h2 => ?_, I.cls, fun b hb => ?_, I.hd.lv l.toLv⟩⟩
      · rcases set_get hi h1 h2 with ⟨rfl, rfl⟩ | ⟨hne, h4⟩
        · rw [hk, hl] at h3; cases h3
        · obtain ⟨u, q1, q2⟩ := hv y j b h1 h4 h3
          exact ⟨u, q1, q2.mono l⟩
      · rcases set_get hi h1 h2 with ⟨rfl, rfl⟩ | ⟨hne, h4⟩
        · exact ⟨c, v, hc, hp, hcv, r.mono l⟩
        · refine byC fun C_ k_ => ?_
          obtain ⟨d, u, q1, q2, q3, q4⟩ := I.cel y j b h1 h4 h3
          refine k_ ?_
          clear k_ C_
          exact ⟨d, u, q1, q2, kc hne q1 q2 q3, q4.mono l⟩
      · by_cases hyx : y = x
        · subst hyx; exact ⟨c, _, hc, hp, hcv⟩
        · refine byC fun C_ k_ => ?_
          obtain ⟨d, u, q1, q2, q3⟩ := I.has y h1 h2
          refine k_ ?_
          clear k_ C_
          exact ⟨d, u, q1, q2, kc hyx q1 q2 q3⟩
      · exact (I.fr b hb).le l fun z => F.nfr _ _ hc (z ▸ hb)
theorem bindN_rf {x : Str} {q : Pos} {a : AV} {v : Value} (F : FrS cx A env sc) (hx : isLocal sc x = true) (I : EnvR cx env sc ns σ w) (r : VR cx w a v) : Rf cx A (Own env) w (RL cx env sc ns) (setN ns x a σ) (assign (.Name x q) env v) := fun H S r' H' h =>
  wpAny_assign_Name (storeN_rf F hx I r H S r' H' h)
theorem setN_ok {x : Str} {a : AV} {H H' : AHeap} {r : Except Str Loc} (h : setN ns x a σ H = some (r, H')) : ∃ σ', r = .ok σ' := by
  unfold setN at h
  cases hi : ns.idxOf? x with
  | none => rw [hi] at h; cases h
  | some i => rw [hi] at h; exact ⟨_, (pure_some h).1⟩
theorem pair_rf {x y : Str} {px py q : Pos} {k : Nat} {v : Value} {a b : AV} (hh : A.handled = none) (F : FrS cx A env sc) (hx : isLocal sc x = true) (hy : isLocal sc y = true) (I : EnvR cx env sc ns σ w) (r : VR cx w (.tup [a, b]) v) :
    Rf cx A (Own env) w (RL cx env sc ns) (do let σ ← setN ns x a σ; setN ns y b σ) (assign (.Tuple [.Name x px, .Name y py] k q) env v) := r.tupE fun ta vs n ht hf hz hs => by
  refine byC fun C_ k_ => ?_
  obtain ⟨v1, us, e1, r1, v2, us2, e2, r2, e3⟩ := hs
  refine k_ ?_
  clear k_ C_
  subst e3; subst e2
  have hvs : vs = #[v1, v2] := by rw [← Array.toList_inj, e1]
  subst hvs
  intro H S r' H' h
  refine wpAny_assign_Tuple (items := #[v1, v2]) hh ⟨_, ht, rfl, n, rfl⟩ rfl rfl fun h' he => ?_
  have hk : ∀ b o, w.s.heap.get? b = some o → h'.get? b = some o := fun b o e => he b o (Nat.ne_of_lt (Heap.lt_size e)) e
  have l : Le cx (Own env) w ⟨w.ι, w.π, { w.s with heap := h', toks := w.s.toks }⟩ := .keeps hk
  have I' := EnvR.stable _ _ I (Le.keeps (w := w) (s' := { w.s with heap := h', toks := w.s.toks }) hk)
  refine assignInOrder_cons (wpAny_mono ((bindN_rf F hx I' (r1.mono l)).run (S.keeps hk) h fun w1 σ1 u_ H1 l1 S1 I1 h1 => ?_) (fun u_ u_ z => z) fun u_ u_ z => z.le l)
  refine assignInOrder_cons (wpAny_mono (bindN_rf F hy I1 (r2.mono (l.trans l1)) H1 S1 _ _ h1) (fun u_ u_ z => assignInOrder_nil (z.le (l.trans l1))) fun u_ u_ z => z.le (l.trans l1))
theorem subA_rf {ev : Expr → M AV} {o i : Expr} {q : Pos} {a : AV} {v : Value} (hev : EvOK cx A env (EnvR cx env sc ns σ) ev) (I : EnvR cx env sc ns σ w) (r : VR cx w a v) :
    Rf cx A (Own env) w (RL cx env sc ns) (do let ov ← ev o; let iv ← ev i; pStore ov iv a; pure σ) (assign (.Subscript o i q) env v) := by
  rw [assign_Subscript]
  exact Rf.no (.bind (.holding (hev o w I)) fun w1 a1 v1 l1 r1 => .bind (.holding (hev i w1 (EnvR.stable _ _ I l1))) fun w2 a2 v2 l2 r2 => .standAt (.bind (.holding (store_rf (r1.mono l2) r2 (r.mono (l1.trans l2)))) fun w3 u_ u_ l3 u_ =>
    .leaf fun H S => wpAny_release' (.here S (EnvR.stable _ _ I ((l1.trans l2).trans l3))))) fun d h => I.own h
theorem assign_rf {ev : Loc → Expr → M AV} {t : Expr} {a : AV} {v : Value} (hh : A.handled = none) (F : FrS cx A env sc) (hev : EvOK cx A env (EnvR cx env sc ns σ) (ev σ)) (I : EnvR cx env sc ns σ w) (r : VR cx w a v) :
    Rf cx A (Own env) w (RL cx env sc ns) (assignTo ev sc ns a σ t) (assign t env v) := by
  cases t with
  | Name x q => exact ite_rf (fun hx => bindN_rf F hx I r) fun u_ => .stuck
  | Subscript o i q =>
    exact subA_rf hev I r
  | Tuple es k q =>
    show Rf cx A (Own env) w _ (match pairN es with | some (x, y) => assignP sc ns a σ x.1 y.1 | none => stuck) _
    cases hp : pairN es with
    | none => exact .stuck
    | some xy =>
      refine byC fun C_ k_ => ?_
      obtain ⟨⟨x, px⟩, y, py⟩ := xy
      refine k_ ?_
      clear k_ C_
      rw [pairN_of hp]
      cases a with
      | tup xs =>
        match xs with
        | [] => exact .stuck
        | [_] => exact .stuck
        | _ :: _ :: _ :: _ => exact .stuck
        | [a, b] => exact ite_rf (fun hxy => by rw [Bool.and_eq_true] at hxy; exact pair_rf hh F hxy.1 hxy.2 I r) fun u_ => .stuck
      | _ => exact .stuck
  | _ => exact .stuck
end
end Mine


set_option autoImplicit false
set_option linter.unusedVariables false
namespace Mine
open PySem PyProof.Rows PySem.SeqAt

def RS (cx : Cx) (env : Env) (sc : Scope) (ns : List Str) (w : Wl) : Res → Flow → Prop
  | .next σ, f => f = .next ∧ EnvR cx env sc ns σ w
  | .ret a, f => ∃ v, f = .ret v ∧ VR cx w a v ∧ (∀ b, Own env b → b ∈ w.π) ∧ (∃ m, w.s.heap.Ns env.locals m) ∧ ∀ x, ns.contains x = true → sc.names.lookup x = some .cell → ∃ c v, env.cells.lookup x = some c ∧ c ∈ w.π ∧ w.s.heap.IsCell c v
def RF (cx : Cx) (env : Env) (sc : Scope) (ns : List Str) (w : Wl) (σ : Loc) (f : Flow) : Prop := f = .next ∧ EnvR cx env sc ns σ w
section
variable {cx : Cx} {A : Around} {p q : Addr → Prop} {w w' w₁ : Wl} {H H' : AHeap} {env : Env} {sc : Scope} {ns : List Str} {σ : Loc} {P : Pg} {cf : Str → List AV → M AV}
def PostT (cx : Cx) (p : Addr → Prop) (w : Wl) {α : Type} (r : Except Str α) (H' : AHeap) (e : Value) (s' : Shared) : Prop :=
  ∃ ι π x, r = .error x ∧ FlyT cx p w H' x e ⟨ι, π, s'⟩
def LoopR (cx : Cx) (p : Addr → Prop) (w : Wl) {α : Type} (R : Wl → α → Flow → Prop) (r : Except Str α) (H' : AHeap) (res : Result) (s' : Shared) : Prop := match res with
  | .ok f => Post cx p w R r H' f s'
  | .error e => PostT cx p w r H' e s'
theorem PostX.noted {α : Type} {r : Except Str α} {e : Value} {s' : Shared} {R : Wl → α → Flow → Prop} (F : FrS cx A env sc) (X : Le cx q w₁ w) (x : PostX cx p w r H' e s') (hp : ∀ d, d ∈ w.π → p d → q d) (hq : ∀ d, q d → p d ∨ d ∈ w.π) :
    notedBy (model cx.prog cx.w) A env (fun e s' => LoopR cx q w₁ R r H' (.error e) s') e s' := by
  refine byC fun C_ k_ => ?_
  obtain ⟨ι, π, x, er, l, S, hx, O⟩ := (x.weak hp hq).le X
  obtain ⟨outer, hf, FA⟩ := F.fr
  refine k_ ?_
  clear k_ C_
  exact noted_wp (w := ⟨ι, π, s'⟩) hf FA ⟨l, S, hx, O⟩ fun w' F' => ⟨w'.ι, w'.π, x, er, F'⟩
theorem LoopR.outO {r : Except Str Res} {f : Flow} {s' : Shared} (x : LoopR cx q w (RS cx env sc ns) r H' (.ok f) s') (hp : ∀ d, d ∈ w.π → q d → p d) : Post cx p w (RS cx env sc ns) r H' f s' := Post.el (R := RS cx env sc ns) (b := f) x fun ι π a e l S z => ⟨ι, π, a, e, l.weak hp, S, z⟩
theorem LoopR.outE {r : Except Str Res} {e : Value} {s' : Shared} (x : LoopR cx q w (RS cx env sc ns) r H' (.error e) s') (hp : ∀ d, d ∈ w.π → q d → p d) (hq : ∀ d, p d → q d ∨ d ∈ w.π) : cameBackBy (model cx.prog cx.w) A env (PostX cx p w r H') e s' :=
  by obtain ⟨ι, π, x, er, F⟩ := x; exact came_wp (w := ⟨ι, π, s'⟩) F fun w' F' => (F'.fly.post er).weak hp hq
theorem next_st {st : Stmt} {rest : List Stmt} {m0 : M Loc} {m : Loc → M Res} (x : Rf cx A (Own env) w (RF cx env sc ns) m0 (exec st env)) (y : ∀ w' σ', EnvR cx env sc ns σ' w' → Rf cx A (Own env) w' (RS cx env sc ns) (m σ') (execs rest env)) :
    Rf cx A (Own env) w (RS cx env sc ns) (m0 >>= m) (execs (st :: rest) env) := by
  rw [arm_execs_cons]
  exact .bind x fun w1 σ' f l r => r.1 ▸ y w1 σ' r.2
theorem goOn_st {st : Stmt} {rest : List Stmt} {m0 : M Res} {m : Loc → M Res} (x : Rf cx A (Own env) w (RS cx env sc ns) m0 (exec st env)) (y : ∀ w' σ', EnvR cx env sc ns σ' w' → Rf cx A (Own env) w' (RS cx env sc ns) (m σ') (execs rest env)) :
    Rf cx A (Own env) w (RS cx env sc ns) (m0 >>= goOn m) (execs (st :: rest) env) := by
  rw [arm_execs_cons]
  refine .bind x fun w1 r f l hr => ?_
  cases r with
  | next σ' => exact hr.1 ▸ y w1 σ' hr.2
  | ret a => obtain ⟨v, e, h⟩ := hr; subst e; exact .pure ⟨v, rfl, h⟩

structure Wkr (cx : Cx) (A : Around) (target : Expr) (it : Value) (src : Src) (q : Addr → Prop) (J : Nat → Wl → Prop) : Prop where
  keep : ∀ p i w w', Le cx p w w' → (∀ b, q b → ¬ p b) → J i w → J i w'
  own : ∀ i w, J i w → ∀ b, q b → b ∈ w.π
  turn : ∀ i w H r H' (K : Shared → Prop) (KK : Value → Shared → Prop) (E : Value → Shared → Prop), J i w → St cx w H → src.get i H = some (.ok r, H') → (∀ w1, r = none → Le cx q w w1 → St cx w1 H' → K w1.s) →
    (∀ w1 a v, r = some a → Le cx q w w1 → St cx w1 H' → VR cx w1 a v → J (i + 1) w1 → KK v w1.s) →
    wpAny (model cx.prog cx.w) A (pyNext it) (fun r s1 => match r with | none => K s1 | some v => wpAny (model cx.prog cx.w) A (letOwnedTupleGo target it v) (fun u_ s2 => KK v s2) E s1) E w.s
def OQ (env : Env) (q : Addr → Prop) : Addr → Prop := fun b => Own env b ∨ q b
theorem for_code {target : Expr} {body : List Stmt} {it : Value} {src : Src} {J : Nat → Wl → Prop} {bm : AV → Loc → M Res} {r : Except Str Res} (F : FrS cx A env sc) (W : Wkr cx A target it src q J) (ho : ∀ b, q b → ¬ OwnF cx env b)
    (hb : ∀ σ w a v H r H', EnvR cx env sc ns σ w → VR cx w a v → St cx w H → bm a σ H = some (r, H') → wpAny (model cx.prog cx.w) A (assign target env v) (fun u_ s2 => wpAny (model cx.prog cx.w) A (execs body env) (Post cx (Own env) w (RS cx env sc ns) r H') (PostX cx (Own env) w r H') s2) (PostX cx (Own env) w r H') w.s)
    (k i : Nat) (S : St cx w H) (X : Le cx (OQ env q) w₁ w) (I : EnvR cx env sc ns σ w) (j : J i w) (h : forLoop src bm k i σ H = some (r, H')) :
    codeAny (model cx.prog cx.w) A (.forLoop target it body [] env) (LoopR cx (OQ env q) w₁ (RS cx env sc ns) r H') w.s := by
  refine codeAny_forLoop_any (fun k s => ∃ w H σ i, w.s = s ∧ St cx w H ∧ Le cx (OQ env q) w₁ w ∧ EnvR cx env sc ns σ w ∧ J i w ∧ forLoop src bm k i σ H = some (r, H')) ?_ k ⟨w, H, σ, i, rfl, S, X, I, j, h⟩
  clear S X I j h
  rintro k s ⟨w, H, σ, i, rfl, S, X, I, j, h⟩
  cases k with
  | zero => cases h
  | succ k =>
    unfold forLoop at h
    refine bind_inv h (fun o H1 h1 h2 => ?_) fun x h1 h2 => by obtain ⟨a, e⟩ := get_ok h1; cases e
    refine W.turn i w H o H1 _ _ _ j S h1 (fun w1 e l S1 => ?_) fun w1 a v e l S1 rv j1 => ?_
    · subst e
      obtain ⟨rfl, rfl⟩ := pure_some h2
      exact wpAny_execs_nil ⟨_, _, _, rfl, X.trans (l.weak fun u_ u_ h => .inr h), S1, rfl, I.mono l fun b h1 h2 => ho b h2 h1⟩
    · subst e
      have X1 := X.trans (l.weak fun u_ u_ h => .inr h)
      have I1 := I.mono l fun b h1 h2 => ho b h2 h1
      refine bind_inv h2 (fun r1 H2 h3 h4 => ?_) fun x h3 h4 => ?_
      · refine wpAny_mono (hb σ w1 a v H1 _ _ I1 rv S1 h3) (fun u_ u_ z => wpAny_mono z (fun f s3 z_ => z_.el fun ι π r2 e l2 S2 hr => ?_) fun u_ u_ z_ => z_.out) fun u_ u_ z_ => z_.out
        cases e
        have X2 := X1.trans (l2.weak fun u_ u_ h => .inl h)
        cases r1 with
        | next σ3 =>
          obtain ⟨e, I3⟩ := hr
          subst e
          exact ⟨k, Nat.lt_succ_self _, _, H2, σ3, i + 1, rfl, S2, X2, I3, W.keep _ _ _ _ l2 (fun b h1 h2 => ho b h1 (.inl h2)) j1, h4⟩
        | ret a =>
          refine byC fun C_ k_ => ?_
          obtain ⟨rfl, rfl⟩ := pure_some h4
          obtain ⟨u, e, z⟩ := hr
          refine k_ ?_
          clear k_ C_
          subst e
          exact ⟨_, _, _, rfl, X2, S2, u, rfl, z⟩
      · subst h4
        exact wpAny_mono (hb σ w1 a v H1 _ _ I1 rv S1 h3) (fun u_ u_ z => wpAny_mono z (fun f u_ z_ => z_.out) fun u_ u_ z => z.noted F X1 (fun u_ u_ h => .inl h) fun d h => h.imp id (W.own _ _ j1 d)) fun u_ u_ z => z.noted F X1 (fun u_ u_ h => .inl h) fun d h => h.imp id (W.own _ _ j1 d)
theorem while_code {test : Expr} {body : List Stmt} {tm : Loc → M Bool} {bm : Loc → M Res} {r : Except Str Res} (F : FrS cx A env sc) (ht : ∀ σ w, EnvR cx env sc ns σ w → Rf cx A No w Rt (tm σ) (isTrue test env (eval test env))) (hb : ∀ σ w, EnvR cx env sc ns σ w → Rf cx A (Own env) w (RS cx env sc ns) (bm σ) (execs body env))
    (k : Nat) (S : St cx w H) (X : Le cx (Own env) w₁ w) (I : EnvR cx env sc ns σ w) (h : whileLoop tm bm k σ H = some (r, H')) :
    codeAny (model cx.prog cx.w) A (.whileLoop test body [] env) (LoopR cx (Own env) w₁ (RS cx env sc ns) r H') w.s := by
  refine codeAny_whileLoop (fun k s => ∃ w H σ, w.s = s ∧ St cx w H ∧ Le cx (Own env) w₁ w ∧ EnvR cx env sc ns σ w ∧ whileLoop tm bm k σ H = some (r, H')) ?_ k ⟨w, H, σ, rfl, S, X, I, h⟩
  clear S X I h
  rintro k s ⟨w, H, σ, rfl, S, X, I, h⟩
  cases k with
  | zero => cases h
  | succ k =>
    unfold whileLoop at h
    refine wpAny_mono ((ht σ w I).run S h fun w1 b c H1 l S1 hc h2 => ?_) (fun u_ u_ z => z) fun u_ u_ z => z.noted F X (fun u_ u_ h => h.elim) fun u_ h => .inr (I.own h)
    rw [← show b = c from hc]
    have I1 := EnvR.stable _ _ I l
    have X1 := X.trans l.no
    cases b with
    | false =>
      obtain ⟨rfl, rfl⟩ := pure_some h2
      exact wpAny_execs_nil ⟨_, _, _, rfl, X1, S1, rfl, I1⟩
    | true =>
      refine wpAny_mono ((hb σ w1 I1).run S1 h2 fun w2 r1 f H2 l2 S2 hr h4 => ?_) (fun u_ u_ z => z) fun u_ u_ z => z.noted F X1 (fun u_ u_ h => h) fun u_ h => .inl h
      have X2 := X1.trans l2
      cases r1 with
      | next σ3 =>
        obtain ⟨e, I3⟩ := hr
        subst e
        exact ⟨k, Nat.lt_succ_self _, _, H2, σ3, rfl, S2, X2, I3, h4⟩
      | ret a =>
        refine byC fun C_ k_ => ?_
        obtain ⟨rfl, rfl⟩ := pure_some h4
        obtain ⟨u, e, z⟩ := hr
        refine k_ ?_
        clear k_ C_
        subst e
        exact ⟨_, _, _, rfl, X2, S2, u, rfl, z⟩
theorem while_rf {test : Expr} {body : List Stmt} {pos : Pos} {tm : Loc → M Bool} {bm : Loc → M Res} (F : FrS cx A env sc) (ht : ∀ σ w, EnvR cx env sc ns σ w → Rf cx A No w Rt (tm σ) (isTrue test env (eval test env))) (hb : ∀ σ w, EnvR cx env sc ns σ w → Rf cx A (Own env) w (RS cx env sc ns) (bm σ) (execs body env)) (I : EnvR cx env sc ns σ w) :
    Rf cx A (Own env) w (RS cx env sc ns) (whileLoop tm bm FUEL σ) (exec (.While test body [] pos) env) := fun H S r H' h =>
  wpAny_While (codeAny_mono (while_code F ht hb FUEL S (.refl _) I h) fun res s' z => by cases res with | ok f => exact z.outO fun u_ u_ h => h | error e => exact z.outE (fun u_ u_ h => h) fun u_ h => .inl h)
theorem drop_wp {e : Expr} {pos : Pos} {v : Value} {Q : Flow → Shared → Prop} {E : Value → Shared → Prop} {s : Shared} (h : Q .next s) : wpAny (model cx.prog cx.w) A (dropValue e pos v) Q E s := wpAny_dropValue h
theorem den_sc {n : Nat} {x : Expr} {g : List Comprehension} {c : Scope} {pos : Pos} : den P cf n sc ns σ (.SetComp x g c pos) = stuck := by cases n <;> rfl
theorem den_dc {n : Nat} {x y : Expr} {g : List Comprehension} {c : Scope} {pos : Pos} : den P cf n sc ns σ (.DictComp x y g c pos) = stuck := by cases n <;> rfl
theorem ex_cases {T : Expr → Prop} (hl : ∀ a b c d, T (.ListComp a b c d)) (hs : ∀ a b c d, T (.SetComp a b c d)) (hd : ∀ a b c d f, T (.DictComp a b c d f))
    (ho : ∀ e, (∀ t l env, swapsWith e t l env = pure false) → (isTupE e = false → ∀ ts k p env, swappedStores [.Tuple ts k p] e env = pure none) → T e) (e : Expr) : T e := by
  cases e with
  | ListComp => exact hl _ _ _ _
  | SetComp => exact hs _ _ _ _
  | DictComp => exact hd _ _ _ _ _
  | Tuple => exact ho _ (fun u_ u_ u_ => rfl) (fun h => nomatch h)
  | _ => exact ho _ (fun u_ u_ u_ => rfl) (fun u_ u_ u_ u_ u_ => rfl)
theorem expr0_rf {n : Nat} {e : Expr} {pos : Pos} {α : Type} {u : α} {R0 : Wl → α → Flow → Prop} (hR : ∀ w', EnvR cx env sc ns σ w' → R0 w' u .next) (hev : EvOK cx A env (EnvR cx env sc ns σ) (den P cf n sc ns σ)) (hn : noComp e = true) (I : EnvR cx env sc ns σ w) :
    Rf cx A No w R0 (do let _ ← den P cf n sc ns σ e; pure u) (exec (.Expr e pos) env) := by
  revert hn
  refine ex_cases (T := fun e => noComp e = true → Rf cx A No w R0 (do let _ ← den P cf n sc ns σ e; pure u) (exec (.Expr e pos) env)) (fun u_ u_ u_ u_ hn => nomatch hn) (fun u_ u_ u_ u_ u_ => by rw [den_sc]; exact .stuck) (fun u_ u_ u_ u_ u_ u_ => by rw [den_dc]; exact .stuck) (fun e hsw u_ u_ => ?_) e
  rw [arm_exec_Expr, show interactive env = false by unfold interactive; rw [I.k.kind]; rfl, hsw]
  refine .standAt (.pureL ?_)
  exact .bind (hev e w I) fun w1 a v l r => .leaf fun H S => drop_wp (.here S (hR _ (EnvR.stable _ _ I l)))
theorem expr_rf {n : Nat} {e : Expr} {pos : Pos} (hev : EvOK cx A env (EnvR cx env sc ns σ) (den P cf n sc ns σ)) (hn : noComp e = true) (I : EnvR cx env sc ns σ w) :
    Rf cx A (Own env) w (RF cx env sc ns) (do let _ ← den P cf n sc ns σ e; pure σ) (exec (.Expr e pos) env) := (expr0_rf (R0 := RF cx env sc ns) (fun w' h => ⟨rfl, h⟩) hev hn I).no fun d h => I.own h
end
end Mine


set_option autoImplicit false
set_option linter.unusedVariables false
namespace Mine
open PySem PyProof.Rows PySem.SeqAt

def LiR (cx : Cx) (w : Wl) (it : Addr) (i : Nat) (l : Addr) : Src → Prop
  | .items xs => ∃ vs n, w.s.heap.IsListIter it l i ∧ IsL w.s.heap l vs n ∧ Fz w l ∧ VRs cx w xs vs.toList
  | .at k => w.s.heap.IsListIter it l i ∧ w.ι[k]? = some l
  | .enum _ => False
section
variable {cx : Cx} {A : Around} {p q : Addr → Prop} {w w' w₁ : Wl} {H H' : AHeap} {env : Env} {sc : Scope} {ns : List Str} {σ : Loc} {P : Pg} {cf : Str → List AV → M AV} {it l en : Addr} {i j : Nat}
theorem LiR.iter : ∀ {src : Src}, LiR cx w it i l src → w.s.heap.IsListIter it l i
  | .items _, ⟨_, _, h, _⟩ => h
  | .at _, h => h.1
theorem LiR.turn (x : Lv w w') (hi : w'.s.heap.IsListIter it l j) : ∀ {src : Src}, LiR cx w it i l src → LiR cx w' it j l src
  | .items _, ⟨vs, n, _, h2, h3, h4⟩ => ⟨vs, n, hi, (x.fz' h2 h3).1, (x.fz' h2 h3).2, h4.lv x⟩
  | .at _, h => ⟨hi, prefix_get x.pre h.2⟩
theorem LiR.get (S : St cx w H) {r : Option AV} : ∀ {src : Src}, LiR cx w it i l src → src.get i H = some (.ok r, H') → H' = H ∧ ∃ vs n xs, IsL w.s.heap l vs n ∧ VRs cx w xs vs.toList ∧ r = xs[i]?
  | .items xs, ⟨vs, n, _, h2, _, h4⟩, h => by
    obtain ⟨e, e2⟩ := pure_some h
    cases e
    exact ⟨e2, vs, n, xs, h2, h4, rfl⟩
  | .at k, ⟨_, hk⟩, h => bind_inv h (fun xs H1 h1 h2 => by
      refine byC fun C_ k_ => ?_
      obtain ⟨e1, c, e2, vs, n, hL, hz, hs⟩ := listAt_rd hk H S _ _ h1
      refine k_ ?_
      clear k_ C_
      cases e2
      obtain ⟨e3, e4⟩ := pure_some h2
      cases e3
      exact ⟨e4.trans e1, vs, n, xs, hL, hs, rfl⟩) fun x h1 h2 => nomatch h2
theorem enum_src {a : AV} {v : Value} (r : VR cx w a v) : Rd cx w (do let _ ← listOf a; srcOf a) fun src => ∃ l, v = .ref l ∧ (∃ vs n, IsL w.s.heap l vs n) ∧ ∀ w' it, Le cx No w w' → w'.s.heap.IsListIter it l 0 → LiR cx w' it 0 l src := by
  cases a with
  | lst xs => exact .bind (K := fun u_ => True) (.pure trivial) fun u_ u_ => r.lstE fun l vs n h1 h2 h3 h4 => .pure ⟨l, rfl, ⟨vs, n, h1⟩, fun w' it q hi => ⟨vs, n, hi, (q.fz' h1 h2).1, (q.fz' h1 h2).2, h4.mono q⟩⟩
  | loc k => exact r.locE fun l h => .bind (listAt_rd h) fun xs ⟨vs, n, hL, _⟩ => .bind (listAt_rd h) fun xs u_ => .pure ⟨l, rfl, ⟨vs, n, hL⟩, fun w' it q hi => ⟨hi, prefix_get q.pre h⟩⟩
  | _ => exact .stuck
theorem name_walk {x : Str} {px : Pos} {src : Src} (hh : A.handled = none) : Wkr cx A (.Name x px) (.ref it) src (fun b => b = it) fun i w => it ∈ w.π ∧ ItR cx w it i src where
  own := fun i w j b e => e ▸ j.1
  keep := fun p i w w' l h j => ⟨l.pv _ j.1 (h it rfl), j.2.mono l j.1 (h it rfl)⟩
  turn := fun i w H r H' K KK E j S h k0 k1 => wpAny_mono (next_rf (.inl hh) (by rw [hh]; exact fun z => nomatch z) j.1 j.2 H S _ _ h) (fun o s1 z_ => z_.el fun ι π a e l S1 hr => by
    cases e
    cases r with
    | none => rw [show o = none from hr]; exact k0 _ rfl l S1
    | some a =>
      refine byC fun C_ k_ => ?_
      obtain ⟨v, e, rv, pI, J⟩ := hr
      refine k_ ?_
      clear k_ C_
      subst e
      exact wpAny_pure (k1 ⟨ι, π, s1⟩ a v rfl l S1 rv ⟨pI, J⟩)) fun u_ u_ z_ => z_.out
structure EnR (cx : Cx) (w : Wl) (en it l : Addr) (i : Nat) (src : Src) : Prop where
  pE : en ∈ w.π
  pI : it ∈ w.π
  N : ∃ old, IsEnum w.s.heap en it i old
  J : LiR cx w it i l src
theorem enum_walk {es : List Expr} {k : Nat} {pt : Pos} {src : Src} (hh : A.handled = none) (hne : en ≠ it) : Wkr cx A (.Tuple es k pt) (.ref en) (.enum src) (fun b => b = en ∨ b = it) fun i w => EnR cx w en it l i src where
  own := fun i w j b e => e.elim (fun e => e ▸ j.pE) fun e => e ▸ j.pI
  keep := fun p i w w' x h j => ⟨x.pv _ j.pE (h en (.inl rfl)), x.pv _ j.pI (h it (.inr rfl)), let ⟨old, e⟩ := j.N; ⟨old, (x.kp _ _ j.pE (h en (.inl rfl)) e).nd fun es ep z => nomatch z⟩, j.J.turn x.toLv (li_up j.J.iter fun o e => x.kp _ o j.pI (h it (.inr rfl)) e)⟩
  turn := fun i w H r H' K KK E j S h k0 k1 => by
    refine bind_inv h (fun o H1 h1 h2 => ?_) fun x h1 h2 => nomatch h2
    obtain ⟨e1, e2⟩ := pure_some h2
    cases e1
    subst e2
    refine byC fun C_ k_ => ?_
    obtain ⟨e3, vs, n, xs, hL, hV, e4⟩ := j.J.get S h1
    subst e3; subst e4
    obtain ⟨old, hN⟩ := j.N
    refine k_ ?_
    clear k_ C_
    cases hx : xs[i]? with
    | none =>
      refine wpAny_pyNext_enum_end hh hN j.J.iter hL.isList (ne_vs hV hx) fun h' hext => ?_
      obtain ⟨l1, S1⟩ := S.drop (t := w.s.toks) j.pI hext
      exact k0 _ (by rw [hx]; rfl) (l1.weak fun b u_ e => .inr e) S1
    | some a =>
      obtain ⟨v, hv, rv⟩ := hV.get hx
      refine wpAny_pyNext_enum_item (x := v) hN j.J.iter hL.isList (by rw [← Array.getElem?_toList]; exact hv) hne fun h' hN' hI' hT hsz hk => ?_
      refine wpAny_letOwnedTupleGo_enum hN' fun h'' hN'' hsb => ?_
      have hTen : w.s.heap.objs.size ≠ en := Ne.symm (Nat.ne_of_lt (Heap.lt_size hN))
      have hI'' : h''.IsListIter it l (i + 1) := hI'.at fun o e => hsb.extBut _ o (Ne.symm hne) e
      obtain ⟨l1, S1⟩ := S.privs (t := w.s.toks + 1) (h' := h'') (p := fun b => b = en ∨ b = it) (fun b e => e.elim (fun e => e ▸ j.pE) fun e => e ▸ j.pI)
        (fun b o q e => hsb.extBut b o (fun z => q (.inl z)) (hk b o (fun z => q (.inl z)) (fun z => q (.inr z)) e)) (fun b e => e.elim (fun e => e ▸ ⟨_, hN''⟩) fun e => e ▸ (let ⟨o, q, _⟩ := hI''; ⟨o, q⟩))
      exact k1 _ (.tup [.int i, a]) _ (by rw [hx]; rfl) l1 S1 (.tup (n := 0) (hsb.extBut _ _ hTen hT) (S.new (get_size _)) (show 2 ≤ LIM by decide) (.cons .int (.cons (rv.mono l1) .nil)))
        ⟨j.pE, j.pI, ⟨v, hN''⟩, j.J.turn l1.toLv hI''⟩
theorem EnvR.new (I : EnvR cx env sc ns σ w) (S : St cx w H) {b : Addr} (hb : w.s.heap.get? b = none) : ¬ OwnF cx env b := fun h => by
  obtain ⟨o, e⟩ := S.pvx b (I.ownF h)
  rw [hb] at e; cases e
theorem St.none (S : St cx w H) {b : Addr} (hb : w.s.heap.get? b = none) : b ∉ w.π := (S.new hb).2
section
variable {ev : Loc → Expr → M AV} {bm : Loc → M Res} {body : List Stmt} (hh : A.handled = none) (F : FrS cx A env sc) (hev : ∀ σ, EvOK cx A env (EnvR cx env sc ns σ) (ev σ)) (hb : ∀ σ w, EnvR cx env sc ns σ w → Rf cx A (Own env) w (RS cx env sc ns) (bm σ) (execs body env))
include hh F hev hb
theorem turn_wp {t : Expr} (σ : Loc) (w : Wl) (a : AV) (v : Value) (H : AHeap) (r : Except Str Res) (H' : AHeap) (I : EnvR cx env sc ns σ w) (rv : VR cx w a v) (S : St cx w H) (h : (do let σ' ← assignTo ev sc ns a σ t; bm σ' : M Res) H = some (r, H')) :
    wpAny (model cx.prog cx.w) A (assign t env v) (fun u_ s2 => wpAny (model cx.prog cx.w) A (execs body env) (Post cx (Own env) w (RS cx env sc ns) r H') (PostX cx (Own env) w r H') s2) (PostX cx (Own env) w r H') w.s :=
  (assign_rf hh F (hev σ) I rv).run S h fun w1 σ1 u_ H1 l S1 I1 h1 => wpAny_mono (hb σ1 w1 I1 H1 S1 r H' h1) (fun u_ u_ z => z.le l) fun u_ u_ z => z.le l
theorem forN_rf {x : Str} {px pos : Pos} {iter : Expr} (hx : exOk iter = true) (I : EnvR cx env sc ns σ w) :
    Rf cx A (Own env) w (RS cx env sc ns) (do let v ← ev σ iter; let src ← srcOf v; forLoop src (fun v σ => do let σ' ← assignTo ev sc ns v σ (.Name x px); bm σ') FUEL 0 σ) (exec (.For (.Name x px) iter body [] pos) env) := fun H S r H' h => by
  refine wpAny_For (wpAny_mono ((hev σ iter w I).run S h fun w1 a v H1 l1 S1 r1 h1 => ?_) (fun u_ u_ z => z) fun u_ u_ z => z.no fun d h => I.own h) fun v => exOk_set hx
  have I1 := EnvR.stable _ _ I l1
  refine wpAny_mono ((iter_rf r1).run S1 h1 fun w2 src itv H2 l2 S2 ⟨it, e, pI, J, hn⟩ h2 => ?_) (fun u_ u_ z => z) fun u_ u_ z => (z.le l1).no fun d h => I.own h
  subst e
  refine codeAny_mono (for_code (w₁ := w) F (name_walk hh) (fun b e => e ▸ I1.new S1 hn) (turn_wp hh F hev hb) FUEL 0 S2 (l1.trans l2).no (EnvR.stable _ _ I1 l2) ⟨pI, J⟩ h2) fun res s' z => ?_
  have hpp : ∀ d, d ∈ w.π → OQ env (fun b => b = it) d → Own env d := fun d hd h => h.elim id fun e => (S1.none hn (e ▸ l1.pv d hd id)).elim
  cases res with
  | ok f => exact z.outO hpp
  | error e => exact z.outE hpp fun u_ h => .inl (.inl h)
theorem forE_rf (G : Good cx P) {f : Str} {fp cp pos pt : Pos} {es : List Expr} {k : Nat} {e : Expr} (hx : exOk e = true) (hf : f = ("enumerate" : Str)) (hg : isGlob sc f = true) (I : EnvR cx env sc ns σ w) :
    Rf cx A (Own env) w (RS cx env sc ns) (do let v ← ev σ e; let _ ← listOf v; let src ← srcOf v; forLoop (.enum src) (fun v σ => do let σ' ← assignTo ev sc ns v σ (.Tuple es k pt); bm σ') FUEL 0 σ) (exec (.For (.Tuple es k pt) (.Call (.Name f fp) [e] [] cp) body [] pos) env) := fun H S r H' h => by
  subst hf
  have htr : backTo cp (starEach [e] env) = [(false, eval e env)] := by rw [exOk_star hx]; rfl
  refine wpAny_For (Call_Name htr (load_bi G S I.k hg (by decide) G.enum ?_))
  refine PyProof.Rows.callWith_type rfl (Calls.evalArgs_plain (Calls.spliced_cons (wpAny_mono ((hev σ e w I).run S h fun w1 a v H1 l1 S1 r1 h1 => Calls.spliced_nil ?_) (fun u_ u_ z => z) fun u_ u_ z => z.no fun d h => I.own h)))
  have I1 := EnvR.stable _ _ I l1
  rw [← bind_assoc] at h1
  refine bind_inv h1 (fun src H2 h2 h3 => ?_) fun x h2 h3 => by obtain ⟨_, c, e, _⟩ := enum_src r1 H1 S1 _ _ h2; cases e
  refine byC fun C_ k_ => ?_
  obtain ⟨e1, c, e2, l, e3, ⟨vs, n, hL⟩, hJ⟩ := enum_src r1 H1 S1 _ _ h2
  refine k_ ?_
  clear k_ C_
  cases e2
  subst e1; subst e3
  show wpAny _ _ (PySem.call (.type "enumerate") [.ref l]) _ _ _
  refine call_enumerate_list hL.isList fun h' hN hI hsz hk => ?_
  have hn1 : w1.s.heap.get? w1.s.heap.objs.size = none := get_size _
  have hn2 : w1.s.heap.get? (w1.s.heap.objs.size + 1) = none := Heap.get?_none_of_le (Nat.le_succ _)
  obtain ⟨l2, S2⟩ := S1.hides (t := w1.s.toks) [w1.s.heap.objs.size + 1, w1.s.heap.objs.size] hk (fun d e => (List.mem_cons.mp e).elim (fun e => e ▸ hn2) fun e => List.mem_singleton.mp e ▸ hn1)
    fun d e => (List.mem_cons.mp e).elim (fun e => e ▸ ⟨_, hN⟩) fun e => List.mem_singleton.mp e ▸ (let ⟨o, q, _⟩ := hI; ⟨o, q⟩)
  have I2 := EnvR.stable _ _ I1 l2
  refine wpAny_pyIter_enum hN (codeAny_mono (for_code (w₁ := w) (q := fun b => b = w1.s.heap.objs.size + 1 ∨ b = w1.s.heap.objs.size) F (enum_walk (l := l) hh (Nat.succ_ne_self _)) (fun b e => e.elim (fun e => e ▸ I1.new S1 hn2) fun e => e ▸ I1.new S1 hn1) (turn_wp hh F hev hb) FUEL 0 S2 (l1.trans l2).no I2
    ⟨List.mem_cons_self, List.mem_cons_of_mem _ List.mem_cons_self, ⟨_, hN⟩, hJ _ _ l2 hI⟩ h3) fun res s' z => ?_)
  have hpp : ∀ d, d ∈ w.π → OQ env (fun b => b = w1.s.heap.objs.size + 1 ∨ b = w1.s.heap.objs.size) d → Own env d := fun d hd h => h.elim id fun e => (e.elim (fun e => S1.none hn2 (e ▸ l1.pv d hd id)) fun e => S1.none hn1 (e ▸ l1.pv d hd id)).elim
  cases res with
  | ok f => exact z.outO hpp
  | error e => exact z.outE hpp fun u_ h => .inl (.inl h)
end
end
end Mine


set_option autoImplicit false
set_option linter.unusedVariables false
namespace Mine
open PySem PyProof.Rows PySem.SeqAt

section
variable {cx : Cx} {A : Around} {p q : Addr → Prop} {w w' w₁ : Wl} {H H' : AHeap} {env : Env} {sc : Scope} {ns : List Str} {σ : Loc} {P : Pg} {cf : Str → List AV → M AV}
theorem swap_rf {elt iter : Expr} {x y : Str} {px pos yp sp : Pos} {ifs : List Expr} {scope : Scope} {mu : Bool} {ei : Expr → M AV} {te : AV → Expr → M Bool} {ev : AV → Expr → M AV}
    (hh : HdA cx A) (F : FrS cx A env sc) (hy : isLocal sc y = true) (ok : CompOK sc ns scope x) (hx : exOk iter = true) (hi : EvOK cx A env (EnvR cx env sc ns σ) ei)
    (hev : ∀ env' a, EvOK cx A env' (EnvR cx env' scope (x :: ns) (some a :: σ)) (ev a)) (hte : ∀ env' a, TeOK cx A env' (EnvR cx env' scope (x :: ns) (some a :: σ)) (te a)) (I : EnvR cx env sc ns σ w) :
    Rf cx A (Own env) w (RF cx env sc ns) (do let a ← (do let iv ← ei iter; let src ← srcOf iv; let ys ← compLoop src (compBody te ev ifs elt) FUEL 0 []; newL mu ys); setN ns y a σ)
      (do standAt sp; evalThenUse (.ListComp elt [⟨.Name x px, iter, ifs, 0⟩] scope pos) env (assign (.Name y yp) env); return .next) := .standAt fun H S r H' h => by
  show wpAny _ A ((do let _ ← comprehension (.ListComp elt [⟨.Name x px, iter, ifs, 0⟩] scope pos) scope env _ (newList []) false (eval iter env) (some (assign (.Name y yp) env))) >>= fun u_ => pure Flow.next) _ _ _
  refine wpAny_bind (wpAny_bind ?_)
  refine bind_inv h (fun a H1 h1 h2 => ?_) fun e h1 h2 => ?_
  · refine wpAny_mono (comp_core (Q := fun u_ s' => Post cx (Own env) w (RF cx env sc ns) r H' .next s') (use := some (assign (.Name y yp) env)) (mu := mu) hh ok hx hi hev hte S I h1 fun D C w' a' e l S' rv I' pC nC oC ⟨m, hN⟩ => ?_) (fun u_ u_ z => wpAny_pure (wpAny_pure z)) fun u_ u_ z_ => z_.out
    cases e
    refine wpAny_mono (bindN_rf F hy I' rv H1 S' _ _ h2) (fun u_ s2 z_ => z_.el fun ι π σ' e l2 S2 I2 => ⟨m, UpS.ns hN fun o e => l2.kp _ o pC (fun z => oC (.inl z)) e, fun h' hs => ?_⟩) fun u_ u_ z_ => z_.el fun u_ u_ u_ e u_ u_ u_ u_ => by (obtain ⟨σ', q⟩ := setN_ok h2; rw [q] at e; cases e)
    obtain ⟨l3, S3⟩ := S2.drop (t := s2.toks) (l2.pv _ pC fun z => oC (.inl z)) hs.extBut
    exact ⟨_, _, σ', e, ((l.no.trans (l2.weak fun b u_ h => .inl h)).trans (l3.weak fun b u_ h => .inr h)).weak (p := fun b => Own env b ∨ b = C) fun b hb h => h.elim id fun e => (nC (e ▸ hb)).elim, S3, rfl, EnvR.mono I2 l3 fun b hb h => oC (h ▸ hb)⟩
  · exact wpAny_mono (comp_core (Q := fun u_ u_ => False) (use := some (assign (.Name y yp) env)) (mu := mu) hh ok hx hi hev hte S I h1 fun D C w' a' e l S' rv I' pC nC oC hN => nomatch e) (fun u_ u_ z => z.elim) fun u_ u_ z_ => z_.el fun ι π x e l S X O => by (subst h2; cases e; exact PostX.no ⟨ι, π, _, rfl, l, S, X, O⟩ fun d h => I.own h)
theorem exec_assign1 {t e : Expr} {pos : Pos} (hs : swapsWith e (some t) pos.line env = pure false) (hw : swappedStores [t] e env = pure none) (ht : (assignEach [t] env).map (·.2) = [assign t env]) :
    exec (.Assign [t] e pos) env = (do standAt pos; let v ← eval e env; assign t env v; pure .next) := by
  rw [arm_exec_Assign]
  show (do standAt pos; if ← swapsWith e (some t) pos.line env then _ else _) = _
  rw [hs]
  simp only [pure_bind, Bool.false_eq_true, if_false, hw]
  rw [ht]
  rfl
theorem EvOK.here {ev : Expr → M AV} {e : Expr} (hev : EvOK cx A env (EnvR cx env sc ns σ) ev) (I : EnvR cx env sc ns σ w) (hq : ∀ d, p d → d ∈ w.π) : Rf cx A p w (fun w' a b => EnvR cx env sc ns σ w' ∧ VR cx w' a b) (ev e) (eval e env) :=
  .no ((hev e w I).mono fun w' a b l r => ⟨EnvR.stable _ _ I l, r⟩) hq
theorem asg_rf {ev : Expr → M AV} {t e : Expr} {pos : Pos} {g : AV → M Loc} (hs : swapsWith e (some t) pos.line env = pure false) (hw : swappedStores [t] e env = pure none) (ht : (assignEach [t] env).map (·.2) = [assign t env])
    (hev : EvOK cx A env (EnvR cx env sc ns σ) ev) (I : EnvR cx env sc ns σ w) (hg : ∀ w1 a v, EnvR cx env sc ns σ w1 → VR cx w1 a v → Rf cx A (Own env) w1 (RL cx env sc ns) (g a) (assign t env v)) :
    Rf cx A (Own env) w (RF cx env sc ns) (ev e >>= g) (exec (.Assign [t] e pos) env) := by
  rw [exec_assign1 hs hw ht]
  exact .standAt (.bind (hev.here I fun d h => I.own h) fun w1 a v l r => .map (hg w1 a v r.1 r.2) fun w2 σ' u_ l2 I2 => .pure ⟨rfl, I2⟩)
section
variable {n : Nat} (hk : HdA cx A) (hh : P.free = true → A.handled = none) (R : Room A) (Z : P.free = true → ZipOK cx A) (G : Good cx P) (C : CallOK cx A P cf) (F : FrS cx A env sc)
include hk hh R Z G C F
theorem asgN_rf {x : Str} {e : Expr} {xp pos : Pos} (hx : isLocal sc x = true) (I : EnvR cx env sc ns σ w) : Rf cx A (Own env) w (RF cx env sc ns) (do let v ← den P cf n sc ns σ e; setN ns x v σ) (exec (.Assign [.Name x xp] e pos) env) := by
  have go : swapsWith e (some (.Name x xp)) pos.line env = pure false → Rf cx A (Own env) w (RF cx env sc ns) (do let v ← den P cf n sc ns σ e; setN ns x v σ) (exec (.Assign [.Name x xp] e pos) env) := fun hs =>
    asg_rf hs rfl rfl (den_rf hk hh R Z G C n env sc ns σ) I fun w1 a v I1 r => bindN_rf F hx I1 r
  refine ex_cases (T := fun e => (swapsWith e (some (.Name x xp)) pos.line env = pure false → Rf cx A (Own env) w (RF cx env sc ns) (do let v ← den P cf n sc ns σ e; setN ns x v σ) (exec (.Assign [.Name x xp] e pos) env)) → Rf cx A (Own env) w (RF cx env sc ns) (do let v ← den P cf n sc ns σ e; setN ns x v σ) (exec (.Assign [.Name x xp] e pos) env)) (fun elt gens scope lp go => ?_) (fun u_ u_ u_ u_ u_ => by rw [den_sc]; exact .stuck) (fun u_ u_ u_ u_ u_ u_ => by rw [den_dc]; exact .stuck) (fun e hsw u_ go => go (hsw _ _ _)) e go
  have hb : ∃ b, swapsWith (.ListComp elt gens scope lp) (some (.Name x xp)) pos.line env = pure b := ⟨_, rfl⟩
  obtain ⟨b, hb⟩ := hb
  cases b with
  | false => exact go hb
  | true =>
    rw [exec_Assign_Name_used _ _ _ _ hb]
    cases n with
    | zero => exact .stuck
    | succ n =>
      refine dComp_cases (T := fun m => Rf cx A (Own env) w (RF cx env sc ns) (m >>= fun v => setN ns x v σ) _) .stuck fun z px iter ifs e ok hz => ?_
      subst e
      have ih := den_rf hk hh R Z G C n
      exact swap_rf hk F hx ok hz (ih env sc ns σ) (fun env' a => ih env' scope (z :: ns) (some a :: σ)) (fun env' a => denT_rf R EnvR.stable (ih env' scope (z :: ns) (some a :: σ)) n) I
omit hk hh R Z G C F in
theorem tg_cases {T : Expr → Prop} (hn : ∀ x p, T (.Name x p)) (hs : ∀ o i p, T (.Subscript o i p)) (ht : ∀ es k p, T (.Tuple es k p)) (ho : ∀ t, (∀ ev sc ns m σ e, bAssign ev sc ns m σ e t = stuck) → T t) (t : Expr) : T t := by
  cases t with
  | Name => exact hn _ _
  | Subscript => exact hs _ _ _
  | Tuple => exact ht _ _ _
  | _ => exact ho _ fun u_ u_ u_ u_ u_ u_ => rfl
theorem bAssign_rf {m : Loc → M Res} {rest : List Stmt} {e t : Expr} {pos : Pos} (hq : (P.free || !isTupE t) = true) (hm : ∀ w' σ', EnvR cx env sc ns σ' w' → Rf cx A (Own env) w' (RS cx env sc ns) (m σ') (execs rest env)) (I : EnvR cx env sc ns σ w) :
    Rf cx A (Own env) w (RS cx env sc ns) (bAssign (den P cf n sc ns σ) sc ns m σ e t) (execs (.Assign [t] e pos :: rest) env) := by
  have hev := den_rf hk hh R Z G C n env sc ns σ
  refine tg_cases (T := fun t => (P.free || !isTupE t) = true → Rf cx A (Own env) w (RS cx env sc ns) (bAssign (den P cf n sc ns σ) sc ns m σ e t) (execs (.Assign [t] e pos :: rest) env)) (fun x xp u_ => ?_) (fun o i tp u_ => ?_) (fun es k tp hq => ?_) (fun t hst u_ => by rw [hst]; exact .stuck) t hq
  · refine ite_rf (fun hx => ?_) fun u_ => .stuck
    have := next_st (m := m) (asgN_rf (n := n) (xp := xp) (pos := pos) (e := e) hk hh R Z G C F hx I) hm
    rwa [bind_assoc] at this
  · have go : ∀ e, swapsWith e (some (.Subscript o i tp)) pos.line env = pure false → Rf cx A (Own env) w (RS cx env sc ns) (bAssign (den P cf n sc ns σ) sc ns m σ e (.Subscript o i tp)) (execs (.Assign [.Subscript o i tp] e pos :: rest) env) := fun e hs => by
      have := next_st (m := m) (asg_rf (e := e) (g := fun a => do let ov ← den P cf n sc ns σ o; let iv ← den P cf n sc ns σ i; pStore ov iv a; pure σ) (pos := pos) hs rfl rfl hev I fun w1 a v I1 r => subA_rf hev I1 r) hm
      simp only [bind_assoc, pure_bind] at this
      exact this
    exact ex_cases (T := fun e => Rf cx A (Own env) w (RS cx env sc ns) (bAssign (den P cf n sc ns σ) sc ns m σ e (.Subscript o i tp)) (execs (.Assign [.Subscript o i tp] e pos :: rest) env)) (fun u_ u_ u_ u_ => go _ rfl) (fun u_ u_ u_ u_ => by show Rf _ _ _ _ _ (den P cf n sc ns σ _ >>= _) _; rw [den_sc]; exact .stuck) (fun u_ u_ u_ u_ u_ => by show Rf _ _ _ _ _ (den P cf n sc ns σ _ >>= _) _; rw [den_dc]; exact .stuck) (fun e hsw u_ => go e (hsw _ _ _)) e
  · show Rf cx A (Own env) w _ (match pairN es with | some (x, y) => _ | none => stuck) _
    cases hp : pairN es with
    | none => exact .stuck
    | some xy =>
      refine byC fun C_ k_ => ?_
      obtain ⟨⟨x, px⟩, y, py⟩ := xy
      refine k_ ?_
      clear k_ C_
      rw [pairN_of hp]
      refine ite_rf (fun u_ => .stuck) fun hc => ?_
      have hc := Bool.eq_false_iff.mpr hc
      rw [Bool.or_eq_false_iff, Bool.or_eq_false_iff, Bool.not_eq_false', Bool.not_eq_false'] at hc
      have go : ∀ e, swapsWith e (some (.Tuple [.Name x px, .Name y py] k tp)) pos.line env = pure false → swappedStores [.Tuple [.Name x px, .Name y py] k tp] e env = pure none → Rf cx A (Own env) w (RS cx env sc ns) (do let v ← den P cf n sc ns σ e; let p ← pairOf v; let σ1 ← setN ns x p.1 σ; let σ2 ← setN ns y p.2 σ1; m σ2) (execs (.Assign [.Tuple [.Name x px, .Name y py] k tp] e pos :: rest) env) := fun e hs hw => by
        have := next_st (m := m) (asg_rf (e := e) (g := fun v => do let p ← pairOf v; let σ1 ← setN ns x p.1 σ; setN ns y p.2 σ1) (pos := pos) hs hw rfl hev I fun w1 a v I1 r => ?_) hm
        · simpa only [bind_assoc] using this
        · unfold pairOf
          split
          · exact .pureR (pair_rf (hh ((Bool.or_eq_true _ _ ▸ hq : P.free = true ∨ _).resolve_right fun z => nomatch z)) F hc.1.2 hc.2 I1 r)
          · exact .stuck
      exact ex_cases (T := fun e => isTupE e = false → Rf cx A (Own env) w (RS cx env sc ns) (do let v ← den P cf n sc ns σ e; let p ← pairOf v; let σ1 ← setN ns x p.1 σ; let σ2 ← setN ns y p.2 σ1; m σ2) (execs (.Assign [.Tuple [.Name x px, .Name y py] k tp] e pos :: rest) env)) (fun u_ u_ u_ u_ u_ => go _ rfl rfl) (fun u_ u_ u_ u_ u_ => by rw [den_sc]; exact .stuck) (fun u_ u_ u_ u_ u_ u_ => by rw [den_dc]; exact .stuck) (fun e hsw hst ht => go e (hsw _ _ _) (hst ht _ _ _ _)) e hc.1.1
end
end
end Mine


set_option autoImplicit false
set_option linter.unusedVariables false
namespace Mine
open PySem PyProof.Rows PySem.SeqAt

section
variable {cx : Cx} {A : Around} {w : Wl} {env : Env} {sc : Scope} {ns : List Str} {σ : Loc} {P : Pg} {cf : Str → List AV → M AV}
set_option tactic.hygienic true in
theorem enumArg_of {it e : Expr} (h : enumArg sc it = some e) : ∃ f fp cp, it = .Call (.Name f fp) [e] [] cp ∧ (f = ("enumerate" : Str) ∧ isGlob sc f = true) ∧ exOk e = true := by
  unfold enumArg at h
  cases hc : callOf it with
  | none => rw [hc] at h; cases h
  | some q =>
    refine byC fun C_ k_ => ?_
    obtain ⟨f, as⟩ := q
    rw [hc] at h
    obtain ⟨fp, p, rfl⟩ := callOf_of hc
    refine k_ ?_
    clear k_ C_
    match as, h with
    | [x], h =>
      have h' : (if (f = ("enumerate" : Str) ∧ isGlob sc f = true) ∧ exOk x = true then some x else none) = some e := h
      split at h'
      · rename_i hf
        cases h'
        exact ⟨f, fp, p, rfl, hf⟩
      · cases h'
    | [], h => cases h
    | _ :: _ :: _, h => cases h
section
variable {n : Nat} (hk : HdA cx A) (hh : A.handled = none) (R : Room A) (Z : ZipOK cx A) (G : Good cx P) (C : CallOK cx A P cf) (F : FrS cx A env sc)
include hk hh R Z G C F
theorem bFor_rf {m bm : Loc → M Res} {rest body : List Stmt} {t it : Expr} {pos : Pos} (hb : ∀ σ w, EnvR cx env sc ns σ w → Rf cx A (Own env) w (RS cx env sc ns) (bm σ) (execs body env)) (hm : ∀ w' σ', EnvR cx env sc ns σ' w' → Rf cx A (Own env) w' (RS cx env sc ns) (m σ') (execs rest env)) (I : EnvR cx env sc ns σ w) :
    Rf cx A (Own env) w (RS cx env sc ns) (bFor (fun σ e => den P cf n sc ns σ e) sc ns bm m σ t it) (execs (.For t it body [] pos :: rest) env) := by
  have hev := fun σ => den_rf hk (fun u_ => hh) R (fun u_ => Z) G C n env sc ns σ
  cases t with
  | Name x px =>
    refine ite_rf (fun hx => ?_) fun u_ => .stuck
    have := goOn_st (m := m) (forN_rf (pos := pos) (x := x) (px := px) hh F hev hb hx I) hm
    simp only [bind_assoc] at this
    exact this
  | Tuple es k pt =>
    show Rf cx A (Own env) w _ (match pairN es with | some (x, y) => _ | none => stuck) _
    cases hp : pairN es with
    | none => exact .stuck
    | some xy =>
      refine byC fun C_ k_ => ?_
      obtain ⟨⟨x, px⟩, y, py⟩ := xy
      refine k_ ?_
      clear k_ C_
      show Rf cx A (Own env) w _ (match enumArg sc it with | some e => _ | none => stuck) _
      cases he : enumArg sc it with
      | none => exact .stuck
      | some e =>
        refine byC fun C_ k_ => ?_
        obtain ⟨f, fp, cp, rfl, hf, hx⟩ := enumArg_of he
        refine k_ ?_
        clear k_ C_
        rw [pairN_of hp]
        have := goOn_st (m := m) (forE_rf (pos := pos) (fp := fp) (cp := cp) (pt := pt) (k := k) (es := [.Name x px, .Name y py]) hh F hev hb G hx hf.1 hf.2 I) hm
        simp only [bind_assoc] at this
        exact this
  | _ => exact .stuck
end
theorem isStrC_of {e : Expr} (h : isStrC e = true) : ∃ c k q, e = .Constant (.str c) k q := by
  cases e with
  | Constant c k q =>
    cases c with
    | str c => exact ⟨c, k, q, rfl⟩
    | _ => exact no_true h
  | _ => exact no_true h
theorem oneStr_of {as : List Expr} (h : oneStr as = true) : ∃ c k q, as = [.Constant (.str c) k q] := by
  cases as with
  | nil => exact no_true h
  | cons e r =>
    cases r with
    | nil => obtain ⟨c, k, q, rfl⟩ := isStrC_of h; exact ⟨c, k, q, rfl⟩
    | cons _ _ => exact no_true h
set_option tactic.hygienic true in
theorem raiseOf_of {e : Option Expr} {x : Str} (h : raiseOf sc P e = some x) : ∃ fp cp c k q, e = some (.Call (.Name x fp) [.Constant (.str c) k q] [] cp) ∧ isGlob sc x = true ∧ (P.cls x).isSome = true ∧ P.free = true := by
  unfold raiseOf at h
  cases e with
  | none => first | exact no_some h | exact no_true h | cases h
  | some e =>
    have h : (match callOf e with | some (x, args) => if oneStr args && isGlob sc x && (P.cls x).isSome && P.free then some x else none | none => none) = some x := h
    cases hc : callOf e with
    | none => rw [hc] at h; cases h
    | some q =>
      refine byC fun C_ k_ => ?_
      obtain ⟨f, as⟩ := q
      rw [hc] at h
      obtain ⟨fp, p, rfl⟩ := callOf_of hc
      refine k_ ?_
      clear k_ C_
      have h : (if (oneStr as && isGlob sc f && (P.cls f).isSome && P.free) = true then some f else none) = some x := h
      split at h
      · rename_i hq
        cases h
        rw [Bool.and_eq_true, Bool.and_eq_true, Bool.and_eq_true] at hq
        refine byC fun C_ k_ => ?_
        obtain ⟨⟨⟨h1, h2⟩, h3⟩, h4⟩ := hq
        obtain ⟨c, k, q, rfl⟩ := oneStr_of h1
        refine k_ ?_
        clear k_ C_
        exact ⟨fp, p, c, k, q, rfl, h2, h3, h4⟩
      · cases h
theorem raise_rf {e c : Option Expr} {p : Pos} {rest : List Stmt} {R' : Wl → Res → Flow → Prop} (hh : P.free = true → A.handled = none) (G : Good cx P) (I : EnvR cx env sc ns σ w) :
    Rf cx A (Own env) w R' (bRaise sc P e c) (execs (.Raise e c p :: rest) env) := by
  unfold bRaise
  cases c with
  | some _ => exact .stuck
  | none =>
    show Rf cx A (Own env) w R' (match raiseOf sc P e with | some x => throwM x | none => stuck) _
    cases hr : raiseOf sc P e with
    | none => exact .stuck
    | some x =>
      refine byC fun C_ k_ => ?_
      obtain ⟨fp, cp, tx, k, tp, rfl, hg, hc, hf⟩ := raiseOf_of hr
      obtain ⟨cs, hc⟩ := Option.isSome_iff_exists.mp hc
      obtain ⟨hd, C, vs, hC, X, _⟩ := G.cls x cs hc
      refine k_ ?_
      clear k_ C_
      intro H S r H' h
      cases h
      rw [arm_execs_cons]
      have kp : ∀ b o, cx.h₀.get? b = some o → w.s.heap.get? b = some o := fun b o e => (S.base b o e).1
      have X' := X.keeps kp
      refine byC fun C_ k_ => ?_
      obtain ⟨N, nm, q, bs, hdct, sn, sub, ab, col, dd, k0, k1, k2, k3, k5, mN, h1, h2, h3, h4⟩ := X'.obj
      refine k_ ?_
      clear k_ C_
      refine wpAny_bind (wpAny_Raise_call_subT F.excBase_ValueError (X'.tail.tail.hasType (by decide)) (hh hf) rfl (h3 _ (by decide)) (load_glob G S I.k hg hd hC ⟨rfl, Calls.evalArgs_plain (Calls.spliced_cons (wpAny_Constant_str (k := k) (pos := tp) (Calls.spliced_nil (⟨rfl, show 1 ≤ sizeLine by decide, h1, h2, X'.tail.tail, fun h' a m => ?_⟩))))⟩))
      refine byC fun C_ k_ => ?_
      obtain ⟨t, m1, m2, m3⟩ := m.there
      obtain ⟨l, S'⟩ := S.hide (t := w.s.toks + 1) m.keeps m.new ⟨_, m1⟩
      refine k_ ?_
      clear k_ C_
      have na : a ∉ w.π := (S.new m.new).2
      exact ⟨w.ι, a :: w.π, x, rfl, l.no, S', ⟨fun b hb => ((I.fr b hb).le l id), a, _, _, ⟨rfl, List.mem_cons_self, ⟨na, fun h => na (I.own h)⟩, m1, rfl, ⟨C, rfl, hC⟩, ⟨_, rfl⟩, rfl⟩, .inl rfl⟩, fun b h => List.mem_cons_of_mem _ (I.own h)⟩
theorem denB_rf (hk : HdA cx A) (hh : P.free = true → A.handled = none) (R : Room A) (Z : P.free = true → ZipOK cx A) (G : Good cx P) (C : CallOK cx A P cf) (F : FrS cx A env sc) : ∀ (n : Nat) (body : List Stmt) (σ : Loc) (w : Wl), EnvR cx env sc ns σ w → Rf cx A (Own env) w (RS cx env sc ns) (denB P cf sc ns n body σ) (execs body env)
  | n, [], σ, w, I => by
    have : denB P cf sc ns n [] σ = pure (.next σ) := by cases n <;> rfl
    rw [this]
    exact .leaf fun H S => wpAny_execs_nil (.here S ⟨rfl, I⟩)
  | 0, _ :: _, σ, w, I => .stuck
  | n + 1, st :: rest, σ, w, I => by
    have ih := denB_rf hk hh R Z G C F n
    have hev := fun σ => den_rf hk hh R Z G C n env sc ns σ
    have hm : ∀ w' σ', EnvR cx env sc ns σ' w' → Rf cx A (Own env) w' (RS cx env sc ns) (denB P cf sc ns n rest σ') (execs rest env) := fun w' σ' I' => ih rest σ' w' I'
    cases st with
    | Pass p =>
      have := next_st (m0 := pure σ) (m := denB P cf sc ns n rest) (st := .Pass p) (.leaf fun H S => wpAny_Pass (.here S ⟨rfl, I⟩)) hm
      rwa [pure_bind] at this
    | Return v p =>
      rw [arm_execs_cons]
      cases v with
      | none => exact .leaf fun H S => wpAny_bind (wpAny_Return_none (wpAny_pure (.here S ⟨_, rfl, .none, fun b h => I.own h, let ⟨m, h, _⟩ := I.nsm; ⟨m, h⟩, I.has⟩)))
      | some e => exact .no (Rf.seqw (k := fun v => pure (.ret v)) (hev σ e w I) (fun w1 a v l r => .pure ⟨v, rfl, r, fun b h => (EnvR.stable _ _ I l).own h, let ⟨m, h, _⟩ := (EnvR.stable _ _ I l).nsm; ⟨m, h⟩, (EnvR.stable _ _ I l).has⟩) fun h => wpAny_bind (wpAny_Return_some h)) fun d h => I.own h
    | Expr e p =>
      refine ite_rf (fun hn => ?_) fun u_ => .stuck
      have := next_st (m := denB P cf sc ns n rest) (expr_rf (pos := p) (hev σ) hn I) hm
      simp only [bind_assoc, pure_bind] at this
      exact this
    | Assign ts e p =>
      match ts with
      | [t] => exact ite_rf (fun hq => bAssign_rf hk hh R Z G C F hq hm I) fun u_ => .stuck
      | [] => exact .stuck
      | _ :: _ :: _ => exact .stuck
    | If t b o p =>
      have : Rf cx A (Own env) w (RS cx env sc ns) (do let c ← denT (den P cf n sc ns σ) n t; match c with | true => denB P cf sc ns n b σ | false => denB P cf sc ns n o σ) (exec (.If t b o p) env) := by
        rw [arm_exec_If]
        refine .standAt (.bind (.no ((denT_rf R EnvR.stable (hev σ) n t w I).mono (R' := fun w' a b => EnvR cx env sc ns σ w' ∧ a = b) fun w' a b l r => ⟨EnvR.stable _ _ I l, r⟩) fun d h => I.own h) fun w1 c c' l r => ?_)
        rw [← r.2]
        cases c with
        | true => exact ih b σ w1 r.1
        | false => exact ih o σ w1 r.1
      have := goOn_st (m := denB P cf sc ns n rest) this hm
      rw [bind_assoc] at this
      refine (congrArg (fun f => Rf cx A (Own env) w (RS cx env sc ns) (denT (den P cf n sc ns σ) n t >>= f) (execs (.If t b o p :: rest) env)) (funext fun c => ?_)).mp this
      cases c <;> rfl
    | For t it b o p =>
      cases o with
      | nil => exact ite_rf (fun hq => bFor_rf hk (hh hq) R (Z hq) G C F (fun σ w I => ih b σ w I) hm I) fun u_ => .stuck
      | cons _ _ => exact .stuck
    | While t b o p =>
      cases o with
      | nil => exact goOn_st (m := denB P cf sc ns n rest) (while_rf F (fun σ w I => denT_rf R EnvR.stable (hev σ) n t w I) (fun σ w I => ih b σ w I) I) hm
      | cons _ _ => exact .stuck
    | Raise e c p => exact raise_rf hh G I
    | _ => exact .stuck
end
end Mine


set_option autoImplicit false
set_option linter.unusedVariables false
namespace Mine
open PySem PyProof.Rows PySem.SeqAt

section
variable {cx : Cx} {w w' : Wl} {H : AHeap} {l : List Addr} {d d' : Option Addr} {P : Pg} {p : Addr → Prop} {L : Addr}
theorem VR.on {a : AV} {v : Value} (h : VR cx w a v) : VR (cx.on l d) w a v := VR.go (.keeps fun u_ u_ e => e) l d h
theorem OR.on {a : Addr} {o : AO} (h : OR cx w a o) : OR (cx.on l d) w a o := OR.go (.keeps fun u_ u_ e => e) l d (fun u_ e => e) h
theorem St.on (S : St cx w H) : St (cx.on l d) w H := ⟨S.base, S.len, S.nodup, S.dj, S.pvx, fun i a o e1 e2 => (S.own i a o e1 e2).on, S.gens, S.os, S.sysm⟩
theorem Good.on (G : Good cx P) : Good (cx.on l d) P := ⟨G.g, G.b, G.nolim, fun x a h => let ⟨v, h1, h2⟩ := G.glob x a h; ⟨v, h1, fun w H S => (h2 w H (St.on (cx := cx.on l d) (l := cx.fr) (d := cx.hd) S)).on⟩, G.bi, G.isi, G.ty, G.zip, G.enum, G.ve, G.cls⟩
theorem Good.off (G : Good cx P) : Good cx P.off := ⟨G.g, G.b, G.nolim, G.glob, G.bi, G.isi, G.ty, G.zip, G.enum, G.ve, G.cls⟩
theorem Le.out (x : Le (cx.on (L :: l) d) p w w') (h : L ∉ w.π) : Le (cx.on l d') p w w' :=
  ⟨x.toLv, x.pv, fun b o hb hp e => let ⟨sl, q, z⟩ := x.kp b o hb hp e; ⟨sl, q, z.imp (fun y => ⟨(List.mem_cons.mp y.1).resolve_left fun (e : b = L) => h (e ▸ hb), y.2⟩) id⟩⟩
theorem XR.out {n : Addr → Prop} {x : Str} {e : Value} (X : XR (cx.on (L :: l) d) n w x e) : XR (cx.on l d') n w x e :=
  by obtain ⟨h1, a, o, vs, h2, h3⟩ := X; exact ⟨fun b hb => h1 b (List.mem_cons_of_mem _ hb), a, o, vs, ⟨h2.ref, h2.pv, h2.new, h2.at', h2.data, h2.cls, h2.zero, h2.two⟩, h3⟩
end
structure FnOK (cx : Cx) (f : Str) (fn : Fn) : Prop where
  nd : (f == ("__debug__" : Str)) = false
  chk : fnChk fn = true
  obj : ∃ fa o pm cd doc params, cx.mg f = some (.ref fa) ∧ cx.h₀.get? fa = some o ∧ o.data = .func (Calls.docDef f params fn.body fn.scope pm cd doc) ∧ cx.h₀.CodeRec cd f ∧
    (∀ vs : List Value, vs.length = fn.params.length → bindArgs (Calls.docDef f params fn.body fn.scope pm cd doc) ⟨vs, []⟩ = pure (fn.params.zip vs))

theorem cellsFrom_acc {x : Str} : ∀ (names : List (Str × NameKind)) (n : Nat) (acc : List (Str × Addr)), (acc.lookup x).isSome = true → ((cellsFrom n names acc).lookup x).isSome = true
  | [], _, _, h => h
  | (y, k) :: r, n, acc, h => by
    unfold cellsFrom
    split
    · refine cellsFrom_acc r (n + 1) _ ?_
      rw [List.lookup_cons]
      cases hb : x == y with
      | true => rfl
      | false => exact h
    · exact cellsFrom_acc r n acc h
theorem cellsFrom_has {x : Str} : ∀ (names : List (Str × NameKind)) (n : Nat) (acc : List (Str × Addr)), names.lookup x = some .cell → ((cellsFrom n names acc).lookup x).isSome = true
  | [], _, _, h => by cases h
  | (y, k) :: r, n, acc, h => by
    rw [List.lookup_cons] at h
    unfold cellsFrom
    cases hb : x == y with
    | true =>
      rw [hb] at h
      cases h
      simp only [beq_self_eq_true, if_true]
      exact cellsFrom_acc r (n + 1) _ (by rw [List.lookup_cons, hb]; rfl)
    | false =>
      rw [hb] at h
      split
      · exact cellsFrom_has r (n + 1) _ h
      · exact cellsFrom_has r n acc h

theorem bindL_other {kd : Str → Option NameKind} {x : Str} : ∀ (b : List (Str × Value)) (m : Str → Option Value), x ∉ b.map (·.1) → bindL kd b m x = m x
  | [], _, _ => rfl
  | (y, v) :: r, m, h => by
    have h1 : x ≠ y := fun q => h (by rw [q]; exact List.mem_cons_self)
    have h2 : x ∉ r.map (·.1) := fun q => h (List.mem_cons_of_mem _ q)
    unfold bindL
    rw [bindL_other r _ h2]
    split
    · simp [h1]
    · rfl
theorem bindL_get {kd : Str → Option NameKind} {x : Str} {v : Value} (hk : kd x = some .local) : ∀ (b : List (Str × Value)) (m : Str → Option Value), (b.map (·.1)).Nodup → (x, v) ∈ b → bindL kd b m x = some v
  | [], _, _, h => by cases h
  | (y, w) :: r, m, hn, h => by
    rw [List.map_cons, List.nodup_cons] at hn
    unfold bindL
    rcases List.mem_cons.mp h with q | q
    · cases q
      rw [bindL_other r _ hn.1, if_pos hk]; simp
    · exact bindL_get hk r _ hn.2 q
theorem bindC_other {kd : Str → Option NameKind} {x : Str} : ∀ (b : List (Str × Value)) (m : Str → Option Value), x ∉ b.map (·.1) → bindC kd b m x = m x
  | [], _, _ => rfl
  | (y, v) :: r, m, h => by
    have h1 : x ≠ y := fun q => h (by rw [q]; exact List.mem_cons_self)
    have h2 : x ∉ r.map (·.1) := fun q => h (List.mem_cons_of_mem _ q)
    unfold bindC
    rw [bindC_other r _ h2]
    split
    · rfl
    · simp [h1]
theorem bindC_get {kd : Str → Option NameKind} {x : Str} {v : Value} (hk : ¬ kd x = some .local) : ∀ (b : List (Str × Value)) (m : Str → Option Value), (b.map (·.1)).Nodup → (x, v) ∈ b → bindC kd b m x = some v
  | [], _, _, h => by cases h
  | (y, w) :: r, m, hn, h => by
    rw [List.map_cons, List.nodup_cons] at hn
    unfold bindC
    rcases List.mem_cons.mp h with q | q
    · cases q
      rw [bindC_other r _ hn.1, if_neg hk]; simp
    · exact bindC_get hk r _ hn.2 q

theorem zip_fst' {xs : List Str} {ys : List Value} (h : xs.length = ys.length) : (xs.zip ys).map (·.1) = xs := List.map_fst_zip (Nat.le_of_eq h)
section
variable {cx : Cx} {A : Around} {w : Wl} {H : AHeap} {P : Pg}
theorem args_at {fn : Fn} {as : List AV} {vs : List Value} {x : Str} {i : Nat} {a : AV} (ht : fn.names.take fn.params.length = fn.params) (hl : as.length = fn.params.length) (r : VRs cx w as vs) (h1 : fn.names.idxOf? x = some i)
    (h2 : (as.map some ++ List.replicate (fn.names.length - as.length) none : Loc)[i]? = some (some a)) : ∃ v, (x, v) ∈ fn.params.zip vs ∧ VR cx w a v := by
  obtain ⟨q1, q2⟩ := idx_get h1
  have hi : i < as.length := by
    rcases Nat.lt_or_ge i as.length with q | q
    · exact q
    · rw [List.getElem?_append_right (by rw [List.length_map]; exact q), List.getElem?_replicate] at h2
      split at h2 <;> cases h2
  rw [List.getElem?_append_left (by rw [List.length_map]; exact hi), List.getElem?_map, Option.map_eq_some_iff] at h2
  obtain ⟨b, ha, e⟩ := h2
  cases e
  obtain ⟨v, hv, rv⟩ := r.get ha
  have hpx : fn.params[i]? = some x := by
    rw [← ht, List.getElem?_take, if_pos (hl ▸ hi), List.getElem?_eq_getElem q1, q2]
  exact ⟨v, List.mem_of_getElem? (List.getElem?_zip_eq_some.mpr ⟨hpx, hv⟩), rv⟩
structure FnC (fn : Fn) : Prop where
  kind : fn.scope.kind = .function
  co : fn.scope.isCoroutine = false
  gen : fn.scope.isGenerator = false
  names : ∀ y k, (y, k) ∈ fn.scope.names → (k = .local ∨ k = .cell) ∨ k = .globalImplicit
  nd : fn.params.Nodup
  take : fn.names.take fn.params.length = fn.params
  ps : ∀ x, x ∈ fn.params → fn.scope.names.lookup x = some .local ∨ fn.scope.names.lookup x = some .cell
theorem fnC {fn : Fn} (h : fnChk fn = true) : FnC fn := by
  unfold fnChk at h
  rw [Bool.and_eq_true, Bool.and_eq_true, Bool.and_eq_true, Bool.and_eq_true, Bool.and_eq_true, Bool.and_eq_true, List.all_eq_true, List.all_eq_true, Bool.not_eq_true', Bool.not_eq_true', beq_iff_eq, beq_iff_eq, decide_eq_true_iff] at h
  refine byC fun C_ k_ => ?_
  obtain ⟨⟨⟨⟨⟨⟨k1, k2⟩, k3⟩, k4⟩, k5⟩, k6⟩, k7⟩ := h
  refine k_ ?_
  clear k_ C_
  refine ⟨k1, k2, k3, fun y k hy => ?_, k5, k6, fun x hx => ?_⟩
  · have := k4 (y, k) hy
    rw [Bool.or_eq_true, Bool.or_eq_true, beq_iff_eq, beq_iff_eq, beq_iff_eq] at this
    exact this
  · have := k7 x hx
    rw [Bool.or_eq_true, beq_iff_eq, beq_iff_eq] at this
    exact this
noncomputable def ownL (env : Env) : List Addr := env.locals :: env.cells.filterMap fun z => env.cells.lookup z.1
theorem mem_ownL {env : Env} {b : Addr} : b ∈ ownL env ↔ Own env b := by
  unfold ownL
  rw [List.mem_cons, List.mem_filterMap]
  exact or_congr_right ⟨fun ⟨z, _, e⟩ => ⟨z.1, e⟩, fun ⟨n, e⟩ => ⟨(n, b), mem_of_lookup e, e⟩⟩
theorem frame_in {fn : Fn} {f : Str} {fa : Addr} {cd : Value} {as : List AV} {vs : List Value} {h₁ : Heap} {tk : Nat} (K : FnC fn) (hlen : as.length = fn.params.length) (r : VRs cx w as vs) (S : St cx w H) (fs : ∀ b, b ∈ cx.fr → FrAt w b) (hw : HdW cx w) {outer : List Env} (hfr : A.frames = some outer) (FA : FrA cx outer)
    (Fr : Fr w.s.heap w.s.heap.objs.size h₁ (bindL (envOfC f fn.scope w.s.heap.objs.size fa cd).kindOf (fn.params.zip vs) fun u_ => none))
    (Cl : Cl w.s.heap.objs.size (cellsFrom (w.s.heap.objs.size + 1) fn.scope.names []) h₁ (bindC (envOfC f fn.scope w.s.heap.objs.size fa cd).kindOf (fn.params.zip vs) fun u_ => none)) :
    FrS (cx.on (w.s.heap.objs.size :: cx.fr) cx.hd) (A.deeper (envOfC f fn.scope w.s.heap.objs.size fa cd)) (envOfC f fn.scope w.s.heap.objs.size fa cd) fn.scope ∧ (∀ b, Own (envOfC f fn.scope w.s.heap.objs.size fa cd) b → b ∉ w.π) ∧ ∃ w', w'.s = { w.s with heap := h₁, toks := tk } ∧ Le (cx.on (w.s.heap.objs.size :: cx.fr) cx.hd) No w w' ∧ St (cx.on (w.s.heap.objs.size :: cx.fr) cx.hd) w' H ∧
      EnvR (cx.on (w.s.heap.objs.size :: cx.fr) cx.hd) (envOfC f fn.scope w.s.heap.objs.size fa cd) fn.scope fn.names (as.map some ++ List.replicate (fn.names.length - as.length) none) w' := by
  have hzf : (fn.params.zip vs).map (·.1) = fn.params := zip_fst' (by rw [← r.length, hlen])
  generalize henv : envOfC f fn.scope w.s.heap.objs.size fa cd = env at Fr Cl ⊢
  have hloc : env.locals = w.s.heap.objs.size := by rw [← henv]; rfl
  have hcs : env.cells = cellsFrom (w.s.heap.objs.size + 1) fn.scope.names [] := by rw [← henv]; rfl
  have hscp : env.scope = fn.scope := by rw [← henv]; rfl
  have hkd : ∀ y, env.kindOf y = fn.scope.names.lookup y := fun y => by rw [← henv]; rfl
  rw [← hcs] at Cl
  rw [← hloc] at Fr Cl
  have new : ∀ b, Own env b → w.s.heap.get? b = none := fun b h => Heap.get?_none_of_le (hloc ▸ h.elim (fun e => Nat.le_of_eq e.symm) fun ⟨n, e⟩ => Nat.le_of_lt (Cl.above n b (mem_of_lookup e)))
  obtain ⟨l, S'⟩ := (S.on (l := w.s.heap.objs.size :: cx.fr) (d := cx.hd)).hides (ownL env) (t := tk) Fr.keep (fun d h => new d (mem_ownL.mp h)) fun d h => (mem_ownL.mp h).elim (fun e => let ⟨o, _, _, q, _⟩ := Fr.ns; ⟨o, e ▸ q⟩) fun ⟨n, e⟩ => let ⟨o, q, _⟩ := Cl.cell n d e; ⟨o, q⟩
  have pv : ∀ {b}, Own env b → b ∈ ownL env ++ w.π := fun h => List.mem_append_left _ (mem_ownL.mpr h)
  have nofree : ∀ x, isLocal fn.scope x = true → fn.scope.names.lookup x = some .local ∨ fn.scope.names.lookup x = some .cell := fun x hx => by
    unfold isLocal at hx
    cases hl : fn.scope.names.lookup x with
    | none => rw [hl] at hx; cases hx
    | some k =>
      rcases K.names _ _ (lookup_mem hl) with (q | q) | q
      · subst q; exact .inl rfl
      · subst q; exact .inr rfl
      · subst q; rw [hl] at hx; cases hx
  have cell : ∀ {x}, fn.scope.names.lookup x = some .cell → ∃ c, env.cells.lookup x = some c := fun hx => by
    rw [hcs]; exact Option.isSome_iff_exists.mp (cellsFrom_has fn.scope.names (w.s.heap.objs.size + 1) [] hx)
  refine ⟨⟨hscp, fun n c hc e => Nat.lt_irrefl _ (e ▸ Cl.above n c (mem_of_lookup hc)), fun n n' c a1 a2 => name_of_addr Cl.apart (mem_of_lookup a1) (mem_of_lookup a2), nofree, fun n c hc z => ?_, ⟨outer, by show A.frames.map (env :: ·) = _; rw [hfr]; rfl, fun e he => ?_, fun e he => ?_⟩⟩, fun b h => S.none (new b h), _, rfl, l, S',
    ⟨⟨by rw [hscp]; exact K.kind, by rw [← henv]; rfl, by rw [← henv]; rfl, fun x hx => (nofree x hx).imp (fun q => (hkd x).trans q) fun q => .inl ((hkd x).trans q), fun x hx => (hkd x).trans hx, fun x hx => ?_⟩, pv (.inl rfl), ⟨_, Fr.ns, fun x i a h1 h2 h3 => ?_⟩, fun x i a h1 h2 h3 => ?_, fun x h1 h2 => ?_, fun n c h => pv (.inr ⟨n, h⟩), fun b hb => ?_, hw.lv l.toLv⟩⟩
  · rcases List.mem_cons.mp z with e | e
    · exact Nat.lt_irrefl _ (hloc ▸ e ▸ Cl.above n c (mem_of_lookup hc))
    · obtain ⟨_, o, _, _, q, _⟩ := fs c e
      rw [new c (.inr ⟨n, hc⟩)] at q; cases q
  · rcases List.mem_cons.mp he with q | q
    · subst q; exact ⟨_, by rw [← henv]; rfl, List.mem_cons_self⟩
    · obtain ⟨a, z1, z2⟩ := FA.adr e q
      exact ⟨a, z1, List.mem_cons_of_mem _ z2⟩
  · rcases List.mem_cons.mp he with q | q
    · subst q; rw [hscp, K.kind]; decide
    · exact FA.kind e q
  · rw [hkd]
    unfold isGlob at hx
    split at hx
    · assumption
    · cases hx
  · obtain ⟨v, m1, m2⟩ := args_at K.take hlen r h1 h2
    exact ⟨v, bindL_get h3 _ _ (by rw [hzf]; exact K.nd) m1, (m2.on).mono l⟩
  · obtain ⟨v, m1, m2⟩ := args_at K.take hlen r h1 h2
    have hnl : ¬ env.kindOf x = some .local := fun q => by rcases h3 with h3 | h3 <;> rw [q] at h3 <;> cases h3
    have hc : fn.scope.names.lookup x = some .cell := by
      rw [hkd] at h3
      rcases h3 with h3 | h3
      · exact h3
      · rcases K.names _ _ (lookup_mem h3) with (q | q) | q <;> cases q
    obtain ⟨c, hc'⟩ := cell hc
    have hcell := Cl.cell x c hc'
    rw [bindC_get hnl _ _ (by rw [hzf]; exact K.nd) m1] at hcell
    exact ⟨c, v, hc', pv (.inr ⟨x, hc'⟩), hcell, (m2.on).mono l⟩
  · obtain ⟨c, hc'⟩ := cell h2
    exact ⟨c, _, hc', pv (.inr ⟨x, hc'⟩), Cl.cell x c hc'⟩
  · rcases List.mem_cons.mp hb with e | e
    · rw [e, ← hloc]; exact FrAt.ns (pv (.inl rfl)) Fr.ns
    · exact (fs b e).le l id
set_option backward.match.sparseCases true in
def flv : Flow → Value
  | .ret v => v
  | _ => .none
def RB (cx : Cx) (w : Wl) (a : AV) (f : Flow) : Prop := VR cx w a (flv f)
section
variable {env : Env} {sc : Scope} {ns : List Str} {σ : Loc} {cf ch : Str → List AV → M AV} {p : Addr → Prop}
theorem tryOf_of {body : List Stmt} {t : TryF} (h : tryOf body = some t) : body = t.st := by
  cases body with
  | nil => first | exact no_some h | exact no_true h | cases h
  | cons s rest =>
    have h : tryS rest s = some t := h
    cases s with
    | Try b hs o f p =>
      match hs, o, f, h with
      | [.ExceptHandler ty nm hb hp], [], [], h =>
        have h : tryH b rest p (.ExceptHandler ty nm hb hp) = some t := h
        cases ty with
        | none => first | exact no_some h | exact no_true h | cases h
        | some e =>
          cases hx : nameOf1 e with
          | none => simp [tryH, hx] at h
          | some x =>
            cases nm with
            | none => simp [tryH, hx] at h
            | some n =>
              cases hb with
              | nil => simp [tryH, hx] at h
              | cons h0 hs =>
                simp [tryH, hx] at h
                subst h
                rw [nameOf1_of hx]
                rfl
      | [], _, _, h => cases h
      | _ :: _ :: _, _, _, h => cases h
      | [_], _ :: _, _, h => cases h
      | [_], [], _ :: _, h => cases h
    | _ => first | exact no_some h | exact no_true h | cases h
theorem EnvR.handled {a : Addr} (I : EnvR cx env sc ns σ w) (h : HdAt w a) : EnvR (cx.on cx.fr (some a)) env sc ns σ w :=
  ⟨I.k, I.pl, let ⟨m, h1, h2⟩ := I.nsm; ⟨m, h1, fun y i b q1 q2 q3 => let ⟨v, r1, r2⟩ := h2 y i b q1 q2 q3; ⟨v, r1, r2.on⟩⟩, fun y i b q1 q2 q3 => let ⟨c, v, r1, r2, r3, r4⟩ := I.cel y i b q1 q2 q3; ⟨c, v, r1, r2, r3, r4.on⟩, I.has, I.cls, I.fr, fun b e => by cases e; exact h⟩
theorem Le.free {d : Option Addr} {w w' : Wl} (x : Le (cx.on cx.fr d) p w w') : Le cx p w w' := ⟨x.toLv, x.pv, x.kp⟩
def RT (cx : Cx) (env : Env) (sc : Scope) (ns : List Str) (σ : Loc) (w : Wl) (_ : Unit) (f : Flow) : Prop := f = .next ∧ EnvR cx env sc ns σ w
theorem next0 {st : Stmt} {rest : List Stmt} {m0 m : M Unit} (x : Rf cx A No w (RT cx env sc ns σ) m0 (exec st env)) (y : ∀ w', EnvR cx env sc ns σ w' → Rf cx A No w' (RT cx env sc ns σ) m (execs rest env)) :
    Rf cx A No w (RT cx env sc ns σ) (m0 >>= fun u_ => m) (execs (st :: rest) env) := by
  rw [arm_execs_cons]
  exact .bind x fun w1 u_ f l r => r.1 ▸ y w1 r.2
theorem tBody_rf (R : Room A) (hev : EvOK cx A env (EnvR cx env sc ns σ) (den P cf EFUEL sc ns σ)) : ∀ (n : Nat) (b : List Stmt) (w : Wl), EnvR cx env sc ns σ w → Rf cx A No w (RT cx env sc ns σ) (tBody (den P cf EFUEL sc ns σ) n b) (execs b env)
  | n, [], w, I => by
    have : tBody (den P cf EFUEL sc ns σ) n [] = pure () := by cases n <;> rfl
    rw [this]
    exact .leaf fun H S => wpAny_execs_nil (.here S ⟨rfl, I⟩)
  | 0, _ :: _, w, I => .stuck
  | n + 1, s :: rest, w, I => by
    have ih := tBody_rf R hev n
    cases s with
    | Expr e p =>
      refine ite_rf (fun hn => ?_) fun u_ => .stuck
      have := next0 (m0 := do let _ ← den P cf EFUEL sc ns σ e; pure ()) (m := tBody (den P cf EFUEL sc ns σ) n rest) (expr0_rf (pos := p) (R0 := RT cx env sc ns σ) (fun w' h => ⟨rfl, h⟩) hev hn I) fun w' I' => ih rest w' I'
      simp only [bind_assoc, pure_bind] at this
      exact this
    | If t b o p =>
      have : Rf cx A No w (RT cx env sc ns σ) (do let c ← denT (den P cf EFUEL sc ns σ) n t; match c with | true => tBody (den P cf EFUEL sc ns σ) n b | false => tBody (den P cf EFUEL sc ns σ) n o) (exec (.If t b o p) env) := by
        rw [arm_exec_If]
        refine .standAt (.bind ((denT_rf R EnvR.stable hev n t w I).mono (R' := fun w' a b => EnvR cx env sc ns σ w' ∧ a = b) fun w' a b l r => ⟨EnvR.stable _ _ I l, r⟩) fun w1 c c' l r => ?_)
        rw [← r.2]
        cases c with
        | true => exact ih b w1 r.1
        | false => exact ih o w1 r.1
      have := next0 (m := tBody (den P cf EFUEL sc ns σ) n rest) this fun w' I' => ih rest w' I'
      rw [bind_assoc] at this
      refine (congrArg (fun f => Rf cx A No w (RT cx env sc ns σ) (denT (den P cf EFUEL sc ns σ) n t >>= f) (execs (.If t b o p :: rest) env)) (funext fun c => ?_)).mp this
      cases c <;> rfl
    | _ => exact .stuck
variable (hk : HdA cx A) (hh : P.free = true → A.handled = none) (R : Room A) (Z : P.free = true → ZipOK cx A) (G : Good cx P) (C : CallOK cx A P cf) (Co : ∀ a, CallOK (cx.on cx.fr (some a)) (A.mark (some (.ref a))) P.off ch) (F : FrS cx A env sc)
include hk hh R Z G C F
theorem rest_rf {body : List Stmt} (I : EnvR cx env sc ns σ w) : Rf cx A (Own env) w (RB cx) (do let r ← denB P cf sc ns EFUEL body σ; resV r) (execs body env) := by
  refine Rf.seqw (k := fun b => pure b) (denB_rf hk hh R Z G C F EFUEL body σ w I) (fun w' r f l hr => ?_) fun h => by have := wpAny_bind h; rwa [bind_pure] at this
  cases r with
  | next σ' => exact .pure (by rw [hr.1]; exact .none)
  | ret a => obtain ⟨v, e, rv, _⟩ := hr; subst e; exact .pure rv
omit hk R Z C in
include Co in
set_option tactic.hygienic true in
theorem hand_wp {t : TryF} {x : Str} {e : Value} {w₀ : Wl} {r : Except Str AV} {H H' : AHeap} {Q : Flow → Shared → Prop} {E : Value → Shared → Prop} (R : Room A) (I₀ : EnvR cx env sc ns σ w₀) (Y : FlyT cx No w₀ H x e w) (h : tryHand P ch sc ns t σ x H = some (r, H'))
    (k : ∀ v s', Post cx (Own env) w₀ (RB cx) r H' (.ret v) s' → Q (.ret v) s') : wpAny (model cx.prog cx.w) A (handleBy e env [.ExceptHandler (some (.Name t.ty t.tp)) (some t.nm) (t.h0 :: t.hs) t.hp]) Q E w.s := by
  refine byC fun C_ k_ => ?_
  unfold tryHand at h
  refine bind_inv h (fun cs H1 h1 h2 => ?_) fun y h1 u_ => by obtain ⟨_, c, e2, _⟩ := Rd.opt (cx := cx) _ Y.S _ _ h1; cases e2
  obtain ⟨e1, c, e2, hcx⟩ := Rd.opt (cx := cx) H Y.S _ _ h1
  cases e2; subst e1
  refine bind_inv h2 (fun ds H2 g1 g2 => ?_) fun y g1 u_ => by obtain ⟨_, c, e2, _⟩ := Rd.opt (cx := cx) _ Y.S _ _ g1; cases e2
  obtain ⟨e1, c, e2, hct⟩ := Rd.opt (cx := cx) _ Y.S _ _ g1
  cases e2; subst e1
  clear h h2
  split at g2
  case isFalse => cases g2
  rename_i hc
  rw [Bool.and_eq_true, Bool.and_eq_true] at hc
  obtain ⟨⟨hm, hg⟩, hl⟩ := hc
  rw [decide_eq_true_iff] at hl
  obtain ⟨hd1, Cx, vx, mgx, Xx, rel⟩ := G.cls x cs hcx
  obtain ⟨hd2, Ct, vt, mgt, Xt, _⟩ := G.cls t.ty ds hct
  obtain ⟨fs, a, o, vs, XA', XT'⟩ := id Y.X
  obtain ⟨C', c1, c2⟩ := XA'.cls
  rw [mgx] at c2; cases c2
  have hr := XA'.ref
  subst hr
  have kp : ∀ b o, cx.h₀.get? b = some o → w.s.heap.get? b = some o := fun b o e => (Y.S.base b o e).1
  have I := I₀.mono Y.le fun u_ u_ z => z
  have hb := (rel t.ty ds Ct hct mgt).trans hm
  refine k_ ?_
  clear k_
  refine wpAny_handleBy_cons (codeAny_handlers_test (load_glob G Y.S I.k hg hd2 mgt (matches_exc (Xx.keeps kp) (Xt.keeps kp) XA'.at' c1 hb ?_))) (by intro q; cases q)
  refine codeAny_handlers_suite_as (flight_wp Y fun w1 Y1 => ?_)
  refine byC fun C_ k_ => ?_
  obtain ⟨fs1, a1, o1, vs1, XB, _⟩ := id Y1.X
  have hr := XB.ref
  cases hr
  obtain ⟨C', c1', c2'⟩ := XB.cls
  obtain ⟨l2, S2⟩ := Y1.S.drop (t := w1.s.toks) XB.pv fun u_ u_ u_ e => e
  have na : a ∉ w₀.π := XB.new.1
  have I2 := (I₀.mono Y1.le fun u_ u_ z => z).mono l2 fun b hb e => na (e ▸ I₀.ownF hb)
  have rv : VR cx ⟨w1.ι, outP w1.π a, { w1.s with heap := w1.s.heap, toks := w1.s.toks }⟩ (.exc x) (.ref a) := ⟨a, o1, C', rfl, XB.at', ⟨fun z => Y1.S.dj _ z XB.pv, fun z => (mem_outP.mp z).2 rfl⟩, c1', c2'⟩
  have F' : FrS (cx.on cx.fr (some a)) (A.mark (some (.ref a))) env sc := ⟨F.scp, F.ll, F.inj, F.nofree, F.nfr, let ⟨outer, h1, h2⟩ := F.fr; ⟨outer, h1, h2.adr, h2.kind⟩⟩
  have hfz : Fz ⟨w1.ι, outP w1.π a, { w1.s with heap := w1.s.heap, toks := w1.s.toks }⟩ a := ⟨fun z => Y1.S.dj _ z XB.pv, fun z => (mem_outP.mp z).2 rfl⟩
  have I2 := I2.handled (a := a) ⟨hfz, o1, vs1, XB.at', XB.data, XB.two⟩
  have rv := rv.on (l := cx.fr) (d := some a)
  have S2 := S2.on (l := cx.fr) (d := some a)
  have hloc : isLocal sc t.nm = true := by unfold isLocal; rw [hl]
  refine k_ ?_
  clear k_
  refine bind_inv g2 (fun σ3 H3 k1 k2 => ?_) fun y k1 u_ => by obtain ⟨σ', q⟩ := setN_ok k1; cases q
  refine wpAny_mono (storeN_rf (cx := cx.on cx.fr (some a)) (A := A.mark (some (.ref a))) F' hloc I2 rv _ S2 _ _ k1) (fun u_ s3 z_ => z_.el fun ι3 π3 σ' e3 l3 S3 I3 => ?_) fun u_ u_ z_ => z_.out
  cases e3
  · refine bind_inv k2 (fun r4 H4 h4 h5 => ?_) fun x h4 u_ => by obtain ⟨a, e, _⟩ := noX_ok h4; cases e
    obtain ⟨r4', e4, h4⟩ := noX_ok h4
    cases e4
    refine wpAny_mono (denB_rf (cx := cx.on cx.fr (some a)) (P := P.off) (A := A.mark (some (.ref a))) rfl (fun z => nomatch z) R (fun z => nomatch z) G.off.on (Co _) F' EFUEL _ _ ⟨ι3, π3, s3⟩ I3 H3 S3 _ _ h4) (fun f s4 z_ => z_.el fun ι4 π4 r5 e5 l4 S4 hr => ?_) fun u_ u_ z_ => z_.out
    cases e5
    cases r4 with
    | next _ => cases h5
    | ret v =>
      obtain ⟨rfl, rfl⟩ := pure_some h5
      obtain ⟨u, e6, ru, hO, ⟨m, hN⟩, hHas⟩ := hr
      subst e6
      have fin : ∀ {d : Addr} {h' : Heap} {tk : Nat}, Own env d → Heap.SameBut d s4.heap h' → (∃ o, h'.get? d = some o) → Q (.ret u) { s4 with heap := h', toks := tk } := fun {d h' tk} hd hs' hx => by
        obtain ⟨l5, S5⟩ := S4.priv (t := tk) (hO _ hd) hs'.extBut hx
        refine k u _ ⟨_, _, v, rfl, ?_, St.on (cx := cx.on cx.fr (some a)) (l := cx.fr) (d := cx.hd) S5, VR.on (cx := cx.on cx.fr (some a)) (l := cx.fr) (d := cx.hd) (ru.mono l5)⟩
        have q1 : Le cx (fun b => Own env b ∨ b = a) w₀ _ := Y1.le.no.trans ((l2.weak fun b u_ h => .inr h).trans ((l3.free.weak fun b u_ h => .inl h).trans ((l4.free.weak fun b u_ h => .inl h).trans (l5.free.weak fun b u_ h => .inl (h ▸ hd)))))
        exact q1.weak fun b hb h => h.elim id fun e => (na (e ▸ hb)).elim
      · have hk : env.kindOf t.nm = some .local := by show env.scope.names.lookup t.nm = _; rw [F.scp]; exact hl
        exact wpAny_nameGoes (s := s4) hk hN (by rw [I.k.kind]; rfl) fun h' m' hN' hs' => fin (.inl rfl) hs' (let ⟨o, _, _, e, _⟩ := hN'; ⟨o, e⟩)
include Co in
theorem body_rf {body : List Stmt} (I : EnvR cx env sc ns σ w) : Rf cx A (Own env) w (RB cx) (bodyRun P cf ch sc ns body σ) (execs body env) := by
  unfold bodyRun
  cases hb : tryOf body with
  | none => exact rest_rf hk hh R Z G C F I
  | some t =>
    rw [tryOf_of hb]
    intro H S r H' h
    have h : tryRun P cf ch sc ns t σ H = some (r, H') := h
    have tb := tBody_rf R (den_rf hk hh R Z G C EFUEL env sc ns σ) EFUEL t.body w I H S
    unfold tryRun at h
    unfold TryF.st
    rw [arm_execs_cons]
    refine wpAny_bind (wpAny_Try_except ?_)
    cases ht : tBody (den P cf EFUEL sc ns σ) EFUEL t.body H with
    | none => rw [ht] at h; cases h
    | some q =>
      obtain ⟨r1, H1⟩ := q
      rw [ht] at h
      cases r1 with
      | ok u =>
        refine wpAny_mono (tb _ _ ht) (fun f s1 z_ => z_.el fun ι π u_ u_ l S1 q_ => ?_) fun u_ u_ z_ => z_.out
        obtain ⟨hf, I1⟩ := q_
        subst hf
        refine wpAny_execs_nil ?_
        exact wpAny_mono (rest_rf hk hh R Z G C F I1 H1 S1 r H' h) (fun u_ u_ z => z.le l.no) fun u_ u_ z => z.le l.no
      | error x =>
        obtain ⟨outer, hfr, FA⟩ := F.fr
        refine wpAny_mono (tb _ _ ht) (fun f s1 z_ => z_.out) fun e s1 z_ => z_.el fun ι π x' er l S1 X1 O1 => ?_
        cases er
        exact note_wp (w := ⟨ι, π, s1⟩) hfr FA ⟨l, S1, X1, O1⟩ fun w2 Y2 => flight_wp Y2 fun w3 Y3 => hand_wp hh G Co F R I Y3 h fun v s' z => wpAny_pure z
end
set_option backward.match.sparseCases true in
theorem callN_rf {cx : Cx} (hZ : ∀ (l : List Addr) (d : Option Addr) (A : Around), A.handled = none → ZipOK (cx.on l d) A) : ∀ (n : Nat) (P : Pg) (A : Around) (l : List Addr) (d : Option Addr) (outer : List Env), A.handled = d.map Value.ref → (∀ f fn, P.fn f = some fn → FnOK cx f fn) → Good cx P → (P.free = true → A.handled = none) → A.frames = some outer → FrA (cx.on l d) outer →
    A.units + 3 * n + 100 < cLine → A.depth + n < recursionLimit → CallOK (cx.on l d) A P (cN n P)
  := by
  intro n
  induction n with
  | zero =>
    intro P A l d outer hk hP G hh hfr FA hu hd f hf
    refine byC fun C_ k_ => ?_
    obtain ⟨fn, hf⟩ := Option.isSome_iff_exists.mp hf
    obtain ⟨nd, chk, fa, o, pm, cd, doc, params, q1, q2, q3, q4, q5⟩ := hP f fn hf
    refine k_ ?_
    clear k_ C_
    exact ⟨nd, fa, o, _, q1, q2, q3, fun w as vs fs hw r => .stuck⟩
  | succ n ih =>
    intro P A l d outer hk hP G hh hfr FA hu hd f hf
    refine byC fun C_ k_ => ?_
    obtain ⟨fn, hf⟩ := Option.isSome_iff_exists.mp hf
    obtain ⟨nd, chk, fa, o, pm, cd, doc, params, q1, q2, q3, q4, q5⟩ := hP f fn hf
    refine k_ ?_
    clear k_ C_
    refine ⟨nd, fa, o, _, q1, q2, q3, fun w as vs fs hw r => ?_⟩
    · unfold cN
      rw [hf]
      refine ite_rf (fun hlen => fun H S r' H' h => ?_) fun u_ => .stuck
      have K := fnC chk
      have hvl : vs.length = fn.params.length := by rw [← r.length]; exact hlen
      have hzf : (fn.params.zip vs).map (·.1) = fn.params := zip_fst' hvl.symm
      have kp : ∀ b o, cx.h₀.get? b = some o → w.s.heap.get? b = some o := fun b o e => (S.base b o e).1
      refine wpAny_call (call_cells (binds := fn.params.zip vs) (Nat.lt_of_le_of_lt (Nat.le_add_right _ _) hd) (kp _ _ q2) q3 (G.nolim.keeps kp) (q4.keeps kp) (q5 vs hvl) (fun z hz => ?_) (fun h₁ tk Fr Cl => ?_) K.co K.gen K.kind)
      · exact (K.ps z.1 (by rw [← hzf]; exact List.mem_map_of_mem hz)).imp id fun q => ⟨q, cellsFrom_has _ _ _ q⟩
      · refine byC fun C_ k_ => ?_
        obtain ⟨F, hO, w1, e1, l1, S1, I1⟩ := frame_in (cx := cx.on l d) (A := A) (tk := tk) K hlen r S fs hw hfr FA Fr Cl
        refine k_ ?_
        clear k_ C_
        rw [← e1]
        obtain ⟨out', hf2, FA2⟩ := F.fr
        have hL : w.s.heap.objs.size ∉ w.π := hO _ (.inl rfl)
        have C' := ih P (A.deeper (envOfC f fn.scope w.s.heap.objs.size fa cd)) (w.s.heap.objs.size :: l) d _ hk hP G hh hf2 FA2 (by show A.units + 3 + 3 * n + 100 < cLine; (first | lia | omega)) (by show A.depth + 1 + n < recursionLimit; (first | lia | omega))
        have Co : ∀ e : Addr, CallOK (cx.on (w.s.heap.objs.size :: l) (some e)) ((A.deeper (envOfC f fn.scope w.s.heap.objs.size fa cd)).mark (some (.ref e))) P.off (cN n P.off) := fun e => ih P.off ((A.deeper (envOfC f fn.scope w.s.heap.objs.size fa cd)).mark (some (.ref e))) (w.s.heap.objs.size :: l) (some e) _ rfl hP G.off (fun z => nomatch z) hf2 ⟨FA2.adr, FA2.kind⟩ (by show A.units + 3 + 3 * n + 100 < cLine; (first | lia | omega)) (by show A.depth + 1 + n < recursionLimit; (first | lia | omega))
        have R' : Room (A.deeper (envOfC f fn.scope w.s.heap.objs.size fa cd)) := by unfold Room; show A.units + 3 + 100 < cLine; (first | lia | omega)
        refine wpAny_mono (body_rf (cx := cx.on (w.s.heap.objs.size :: l) d) (A := A.deeper _) hk hh R' (fun z => hZ _ _ _ (hh z)) G.on C' Co F I1 H S1 r' H' h) (fun fl s' z_ => z_.el fun ι π a e l2 S2 rv => ?_) fun e s' z_ => z_.el fun ι π x er l2 S2 X O => ?_
        · exact ⟨ι, π, a, e, (((l1.no.trans l2).weak fun b hb h => hO b h hb :) : Le (cx.on (w.s.heap.objs.size :: l) d) No w _).out hL, S2.on (l := l) (d := d), rv.on (l := l) (d := d)⟩
        · exact leave_wp (w := ⟨ι, π, s'⟩) (w₀ := w) (p := No) hf2 FA2 ⟨(l1.no.trans l2).weak fun b hb h => hO b h hb, S2, X.mono fun b z => ⟨fun y => z.1 (l1.pv b y id), id⟩, fun u_ z => z.elim⟩ fun w' F' => ⟨w'.ι, w'.π, x, er, F'.le.out hL, F'.S.on (l := l) (d := d), F'.X.xr.out, fun u_ z => z.elim⟩
end
theorem lookup_zip {ps : List Str} {vs : List Value} {x : Str} (hl : ps.length ≤ vs.length) (hx : x ∈ ps) : ((ps.zip vs).lookup x).isSome = true := by
  induction ps generalizing vs with
  | nil => first | exact no_some hx | exact no_true hx | cases hx
  | cons p ps ih =>
    cases vs with
    | nil => simp at hl
    | cons v vs =>
      rw [List.zip_cons_cons, List.lookup_cons]
      cases hb : x == p with
      | true => rfl
      | false =>
        rcases List.mem_cons.mp hx with q | q
        · rw [q] at hb; simp at hb
        · exact ih (by simpa using hl) q
theorem fm_congr {α β : Type} {f g : α → Option β} : ∀ {l : List α}, (∀ x ∈ l, f x = g x) → l.filterMap f = l.filterMap g
  | [], _ => rfl
  | x :: r, h => by rw [List.filterMap_cons, List.filterMap_cons, h x List.mem_cons_self, fm_congr fun y hy => h y (List.mem_cons_of_mem _ hy)]
theorem binds_zip {ps : List Str} {vs : List Value} (hl : ps.length = vs.length) (hn : ps.Nodup) : (ps.filterMap fun n => ((ps.zip vs).lookup n).map (n, ·)) = ps.zip vs := by
  induction ps generalizing vs with
  | nil => rfl
  | cons p ps ih =>
    cases vs with
    | nil => simp at hl
    | cons v vs =>
      rw [List.nodup_cons] at hn
      rw [List.zip_cons_cons, List.filterMap_cons]
      simp only [List.lookup_cons, beq_self_eq_true, Option.map_some]
      congr 1
      refine (fm_congr fun n hm => ?_).trans (ih (by simpa using hl) hn.2)
      have hne : (n == p) = false := by
        cases hb : n == p with
        | false => rfl
        | true => exact absurd (beq_iff_eq.mp hb ▸ hm) hn.1
      rw [hne]

theorem bindArgs_plain {name : Str} {params : Arguments} {body : List Stmt} {scope : Scope} {pm cd doc : Value} {ps : List Str} {vs : List Value} (h1 : params.posonlyargs = []) (h2 : params.args.map (·.arg) = ps) (h3 : params.vararg = none) (h4 : params.kwonlyargs = []) (h5 : params.kwarg = none)
    (hn : ps.Nodup) (hl : vs.length = ps.length) : bindArgs (Calls.docDef name params body scope pm cd doc) ⟨vs, []⟩ = pure (ps.zip vs) := by
  unfold bindArgs
  have hm : (List.filter (fun n => ((ps.zip vs).lookup n).isNone) ps).isEmpty = true := by
    rw [List.isEmpty_iff, List.filter_eq_nil_iff]
    intro x hx q
    have := lookup_zip (vs := vs) (by (first | lia | omega)) hx
    cases hz : (ps.zip vs).lookup x with
    | none => rw [hz] at this; cases this
    | some v => rw [hz] at q; cases q
  have hs : seqItems? Value.none = pure none := rfl
  simp only [Calls.docDef, h1, h2, h3, h4, h5, List.map_nil, List.nil_append, List.forIn_nil, pure_bind, hs, Option.getD_none, Array.toList_empty, List.length_nil, Nat.zero_sub, List.drop_nil, Nat.sub_zero, List.take_length, List.drop_length, List.zip_nil_left, hl, Nat.lt_irrefl, gt_iff_lt, decide_false, Bool.false_and, Bool.false_eq_true, if_false, hm, Bool.not_true, List.isEmpty_nil, List.append_nil]
  rw [binds_zip (by (first | lia | omega)) hn]
end Mine


set_option autoImplicit false
set_option linter.unusedVariables false
set_option maxRecDepth 100000
namespace Mine
open PySem PyProof.Rows

inductive SIt (h : Heap) (it a : Addr) (xs : Array Value) (i : Nat) : Prop
  | list : h.IsListIter it a i → h.IsList a xs → SIt h it a xs i
  | tup : h.IsTupleIter it a i → h.IsTuple a xs → SIt h it a xs i
theorem SIt.keep {h h' : Heap} {it a : Addr} {xs : Array Value} {i : Nat} (x : SIt h it a xs i) (h1 : ∀ o, h.get? it = some o → h'.get? it = some o) (h2 : ∀ o, h.get? a = some o → h'.get? a = some o) : SIt h' it a xs i := by
  cases x with
  | list p q => exact .list (p.at h1) (q.at h2)
  | tup p q =>
    obtain ⟨o, e, r⟩ := p
    obtain ⟨o', e', r'⟩ := q
    exact .tup ⟨o, h1 o e, r⟩ ⟨o', h2 o' e', r'⟩
theorem SIt.lt {h : Heap} {it a : Addr} {xs : Array Value} {i : Nat} (x : SIt h it a xs i) : it < h.objs.size ∧ a < h.objs.size := by
  cases x with
  | list p q => obtain ⟨o, e, _⟩ := p; obtain ⟨o', e', _⟩ := q; exact ⟨Heap.lt_size e, Heap.lt_size e'⟩
  | tup p q => obtain ⟨o, e, _⟩ := p; obtain ⟨o', e', _⟩ := q; exact ⟨Heap.lt_size e, Heap.lt_size e'⟩

section
variable {prog : Program} {w : World} {A : Around} {E : Value → Shared → Prop} {s : Shared}

theorem nextOf_tuple_item {it t : Addr} {i : Nat} {items : Array Value} {x : Value} {Q : Value → Shared → Prop} (hit : s.heap.IsTupleIter it t i) (ht : s.heap.IsTuple t items) (hx : items[i]? = some x)
    (hQ : ∀ h', h'.IsTupleIter it t (i + 1) → Heap.SameBut it s.heap h' → Q x { s with heap := h' }) : wpAny (model prog w) A (Builtin.SmallTypes.nextOf (.ref it)) Q E s := by
  obtain ⟨o, ho, hc, hd⟩ := id hit
  obtain ⟨ol, hol, _, nl, hdl⟩ := ht
  unfold Builtin.SmallTypes.nextOf
  refine wpAny_bind (wpAny_callSpecial?_slot (name := Str.ofString "__next__") hit.typeIs F.slot_tuple_iterator_next (wpAny_call_entry F.slot_tuple_iterator_next hit.typeIs F.entry_tuple_iterator_next ?_ (F.args_tuple_iterator_next_1 _)))
  show wpAny _ _ (field (.ref it) 0 >>= _) _ _ s
  refine wpAny_bind (wpAny_field ho hd (x := .ref t) rfl ?_)
  show wpAny _ _ (if (Value.ref t == Value.none) = true then _ else _) _ _ s
  rw [if_neg (show ¬ ((Value.ref t == Value.none) = true) from Bool.false_ne_true)]
  show wpAny _ _ (field (.ref it) 1 >>= _) _ _ s
  refine wpAny_bind (wpAny_field ho hd (x := .int i 0) rfl ?_)
  show wpAny _ _ (seqItems? (.ref t) >>= _) _ _ s
  refine wpAny_bind (wpAny_seqItems hol hdl ?_)
  simp only [Int.toNat_natCast, hx]
  refine wpAny_bind (wpAny_setField ho hd (by simp) (wpAny_pure ⟨x, rfl, wpAny_pure (hQ _ ?_ (Heap.SameBut.update ..))⟩))
  exact ⟨_, Heap.get?_update_self _ ho (Obj.isFreed_of_fields (Obj.data_mapFields hd _)), (Obj.cls_mapFields ..).trans hc, by rw [Obj.data_mapFields hd]; simp [rawInt]⟩

theorem nextOf_tuple_end {it t : Addr} {i : Nat} {items : Array Value} {Q : Value → Shared → Prop} (hh : A.handled = none) (hit : s.heap.IsTupleIter it t i) (ht : s.heap.IsTuple t items) (hx : items[i]? = none)
    (hE : ∀ h' e, Heap.ExtBut it s.heap h' → (∃ o, h'.get? e = some o ∧ o.cls = .type "StopIteration") → E (.ref e) { s with heap := h' }) : wpAny (model prog w) A (Builtin.SmallTypes.nextOf (.ref it)) Q E s := by
  obtain ⟨o, ho, hc, hd⟩ := id hit
  obtain ⟨ol, hol, _, nl, hdl⟩ := ht
  unfold Builtin.SmallTypes.nextOf
  refine wpAny_bind (wpAny_callSpecial?_slot (name := Str.ofString "__next__") hit.typeIs F.slot_tuple_iterator_next (wpAny_call_entry F.slot_tuple_iterator_next hit.typeIs F.entry_tuple_iterator_next ?_ (F.args_tuple_iterator_next_1 _)))
  show wpAny _ _ (field (.ref it) 0 >>= _) _ _ s
  refine wpAny_bind (wpAny_field ho hd (x := .ref t) rfl ?_)
  show wpAny _ _ (if (Value.ref t == Value.none) = true then _ else _) _ _ s
  rw [if_neg (show ¬ ((Value.ref t == Value.none) = true) from Bool.false_ne_true)]
  show wpAny _ _ (field (.ref it) 1 >>= _) _ _ s
  refine wpAny_bind (wpAny_field ho hd (x := .int i 0) rfl ?_)
  show wpAny _ _ (seqItems? (.ref t) >>= _) _ _ s
  refine wpAny_bind (wpAny_seqItems hol hdl ?_)
  simp only [Int.toNat_natCast, hx]
  refine wpAny_bind (wpAny_rule (wpAny_bind (wpAny_setField ho hd (by simp) ?_)))
  show wpAny _ _ (newExc (.type "StopIteration") [] >>= _) _ _ _
  refine wpAny_bind ?_
  simp only [newExc, newTuple]
  refine wpAny_bind (wpAny_newObj_type ?_ (by size_fits))
  refine wpAny_bind (m := firstArgMember _ _) (wpAny_of_eq (a := Value.none) (by first | rfl | (simp only [firstArgMember]; rfl)) ?_)
  refine wpAny_newObj_type ?_ (by size_fits)
  simp only [raiseNew]
  refine wpAny_bind (wpAny_handled ?_)
  first | rw [show A.in1.handled = none from hh] | rw [hh]
  refine wpAny_bind (wpAny_pure (wpAny_throw ?_))
  exact hE _ _ (((Heap.SameBut.update ..).extBut.push _).push _) ⟨_, Heap.get?_push_size _ rfl, rfl⟩

theorem nextOf_item {it a : Addr} {xs : Array Value} {i : Nat} {x : Value} {Q : Value → Shared → Prop} (hit : SIt s.heap it a xs i) (hne : a ≠ it) (hx : xs[i]? = some x)
    (hQ : ∀ h', SIt h' it a xs (i + 1) → Heap.SameBut it s.heap h' → Q x { s with heap := h' }) : wpAny (model prog w) A (Builtin.SmallTypes.nextOf (.ref it)) Q E s := by
  cases hit with
  | list p q => exact wpAny_nextOf_list_item p q hx fun h' p' hs => hQ h' (.list p' (q.extBut hs.extBut hne)) hs
  | tup p q => exact nextOf_tuple_item p q hx fun h' p' hs => hQ h' (.tup p' (q.extBut hs.extBut hne)) hs
theorem nextOf_end {it a : Addr} {xs : Array Value} {i : Nat} {Q : Value → Shared → Prop} (hh : A.handled = none) (hit : SIt s.heap it a xs i) (hx : xs[i]? = none)
    (hE : ∀ h' e, Heap.ExtBut it s.heap h' → (∃ o, h'.get? e = some o ∧ o.cls = .type "StopIteration") → E (.ref e) { s with heap := h' }) : wpAny (model prog w) A (Builtin.SmallTypes.nextOf (.ref it)) Q E s := by
  cases hit with
  | list p q => exact wpAny_nextOf_list_end hh p q hx hE
  | tup p q => exact nextOf_tuple_end hh p q hx hE

abbrev IsZ (h : Heap) (z TI TO : Addr) (f0 f1 : Value) : Prop :=
  h.get? z = some { cls := .type "zip", dict := none, data := .fields #[f0, f1, .bool false, .ref TI, .ref TO], slots := #[] }
structure ZA (z TI TO i1 i2 a1 a2 : Addr) : Prop where
  TIz : TI ≠ z
  TOz : TO ≠ z
  i1z : i1 ≠ z
  i2z : i2 ≠ z
  TITO : TI ≠ TO
  TIi1 : TI ≠ i1
  TIi2 : TI ≠ i2
  TOi1 : TO ≠ i1
  TOi2 : TO ≠ i2
  i12 : i1 ≠ i2
  a1z : a1 ≠ z
  a1TO : a1 ≠ TO
  a1i1 : a1 ≠ i1
  a1i2 : a1 ≠ i2
  a2z : a2 ≠ z
  a2TO : a2 ≠ TO
  a2i1 : a2 ≠ i1
  a2i2 : a2 ≠ i2
end
end Mine


set_option autoImplicit false
set_option linter.unusedVariables false
set_option maxRecDepth 100000
namespace Mine
open PySem PyProof.Rows
section
variable {prog : Program} {w : World} {A : Around} {E : Value → Shared → Prop} {s : Shared}

theorem wpAny_alive {M : Model} {a : Addr} {Q : Option Obj → Shared → Prop} (h : Q (s.heap.get? a) s) : wpAny M A (loadIfAlive a) Q E s := fun Γ p u_ => by
  unfold loadIfAlive
  rw [Sem.wp_loadIfAlive]
  exact (Sem.wp_pure ..).mpr h

theorem zipB_item {z TI TO i1 i2 a1 a2 T : Addr} {k : Nat} {xs ys : Array Value} {x y f1 : Value} {o : Obj} {Q : Value → Shared → Prop} (D : ZA z TI TO i1 i2 a1 a2)
    (hz : IsZ s.heap z TI TO (rawInt T) f1) (hf : f1 = .bool false ∨ f1 = .bool true) (hT : s.heap.get? T = some o) (hTI : IsPair s.heap TI (.ref i1) (.ref i2))
    (h1 : SIt s.heap i1 a1 xs k) (h2 : SIt s.heap i2 a2 ys k) (hx : xs[k]? = some x) (hy : ys[k]? = some y)
    (hQ : ∀ h', IsZ h' z TI TO (rawInt T) (.bool true) → SIt h' i1 a1 xs (k + 1) → SIt h' i2 a2 ys (k + 1) → IsPair h' s.heap.objs.size x y →
      (∀ c o, c ≠ z → c ≠ i1 → c ≠ i2 → s.heap.get? c = some o → h'.get? c = some o) → Q (.ref s.heap.objs.size) { s with heap := h' }) :
    wpAny (model prog w) A (Builtin.«zip.__next__» ⟨[.ref z], []⟩) (fun fin s' => ∃ v, fin = .done (.ret v) ∧ Q v s') E s := by
  show wpAny _ _ (field (.ref z) 2 >>= _) _ _ _
  refine wpAny_bind (wpAny_field hz rfl (x := .bool false) rfl ?_)
  show wpAny _ _ (field (.ref z) 3 >>= _) _ _ _
  refine wpAny_bind (wpAny_field hz rfl (x := .ref TI) rfl ?_)
  refine wpAny_bind (wpAny_seqItems hTI rfl ?_)
  show wpAny _ _ (Builtin.SmallTypes.ownedTupleIsFree (.ref z) >>= _) _ _ _
  refine wpAny_bind ?_
  have free : ∀ Q' : Bool → Shared → Prop, (∀ h', IsZ h' z TI TO (rawInt T) (.bool true) → Heap.SameBut z s.heap h' → Q' false { s with heap := h' }) → wpAny (model prog w) A (Builtin.SmallTypes.ownedTupleIsFree (.ref z)) Q' E s := by
    intro Q' hq
    unfold Builtin.SmallTypes.ownedTupleIsFree
    refine wpAny_bind (wpAny_field hz rfl (x := rawInt T) rfl ?_)
    show wpAny _ _ (loadIfAlive ((T : Int)).toNat >>= _) _ _ _
    rw [Int.toNat_natCast]
    refine wpAny_bind (wpAny_alive ?_)
    rw [hT]
    show wpAny _ _ (field (.ref z) 1 >>= _) _ _ _
    refine wpAny_bind (wpAny_field hz rfl (x := f1) rfl ?_)
    rcases hf with rfl | rfl
    · show wpAny _ _ (setField (.ref z) 1 (.bool true) >>= _) _ _ _
      refine wpAny_bind (wpAny_setField_rec hz (by simp) fun h' hz' hs' => wpAny_pure (hq h' hz' hs'))
    · refine wpAny_pure (hq s.heap hz ⟨rfl, fun u_ u_ => rfl⟩)
  refine free _ fun h₁ hz₁ hs₁ => ?_
  simp only [Bool.false_eq_true, if_false]
  rw [← Array.forIn_toList]
  simp only [List.forIn_cons, List.forIn_nil]
  refine wpAny_bind (wpAny_bind (wpAny_bind (wpAny_holding ?_)))
  show wpAny _ _ (Builtin.SmallTypes.nextOf (.ref i1) >>= _) _ _ _
  refine wpAny_bind (nextOf_item (h1.keep (fun o e => hs₁.extBut _ _ D.i1z e) (fun o e => hs₁.extBut _ _ D.a1z e)) D.a1i1 hx fun h₂ h1₂ hs₂ => wpAny_pure ?_)
  refine wpAny_pure ?_
  refine wpAny_bind (wpAny_bind (wpAny_holding ?_))
  show wpAny _ _ (Builtin.SmallTypes.nextOf (.ref i2) >>= _) _ _ _
  have h2₂ : SIt h₂ i2 a2 ys k := (h2.keep (fun o e => hs₁.extBut _ _ D.i2z e) (fun o e => hs₁.extBut _ _ D.a2z e)).keep (fun o e => hs₂.extBut _ _ D.i12.symm e) (fun o e => hs₂.extBut _ _ D.a2i1 e)
  refine wpAny_bind (nextOf_item h2₂ D.a2i2 hy fun h₃ h2₃ hs₃ => wpAny_pure ?_)
  refine wpAny_pure ?_
  refine wpAny_pure ?_
  refine wpAny_bind (wpAny_newTuple (hsz := by show 2 ≤ sizeLine; decide) ?_)
  have hsz : h₃.objs.size = s.heap.objs.size := by rw [hs₃.1, hs₂.1, hs₁.1]
  have h1₃ : SIt h₃ i1 a1 xs (k + 1) := h1₂.keep (fun o e => hs₃.extBut _ _ D.i12 e) (fun o e => hs₃.extBut _ _ D.a1i2 e)
  have hz₃ : IsZ h₃ z TI TO (rawInt T) (.bool true) := hs₃.extBut _ _ D.i2z.symm (hs₂.extBut _ _ D.i1z.symm hz₁)
  refine wpAny_pure ⟨_, rfl, ?_⟩
  show Q (.ref h₃.objs.size) _
  rw [hsz]
  refine hQ _ (Heap.get?_push_of_some _ hz₃) (h1₃.keep (fun o e => Heap.get?_push_of_some _ e) (fun o e => Heap.get?_push_of_some _ e)) (h2₃.keep (fun o e => Heap.get?_push_of_some _ e) (fun o e => Heap.get?_push_of_some _ e)) ?_ fun c o c1 c2 c3 e => Heap.get?_push_of_some _ (hs₃.extBut _ _ c3 (hs₂.extBut _ _ c2 (hs₁.extBut _ _ c1 e)))
  rw [← hsz]
  exact Heap.get?_push_size _ rfl
theorem zipB_end {z TI TO i1 i2 a1 a2 T : Addr} {k : Nat} {xs ys : Array Value} {f1 : Value} {o : Obj} {Q : Fin → Shared → Prop} (hh : A.handled = none) (D : ZA z TI TO i1 i2 a1 a2)
    (hz : IsZ s.heap z TI TO (rawInt T) f1) (hf : f1 = .bool false ∨ f1 = .bool true) (hT : s.heap.get? T = some o) (hTI : IsPair s.heap TI (.ref i1) (.ref i2))
    (h1 : SIt s.heap i1 a1 xs k) (hx : xs[k]? = none)
    (hE : ∀ h' e, (∀ c o, c ≠ z → c ≠ i1 → s.heap.get? c = some o → h'.get? c = some o) → (∃ o, h'.get? e = some o ∧ o.cls = .type "StopIteration") → E (.ref e) { s with heap := h' }) :
    wpAny (model prog w) A (Builtin.«zip.__next__» ⟨[.ref z], []⟩) Q E s := by
  show wpAny _ _ (field (.ref z) 2 >>= _) _ _ _
  refine wpAny_bind (wpAny_field hz rfl (x := .bool false) rfl ?_)
  show wpAny _ _ (field (.ref z) 3 >>= _) _ _ _
  refine wpAny_bind (wpAny_field hz rfl (x := .ref TI) rfl ?_)
  refine wpAny_bind (wpAny_seqItems hTI rfl ?_)
  show wpAny _ _ (Builtin.SmallTypes.ownedTupleIsFree (.ref z) >>= _) _ _ _
  refine wpAny_bind ?_
  have free : ∀ Q' : Bool → Shared → Prop, (∀ h', IsZ h' z TI TO (rawInt T) (.bool true) → Heap.SameBut z s.heap h' → Q' false { s with heap := h' }) → wpAny (model prog w) A (Builtin.SmallTypes.ownedTupleIsFree (.ref z)) Q' E s := by
    intro Q' hq
    unfold Builtin.SmallTypes.ownedTupleIsFree
    refine wpAny_bind (wpAny_field hz rfl (x := rawInt T) rfl ?_)
    show wpAny _ _ (loadIfAlive ((T : Int)).toNat >>= _) _ _ _
    rw [Int.toNat_natCast]
    refine wpAny_bind (wpAny_alive ?_)
    rw [hT]
    show wpAny _ _ (field (.ref z) 1 >>= _) _ _ _
    refine wpAny_bind (wpAny_field hz rfl (x := f1) rfl ?_)
    rcases hf with rfl | rfl
    · show wpAny _ _ (setField (.ref z) 1 (.bool true) >>= _) _ _ _
      refine wpAny_bind (wpAny_setField_rec hz (by simp) fun h' hz' hs' => wpAny_pure (hq h' hz' hs'))
    · refine wpAny_pure (hq s.heap hz ⟨rfl, fun u_ u_ => rfl⟩)
  refine free _ fun h₁ hz₁ hs₁ => ?_
  simp only [Bool.false_eq_true, if_false]
  rw [← Array.forIn_toList]
  simp only [List.forIn_cons, List.forIn_nil]
  refine wpAny_bind (wpAny_bind (wpAny_bind (wpAny_holding ?_)))
  show wpAny _ _ (Builtin.SmallTypes.nextOf (.ref i1) >>= _) _ _ _
  refine wpAny_bind (nextOf_end hh (h1.keep (fun o e => hs₁.extBut _ _ D.i1z e) (fun o e => hs₁.extBut _ _ D.a1z e)) hx fun h₂ e hs₂ he => ?_)
  exact hE h₂ e (fun c o c1 c2 x => hs₂ _ _ c2 (hs₁.extBut _ _ c1 x)) he

theorem zipA_item {z TI TO i1 i2 a1 a2 : Addr} {k : Nat} {xs ys : Array Value} {x y a b : Value} {Q : Value → Shared → Prop} (D : ZA z TI TO i1 i2 a1 a2)
    (hz : IsZ s.heap z TI TO .none (.bool false)) (hTI : IsPair s.heap TI (.ref i1) (.ref i2)) (hTO : IsPair s.heap TO a b)
    (h1 : SIt s.heap i1 a1 xs k) (h2 : SIt s.heap i2 a2 ys k) (hx : xs[k]? = some x) (hy : ys[k]? = some y)
    (hQ : ∀ h', IsZ h' z TI TO (rawInt s.heap.objs.size) (.bool false) → IsPair h' TO x y → SIt h' i1 a1 xs (k + 1) → SIt h' i2 a2 ys (k + 1) → IsPair h' s.heap.objs.size x y →
      (∀ c o, c ≠ z → c ≠ TO → c ≠ i1 → c ≠ i2 → s.heap.get? c = some o → h'.get? c = some o) → Q (.ref s.heap.objs.size) { s with heap := h' }) :
    wpAny (model prog w) A (Builtin.«zip.__next__» ⟨[.ref z], []⟩) (fun fin s' => ∃ v, fin = .done (.ret v) ∧ Q v s') E s := by
  show wpAny _ _ (field (.ref z) 2 >>= _) _ _ _
  refine wpAny_bind (wpAny_field hz rfl (x := .bool false) rfl ?_)
  show wpAny _ _ (field (.ref z) 3 >>= _) _ _ _
  refine wpAny_bind (wpAny_field hz rfl (x := .ref TI) rfl ?_)
  refine wpAny_bind (wpAny_seqItems hTI rfl ?_)
  show wpAny _ _ (Builtin.SmallTypes.ownedTupleIsFree (.ref z) >>= _) _ _ _
  refine wpAny_bind ?_
  unfold Builtin.SmallTypes.ownedTupleIsFree
  refine wpAny_bind (wpAny_field hz rfl (x := .none) rfl (wpAny_pure ?_))
  simp only [if_true]
  refine wpAny_bind (wpAny_rule ?_)
  refine wpAny_bind (wpAny_field hz rfl (x := .ref TO) rfl ?_)
  refine wpAny_bind (wpAny_setField_rec hz (by simp) fun h₁ hz₁ hs₁ => ?_)
  replace hz₁ : IsZ h₁ z TI TO .ellipsis (.bool false) := hz₁
  refine wpAny_bind ?_
  simp only [List.zipIdx_cons, List.zipIdx_nil, List.forIn_cons, List.forIn_nil]
  refine wpAny_bind (wpAny_bind (wpAny_onRaise ?_))
  show wpAny _ _ (Builtin.SmallTypes.nextOf (.ref i1) >>= _) _ _ _
  refine wpAny_bind (nextOf_item (h1.keep (fun o e => hs₁.extBut _ _ D.i1z e) (fun o e => hs₁.extBut _ _ D.a1z e)) D.a1i1 hx fun h₂ h1₂ hs₂ => wpAny_pure ?_)
  have hTO₂ : IsPair h₂ TO a b := hs₂.extBut _ _ D.TOi1 (hs₁.extBut _ _ D.TOz hTO)
  refine wpAny_bind (wpAny_seqItems hTO₂ rfl ?_)
  refine wpAny_bind (wpAny_updateSeq_pair hTO₂ fun h₃ hTO₃ hs₃ => ?_)
  replace hTO₃ : IsPair h₃ TO x b := hTO₃
  refine wpAny_bind (wpAny_letGo (wpAny_pure ?_))
  refine wpAny_bind (wpAny_bind (wpAny_onRaise ?_))
  show wpAny _ _ (Builtin.SmallTypes.nextOf (.ref i2) >>= _) _ _ _
  have h2₃ : SIt h₃ i2 a2 ys k := ((h2.keep (fun o e => hs₁.extBut _ _ D.i2z e) (fun o e => hs₁.extBut _ _ D.a2z e)).keep (fun o e => hs₂.extBut _ _ D.i12.symm e) (fun o e => hs₂.extBut _ _ D.a2i1 e)).keep (fun o e => hs₃.extBut _ _ D.TOi2.symm e) (fun o e => hs₃.extBut _ _ D.a2TO e)
  refine wpAny_bind (nextOf_item h2₃ D.a2i2 hy fun h₄ h2₄ hs₄ => wpAny_pure ?_)
  have hTO₄ : IsPair h₄ TO x b := hs₄.extBut _ _ D.TOi2 hTO₃
  refine wpAny_bind (wpAny_seqItems hTO₄ rfl ?_)
  refine wpAny_bind (wpAny_updateSeq_pair hTO₄ fun h₅ hTO₅ hs₅ => ?_)
  replace hTO₅ : IsPair h₅ TO x y := hTO₅
  refine wpAny_bind (wpAny_letGo (wpAny_pure (wpAny_pure ?_)))
  refine wpAny_bind (wpAny_seqItems hTO₅ rfl ?_)
  refine wpAny_bind (wpAny_newTuple ?_)
  have hsz : h₅.objs.size = s.heap.objs.size := by rw [hs₅.1, hs₄.1, hs₃.1, hs₂.1, hs₁.1]
  have hz₅ : IsZ h₅ z TI TO .ellipsis (.bool false) := hs₅.extBut _ _ D.TOz.symm (hs₄.extBut _ _ D.i2z.symm (hs₃.extBut _ _ D.TOz.symm (hs₂.extBut _ _ D.i1z.symm hz₁)))
  have hk₅ : ∀ c o, c ≠ z → c ≠ TO → c ≠ i1 → c ≠ i2 → s.heap.get? c = some o → h₅.get? c = some o := fun c o c1 c2 c3 c4 e =>
    hs₅.extBut _ _ c2 (hs₄.extBut _ _ c4 (hs₃.extBut _ _ c2 (hs₂.extBut _ _ c3 (hs₁.extBut _ _ c1 e))))
  have h1₅ : SIt h₅ i1 a1 xs (k + 1) := ((h1₂.keep (fun o e => hs₃.extBut _ _ D.TOi1.symm e) (fun o e => hs₃.extBut _ _ D.a1TO e)).keep (fun o e => hs₄.extBut _ _ D.i12 e) (fun o e => hs₄.extBut _ _ D.a1i2 e)).keep (fun o e => hs₅.extBut _ _ D.TOi1.symm e) (fun o e => hs₅.extBut _ _ D.a1TO e)
  have h2₅ : SIt h₅ i2 a2 ys (k + 1) := h2₄.keep (fun o e => hs₅.extBut _ _ D.TOi2.symm e) (fun o e => hs₅.extBut _ _ D.a2TO e)
  have hzlt : z < h₅.objs.size := Heap.lt_size hz₅
  show wpAny _ _ (Builtin.SmallTypes.ownedTupleHandOut (.ref z) (.ref h₅.objs.size) >>= _) _ _ _
  refine wpAny_bind ?_
  unfold Builtin.SmallTypes.ownedTupleHandOut
  have hz₆ : IsZ (h₅.push { cls := .type "tuple", data := .seq #[x, y] }) z TI TO .ellipsis (.bool false) := Heap.get?_push_of_some _ hz₅
  refine wpAny_bind (wpAny_setField_rec hz₆ (by simp) fun h₇ hz₇ hs₇ => ?_)
  replace hz₇ : IsZ h₇ z TI TO (rawInt h₅.objs.size) (.bool false) := hz₇
  refine wpAny_setField_rec hz₇ (by simp) fun h₈ hz₈ hs₈ => ?_
  replace hz₈ : IsZ h₈ z TI TO (rawInt h₅.objs.size) (.bool false) := hz₈
  have up : ∀ c o, c ≠ z → h₅.get? c = some o → h₈.get? c = some o := fun c o c1 e => hs₈.extBut _ _ c1 (hs₇.extBut _ _ c1 (Heap.get?_push_of_some _ e))
  have hT₈ : IsPair h₈ h₅.objs.size x y := hs₈.extBut _ _ (Nat.ne_of_gt hzlt) (hs₇.extBut _ _ (Nat.ne_of_gt hzlt) (Heap.get?_push_size _ rfl))
  rw [hsz] at hz₈ hT₈
  refine wpAny_pure ⟨_, rfl, ?_⟩
  show Q (.ref h₅.objs.size) _
  rw [hsz]
  exact hQ h₈ hz₈ (up _ _ D.TOz hTO₅) (h1₅.keep (fun o e => up _ o D.i1z e) (fun o e => up _ o D.a1z e)) (h2₅.keep (fun o e => up _ o D.i2z e) (fun o e => up _ o D.a2z e)) hT₈ fun c o c1 c2 c3 c4 e => up c o c1 (hk₅ c o c1 c2 c3 c4 e)

theorem zipA_end {z TI TO i1 i2 a1 a2 : Addr} {k : Nat} {xs : Array Value} {a b : Value} {Q : Fin → Shared → Prop} (hh : A.handled = none) (D : ZA z TI TO i1 i2 a1 a2)
    (hz : IsZ s.heap z TI TO .none (.bool false)) (hTI : IsPair s.heap TI (.ref i1) (.ref i2)) (hTO : IsPair s.heap TO a b) (h1 : SIt s.heap i1 a1 xs k) (hx : xs[k]? = none)
    (hE : ∀ h' e, (∀ c o, c ≠ z → c ≠ i1 → s.heap.get? c = some o → h'.get? c = some o) → (∃ o, h'.get? e = some o ∧ o.cls = .type "StopIteration") → E (.ref e) { s with heap := h' }) :
    wpAny (model prog w) A (Builtin.«zip.__next__» ⟨[.ref z], []⟩) Q E s := by
  show wpAny _ _ (field (.ref z) 2 >>= _) _ _ _
  refine wpAny_bind (wpAny_field hz rfl (x := .bool false) rfl ?_)
  show wpAny _ _ (field (.ref z) 3 >>= _) _ _ _
  refine wpAny_bind (wpAny_field hz rfl (x := .ref TI) rfl ?_)
  refine wpAny_bind (wpAny_seqItems hTI rfl ?_)
  show wpAny _ _ (Builtin.SmallTypes.ownedTupleIsFree (.ref z) >>= _) _ _ _
  refine wpAny_bind ?_
  unfold Builtin.SmallTypes.ownedTupleIsFree
  refine wpAny_bind (wpAny_field hz rfl (x := .none) rfl (wpAny_pure ?_))
  simp only [if_true]
  refine wpAny_bind (wpAny_rule ?_)
  refine wpAny_bind (wpAny_field hz rfl (x := .ref TO) rfl ?_)
  refine wpAny_bind (wpAny_setField_rec hz (by simp) fun h₁ hz₁ hs₁ => ?_)
  replace hz₁ : IsZ h₁ z TI TO .ellipsis (.bool false) := hz₁
  refine wpAny_bind ?_
  simp only [List.zipIdx_cons, List.zipIdx_nil, List.forIn_cons, List.forIn_nil]
  refine wpAny_bind (wpAny_bind (wpAny_onRaise ?_))
  show wpAny _ _ (Builtin.SmallTypes.nextOf (.ref i1) >>= _) _ _ _
  refine wpAny_bind (nextOf_end hh (h1.keep (fun o e => hs₁.extBut _ _ D.i1z e) (fun o e => hs₁.extBut _ _ D.a1z e)) hx fun h₂ e hs₂ he => ?_)
  obtain ⟨oe, hoe, hce⟩ := he
  have hz₂ : IsZ h₂ z TI TO .ellipsis (.bool false) := hs₂ _ _ D.i1z.symm hz₁
  have hez : e ≠ z := fun x => by subst x; rw [hz₂] at hoe; cases hoe; simp at hce
  refine wpAny_setField_rec hz₂ (by simp) fun h₃ u_ hs₃ => hE h₃ e (fun c o c1 c3 x => hs₃.extBut _ _ c1 (hs₂ _ _ c3 (hs₁.extBut _ _ c1 x))) ⟨oe, hs₃.extBut _ _ hez hoe, hce⟩
end
end Mine


set_option autoImplicit false
set_option linter.unusedVariables false
set_option maxRecDepth 100000
namespace Mine
open PySem PyProof.Rows

theorem zip_no_len : typeLookup (.type "zip") "__len__" = pure none := by rw [typeLookup_type, builtinLookup_eq_fast]; kernel_rfl
theorem zip_no_hint : typeLookup (.type "zip") "__length_hint__" = pure none := by rw [typeLookup_type, builtinLookup_eq_fast]; kernel_rfl

structure Zs (h : Heap) (z TI TO i1 i2 a1 a2 : Addr) (xs ys : Array Value) (i : Nat) : Prop where
  ti : IsPair h TI (.ref i1) (.ref i2)
  s1 : SIt h i1 a1 xs i
  s2 : SIt h i2 a2 ys i
  to : ∃ o, h.get? TO = some o
  zz : (IsZ h z TI TO .none (.bool false) ∧ ∃ a b, IsPair h TO a b) ∨ ∃ T f1 x y, IsZ h z TI TO (rawInt (T : Nat)) f1 ∧ (f1 = .bool false ∨ f1 = .bool true) ∧ IsPair h T x y

theorem SIt.notpair {h : Heap} {it a T : Addr} {xs : Array Value} {i : Nat} {x y : Value} (p : SIt h it a xs i) (q : IsPair h T x y) : T ≠ it := by
  rintro rfl
  cases p with
  | list p _ => obtain ⟨o, e, c, _⟩ := p; rw [q] at e; cases e; simp at c
  | tup p _ => obtain ⟨o, e, c, _⟩ := p; rw [q] at e; cases e; simp at c
theorem IsZ.notpair {h : Heap} {z TI TO T : Addr} {f0 f1 x y : Value} (p : IsZ h z TI TO f0 f1) (q : IsPair h T x y) : T ≠ z := by
  rintro rfl
  have e := Option.some.inj ((show h.get? T = _ from q).symm.trans p)
  exact absurd (congrArg Obj.cls e) (by simp)
theorem pair_ne_list {h : Heap} {T S : Addr} {x y : Value} {acc : Array Value} {c : Nat} (q : IsPair h T x y) (p : h.get? S = some { cls := .type "list", dict := none, data := .seq acc c, slots := #[] }) : T ≠ S := by
  rintro rfl
  have e := Option.some.inj ((show h.get? T = _ from q).symm.trans p)
  exact absurd (congrArg Obj.cls e) (by simp)

theorem Zs.type {s : Shared} {z TI TO i1 i2 a1 a2 : Addr} {xs ys : Array Value} {i : Nat} (Z : Zs s.heap z TI TO i1 i2 a1 a2 xs ys i) : s.TypeIs (.ref z) "zip" := by
  rcases Z.zz with ⟨h, _⟩ | ⟨T, f1, x, y, h, _⟩
  · exact ⟨_, h, rfl⟩
  · exact ⟨_, h, rfl⟩
theorem Zs.keep {h h' : Heap} {z TI TO i1 i2 a1 a2 : Addr} {xs ys : Array Value} {i : Nat} (Z : Zs h z TI TO i1 i2 a1 a2 xs ys i) (hk : ∀ c ∈ [z, TI, TO, i1, i2, a1, a2], ∀ o, h.get? c = some o → h'.get? c = some o) (hp : ∀ T x y, IsPair h T x y → IsPair h' T x y) : Zs h' z TI TO i1 i2 a1 a2 xs ys i where
  ti := hp _ _ _ Z.ti
  s1 := Z.s1.keep (hk _ (by simp)) (hk _ (by simp))
  s2 := Z.s2.keep (hk _ (by simp)) (hk _ (by simp))
  to := let ⟨o, e⟩ := Z.to; ⟨o, hk TO (by simp) o e⟩
  zz := by
    rcases Z.zz with ⟨h, a, b, q⟩ | ⟨T, f1, x, y, h, e, q⟩
    · exact .inl ⟨hk z (by simp) _ h, a, b, hp _ _ _ q⟩
    · exact .inr ⟨T, f1, x, y, hk z (by simp) _ h, e, hp _ _ _ q⟩

section
variable {prog : Program} {w : World} {A : Around} {E : Value → Shared → Prop} {s : Shared} {z TI TO i1 i2 a1 a2 : Addr} {xs ys : Array Value} {i : Nat}

theorem zs_next {x y : Value} {Q : Option Value → Shared → Prop} (D : ZA z TI TO i1 i2 a1 a2) (Z : Zs s.heap z TI TO i1 i2 a1 a2 xs ys i) (hx : xs[i]? = some x) (hy : ys[i]? = some y)
    (hQ : ∀ h', Zs h' z TI TO i1 i2 a1 a2 xs ys (i + 1) → IsPair h' s.heap.objs.size x y → (∀ c o, c ≠ z → c ≠ TO → c ≠ i1 → c ≠ i2 → s.heap.get? c = some o → h'.get? c = some o) → Q (some (.ref s.heap.objs.size)) { s with heap := h' }) :
    wpAny (model prog w) A (pyNext (.ref z)) Q E s := by
  have hT := Z.type
  unfold pyNext
  refine wpAny_bind (wpAny_attempt (wpAny_callSpecial?_slot (name := Str.ofString "__next__") hT F.slot_zip_next (wpAny_call_entry F.slot_zip_next hT F.entry_zip_next ?_ (F.args_zip_next_1 _))))
  rcases Z.zz with ⟨hz, a, b, q⟩ | ⟨T, f1, x0, y0, hz, hf, q⟩
  · refine zipA_item D hz Z.ti q Z.s1 Z.s2 hx hy fun h' g1 g0 g2 g3 g4 g5 => wpAny_pure (hQ h' ⟨g5 _ _ D.TIz D.TITO D.TIi1 D.TIi2 Z.ti, g2, g3, ⟨_, g0⟩, .inr ⟨_, _, x, y, g1, .inl rfl, g4⟩⟩ g4 g5)
  · refine zipB_item D hz hf q Z.ti Z.s1 Z.s2 hx hy fun h' g1 g2 g3 g4 g5 => wpAny_pure (hQ h' ⟨g5 _ _ D.TIz D.TIi1 D.TIi2 Z.ti, g2, g3, (let ⟨o, e⟩ := Z.to; ⟨o, g5 _ _ D.TOz D.TOi1 D.TOi2 e⟩), .inr ⟨T, _, x0, y0, g1, .inr rfl, g5 _ _ (hz.notpair q) (Z.s1.notpair q) (Z.s2.notpair q) q⟩⟩ g4 fun c o c1 u_ c3 c4 e => g5 c o c1 c3 c4 e)
theorem zs_done {Q : Option Value → Shared → Prop} (hh : A.handled = none) (D : ZA z TI TO i1 i2 a1 a2) (Z : Zs s.heap z TI TO i1 i2 a1 a2 xs ys i) (hx : xs[i]? = none)
    (hQ : ∀ h', (∀ c o, c ≠ z → c ≠ i1 → s.heap.get? c = some o → h'.get? c = some o) → Q none { s with heap := h' }) :
    wpAny (model prog w) A (pyNext (.ref z)) Q E s := by
  have hT := Z.type
  unfold pyNext
  rcases Z.zz with ⟨hz, a, b, q⟩ | ⟨T, f1, x0, y0, hz, hf, q⟩
  · refine wpAny_bind (wpAny_attempt (wpAny_callSpecial?_slot (name := Str.ofString "__next__") hT F.slot_zip_next (wpAny_call_entry F.slot_zip_next hT F.entry_zip_next (zipA_end hh D hz Z.ti q Z.s1 hx fun h' e hk he => ?_) (F.args_zip_next_1 _))))
    obtain ⟨o, ho, hc⟩ := he
    refine wpAny_bind (wpAny_isInstance (T := "StopIteration") (b := true) ⟨o, ho, hc⟩ isSubtype_stop ?_)
    exact wpAny_pure (hQ _ hk)
  · refine wpAny_bind (wpAny_attempt (wpAny_callSpecial?_slot (name := Str.ofString "__next__") hT F.slot_zip_next (wpAny_call_entry F.slot_zip_next hT F.entry_zip_next (zipB_end (ys := ys) hh D hz hf q Z.ti Z.s1 hx fun h' e hk he => ?_) (F.args_zip_next_1 _))))
    obtain ⟨o, ho, hc⟩ := he
    refine wpAny_bind (wpAny_isInstance (T := "StopIteration") (b := true) ⟨o, ho, hc⟩ isSubtype_stop ?_)
    exact wpAny_pure (hQ _ hk)

structure Pr (h : Heap) (no : List Addr) (xs ys acc : Array Value) (i : Nat) : Prop where
  size : acc.size = i
  at_ : ∀ j, j < i → ∃ T x y, acc[j]? = some (.ref T) ∧ xs[j]? = some x ∧ ys[j]? = some y ∧ IsPair h T x y ∧ ∀ b, b ∈ no → b < T
theorem Pr.keep {h h' : Heap} {no : List Addr} {acc : Array Value} (p : Pr h no xs ys acc i) (hk : ∀ b o, b ∉ no → h.get? b = some o → h'.get? b = some o) : Pr h' no xs ys acc i :=
  ⟨p.size, fun j hj => let ⟨T, x, y, e1, e2, e3, e4, e5⟩ := p.at_ j hj; ⟨T, x, y, e1, e2, e3, hk _ _ (fun h => Nat.lt_irrefl _ (e5 _ h)) e4, e5⟩⟩
theorem Pr.push {h : Heap} {no : List Addr} {acc : Array Value} {T : Addr} {x y : Value} (p : Pr h no xs ys acc i) (hx : xs[i]? = some x) (hy : ys[i]? = some y) (hT : IsPair h T x y) (hn : ∀ b, b ∈ no → b < T) : Pr h no xs ys (acc.push (.ref T)) (i + 1) := by
  refine ⟨by rw [Array.size_push, p.size], fun j hj => ?_⟩
  by_cases hji : j < i
  · obtain ⟨T', x', y', e1, e2, e3, e4, e5⟩ := p.at_ j hji
    exact ⟨T', x', y', by rw [Array.getElem?_push_lt (by rw [p.size]; exact hji)]; rw [← e1]; exact (Array.getElem?_eq_getElem _).symm, e2, e3, e4, e5⟩
  · have : j = i := by (first | lia | omega)
    subst this
    exact ⟨T, x, y, by rw [← p.size]; exact Array.getElem?_push_size, hx, hy, hT, hn⟩

theorem zip_loop {R : Result → Shared → Prop} {S : Addr} {res : Value} (hh : A.handled = none) (D : ZA z TI TO i1 i2 a1 a2) (hl : ys.size = xs.size) (hn : xs.size ≤ sizeLine) (hS : S ∉ [z, TI, TO, i1, i2, a1, a2]) :
    ∀ (k i : Nat) (s : Shared) (acc : Array Value) (c : Nat), xs.size - i = k → i ≤ xs.size → Zs s.heap z TI TO i1 i2 a1 a2 xs ys i → s.heap.get? S = some { cls := .type "list", dict := none, data := .seq acc c, slots := #[] } → Pr s.heap [S, z, TO, i1, i2] xs ys acc i →
    (∀ h' acc' c', (∀ b o, b ∉ [S, z, TO, i1, i2] → s.heap.get? b = some o → h'.get? b = some o) → h'.get? S = some { cls := .type "list", dict := none, data := .seq acc' c', slots := #[] } → Pr h' [S, z, TO, i1, i2] xs ys acc' xs.size → R (.ok (.ret res)) { s with heap := h' }) →
    codeAny (model prog w) A (.builtin "list.extend.loop" ⟨[.ref S, .ref z, res], []⟩) R s := by
  simp only [List.mem_cons, List.not_mem_nil, or_false, not_or] at hS
  obtain ⟨n1, n2, n3, n4, n5, n6, n7⟩ := hS
  intro k
  induction k with
  | zero =>
    intro i s acc c hk hi Z hSl hP hR
    have hin : i = xs.size := by (first | lia | omega)
    subst hin
    refine codeAny_builtin F.entry_extend_loop ?_
    rw [Around.under_plainId F.plain_extend_loop _]
    show wpAny _ A.in1 (pyNext (.ref z) >>= _) _ _ s
    refine wpAny_bind (zs_done hh D Z (Array.getElem?_eq_none (Nat.le_refl _)) fun h' hk' => ?_)
    have hk2 : ∀ b o, b ∉ [S, z, TO, i1, i2] → s.heap.get? b = some o → h'.get? b = some o := fun b o hb e => hk' b o (fun q => hb (by simp [q])) (fun q => hb (by simp [q])) e
    exact wpAny_pure (hR h' acc c hk2 (hk' S _ n1 n4 hSl) (hP.keep hk2))
  | succ k ih =>
    intro i s acc c hk hi Z hSl hP hR
    have hlt : i < xs.size := by (first | lia | omega)
    refine codeAny_builtin F.entry_extend_loop ?_
    rw [Around.under_plainId F.plain_extend_loop _]
    show wpAny _ A.in1 (pyNext (.ref z) >>= _) _ _ s
    have hx := Array.getElem?_eq_getElem hlt
    have hy := Array.getElem?_eq_getElem (xs := ys) (i := i) (by (first | lia | omega))
    refine wpAny_bind (zs_next D Z hx hy fun h' Z' hT hk' => ?_)
    have hS' := hk' S _ n1 n3 n4 n5 hSl
    have hlS := Heap.lt_size hSl
    have hlz : z < s.heap.objs.size := by rcases Z.zz with ⟨q, _⟩ | ⟨_, _, _, _, q, _⟩ <;> exact Heap.lt_size q
    have hl1 := Z.s1.lt.1
    have hl2 := Z.s2.lt.1
    have hlT : TO < s.heap.objs.size := let ⟨_, e⟩ := Z.to; Heap.lt_size e
    have hTn : ∀ b, b ∈ [S, z, TO, i1, i2] → b < s.heap.objs.size := fun b hm => by
      simp only [List.mem_cons, List.not_mem_nil, or_false] at hm
      rcases hm with q | q | q | q | q <;> rw [q] <;> assumption
    have hk2 : ∀ b o, b ∉ [S, z, TO, i1, i2] → s.heap.get? b = some o → h'.get? b = some o := fun b o hb e => hk' b o (fun q => hb (by simp [q])) (fun q => hb (by simp [q])) (fun q => hb (by simp [q])) (fun q => hb (by simp [q])) e
    show wpAny _ A.in1 (updateSeq S (·.push (.ref s.heap.objs.size)) >>= _) _ _ _
    refine wpAny_bind ?_
    have hP' := (hP.keep hk2).push hx hy hT hTn
    have hu : ∀ b o, b ≠ S → h'.get? b = some o → (h'.update S (Obj.mapSeq (·.push (.ref s.heap.objs.size)))).get? b = some o := fun b o hb e => (Heap.get?_update_other _ _ (Ne.symm hb)).trans e
    have hpair : ∀ T x y, IsPair h' T x y → IsPair (h'.update S (Obj.mapSeq (·.push (.ref s.heap.objs.size)))) T x y := fun T x y q => hu T _ (pair_ne_list q hS') q
    refine wpAny_updateSeq hS' rfl (wpAny_pure ⟨plainId_quiet F.plain_extend_loop _, ih (i + 1) _ (acc.push (.ref s.heap.objs.size)) _ (by (first | lia | omega)) hlt (Z'.keep (fun b hb o e => hu b o (fun q => ?_) e) hpair) (Heap.get?_update_self _ hS' rfl) (hP'.keep fun b o hb e => hu b o (fun q => hb (by simp [q])) e) fun h'' acc' c' hm hS'' hacc' => ?_⟩)
      (by rw [hP.size]; (first | lia | omega)) (by show (acc.push _).size ≤ sizeLine + 1; rw [Array.size_push, hP.size]; (first | lia | omega))
    · subst q
      simp only [List.mem_cons, List.not_mem_nil, or_false] at hb
      rcases hb with q | q | q | q | q | q | q
      · exact n1 q
      · exact n2 q
      · exact n3 q
      · exact n4 q
      · exact n5 q
      · exact n6 q
      · exact n7 q
    · exact hR h'' acc' c' (fun b o hb e => hm b o hb (hu b o (fun q => hb (by simp [q])) (hk2 b o hb e))) hS'' hacc'
end
end Mine


set_option autoImplicit false
set_option linter.unusedVariables false
set_option maxRecDepth 100000
namespace Mine
open PySem PyProof.Rows

section
variable {prog : Program} {w : World} {A : Around} {s : Shared} {R : Result → Shared → Prop} {z TI TO i1 i2 a1 a2 : Addr} {xs ys : Array Value}

theorem extend_zip {S : Addr} {res : Value} {c₀ : Nat} (hh : A.handled = none) (D : ZA z TI TO i1 i2 a1 a2) (hz : IsZ s.heap z TI TO .none (.bool false)) (Z : Zs s.heap z TI TO i1 i2 a1 a2 xs ys 0) (hl : ys.size = xs.size) (hn : xs.size ≤ sizeLine) (hS : S ∉ [z, TI, TO, i1, i2, a1, a2])
    (hSl : s.heap.get? S = some { cls := .type "list", data := .seq #[] c₀ })
    (hR : ∀ h' acc' c', (∀ b o, b ∉ [S, z, TO, i1, i2] → s.heap.get? b = some o → h'.get? b = some o) → h'.get? S = some { cls := .type "list", dict := none, data := .seq acc' c', slots := #[] } → Pr h' [S, z, TO, i1, i2] xs ys acc' xs.size → R (.ok (.ret res)) { s with heap := h' }) :
    wpAny (model prog w) A.in1 (Builtin.List.listExtendWith (.ref S) (.ref z) res)
      (fun fin s' => match fin with | .done f => R (.ok f) s' | .again c' => c'.quiet = true ∧ codeAny (model prog w) A c' R s') (fun e s' => R (.error e) s') s := by
  have hSz : S ≠ z := fun e => hS (by rw [e]; simp)
  have hT := Z.type
  unfold Builtin.List.listExtendWith
  refine wpAny_bind (wpAny_typeOf hT ?_)
  have h1 : Builtin.List.listSameRef (.ref S) (.ref z) = false := by simp [Builtin.List.listSameRef, hSz]
  have h2 : (Value.type "zip" == Value.type "list") = false := by decide
  have h3 : (Value.type "zip" == Value.type "tuple") = false := by decide
  simp only [h1, h2, h3, Bool.or_false, Bool.false_eq_true, if_false]
  refine wpAny_bind (wpAny_pyIter_zip (TI := TI) (TO := TO) (f0 := .none) hz ?_)
  refine wpAny_bind (wpAny_holding ?_)
  unfold Builtin.List.listLengthHint
  refine wpAny_bind (wpAny_specialOf hT zip_no_len ?_)
  show wpAny _ A.in1 (specialOf (Value.ref z) (Str.ofString "__length_hint__") >>= _) _ _ _
  refine wpAny_bind (wpAny_specialOf hT zip_no_hint ?_)
  refine wpAny_pure ?_
  show wpAny _ A.in1 (rule "list.extend.makes-room" >>= fun u_ => Builtin.List.listTouch (.ref S) >>= fun u_ => again (.builtin "list.extend.loop" ⟨[.ref S, .ref z, res], []⟩)) _ _ _
  refine wpAny_bind (wpAny_rule ?_)
  refine wpAny_bind ?_
  show wpAny _ A.in1 (updateSeq S (·.push .none) >>= fun u_ => updateSeq S (·.pop)) _ _ _
  refine wpAny_bind (wpAny_updateSeq hSl rfl ?_)
  have hS₂ := Heap.get?_update_self (Obj.mapSeq (·.push Value.none)) hSl rfl
  refine wpAny_updateSeq (hz := by seq_fits) hS₂ rfl ?_
  have hS₃ := Heap.get?_update_self (Obj.mapSeq (·.pop)) hS₂ rfl
  have oth : ∀ b o, b ≠ S → s.heap.get? b = some o → ((s.heap.update S (Obj.mapSeq (·.push Value.none))).update S (Obj.mapSeq (·.pop))).get? b = some o :=
    fun b o hb e => (Heap.get?_update_other _ _ (Ne.symm hb)).trans ((Heap.get?_update_other _ _ (Ne.symm hb)).trans e)
  refine wpAny_pure ⟨plainId_quiet F.plain_extend_loop _, zip_loop hh D hl hn hS xs.size 0 _ #[] _ (Nat.sub_zero _) (Nat.zero_le _) (Z.keep (fun b hb o e => oth b o (fun h => hS (h ▸ hb)) e) fun T x y q => oth T _ (fun e => ?_) q) hS₃ ⟨rfl, fun j hj => absurd hj (Nat.not_lt_zero _)⟩ fun h' acc' c' hm hS' hacc => ?_⟩
  · exact pair_ne_list q hSl e
  · exact hR h' acc' c' (fun b o hb e => hm b o hb (oth b o (fun q => hb (by simp [q])) e)) hS' hacc

theorem init_zip {S : Addr} (hh : A.handled = none) (D : ZA z TI TO i1 i2 a1 a2) (hz : IsZ s.heap z TI TO .none (.bool false)) (Z : Zs s.heap z TI TO i1 i2 a1 a2 xs ys 0) (hl : ys.size = xs.size) (hn : xs.size ≤ sizeLine) (hS : S ∉ [z, TI, TO, i1, i2, a1, a2])
    (hSl : s.heap.get? S = some { cls := .type "list", data := .seq #[] })
    (hR : ∀ h' acc' c', (∀ b o, b ∉ [S, z, TO, i1, i2] → s.heap.get? b = some o → h'.get? b = some o) → h'.get? S = some { cls := .type "list", dict := none, data := .seq acc' c', slots := #[] } → Pr h' [S, z, TO, i1, i2] xs ys acc' xs.size → R (.ok (.ret .none)) { s with heap := h' }) :
    wpAny (model prog w) A.in1 (Builtin.«list.__init__» ⟨[.ref S, .ref z], []⟩)
      (fun fin s' => match fin with | .done f => R (.ok f) s' | .again c' => c'.quiet = true ∧ codeAny (model prog w) A c' R s') (fun e s' => R (.error e) s') s := by
  show wpAny _ A.in1 (do let old ← Builtin.List.listItems (.ref S); Builtin.List.listUpdate (.ref S) (fun u_ => #[]); letGo old.toList.reverse; Builtin.List.listExtendWith (.ref S) (.ref z) .none) _ _ s
  refine wpAny_bind ?_
  unfold Builtin.List.listItems
  refine wpAny_bind (wpAny_seqItems hSl rfl (wpAny_pure ?_))
  show wpAny _ A.in1 (updateSeq S (fun u_ => #[]) >>= fun u_ => letGo (#[] : Array Value).toList.reverse >>= fun u_ => Builtin.List.listExtendWith (.ref S) (.ref z) .none) _ _ s
  refine wpAny_bind (wpAny_updateSeq hSl rfl ?_)
  have hS₂ := Heap.get?_update_self (Obj.mapSeq (fun u_ => (#[] : Array Value))) hSl rfl
  have oth : ∀ b o, b ≠ S → s.heap.get? b = some o → (s.heap.update S (Obj.mapSeq (fun u_ => (#[] : Array Value)))).get? b = some o :=
    fun b o hb e => (Heap.get?_update_other _ _ (Ne.symm hb)).trans e
  refine wpAny_bind (wpAny_letGo ?_)
  refine extend_zip hh D (oth z _ (fun e => hS (by rw [← e]; simp)) hz) (Z.keep (fun b hb o e => oth b o (fun h => hS (h ▸ hb)) e) fun T x y q => oth T _ (fun e => pair_ne_list q hSl e) q) hl hn hS hS₂ fun h' acc' c' hm hS' hacc => ?_
  exact hR h' acc' c' (fun b o hb e => hm b o hb (oth b o (fun q => hb (by simp [q])) e)) hS' hacc
end

section
variable {prog : Program} {w : World} {A : Around} {E : Value → Shared → Prop} {s : Shared} {z TI TO i1 i2 a1 a2 : Addr} {xs ys : Array Value}
theorem list_zip {Q : Value → Shared → Prop} (hh : A.handled = none) (D : ZA z TI TO i1 i2 a1 a2) (hz : IsZ s.heap z TI TO .none (.bool false)) (Z : Zs s.heap z TI TO i1 i2 a1 a2 xs ys 0) (hl : ys.size = xs.size) (hn : xs.size ≤ sizeLine)
    (hQ : ∀ h' acc' c', (∀ b o, b ∉ [z, TO, i1, i2] → s.heap.get? b = some o → h'.get? b = some o) → h'.get? s.heap.objs.size = some { cls := .type "list", dict := none, data := .seq acc' c', slots := #[] } → Pr h' [s.heap.objs.size, z, TO, i1, i2] xs ys acc' xs.size → Q (.ref s.heap.objs.size) { s with heap := h' }) :
    wpAny (model prog w) A (call (.type "list") [.ref z]) Q E s := by
  have hlz : z < s.heap.objs.size := Heap.lt_size hz
  have hlI : TI < s.heap.objs.size := Heap.lt_size Z.ti
  have hlT : TO < s.heap.objs.size := let ⟨_, e⟩ := Z.to; Heap.lt_size e
  have hS : s.heap.objs.size ∉ [z, TI, TO, i1, i2, a1, a2] := fun hm => by
    simp only [List.mem_cons, List.not_mem_nil, or_false] at hm
    rcases hm with q | q | q | q | q | q | q
    · exact absurd q (Nat.ne_of_gt hlz)
    · exact absurd q (Nat.ne_of_gt hlI)
    · exact absurd q (Nat.ne_of_gt hlT)
    · exact absurd q (Nat.ne_of_gt Z.s1.lt.1)
    · exact absurd q (Nat.ne_of_gt Z.s2.lt.1)
    · exact absurd q (Nat.ne_of_gt Z.s1.lt.2)
    · exact absurd q (Nat.ne_of_gt Z.s2.lt.2)
  refine callType_codes (Q₁ := fun obj s₁ => obj = .ref s.heap.objs.size ∧ s₁ = { s with heap := s.heap.push { cls := .type "list", data := .seq #[] } }) F.called_list (F.typeCall_list_1 _) F.entry_list_init
    (code_list_new _ ⟨rfl, rfl⟩) fun obj s₁ h₁ => ?_
  obtain ⟨rfl, rfl⟩ := h₁
  have hSl : (s.heap.push { cls := .type "list", data := .seq #[] }).get? s.heap.objs.size = some { cls := .type "list", data := .seq #[] } := Heap.get?_push_size _ rfl
  refine ⟨⟨_, hSl, rfl⟩, F.args_list_init_2 _ _, init_zip (A := A.in1) hh D (Heap.get?_push_of_some _ hz) (Z.keep (fun b hb o e => Heap.get?_push_of_some _ e) fun T x y q => Heap.get?_push_of_some _ q) hl hn hS hSl fun h' acc' c' hk hS' hacc => ?_⟩
  refine ⟨rfl, hQ h' acc' c' (fun b o hb e => hk b o (fun hm => ?_) (Heap.get?_push_of_some _ e)) hS' hacc⟩
  rcases List.mem_cons.mp hm with q | q
  · exact absurd (q ▸ Heap.lt_size e) (Nat.lt_irrefl _)
  · exact hb q

theorem za_new {n l1 l2 : Addr} (h1 : l1 < n) (h2 : l2 < n) : ZA (n + 4) (n + 2) (n + 3) n (n + 1) l1 l2 :=
  let D := zipApart_new h1 h2
  ⟨D.TIz, D.TOz, D.i1z, D.i2z, D.TITO, D.TIi1, D.TIi2, D.TOi1, D.TOi2, D.i12, D.l1z, D.l1TO, D.l1i1, D.l1i2, D.l2z, D.l2TO, D.l2i1, D.l2i2⟩

theorem zip_lists {l1 l2 : Addr} {Q : Value → Shared → Prop} (hl1 : s.heap.IsList l1 xs) (hl2 : s.heap.IsList l2 ys)
    (h : ∀ h', IsZ h' (s.heap.objs.size + 4) (s.heap.objs.size + 2) (s.heap.objs.size + 3) .none (.bool false) → Zs h' (s.heap.objs.size + 4) (s.heap.objs.size + 2) (s.heap.objs.size + 3) s.heap.objs.size (s.heap.objs.size + 1) l1 l2 xs ys 0 →
      (∀ c o, s.heap.get? c = some o → h'.get? c = some o) → Q (.ref (s.heap.objs.size + 4)) { s with heap := h' }) :
    wpAny (model prog w) A (call (.type "zip") [.ref l1, .ref l2]) Q E s :=
  call_zip_2 hl1 hl2 fun h' g1 g2 g3 g4 g5 g6 g7 => h h' g1 ⟨g2, .list g4 (hl1.at fun o e => g7 _ o e), .list g5 (hl2.at fun o e => g7 _ o e), ⟨_, g3⟩, .inl ⟨g1, _, _, g3⟩⟩ g7
end
end Mine


set_option autoImplicit false
set_option linter.unusedVariables false
set_option maxRecDepth 100000
namespace Mine
open PySem PyProof.Rows

abbrev zT1 (h : Heap) (l1 : Addr) : Heap := h.push { cls := .type "tuple_iterator", data := .fields #[.ref l1, .int 0 0] }
abbrev zT2 (h : Heap) (l1 l2 : Addr) : Heap := (zT1 h l1).push { cls := .type "tuple_iterator", data := .fields #[.ref l2, .int 0 0] }
abbrev zT3 (h : Heap) (l1 l2 : Addr) : Heap := (zT2 h l1 l2).push { cls := .type "tuple", data := .seq #[.ref h.objs.size, .ref (zT1 h l1).objs.size] }
abbrev zT4 (h : Heap) (l1 l2 : Addr) : Heap := (zT3 h l1 l2).push { cls := .type "tuple", data := .seq #[.none, .none] }
abbrev zT5 (h : Heap) (l1 l2 : Addr) : Heap := (zT4 h l1 l2).push { cls := .type "zip", data := .fields #[.none, .bool false, .bool false, .ref (zT2 h l1 l2).objs.size, .ref (zT3 h l1 l2).objs.size] }

theorem meets_zipT (l1 l2 : Addr) (xs ys : Array Value) :
    Meets (Builtin.«zip.__new__» ⟨[.type "zip", .ref l1, .ref l2], []⟩) (fun u_ R s => s.heap.IsTuple l1 xs ∧ s.heap.IsTuple l2 ys ∧ R (.ok (.ret (.ref (zT4 s.heap l1 l2).objs.size))) { s with heap := zT5 s.heap l1 l2 }) :=
  .of_wp fun prog w A R s h => by
    obtain ⟨hp, g, d, tk, os⟩ := s; obtain ⟨hl1, hl2, h⟩ := h
    have hsub := sub_zip
    have hL1 : Heap.IsTuple (Shared.heap ⟨hp, g, d, tk, os⟩) l1 xs := hl1
    have hL2 : Heap.IsTuple (Shared.heap ⟨hp.push { cls := .type "tuple_iterator", data := .fields #[.ref l1, .int 0 0] }, g, d, tk, os⟩) l2 ys := Heap.IsTuple.push hl2 _
    wp_walk using wpAny_pyIter_tuple hL1, wpAny_pyIter_tuple hL2
    exact ⟨_, rfl, h⟩

section
variable {prog : Program} {w : World} {A : Around} {E : Value → Shared → Prop} {s : Shared} {xs ys : Array Value}
theorem zip_tuples {l1 l2 : Addr} {Q : Value → Shared → Prop} (hl1 : s.heap.IsTuple l1 xs) (hl2 : s.heap.IsTuple l2 ys)
    (h : ∀ h', IsZ h' (s.heap.objs.size + 4) (s.heap.objs.size + 2) (s.heap.objs.size + 3) .none (.bool false) → Zs h' (s.heap.objs.size + 4) (s.heap.objs.size + 2) (s.heap.objs.size + 3) s.heap.objs.size (s.heap.objs.size + 1) l1 l2 xs ys 0 →
      (∀ c o, s.heap.get? c = some o → h'.get? c = some o) → Q (.ref (s.heap.objs.size + 4)) { s with heap := h' }) :
    wpAny (model prog w) A (call (.type "zip") [.ref l1, .ref l2]) Q E s := by
  refine callType_new F.called_zip (by decide) (F.typeCall_zip_2 _ _) (F.newCall_zip_2 _ _) (fun obj => F.args_object_init_3 obj _ _) F.entry_zip_new (meets_zipT l1 l2 xs ys) ⟨hl1, hl2, ?_⟩
  have z1 : (zT1 s.heap l1).objs.size = s.heap.objs.size + 1 := Heap.size_push ..
  have z2 : (zT2 s.heap l1 l2).objs.size = s.heap.objs.size + 2 := by rw [Heap.size_push, z1]
  have z3 : (zT3 s.heap l1 l2).objs.size = s.heap.objs.size + 3 := by rw [Heap.size_push, z2]
  have z4 : (zT4 s.heap l1 l2).objs.size = s.heap.objs.size + 4 := by rw [Heap.size_push, z3]
  have g5 : (zT5 s.heap l1 l2).get? (zT4 s.heap l1 l2).objs.size = some _ := Heap.get?_push_size _ rfl
  have g4 : (zT5 s.heap l1 l2).get? (zT3 s.heap l1 l2).objs.size = some _ := Heap.get?_push_of_some _ (Heap.get?_push_size _ rfl)
  have g3 : (zT5 s.heap l1 l2).get? (zT2 s.heap l1 l2).objs.size = some _ := Heap.get?_push_of_some _ (Heap.get?_push_of_some _ (Heap.get?_push_size _ rfl))
  have g2 : (zT5 s.heap l1 l2).get? (zT1 s.heap l1).objs.size = some _ := Heap.get?_push_of_some _ (Heap.get?_push_of_some _ (Heap.get?_push_of_some _ (Heap.get?_push_size _ rfl)))
  have g1 : (zT5 s.heap l1 l2).get? s.heap.objs.size = some _ := Heap.get?_push_of_some _ (Heap.get?_push_of_some _ (Heap.get?_push_of_some _ (Heap.get?_push_of_some _ (Heap.get?_push_size _ rfl))))
  have kp : ∀ c o, s.heap.get? c = some o → (zT5 s.heap l1 l2).get? c = some o := fun c o x => Heap.get?_push_of_some _ (Heap.get?_push_of_some _ (Heap.get?_push_of_some _ (Heap.get?_push_of_some _ (Heap.get?_push_of_some _ x))))
  show _ ∧ _
  rw [z2, z3, z4] at g5
  rw [z1, z2] at g3
  rw [z3] at g4
  rw [z1] at g2
  rw [z4]
  refine ⟨⟨_, g5, rfl⟩, h _ g5 ⟨g3, .tup ⟨_, g1, rfl, rfl⟩ (let ⟨o, e, r⟩ := hl1; ⟨o, kp _ _ e, r⟩), .tup ⟨_, g2, rfl, rfl⟩ (let ⟨o, e, r⟩ := hl2; ⟨o, kp _ _ e, r⟩), ⟨_, g4⟩, .inl ⟨g5, _, _, g4⟩⟩ kp⟩
end
end Mine


set_option autoImplicit false
set_option linter.unusedVariables false
set_option maxRecDepth 100000
namespace Mine
open PySem PyProof.Rows
section
variable {cx : Cx} {A : Around} {w w' : Wl} {H H' : AHeap}
theorem vrs_of_get : ∀ {L : List AV} {M : List Value}, L.length = M.length → (∀ (j : Nat) a, L[j]? = some a → ∃ v, M[j]? = some v ∧ VR cx w a v) → VRs cx w L M
  | [], [], _, _ => .nil
  | [], _ :: _, h, _ => by cases h
  | _ :: _, [], h, _ => by cases h
  | a :: L, v :: M, hl, hg => by
    obtain ⟨v', e, r⟩ := hg 0 a rfl
    cases e
    exact .cons r (vrs_of_get (Nat.succ.inj hl) fun j b hb => hg (j + 1) b hb)
theorem zip_vrs {xs ys : List AV} {vs ws acc : Array Value} {no : List Addr} (r1 : VRs cx w' xs vs.toList) (r2 : VRs cx w' ys ws.toList) (hlen : xs.length = ys.length)
    (hT : ∀ T, (∀ b, b ∈ no → b < T) → Fz w' T) (p : Pr w'.s.heap no vs ws acc vs.size) : VRs cx w' (List.zipWith (fun x y => .tup [x, y]) xs ys) acc.toList := by
  refine vrs_of_get (by rw [List.length_zipWith, ← hlen, Nat.min_self]; exact (r1.size.symm.trans p.size.symm : xs.length = acc.size)) fun j a ha => ?_
  rw [List.getElem?_zipWith] at ha
  cases hx : xs[j]? with
  | none => rw [hx] at ha; cases ha
  | some x =>
    cases hy : ys[j]? with
    | none => rw [hx, hy] at ha; cases ha
    | some y =>
      rw [hx, hy] at ha
      cases ha
      obtain ⟨v, e1, q1⟩ := r1.get hx
      obtain ⟨u, e2, q2⟩ := r2.get hy
      obtain ⟨T, x', y', g1, g2, g3, g4, g5⟩ := p.at_ j (by rw [r1.size]; exact (List.getElem?_eq_some_iff.mp hx).1)
      rw [Array.getElem?_toList] at e1 e2
      rw [e1] at g2; cases g2
      rw [e2] at g3; cases g3
      exact ⟨.ref T, by rw [Array.getElem?_toList]; exact g1, .tup (n := 0) g4 (hT T g5) (show 2 ≤ LIM by decide) (.cons q1 (.cons q2 .nil))⟩
def KSq (cx : Cx) (w : Wl) (a : AV) (v : Value) (xs : List AV) : Prop := ∃ l vs n, v = .ref l ∧ VRs cx w xs vs.toList ∧ xs.length ≤ LIM ∧ ((isTp a = true ∧ IsT w.s.heap l vs n) ∨ (isTp a = false ∧ IsL w.s.heap l vs n))
theorem seq_kind {a : AV} {v : Value} (ra : VR cx w a v) : Rd cx w (seqOf a) (KSq cx w a v) := by
  cases a with
  | tup ys => exact ra.tupE fun l vs n h1 u_ h3 h4 => .pure ⟨l, vs, n, rfl, h4, h3, .inl ⟨rfl, h1⟩⟩
  | lst ys => exact ra.lstE fun l vs n h1 u_ h3 h4 => .pure ⟨l, vs, n, rfl, h4, h3, .inr ⟨rfl, h1⟩⟩
  | loc i => exact ra.locE fun l h => (listAt_rd h).mono fun xs ⟨vs, n, h1, h3, h4⟩ => ⟨l, vs, n, rfl, h4, h3, .inr ⟨rfl, h1⟩⟩
  | _ => exact .stuck
theorem zip_ok (hh : A.handled = none) : ZipOK cx A := fun w a b v u mu H r H' ra rb S h => by
  refine bind_inv h (fun xs H1 h1 h2 => ?_) fun x h1 u_ => by obtain ⟨_, c, e, _⟩ := seq_kind ra H S _ _ h1; cases e
  obtain ⟨e1, c, e2, l1, vs, n1, e3, r1, z1, k1⟩ := seq_kind ra H S _ _ h1
  cases e2
  subst e1; subst e3
  refine bind_inv h2 (fun ys H2 h3 h4 => ?_) fun x h1 u_ => by obtain ⟨_, c, e, _⟩ := seq_kind rb H1 S _ _ h1; cases e
  obtain ⟨e1, c, e2, l2, ws, n2, e3, r2, z2, k2⟩ := seq_kind rb H1 S _ _ h3
  cases e2
  subst e1; subst e3
  split at h4
  case isFalse => cases h4
  case isTrue hc =>
    rw [Bool.and_eq_true, beq_iff_eq, decide_eq_true_iff] at hc
    obtain ⟨hk, hlen⟩ := hc
    have fin : ∀ h', IsZ h' (w.s.heap.objs.size + 4) (w.s.heap.objs.size + 2) (w.s.heap.objs.size + 3) .none (.bool false) → Zs h' (w.s.heap.objs.size + 4) (w.s.heap.objs.size + 2) (w.s.heap.objs.size + 3) w.s.heap.objs.size (w.s.heap.objs.size + 1) l1 l2 vs ws 0 →
        (∀ c o, w.s.heap.get? c = some o → h'.get? c = some o) → l1 < w.s.heap.objs.size → l2 < w.s.heap.objs.size → wpAny (model cx.prog cx.w) A (PySem.call (.type "list") [.ref (w.s.heap.objs.size + 4)]) (Post cx No w (VR cx) r H') (PostX cx No w r H') { w.s with heap := h' } := by
      intro h' hz Z kp q1 q2
      refine list_zip hh (za_new q1 q2) hz Z (by rw [r1.size, r2.size, hlen]) (by rw [r1.size]; exact Nat.le_trans z1 LIM_le) fun h'' acc c' hk2 hL hP => ?_
      have hkk : ∀ b o, w.s.heap.get? b = some o → h''.get? b = some o := fun b o e => hk2 b o (fun hm => by
        have hb := Heap.lt_size e
        simp only [List.mem_cons, List.not_mem_nil, or_false] at hm
        rcases hm with q | q | q | q
        · exact absurd (q ▸ hb) (Nat.not_lt.mpr (Nat.le_add_right _ _))
        · exact absurd (q ▸ hb) (Nat.not_lt.mpr (Nat.le_add_right _ _))
        · exact absurd (q ▸ hb) (Nat.lt_irrefl _)
        · exact absurd (q ▸ hb) (Nat.not_lt.mpr (Nat.le_add_right _ _))) (kp b o e)
      have hlt : w.s.heap.objs.size + 4 < h'.objs.size := Heap.lt_size hz
      have hD : w.s.heap.get? h'.objs.size = none := Heap.get?_none_of_le (Nat.le_of_lt (Nat.lt_of_le_of_lt (Nat.le_add_right _ _) hlt))
      have hT : ∀ T, (∀ b, b ∈ [h'.objs.size, w.s.heap.objs.size + 4, w.s.heap.objs.size + 3, w.s.heap.objs.size, w.s.heap.objs.size + 1] → b < T) → Fz w T ∧ T ≠ h'.objs.size := fun T h =>
        ⟨S.new (Heap.get?_none_of_le (Nat.le_of_lt (h _ (List.mem_cons_of_mem _ (List.mem_cons_of_mem _ (List.mem_cons_of_mem _ List.mem_cons_self)))))), Nat.ne_of_gt (h _ List.mem_cons_self)⟩
      have l := Le.keeps (cx := cx) (p := No) (w := w) (s' := { w.s with heap := h'' }) hkk
      unfold newL at h4
      split at h4
      case isFalse => cases h4
      case isTrue hz3 =>
        cases mu with
        | false =>
          obtain ⟨rfl, rfl⟩ := pure_some h4
          exact ⟨w.ι, w.π, _, rfl, l, S.keeps (t := w.s.toks) hkk, .lst (n := c') hL (S.new hD) hz3 (zip_vrs (r1.mono l) (r2.mono l) hlen (fun T h => (hT T h).1) hP)⟩
        | true =>
          cases h4
          obtain ⟨e, S2⟩ := S.alloc (t := w.s.toks) (h' := h'') (a := h'.objs.size) (o := .list (List.zipWith (fun x y => .tup [x, y]) xs ys)) hkk hD (fun e => ⟨acc, c', hL, hz3, zip_vrs (r1.mono e) (r2.mono e) hlen (fun T h => ⟨fun hm => (List.mem_append.mp hm).elim (hT T h).1.1 fun q => (hT T h).2 (List.mem_singleton.mp q), (hT T h).1.2⟩) hP⟩)
          exact ⟨_, _, _, rfl, e, S2, .loc (by rw [← S.len]; exact List.getElem?_concat_length)⟩
    rcases k1 with ⟨t1, k1⟩ | ⟨t1, k1⟩
    · rcases k2 with ⟨t2, k2⟩ | ⟨t2, k2⟩
      · exact zip_tuples ⟨_, k1, rfl, _, rfl⟩ ⟨_, k2, rfl, _, rfl⟩ fun h' hz Z kp => fin h' hz Z kp (Heap.lt_size k1) (Heap.lt_size k2)
      · rw [t1, t2] at hk; cases hk
    · rcases k2 with ⟨t2, k2⟩ | ⟨t2, k2⟩
      · rw [t1, t2] at hk; cases hk
      · exact zip_lists k1.isList k2.isList fun h' hz Z kp => fin h' hz Z kp (Heap.lt_size k1) (Heap.lt_size k2)
end
end Mine


set_option autoImplicit false
set_option linter.unusedVariables false
namespace Mine
open PySem PyProof.Rows


noncomputable def mkFn (a : Arguments) (b : List Stmt) (sc : Scope) : Fn :=
  let ps := a.args.map (·.arg)
  ⟨ps, ps ++ (sc.names.filterMap fun (x, k) => if (k == .local || k == .cell) && !ps.contains x then some x else none), b, sc⟩
noncomputable def recSt : Stmt → Option DefRec
  | .FunctionDef n a b [] _ _ sc _ _ pos => some ⟨n, a, b, sc, pos⟩
  | _ => none
noncomputable def fnSt (f : Str) (st : Stmt) : Option Fn := (recSt st).bind fun d => if d.name = f then some (mkFn d.params d.body d.scope) else none
noncomputable def fnOf (p : Program) (f : Str) : Option Fn := p.main.body.findSome? (fnSt f)
noncomputable def recs (p : Program) : List DefRec := p.main.body.filterMap recSt
noncomputable def defChk (d : DefRec) : Bool := fnChk (mkFn d.params d.body d.scope) && d.name != ("__debug__" : Str) && d.params.posonlyargs.isEmpty && d.params.vararg.isNone && d.params.kwonlyargs.isEmpty && d.params.kwarg.isNone

noncomputable def subB : Stmt → Nat → List Stmt
  | .If _ b _ _, 0 => b
  | .If _ _ o _, _ => o
  | .For _ _ b _ _, _ => b
  | .While _ b _ _, _ => b
  | _, _ => []
noncomputable def bAt : List Stmt → List (Nat × Nat) → List Stmt
  | b, [] => b
  | b, (i, k) :: r => match b[i]? with
    | some s => bAt (subB s k) r
    | none => []

noncomputable def eachM : List (M AV) → M (List AV)
  | [] => pure []
  | m :: r => do
    let v ← m
    let vs ← eachM r
    pure (v :: vs)
noncomputable def lookG : List (Str × AV) → Str → Option AV
  | [], _ => none
  | p :: r, x => if x = p.1 then some p.2 else lookG r x
noncomputable def lookC : List (Str × List Str) → Str → Option (List Str)
  | [], _ => none
  | p :: r, x => if x = p.1 then some p.2 else lookC r x
noncomputable def AllG (Q : Str → AV → Prop) : List (Str × AV) → Prop
  | [] => True
  | p :: r => Q p.1 p.2 ∧ AllG Q r
theorem AllG.look {Q : Str → AV → Prop} : ∀ {l : List (Str × AV)}, AllG Q l → ∀ {x : Str} {a : AV}, lookG l x = some a → Q x a
  | [], _, _, _, e => nomatch e
  | p :: r, h, x, a, e => by
    have e : (if x = p.1 then some p.2 else lookG r x) = some a := e
    by_cases q : x = p.1
    · rw [if_pos q] at e
      cases e; rw [q]; exact h.1
    · rw [if_neg q] at e
      exact h.2.look e
noncomputable def fnD (P : Pg) (f : Str) : Fn := (P.fn f).getD ⟨[], [], [], default⟩
noncomputable def tl (P : Pg) (cf : Str → List AV → M AV) (f : Str) (path : List (Nat × Nat)) (i n : Nat) (σ : Loc) : M Res := denB P cf (fnD P f).scope (fnD P f).names n ((bAt (fnD P f).body path).drop i) σ
noncomputable def forB (P : Pg) (cf : Str → List AV → M AV) (f : Str) (path : List (Nat × Nat)) (i n : Nat) (v : AV) (σ : Loc) : M Res := match (bAt (fnD P f).body path)[i]? with
  | some (.For t _ b _ _) => do
    let σ' ← assignTo (fun σ e => den P cf n (fnD P f).scope (fnD P f).names σ e) (fnD P f).scope (fnD P f).names v σ t
    denB P cf (fnD P f).scope (fnD P f).names n b σ'
  | _ => stuck
noncomputable def whileT (P : Pg) (cf : Str → List AV → M AV) (f : Str) (path : List (Nat × Nat)) (i n : Nat) (σ : Loc) : M Bool := match (bAt (fnD P f).body path)[i]? with
  | some (.While t _ _ _) => denT (den P cf n (fnD P f).scope (fnD P f).names σ) n t
  | _ => stuck
noncomputable def whileB (P : Pg) (cf : Str → List AV → M AV) (f : Str) (path : List (Nat × Nat)) (i n : Nat) (σ : Loc) : M Res := match (bAt (fnD P f).body path)[i]? with
  | some (.While _ b _ _) => denB P cf (fnD P f).scope (fnD P f).names n b σ
  | _ => stuck

theorem b_some {α β : Type} {m : M α} {f : α → M β} {H H1 : AHeap} {a : α} (h1 : m H = some (.ok a, H1)) : (m >>= f) H = f a H1 := by
  show (Option.bind (m H) _) = _
  rw [h1]; rfl
theorem bind_of {α β : Type} {m : M α} {f : α → M β} {H H1 : AHeap} {a : α} {r : Except Str β × AHeap} (h1 : m H = some (.ok a, H1)) (h2 : f a H1 = some r) : (m >>= f) H = some r := (b_some h1).trans h2

theorem denB_try {P : Pg} {cf : Str → List AV → M AV} {sc : Scope} {ns : List Str} {n : Nat} {body : List Stmt} {σ : Loc} {H : AHeap} {q : Except Str Res × AHeap} (h : denB P cf sc ns n body σ H = some q) : tryOf body = none := by
  cases n with
  | zero => cases body with
    | nil => rfl
    | cons s r => cases h
  | succ n => cases body with
    | nil => rfl
    | cons s r => cases s with
      | Try b hs o f p => cases h
      | _ => rfl
theorem tl_body {P : Pg} {cf ch : Str → List AV → M AV} {f : Str} {σ : Loc} {H : AHeap} {q : Except Str Res × AHeap} (h : tl P cf f [] 0 40 σ H = some q) : bodyRun P cf ch (fnD P f).scope (fnD P f).names (fnD P f).body σ = (do let r ← tl P cf f [] 0 40 σ; resV r) := by
  have h : denB P cf (fnD P f).scope (fnD P f).names 40 (fnD P f).body σ H = some q := h
  unfold bodyRun
  rw [denB_try h]
  rfl
theorem call_body {P : Pg} {n : Nat} {f : Str} {as : List AV} {σ : Loc} (hf : P.fn f = some (fnD P f)) (hl : as.length = (fnD P f).params.length) (hσ : as.map some ++ List.replicate ((fnD P f).names.length - as.length) none = σ) :
    callP P (n + 1) f as = bodyRun P (callP P n) (callP P.off n) (fnD P f).scope (fnD P f).names (fnD P f).body σ := by
  unfold callP cN
  rw [hf]
  simp only [hl, if_true]
  rw [hl] at hσ
  rw [hσ]
theorem callR {P : Pg} {n : Nat} {f : Str} {as : List AV} {σ : Loc} (hf : P.fn f = some (fnD P f)) (hl : as.length = (fnD P f).params.length) (hσ : as.map some ++ List.replicate ((fnD P f).names.length - as.length) none = σ) {a : AV} {H H' : AHeap}
    (h : tl P (callP P n) f [] 0 40 σ H = some (.ok (.ret a), H')) : callP P (n + 1) f as H = some (.ok a, H') := by
  rw [call_body hf hl hσ, tl_body h]
  exact b_some h
theorem callN {P : Pg} {n : Nat} {f : Str} {as : List AV} {σ : Loc} (hf : P.fn f = some (fnD P f)) (hl : as.length = (fnD P f).params.length) (hσ : as.map some ++ List.replicate ((fnD P f).names.length - as.length) none = σ) {σ' : Loc} {H H' : AHeap}
    (h : tl P (callP P n) f [] 0 40 σ H = some (.ok (.next σ'), H')) : callP P (n + 1) f as H = some (.ok .none, H') := by
  rw [call_body hf hl hσ, tl_body h]
  exact b_some h
theorem callX {P : Pg} {n : Nat} {f : Str} {as : List AV} {σ : Loc} (hf : P.fn f = some (fnD P f)) (hl : as.length = (fnD P f).params.length) (hσ : as.map some ++ List.replicate ((fnD P f).names.length - as.length) none = σ) {x : Str} {H H' : AHeap}
    (h : tl P (callP P n) f [] 0 40 σ H = some (.error x, H')) : callP P (n + 1) f as H = some (.error x, H') := by
  rw [call_body hf hl hσ, tl_body h]
  show Option.bind (tl P (callP P n) f [] 0 40 σ H) _ = _
  rw [h]; rfl

theorem callQ {P : Pg} {n : Nat} {f : Str} {as : List AV} {σ : Loc} (hf : P.fn f = some (fnD P f)) (hl : as.length = (fnD P f).params.length) (hσ : as.map some ++ List.replicate ((fnD P f).names.length - as.length) none = σ) {a : AV}
    (h : tl P (callP P n) f [] 0 40 σ = pure (.ret a)) : callP P (n + 1) f as = pure a := by
  funext H
  exact callR hf hl hσ (by rw [h]; rfl)

theorem e_each0 : eachM [] = pure [] := rfl
theorem e_eachp {a : AV} {r : List (M AV)} : eachM (pure a :: r) = (do let vs ← eachM r; pure (a :: vs)) := rfl
theorem e_go_next {m : Loc → M Res} {σ : Loc} : goOn m (.next σ) = m σ := rfl
theorem e_go_ret {m : Loc → M Res} {a : AV} : goOn m (.ret a) = pure (.ret a) := rfl
theorem e_truth {b : Bool} : truth (.bool b) = pure b := rfl
theorem e_lt {i j : Int} : pCmp .Lt (.int i) (.int j) = pure (decide (i < j)) := rfl
theorem e_le {i j : Int} : pCmp .LtE (.int i) (.int j) = pure (decide (i ≤ j)) := rfl
theorem e_gt {i j : Int} : pCmp .Gt (.int i) (.int j) = pure (decide (j < i)) := rfl
theorem e_eqi {i j : Int} : pCmp .Eq (.int i) (.int j) = pure (decide (i = j)) := by
  funext H
  show some (Except.ok (i == j), H) = some (Except.ok (decide (i = j)), H)
  have : (i == j) = decide (i = j) := by by_cases h : i = j <;> simp [h]
  rw [this]
theorem e_len_lst {mu : Bool} {xs : List AV} : pBI mu .len [.lst xs] = pure (.int xs.length) := rfl
theorem e_len_tup {mu : Bool} {xs : List AV} : pBI mu .len [.tup xs] = pure (.int xs.length) := rfl
theorem e_item_lst {xs : List AV} {k : Nat} {a : AV} (h : xs[k]? = some a) : pItem (.lst xs) (.int k) = pure a := by
  have hk : k < xs.length := (List.getElem?_eq_some_iff.mp h).1
  have hi : idx (k : Int) xs.length = some k := by
    unfold idx
    rw [if_pos (by (first | lia | omega)), if_pos (by (first | lia | omega))]; simp
  funext H
  show (ofOpt ((idx (k : Int) xs.length).bind fun j => xs[j]?) : M AV) H = _
  rw [hi]
  show (ofOpt xs[k]? : M AV) H = _
  rw [h]; rfl
theorem e_item_tup {xs : List AV} {k : Nat} {a : AV} (h : xs[k]? = some a) : pItem (.tup xs) (.int k) = pure a := by
  have hk : k < xs.length := (List.getElem?_eq_some_iff.mp h).1
  have hi : idx (k : Int) xs.length = some k := by
    unfold idx
    rw [if_pos (by (first | lia | omega)), if_pos (by (first | lia | omega))]; simp
  funext H
  show (ofOpt ((idx (k : Int) xs.length).bind fun j => xs[j]?) : M AV) H = _
  rw [hi]
  show (ofOpt xs[k]? : M AV) H = _
  rw [h]; rfl
theorem e_newL {xs : List AV} (h : xs.length ≤ LIM) : newL false xs = pure (.lst xs) := by
  funext H; unfold newL; rw [if_pos h]
theorem m_add {mu : Bool} {i j : Int} : pBin mu .Add (.int i) (.int j) = pure (.int (i + j)) := rfl
theorem m_sub {mu : Bool} {i j : Int} : pBin mu .Sub (.int i) (.int j) = pure (.int (i - j)) := rfl
theorem m_mulL {mu : Bool} {i j : Int} (h : i.natAbs < 2 ^ 64) : pBin mu .Mult (.int i) (.int j) = pure (.int (i * j)) := if_pos (.inr h)
theorem m_mulR {mu : Bool} {i j : Int} (h : j.natAbs < 2 ^ 64) : pBin mu .Mult (.int i) (.int j) = pure (.int (i * j)) := if_pos (.inl h)
theorem m_mod {mu : Bool} {i j : Int} (h : j ≠ 0) : pBin mu .Mod (.int i) (.int j) = pure (.int (i.fmod j)) := if_neg h
theorem m_div {mu : Bool} {i j : Int} (h : j ≠ 0 ∧ j.natAbs < 1073741824) : pBin mu .FloorDiv (.int i) (.int j) = pure (.int (i.fdiv j)) := if_neg (by (first | lia | omega))
theorem fmod_lt (a : Int) {b : Int} (h : 0 < b) : 0 ≤ a.fmod b ∧ a.fmod b < b := ⟨Int.fmod_nonneg_of_pos a h, Int.fmod_lt_of_pos a h⟩
end Mine


set_option autoImplicit false
set_option linter.unusedVariables false
namespace Mine
open PySem PyProof.Rows PySem.SeqAt PySem.W


theorem items_ints : ∀ {xs : List WData} {R : WRecords}, WShape.hasItems R xs .int = true → ∃ ns : List Int, xs = ns.map .int
  | [], _, _ => ⟨[], rfl⟩
  | d :: r, R, h => by
    have h' : WShape.has R d .int = true ∧ WShape.hasItems R r .int = true := by simpa [WShape.hasItems] using h
    obtain ⟨i, rfl⟩ := hasW_int h'.1
    obtain ⟨ns, rfl⟩ := items_ints h'.2
    exact ⟨i :: ns, rfl⟩

theorem law_args {l : OpenLaw} {args : List WData} (hm : l.most = some 63) (hb : l.bound = none) (hpre : l.row.toRowW.claim.pre args = true) : ∃ ns : List Int, ns.length ≤ 63 ∧ args = [.list (ns.map .int)] := by
  obtain ⟨h1, h2⟩ := pre_splitW hpre
  have h1' : WShape.hasAll [] args [.list .int] = true := h1
  obtain ⟨d, r, rfl, hd, hr⟩ := hasAllW_cons h1'
  have := hasAllW_nil hr
  subst this
  obtain ⟨xs, rfl, hx⟩ := hasW_list hd
  obtain ⟨ns, rfl⟩ := items_ints hx
  refine ⟨ns, ?_, rfl⟩
  have h3 : l.pre.holds [] { args := [.list (ns.map .int)] } = true := h2
  unfold OpenLaw.pre at h3
  rw [hm, hb] at h3
  have h4 := (holds_andW h3).1
  simp [WTm.holds, WTm.value] at h4
  have h5 : less? (WData.int 63) (WData.int ns.length) = some (decide ((63 : Int) < ns.length)) := by simp [less?, Num.less?]
  rw [h5] at h4
  by_cases hc : (63 : Int) < ns.length
  · rw [decide_eq_true hc] at h4; cases h4
  · omega

theorem ints_read {R : WRecords} {cl : Str → Option Addr} {h : Heap} {cx : Cx} {w : Wl} : ∀ {ns : List Int} {vs : List Value} {as : List Addr}, ReadsAllW R cl h vs (ns.map .int) as → VRs cx w (ns.map .int) vs
  | [], vs, as, r => by cases r; exact .nil
  | n :: ns, vs, as, r => by
    cases r with
    | cons r1 r2 => cases r1; exact .cons .int (ints_read r2)

noncomputable def usedNames : List Str := ["len", "list", "tuple", "dict", "int", "range", "min", "max", "any", "sorted", "isinstance", "bool", "str", "zip", "enumerate", "ValueError"]
noncomputable def freeOk (q : Program) (loose : List Str) : Bool := usedNames.all fun x => !startupNames.contains x && !(looseW q loose).contains x && !((recsOf q).map (·.name)).contains x && !((litsOf q).map (·.1)).contains x && !((clssOf q (looseW q loose)).map (·.name)).contains x

theorem free_of {q : Program} {loose : List Str} {mean : ExcName → Option Value} {mg mb : Str → Option Value} {h : Heap} (T : Top q (looseW q loose) mean mg mb h) (hf : freeOk q loose = true) {x : Str} (hx : x ∈ usedNames) : mg x = none := by
  have := List.all_eq_true.mp hf x hx
  simp only [Bool.and_eq_true, Bool.not_eq_true', List.contains_eq_mem, decide_eq_false_iff_not] at this
  obtain ⟨⟨⟨⟨a1, a2⟩, a3⟩, a4⟩, a5⟩ := this
  exact T.free x a1 a2 a3 a4 a5

theorem boot_bi : ∀ x b, biOf x = some b → x ∈ usedNames ∧ bootBuiltins x = some (biV b) ∧ x ≠ "__name__" := by
  intro x b h
  unfold biOf at h
  repeat' (split at h)
  all_goals first | (cases h; done) | skip
  all_goals (cases h; subst_vars; exact ⟨by decide, by decide +kernel, by decide⟩)
theorem boot_ty : ∀ x t, tyOf x = some t → x ∈ usedNames ∧ bootBuiltins x = some (.type (tyStr t)) ∧ x ≠ "__name__" := by
  intro x b h
  unfold tyOf at h
  repeat' (split at h)
  all_goals first | (cases h; done) | skip
  all_goals (cases h; subst_vars; exact ⟨by decide, by decide +kernel, by decide⟩)

structure DefIs (q : Program) (f : Str) (fn : Fn) : Prop where
  chk : fnChk fn = true
  nd : (f == ("__debug__" : Str)) = false
  dfn : ∃ d ∈ recsOf q, d.name = f ∧ d.body = fn.body ∧ d.scope = fn.scope ∧ d.params.posonlyargs = [] ∧ d.params.args.map (·.arg) = fn.params ∧ d.params.vararg = none ∧ d.params.kwonlyargs = [] ∧ d.params.kwarg = none

def XC (cl : Str → Option (List Str)) (mg : Str → Option Value) (h : Heap) : Prop := ∀ c cs, cl c = some cs → (c == ("__debug__" : Str)) = false ∧ ∃ C vs, mg c = some (.ref C) ∧ ExCls h C vs ∧
    ∀ x xs D, cl x = some xs → mg x = some (.ref D) → (Value.ref C :: (vs ++ VEm)).contains (.ref D) = (decide (x = c) || cs.contains x)
theorem XC.keeps {cl : Str → Option (List Str)} {mg : Str → Option Value} {h h' : Heap} (x : XC cl mg h) (hk : ∀ b o, h.get? b = some o → h'.get? b = some o) : XC cl mg h' :=
  fun c cs e => let ⟨h1, C, vs, h2, h3, h4⟩ := x c cs e; ⟨h1, C, vs, h2, h3.keeps hk, h4⟩
theorem walk_law {l : OpenLaw} {q : Program} {loose : List Str} {XP : (Str → Option Value) → Heap → Prop} {YP : World → Heap → Prop} {d : DefRec} {kwd : List (Str × Expr)} {P : Pg} {N : Nat}
    (hm : l.most = some 63) (hbd : l.bound = none) (hfree : freeOk q loose = true) (hfn : ∀ f fn, P.fn f = some fn → DefIs q f fn) (hdn : d.name = ("law" : Str)) (hN : N ≤ 200)
    (hgl : ∀ (w : World) (mean : ExcName → Option Value) (mg mb : Str → Option Value) (h : Heap) (os : OsState), XP mg h → YP w h → Top q (looseW q loose) mean mg mb h → ∀ x a, P.glob x = some a → ∃ v, mg x = some v ∧ ∀ w' H, St ⟨l.prog, w, h, os, mg, mb, [], none⟩ w' H → VR ⟨l.prog, w, h, os, mg, mb, [], none⟩ w' a v)
    (hcl : ∀ mg h, XP mg h → XC P.cls mg h)
    (hrun : ∀ ns : List Int, ns.length ≤ 63 → ∃ H', callP P N ("law" : Str) [.lst (ns.map .int)] [] = some (.ok (.bool true), H')) :
    WalkO q loose XP YP l.row.toRowW d kwd fun f vs => PySem.call f vs := by
  intro w s₀ s₁ mg mb G Y fa o pm cd doc dV kV ho hod hcd hD hmg hgens args vals as hpre hlay hrd hwl hlo
  obtain ⟨ns, hlen, rfl⟩ := law_args hm hbd hpre
  have T := G.T
  let cx : Cx := ⟨l.prog, w, s₁.heap, s₁.os, mg, mb, [], none⟩
  have hG : Good cx P := by
    refine ⟨T.g, T.b, T.nolimit, fun x a hx => hgl w _ mg mb s₁.heap s₁.os G.X Y T x a hx, ?_, ?_, ?_, ?_, ?_, ?_, hcl _ _ G.X⟩
    · intro x b hx
      obtain ⟨h1, h2, h3⟩ := boot_bi x b hx
      exact ⟨free_of T hfree h1, (T.builtins x h3).trans h2⟩
    · exact ⟨free_of T hfree (by decide), (T.builtins _ (by decide)).trans (by decide +kernel)⟩
    · intro x t hx
      obtain ⟨h1, h2, h3⟩ := boot_ty x t hx
      exact ⟨free_of T hfree h1, (T.builtins x h3).trans h2⟩
    · exact ⟨free_of T hfree (by decide), (T.builtins _ (by decide)).trans (by decide +kernel)⟩
    · exact ⟨free_of T hfree (by decide), (T.builtins _ (by decide)).trans (by decide +kernel)⟩
    · exact ⟨free_of T hfree (by decide), (T.builtins _ (by decide)).trans (by decide +kernel)⟩
  have hF : ∀ f fn, P.fn f = some fn → FnOK cx f fn := fun f fn hf => by
    obtain ⟨c1, c2, d', hd', rfl, e1, e2, e3, e4, e5, e6, e7⟩ := hfn f fn hf
    obtain ⟨a', o', pm', cd', doc', g1, g2, g3, g4⟩ := T.fn d' hd'
    refine ⟨c2, c1, a', o', pm', cd', doc', d'.params, g1, g2, by rw [← e1, ← e2]; exact g3, g4, fun vs hvs => ?_⟩
    have hnd : fn.params.Nodup := by
      unfold fnChk at c1
      simp only [Bool.and_eq_true, decide_eq_true_eq] at c1
      exact c1.1.1.2
    exact bindArgs_plain e3 e4 e5 e6 e7 hnd hvs
  have hS : St cx ⟨[], [], s₁⟩ [] := ⟨fun u_ u_ e => ⟨e, List.not_mem_nil, List.not_mem_nil⟩, rfl, List.nodup_nil, fun u_ h => (nomatch h), fun u_ h => (nomatch h), fun l a o h u_ => (nomatch h), hgens, rfl, let ⟨_, ⟨o, _, _, ho, _⟩, _⟩ := T.nodigits; ⟨o, ho⟩⟩
  have hC : CallOK cx callerA P (callP P N) := callN_rf (cx := cx) (fun l d A hh => zip_ok hh) N P callerA [] none [] rfl hF hG (fun u_ => rfl) rfl ⟨fun u_ h => (nomatch h), fun u_ h => (nomatch h)⟩ (by show 4 + 3 * N + 100 < cLine; have : cLine = 9900 := rfl; omega) (by show 1 + claimMargin + N < recursionLimit; have : claimMargin = 300 := rfl; have : recursionLimit = 1000 := rfl; omega)
  obtain ⟨H', hr⟩ := hrun ns hlen
  have hsome : (P.fn ("law" : Str)).isSome = true := by
    cases N with
    | zero => cases hr
    | succ n =>
      unfold callP cN at hr
      cases hf : P.fn ("law" : Str) with
      | none => rw [hf] at hr; cases hr
      | some fn => rfl
  obtain ⟨_, fa', o', fd', r1, r2, r3, r4⟩ := hC _ hsome
  rw [hdn] at hmg
  have hfa : fa' = fa := by
    have : some (Value.ref fa') = some (.ref fa) := r1.symm.trans hmg
    injection this with this
    injection this
  subst hfa
  cases hrd with
  | cons rd1 rd2 =>
    cases rd2
    cases hwl with
    | cons w1 w2 =>
      cases w1 with
      | @list a vs xs hga hwa =>
        have hv : VRs cx ⟨[], [], s₁⟩ [.lst (ns.map .int)] [.ref a] := by
          refine .cons (.lst (n := 0) hga ⟨List.not_mem_nil, List.not_mem_nil⟩ (by rw [List.length_map]; exact Nat.le_trans hlen (by decide)) ?_) .nil
          cases rd1 with
          | list q1 q2 q3 q4 =>
            rw [hga] at q1
            cases q1
            cases q3
            exact ints_read q4
        refine wpAny_mono (r4 _ _ [.ref a] (fun u_ h => (nomatch h)) (fun u_ h => (nomatch h)) hv [] hS _ _ hr) (fun v s' z_ => z_.el fun ι' π' c e l S' rv => ?_) fun u_ u_ z_ => z_.out
        cases e
        rw [show v = .bool true from rv]
        refine GoodW.toG ⟨.inl ⟨_, .bool true, [], rfl, fun u_ => rfl, .bool true, ?_, fun u_ => ⟨List.nodup_nil, fun u_ h => (nomatch h)⟩⟩, fun b o e => (S'.base b o e).1, S'.os, S'.gens⟩
        exact postW_of (X := true) rfl (by show WTm.value [] (.eq .res (.lit (.bool true))) _ = _; simp [WTm.value, same_self]) rfl
end Mine


set_option autoImplicit false
set_option linter.unusedVariables false
namespace Mine
open PySem PyProof.Rows PySem.W

theorem defs_ok {p q : Program} (hr : recsOf q = recs p) (hc : (recs p).all defChk = true) : ∀ f fn, fnOf p f = some fn → DefIs q f fn := by
  intro f fn h
  unfold fnOf at h
  obtain ⟨st, hst, h1⟩ := List.exists_of_findSome?_eq_some h
  obtain ⟨d, hst1, h2⟩ := Option.bind_eq_some_iff.mp h1
  obtain ⟨hn, h3⟩ := Option.ite_none_right_eq_some.mp h2
  clear h1 h2 h
  subst hn
  cases h3
  have hd : d ∈ recs p := List.mem_filterMap.mpr ⟨st, hst, hst1⟩
  have hk := List.all_eq_true.mp hc _ hd
  unfold defChk at hk
  simp only [Bool.and_eq_true, bne_iff_ne, ne_eq, List.isEmpty_iff, Option.isNone_iff_eq_none] at hk
  obtain ⟨⟨⟨⟨⟨k1, k2⟩, k3⟩, k4⟩, k5⟩, k6⟩ := hk
  exact ⟨k1, beq_eq_false_iff_ne.mpr k2, _, hr ▸ hd, rfl, rfl, rfl, k3, rfl, k4, k5, k6⟩
end Mine


set_option autoImplicit false
set_option linter.unusedVariables false
namespace Mine
open PySem PyProof.Rows PySem.W

noncomputable def keepSt : Stmt → Bool
  | .Assign [.Name x _] _ _ => !(x == ("__name__" : Str))
  | _ => true
noncomputable def viewOf (p : Program) : Program := { p with main := { p.main with body := p.main.body.filter keepSt } }
noncomputable def noDef : DefRec × List (Str × Expr) := (⟨"", ⟨[], [], none, [], [], none, []⟩, [], default, default⟩, [])
noncomputable def lawDef (q : Program) : DefRec × List (Str × Expr) := (defOf q "law").getD noDef

abbrev Tbl := List (Str × Addr × (Params → Obj))
noncomputable def tblF (D : Tbl) (s : Shared) : List (Option Obj) := D.map fun d => s.heap.get? d.2.1
noncomputable def tblA (D : Tbl) (w : World) : List (Option Obj) := D.map fun d => some (d.2.2 w.params)
noncomputable def tblP (D : Tbl) (w : World) (h : Heap) : Prop := ∀ d ∈ D, h.get? d.2.1 = some (d.2.2 w.params)
noncomputable def isAt (a : Addr) : Option Value → Bool
  | some (.ref b) => Nat.beq b a
  | _ => false
noncomputable def tblX (D : Tbl) (s : Shared) : Bool := D.all fun d => isAt d.2.1 (s.heap.nsMap mainGlobals d.1)
noncomputable def tblXP (D : Tbl) (mg : Str → Option Value) : Prop := ∀ d ∈ D, mg d.1 = some (.ref d.2.1)
theorem isAt_of {a : Addr} {v : Option Value} (h : isAt a v = true) : v = some (.ref a) := by
  unfold isAt at h
  split at h
  · rw [Nat.eq_of_beq_eq_true h]
  · cases h

noncomputable def noClsOk (h : Heap) (name : Str) : Bool := match h.clsAt mainGlobals name with
  | some (_, _, cd) => h.isNs cd.ns && (h.nsMap cd.ns "__class__").isNone
  | none => false
noncomputable def clsOk (cl : List (Str × List Str)) (h : Heap) : Bool :=
  (cl.all fun p => !(p.1 == ("__debug__" : Str)) && h.ownExcOk p.1 p.2 VEm "ValueError.__new__" && h.quietOk p.1 && noClsOk h p.1 && p.2.all fun n => (lookC cl n).isSome) &&
    cl.all fun p => cl.all fun q => p.1 == q.1 || !(h.nsMap mainGlobals p.1 == h.nsMap mainGlobals q.1)
set_option tactic.hygienic true in
theorem lookC_mem {cl : List (Str × List Str)} {x : Str} {cs : List Str} : lookC cl x = some cs → (x, cs) ∈ cl := by
  induction cl with
  | nil => intro h; cases h
  | cons p r ih =>
    intro h
    unfold lookC at h
    split at h
    · rename_i e
      cases h; rw [e]; exact List.mem_cons_self
    · exact List.mem_cons_of_mem _ (ih h)
theorem noC_of {h : Heap} {n : Str} (z : noClsOk h n = true) : NoC h ((h.nsMap mainGlobals n).getD .none) := by
  unfold noClsOk at z
  cases hf : h.clsAt mainGlobals n with
  | none => rw [hf] at z; cases z
  | some y =>
    obtain ⟨C, o, cd⟩ := y
    rw [hf] at z
    obtain ⟨hn, ho, hd⟩ := Heap.clsAt_spec hf
    obtain ⟨oc, dd, dt, sl⟩ := o
    obtain rfl : dt = _ := hd
    have z := Bool.and_eq_true_iff.mp z
    exact ⟨C, oc, dd, cd, sl, _, by rw [hn]; rfl, ho, .of_isNs z.1, Option.isNone_iff_eq_none.mp z.2⟩
theorem clsOk_of {cl : List (Str × List Str)} {h : Heap} (k : clsOk cl h = true) : XC (lookC cl) (h.nsMap mainGlobals) h := by
  obtain ⟨k1, k2⟩ := Bool.and_eq_true_iff.mp k
  have at1 : ∀ {c cs}, lookC cl c = some cs → (c == ("__debug__" : Str)) = false ∧ h.ownExcOk c cs VEm "ValueError.__new__" = true ∧ h.quietOk c = true ∧ noClsOk h c = true ∧ ∀ n ∈ cs, ∃ ds, lookC cl n = some ds := fun {c cs} e => by
    have := List.all_eq_true.mp k1 _ (lookC_mem e)
    simp only [Bool.and_eq_true, Bool.not_eq_true'] at this
    obtain ⟨⟨⟨⟨a1, a2⟩, a3⟩, a4⟩, a5⟩ := this
    exact ⟨a1, a2, a3, a4, fun n hn => Option.isSome_iff_exists.mp (List.all_eq_true.mp a5 n hn)⟩
  have inj : ∀ {x y cs ds}, lookC cl x = some cs → lookC cl y = some ds → h.nsMap mainGlobals x = h.nsMap mainGlobals y → x = y := fun {x y cs ds} e1 e2 e => by
    have := List.all_eq_true.mp (List.all_eq_true.mp k2 _ (lookC_mem e1)) _ (lookC_mem e2)
    rw [Bool.or_eq_true] at this
    rcases this with q | q
    · exact beq_iff_eq.mp q
    · have e : h.nsMap mainGlobals (x, cs).1 = h.nsMap mainGlobals (y, ds).1 := e
      rw [e, beq_self_eq_true] at q; cases q
  intro c cs e
  obtain ⟨a1, a2, a3, a4, a5⟩ := at1 e
  obtain ⟨C, N, nm, q, bs, hdct, sn, sub, ab, col, dd, k0, k1', k2', k3, k5, hb, hC, hN, hq⟩ := Heap.ownExcQ_of_ok a2 a3
  have hcl : h.nsMap N "__class__" = none := by
    obtain ⟨b, c0, dd', cd, sl, m, z1, z2, z3, z4⟩ := noC_of a4
    rw [hb] at z1
    cases z1
    rw [hC] at z2
    cases z2
    rw [z3.eq_nsMap] at z4
    exact z4
  refine ⟨a1, C, _, hb, ⟨⟨N, nm, q, bs, hdct, sn, sub, ab, col, dd, k0, k1', k2', k3, k5, _, hC, hN, hq, hcl⟩, OwnTailQ.of_chain cs fun n hn => ?_, fun v hv => ?_⟩, fun x xs D e2 e3 => ?_⟩
  · obtain ⟨ds, hd⟩ := a5 n hn
    obtain ⟨_, b2, b3, _⟩ := at1 hd
    exact ⟨⟨_, _, _, b2⟩, b3⟩
  · obtain ⟨n, hn, rfl⟩ := List.mem_map.mp hv
    obtain ⟨ds, hd⟩ := a5 n hn
    exact noC_of (at1 hd).2.2.2.1
  · have h1 : (Value.ref C == Value.ref D) = decide (x = c) := by
      by_cases q : x = c
      · subst q
        rw [hb] at e3; cases e3
        rw [beq_self_eq_true, decide_eq_true rfl]
      · rw [decide_eq_false q, beq_eq_false_iff_ne]
        intro z
        exact q (inj e2 e (by rw [e3, hb, z]))
    have h2 : VEm.contains (Value.ref D) = false := by rfl
    have h3 : (cs.map fun n => (h.nsMap mainGlobals n).getD .none).contains (Value.ref D) = cs.contains x := by
      rw [Bool.eq_iff_iff, List.contains_iff_mem, List.contains_iff_mem, List.mem_map]
      constructor
      · rintro ⟨n, hn, q⟩
        obtain ⟨ds, hd⟩ := a5 n hn
        obtain ⟨C', _, _, _, _, _, _, _, _, _, _, _, _, _, _, _, hb', _⟩ := Heap.ownExcQ_of_ok (at1 hd).2.1 (at1 hd).2.2.1
        rw [hb'] at q
        have q : Value.ref C' = Value.ref D := q
        have : n = x := inj hd e2 (by rw [hb', e3, q])
        exact this ▸ hn
      · intro hn
        exact ⟨x, hn, by rw [e3]; rfl⟩
    rw [List.contains_cons, show (Value.ref D == Value.ref C) = (Value.ref C == Value.ref D) from BEq.comm, h1, List.contains_append, h2, h3, Bool.or_false]
theorem head_law {l : OpenLaw} {q : Program} {loose : List Str} {D : Tbl} {cl : List (Str × List Str)} {N n : Nat} {P : Pg} (k : l.wellSaid = true)
    (hl : LeftO l.row.prog q loose (fun s => xlAt q [] s && recOk (RowW.records l.row.toRowW) s && tblX D s && clsOk cl s.heap) (tblF D) (tblA D) N)
    (hdef : defOf q l.row.name = some (lawDef q)) (hp : l.row.prog.theDef l.row.name = some ((lawDef q).1.params, (lawDef q).1.body, (lawDef q).1.scope)) (hk : kwWritten? (lawDef q).1.params.kwonlyargs (lawDef q).1.params.kw_defaults = some (lawDef q).2)
    (hwr : (!l.row.writes || l.row.records.isEmpty) = true) (ok : (chainsOk q && opensWell l.row.prog && (frees l.row.toRowW && l.row.within.isEmpty)) = true) (hb : l.row.prog.bare) (hw : l.row.toRowW.promised)
    (hm : l.most = some 63) (hbd : l.bound = none) (hfree : freeOk q loose = true) (hfn : ∀ f fn, P.fn f = some fn → DefIs q f fn) (hdn : (lawDef q).1.name = ("law" : Str)) (hN : n ≤ 200) (hpc : P.cls = lookC cl)
    (hgl : ∀ (w : World) (mean : ExcName → Option Value) (mg mb : Str → Option Value) (h : Heap) (os : OsState), tblXP D mg → tblP D w h → Top q (looseW q loose) mean mg mb h → ∀ x a, P.glob x = some a → ∃ v, mg x = some v ∧ ∀ w' H, St ⟨l.prog, w, h, os, mg, mb, [], none⟩ w' H → VR ⟨l.prog, w, h, os, mg, mb, [], none⟩ w' a v)
    (hrun : ∀ ns : List Int, ns.length ≤ 63 → ∃ H', callP P n ("law" : Str) [.lst (ns.map .int)] [] = some (.ok (.bool true), H')) : l.Holds :=
  holds_law k fun said => holds_open (q := q) (loose := loose) (XP := fun mg h => (XL q [] mg h ∧ tblXP D mg) ∧ XC (lookC cl) mg h) (YP := tblP D) (N := N) hl (fun w s e d hd => (List.map_inj_left.mp e) d hd) (fun w h h' y hk d hd => hk _ _ (y d hd))
    (fun s e => have e' := (Bool.and_eq_true_iff.mp e).1; ⟨⟨xl_of s (Bool.and_eq_true_iff.mp (Bool.and_eq_true_iff.mp e').1).1, fun d hd => isAt_of (List.all_eq_true.mp (Bool.and_eq_true_iff.mp e').2 d hd)⟩, clsOk_of (Bool.and_eq_true_iff.mp e).2⟩) (fun mg h h' x hk => ⟨⟨XL.keeps mg h h' x.1.1 hk, x.1.2⟩, x.2.keeps hk⟩) hdef hp hk
    (fun s e => recFacts_of (Bool.and_eq_true_iff.mp (Bool.and_eq_true_iff.mp (Bool.and_eq_true_iff.mp e).1).1).2) hwr said ok hb hw (walk_law hm hbd hfree hfn hdn hN (fun w mean mg mb h os x y T => hgl w mean mg mb h os x.1.2 y T) (fun mg h x => hpc ▸ x.2) hrun)

noncomputable def dObj (es : List (Str × Tok × Str × Tok)) (n : Nat) (P : Params) : Obj := { cls := .type "dict", data := .dict (es.map fun e => (⟨PyData.keyHash P e.1, .str e.1 e.2.1, .str e.2.2.1 e.2.2.2⟩ : DictEntry)).toArray n }
noncomputable def tObj (es : List (Str × Tok)) (P : Params) : Obj := { cls := .type "tuple", data := .seq (es.map fun e => Value.str e.1 e.2).toArray }
theorem strs_vrs {cx : Cx} {w : Wl} : ∀ es : List (Str × Tok), VRs cx w (es.map fun e => .str e.1) (es.map fun e => Value.str e.1 e.2)
  | [] => .nil
  | e :: r => .cons .str (strs_vrs r)
abbrev Gl (cx : Cx) (x : Str) (a : AV) : Prop := ∃ v, cx.mg x = some v ∧ ∀ w H, St cx w H → VR cx w a v
theorem gl_tup {cx : Cx} {D : Tbl} {x : Str} {a : Addr} {es : List (Str × Tok)} (X : tblXP D cx.mg) (Y : tblP D cx.w cx.h₀) (hd : (x, a, tObj es) ∈ D) (hl : decide (es.length < 100) = true) : Gl cx x (.tup (es.map fun e => .str e.1)) :=
  ⟨.ref a, X _ hd, fun w H S => .tup (n := 0) (S.base _ _ (Y _ hd)).1 (S.base _ _ (Y _ hd)).2 (by rw [List.length_map]; exact Nat.le_trans (Nat.le_of_lt (of_decide_eq_true hl)) (by decide)) (strs_vrs es)⟩
theorem gl_int {cx : Cx} {h : Heap} {q : Program} {loose : List Str} {mean : ExcName → Option Value} {x : Str} {i : Int} (T : Top q loose mean cx.mg cx.mb h) (hv : valOf q x = some (.int i)) : Gl cx x (.int i) := by
  obtain ⟨v, h1, h2⟩ := T.const x _ hv
  have h3 := h2 h
  cases h3
  exact ⟨_, h1, fun u_ u_ u_ => .int⟩
theorem pairs_str {prog : Program} {w : World} : ∀ es : List (Str × Tok × Str × Tok), Pairs (strKind prog w) (es.map fun e => (⟨PyData.keyHash w.params e.1, .str e.1 e.2.1, .str e.2.2.1 e.2.2.2⟩ : DictEntry)) (es.map fun e => (e.1, Value.str e.2.2.1 e.2.2.2))
  | [] => .nil
  | e :: r => .cons (strKind_is prog w e.1 e.2.1) rfl (pairs_str r)
theorem strs_of : ∀ es : List (Str × Tok × Str × Tok), StrVs (es.map fun e => e.2.2.1) (es.map fun e => Value.str e.2.2.1 e.2.2.2)
  | [] => rfl
  | e :: r => ⟨_, _, rfl, strs_of r⟩
theorem gl_dict {cx : Cx} {D : Tbl} {x : Str} {a : Addr} {es : List (Str × Tok × Str × Tok)} {n : Nat} (X : tblXP D cx.mg) (Y : tblP D cx.w cx.h₀) (hd : (x, a, dObj es n) ∈ D) (hn : (es.map (·.1)).Nodup) : Gl cx x (.cdict (es.map fun e => (e.1, e.2.2.1))) := by
  refine ⟨_, X _ hd, fun w H S => ⟨a, es.map fun e => (e.1, Value.str e.2.2.1 e.2.2.2), rfl, ⟨_, _, _, (S.base _ _ (Y _ hd)).1, ⟨rfl, rfl, rfl⟩, rfl, fun e he => ?_, ?_, ?_⟩, (S.base _ _ (Y _ hd)).2, ?_, ?_⟩⟩
  · rw [List.mem_toArray, List.mem_map] at he
    obtain ⟨e', _, rfl⟩ := he
    exact ⟨e'.1, strKind_is _ _ _ _, rfl⟩
  · rw [List.toList_toArray]; exact pairs_str es
  · rw [List.map_map]; exact hn
  · rw [List.map_map, List.map_map]; rfl
  · rw [List.map_map, List.map_map]; exact strs_of es
end Mine


set_option autoImplicit false
set_option linter.unusedVariables false
namespace Mine
open PySem PyProof.Rows

noncomputable def Rn {α : Type} (m : M α) (H : AHeap) (Q : α → AHeap → Prop) : Prop := ∃ a H', m H = some (.ok a, H') ∧ Q a H'
noncomputable def Fl (I : Loc → AHeap → Prop) (Q : AV → AHeap → Prop) : Res → AHeap → Prop
  | .next σ, H => I σ H
  | .ret v, H => Q v H

section
variable {α β : Type} {m : M α} {f : α → M β} {H H1 : AHeap} {a : α} {Q : β → AHeap → Prop} {R R' : α → AHeap → Prop}
theorem Rn.bind (h : Rn m H fun a H1 => Rn (f a) H1 Q) : Rn (m >>= f) H Q := by
  obtain ⟨a, H1, h1, b, H2, h2, q⟩ := h
  exact ⟨b, H2, bind_of h1 h2, q⟩
theorem Rn.pure (h : R a H) : Rn (Pure.pure a : M α) H R := ⟨a, H, rfl, h⟩
theorem Rn.mono (h : Rn m H R) (k : ∀ a H', R a H' → R' a H') : Rn m H R' := let ⟨a, H', e, q⟩ := h; ⟨a, H', e, k _ _ q⟩
theorem Rn.eq (e : m = Pure.pure a) (h : R a H) : Rn m H R := by rw [e]; exact .pure h
theorem Rn.of (e : m H = some (.ok a, H1)) (h : R a H1) : Rn m H R := ⟨a, H1, e, h⟩
theorem Rn.beq (e : m = Pure.pure a) (h : Rn (f a) H Q) : Rn (m >>= f) H Q := by rw [e]; exact h
theorem Rn.bof (e : m H = some (.ok a, H1)) (h : Rn (f a) H1 Q) : Rn (m >>= f) H Q := .bind (.of e h)
theorem Rn.then (h : Rn m H R) (k : ∀ a H1, R a H1 → Rn (f a) H1 Q) : Rn (m >>= f) H Q := .bind (h.mono k)
end

theorem listAt_is {H : AHeap} {l : Nat} {xs : List AV} (h : H[l]? = some (.list xs)) : listAt l H = some (.ok xs, H) :=
  bind_of (a := .list xs) (H1 := H) (by unfold objAt; rw [h]) rfl
theorem rdM_is {H : AHeap} {a : AV} {d : PyData} (h : rd H 8 a = some d) : rdM a H = some (.ok d, H) := by unfold rdM; rw [h]
theorem eq_is {H : AHeap} {a b : AV} {d e : PyData} (h1 : rd H 8 a = some d) (h2 : rd H 8 b = some e) : pCmp .Eq a b H = some (.ok (PyData.eqv d e), H) := bind_of (rdM_is h1) (bind_of (rdM_is h2) rfl)
theorem Rn.noX {α : Type} {m : M α} {H : AHeap} {Q : α → AHeap → Prop} (h : Rn m H Q) : Rn (noX m) H Q := let ⟨a, H', e, q⟩ := h; ⟨a, H', by unfold Mine.noX; rw [e], q⟩
theorem noX_pure {α : Type} {a : α} : noX (pure a) = pure a := rfl
theorem FUEL_is : FUEL = 100000 := rfl

theorem forR_go {src : Src} {body : AV → Loc → M Res} (g : Nat → Option AV) (N : Nat) (I : Nat → Loc → AHeap → Prop) {Q : Res → AHeap → Prop}
    (hN : g N = none) (hg : ∀ i σ H, i ≤ N → I i σ H → src.get i H = some (.ok (g i), H))
    (hs : ∀ i σ H, i < N → I i σ H → ∃ a, g i = some a ∧ Rn (body a σ) H (Fl (I (i + 1)) fun v H' => Q (.ret v) H')) (he : ∀ σ H, I N σ H → Q (.next σ) H) :
    ∀ (fuel i : Nat) (σ : Loc) (H : AHeap), i ≤ N → N < i + fuel → I i σ H → Rn (forLoop src body fuel i σ) H Q := by
  intro fuel
  induction fuel with
  | zero => intro i σ H h1 h2; exact absurd h2 (Nat.not_lt.mpr h1)
  | succ f ih =>
    intro i σ H h1 hf h
    refine Rn.bof (hg i σ H h1 h) ?_
    rcases Nat.eq_or_lt_of_le h1 with e | hi
    · subst e
      rw [hN]
      exact .pure (he _ _ h)
    · obtain ⟨a, ha, hr⟩ := hs i σ H hi h
      rw [ha]
      refine .then hr fun r H1 q => ?_
      cases r with
      | next σ' => exact ih (i + 1) σ' H1 hi (Nat.succ_add_eq_add_succ i f ▸ hf) q
      | ret v => exact .pure q
theorem forR {src : Src} {body : AV → Loc → M Res} {σ : Loc} {H : AHeap} (g : Nat → Option AV) (N : Nat) (I : Nat → Loc → AHeap → Prop) {Q : Res → AHeap → Prop} (hF : N < 100000)
    (hN : g N = none) (hg : ∀ i σ H, i ≤ N → I i σ H → src.get i H = some (.ok (g i), H)) (h0 : I 0 σ H)
    (hs : ∀ i σ H, i < N → I i σ H → ∃ a, g i = some a ∧ Rn (body a σ) H (Fl (I (i + 1)) fun v H' => Q (.ret v) H')) (he : ∀ σ H, I N σ H → Q (.next σ) H) :
    Rn (forLoop src body FUEL 0 σ) H Q := forR_go g N I hN hg hs he FUEL 0 σ H (Nat.zero_le _) (by rw [FUEL_is, Nat.zero_add]; exact hF) h0

theorem forI {xs : List AV} {body : AV → Loc → M Res} {σ : Loc} {H : AHeap} (I : Nat → Loc → AHeap → Prop) {Q : Res → AHeap → Prop} (hF : xs.length < 100000) (h0 : I 0 σ H)
    (hs : ∀ i a σ H, xs[i]? = some a → I i σ H → Rn (body a σ) H (Fl (I (i + 1)) fun v H' => Q (.ret v) H')) (he : ∀ σ H, I xs.length σ H → Q (.next σ) H) :
    Rn (forLoop (.items xs) body FUEL 0 σ) H Q :=
  forR (fun i => xs[i]?) xs.length I hF (List.getElem?_eq_none (Nat.le_refl _)) (fun u_ u_ u_ u_ u_ => rfl) h0 (fun i σ H hi h => ⟨xs[i], List.getElem?_eq_getElem hi, hs i _ σ H (List.getElem?_eq_getElem hi) h⟩) he
theorem forA {l : Nat} {xs : List AV} {body : AV → Loc → M Res} {σ : Loc} {H : AHeap} (I : Nat → Loc → AHeap → Prop) {Q : Res → AHeap → Prop} (hF : xs.length < 100000) (h0 : I 0 σ H)
    (hl : ∀ i σ H, I i σ H → H[l]? = some (.list xs))
    (hs : ∀ i a σ H, xs[i]? = some a → I i σ H → Rn (body a σ) H (Fl (I (i + 1)) fun v H' => Q (.ret v) H')) (he : ∀ σ H, I xs.length σ H → Q (.next σ) H) :
    Rn (forLoop (.at l) body FUEL 0 σ) H Q :=
  forR (fun i => xs[i]?) xs.length I hF (List.getElem?_eq_none (Nat.le_refl _)) (fun i σ H u_ h => bind_of (listAt_is (hl i σ H h)) rfl) h0
    (fun i σ H hi h => ⟨xs[i], List.getElem?_eq_getElem hi, hs i _ σ H (List.getElem?_eq_getElem hi) h⟩) he
theorem forE {xs : List AV} {body : AV → Loc → M Res} {σ : Loc} {H : AHeap} (I : Nat → Loc → AHeap → Prop) {Q : Res → AHeap → Prop} (hF : xs.length < 100000) (h0 : I 0 σ H)
    (hs : ∀ i a σ H, xs[i]? = some a → I i σ H → Rn (body (.tup [.int i, a]) σ) H (Fl (I (i + 1)) fun v H' => Q (.ret v) H')) (he : ∀ σ H, I xs.length σ H → Q (.next σ) H) :
    Rn (forLoop (.enum (.items xs)) body FUEL 0 σ) H Q :=
  forR (fun i => (xs[i]?).map fun v => .tup [.int i, v]) xs.length I hF (by simp) (fun u_ u_ u_ u_ u_ => rfl) h0
    (fun i σ H hi h => ⟨_, by rw [List.getElem?_eq_getElem hi]; rfl, hs i _ σ H (List.getElem?_eq_getElem hi) h⟩) he

theorem whR_go {test : Loc → M Bool} {body : Loc → M Res} (I : Nat → Loc → AHeap → Prop) {Q : Res → AHeap → Prop}
    (hs : ∀ n σ H, I n σ H → Rn (test σ) H fun b H1 => (b = false ∧ Q (.next σ) H1) ∨ (b = true ∧ Rn (body σ) H1 (Fl (fun σ' H' => ∃ m, m < n ∧ I m σ' H') fun v H' => Q (.ret v) H'))) :
    ∀ (fuel n : Nat) (σ : Loc) (H : AHeap), n < fuel → I n σ H → Rn (whileLoop test body fuel σ) H Q := by
  intro fuel
  induction fuel with
  | zero => intro n σ H hf; exact absurd hf (Nat.not_lt_zero _)
  | succ f ih =>
    intro n σ H hf h
    refine Rn.then (hs n σ H h) fun b H1 q => ?_
    rcases q with ⟨rfl, q⟩ | ⟨rfl, q⟩
    · exact .pure q
    · refine .then q fun r H2 q => ?_
      cases r with
      | next σ' =>
        obtain ⟨m, hm, hI⟩ := q
        exact ih m σ' H2 (Nat.lt_of_lt_of_le hm (Nat.le_of_lt_succ hf)) hI
      | ret v => exact .pure q
theorem whR {test : Loc → M Bool} {body : Loc → M Res} {σ : Loc} {H : AHeap} (n : Nat) (I : Nat → Loc → AHeap → Prop) {Q : Res → AHeap → Prop} (hF : n < 100000) (h0 : I n σ H)
    (hs : ∀ n σ H, I n σ H → Rn (test σ) H fun b H1 => (b = false ∧ Q (.next σ) H1) ∨ (b = true ∧ Rn (body σ) H1 (Fl (fun σ' H' => ∃ m, m < n ∧ I m σ' H') fun v H' => Q (.ret v) H'))) :
    Rn (whileLoop test body FUEL σ) H Q := whR_go I hs FUEL n σ H (by rw [FUEL_is]; exact hF) h0

theorem LIMis : LIM = 1048576 := by decide
theorem compM_go {xs : List AV} {body : AV → M (Option AV)} {g : AV → AV} (h : ∀ a ∈ xs, body a = pure (some (g a))) :
    ∀ (fuel i : Nat) (acc : List AV), i ≤ xs.length → xs.length < i + fuel → acc.length = i → xs.length < LIM → compLoop (.items xs) body fuel i acc = pure (acc ++ (xs.drop i).map g) := by
  intro fuel
  induction fuel with
  | zero => intro i acc h1 h2; exact absurd h2 (Nat.not_lt.mpr h1)
  | succ f ih =>
    intro i acc h1 hf ha hL
    show (do let r ← (pure xs[i]? : M _); _) = _
    rcases Nat.eq_or_lt_of_le h1 with e | hi
    · rw [List.getElem?_eq_none (Nat.le_of_eq e.symm), pure_bind, List.drop_of_length_le (Nat.le_of_eq e.symm), List.map_nil, List.append_nil]
    · rw [List.getElem?_eq_getElem hi, pure_bind]
      show (do let r ← noX (body xs[i]); _) = _
      rw [h _ (List.getElem_mem hi), noX_pure, pure_bind]
      show (if acc.length < LIM then _ else _) = _
      rw [if_pos (Nat.lt_trans (ha ▸ hi) hL), ih (i + 1) _ hi (Nat.succ_add_eq_add_succ i f ▸ hf) (by rw [List.length_append, ha]; rfl) hL, List.drop_eq_getElem_cons hi, List.map_cons, List.append_assoc]
      rfl
theorem ltLIM {n : Nat} (h : n < 100000) : n < LIM := Nat.lt_trans h (by rw [LIMis]; decide)
theorem compM {xs : List AV} {body : AV → M (Option AV)} (g : AV → AV) (hl : xs.length < 100000) (h : ∀ a ∈ xs, body a = pure (some (g a))) : compLoop (.items xs) body FUEL 0 [] = pure (xs.map g) :=
  compM_go h FUEL 0 [] (Nat.zero_le _) (by rw [FUEL_is, Nat.zero_add]; exact hl) rfl (ltLIM hl)

theorem callRn {P : Pg} {n : Nat} {f : Str} {as : List AV} {σ : Loc} {H : AHeap} {Q : AV → AHeap → Prop} (hf : P.fn f = some (fnD P f)) (hl : as.length = (fnD P f).params.length) (hσ : as.map some ++ List.replicate ((fnD P f).names.length - as.length) none = σ)
    (h : Rn (tl P (callP P n) f [] 0 40 σ) H (Fl (fun u_ H' => Q .none H') Q)) : Rn (callP P (n + 1) f as) H Q := by
  obtain ⟨r, H', h1, q⟩ := h
  cases r with
  | next σ' => exact ⟨_, _, callN hf hl hσ h1, q⟩
  | ret a => exact ⟨_, _, callR hf hl hσ h1, q⟩
theorem Rn.goEnd {r : Res} {H : AHeap} {Q : Res → AHeap → Prop} (h : Q r H) : Rn (goOn (fun σ => Pure.pure (.next σ)) r) H Q := by
  cases r <;> exact .pure h

theorem srcOf_lst {xs : List AV} : srcOf (.lst xs) = pure (.items xs) := rfl
theorem listOf_lst {xs : List AV} : listOf (.lst xs) = pure xs := rfl
theorem small62_of {i : Int} (h : -1000000 ≤ i ∧ i ≤ 1000000) : small62 i = true := by unfold small62; simp; (first | lia | omega)
theorem srcOf_range {a b : Int} (ha : -1000000 ≤ a ∧ a ≤ 1000000) (hb : -1000000 ≤ b ∧ b ≤ 1000000) : srcOf (.range a b) = pure (.items (rangeL a b)) := by
  show (if small62 a && small62 b then pure (Src.items (rangeL a b)) else stuck) = _
  rw [small62_of ha, small62_of hb]; rfl
theorem e_range1 {mu : Bool} {n : Int} : pBI mu .range [.int n] = pure (.range 0 n) := rfl
theorem e_range2 {mu : Bool} {a n : Int} : pBI mu .range [.int a, .int n] = pure (.range a n) := rfl
theorem e_list_lst {xs : List AV} (h : xs.length ≤ LIM) : pBI false .list [.lst xs] = pure (.lst xs) := by
  show (do let xs ← seqOf (.lst xs); newL false xs) = _
  show (do let xs ← (pure xs : M _); newL false xs) = _
  rw [pure_bind, e_newL h]
theorem rangeL_length (a b : Int) : (rangeL a b).length = (b - a).toNat := by unfold rangeL; simp
theorem rangeL_at {a b : Int} {i : Nat} {x : AV} (h : (rangeL a b)[i]? = some x) : x = .int (a + i) ∧ i < (b - a).toNat := by
  unfold rangeL at h
  rw [List.getElem?_map] at h
  cases h1 : (List.range (b - a).toNat)[i]? with
  | none => rw [h1] at h; cases h
  | some j =>
    rw [h1] at h; cases h
    have := List.getElem?_eq_some_iff.mp h1
    obtain ⟨h2, h3⟩ := this
    rw [List.length_range] at h2
    rw [List.getElem_range] at h3
    subst h3; exact ⟨rfl, h2⟩
theorem mem_rangeL {a b : Int} {x : AV} (h : x ∈ rangeL a b) : ∃ i : Nat, x = .int (a + i) ∧ i < (b - a).toNat := by
  obtain ⟨i, hi⟩ := List.mem_iff_getElem?.mp h
  exact ⟨i, rangeL_at hi⟩
theorem e_isnone : pCmp .IsNot .none .none = pure false := rfl
theorem listOf_loc {H : AHeap} {l : Nat} {xs : List AV} (h : H[l]? = some (.list xs)) : listOf (.loc l) H = some (.ok xs, H) := listAt_is h
theorem seqOf_loc {H : AHeap} {l : Nat} {xs : List AV} (h : H[l]? = some (.list xs)) : seqOf (.loc l) H = some (.ok xs, H) := listAt_is h
theorem srcOf_loc {H : AHeap} {l : Nat} {xs : List AV} (h : H[l]? = some (.list xs)) : srcOf (.loc l) H = some (.ok (.at l), H) := bind_of (listAt_is h) rfl
theorem len_loc {mu : Bool} {H : AHeap} {l : Nat} {xs : List AV} (h : H[l]? = some (.list xs)) : pBI mu .len [.loc l] H = some (.ok (.int xs.length), H) :=
  bind_of (seqOf_loc h) rfl
theorem idx_nat {k n : Nat} (h : k < n) : idx (k : Int) n = some k := by
  unfold idx
  rw [if_pos (by (first | lia | omega)), if_pos (by (first | lia | omega))]; simp
theorem e_itT {xs : List AV} {k : Int} {a : AV} (h : ((idx k xs.length).bind fun j => xs[j]?) = some a) : pItem (.tup xs) (.int k) = pure a := by
  funext H
  show (ofOpt ((idx k xs.length).bind fun j => xs[j]?) : M AV) H = _
  rw [h]; rfl
theorem item_loc {H : AHeap} {l k : Nat} {xs : List AV} {a : AV} (h : H[l]? = some (.list xs)) (hk : xs[k]? = some a) : pItem (.loc l) (.int k) H = some (.ok a, H) := by
  refine bind_of (seqOf_loc h) ?_
  rw [idx_nat (List.getElem?_eq_some_iff.mp hk).1]
  show (ofOpt xs[k]? : M AV) H = _
  rw [hk]; rfl
theorem list_loc {H : AHeap} {l : Nat} {xs : List AV} (h : H[l]? = some (.list xs)) (hl : xs.length ≤ LIM) : pBI false .list [.loc l] H = some (.ok (.lst xs), H) :=
  bind_of (seqOf_loc h) (by rw [e_newL hl]; rfl)
theorem meth_loc {H : AHeap} {l : Nat} {xs vs : List AV} {m : Str} {k : Mt} {r : Except Str AV × AHeap} (hm : mtOf m = some k) (h : H[l]? = some (.list xs)) (e : methL l xs vs k H = some r) : pMeth m (.loc l) vs H = some r := by
  unfold pMeth
  rw [hm]
  exact bind_of (listAt_is h) e
theorem append_loc {H : AHeap} {l : Nat} {xs : List AV} {v : AV} (h : H[l]? = some (.list xs)) (hl : xs.length < LIM) : pMeth "append" (.loc l) [v] H = some (.ok .none, H.set l (.list (xs ++ [v]))) := meth_loc (k := .append) rfl h (by
  show (if xs.length < LIM then _ else _ : M AV) H = _
  rw [if_pos hl]; rfl)
theorem popAt_is {H : AHeap} {l k : Nat} {xs : List AV} {v : AV} (hk : xs[k]? = some v) : popAt l xs k H = some (.ok v, H.set l (.list (xs.eraseIdx k))) := by unfold popAt; rw [hk]; rfl
noncomputable def InR (m : Int) (x : AV) : Prop := ∃ i : Int, x = .int i ∧ 0 ≤ i ∧ i < m
theorem mapM_ok {α β : Type} {f : α → Option β} : ∀ {xs : List α}, (∀ x ∈ xs, ∃ y, f x = some y) → ∃ ys, xs.mapM f = some ys ∧ ys.length = xs.length
  | [], _ => ⟨[], by simp, rfl⟩
  | x :: r, h => by
    obtain ⟨y, hy⟩ := h x (List.mem_cons_self ..)
    obtain ⟨ys, h1, h2⟩ := mapM_ok (xs := r) fun z hz => h z (List.mem_cons_of_mem _ hz)
    exact ⟨y :: ys, by simp [hy, h1], by simp [h2]⟩
theorem eqv_nil (ds : List PyData) : PyData.eqv (.list ds) (.list []) = ds.isEmpty := by cases ds <;> rfl
theorem rd_nil {H : AHeap} {n : Nat} : rd H (n + 1) (.lst []) = some (.list []) := rfl
theorem rd_loc {H : AHeap} {l n : Nat} {xs : List AV} {ds : List PyData} (h : H[l]? = some (.list xs)) (h1 : xs.mapM (rd H n) = some ds) : rd H (n + 1) (.loc l) = some (.list ds) := by
  show (match H[l]? with | some (.list xs) => (xs.mapM (rd H n)).map PyData.list | _ => none) = _
  rw [h]
  show Option.map _ (xs.mapM (rd H n)) = _
  rw [h1]; rfl
theorem eq_nil_loc {H : AHeap} {l : Nat} {xs : List AV} (h : H[l]? = some (.list xs)) (hx : ∀ x ∈ xs, ∃ d, rd H 7 x = some d) : pCmp .Eq (.loc l) (.lst []) H = some (.ok xs.isEmpty, H) := by
  obtain ⟨ds, h1, h2⟩ := mapM_ok hx
  have e1 : rd H 8 (.loc l) = some (.list ds) := rd_loc h h1
  rw [eq_is e1 rd_nil, eqv_nil]
  have : ds.isEmpty = xs.isEmpty := by cases ds <;> cases xs <;> simp_all
  rw [this]
theorem ne_nil_loc {H : AHeap} {l : Nat} {xs : List AV} (h : H[l]? = some (.list xs)) (hx : ∀ x ∈ xs, ∃ d, rd H 7 x = some d) : pCmp .NotEq (.loc l) (.lst []) H = some (.ok !xs.isEmpty, H) :=
  bind_of (eq_nil_loc h hx) rfl
theorem rd_int {H : AHeap} {n : Nat} {i : Int} : rd H n (.int i) = some (.int i) := by cases n <;> rfl
theorem newT {H : AHeap} {xs : List AV} (h : xs.length ≤ LIM) : newL true xs H = some (.ok (.loc H.length), H ++ [.list xs]) := by unfold newL; rw [if_pos h]; rfl
theorem mapM_inv {α β : Type} {f : α → Option β} {x : α} {xs : List α} {ys : List β} (h : (x :: xs).mapM f = some ys) : ∃ y r, f x = some y ∧ xs.mapM f = some r ∧ ys = y :: r := by
  simp only [List.mapM_cons, Option.bind_eq_bind, Option.bind_eq_some_iff, Option.pure_def, Option.some.injEq] at h
  obtain ⟨y, h1, r, h2, h3⟩ := h
  exact ⟨y, r, h1, h2, h3.symm⟩
theorem mapM_eqv {f : AV → Option PyData} (hf : ∀ a d, f a = some d → PyData.eqv d d = true) {xs : List AV} : ∀ {ds : List PyData}, xs.mapM f = some ds → PyData.eqvAll ds ds = true := by
  induction xs with
  | nil => intro ds h; cases h; rfl
  | cons x r ih =>
    intro ds h
    obtain ⟨y, r', h1, h2, rfl⟩ := mapM_inv h
    show (PyData.eqv y y && PyData.eqvAll r' r') = true
    rw [hf _ _ h1, ih h2]; rfl
theorem str_eqv {x : Str} {d : PyData} (h : (if PyData.strOk x then some (PyData.str x) else none) = some d) : PyData.eqv d d = true := by
  obtain ⟨_, h⟩ := Option.ite_none_right_eq_some.mp h
  cases h
  exact beq_self_eq_true x
theorem list_eqv {f : AV → Option PyData} (hf : ∀ a d, f a = some d → PyData.eqv d d = true) {xs : List AV} {d : PyData} (h : (xs.mapM f).map PyData.list = some d) : PyData.eqv d d = true := by
  obtain ⟨ds, h1, rfl⟩ := Option.map_eq_some_iff.mp h
  exact mapM_eqv hf h1
theorem rd_eqv {H : AHeap} {n : Nat} : ∀ {a : AV} {d : PyData}, rd H n a = some d → PyData.eqv d d = true := by
  induction n with
  | zero =>
    intro a d h
    cases a with
    | none => cases h; rfl
    | bool b => cases h; exact beq_self_eq_true b
    | int i => cases h; exact beq_self_eq_true i
    | str x => exact str_eqv h
    | _ => exact no_some h
  | succ n ih =>
    intro a d h
    cases a with
    | none => cases h; rfl
    | bool b => cases h; exact beq_self_eq_true b
    | int i => cases h; exact beq_self_eq_true i
    | str x => exact str_eqv h
    | tup xs =>
      obtain ⟨ds, h1, rfl⟩ := Option.map_eq_some_iff.mp (show (xs.mapM (rd H n)).map PyData.tuple = some d from h)
      exact mapM_eqv (fun a d => ih) h1
    | lst xs => exact list_eqv (fun a d => ih) h
    | loc l =>
      have h : (match H[l]? with | some (.list xs) => (xs.mapM (rd H n)).map PyData.list | _ => none) = some d := h
      cases hl : H[l]? with
      | none => rw [hl] at h; exact no_some h
      | some o =>
        rw [hl] at h
        cases o with
        | dict es => exact no_some h
        | list xs => exact list_eqv (fun a d => ih) h
    | _ => exact no_some h
theorem eq_same {H : AHeap} {a b : AV} {d : PyData} (h1 : rd H 8 a = some d) (h2 : rd H 8 b = some d) : pCmp .Eq a b H = some (.ok true, H) := by
  rw [eq_is h1 h2, rd_eqv h1]
theorem Rn.each0 {H : AHeap} {Q : List AV → AHeap → Prop} (h : Q [] H) : Rn (eachM []) H Q := .pure h
theorem Rn.eachC {m : M AV} {r : List (M AV)} {H : AHeap} {Q : List AV → AHeap → Prop} (h : Rn m H fun a H1 => Rn (eachM r) H1 fun vs H2 => Q (a :: vs) H2) : Rn (eachM (m :: r)) H Q :=
  .bind (h.mono fun a H1 q => .bind (q.mono fun vs H2 q => .pure q))
theorem Rn.eachE {m : M AV} {r : List (M AV)} {H H1 : AHeap} {a : AV} {Q : List AV → AHeap → Prop} (e : m H = some (.ok a, H1)) (h : Rn (eachM r) H1 fun vs H2 => Q (a :: vs) H2) : Rn (eachM (m :: r)) H Q := .eachC (.of e h)
theorem Rn.eachP {a : AV} {r : List (M AV)} {H : AHeap} {Q : List AV → AHeap → Prop} (h : Rn (eachM r) H fun vs H2 => Q (a :: vs) H2) : Rn (eachM (Pure.pure a :: r)) H Q := .eachC (.pure h)
theorem Rn.val {α : Type} {m : M α} {H : AHeap} {a : α} (h : Rn m H fun b H' => b = a ∧ H' = H) : m H = some (.ok a, H) := by
  obtain ⟨b, H', e, rfl, rfl⟩ := h
  exact e
theorem m_tup {mu : Bool} {x y : AV} {xs ys : List AV} (h : (x :: xs).length + (y :: ys).length ≤ LIM) : pBin mu .Add (.tup (x :: xs)) (.tup (y :: ys)) = pure (.tup ((x :: xs) ++ (y :: ys))) := by
  show (if (x :: xs).isEmpty || (y :: ys).isEmpty || decide (LIM < (x :: xs).length + (y :: ys).length) then stuck else pure (.tup ((x :: xs) ++ (y :: ys))) : M AV) = _
  rw [decide_eq_false (Nat.not_lt.mpr h)]; rfl
theorem e_eqs {a b : Str} (ha : PyData.strOk a = true) (hb : PyData.strOk b = true) : pCmp .Eq (.str a) (.str b) = pure (decide (a = b)) := by
  funext H
  have q : ∀ {x : Str}, PyData.strOk x = true → rd H 8 (.str x) = some (.str x) := fun h => if_pos h
  rw [eq_is (q ha) (q hb)]
  show some (Except.ok (a == b), H) = some (Except.ok (decide (a = b)), H)
  by_cases h : a = b
  · subst h; simp
  · have : (a == b) = false := by simpa using h
    rw [this, decide_eq_false h]
theorem pop_last {H : AHeap} {l : Nat} {xs : List AV} {v : AV} (h : H[l]? = some (.list (xs ++ [v]))) : pMeth "pop" (.loc l) [] H = some (.ok v, H.set l (.list xs)) := meth_loc (k := .pop) rfl h (by
  have e : (xs ++ [v]).eraseIdx xs.length = xs := by rw [List.eraseIdx_append_of_length_le (Nat.le_refl _), Nat.sub_self]; exact List.append_nil _
  have := popAt_is (H := H) (l := l) (xs := xs ++ [v]) (k := xs.length) (v := v) List.getElem?_concat_length
  rw [e] at this
  show popAt l (xs ++ [v]) ((xs ++ [v]).length - 1) H = _
  rw [List.length_append]
  exact this)
theorem e_it0 {x : AV} {xs : List AV} : pItem (.tup (x :: xs)) (.int 0) = pure x := e_item_tup (k := 0) rfl
end Mine


set_option autoImplicit false
set_option linter.unusedVariables false
namespace Mine
open PySem PyProof.Rows

structure Fc (H₀ H : AHeap) (ls : List Nat) (os : List AO) : Prop where
  all : ∀ (j l : Nat) (o : AO), ls[j]? = some l → os[j]? = some o → H[l]? = some o
  nd : ls.Nodup
  len : H₀.length ≤ H.length
  out : ∀ l : Nat, l < H₀.length → l ∉ ls → H[l]? = H₀[l]?

theorem nd2 {l : List Nat} (h : l.Nodup) {a b : Nat} {i j : Nat} (ha : l[i]? = some a) (hb : l[j]? = some b) (hij : i ≠ j) : a ≠ b := by
  intro e
  subst e
  have h1 := (List.getElem?_eq_some_iff.mp ha)
  have h2 := (List.getElem?_eq_some_iff.mp hb)
  obtain ⟨p1, q1⟩ := h1
  obtain ⟨p2, q2⟩ := h2
  rcases Nat.lt_or_gt_of_ne hij with h' | h'
  · exact List.pairwise_iff_getElem.mp h i j p1 p2 h' (q1.trans q2.symm)
  · exact List.pairwise_iff_getElem.mp h j i p2 p1 h' (q2.trans q1.symm)

namespace Fc
variable {H₀ H : AHeap} {ls : List Nat} {os os' : List AO}
theorem upd (F : Fc H₀ H ls os) (j : Nat) {l : Nat} (x : AO) (hj : ls[j]? = some l) (hs : ∃ o, os[j]? = some o) (hx : os' = os.set j x) : Fc H₀ (H.set l x) ls os' where
  all := fun i m o hi ho => by
    subst hx
    by_cases hij : i = j
    · subst hij
      rw [hj] at hi; cases hi
      obtain ⟨o', ho'⟩ := hs
      have hl := (List.getElem?_eq_some_iff.mp (F.all i l o' hj ho')).1
      rw [List.getElem?_set_self (List.getElem?_eq_some_iff.mp ho').1] at ho
      rw [List.getElem?_set_self hl]; exact ho
    · rw [List.getElem?_set_ne (fun e => hij e.symm)] at ho
      rw [List.getElem?_set_ne (nd2 F.nd hj hi (fun e => hij e.symm))]
      exact F.all i m o hi ho
  nd := F.nd
  len := by rw [List.length_set]; exact F.len
  out := fun m h1 h2 => by
    have hne : l ≠ m := fun e => h2 (e ▸ List.mem_of_getElem? hj)
    rw [List.getElem?_set_ne hne]
    exact F.out m h1 h2
theorem lt (F : Fc H₀ H ls os) (hlen : ls.length = os.length) {l : Nat} (hl : l ∈ ls) : l < H.length := by
  obtain ⟨j, hj⟩ := List.mem_iff_getElem?.mp hl
  have h1 := (List.getElem?_eq_some_iff.mp hj).1
  have := F.all j l os[j] hj (List.getElem?_eq_getElem (by omega))
  exact (List.getElem?_eq_some_iff.mp this).1
theorem more2 (F : Fc H₀ H ls os) (hlen : ls.length = os.length) (a b : AO) : Fc H₀ (H ++ [a] ++ [b]) (ls ++ [H.length, H.length + 1]) (os ++ [a, b]) where
  all := fun j l o hj ho => by
    rw [List.append_assoc]
    by_cases hjl : j < ls.length
    · rw [List.getElem?_append_left hjl] at hj
      rw [List.getElem?_append_left (by (first | lia | omega))] at ho
      have := F.all j l o hj ho
      rw [List.getElem?_append_left (List.getElem?_eq_some_iff.mp this).1]; exact this
    · rw [List.getElem?_append_right (by (first | lia | omega))] at hj ho
      rw [← hlen] at ho
      match hk : j - ls.length, hj, ho with
      | 0, hj, ho => simp at hj ho; subst hj; subst ho; simp
      | 1, hj, ho => simp at hj ho; subst hj; subst ho; simp
      | k + 2, hj, ho => simp at hj
  nd := by
    rw [List.nodup_append]
    refine ⟨F.nd, by simp, fun x hx y hy => ?_⟩
    have := F.lt hlen hx
    simp at hy
    (first | lia | omega)
  len := by have := F.len; simp; (first | lia | omega)
  out := fun l h1 h2 => by
    have h3 : l < H.length := Nat.lt_of_lt_of_le h1 F.len
    rw [List.append_assoc, List.getElem?_append_left h3]
    exact F.out l h1 fun h => h2 (List.mem_append_left _ h)
end Fc

theorem dictAt_is {H : AHeap} {l : Nat} {es : List (Str × AV)} (h : H[l]? = some (.dict es)) : dictAt l H = some (.ok es, H) :=
  bind_of (a := .dict es) (H1 := H) (by unfold objAt; rw [h]) rfl
theorem dItem {H : AHeap} {l : Nat} {es : List (Str × AV)} {k : Str} {v : AV} (h : H[l]? = some (.dict es)) (hk : look es k = some v) : pItem (.loc l) (.str k) H = some (.ok v, H) :=
  bind_of (dictAt_is h) (by rw [hk]; rfl)
theorem dStore {H : AHeap} {l : Nat} {es es' : List (Str × AV)} {k : Str} {v : AV} (h : H[l]? = some (.dict es)) (hl : decide (es.length < 100) = true) (hk : put es k v = es') : pStore (.loc l) (.str k) v H = some (.ok (), H.set l (.dict es')) :=
  bind_of (dictAt_is h) (by
    have hl := of_decide_eq_true hl
    rw [if_pos (by have := LIMis; (first | lia | omega)), hk]; rfl)
theorem lStore {H : AHeap} {l : Nat} {xs : List AV} {i : Nat} {v : AV} (h : H[l]? = some (.list xs)) (hi : i < xs.length) : pStore (.loc l) (.int i) v H = some (.ok (), H.set l (.list (xs.set i v))) :=
  bind_of (listAt_is h) (by rw [if_pos ⟨Int.natCast_nonneg _, Int.ofNat_lt.mpr hi⟩]; rfl)
theorem newDT {H : AHeap} {es : List (Str × AV)} : newD es H = some (.ok (.loc H.length), H ++ [.dict es]) := rfl

structure Cn where
  st : Nat
  lb : Nat
  lsp : Nat
  lh : Nat
  lr : Nat
  hd : Nat
  w : Nat
  kp : Nat
  kind : Str
  boxes : List AV
  head : AV
  mark : Int
  spare : List AV
  hs : List AV
  time : Int
  rows : List AV
  prog : List AV
  place : Int
  wv : AV
  deed : AV
  begun : Int
  next : Str
  own : AV
  seen : AV
  inside : AV
  walk : AV
  kept : List AV
  row : AV
namespace Cn
noncomputable def sD (c : Cn) : List (Str × AV) := [("kind", .str c.kind), ("boxes", .loc c.lb), ("head", c.head), ("mark", .int c.mark), ("spare", .loc c.lsp), ("hands", .loc c.lh), ("time", .int c.time), ("rows", .loc c.lr)]
noncomputable def hD (c : Cn) : List (Str × AV) := [("program", .tup c.prog), ("place", .int c.place), ("work", c.wv)]
noncomputable def wD (c : Cn) : List (Str × AV) := [("deed", c.deed), ("begun", .int c.begun), ("next", .str c.next), ("own", c.own), ("seen", c.seen), ("inside", c.inside), ("walk", c.walk), ("kept", .loc c.kp), ("row", c.row)]
noncomputable def ls (c : Cn) : List Nat := [c.st, c.lb, c.lsp, c.lh, c.lr, c.hd, c.kp, c.w]
noncomputable def os (c : Cn) : List AO := [.dict c.sD, .list c.boxes, .list c.spare, .list c.hs, .list c.rows, .dict c.hD, .list c.kept, .dict c.wD]
noncomputable def u_head (c : Cn) (v : AV) : Cn := { c with head := v }
noncomputable def u_mark (c : Cn) (v : Int) : Cn := { c with mark := v }
noncomputable def u_time (c : Cn) (v : Int) : Cn := { c with time := v }
noncomputable def u_place (c : Cn) (v : Int) : Cn := { c with place := v }
noncomputable def u_wv (c : Cn) (v : AV) : Cn := { c with wv := v }
noncomputable def u_next (c : Cn) (v : Str) : Cn := { c with next := v }
noncomputable def u_own (c : Cn) (v : AV) : Cn := { c with own := v }
noncomputable def u_seen (c : Cn) (v : AV) : Cn := { c with seen := v }
noncomputable def u_inside (c : Cn) (v : AV) : Cn := { c with inside := v }
noncomputable def u_walk (c : Cn) (v : AV) : Cn := { c with walk := v }
noncomputable def u_row (c : Cn) (v : AV) : Cn := { c with row := v }
noncomputable def u_boxes (c : Cn) (v : List AV) : Cn := { c with boxes := v }
noncomputable def u_spare (c : Cn) (v : List AV) : Cn := { c with spare := v }
noncomputable def u_rows (c : Cn) (v : List AV) : Cn := { c with rows := v }
noncomputable def u_kept (c : Cn) (v : List AV) : Cn := { c with kept := v }
end Cn
abbrev Foc (H₀ H : AHeap) (c : Cn) : Prop := Fc H₀ H c.ls c.os
namespace Foc
variable {H₀ H : AHeap} {c : Cn}
theorem s (F : Foc H₀ H c) : H[c.st]? = some (.dict c.sD) := F.all 0 _ _ rfl rfl
theorem b (F : Foc H₀ H c) : H[c.lb]? = some (.list c.boxes) := F.all 1 _ _ rfl rfl
theorem sp (F : Foc H₀ H c) : H[c.lsp]? = some (.list c.spare) := F.all 2 _ _ rfl rfl
theorem h (F : Foc H₀ H c) : H[c.lh]? = some (.list c.hs) := F.all 3 _ _ rfl rfl
theorem r (F : Foc H₀ H c) : H[c.lr]? = some (.list c.rows) := F.all 4 _ _ rfl rfl
theorem d (F : Foc H₀ H c) : H[c.hd]? = some (.dict c.hD) := F.all 5 _ _ rfl rfl
theorem w (F : Foc H₀ H c) : H[c.w]? = some (.dict c.wD) := F.all 7 _ _ rfl rfl
theorem k (F : Foc H₀ H c) : H[c.kp]? = some (.list c.kept) := F.all 6 _ _ rfl rfl
theorem gKind (F : Foc H₀ H c) : pItem (.loc c.st) (.str "kind") H = some (.ok (.str c.kind), H) := dItem F.s (by kernel_rfl)
theorem gBoxes (F : Foc H₀ H c) : pItem (.loc c.st) (.str "boxes") H = some (.ok (.loc c.lb), H) := dItem F.s (by kernel_rfl)
theorem gHead (F : Foc H₀ H c) : pItem (.loc c.st) (.str "head") H = some (.ok c.head, H) := dItem F.s (by kernel_rfl)
theorem gMark (F : Foc H₀ H c) : pItem (.loc c.st) (.str "mark") H = some (.ok (.int c.mark), H) := dItem F.s (by kernel_rfl)
theorem gSpare (F : Foc H₀ H c) : pItem (.loc c.st) (.str "spare") H = some (.ok (.loc c.lsp), H) := dItem F.s (by kernel_rfl)
theorem gHands (F : Foc H₀ H c) : pItem (.loc c.st) (.str "hands") H = some (.ok (.loc c.lh), H) := dItem F.s (by kernel_rfl)
theorem gTime (F : Foc H₀ H c) : pItem (.loc c.st) (.str "time") H = some (.ok (.int c.time), H) := dItem F.s (by kernel_rfl)
theorem gRows (F : Foc H₀ H c) : pItem (.loc c.st) (.str "rows") H = some (.ok (.loc c.lr), H) := dItem F.s (by kernel_rfl)
theorem gProg (F : Foc H₀ H c) : pItem (.loc c.hd) (.str "program") H = some (.ok (.tup c.prog), H) := dItem F.d (by kernel_rfl)
theorem gPlace (F : Foc H₀ H c) : pItem (.loc c.hd) (.str "place") H = some (.ok (.int c.place), H) := dItem F.d (by kernel_rfl)
theorem gWork (F : Foc H₀ H c) : pItem (.loc c.hd) (.str "work") H = some (.ok c.wv, H) := dItem F.d (by kernel_rfl)
theorem gDeed (F : Foc H₀ H c) : pItem (.loc c.w) (.str "deed") H = some (.ok c.deed, H) := dItem F.w (by kernel_rfl)
theorem gBegun (F : Foc H₀ H c) : pItem (.loc c.w) (.str "begun") H = some (.ok (.int c.begun), H) := dItem F.w (by kernel_rfl)
theorem gNext (F : Foc H₀ H c) : pItem (.loc c.w) (.str "next") H = some (.ok (.str c.next), H) := dItem F.w (by kernel_rfl)
theorem gOwn (F : Foc H₀ H c) : pItem (.loc c.w) (.str "own") H = some (.ok c.own, H) := dItem F.w (by kernel_rfl)
theorem gSeen (F : Foc H₀ H c) : pItem (.loc c.w) (.str "seen") H = some (.ok c.seen, H) := dItem F.w (by kernel_rfl)
theorem gInside (F : Foc H₀ H c) : pItem (.loc c.w) (.str "inside") H = some (.ok c.inside, H) := dItem F.w (by kernel_rfl)
theorem gWalk (F : Foc H₀ H c) : pItem (.loc c.w) (.str "walk") H = some (.ok c.walk, H) := dItem F.w (by kernel_rfl)
theorem gKept (F : Foc H₀ H c) : pItem (.loc c.w) (.str "kept") H = some (.ok (.loc c.kp), H) := dItem F.w (by kernel_rfl)
theorem gRow (F : Foc H₀ H c) : pItem (.loc c.w) (.str "row") H = some (.ok c.row, H) := dItem F.w (by kernel_rfl)
theorem wHead (F : Foc H₀ H c) (v : AV) : Rn (pStore (.loc c.st) (.str "head") v) H fun u_ H' => Foc H₀ H' (c.u_head v) := .of (dStore F.s (by kernel_rfl) (by kernel_rfl)) (F.upd 0 (.dict (c.u_head v).sD) rfl ⟨_, rfl⟩ rfl)
theorem wMark (F : Foc H₀ H c) (v : Int) : Rn (pStore (.loc c.st) (.str "mark") (.int v)) H fun u_ H' => Foc H₀ H' (c.u_mark v) := .of (dStore F.s (by kernel_rfl) (by kernel_rfl)) (F.upd 0 (.dict (c.u_mark v).sD) rfl ⟨_, rfl⟩ rfl)
theorem wTime (F : Foc H₀ H c) (v : Int) : Rn (pStore (.loc c.st) (.str "time") (.int v)) H fun u_ H' => Foc H₀ H' (c.u_time v) := .of (dStore F.s (by kernel_rfl) (by kernel_rfl)) (F.upd 0 (.dict (c.u_time v).sD) rfl ⟨_, rfl⟩ rfl)
theorem wPlace (F : Foc H₀ H c) (v : Int) : Rn (pStore (.loc c.hd) (.str "place") (.int v)) H fun u_ H' => Foc H₀ H' (c.u_place v) := .of (dStore F.d (by kernel_rfl) (by kernel_rfl)) (F.upd 5 (.dict (c.u_place v).hD) rfl ⟨_, rfl⟩ rfl)
theorem wWork (F : Foc H₀ H c) (v : AV) : Rn (pStore (.loc c.hd) (.str "work") v) H fun u_ H' => Foc H₀ H' (c.u_wv v) := .of (dStore F.d (by kernel_rfl) (by kernel_rfl)) (F.upd 5 (.dict (c.u_wv v).hD) rfl ⟨_, rfl⟩ rfl)
theorem wNext (F : Foc H₀ H c) (v : Str) : Rn (pStore (.loc c.w) (.str "next") (.str v)) H fun u_ H' => Foc H₀ H' (c.u_next v) := .of (dStore F.w (by kernel_rfl) (by kernel_rfl)) (F.upd 7 (.dict (c.u_next v).wD) rfl ⟨_, rfl⟩ rfl)
theorem wOwn (F : Foc H₀ H c) (v : AV) : Rn (pStore (.loc c.w) (.str "own") v) H fun u_ H' => Foc H₀ H' (c.u_own v) := .of (dStore F.w (by kernel_rfl) (by kernel_rfl)) (F.upd 7 (.dict (c.u_own v).wD) rfl ⟨_, rfl⟩ rfl)
theorem wSeen (F : Foc H₀ H c) (v : AV) : Rn (pStore (.loc c.w) (.str "seen") v) H fun u_ H' => Foc H₀ H' (c.u_seen v) := .of (dStore F.w (by kernel_rfl) (by kernel_rfl)) (F.upd 7 (.dict (c.u_seen v).wD) rfl ⟨_, rfl⟩ rfl)
theorem wInside (F : Foc H₀ H c) (v : AV) : Rn (pStore (.loc c.w) (.str "inside") v) H fun u_ H' => Foc H₀ H' (c.u_inside v) := .of (dStore F.w (by kernel_rfl) (by kernel_rfl)) (F.upd 7 (.dict (c.u_inside v).wD) rfl ⟨_, rfl⟩ rfl)
theorem wWalk (F : Foc H₀ H c) (v : AV) : Rn (pStore (.loc c.w) (.str "walk") v) H fun u_ H' => Foc H₀ H' (c.u_walk v) := .of (dStore F.w (by kernel_rfl) (by kernel_rfl)) (F.upd 7 (.dict (c.u_walk v).wD) rfl ⟨_, rfl⟩ rfl)
theorem wRow (F : Foc H₀ H c) (v : AV) : Rn (pStore (.loc c.w) (.str "row") v) H fun u_ H' => Foc H₀ H' (c.u_row v) := .of (dStore F.w (by kernel_rfl) (by kernel_rfl)) (F.upd 7 (.dict (c.u_row v).wD) rfl ⟨_, rfl⟩ rfl)
theorem wBox (F : Foc H₀ H c) {i : Nat} (hi : i < c.boxes.length) (v : AV) : Rn (pStore (.loc c.lb) (.int i) v) H fun u_ H' => Foc H₀ H' (c.u_boxes (c.boxes.set i v)) := .of (lStore F.b hi) (F.upd 1 (.list (c.boxes.set i v)) rfl ⟨_, rfl⟩ rfl)
theorem wRows (F : Foc H₀ H c) {i : Nat} (hi : i < c.rows.length) (v : AV) : Rn (pStore (.loc c.lr) (.int i) v) H fun u_ H' => Foc H₀ H' (c.u_rows (c.rows.set i v)) := .of (lStore F.r hi) (F.upd 4 (.list (c.rows.set i v)) rfl ⟨_, rfl⟩ rfl)
theorem aBox (F : Foc H₀ H c) (hl : c.boxes.length < 100000) (v : AV) : Rn (pMeth "append" (.loc c.lb) [v]) H fun u_ H' => Foc H₀ H' (c.u_boxes (c.boxes ++ [v])) := .of (append_loc F.b (by have := LIMis; (first | lia | omega))) (F.upd 1 (.list (c.boxes ++ [v])) rfl ⟨_, rfl⟩ rfl)
theorem aSpare (F : Foc H₀ H c) (hl : c.spare.length < 100000) (v : AV) : Rn (pMeth "append" (.loc c.lsp) [v]) H fun u_ H' => Foc H₀ H' (c.u_spare (c.spare ++ [v])) := .of (append_loc F.sp (by have := LIMis; (first | lia | omega))) (F.upd 2 (.list (c.spare ++ [v])) rfl ⟨_, rfl⟩ rfl)
theorem aRows (F : Foc H₀ H c) (hl : c.rows.length < 100000) (v : AV) : Rn (pMeth "append" (.loc c.lr) [v]) H fun u_ H' => Foc H₀ H' (c.u_rows (c.rows ++ [v])) := .of (append_loc F.r (by have := LIMis; (first | lia | omega))) (F.upd 4 (.list (c.rows ++ [v])) rfl ⟨_, rfl⟩ rfl)
theorem aKept (F : Foc H₀ H c) (hl : c.kept.length < 100000) (v : AV) : Rn (pMeth "append" (.loc c.kp) [v]) H fun u_ H' => Foc H₀ H' (c.u_kept (c.kept ++ [v])) := .of (append_loc F.k (by have := LIMis; (first | lia | omega))) (F.upd 6 (.list (c.kept ++ [v])) rfl ⟨_, rfl⟩ rfl)
theorem pSpare (F : Foc H₀ H c) {xs : List AV} {v : AV} (hs : c.spare = xs ++ [v]) : Rn (pMeth "pop" (.loc c.lsp) []) H fun a H' => a = v ∧ Foc H₀ H' (c.u_spare xs) := by
  have h := F.sp
  rw [hs] at h
  exact .of (pop_last h) ⟨rfl, F.upd 2 (.list xs) rfl ⟨_, rfl⟩ rfl⟩
end Foc
namespace Cn
noncomputable def ls0 (c : Cn) : List Nat := [c.st, c.lb, c.lsp, c.lh, c.lr, c.hd]
noncomputable def os0 (c : Cn) : List AO := [.dict c.sD, .list c.boxes, .list c.spare, .list c.hs, .list c.rows, .dict c.hD]
noncomputable def beg (c : Cn) (k w : Nat) (d : AV) (nx : Str) : Cn := { c with kp := k, w := w, deed := d, begun := c.time, next := nx, own := .none, seen := .none, inside := .none, walk := .none, kept := [], row := .none }
end Cn
abbrev Foc0 (H₀ H : AHeap) (c : Cn) : Prop := Fc H₀ H c.ls0 c.os0
namespace Foc0
variable {H₀ H : AHeap} {c : Cn}
theorem s (F : Foc0 H₀ H c) : H[c.st]? = some (.dict c.sD) := F.all 0 _ _ rfl rfl
theorem h (F : Foc0 H₀ H c) : H[c.lh]? = some (.list c.hs) := F.all 3 _ _ rfl rfl
theorem d (F : Foc0 H₀ H c) : H[c.hd]? = some (.dict c.hD) := F.all 5 _ _ rfl rfl
theorem gHands (F : Foc0 H₀ H c) : pItem (.loc c.st) (.str "hands") H = some (.ok (.loc c.lh), H) := dItem F.s (by kernel_rfl)
theorem gTime (F : Foc0 H₀ H c) : pItem (.loc c.st) (.str "time") H = some (.ok (.int c.time), H) := dItem F.s (by kernel_rfl)
theorem gProg (F : Foc0 H₀ H c) : pItem (.loc c.hd) (.str "program") H = some (.ok (.tup c.prog), H) := dItem F.d (by kernel_rfl)
theorem gPlace (F : Foc0 H₀ H c) : pItem (.loc c.hd) (.str "place") H = some (.ok (.int c.place), H) := dItem F.d (by kernel_rfl)
theorem gWork (F : Foc0 H₀ H c) : pItem (.loc c.hd) (.str "work") H = some (.ok c.wv, H) := dItem F.d (by kernel_rfl)
theorem wTime (F : Foc0 H₀ H c) (v : Int) : Rn (pStore (.loc c.st) (.str "time") (.int v)) H fun u_ H' => Foc0 H₀ H' (c.u_time v) := .of (dStore F.s (by kernel_rfl) (by kernel_rfl)) (F.upd 0 (.dict (c.u_time v).sD) rfl ⟨_, rfl⟩ rfl)
theorem begun (F : Foc0 H₀ H c) (d : AV) (nx : Str) : Foc H₀ (H ++ [.list []] ++ [.dict (c.beg H.length (H.length + 1) d nx).wD]) (c.beg H.length (H.length + 1) d nx) := F.more2 rfl _ _
end Foc0
end Mine


set_option autoImplicit false
set_option linter.unusedVariables false
set_option maxRecDepth 100000
namespace Mine
open PySem PyProof.Rows

noncomputable def mixed (c k : Int) : Int := (((c + 7919 * k) * 48271).fmod 2147483647 * ((c + 7919 * k) * 48271).fmod 2147483647).fmod 2147483629
theorem mixed_ge (c k : Int) : 0 ≤ mixed c k := (fmod_lt _ (by decide)).1
noncomputable def cellAt (ns : List Int) (k : Nat) : Int := match ns[k]? with
  | some c => mixed c k
  | none => 0
noncomputable def valueBy (c : Int) : Int := if c.fmod 4 = 0 then c.fdiv 4 * 7919 * 7919 * 7919 - 100000000000000000000 else (c.fdiv 4).fmod 5 - 1
theorem d4 : (4 : Int) ≠ 0 ∧ (4 : Int).natAbs < 1073741824 := ⟨by decide, by decide⟩
theorem d8 : (8 : Int) ≠ 0 ∧ (8 : Int).natAbs < 1073741824 := ⟨by decide, by decide⟩
theorem d12 : (12 : Int) ≠ 0 ∧ (12 : Int).natAbs < 1073741824 := ⟨by decide, by decide⟩
theorem d32 : (32 : Int) ≠ 0 ∧ (32 : Int).natAbs < 1073741824 := ⟨by decide, by decide⟩

inductive Dk where
  | push | pop | top | swap | clear
noncomputable def deedK (k : Dk) (v : Int) : AV := match k with
  | .push => .tup [.str "push", .int v]
  | .pop => .tup [.str "pop"]
  | .top => .tup [.str "top"]
  | .swap => .tup [.str "swap", .int v]
  | .clear => .tup [.str "clear"]
noncomputable def plA (k : Dk) (xs : List Int) : AV := match k with
  | .push => .none
  | .clear => .tup (xs.map .int)
  | _ => match xs with
    | [] => .none
    | x :: _ => .int x
noncomputable def plV (k : Dk) (v : Int) (xs : List Int) : List Int := match k with
  | .push => v :: xs
  | .clear => []
  | .top => xs
  | .pop => xs.tail
  | .swap => match xs with
    | [] => []
    | _ :: r => v :: r
theorem plV_le (k : Dk) (v : Int) (xs : List Int) : (plV k v xs).length ≤ xs.length + 1 := by
  cases k <;> cases xs <;> simp [plV]
  (first | lia | omega)
theorem m_addL {xs ys : List AV} (h : xs.length + ys.length ≤ LIM) : pBin false .Add (.lst xs) (.lst ys) = pure (.lst (xs ++ ys)) := by
  show (do let a ← listOf (.lst xs); let b ← listOf (.lst ys); newL false (a ++ b)) = _
  show newL false (xs ++ ys) = _
  exact e_newL (by rw [List.length_append]; exact h)
theorem cut1 (x : AV) (xs : List AV) : cut (x :: xs) (some 1) none = xs := by
  have : clipA (x :: xs).length 1 = 1 := by unfold clipA; simp; (first | lia | omega)
  unfold cut
  simp only [Option.elim, this]
  simp
theorem cut1' : cut [] (some 1) none = [] := by unfold cut; simp
theorem slice1 (x : AV) (xs : List AV) (h : xs.length ≤ LIM) : pSlice false (.lst (x :: xs)) (some 1) none = pure (.lst xs) := by
  show newL false (cut (x :: xs) (some 1) none) = _
  rw [cut1, e_newL h]
theorem slice1' : pSlice false (.lst []) (some 1) none = pure (.lst []) := by
  show newL false (cut [] (some 1) none) = _
  rw [cut1', e_newL (Nat.zero_le _)]
theorem e_tup_lst {mu : Bool} {xs : List AV} : pBI mu .tuple [.lst xs] = pure (.tup xs) := rfl
theorem it_push (v : Int) : pItem (deedK .push v) (.int 0) = pure (.str "push") := by kernel_rfl
theorem it_pop (v : Int) : pItem (deedK .pop v) (.int 0) = pure (.str "pop") := by kernel_rfl
theorem it_top (v : Int) : pItem (deedK .top v) (.int 0) = pure (.str "top") := by kernel_rfl
theorem it_swap (v : Int) : pItem (deedK .swap v) (.int 0) = pure (.str "swap") := by kernel_rfl
theorem it_clear (v : Int) : pItem (deedK .clear v) (.int 0) = pure (.str "clear") := by kernel_rfl
theorem iv_push (v : Int) : pItem (deedK .push v) (.int 1) = pure (.int v) := by kernel_rfl
theorem iv_swap (v : Int) : pItem (deedK .swap v) (.int 1) = pure (.int v) := by kernel_rfl
theorem q_push_push : pCmp .Eq (.str "push") (.str "push") = pure true := by kernel_rfl
theorem q_pop_push : pCmp .Eq (.str "pop") (.str "push") = pure false := by kernel_rfl
theorem q_pop_pop : pCmp .Eq (.str "pop") (.str "pop") = pure true := by kernel_rfl
theorem q_pop_top : pCmp .Eq (.str "pop") (.str "top") = pure false := by kernel_rfl
theorem q_pop_swap : pCmp .Eq (.str "pop") (.str "swap") = pure false := by kernel_rfl
theorem q_pop_clear : pCmp .Eq (.str "pop") (.str "clear") = pure false := by kernel_rfl
theorem q_top_push : pCmp .Eq (.str "top") (.str "push") = pure false := by kernel_rfl
theorem q_top_pop : pCmp .Eq (.str "top") (.str "pop") = pure false := by kernel_rfl
theorem q_top_top : pCmp .Eq (.str "top") (.str "top") = pure true := by kernel_rfl
theorem q_top_swap : pCmp .Eq (.str "top") (.str "swap") = pure false := by kernel_rfl
theorem q_top_clear : pCmp .Eq (.str "top") (.str "clear") = pure false := by kernel_rfl
theorem q_swap_push : pCmp .Eq (.str "swap") (.str "push") = pure false := by kernel_rfl
theorem q_swap_pop : pCmp .Eq (.str "swap") (.str "pop") = pure false := by kernel_rfl
theorem q_swap_top : pCmp .Eq (.str "swap") (.str "top") = pure false := by kernel_rfl
theorem q_swap_swap : pCmp .Eq (.str "swap") (.str "swap") = pure true := by kernel_rfl
theorem q_swap_clear : pCmp .Eq (.str "swap") (.str "clear") = pure false := by kernel_rfl
theorem q_clear_push : pCmp .Eq (.str "clear") (.str "push") = pure false := by kernel_rfl
theorem q_clear_clear : pCmp .Eq (.str "clear") (.str "clear") = pure true := by kernel_rfl
theorem len0 (xs : List Int) : pBI false .len [.lst (xs.map .int)] = pure (.int xs.length) := by rw [e_len_lst, List.length_map]
theorem isnil (xs : List Int) : pCmp .NotEq (.lst (xs.map .int)) (.lst []) = pure (!xs.isEmpty) := by
  funext H
  show (pCmp .Eq (.lst (xs.map .int)) (.lst []) >>= fun r => pure (!r)) H = _
  obtain ⟨ds, h1, h2⟩ := mapM_ok (f := rd H 7) (xs := xs.map .int) fun x hx => by obtain ⟨i, _, rfl⟩ := List.mem_map.mp hx; exact ⟨_, rd_int⟩
  refine bind_of (a := xs.isEmpty) (H1 := H) ?_ rfl
  rw [eq_is (show rd H 8 (.lst (xs.map .int)) = some (.list ds) from by show Option.map _ ((xs.map AV.int).mapM (rd H 7)) = _; rw [h1]; rfl) rd_nil, eqv_nil]
  have : ds.isEmpty = xs.isEmpty := by rw [List.length_map] at h2; cases ds <;> cases xs <;> simp_all
  rw [this]
theorem l0 {x : AV} {xs : List AV} : pItem (.lst (x :: xs)) (.int 0) = pure x := e_item_lst (k := 0) rfl
theorem decE {n : Nat} (h : n = 0) : (decide ((n : Int) = 0)) = true := by subst h; rfl
end Mine


set_option autoImplicit false
set_option linter.unusedVariables false
namespace Mine
open PySem PyProof.Rows

theorem compA_go {src : Src} {body : AV → M (Option AV)} (xs : List AV) (I : Nat → List AV → AHeap → Prop) (hl : xs.length < 100000)
    (hg : ∀ (i : Nat) acc H, I i acc H → src.get i H = some (.ok (xs[i]?), H))
    (hs : ∀ (i : Nat) a acc H, xs[i]? = some a → acc.length = i → I i acc H → Rn (body a) H fun o H' => ∃ y, o = some y ∧ I (i + 1) (acc ++ [y]) H') :
    ∀ (fuel i : Nat) (acc : List AV) (H : AHeap), i ≤ xs.length → acc.length = i → xs.length < i + fuel → I i acc H → Rn (compLoop src body fuel i acc) H fun ys H' => I xs.length ys H' ∧ ys.length = xs.length := by
  intro fuel
  induction fuel with
  | zero => intro i acc H h1 _ h2; exact absurd h2 (Nat.not_lt.mpr h1)
  | succ f ih =>
    intro i acc H h1 hacc hf h
    refine Rn.bof (hg i acc H h) ?_
    rcases Nat.eq_or_lt_of_le h1 with e | hi
    · subst e
      rw [List.getElem?_eq_none (Nat.le_refl _)]
      exact .pure ⟨h, hacc⟩
    · have ha := List.getElem?_eq_getElem hi
      rw [ha]
      refine .then (hs i _ acc H ha hacc h).noX fun o H1 q => ?_
      obtain ⟨y, rfl, q⟩ := q
      show Rn (if acc.length < LIM then _ else _) _ _
      rw [if_pos (ltLIM (Nat.lt_trans (hacc ▸ hi) hl))]
      exact ih (i + 1) (acc ++ [y]) H1 hi (by rw [List.length_append, hacc]; rfl) (Nat.succ_add_eq_add_succ i f ▸ hf) q
theorem compA {src : Src} {body : AV → M (Option AV)} {H : AHeap} (xs : List AV) (I : Nat → List AV → AHeap → Prop) (hl : xs.length < 100000)
    (hg : ∀ (i : Nat) acc H, I i acc H → src.get i H = some (.ok (xs[i]?), H)) (h0 : I 0 [] H)
    (hs : ∀ (i : Nat) a acc H, xs[i]? = some a → acc.length = i → I i acc H → Rn (body a) H fun o H' => ∃ y, o = some y ∧ I (i + 1) (acc ++ [y]) H') :
    Rn (compLoop src body FUEL 0 []) H fun ys H' => I xs.length ys H' ∧ ys.length = xs.length :=
  compA_go xs I hl hg hs FUEL 0 [] H (Nat.zero_le _) rfl (by rw [FUEL_is, Nat.zero_add]; exact hl) h0

noncomputable def AllN (L : List AV) : Prop := ∀ x ∈ L, ∃ v : Int, x = .int v ∧ 0 ≤ v
theorem d36 : (36 : Int) ≠ 0 ∧ (36 : Int).natAbs < 1073741824 := ⟨by decide, by decide⟩
theorem mod_nat {i : Int} {m : Nat} (hm : 1 ≤ m) : ∃ j : Nat, j < m ∧ pBin false .Mod (.int i) (.int m) = pure (.int j) := by
  have h := fmod_lt i (b := (m : Int)) (by omega)
  obtain ⟨j, hj⟩ := Int.eq_ofNat_of_zero_le h.1
  exact ⟨j, by omega, by rw [m_mod (by omega), hj]⟩
theorem set_at {H : AHeap} {l : Nat} {o x : AO} (h : H[l]? = some o) : (H.set l x)[l]? = some x := List.getElem?_set_self (List.getElem?_eq_some_iff.mp h).1
theorem app_at {H : AHeap} {o : AO} : (H ++ [o])[H.length]? = some o := by simp
theorem app_lt {H : AHeap} {o : AO} {l : Nat} (h : l < H.length) : (H ++ [o])[l]? = H[l]? := List.getElem?_append_left h
theorem m_cat_loc {H : AHeap} {l : Nat} {xs ys : List AV} (h : H[l]? = some (.list xs)) (hl : xs.length + ys.length ≤ LIM) : pBin true .Add (.loc l) (.lst ys) H = some (.ok (.loc H.length), H ++ [.list (xs ++ ys)]) := by
  show (do let xs ← listOf (.loc l); let ys ← listOf (.lst ys); newL true (xs ++ ys)) H = _
  exact bind_of (listOf_loc h) (newT (by rw [List.length_append]; exact hl))
theorem m_mul_lst {xs : List AV} {n : Nat} (h : n ≤ 100) (hx : xs.length ≤ 1) : pBin false .Mult (.lst xs) (.int n) = pure (.lst (List.replicate n xs).flatten) := by
  have L := LIMis
  have hm : n * xs.length ≤ 100 * 1 := Nat.mul_le_mul h hx
  show (do let xs ← (pure xs : M _); if (n : Int) < 0 ∨ 1048576 < (n : Int) ∨ LIM < (n : Int).toNat * xs.length then stuck else newL false (List.replicate (n : Int).toNat xs).flatten) = _
  rw [pure_bind, if_neg (by rw [Int.toNat_natCast]; (first | lia | omega)), Int.toNat_natCast]
  rw [e_newL (by rw [List.length_flatten]; simp; (first | lia | omega))]

theorem get_loc {H : AHeap} {l i : Nat} {xs : List AV} (h : H[l]? = some (.list xs)) : (Src.at l).get i H = some (.ok xs[i]?, H) := bind_of (listAt_is h) rfl
end Mine


set_option autoImplicit false
set_option linter.unusedVariables false
namespace Mine
open PySem PyProof.Rows

theorem e_neb (a b : Bool) : pCmp .NotEq (.bool a) (.bool b) = pure (a != b) := by cases a <;> cases b <;> kernel_rfl
noncomputable def prV (p : AV × AV) : AV := .tup [p.1, p.2]
theorem zip_map : ∀ (xs ys : List AV), List.zipWith (fun x y => AV.tup [x, y]) xs ys = (xs.zip ys).map prV
  | [], _ => by simp
  | _ :: _, [] => by simp
  | x :: xs, y :: ys => by
    show AV.tup [x, y] :: List.zipWith (fun x y => AV.tup [x, y]) xs ys = prV (x, y) :: (xs.zip ys).map prV
    rw [zip_map xs ys]; rfl
theorem set_far {H X : AHeap} {l : Nat} {o : AO} (h : H.length ≤ l) : (H ++ X).set l o = H ++ X.set (l - H.length) o := by
  rw [List.set_append, if_neg (by (first | lia | omega))]
theorem add_loc {H : AHeap} {l : Nat} {xs ys : List AV} (h : H[l]? = some (.list xs)) (hz : xs.length + ys.length ≤ LIM) : pBin true .Add (.loc l) (.lst ys) H = some (.ok (.loc H.length), H ++ [.list (xs ++ ys)]) :=
  bind_of (listOf_loc h) (show newL true (xs ++ ys) H = _ from newT (by rw [List.length_append]; exact hz))
theorem e_it1 {x y : AV} {xs : List AV} : pItem (.tup (x :: y :: xs)) (.int 1) = pure y := e_item_tup (k := 1) rfl
theorem e_nei {i j : Int} : pCmp .NotEq (.int i) (.int j) = pure (!decide (i = j)) := by
  show (pCmp .Eq (.int i) (.int j) >>= fun r => pure (!r)) = _
  rw [e_eqi]; rfl
theorem e_isN {a : AV} : pCmp .Is a .none = pure (pIsNone a) := rfl
end Mine


set_option autoImplicit false
set_option linter.unusedVariables false
namespace Mine
open PySem PyProof.Rows

structure Deed where
  k : Dk
  v : Int
noncomputable def deedV (d : Deed) : AV := deedK d.k d.v
inductive Kn where
  | marks | bare | new
  deriving DecidableEq
noncomputable def knS : Kn → Str
  | .marks => "marks"
  | .bare => "bare"
  | .new => "new"
inductive Nx where
  | take | look | see | put | check | walk
noncomputable def nxS : Nx → Str
  | .take => "take"
  | .look => "look"
  | .see => "see"
  | .put => "put"
  | .check => "check"
  | .walk => "walk"
inductive An where
  | none
  | int (i : Int)
  | tup (xs : List Int)
noncomputable def anV : An → AV
  | .none => .none
  | .int i => .int i
  | .tup xs => .tup (xs.map .int)
structure Wk where
  deed : Deed
  begun : Nat
  next : Nx
  own : Option Nat
  seen : Option (Option Nat × Nat)
  inside : Option (Int × Option Nat)
  walk : Option Nat
  kept : List Int
  row : Option Nat
structure Hd where
  prog : List Deed
  place : Nat
  work : Option Wk
structure Row where
  num : Nat
  place : Nat
  deed : Deed
  begun : Nat
  point : Nat
  fin : Option (Nat × An)
structure Tw where
  kind : Kn
  boxes : List (Int × Option Nat)
  head : Option Nat
  mark : Nat
  spare : List Nat
  hands : List Hd
  time : Nat
  rows : List Row
inductive Td where
  | take (b : Nat)
  | look (h : Option Nat) (m : Nat)
  | see (b : Nat) (v : Int) (u : Option Nat)
  | put (b : Bool)
  | rest

noncomputable def firstN : Dk → Nx
  | .push | .swap => .take
  | _ => .look
noncomputable def lookN : Dk → Nx
  | .push | .clear => .put
  | _ => .see
noncomputable def seeN : Dk → Nx
  | .top => .check
  | _ => .put
noncomputable def Tw.still (t : Tw) (x : Option Nat) (m : Nat) : Bool := decide (t.head = x) && (decide (t.kind ≠ .marks) || decide (t.mark = m))
noncomputable def Tw.ends (t : Tw) (i p : Nat) (w : Wk) (a : An) : Tw := { t with rows := t.rows ++ [⟨i, p, w.deed, w.begun, t.time, some (t.time, a)⟩] }
noncomputable def Tw.below (t : Tw) (o : Nat) (u : Option Nat) : Tw := { t with boxes := t.boxes.set o (((t.boxes[o]?).getD (0, none)).1, u) }
noncomputable def Tw.box (t : Tw) (o : Nat) : Int × Option Nat := (t.boxes[o]?).getD (0, none)

noncomputable def opTake (t : Tw) (w : Wk) : Tw × Option Wk × Td :=
  if t.kind = .new ∨ t.spare = [] then ({ t with boxes := t.boxes ++ [(w.deed.v, none)] }, some { w with own := some t.boxes.length, next := .look }, .take t.boxes.length)
  else ({ t with spare := t.spare.dropLast, boxes := t.boxes.set (t.spare.getLastD 0) (w.deed.v, none) }, some { w with own := some (t.spare.getLastD 0), next := .look }, .take (t.spare.getLastD 0))
noncomputable def opLook (t : Tw) (i p : Nat) (w : Wk) : Tw × Option Wk × Td := match w.deed.k with
  | .push => (t.below (w.own.getD 0) t.head, some { w with seen := some (t.head, t.mark), next := .put }, .look t.head t.mark)
  | k => match t.head with
    | some h => (t, some { w with seen := some (some h, t.mark), next := lookN k }, .look (some h) t.mark)
    | none => match k with
      | .swap => (Tw.ends { t with spare := t.spare ++ [w.own.getD 0] } i p w .none, none, .look none t.mark)
      | .clear => (t.ends i p w (.tup []), none, .look none t.mark)
      | _ => (t.ends i p w .none, none, .look none t.mark)
noncomputable def opSee (t : Tw) (w : Wk) : Tw × Option Wk × Td :=
  let b := ((w.seen.getD (none, 0)).1).getD 0
  let r := t.box b
  match w.deed.k with
  | .swap => (t.below (w.own.getD 0) r.2, some { w with inside := some r, next := .put }, .see b r.1 r.2)
  | k => (t, some { w with inside := some r, next := seeN k }, .see b r.1 r.2)
noncomputable def opPut (t : Tw) (i p : Nat) (w : Wk) : Tw × Option Wk × Td :=
  let s := w.seen.getD (none, 0)
  let r := w.inside.getD (0, none)
  match t.still s.1 s.2 with
  | false => (t, some { w with next := .look }, .put false)
  | true => match w.deed.k with
    | .clear => ({ t with mark := t.mark + 1, head := none, rows := t.rows ++ [⟨i, p, w.deed, w.begun, t.time, none⟩] }, some { w with row := some t.rows.length, walk := t.head, next := .walk }, .put true)
    | .push => (Tw.ends { t with mark := t.mark + 1, head := w.own } i p w .none, none, .put true)
    | .pop => (Tw.ends { t with mark := t.mark + 1, head := r.2, spare := t.spare ++ [t.head.getD 0] } i p w (.int r.1), none, .put true)
    | _ => (Tw.ends { t with mark := t.mark + 1, head := w.own, spare := t.spare ++ [t.head.getD 0] } i p w (.int r.1), none, .put true)
noncomputable def opCheck (t : Tw) (i p : Nat) (w : Wk) : Tw × Option Wk × Td :=
  let s := w.seen.getD (none, 0)
  match t.still s.1 s.2 with
  | true => (t.ends i p w (.int (w.inside.getD (0, none)).1), none, .look t.head t.mark)
  | false => (t, some { w with next := .look }, .look t.head t.mark)
noncomputable def setFin (a : Nat × An) (r : Row) : Row := { r with fin := some a }
noncomputable def opWalk (t : Tw) (w : Wk) : Tw × Option Wk × Td :=
  let b := w.walk.getD 0
  let r := t.box b
  match r.2 with
  | some u => ({ t with spare := t.spare ++ [b] }, some { w with kept := w.kept ++ [r.1], walk := some u }, .see b r.1 (some u))
  | none => ({ t with spare := t.spare ++ [b], rows := t.rows.modify (w.row.getD 0) (setFin (t.time, .tup (w.kept ++ [r.1]))) }, none, .see b r.1 none)
noncomputable def op (t : Tw) (i p : Nat) (w : Wk) : Tw × Option Wk × Td := match w.next with
  | .take => opTake t w
  | .look => opLook t i p w
  | .see => opSee t w
  | .put => opPut t i p w
  | .check => opCheck t i p w
  | .walk => opWalk t w
noncomputable def newW (d : Deed) (time : Nat) : Wk := ⟨d, time, firstN d.k, none, none, none, none, [], none⟩
noncomputable def Hd.now (h : Hd) (time : Nat) : Option Wk := match h.work with
  | some w => some w
  | none => (h.prog[h.place]?).map fun d => newW d time
noncomputable def Hd.next (h : Hd) : Option Wk → Hd
  | some w => { h with work := some w }
  | none => { h with place := h.place + 1, work := none }
noncomputable def step (t : Tw) (i : Nat) : Tw × Td := match t.hands[i]? with
  | none => (t, .rest)
  | some h => match h.now t.time with
    | none => ({ t with time := t.time + 1 }, .rest)
    | some w => ({ (op t i h.place w).1 with hands := t.hands.set i (h.next (op t i h.place w).2.1), time := t.time + 1 }, (op t i h.place w).2.2)
end Mine


set_option autoImplicit false
set_option linter.unusedVariables false
namespace Mine
open PySem PyProof.Rows

noncomputable def IxOk (n : Nat) (x : Option Nat) : Prop := ∀ i, x = some i → i < n
theorem IxOk.mono {n m : Nat} {x : Option Nat} (h : IxOk n x) (hm : n ≤ m) : IxOk m x := fun i e => Nat.lt_of_lt_of_le (h i e) hm
theorem IxOk.none {n : Nat} : IxOk n none := fun i e => by cases e
theorem IxOk.some {n i : Nat} (h : i < n) : IxOk n (some i) := fun j e => by cases e; exact h
noncomputable def BsOk (n : Nat) (bs : List (Int × Option Nat)) : Prop := ∀ b ∈ bs, IxOk n b.2
structure TwOk (k : Nat) (t : Tw) : Prop where
  head : IxOk t.boxes.length t.head
  boxes : BsOk t.boxes.length t.boxes
  spare : ∀ i ∈ t.spare, i < t.boxes.length
  lb : t.boxes.length ≤ 60 + k
  ls : t.spare.length ≤ k
  lr : t.rows.length ≤ k
noncomputable def OwAt (n : Nat) (x : Option Nat) : Dk → Prop
  | .push => ∃ o, x = some o ∧ o < n
  | .swap => ∃ o, x = some o ∧ o < n
  | _ => True
noncomputable def OwOk (n : Nat) (w : Wk) : Prop := OwAt n w.own w.deed.k
theorem OwAt.mono {n m : Nat} {x : Option Nat} (hm : n ≤ m) : ∀ {k : Dk}, OwAt n x k → OwAt m x k
  | .push, ⟨o, h1, h2⟩ => ⟨o, h1, Nat.lt_of_lt_of_le h2 hm⟩
  | .swap, ⟨o, h1, h2⟩ => ⟨o, h1, Nat.lt_of_lt_of_le h2 hm⟩
  | .pop, h => h
  | .top, h => h
  | .clear, h => h
theorem OwAt.is {n o : Nat} (h : o < n) : ∀ k : Dk, OwAt n (some o) k
  | .push => ⟨o, rfl, h⟩
  | .swap => ⟨o, rfl, h⟩
  | .pop => trivial
  | .top => trivial
  | .clear => trivial
theorem OwOk.mono {n m : Nat} {w : Wk} (h : OwOk n w) (hm : n ≤ m) : OwOk m w := OwAt.mono hm h
noncomputable def StAt (n r : Nat) (w : Wk) : Nx → Prop
  | .take => w.row = none ∧ (w.deed.k = .push ∨ w.deed.k = .swap)
  | .look => w.row = none ∧ OwOk n w
  | .see => w.row = none ∧ OwOk n w ∧ (w.deed.k = .swap ∨ w.deed.k = .pop ∨ w.deed.k = .top) ∧ ∃ i m, i < n ∧ w.seen = some (some i, m)
  | .put => w.row = none ∧ OwOk n w ∧ w.deed.k ≠ .top ∧ ∃ x m, IxOk n x ∧ w.seen = some (x, m) ∧ (w.deed.k ≠ .push → x ≠ none) ∧ ((w.deed.k = .swap ∨ w.deed.k = .pop) → ∃ v b, w.inside = some (v, b) ∧ IxOk n b)
  | .check => w.row = none ∧ w.deed.k = .top ∧ ∃ x m v b, w.seen = some (x, m) ∧ w.inside = some (v, b)
  | .walk => w.deed.k = .clear ∧ (∃ i, i < n ∧ w.walk = some i) ∧ ∃ j, j < r ∧ w.row = some j
noncomputable def StOk (n r : Nat) (w : Wk) : Prop := StAt n r w w.next
noncomputable def WkOk (k n r : Nat) (w : Wk) : Prop := w.kept.length ≤ k ∧ StOk n r w
theorem StAt.mono {n m r q : Nat} {w : Wk} (hm : n ≤ m) (hq : r ≤ q) {x : Nx} (h : StAt n r w x) : StAt m q w x := by
  cases x with
  | take => exact h
  | look => exact ⟨h.1, h.2.mono hm⟩
  | see =>
    obtain ⟨h1, h2, h3, i, x, h4, h5⟩ := h
    exact ⟨h1, h2.mono hm, h3, i, x, Nat.lt_of_lt_of_le h4 hm, h5⟩
  | put =>
    obtain ⟨h1, h2, h3, x, y, h4, h5, h6, h7⟩ := h
    exact ⟨h1, h2.mono hm, h3, x, y, h4.mono hm, h5, h6, fun q => by obtain ⟨v, b, g1, g2⟩ := h7 q; exact ⟨v, b, g1, g2.mono hm⟩⟩
  | check => exact h
  | walk =>
    obtain ⟨h1, ⟨i, h2, h3⟩, j, h4, h5⟩ := h
    exact ⟨h1, ⟨i, Nat.lt_of_lt_of_le h2 hm, h3⟩, j, Nat.lt_of_lt_of_le h4 hq, h5⟩
theorem StOk.mono {n m r q : Nat} {w : Wk} (h : StOk n r w) (hm : n ≤ m) (hq : r ≤ q) : StOk m q w := StAt.mono hm hq h
theorem WkOk.mono {k l n m r q : Nat} {w : Wk} (h : WkOk k n r w) (hk : k ≤ l) (hm : n ≤ m) (hq : r ≤ q) : WkOk l m q w := ⟨Nat.le_trans h.1 hk, h.2.mono hm hq⟩
structure HdOk (k n r : Nat) (h : Hd) : Prop where
  place : h.place ≤ h.prog.length
  work : ∀ w, h.work = some w → h.place < h.prog.length ∧ WkOk k n r w
theorem HdOk.mono {k l n m r q : Nat} {h : Hd} (x : HdOk k n r h) (hk : k ≤ l) (hm : n ≤ m) (hq : r ≤ q) : HdOk l m q h := ⟨x.place, fun w e => ⟨(x.work w e).1, (x.work w e).2.mono hk hm hq⟩⟩
structure AllOk (k : Nat) (t : Tw) : Prop where
  tw : TwOk k t
  hd : ∀ h ∈ t.hands, HdOk k t.boxes.length t.rows.length h

theorem BsOk.mono {n m : Nat} {bs : List (Int × Option Nat)} (h : BsOk n bs) (hm : n ≤ m) : BsOk m bs := fun b hb => (h b hb).mono hm
theorem BsOk.app {n : Nat} {bs : List (Int × Option Nat)} {x : Int × Option Nat} (h : BsOk n bs) (hx : IxOk n x.2) : BsOk n (bs ++ [x]) := fun b hb => by
  rcases List.mem_append.mp hb with q | q
  · exact h b q
  · rw [List.mem_singleton.mp q]; exact hx
theorem BsOk.set {n o : Nat} {bs : List (Int × Option Nat)} {x : Int × Option Nat} (h : BsOk n bs) (hx : IxOk n x.2) : BsOk n (bs.set o x) := fun b hb => by
  rcases List.mem_or_eq_of_mem_set hb with q | q
  · exact h b q
  · rw [q]; exact hx
theorem BsOk.box {t : Tw} {n o : Nat} (h : BsOk n t.boxes) : IxOk n (t.box o).2 := by
  unfold Tw.box
  cases e : t.boxes[o]? with
  | none => exact .none
  | some b => exact h b (List.mem_of_getElem? e)
structure Gr (t t' : Tw) : Prop where
  kind : t'.kind = t.kind
  hands : t'.hands = t.hands
  time : t'.time = t.time
  bl : t.boxes.length ≤ t'.boxes.length
  rl : t.rows.length ≤ t'.rows.length
theorem Gr.refl (t : Tw) : Gr t t := ⟨rfl, rfl, rfl, Nat.le_refl _, Nat.le_refl _⟩

theorem lastD_mem {l : List Nat} (h : l ≠ []) : l.getLastD 0 ∈ l := by
  cases l with
  | nil => exact absurd rfl h
  | cons a r => rw [show (a :: r).getLastD 0 = (a :: r).getLast (List.cons_ne_nil _ _) from rfl]; exact List.getLast_mem _
section
variable {k : Nat} {t : Tw} {i p : Nat} {w : Wk}
noncomputable def OpOk (k : Nat) (t : Tw) (r : Tw × Option Wk × Td) : Prop := Gr t r.1 ∧ TwOk (k + 1) r.1 ∧ ∀ w', r.2.1 = some w' → WkOk (k + 1) r.1.boxes.length r.1.rows.length w'
theorem TwOk.up (T : TwOk k t) : TwOk (k + 1) t := ⟨T.head, T.boxes, T.spare, by have := T.lb; (first | lia | omega), Nat.le_succ_of_le T.ls, Nat.le_succ_of_le T.lr⟩
theorem TwOk.ends (T : TwOk k t) {s : Tw} {a : An} (h1 : s.boxes = t.boxes) (h2 : IxOk t.boxes.length s.head) (h3 : s.spare = t.spare ∨ ∃ j, j < t.boxes.length ∧ s.spare = t.spare ++ [j]) (h4 : s.rows = t.rows) (hk : s.kind = t.kind) (hh : s.hands = t.hands) (ht : s.time = t.time) {td : Td} : OpOk k t (s.ends i p w a, none, td) := by
  have lb := T.lb
  have ls := T.ls
  have lr := T.lr
  refine ⟨⟨hk, hh, ht, by show _ ≤ s.boxes.length; rw [h1]; exact Nat.le_refl _, by show _ ≤ (s.rows ++ [_]).length; rw [h4, List.length_append]; exact Nat.le_add_right _ _⟩, ⟨by show IxOk s.boxes.length _; rw [h1]; exact h2, by show BsOk s.boxes.length s.boxes; rw [h1]; exact T.boxes, ?_, by show s.boxes.length ≤ _; rw [h1]; (first | lia | omega), ?_, ?_⟩, fun w' e => by cases e⟩
  · show ∀ i ∈ s.spare, i < s.boxes.length
    rw [h1]
    rcases h3 with q | ⟨j, hj, q⟩
    · rw [q]; exact T.spare
    · rw [q]
      intro x hx
      rcases List.mem_append.mp hx with z | z
      · exact T.spare x z
      · rw [List.mem_singleton.mp z]; exact hj
  · show s.spare.length ≤ _
    rcases h3 with q | ⟨j, hj, q⟩
    · rw [q]; (first | lia | omega)
    · rw [q, List.length_append]; exact Nat.succ_le_succ ls
  · show (s.rows ++ [_]).length ≤ _
    rw [h4, List.length_append]; exact Nat.succ_le_succ lr
set_option tactic.hygienic true in
theorem okTake (T : TwOk k t) (h1 : w.kept.length ≤ k) (h2 : w.row = none) : OpOk k t (opTake t w) := by
  have lb := T.lb
  have ow : ∀ {o m : Nat}, o < m → OwOk m { w with own := some o, next := .look } := fun {o m} ho => OwAt.is ho _
  unfold opTake
  split
  · have e : (t.boxes ++ [(w.deed.v, none)]).length = t.boxes.length + 1 := List.length_append
    refine ⟨⟨rfl, rfl, rfl, by show _ ≤ (t.boxes ++ [_]).length; (first | lia | omega), Nat.le_refl _⟩, ⟨T.head.mono (by show _ ≤ (t.boxes ++ [_]).length; (first | lia | omega)), ?_, fun i hi => Nat.lt_of_lt_of_le (T.spare i hi) (by show _ ≤ (t.boxes ++ [_]).length; (first | lia | omega)), by show (t.boxes ++ [_]).length ≤ _; (first | lia | omega), Nat.le_succ_of_le T.ls, Nat.le_succ_of_le T.lr⟩, fun w' q => ?_⟩
    · show BsOk (t.boxes ++ [_]).length (t.boxes ++ [_])
      rw [e]; exact (T.boxes.mono (Nat.le_succ _)).app .none
    · cases q
      exact ⟨Nat.le_succ_of_le h1, h2, ow (by show _ < (t.boxes ++ [_]).length; (first | lia | omega))⟩
  · rename_i hc
    have hne : t.spare ≠ [] := fun q => hc (.inr q)
    have hi := T.spare _ (lastD_mem hne)
    have e : (t.boxes.set (t.spare.getLastD 0) (w.deed.v, none)).length = t.boxes.length := List.length_set
    refine ⟨⟨rfl, rfl, rfl, Nat.le_of_eq e.symm, Nat.le_refl _⟩, ⟨T.head.mono (Nat.le_of_eq e.symm), (T.boxes.mono (Nat.le_of_eq e.symm)).set .none, fun i hi => Nat.lt_of_lt_of_le (T.spare i (List.dropLast_subset _ hi)) (Nat.le_of_eq e.symm), by show (t.boxes.set _ _).length ≤ _; (first | lia | omega), ?_, Nat.le_succ_of_le T.lr⟩, fun w' q => ?_⟩
    · show t.spare.dropLast.length ≤ _
      have := T.ls
      rw [List.length_dropLast]; (first | lia | omega)
    · cases q
      exact ⟨Nat.le_succ_of_le h1, h2, ow (by show _ < (t.boxes.set _ _).length; (first | lia | omega))⟩
theorem below_ok (T : TwOk k t) {o : Nat} {u : Option Nat} (hu : IxOk t.boxes.length u) : Gr t (t.below o u) ∧ TwOk (k + 1) (t.below o u) ∧ (t.below o u).boxes.length = t.boxes.length := by
  have lb := T.lb
  have e : (t.below o u).boxes.length = t.boxes.length := List.length_set
  refine ⟨⟨rfl, rfl, rfl, Nat.le_of_eq e.symm, Nat.le_refl _⟩, ⟨T.head.mono (Nat.le_of_eq e.symm), (T.boxes.mono (Nat.le_of_eq e.symm)).set (hu.mono (Nat.le_of_eq e.symm)), fun i hi => Nat.lt_of_lt_of_le (T.spare i hi) (Nat.le_of_eq e.symm), by rw [e]; (first | lia | omega), Nat.le_succ_of_le T.ls, Nat.le_succ_of_le T.lr⟩, e⟩
theorem okLook (T : TwOk k t) (h1 : w.kept.length ≤ k) (h2 : w.row = none) (ho : OwOk t.boxes.length w) : OpOk k t (opLook t i p w) := by
  have rest : ∀ {kk : Dk}, w.deed.k = kk → kk ≠ .push → ∀ {x : Nat}, t.head = some x → OpOk k t (t, some { w with seen := some (some x, t.mark), next := lookN kk }, .look (some x) t.mark) := fun {kk} e hne {x} hx => by
    refine ⟨Gr.refl t, T.up, fun w' q => ?_⟩
    cases q
    refine ⟨Nat.le_succ_of_le h1, ?_⟩
    have hx' := T.head x hx
    cases kk with
    | push => exact absurd rfl hne
    | clear => exact ⟨h2, ho, by rw [show w.deed.k = .clear from e]; exact (fun q => by cases q), some x, t.mark, .some hx', rfl, (fun u_ q => by cases q), fun q => by rw [show w.deed.k = .clear from e] at q; rcases q with q | q <;> cases q⟩
    | pop => exact ⟨h2, ho, .inr (.inl e), x, t.mark, hx', rfl⟩
    | top => exact ⟨h2, ho, .inr (.inr e), x, t.mark, hx', rfl⟩
    | swap => exact ⟨h2, ho, .inl e, x, t.mark, hx', rfl⟩
  unfold opLook
  cases hk : w.deed.k with
  | push =>
    obtain ⟨g, T1, e⟩ := below_ok (o := w.own.getD 0) T T.head
    refine ⟨g, T1, fun w' q => ?_⟩
    cases q
    refine ⟨Nat.le_succ_of_le h1, h2, ho.mono g.bl, by rw [show ({ w with seen := some (t.head, t.mark), next := Nx.put } : Wk).deed.k = .push from hk]; exact (fun q => by cases q), t.head, t.mark, T.head.mono g.bl, rfl, fun q => absurd hk q, fun q => ?_⟩
    rw [show ({ w with seen := some (t.head, t.mark), next := Nx.put } : Wk).deed.k = .push from hk] at q
    rcases q with q | q <;> cases q
  | swap =>
    cases hh : t.head with
    | some x => exact rest hk (fun q => by cases q) hh
    | none =>
      unfold OwOk at ho
      rw [hk] at ho
      obtain ⟨o, h3, h4⟩ := ho
      exact T.ends (s := { t with head := none, spare := t.spare ++ [w.own.getD 0] }) rfl .none (.inr ⟨o, h4, by rw [h3]; rfl⟩) rfl rfl rfl rfl
  | clear =>
    cases hh : t.head with
    | some x => exact rest hk (fun q => by cases q) hh
    | none => exact T.ends rfl T.head (.inl rfl) rfl rfl rfl rfl
  | pop =>
    cases hh : t.head with
    | some x => exact rest hk (fun q => by cases q) hh
    | none => exact T.ends rfl T.head (.inl rfl) rfl rfl rfl rfl
  | top =>
    cases hh : t.head with
    | some x => exact rest hk (fun q => by cases q) hh
    | none => exact T.ends rfl T.head (.inl rfl) rfl rfl rfl rfl
theorem okSee (T : TwOk k t) (h1 : w.kept.length ≤ k) (h2 : w.row = none) (ho : OwOk t.boxes.length w) (hw : w.deed.k = .swap ∨ w.deed.k = .pop ∨ w.deed.k = .top) {x m : Nat} (hx : x < t.boxes.length) (hs : w.seen = some (some x, m)) : OpOk k t (opSee t w) := by
  have hb := T.boxes.box (o := x)
  have eb : ((w.seen.getD (none, 0)).1).getD 0 = x := by rw [hs]; rfl
  unfold opSee
  simp only [eb]
  rcases hw with hk | hk | hk
  · rw [hk]
    obtain ⟨g, T1, e⟩ := below_ok (o := w.own.getD 0) T hb
    refine ⟨g, T1, fun w' q => ?_⟩
    cases q
    exact ⟨Nat.le_succ_of_le h1, h2, ho.mono g.bl, by rw [show ({ w with inside := some (t.box x), next := Nx.put } : Wk).deed.k = .swap from hk]; exact (fun q => by cases q), some x, m, (IxOk.some hx).mono g.bl, hs, (fun u_ q => by cases q), fun u_ => ⟨_, _, rfl, hb.mono g.bl⟩⟩
  · rw [hk]
    refine ⟨Gr.refl t, T.up, fun w' q => ?_⟩
    cases q
    exact ⟨Nat.le_succ_of_le h1, h2, ho, by rw [show ({ w with inside := some (t.box x), next := Nx.put } : Wk).deed.k = .pop from hk]; exact (fun q => by cases q), some x, m, .some hx, hs, (fun u_ q => by cases q), fun u_ => ⟨_, _, rfl, hb⟩⟩
  · rw [hk]
    refine ⟨Gr.refl t, T.up, fun w' q => ?_⟩
    cases q
    exact ⟨Nat.le_succ_of_le h1, h2, hk, some x, m, _, _, hs, rfl⟩
theorem still_head {x : Option Nat} {m : Nat} (h : t.still x m = true) : t.head = x := by
  unfold Tw.still at h
  rw [Bool.and_eq_true] at h
  exact of_decide_eq_true h.1
theorem okPut (T : TwOk k t) (h1 : w.kept.length ≤ k) (h2 : w.row = none) (ho : OwOk t.boxes.length w) (hw : w.deed.k ≠ .top) {x : Option Nat} {m : Nat} (hx : IxOk t.boxes.length x) (hs : w.seen = some (x, m)) (hne : w.deed.k ≠ .push → x ≠ none)
    (hi : (w.deed.k = .swap ∨ w.deed.k = .pop) → ∃ v b, w.inside = some (v, b) ∧ IxOk t.boxes.length b) : OpOk k t (opPut t i p w) := by
  have lb := T.lb
  have lr := T.lr
  have e1 : w.seen.getD (none, 0) = (x, m) := by rw [hs]; rfl
  unfold opPut
  simp only [e1]
  cases hb : t.still x m with
  | false =>
    refine ⟨Gr.refl t, T.up, fun w' q => ?_⟩
    cases q
    exact ⟨Nat.le_succ_of_le h1, h2, ho⟩
  | true =>
    have hh := still_head hb
    have hd : w.deed.k ≠ .push → ∃ j, j < t.boxes.length ∧ t.head = some j := fun q => by
      cases e : x with
      | none => exact absurd e (hne q)
      | some j => exact ⟨j, hx j e, by rw [hh, e]⟩
    cases hk : w.deed.k with
    | top => exact absurd hk hw
    | clear =>
      obtain ⟨j, hj, hj2⟩ := hd (by rw [hk]; exact fun q => by cases q)
      have er : (t.rows ++ [(⟨i, p, w.deed, w.begun, t.time, none⟩ : Row)]).length = t.rows.length + 1 := List.length_append
      refine ⟨⟨rfl, rfl, rfl, Nat.le_refl _, by show _ ≤ (t.rows ++ [_]).length; (first | lia | omega)⟩, ⟨.none, T.boxes, T.spare, by show t.boxes.length ≤ _; (first | lia | omega), Nat.le_succ_of_le T.ls, by show (t.rows ++ [_]).length ≤ _; (first | lia | omega)⟩, fun w' q => ?_⟩
      cases q
      exact ⟨Nat.le_succ_of_le h1, hk, ⟨j, hj, hj2⟩, t.rows.length, by show _ < (t.rows ++ [_]).length; (first | lia | omega), rfl⟩
    | push =>
      unfold OwOk at ho
      rw [hk] at ho
      obtain ⟨o, h3, h4⟩ := ho
      exact T.ends (s := { t with mark := t.mark + 1, head := w.own }) rfl (by show IxOk _ w.own; rw [h3]; exact .some h4) (.inl rfl) rfl rfl rfl rfl
    | pop =>
      obtain ⟨j, hj, hj2⟩ := hd (by rw [hk]; exact fun q => by cases q)
      obtain ⟨v, b, h5, h6⟩ := hi (.inr hk)
      exact T.ends (s := { t with mark := t.mark + 1, head := (w.inside.getD (0, none)).2, spare := t.spare ++ [t.head.getD 0] }) rfl (by show IxOk _ (w.inside.getD (0, none)).2; rw [h5]; exact h6) (.inr ⟨j, hj, by rw [hj2]; rfl⟩) rfl rfl rfl rfl
    | swap =>
      obtain ⟨j, hj, hj2⟩ := hd (by rw [hk]; exact fun q => by cases q)
      unfold OwOk at ho
      rw [hk] at ho
      obtain ⟨o, h3, h4⟩ := ho
      exact T.ends (s := { t with mark := t.mark + 1, head := w.own, spare := t.spare ++ [t.head.getD 0] }) rfl (by show IxOk _ w.own; rw [h3]; exact .some h4) (.inr ⟨j, hj, by rw [hj2]; rfl⟩) rfl rfl rfl rfl
theorem okCheck (T : TwOk k t) (h1 : w.kept.length ≤ k) (h2 : w.row = none) (hw : w.deed.k = .top) : OpOk k t (opCheck t i p w) := by
  unfold opCheck
  simp only
  cases t.still (w.seen.getD (none, 0)).1 (w.seen.getD (none, 0)).2 with
  | true => exact T.ends rfl T.head (.inl rfl) rfl rfl rfl rfl
  | false =>
    refine ⟨Gr.refl t, T.up, fun w' q => ?_⟩
    cases q
    exact ⟨Nat.le_succ_of_le h1, h2, by unfold OwOk; rw [show ({ w with next := Nx.look } : Wk).deed.k = .top from hw]; trivial⟩
theorem okWalk (T : TwOk k t) (h1 : w.kept.length ≤ k) (hw : w.deed.k = .clear) (hnx : w.next = .walk) {x j : Nat} (hx : x < t.boxes.length) (hwk : w.walk = some x) (hj : j < t.rows.length) (hr : w.row = some j) : OpOk k t (opWalk t w) := by
  have lb := T.lb
  have ls := T.ls
  have lr := T.lr
  have e1 : w.walk.getD 0 = x := by rw [hwk]; rfl
  have hbx := T.boxes.box (o := x)
  have hsp : ∀ i ∈ t.spare ++ [x], i < t.boxes.length := fun y hy => by
    rcases List.mem_append.mp hy with z | z
    · exact T.spare y z
    · rw [List.mem_singleton.mp z]; exact hx
  have els : (t.spare ++ [x]).length = t.spare.length + 1 := List.length_append
  unfold opWalk
  simp only [e1]
  cases hb : (t.box x).2 with
  | some u =>
    refine ⟨⟨rfl, rfl, rfl, Nat.le_refl _, Nat.le_refl _⟩, ⟨T.head, T.boxes, hsp, by show t.boxes.length ≤ _; (first | lia | omega), by show (t.spare ++ [x]).length ≤ _; (first | lia | omega), Nat.le_succ_of_le lr⟩, fun w' q => ?_⟩
    cases q
    refine ⟨by show (w.kept ++ [_]).length ≤ _; rw [List.length_append]; exact Nat.succ_le_succ h1, ?_⟩
    show StAt _ _ { w with kept := _, walk := _ } w.next
    rw [hnx]
    exact ⟨hw, ⟨u, hbx u hb, rfl⟩, j, hj, hr⟩
  | none =>
    have er : (t.rows.modify (w.row.getD 0) (setFin (t.time, .tup (w.kept ++ [(t.box x).1])))).length = t.rows.length := List.length_modify ..
    exact ⟨⟨rfl, rfl, rfl, Nat.le_refl _, Nat.le_of_eq er.symm⟩, ⟨T.head, T.boxes, hsp, by show t.boxes.length ≤ _; (first | lia | omega), by show (t.spare ++ [x]).length ≤ _; (first | lia | omega), by show (t.rows.modify _ _).length ≤ _; (first | lia | omega)⟩, fun w' q => by cases q⟩
theorem op_wf (T : TwOk k t) (h : WkOk k t.boxes.length t.rows.length w) : OpOk k t (op t i p w) := by
  obtain ⟨h1, h⟩ := h
  unfold op
  unfold StOk at h
  cases hn : w.next with
  | take => rw [hn] at h; exact okTake T h1 h.1
  | look => rw [hn] at h; exact okLook T h1 h.1 h.2
  | see => rw [hn] at h; obtain ⟨a, b, c, x, m, d, e⟩ := h; exact okSee T h1 a b c d e
  | put => rw [hn] at h; obtain ⟨a, b, c, x, m, d, e, f, g⟩ := h; exact okPut T h1 a b c d e f g
  | check => rw [hn] at h; exact okCheck T h1 h.1 h.2.1
  | walk => rw [hn] at h; obtain ⟨a, ⟨x, b, c⟩, j, d, e⟩ := h; exact okWalk T h1 a hn b c d e
end
end Mine


set_option autoImplicit false
set_option linter.unusedVariables false
namespace Mine
open PySem PyProof.Rows

noncomputable def ixV : Option Nat → AV
  | none => .none
  | some i => .int i
noncomputable def natV (i : Nat) : AV := .int i
noncomputable def bxV (b : Int × Option Nat) : AV := .tup [.int b.1, ixV b.2]
noncomputable def seenV : Option (Option Nat × Nat) → AV
  | none => .none
  | some (x, m) => .tup [ixV x, .int m]
noncomputable def insV : Option (Int × Option Nat) → AV
  | none => .none
  | some b => bxV b
noncomputable def finT : Option (Nat × An) → AV
  | none => .none
  | some a => .int a.1
noncomputable def finA : Option (Nat × An) → AV
  | none => .none
  | some a => anV a.2
noncomputable def rwV (r : Row) : AV := .tup [.int r.num, .int r.place, deedV r.deed, .int r.begun, .int r.point, finT r.fin, finA r.fin]
noncomputable def tdV : Td → AV
  | .take b => .tup [.str "take", .int b]
  | .look h m => .tup [.str "look", ixV h, .int m]
  | .see b v u => .tup [.str "see", .int b, .int v, ixV u]
  | .put b => .tup [.str "put", .bool b]
  | .rest => .tup [.str "rest"]
structure Ly where
  st : Nat
  lb : Nat
  lsp : Nat
  lh : Nat
  lr : Nat
  hs : List AV
structure Lh where
  hd : Nat
  w : Nat
  kp : Nat
noncomputable def cn (L : Ly) (l : Lh) (t : Tw) (pr : List Deed) (p : Nat) (wv : AV) (w : Wk) : Cn where
  st := L.st
  lb := L.lb
  lsp := L.lsp
  lh := L.lh
  lr := L.lr
  hd := l.hd
  w := l.w
  kp := l.kp
  kind := knS t.kind
  boxes := t.boxes.map bxV
  head := ixV t.head
  mark := t.mark
  spare := t.spare.map natV
  hs := L.hs
  time := t.time
  rows := t.rows.map rwV
  prog := pr.map deedV
  place := p
  wv := wv
  deed := deedV w.deed
  begun := w.begun
  next := nxS w.next
  own := ixV w.own
  seen := seenV w.seen
  inside := insV w.inside
  walk := ixV w.walk
  kept := w.kept.map .int
  row := ixV w.row
noncomputable def dkS : Dk → Str
  | .push => "push"
  | .pop => "pop"
  | .top => "top"
  | .swap => "swap"
  | .clear => "clear"
noncomputable def dkR (k : Dk) (v : Int) : List AV := match k with
  | .push => [.int v]
  | .swap => [.int v]
  | _ => []
theorem deedK_is (k : Dk) (v : Int) : deedK k v = .tup (.str (dkS k) :: dkR k v) := by cases k <;> rfl
noncomputable def Done (H₀ : AHeap) (L : Ly) (l : Lh) (pr : List Deed) (p : Nat) (r : Tw × Option Wk × Td) (told : AV) (H' : AHeap) : Prop :=
  told = tdV r.2.2 ∧ match r.2.1 with
    | some w' => Foc H₀ H' (cn L l r.1 pr p (.loc l.w) w')
    | none => ∃ w', Foc H₀ H' (cn L l r.1 pr (p + 1) .none w')
theorem foc_eq {H₀ H : AHeap} {c c' : Cn} (F : Foc H₀ H c) (e : c = c') : Foc H₀ H c' := e ▸ F
theorem box_at {t : Tw} {i : Nat} (h : i < t.boxes.length) : (t.boxes.map bxV)[i]? = some (.tup [.int (t.box i).1, ixV (t.box i).2]) := by
  rw [List.getElem?_map, List.getElem?_eq_getElem h]
  unfold Tw.box
  rw [List.getElem?_eq_getElem h]; rfl
theorem row_at {t : Tw} {j : Nat} (h : j < t.rows.length) : ∃ r : Row, t.rows[j]? = some r ∧ (t.rows.map rwV)[j]? = some (.tup [.int r.num, .int r.place, deedV r.deed, .int r.begun, .int r.point, finT r.fin, finA r.fin]) :=
  ⟨t.rows[j], List.getElem?_eq_getElem h, by rw [List.getElem?_map, List.getElem?_eq_getElem h]; rfl⟩
end Mine


set_option autoImplicit false
set_option linter.unusedVariables false
namespace Mine
open PySem PyProof.Rows
theorem newW_ok {k n r : Nat} {time : Nat} (d : Deed) : WkOk k n r (newW d time) := by
  refine ⟨Nat.zero_le _, ?_⟩
  show StAt n r (newW d time) (firstN d.k)
  cases hk : d.k with
  | push => exact ⟨rfl, .inl hk⟩
  | swap => exact ⟨rfl, .inr hk⟩
  | _ => exact ⟨rfl, by unfold OwOk; show OwAt n none d.k; rw [hk]; trivial⟩
theorem step_wf {k i : Nat} {t : Tw} (A : AllOk k t) : AllOk (k + 1) (step t i).1 := by
  have up : ∀ h ∈ t.hands, HdOk (k + 1) t.boxes.length t.rows.length h := fun h hm => (A.hd h hm).mono (Nat.le_succ _) (Nat.le_refl _) (Nat.le_refl _)
  unfold step
  cases hh : t.hands[i]? with
  | none => exact ⟨A.tw.up, up⟩
  | some h =>
    show AllOk (k + 1) (match h.now t.time with | none => _ | some w => _ : Tw × Td).1
    cases hn : h.now t.time with
    | none => exact ⟨⟨A.tw.up.head, A.tw.up.boxes, A.tw.up.spare, A.tw.up.lb, A.tw.up.ls, A.tw.up.lr⟩, up⟩
    | some w =>
      have HK := A.hd h (List.mem_of_getElem? hh)
      have hw : h.place < h.prog.length ∧ WkOk k t.boxes.length t.rows.length w := by
        unfold Hd.now at hn
        cases e : h.work with
        | some w1 => rw [e] at hn; cases hn; exact HK.work w e
        | none =>
          rw [e] at hn
          obtain ⟨d, h1, h2⟩ := Option.map_eq_some_iff.mp hn
          subst h2
          exact ⟨(List.getElem?_eq_some_iff.mp h1).1, newW_ok d⟩
      obtain ⟨G, T, W⟩ := op_wf (i := i) (p := h.place) A.tw hw.2
      refine ⟨⟨T.head, T.boxes, T.spare, T.lb, T.ls, T.lr⟩, fun h1 hm => ?_⟩
      rcases List.mem_or_eq_of_mem_set hm with q | q
      · exact (A.hd h1 q).mono (Nat.le_succ _) G.bl G.rl
      · subst q
        cases e : (op t i h.place w).2.1 with
        | some w' => exact ⟨Nat.le_of_lt hw.1, fun w2 q => by cases q; exact ⟨hw.1, W w' e⟩⟩
        | none => exact ⟨hw.1, fun w2 q => by cases q⟩
noncomputable def bx0 (xs : List Int) : List (Int × Option Nat) := xs.mapIdx fun i v => (v, if i + 1 = xs.length then none else some (i + 1))
noncomputable def tw0 (kd : Kn) (xs : List Int) (ps : List (List Deed)) : Tw := ⟨kd, bx0 xs, if xs.length = 0 then none else some 0, 0, [], ps.map fun p => ⟨p, 0, none⟩, 0, []⟩
theorem bx0_len (xs : List Int) : (bx0 xs).length = xs.length := List.length_mapIdx
theorem bx0_at {xs : List Int} {i : Nat} {v : Int} (h : xs[i]? = some v) : (bx0 xs)[i]? = some (v, if i + 1 = xs.length then none else some (i + 1)) := by
  unfold bx0
  rw [List.getElem?_mapIdx, h]; rfl
theorem tw0_ok {kd : Kn} {xs : List Int} {ps : List (List Deed)} (hx : xs.length ≤ 60) : AllOk 0 (tw0 kd xs ps) where
  tw := by
    refine ⟨fun i e => ?_, fun b hb => ?_, fun i hi => (nomatch hi), ?_, Nat.le_refl _, Nat.le_refl _⟩
    · show i < (bx0 xs).length
      rw [bx0_len]
      have e : (if xs.length = 0 then none else some 0 : Option Nat) = some i := e
      split at e
      · cases e
      · cases e; (first | lia | omega)
    · show IxOk (bx0 xs).length b.2
      rw [bx0_len]
      obtain ⟨i, hi⟩ := List.mem_iff_getElem?.mp hb
      have hl : i < xs.length := by have := (List.getElem?_eq_some_iff.mp hi).1; rw [show (tw0 kd xs ps).boxes = bx0 xs from rfl, bx0_len] at this; exact this
      have := bx0_at (List.getElem?_eq_getElem hl)
      rw [show (tw0 kd xs ps).boxes = bx0 xs from rfl, this] at hi
      cases hi
      show IxOk xs.length (if i + 1 = xs.length then none else some (i + 1))
      split
      · exact .none
      · exact .some (by (first | lia | omega))
    · show (bx0 xs).length ≤ _
      rw [bx0_len]; exact hx
  hd := fun h hm => by
    obtain ⟨p, _, rfl⟩ := List.mem_map.mp hm
    exact ⟨Nat.zero_le _, fun w e => nomatch e⟩
noncomputable def run (t : Tw) : List Nat → Tw
  | [] => t
  | i :: r => run (step t i).1 r
noncomputable def tolds (t : Tw) : List Nat → List Td
  | [] => []
  | i :: r => (step t i).2 :: tolds (step t i).1 r
theorem run_snoc : ∀ (t : Tw) (W : List Nat) (x : Nat), run t (W ++ [x]) = (step (run t W) x).1
  | _, [], _ => rfl
  | t, i :: r, x => run_snoc (step t i).1 r x
theorem tolds_snoc : ∀ (t : Tw) (W : List Nat) (x : Nat), tolds t (W ++ [x]) = tolds t W ++ [(step (run t W) x).2]
  | _, [], _ => rfl
  | t, i :: r, x => congrArg ((step t i).2 :: ·) (tolds_snoc (step t i).1 r x)
theorem tolds_len : ∀ (t : Tw) (W : List Nat), (tolds t W).length = W.length
  | _, [] => rfl
  | t, i :: r => congrArg Nat.succ (tolds_len (step t i).1 r)
theorem run_ok : ∀ {t : Tw} {k : Nat} (W : List Nat), AllOk k t → AllOk (k + W.length) (run t W)
  | _, _, [], A => A
  | t, k, i :: r, A => by
    have := run_ok r (step_wf (i := i) A)
    rw [Nat.add_assoc, Nat.add_comm 1] at this
    exact this
theorem step_hands (t : Tw) (i : Nat) {k : Nat} (A : AllOk k t) : (step t i).1.hands.length = t.hands.length := by
  unfold step
  cases hh : t.hands[i]? with
  | none => rfl
  | some h =>
    show (match h.now t.time with | none => _ | some w => _ : Tw × Td).1.hands.length = _
    cases h.now t.time with
    | none => rfl
    | some w => exact List.length_set ..
theorem run_hands : ∀ (t : Tw) (W : List Nat) {k : Nat}, AllOk k t → (run t W).hands.length = t.hands.length
  | _, [], _, _ => rfl
  | t, i :: r, _, A => (run_hands (step t i).1 r (step_wf A)).trans (step_hands t i A)
end Mine


set_option autoImplicit false
set_option linter.unusedVariables false
namespace Mine
open PySem PyProof.Rows

noncomputable def anLen : An → Nat
  | .tup xs => xs.length
  | _ => 0
structure RwB (T : Nat) (r : Row) : Prop where
  pt : r.begun ≤ r.point
  tm : r.begun ≤ T
  fin : ∀ q, r.fin = some q → r.begun ≤ q.1 ∧ anLen q.2 ≤ T
structure WkB (T : Nat) (w : Wk) : Prop where
  bg : w.begun ≤ T
  kp : w.kept.length ≤ T
theorem RwB.up {T : Nat} {r : Row} (h : RwB T r) : RwB (T + 1) r := ⟨h.pt, Nat.le_succ_of_le h.tm, fun q e => ⟨(h.fin q e).1, Nat.le_succ_of_le (h.fin q e).2⟩⟩
theorem WkB.up {T : Nat} {w : Wk} (h : WkB T w) : WkB (T + 1) w := ⟨Nat.le_succ_of_le h.bg, Nat.le_succ_of_le h.kp⟩
noncomputable def OpB (T : Nat) (r : Tw × Option Wk × Td) : Prop := (∀ q ∈ r.1.rows, RwB (T + 1) q) ∧ ∀ w, r.2.1 = some w → WkB (T + 1) w
section
variable {t : Tw} {i p : Nat} {w : Wk}
theorem ob_same {s : Tw} {w' : Wk} {d : Td} (hr : ∀ q ∈ t.rows, RwB t.time q) (hs : s.rows = t.rows) (hw : WkB (t.time + 1) w') : OpB t.time (s, some w', d) := ⟨fun q hq => (hr q (hs ▸ hq)).up, fun z e => by cases e; exact hw⟩
theorem ob_end {s : Tw} {a : An} {d : Td} (hr : ∀ q ∈ t.rows, RwB t.time q) (hw : WkB t.time w) (hs : s.rows = t.rows) (ht : s.time = t.time) (ha : anLen a ≤ t.time) : OpB t.time (s.ends i p w a, none, d) := by
  refine ⟨fun q hq => ?_, fun z e => nomatch e⟩
  have hq : q ∈ s.rows ++ [⟨i, p, w.deed, w.begun, s.time, some (s.time, a)⟩] := hq
  rcases List.mem_append.mp hq with h | h
  · exact (hr q (hs ▸ h)).up
  · rw [List.mem_singleton.mp h, ht]
    exact ⟨hw.bg, Nat.le_succ_of_le hw.bg, fun z e => by cases e; exact ⟨hw.bg, Nat.le_succ_of_le ha⟩⟩
theorem ob_take (hr : ∀ q ∈ t.rows, RwB t.time q) (hw : WkB t.time w) : OpB t.time (opTake t w) := by
  unfold opTake
  split <;> exact ob_same hr rfl ⟨hw.up.bg, hw.up.kp⟩
theorem ob_look (hr : ∀ q ∈ t.rows, RwB t.time q) (hw : WkB t.time w) : OpB t.time (opLook t i p w) := by
  unfold opLook
  cases w.deed.k <;> cases t.head <;> first | exact ob_same hr rfl ⟨hw.up.bg, hw.up.kp⟩ | exact ob_end hr hw rfl rfl (Nat.zero_le _)
theorem ob_see (hr : ∀ q ∈ t.rows, RwB t.time q) (hw : WkB t.time w) : OpB t.time (opSee t w) := by
  unfold opSee
  cases w.deed.k <;> exact ob_same hr rfl ⟨hw.up.bg, hw.up.kp⟩
theorem ob_put (hr : ∀ q ∈ t.rows, RwB t.time q) (hw : WkB t.time w) : OpB t.time (opPut t i p w) := by
  unfold opPut
  simp only
  cases t.still (w.seen.getD (none, 0)).1 (w.seen.getD (none, 0)).2 with
  | false => exact ob_same hr rfl ⟨hw.up.bg, hw.up.kp⟩
  | true =>
    cases w.deed.k with
    | clear =>
      refine ⟨fun q hq => ?_, fun z e => by cases e; exact ⟨hw.up.bg, hw.up.kp⟩⟩
      rcases List.mem_append.mp (show q ∈ t.rows ++ [⟨i, p, w.deed, w.begun, t.time, none⟩] from hq) with h | h
      · exact (hr q h).up
      · rw [List.mem_singleton.mp h]
        exact ⟨hw.bg, Nat.le_succ_of_le hw.bg, fun z e => nomatch e⟩
    | push => exact ob_end hr hw rfl rfl (Nat.zero_le _)
    | pop => exact ob_end hr hw rfl rfl (Nat.zero_le _)
    | top => exact ob_end hr hw rfl rfl (Nat.zero_le _)
    | swap => exact ob_end hr hw rfl rfl (Nat.zero_le _)
theorem ob_check (hr : ∀ q ∈ t.rows, RwB t.time q) (hw : WkB t.time w) : OpB t.time (opCheck t i p w) := by
  unfold opCheck
  simp only
  cases t.still (w.seen.getD (none, 0)).1 (w.seen.getD (none, 0)).2 with
  | false => exact ob_same hr rfl ⟨hw.up.bg, hw.up.kp⟩
  | true => exact ob_end hr hw rfl rfl (Nat.zero_le _)
theorem mem_modify {f : Row → Row} : ∀ {l : List Row} {j : Nat} {q : Row}, q ∈ l.modify j f → q ∈ l ∨ ∃ r ∈ l, q = f r
  | [], j, q, h => by cases j <;> exact nomatch h
  | x :: l, 0, q, h => by
    rcases List.mem_cons.mp (show q ∈ f x :: l from h) with e | e
    · exact .inr ⟨x, List.mem_cons_self, e⟩
    · exact .inl (List.mem_cons_of_mem _ e)
  | x :: l, j + 1, q, h => by
    rw [List.modify_succ_cons] at h
    rcases List.mem_cons.mp h with e | e
    · exact .inl (e ▸ List.mem_cons_self)
    · rcases mem_modify e with h1 | ⟨r, h1, h2⟩
      · exact .inl (List.mem_cons_of_mem _ h1)
      · exact .inr ⟨r, List.mem_cons_of_mem _ h1, h2⟩
theorem ob_walk (hr : ∀ q ∈ t.rows, RwB t.time q) (hw : WkB t.time w) : OpB t.time (opWalk t w) := by
  have hk : (w.kept ++ [(t.box (w.walk.getD 0)).1]).length ≤ t.time + 1 := by rw [List.length_append]; exact Nat.succ_le_succ hw.kp
  unfold opWalk
  simp only
  cases (t.box (w.walk.getD 0)).2 with
  | some u => exact ob_same hr rfl ⟨hw.up.bg, hk⟩
  | none =>
    refine ⟨fun q hq => ?_, fun z e => nomatch e⟩
    rcases mem_modify (show q ∈ t.rows.modify (w.row.getD 0) (setFin (t.time, .tup (w.kept ++ [(t.box (w.walk.getD 0)).1]))) from hq) with h | ⟨r, h, rfl⟩
    · exact (hr q h).up
    · exact ⟨(hr r h).pt, (hr r h).up.tm, fun z e => by cases e; exact ⟨(hr r h).tm, hk⟩⟩
theorem ob_op (hr : ∀ q ∈ t.rows, RwB t.time q) (hw : WkB t.time w) : OpB t.time (op t i p w) := by
  unfold op
  cases w.next with
  | take => exact ob_take hr hw
  | look => exact ob_look hr hw
  | see => exact ob_see hr hw
  | put => exact ob_put hr hw
  | check => exact ob_check hr hw
  | walk => exact ob_walk hr hw
end
structure Bnd (t : Tw) : Prop where
  rows : ∀ r ∈ t.rows, RwB t.time r
  hands : ∀ h ∈ t.hands, ∀ w, h.work = some w → WkB t.time w
theorem Bnd.step {t : Tw} (B : Bnd t) (i : Nat) : Bnd (step t i).1 := by
  unfold Mine.step
  cases hh : t.hands[i]? with
  | none => exact B
  | some h =>
    show Bnd (match h.now t.time with | none => _ | some w => _ : Tw × Td).1
    cases hn : h.now t.time with
    | none => exact ⟨fun r hr => (B.rows r hr).up, fun g hg w e => (B.hands g hg w e).up⟩
    | some w =>
      have hw : WkB t.time w := by
        unfold Hd.now at hn
        cases hk : h.work with
        | some w' => rw [hk] at hn; cases hn; exact B.hands h (List.mem_of_getElem? hh) w hk
        | none =>
          rw [hk] at hn
          obtain ⟨d, _, rfl⟩ := Option.map_eq_some_iff.mp hn
          exact ⟨Nat.le_refl _, Nat.zero_le _⟩
      obtain ⟨o1, o2⟩ := ob_op (i := i) (p := h.place) B.rows hw
      refine ⟨o1, fun g hg z e => ?_⟩
      rcases List.mem_or_eq_of_mem_set (show g ∈ t.hands.set i (h.next (op t i h.place w).2.1) from hg) with q | q
      · exact (B.hands g q z e).up
      · subst q
        cases hop : (op t i h.place w).2.1 with
        | none => rw [hop] at e; cases e
        | some w2 => rw [hop] at e; cases e; exact o2 z hop
theorem Bnd.run : ∀ {t : Tw} (W : List Nat), Bnd t → Bnd (run t W)
  | _, [], B => B
  | t, i :: W, B => Bnd.run W (B.step i)
theorem bi0 (kd : Kn) (xs : List Int) (ps : List (List Deed)) : Bnd (tw0 kd xs ps) := ⟨fun r hr => (nomatch hr), fun h hm w e => by
  obtain ⟨p, _, rfl⟩ := List.mem_map.mp (show h ∈ ps.map (fun p => (⟨p, 0, none⟩ : Hd)) from hm)
  cases e⟩
end Mine


set_option autoImplicit false
set_option linter.unusedVariables false
set_option maxRecDepth 100000
namespace Mine
open PySem PyProof.Rows
noncomputable def g_MOST_ROWS : AV := .int 7
noncomputable def g_KINDS : AV := .tup [.str "marks", .str "bare", .str "new"]
noncomputable def g_MOST_VALUES : AV := .int 60
noncomputable def g_MOST_PROGRAMS : AV := .int 20
noncomputable def g_MOST_DEEDS : AV := .int 60
noncomputable def g_FIRST : AV := .cdict [("push", "take"), ("swap", "take"), ("pop", "look"), ("top", "look"), ("clear", "look")]
noncomputable def g_BEHIND_LOOK : AV := .cdict [("push", "put"), ("swap", "see"), ("pop", "see"), ("top", "see"), ("clear", "put")]
noncomputable def g_BEHIND_SEE : AV := .cdict [("swap", "put"), ("pop", "put"), ("top", "check")]
noncomputable def g_MOST_STEPS : AV := .int 2000
noncomputable def P13 : Pg := ⟨fnOf PySem.Challenge.pw_uf020017_13, lookG [("MOST_ROWS", g_MOST_ROWS), ("KINDS", g_KINDS), ("MOST_VALUES", g_MOST_VALUES), ("MOST_PROGRAMS", g_MOST_PROGRAMS), ("MOST_DEEDS", g_MOST_DEEDS), ("FIRST", g_FIRST), ("BEHIND_LOOK", g_BEHIND_LOOK), ("BEHIND_SEE", g_BEHIND_SEE), ("MOST_STEPS", g_MOST_STEPS)], fun p => ([(85, 12, 14), (94, 12, 91), (95, 76, 78), (95, 115, 117), (199, 151, 153), (242, 16, 40), (250, 24, 73), (276, 20, 56), (276, 21, 23), (281, 19, 21), (285, 27, 116), (337, 16, 57)] : List (Nat × Nat × Nat)).contains (p.line, p.col, p.endCol), lookC [("TowerError", []), ("NoKind", ["TowerError"]), ("NoValue", ["TowerError"]), ("NoDeed", ["TowerError"]), ("NoHand", ["TowerError"]), ("TooMany", ["TowerError"])], true⟩
theorem c_is_whole_0 (cf : Str → List AV → M AV) (v_thing : AV) : tl P13 cf "is_whole" [] 0 40 [some v_thing] = (do let y9 ← (do let v1 ← (do let v7 ← pure v_thing; let b8 ← pIsi v7 .int; pure (.bool b8)); let t2 ← truth v1; match t2 with | false => pure v1 | true => (do let v3 ← (do let v5 ← pure v_thing; let b6 ← pIsi v5 .bool; pure (.bool b6)); let b4 ← truth v3; pure (.bool !b4))); pure (.ret y9)) := by kernel_rfl
theorem c_played_0 (cf : Str → List AV → M AV) (v_values v_deed : AV) : tl P13 cf "played" [] 0 40 [some v_values, some v_deed] = (do let c1 ← (do let b2 ← (do let v3 ← (cf "is_deed" [v_deed]); truth v3); pure (!b2)); match c1 with | true => (do let r ← throwM "NoDeed"; goOn (tl P13 cf "played" [] 1 39) r) | false => (do let r ← pure (.next [some v_values, some v_deed]); goOn (tl P13 cf "played" [] 1 39) r)) := by kernel_rfl
theorem c_played_t_1 (cf : Str → List AV → M AV) (v_values v_deed : AV) : tl P13 cf "played" [] 1 39 [some v_values, some v_deed] = (do let c1 ← (do let v7 ← (pItem v_deed (.int 0)); pCmp .Eq v7 (.str "push")); match c1 with | true => (do let r ← (do let y6 ← (do let vs5 ← eachM [pure (.none), (do let x3 ← (do let vs2 ← eachM [(pItem v_deed (.int 1))]; newL false vs2); let x4 ← (pBI false .list [v_values]); pBin false .Add x3 x4)]; pure (.tup vs5)); pure (.ret y6)); goOn (tl P13 cf "played" [] 2 38) r) | false => (do let r ← pure (.next [some v_values, some v_deed]); goOn (tl P13 cf "played" [] 2 38) r)) := by kernel_rfl
theorem c_played_t_2 (cf : Str → List AV → M AV) (v_values v_deed : AV) : tl P13 cf "played" [] 2 38 [some v_values, some v_deed] = (do let c1 ← (do let v4 ← (pItem v_deed (.int 0)); pCmp .Eq v4 (.str "clear")); match c1 with | true => (do let r ← (do let y3 ← (do let vs2 ← eachM [(pBI false .tuple [v_values]), (newL false [])]; pure (.tup vs2)); pure (.ret y3)); goOn (tl P13 cf "played" [] 3 37) r) | false => (do let r ← pure (.next [some v_values, some v_deed]); goOn (tl P13 cf "played" [] 3 37) r)) := by kernel_rfl
theorem c_played_t_3 (cf : Str → List AV → M AV) (v_values : AV) (o_deed : Option AV) : tl P13 cf "played" [] 3 37 [some v_values, o_deed] = (do let c1 ← (do let v4 ← (pBI false .len [v_values]); pCmp .Eq v4 (.int 0)); match c1 with | true => (do let r ← (do let y3 ← (do let vs2 ← eachM [pure (.none), (newL false [])]; pure (.tup vs2)); pure (.ret y3)); goOn (tl P13 cf "played" [] 4 36) r) | false => (do let r ← pure (.next [some v_values, o_deed]); goOn (tl P13 cf "played" [] 4 36) r)) := by kernel_rfl
theorem c_played_t_4 (cf : Str → List AV → M AV) (v_values v_deed : AV) : tl P13 cf "played" [] 4 36 [some v_values, some v_deed] = (do let c1 ← (do let v4 ← (pItem v_deed (.int 0)); pCmp .Eq v4 (.str "top")); match c1 with | true => (do let r ← (do let y3 ← (do let vs2 ← eachM [(pItem v_values (.int 0)), (pBI false .list [v_values])]; pure (.tup vs2)); pure (.ret y3)); goOn (tl P13 cf "played" [] 5 35) r) | false => (do let r ← pure (.next [some v_values, some v_deed]); goOn (tl P13 cf "played" [] 5 35) r)) := by kernel_rfl
theorem c_played_t_5 (cf : Str → List AV → M AV) (v_values v_deed : AV) : tl P13 cf "played" [] 5 35 [some v_values, some v_deed] = (do let c1 ← (do let v11 ← (pItem v_deed (.int 0)); pCmp .Eq v11 (.str "swap")); match c1 with | true => (do let r ← (do let y10 ← (do let vs9 ← eachM [(pItem v_values (.int 0)), (do let x7 ← (do let vs2 ← eachM [(pItem v_deed (.int 1))]; newL false vs2); let x8 ← (do let vs6 ← eachM [(do let o3 ← pure v_values; let i4 ← pure (some 1); let j5 ← pure none; pSlice false o3 i4 j5)]; pBI false .list vs6); pBin false .Add x7 x8)]; pure (.tup vs9)); pure (.ret y10)); goOn (tl P13 cf "played" [] 6 34) r) | false => (do let r ← pure (.next [some v_values, some v_deed]); goOn (tl P13 cf "played" [] 6 34) r)) := by kernel_rfl
theorem c_played_t_6 (cf : Str → List AV → M AV) (v_values : AV) (o_deed : Option AV) : tl P13 cf "played" [] 6 34 [some v_values, o_deed] = (do let y6 ← (do let vs5 ← eachM [(pItem v_values (.int 0)), (do let vs4 ← eachM [(do let o1 ← pure v_values; let i2 ← pure (some 1); let j3 ← pure none; pSlice false o1 i2 j3)]; pBI false .list vs4)]; pure (.tup vs5)); pure (.ret y6)) := by kernel_rfl
theorem c_is_late_0 (cf : Str → List AV → M AV) (v_row v_other : AV) : tl P13 cf "is_late" [] 0 40 [some v_row, some v_other] = (do let y8 ← (do let v1 ← (do let v7 ← (pItem v_other (.int 5)); let b6 ← pCmp .IsNot v7 (.none); pure (.bool b6)); let t2 ← truth v1; match t2 with | false => pure v1 | true => (do let v4 ← (pItem v_row (.int 3)); let b3 ← (do let c5 ← (pItem v_other (.int 5)); pCmp .Gt v4 c5); pure (.bool b3))); pure (.ret y8)) := by kernel_rfl
theorem c_behind_0 (cf : Str → List AV → M AV) (v_values v_row : AV) : tl P13 cf "behind" [] 0 40 [some v_values, some v_row, none, none] = (do let v3 ← (do let vs1 ← eachM [pure v_values, (pItem v_row (.int 2))]; cf "played" vs1); let pr2 ← pairOf v3; (do let c4 ← (do let t5 ← (do let v6 ← (pItem v_row (.int 5)); pCmp .IsNot v6 (.none)); match t5 with | false => pure false | true => (do let t7 ← ((do let c8 ← (pItem v_row (.int 6)); pCmp .NotEq pr2.1 c8)); match t7 with | false => pure false | true => pure true)); match c4 with | true => (do let r ← pure (.ret (.none)); goOn (tl P13 cf "behind" [] 2 38) r) | false => (do let r ← pure (.next [some v_values, some v_row, some pr2.1, some pr2.2]); goOn (tl P13 cf "behind" [] 2 38) r))) := by kernel_rfl
theorem c_behind_t_2 (cf : Str → List AV → M AV) (v_found : AV) (o_values o_row o_answer : Option AV) : tl P13 cf "behind" [] 2 38 [o_values, o_row, o_answer, some v_found] = pure (.ret v_found) := by kernel_rfl
theorem c_least_from_0 (cf : Str → List AV → M AV) (v_values v_rows v_order : AV) : tl P13 cf "least_from" [] 0 40 [some v_values, some v_rows, some v_order, none, none, none, none] = (do let c1 ← (do let v2 ← (pBI false .len [v_order]); (do let c3 ← (pBI false .len [v_rows]); pCmp .Eq v2 c3)); match c1 with | true => (do let r ← pure (.ret v_order); goOn (tl P13 cf "least_from" [] 1 39) r) | false => (do let r ← pure (.next [some v_values, some v_rows, some v_order, none, none, none, none]); goOn (tl P13 cf "least_from" [] 1 39) r)) := by kernel_rfl
theorem c_least_from_t_1 (cf : Str → List AV → M AV) (v_rows v_order : AV) (o_values o_place o_left o_more o_found : Option AV) : tl P13 cf "least_from" [] 1 39 [o_values, some v_rows, some v_order, o_place, o_left, o_more, o_found] = (do let left8 ← (do let it4 ← (do let vs7 ← eachM [(pBI false .len [v_rows])]; pBI false .range vs7); let src5 ← srcOf it4; let ys6 ← compLoop src5 (fun u1 => (do let t3 ← (pCmp .NotIn u1 v_order); if t3 = true then pure (some u1) else pure none)) FUEL 0 []; newL false ys6); (do let it9 ← pure left8; let src10 ← srcOf it9; let r ← forLoop src10 (forB P13 cf "least_from" [] 2 37) FUEL 0 [o_values, some v_rows, some v_order, o_place, some left8, o_more, o_found]; goOn (tl P13 cf "least_from" [] 3 37) r)) := by kernel_rfl
theorem c_least_from_t_3 (cf : Str → List AV → M AV) (o_values o_rows o_order o_place o_left o_more o_found : Option AV) : tl P13 cf "least_from" [] 3 37 [o_values, o_rows, o_order, o_place, o_left, o_more, o_found] = pure (.ret (.none)) := by kernel_rfl
theorem c_least_from_for_2 (cf : Str → List AV → M AV) (v_values v_rows v_order v_left : AV) (o_place o_more o_found : Option AV) (a : AV) : forB P13 cf "least_from" [] 2 37 a [some v_values, some v_rows, some v_order, o_place, some v_left, o_more, o_found] = (do let c1 ← (do let b9 ← (do let v19 ← (do let vs18 ← eachM [(do let it15 ← pure v_left; let src16 ← srcOf it15; let ys17 ← compLoop src16 (fun u10 => (do let t14 ← (pCmp .NotEq u10 a); if t14 = true then (do let y11 ← (do let vs12 ← eachM [(pItem v_rows a), (pItem v_rows u10)]; cf "is_late" vs12); pure (some y11)) else pure none)) FUEL 0 []; newL false ys17)]; pBI false .any vs18); truth v19); pure (!b9)); match c1 with | true => (do let r ← (do let more3 ← (do let vs2 ← eachM [pure v_values, (pItem v_rows a)]; cf "behind" vs2); (do let c4 ← (pCmp .IsNot more3 (.none)); match c4 with | true => (do let r ← (do let found7 ← (do let vs6 ← eachM [pure more3, pure v_rows, (do let x5 ← (newL false [a]); pBin false .Add v_order x5)]; cf "least_from" vs6); (do let c8 ← (pCmp .IsNot found7 (.none)); match c8 with | true => (do let r ← pure (.ret found7); goOn (fun σ => pure (.next σ)) r) | false => (do let r ← pure (.next [some v_values, some v_rows, some v_order, some a, some v_left, some more3, some found7]); goOn (fun σ => pure (.next σ)) r))); goOn (fun σ => pure (.next σ)) r) | false => (do let r ← pure (.next [some v_values, some v_rows, some v_order, some a, some v_left, some more3, o_found]); goOn (fun σ => pure (.next σ)) r))); goOn (fun σ => pure (.next σ)) r) | false => (do let r ← pure (.next [some v_values, some v_rows, some v_order, some a, some v_left, o_more, o_found]); goOn (fun σ => pure (.next σ)) r)) := by kernel_rfl
theorem c_order_of_0 (cf : Str → List AV → M AV) (v_start v_rows : AV) : tl P13 cf "order_of" [] 0 40 [some v_start, some v_rows] = (do let c1 ← (do let v2 ← (pBI false .len [v_rows]); pCmp .Gt v2 g_MOST_ROWS); match c1 with | true => (do let r ← throwM "TooMany"; goOn (tl P13 cf "order_of" [] 1 39) r) | false => (do let r ← pure (.next [some v_start, some v_rows]); goOn (tl P13 cf "order_of" [] 1 39) r)) := by kernel_rfl
theorem c_order_of_t_1 (cf : Str → List AV → M AV) (v_start v_rows : AV) : tl P13 cf "order_of" [] 1 39 [some v_start, some v_rows] = (do let y2 ← (do let vs1 ← eachM [(pBI false .list [v_start]), pure v_rows, (newL false [])]; cf "least_from" vs1); pure (.ret y2)) := by kernel_rfl
theorem c_need_all_0 (cf : Str → List AV → M AV) (v_start v_programs v_kind : AV) : tl P13 cf "need_all" [] 0 40 [some v_start, some v_programs, some v_kind, none, none, none] = (do let c1 ← (do let t2 ← (do let b3 ← (do let v6 ← (do let v4 ← pure v_kind; let b5 ← pIsi v4 .str; pure (.bool b5)); truth v6); pure (!b3)); match t2 with | true => pure true | false => (do let t7 ← (pCmp .NotIn v_kind g_KINDS); match t7 with | true => pure true | false => pure false)); match c1 with | true => (do let r ← throwM "NoKind"; goOn (tl P13 cf "need_all" [] 1 39) r) | false => (do let r ← pure (.next [some v_start, some v_programs, some v_kind, none, none, none]); goOn (tl P13 cf "need_all" [] 1 39) r)) := by kernel_rfl
theorem c_need_all_t_1 (cf : Str → List AV → M AV) (v_start : AV) (o_programs o_kind o_value o_program o_deed : Option AV) : tl P13 cf "need_all" [] 1 39 [some v_start, o_programs, o_kind, o_value, o_program, o_deed] = (do let c1 ← (do let v2 ← (pBI false .len [v_start]); pCmp .Gt v2 g_MOST_VALUES); match c1 with | true => (do let r ← throwM "TooMany"; goOn (tl P13 cf "need_all" [] 2 38) r) | false => (do let r ← pure (.next [some v_start, o_programs, o_kind, o_value, o_program, o_deed]); goOn (tl P13 cf "need_all" [] 2 38) r)) := by kernel_rfl
theorem c_need_all_t_2 (cf : Str → List AV → M AV) (v_start : AV) (o_programs o_kind o_value o_program o_deed : Option AV) : tl P13 cf "need_all" [] 2 38 [some v_start, o_programs, o_kind, o_value, o_program, o_deed] = (do let it1 ← pure v_start; let src2 ← srcOf it1; let r ← forLoop src2 (forB P13 cf "need_all" [] 2 37) FUEL 0 [some v_start, o_programs, o_kind, o_value, o_program, o_deed]; goOn (tl P13 cf "need_all" [] 3 37) r) := by kernel_rfl
theorem c_need_all_t_3 (cf : Str → List AV → M AV) (v_programs : AV) (o_start o_kind o_value o_program o_deed : Option AV) : tl P13 cf "need_all" [] 3 37 [o_start, some v_programs, o_kind, o_value, o_program, o_deed] = (do let c1 ← (do let v2 ← (pBI false .len [v_programs]); pCmp .Gt v2 g_MOST_PROGRAMS); match c1 with | true => (do let r ← throwM "TooMany"; goOn (tl P13 cf "need_all" [] 4 36) r) | false => (do let r ← pure (.next [o_start, some v_programs, o_kind, o_value, o_program, o_deed]); goOn (tl P13 cf "need_all" [] 4 36) r)) := by kernel_rfl
theorem c_need_all_for_2 (cf : Str → List AV → M AV) (o_start o_programs o_kind o_value o_program o_deed : Option AV) (a : AV) : forB P13 cf "need_all" [] 2 37 a [o_start, o_programs, o_kind, o_value, o_program, o_deed] = (do let c1 ← (do let b2 ← (do let v3 ← (cf "is_whole" [a]); truth v3); pure (!b2)); match c1 with | true => (do let r ← throwM "NoValue"; goOn (fun σ => pure (.next σ)) r) | false => (do let r ← pure (.next [o_start, o_programs, o_kind, some a, o_program, o_deed]); goOn (fun σ => pure (.next σ)) r)) := by kernel_rfl
theorem c_need_all_t_4 (cf : Str → List AV → M AV) (v_programs : AV) (o_start o_kind o_value o_program o_deed : Option AV) : tl P13 cf "need_all" [] 4 36 [o_start, some v_programs, o_kind, o_value, o_program, o_deed] = (do let it1 ← pure v_programs; let src2 ← srcOf it1; let r ← forLoop src2 (forB P13 cf "need_all" [] 4 35) FUEL 0 [o_start, some v_programs, o_kind, o_value, o_program, o_deed]; goOn (fun σ => pure (.next σ)) r) := by kernel_rfl
theorem c_need_all_for_4 (cf : Str → List AV → M AV) (o_start o_programs o_kind o_value o_program o_deed : Option AV) (a : AV) : forB P13 cf "need_all" [] 4 35 a [o_start, o_programs, o_kind, o_value, o_program, o_deed] = (do let c1 ← (do let v2 ← (pBI false .len [a]); pCmp .Gt v2 g_MOST_DEEDS); match c1 with | true => (do let r ← throwM "TooMany"; goOn (tl P13 cf "need_all" [(4, 0)] 1 34) r) | false => (do let r ← pure (.next [o_start, o_programs, o_kind, o_value, some a, o_deed]); goOn (tl P13 cf "need_all" [(4, 0)] 1 34) r)) := by kernel_rfl
theorem c_need_all_t40_1 (cf : Str → List AV → M AV) (v_program : AV) (o_start o_programs o_kind o_value o_deed : Option AV) : tl P13 cf "need_all" [(4, 0)] 1 34 [o_start, o_programs, o_kind, o_value, some v_program, o_deed] = (do let it1 ← pure v_program; let src2 ← srcOf it1; let r ← forLoop src2 (forB P13 cf "need_all" [(4, 0)] 1 33) FUEL 0 [o_start, o_programs, o_kind, o_value, some v_program, o_deed]; goOn (fun σ => pure (.next σ)) r) := by kernel_rfl
theorem c_need_all_for40_1 (cf : Str → List AV → M AV) (o_start o_programs o_kind o_value o_program o_deed : Option AV) (a : AV) : forB P13 cf "need_all" [(4, 0)] 1 33 a [o_start, o_programs, o_kind, o_value, o_program, o_deed] = (do let c1 ← (do let b2 ← (do let v3 ← (cf "is_deed" [a]); truth v3); pure (!b2)); match c1 with | true => (do let r ← throwM "NoDeed"; goOn (fun σ => pure (.next σ)) r) | false => (do let r ← pure (.next [o_start, o_programs, o_kind, o_value, o_program, some a]); goOn (fun σ => pure (.next σ)) r)) := by kernel_rfl
theorem c_tower_of_0 (cf : Str → List AV → M AV) (v_start v_programs v_kind : AV) : tl P13 cf "tower_of" [] 0 40 [some v_start, some v_programs, some v_kind, none, none, none, none, none, none] = (do let _ ← (cf "need_all" [v_start, v_programs, v_kind]); (do let boxes1 ← (newL true []); (do let it2 ← pure v_start; let _ ← listOf it2; let src3 ← srcOf it2; let r ← forLoop (.enum src3) (forB P13 cf "tower_of" [] 2 37) FUEL 0 [some v_start, some v_programs, some v_kind, some boxes1, none, none, none, none, none]; goOn (tl P13 cf "tower_of" [] 3 37) r))) := by kernel_rfl
theorem c_tower_of_t_3 (cf : Str → List AV → M AV) (v_start : AV) (o_programs o_kind o_boxes o_number o_value o_below o_head o_hands : Option AV) : tl P13 cf "tower_of" [] 3 37 [some v_start, o_programs, o_kind, o_boxes, o_number, o_value, o_below, o_head, o_hands] = (do let c1 ← (do let v2 ← (pBI false .len [v_start]); pCmp .Gt v2 (.int 0)); match c1 with | true => (do let r ← pure (.next [some v_start, o_programs, o_kind, o_boxes, o_number, o_value, o_below, some (.int 0), o_hands]); goOn (tl P13 cf "tower_of" [] 5 35) r) | false => (do let r ← pure (.next [some v_start, o_programs, o_kind, o_boxes, o_number, o_value, o_below, some (.none), o_hands]); goOn (tl P13 cf "tower_of" [] 5 35) r)) := by kernel_rfl
theorem c_tower_of_for_2 (cf : Str → List AV → M AV) (v_start : AV) (o_programs o_kind o_boxes o_number o_value o_below o_head o_hands : Option AV) (a b : AV) : forB P13 cf "tower_of" [] 2 37 (.tup [a, b]) [some v_start, o_programs, o_kind, o_boxes, o_number, o_value, o_below, o_head, o_hands] = (do let below1 ← (pBin false .Add a (.int 1)); (do let c2 ← ((do let c3 ← (pBI false .len [v_start]); pCmp .Eq below1 c3)); match c2 with | true => (do let r ← pure (.next [some v_start, o_programs, o_kind, o_boxes, some a, some b, some (.none), o_head, o_hands]); goOn (tl P13 cf "tower_of" [(2, 0)] 2 35) r) | false => (do let r ← pure (.next [some v_start, o_programs, o_kind, o_boxes, some a, some b, some below1, o_head, o_hands]); goOn (tl P13 cf "tower_of" [(2, 0)] 2 35) r))) := by kernel_rfl
theorem c_tower_of_t_5 (cf : Str → List AV → M AV) (v_programs v_kind v_boxes v_head : AV) (o_start o_number o_value o_below o_hands : Option AV) : tl P13 cf "tower_of" [] 5 35 [o_start, some v_programs, some v_kind, some v_boxes, o_number, o_value, o_below, some v_head, o_hands] = (do let hands8 ← (do let it5 ← pure v_programs; let src6 ← srcOf it5; let ys7 ← compLoop src6 (fun u1 => (do let y2 ← (do let vs3 ← eachM [(pBI false .tuple [u1]), pure (.int 0), pure (.none)]; newD (List.zip (["program", "place", "work"] : List Str) vs3)); pure (some y2))) FUEL 0 []; newL true ys7); (do let y10 ← (do let vs9 ← eachM [pure v_kind, pure v_boxes, pure v_head, pure (.int 0), (newL true []), pure hands8, pure (.int 0), (newL true [])]; newD (List.zip (["kind", "boxes", "head", "mark", "spare", "hands", "time", "rows"] : List Str) vs9)); pure (.ret y10))) := by kernel_rfl
theorem c_tower_of_t20_2 (cf : Str → List AV → M AV) (v_boxes v_value v_below : AV) (o_start o_programs o_kind o_number o_head o_hands : Option AV) : tl P13 cf "tower_of" [(2, 0)] 2 35 [o_start, o_programs, o_kind, some v_boxes, o_number, some v_value, some v_below, o_head, o_hands] = (do let _ ← (do let o1 ← pure v_boxes; let _ ← listOf o1; (pMeth "append" o1 [.tup [v_value, v_below]])); pure (.next [o_start, o_programs, o_kind, some v_boxes, o_number, some v_value, some v_below, o_head, o_hands])) := by kernel_rfl
theorem c_head_of_0 (cf : Str → List AV → M AV) (v_state : AV) : tl P13 cf "head_of" [] 0 40 [some v_state] = (do let y2 ← (do let vs1 ← eachM [(pItem v_state (.str "head")), (pItem v_state (.str "mark"))]; pure (.tup vs1)); pure (.ret y2)) := by kernel_rfl
theorem c_rows_of_0 (cf : Str → List AV → M AV) (v_state : AV) : tl P13 cf "rows_of" [] 0 40 [some v_state] = (do let y2 ← (do let vs1 ← eachM [(pItem v_state (.str "rows"))]; pBI false .list vs1); pure (.ret y2)) := by kernel_rfl
theorem c_need_hand_0 (cf : Str → List AV → M AV) (v_state v_hand : AV) : tl P13 cf "need_hand" [] 0 40 [some v_state, some v_hand] = (do let c1 ← (do let t2 ← (do let b3 ← (do let v4 ← (cf "is_whole" [v_hand]); truth v4); pure (!b3)); match t2 with | true => pure true | false => (do let t5 ← (do let b6 ← ((do let t7 ← pCmp .LtE (.int 0) v_hand; match t7 with | true => (do let c9 ← (do let vs8 ← eachM [(pItem v_state (.str "hands"))]; pBI false .len vs8); pCmp .Lt v_hand c9) | false => pure false)); pure (!b6)); match t5 with | true => pure true | false => pure false)); match c1 with | true => (do let r ← throwM "NoHand"; goOn (fun σ => pure (.next σ)) r) | false => (do let r ← pure (.next [some v_state, some v_hand]); goOn (fun σ => pure (.next σ)) r)) := by kernel_rfl
theorem c_is_still_0 (cf : Str → List AV → M AV) (v_state v_work : AV) : tl P13 cf "is_still" [] 0 40 [some v_state, some v_work] = (do let c1 ← (do let v2 ← (pItem v_state (.str "head")); (do let c4 ← (do let x3 ← (pItem v_work (.str "seen")); pItem x3 (.int 0)); pCmp .NotEq v2 c4)); match c1 with | true => (do let r ← pure (.ret (.bool false)); goOn (tl P13 cf "is_still" [] 1 39) r) | false => (do let r ← pure (.next [some v_state, some v_work]); goOn (tl P13 cf "is_still" [] 1 39) r)) := by kernel_rfl
theorem c_is_still_t_1 (cf : Str → List AV → M AV) (v_state v_work : AV) : tl P13 cf "is_still" [] 1 39 [some v_state, some v_work] = (do let y9 ← (do let v1 ← (do let v8 ← (pItem v_state (.str "kind")); let b7 ← pCmp .NotEq v8 (.str "marks"); pure (.bool b7)); let t2 ← truth v1; match t2 with | true => pure v1 | false => (do let v4 ← (pItem v_state (.str "mark")); let b3 ← (do let c6 ← (do let x5 ← (pItem v_work (.str "seen")); pItem x5 (.int 1)); pCmp .Eq v4 c6); pure (.bool b3))); pure (.ret y9)) := by kernel_rfl
theorem c_put_below_0 (cf : Str → List AV → M AV) (v_state v_box v_below : AV) : tl P13 cf "put_below" [] 0 40 [some v_state, some v_box, some v_below] = (do let v4 ← (do let vs3 ← eachM [(do let x2 ← (do let x1 ← (pItem v_state (.str "boxes")); pItem x1 v_box); pItem x2 (.int 0)), pure v_below]; pure (.tup vs3)); let o5 ← (pItem v_state (.str "boxes")); pStore o5 v_box v4; pure (.next [some v_state, some v_box, some v_below])) := by kernel_rfl
theorem c_come_to_point_0 (cf : Str → List AV → M AV) (v_state v_number v_work : AV) : tl P13 cf "come_to_point" [] 0 40 [some v_state, some v_number, some v_work, none] = (do let hand2 ← (do let x1 ← (pItem v_state (.str "hands")); pItem x1 v_number); (do let v4 ← (do let vs3 ← eachM [(pItem v_state (.str "rows"))]; pBI false .len vs3); pStore v_work (.str "row") v4; (do let _ ← (do let o5 ← (pItem v_state (.str "rows")); let _ ← listOf o5; (do let vs7 ← eachM [(do let vs6 ← eachM [pure v_number, (pItem hand2 (.str "place")), (pItem v_work (.str "deed")), (pItem v_work (.str "begun")), (pItem v_state (.str "time")), pure (.none), pure (.none)]; pure (.tup vs6))]; pMeth "append" o5 vs7)); pure (.next [some v_state, some v_number, some v_work, some hand2])))) := by kernel_rfl
theorem c_end_0 (cf : Str → List AV → M AV) (v_state v_number v_work v_answer : AV) : tl P13 cf "end" [] 0 40 [some v_state, some v_number, some v_work, some v_answer, none] = (do let c1 ← (do let v2 ← (pItem v_work (.str "row")); pCmp .Is v2 (.none)); match c1 with | true => (do let r ← (do let _ ← (cf "come_to_point" [v_state, v_number, v_work]); pure (.next [some v_state, some v_number, some v_work, some v_answer, none])); goOn (tl P13 cf "end" [] 1 39) r) | false => (do let r ← pure (.next [some v_state, some v_number, some v_work, some v_answer, none]); goOn (tl P13 cf "end" [] 1 39) r)) := by kernel_rfl
theorem c_end_t_1 (cf : Str → List AV → M AV) (v_state v_number v_work v_answer : AV) (o_row : Option AV) : tl P13 cf "end" [] 1 39 [some v_state, some v_number, some v_work, some v_answer, o_row] = (do let row3 ← (do let x1 ← (pItem v_state (.str "rows")); let x2 ← (pItem v_work (.str "row")); pItem x1 x2); (do let v10 ← (do let x8 ← (do let o4 ← pure row3; let i5 ← pure none; let j6 ← pure (some 5); pSlice false o4 i5 j6); let x9 ← (do let vs7 ← eachM [(pItem v_state (.str "time")), pure v_answer]; pure (.tup vs7)); pBin false .Add x8 x9); let o11 ← (pItem v_state (.str "rows")); let o12 ← (pItem v_work (.str "row")); pStore o11 o12 v10; (do let v16 ← (do let x15 ← (do let x14 ← (do let x13 ← (pItem v_state (.str "hands")); pItem x13 v_number); pItem x14 (.str "place")); pBin false .Add x15 (.int 1)); let o18 ← (do let x17 ← (pItem v_state (.str "hands")); pItem x17 v_number); pStore o18 (.str "place") v16; (do let o20 ← (do let x19 ← (pItem v_state (.str "hands")); pItem x19 v_number); pStore o20 (.str "work") (.none); pure (.next [some v_state, some v_number, some v_work, some v_answer, some row3]))))) := by kernel_rfl
theorem c_take_0 (cf : Str → List AV → M AV) (v_state v_work : AV) : tl P13 cf "take" [] 0 40 [some v_state, some v_work, none] = (do let c1 ← (do let t7 ← (do let v8 ← (pItem v_state (.str "kind")); pCmp .Eq v8 (.str "new")); match t7 with | true => pure true | false => (do let t9 ← (do let v10 ← (pItem v_state (.str "spare")); (do let c11 ← (newL false []); pCmp .Eq v10 c11)); match t9 with | true => pure true | false => pure false)); match c1 with | true => (do let r ← (do let box3 ← (do let vs2 ← eachM [(pItem v_state (.str "boxes"))]; pBI false .len vs2); (do let _ ← (do let o4 ← (pItem v_state (.str "boxes")); let _ ← listOf o4; (pMeth "append" o4 [.none])); pure (.next [some v_state, some v_work, some box3]))); goOn (tl P13 cf "take" [] 1 39) r) | false => (do let r ← (do let box6 ← (do let o5 ← (pItem v_state (.str "spare")); let _ ← listOf o5; (pMeth "pop" o5 [])); pure (.next [some v_state, some v_work, some box6])); goOn (tl P13 cf "take" [] 1 39) r)) := by kernel_rfl
theorem c_take_t_1 (cf : Str → List AV → M AV) (v_state v_work v_box : AV) : tl P13 cf "take" [] 1 39 [some v_state, some v_work, some v_box] = (do let v3 ← (do let vs2 ← eachM [(do let x1 ← (pItem v_work (.str "deed")); pItem x1 (.int 1)), pure (.none)]; pure (.tup vs2)); let o4 ← (pItem v_state (.str "boxes")); pStore o4 v_box v3; (do pStore v_work (.str "own") v_box; (do pStore v_work (.str "next") (.str "look"); pure (.ret (.tup [.str "take", v_box]))))) := by kernel_rfl
theorem c_look_0 (cf : Str → List AV → M AV) (v_state v_number v_work : AV) : tl P13 cf "look" [] 0 40 [some v_state, some v_number, some v_work, none, none, none] = (do let word2 ← (do let x1 ← (pItem v_work (.str "deed")); pItem x1 (.int 0)); (do let v3 ← (cf "head_of" [v_state]); pStore v_work (.str "seen") v3; (do let v4 ← (pItem g_BEHIND_LOOK word2); pStore v_work (.str "next") v4; (do let told6 ← (do let vs5 ← eachM [pure (.str "look"), (pItem v_state (.str "head")), (pItem v_state (.str "mark"))]; pure (.tup vs5)); (do let c7 ← (pCmp .Eq word2 (.str "push")); match c7 with | true => (do let r ← (do let _ ← (do let vs8 ← eachM [pure v_state, (pItem v_work (.str "own")), (pItem v_state (.str "head"))]; cf "put_below" vs8); pure (.next [some v_state, some v_number, some v_work, some word2, some told6, none])); goOn (tl P13 cf "look" [] 5 35) r) | false => (do let r ← (do let c9 ← (do let v13 ← (pItem v_state (.str "head")); pCmp .Is v13 (.none)); match c9 with | true => (do let r ← (do let c10 ← (pCmp .Eq word2 (.str "swap")); match c10 with | true => (do let r ← (do let _ ← (do let o11 ← (pItem v_state (.str "spare")); let _ ← listOf o11; (do let vs12 ← eachM [(pItem v_work (.str "own"))]; pMeth "append" o11 vs12)); pure (.next [some v_state, some v_number, some v_work, some word2, some told6, none])); goOn (tl P13 cf "look" [(4, 1), (0, 0)] 1 33) r) | false => (do let r ← pure (.next [some v_state, some v_number, some v_work, some word2, some told6, none]); goOn (tl P13 cf "look" [(4, 1), (0, 0)] 1 33) r)); goOn (fun σ => pure (.next σ)) r) | false => (do let r ← pure (.next [some v_state, some v_number, some v_work, some word2, some told6, none]); goOn (fun σ => pure (.next σ)) r)); goOn (tl P13 cf "look" [] 5 35) r)))))) := by kernel_rfl
theorem c_look_t41_00_1 (cf : Str → List AV → M AV) (v_word : AV) (o_state o_number o_work o_told o_answer : Option AV) : tl P13 cf "look" [(4, 1), (0, 0)] 1 33 [o_state, o_number, o_work, some v_word, o_told, o_answer] = (do let c1 ← (pCmp .Eq v_word (.str "clear")); match c1 with | true => (do let r ← pure (.next [o_state, o_number, o_work, some v_word, o_told, some (.tup [])]); goOn (tl P13 cf "look" [(4, 1), (0, 0)] 3 31) r) | false => (do let r ← pure (.next [o_state, o_number, o_work, some v_word, o_told, some (.none)]); goOn (tl P13 cf "look" [(4, 1), (0, 0)] 3 31) r)) := by kernel_rfl
theorem c_look_t_5 (cf : Str → List AV → M AV) (v_told : AV) (o_state o_number o_work o_word o_answer : Option AV) : tl P13 cf "look" [] 5 35 [o_state, o_number, o_work, o_word, some v_told, o_answer] = pure (.ret v_told) := by kernel_rfl
theorem c_look_t41_00_3 (cf : Str → List AV → M AV) (v_state v_number v_work v_answer : AV) (o_word o_told : Option AV) : tl P13 cf "look" [(4, 1), (0, 0)] 3 31 [some v_state, some v_number, some v_work, o_word, o_told, some v_answer] = (do let _ ← (cf "end" [v_state, v_number, v_work, v_answer]); pure (.next [some v_state, some v_number, some v_work, o_word, o_told, some v_answer])) := by kernel_rfl
theorem c_see_0 (cf : Str → List AV → M AV) (v_state v_work : AV) : tl P13 cf "see" [] 0 40 [some v_state, some v_work, none, none] = (do let box2 ← (do let x1 ← (pItem v_work (.str "seen")); pItem x1 (.int 0)); (do let v4 ← (do let x3 ← (pItem v_state (.str "boxes")); pItem x3 box2); pStore v_work (.str "inside") v4; (do let v7 ← (do let x6 ← (do let x5 ← (pItem v_work (.str "deed")); pItem x5 (.int 0)); pItem g_BEHIND_SEE x6); pStore v_work (.str "next") v7; (do let told9 ← (do let x8 ← (pItem v_work (.str "inside")); pBin false .Add (.tup [.str "see", box2]) x8); (do let c10 ← (do let v14 ← (do let x13 ← (pItem v_work (.str "deed")); pItem x13 (.int 0)); pCmp .Eq v14 (.str "swap")); match c10 with | true => (do let r ← (do let _ ← (do let vs12 ← eachM [pure v_state, (pItem v_work (.str "own")), (do let x11 ← (pItem v_work (.str "inside")); pItem x11 (.int 1))]; cf "put_below" vs12); pure (.next [some v_state, some v_work, some box2, some told9])); goOn (tl P13 cf "see" [] 5 35) r) | false => (do let r ← pure (.next [some v_state, some v_work, some box2, some told9]); goOn (tl P13 cf "see" [] 5 35) r)))))) := by kernel_rfl
theorem c_see_t_5 (cf : Str → List AV → M AV) (v_told : AV) (o_state o_work o_box : Option AV) : tl P13 cf "see" [] 5 35 [o_state, o_work, o_box, some v_told] = pure (.ret v_told) := by kernel_rfl
theorem c_put_0 (cf : Str → List AV → M AV) (v_state v_number v_work : AV) : tl P13 cf "put" [] 0 40 [some v_state, some v_number, some v_work, none, none] = (do let c1 ← (do let b2 ← (do let v3 ← (cf "is_still" [v_state, v_work]); truth v3); pure (!b2)); match c1 with | true => (do let r ← (do pStore v_work (.str "next") (.str "look"); pure (.ret (.tup [.str "put", .bool false]))); goOn (tl P13 cf "put" [] 1 39) r) | false => (do let r ← pure (.next [some v_state, some v_number, some v_work, none, none]); goOn (tl P13 cf "put" [] 1 39) r)) := by kernel_rfl
theorem c_put_t_1 (cf : Str → List AV → M AV) (v_state v_number v_work : AV) (o_word o_ahead : Option AV) : tl P13 cf "put" [] 1 39 [some v_state, some v_number, some v_work, o_word, o_ahead] = (do let word2 ← (do let x1 ← (pItem v_work (.str "deed")); pItem x1 (.int 0)); (do let ahead3 ← (pItem v_state (.str "head")); (do let v5 ← (do let x4 ← (pItem v_state (.str "mark")); pBin false .Add x4 (.int 1)); pStore v_state (.str "mark") v5; (do let c6 ← (pCmp .Eq word2 (.str "clear")); match c6 with | true => (do let r ← (do pStore v_state (.str "head") (.none); (do let _ ← (cf "come_to_point" [v_state, v_number, v_work]); (do pStore v_work (.str "walk") ahead3; (do pStore v_work (.str "next") (.str "walk"); pure (.next [some v_state, some v_number, some v_work, some word2, some ahead3]))))); goOn (tl P13 cf "put" [] 5 35) r) | false => (do let r ← (do let c7 ← (pCmp .Eq word2 (.str "push")); match c7 with | true => (do let r ← (do let v8 ← (pItem v_work (.str "own")); pStore v_state (.str "head") v8; (do let _ ← (cf "end" [v_state, v_number, v_work, .none]); pure (.next [some v_state, some v_number, some v_work, some word2, some ahead3]))); goOn (fun σ => pure (.next σ)) r) | false => (do let r ← (do let v9 ← (pItem v_work (.str "own")); pStore v_state (.str "head") v9; (do let c10 ← (pCmp .Eq word2 (.str "pop")); match c10 with | true => (do let r ← (do let v12 ← (do let x11 ← (pItem v_work (.str "inside")); pItem x11 (.int 1)); pStore v_state (.str "head") v12; pure (.next [some v_state, some v_number, some v_work, some word2, some ahead3])); goOn (tl P13 cf "put" [(4, 1), (0, 1)] 2 32) r) | false => (do let r ← pure (.next [some v_state, some v_number, some v_work, some word2, some ahead3]); goOn (tl P13 cf "put" [(4, 1), (0, 1)] 2 32) r))); goOn (fun σ => pure (.next σ)) r)); goOn (tl P13 cf "put" [] 5 35) r))))) := by kernel_rfl
theorem c_put_t41_01_2 (cf : Str → List AV → M AV) (v_state v_number v_work v_ahead : AV) (o_word : Option AV) : tl P13 cf "put" [(4, 1), (0, 1)] 2 32 [some v_state, some v_number, some v_work, o_word, some v_ahead] = (do let _ ← (do let o1 ← (pItem v_state (.str "spare")); let _ ← listOf o1; (pMeth "append" o1 [v_ahead])); (do let _ ← (do let vs3 ← eachM [pure v_state, pure v_number, pure v_work, (do let x2 ← (pItem v_work (.str "inside")); pItem x2 (.int 0))]; cf "end" vs3); pure (.next [some v_state, some v_number, some v_work, o_word, some v_ahead]))) := by kernel_rfl
theorem c_put_t_5 (cf : Str → List AV → M AV) (o_state o_number o_work o_word o_ahead : Option AV) : tl P13 cf "put" [] 5 35 [o_state, o_number, o_work, o_word, o_ahead] = pure (.ret (.tup [.str "put", .bool true])) := by kernel_rfl
theorem c_check_0 (cf : Str → List AV → M AV) (v_state v_number v_work : AV) : tl P13 cf "check" [] 0 40 [some v_state, some v_number, some v_work, none] = (do let told2 ← (do let vs1 ← eachM [pure (.str "look"), (pItem v_state (.str "head")), (pItem v_state (.str "mark"))]; pure (.tup vs1)); (do let c3 ← (do let v6 ← (cf "is_still" [v_state, v_work]); truth v6); match c3 with | true => (do let r ← (do let _ ← (do let vs5 ← eachM [pure v_state, pure v_number, pure v_work, (do let x4 ← (pItem v_work (.str "inside")); pItem x4 (.int 0))]; cf "end" vs5); pure (.next [some v_state, some v_number, some v_work, some told2])); goOn (tl P13 cf "check" [] 2 38) r) | false => (do let r ← (do pStore v_work (.str "next") (.str "look"); pure (.next [some v_state, some v_number, some v_work, some told2])); goOn (tl P13 cf "check" [] 2 38) r))) := by kernel_rfl
theorem c_check_t_2 (cf : Str → List AV → M AV) (v_told : AV) (o_state o_number o_work : Option AV) : tl P13 cf "check" [] 2 38 [o_state, o_number, o_work, some v_told] = pure (.ret v_told) := by kernel_rfl
theorem c_walk_0 (cf : Str → List AV → M AV) (v_state v_number v_work : AV) : tl P13 cf "walk" [] 0 40 [some v_state, some v_number, some v_work, none, none, none] = (do let box1 ← (pItem v_work (.str "walk")); (do let v4 ← (do let x2 ← (pItem v_state (.str "boxes")); pItem x2 box1); let pr3 ← pairOf v4; (do let _ ← (do let o5 ← (pItem v_work (.str "kept")); let _ ← listOf o5; (pMeth "append" o5 [pr3.1])); (do let _ ← (do let o6 ← (pItem v_state (.str "spare")); let _ ← listOf o6; (pMeth "append" o6 [box1])); (do pStore v_work (.str "walk") pr3.2; (do let c7 ← (pCmp .Is pr3.2 (.none)); match c7 with | true => (do let r ← (do let _ ← (do let vs9 ← eachM [pure v_state, pure v_number, pure v_work, (do let vs8 ← eachM [(pItem v_work (.str "kept"))]; pBI false .tuple vs8)]; cf "end" vs9); pure (.next [some v_state, some v_number, some v_work, some box1, some pr3.1, some pr3.2])); goOn (tl P13 cf "walk" [] 6 34) r) | false => (do let r ← pure (.next [some v_state, some v_number, some v_work, some box1, some pr3.1, some pr3.2]); goOn (tl P13 cf "walk" [] 6 34) r))))))) := by kernel_rfl
theorem c_walk_t_6 (cf : Str → List AV → M AV) (v_box v_value v_below : AV) (o_state o_number o_work : Option AV) : tl P13 cf "walk" [] 6 34 [o_state, o_number, o_work, some v_box, some v_value, some v_below] = pure (.ret (.tup [.str "see", v_box, v_value, v_below])) := by kernel_rfl
theorem c_work_of_0 (cf : Str → List AV → M AV) (v_state v_number : AV) : tl P13 cf "work_of" [] 0 40 [some v_state, some v_number, none, none] = (do let hand2 ← (do let x1 ← (pItem v_state (.str "hands")); pItem x1 v_number); (do let c3 ← (do let v10 ← (pItem hand2 (.str "work")); pCmp .Is v10 (.none)); match c3 with | true => (do let r ← (do let deed6 ← (do let x4 ← (pItem hand2 (.str "program")); let x5 ← (pItem hand2 (.str "place")); pItem x4 x5); (do let v9 ← (do let vs8 ← eachM [pure deed6, (pItem v_state (.str "time")), (do let x7 ← (pItem deed6 (.int 0)); pItem g_FIRST x7), pure (.none), pure (.none), pure (.none), pure (.none), (newL true []), pure (.none)]; newD (List.zip (["deed", "begun", "next", "own", "seen", "inside", "walk", "kept", "row"] : List Str) vs8)); pStore hand2 (.str "work") v9; pure (.next [some v_state, some v_number, some hand2, some deed6]))); goOn (tl P13 cf "work_of" [] 2 38) r) | false => (do let r ← pure (.next [some v_state, some v_number, some hand2, none]); goOn (tl P13 cf "work_of" [] 2 38) r))) := by kernel_rfl
theorem c_work_of_t_2 (cf : Str → List AV → M AV) (v_hand : AV) (o_state o_number o_deed : Option AV) : tl P13 cf "work_of" [] 2 38 [o_state, o_number, some v_hand, o_deed] = (do let y1 ← (pItem v_hand (.str "work")); pure (.ret y1)) := by kernel_rfl
theorem c_go_0 (cf : Str → List AV → M AV) (v_state v_number : AV) : tl P13 cf "go" [] 0 40 [some v_state, some v_number, none, none, none] = (do let hand2 ← (do let x1 ← (pItem v_state (.str "hands")); pItem x1 v_number); (do let c3 ← (do let t21 ← (do let v22 ← (pItem hand2 (.str "work")); pCmp .Is v22 (.none)); match t21 with | false => pure false | true => (do let t23 ← (do let v24 ← (pItem hand2 (.str "place")); (do let c26 ← (do let vs25 ← eachM [(pItem hand2 (.str "program"))]; pBI false .len vs25); pCmp .Eq v24 c26)); match t23 with | false => pure false | true => pure true)); match c3 with | true => (do let r ← pure (.next [some v_state, some v_number, some hand2, some (.tup [.str "rest"]), none]); goOn (tl P13 cf "go" [] 2 38) r) | false => (do let r ← (do let work4 ← (cf "work_of" [v_state, v_number]); (do let c5 ← (do let v20 ← (pItem work4 (.str "next")); pCmp .Eq v20 (.str "take")); match c5 with | true => (do let r ← (do let told6 ← (cf "take" [v_state, work4]); pure (.next [some v_state, some v_number, some hand2, some told6, some work4])); goOn (fun σ => pure (.next σ)) r) | false => (do let r ← (do let c7 ← (do let v19 ← (pItem work4 (.str "next")); pCmp .Eq v19 (.str "look")); match c7 with | true => (do let r ← (do let told8 ← (cf "look" [v_state, v_number, work4]); pure (.next [some v_state, some v_number, some hand2, some told8, some work4])); goOn (fun σ => pure (.next σ)) r) | false => (do let r ← (do let c9 ← (do let v18 ← (pItem work4 (.str "next")); pCmp .Eq v18 (.str "see")); match c9 with | true => (do let r ← (do let told10 ← (cf "see" [v_state, work4]); pure (.next [some v_state, some v_number, some hand2, some told10, some work4])); goOn (fun σ => pure (.next σ)) r) | false => (do let r ← (do let c11 ← (do let v17 ← (pItem work4 (.str "next")); pCmp .Eq v17 (.str "put")); match c11 with | true => (do let r ← (do let told12 ← (cf "put" [v_state, v_number, work4]); pure (.next [some v_state, some v_number, some hand2, some told12, some work4])); goOn (fun σ => pure (.next σ)) r) | false => (do let r ← (do let c13 ← (do let v16 ← (pItem work4 (.str "next")); pCmp .Eq v16 (.str "check")); match c13 with | true => (do let r ← (do let told14 ← (cf "check" [v_state, v_number, work4]); pure (.next [some v_state, some v_number, some hand2, some told14, some work4])); goOn (fun σ => pure (.next σ)) r) | false => (do let r ← (do let told15 ← (cf "walk" [v_state, v_number, work4]); pure (.next [some v_state, some v_number, some hand2, some told15, some work4])); goOn (fun σ => pure (.next σ)) r)); goOn (fun σ => pure (.next σ)) r)); goOn (fun σ => pure (.next σ)) r)); goOn (fun σ => pure (.next σ)) r)); goOn (fun σ => pure (.next σ)) r))); goOn (tl P13 cf "go" [] 2 38) r))) := by kernel_rfl
theorem c_go_t_2 (cf : Str → List AV → M AV) (v_state v_told : AV) (o_number o_hand o_work : Option AV) : tl P13 cf "go" [] 2 38 [some v_state, o_number, o_hand, some v_told, o_work] = (do let v2 ← (do let x1 ← (pItem v_state (.str "time")); pBin false .Add x1 (.int 1)); pStore v_state (.str "time") v2; pure (.ret v_told)) := by kernel_rfl
theorem c_woven_0 (cf : Str → List AV → M AV) (v_start v_programs v_weaving v_kind : AV) : tl P13 cf "woven" [] 0 40 [some v_start, some v_programs, some v_weaving, some v_kind, none, none, none] = (do let state1 ← (cf "tower_of" [v_start, v_programs, v_kind]); (do let c2 ← (do let v3 ← (pBI false .len [v_weaving]); pCmp .Gt v3 g_MOST_STEPS); match c2 with | true => (do let r ← throwM "TooMany"; goOn (tl P13 cf "woven" [] 2 38) r) | false => (do let r ← pure (.next [some v_start, some v_programs, some v_weaving, some v_kind, some state1, none, none]); goOn (tl P13 cf "woven" [] 2 38) r))) := by kernel_rfl
theorem c_woven_t_2 (cf : Str → List AV → M AV) (v_weaving : AV) (o_start o_programs o_kind o_state o_hand o_steps : Option AV) : tl P13 cf "woven" [] 2 38 [o_start, o_programs, some v_weaving, o_kind, o_state, o_hand, o_steps] = (do let it1 ← pure v_weaving; let src2 ← srcOf it1; let r ← forLoop src2 (forB P13 cf "woven" [] 2 37) FUEL 0 [o_start, o_programs, some v_weaving, o_kind, o_state, o_hand, o_steps]; goOn (tl P13 cf "woven" [] 3 37) r) := by kernel_rfl
theorem c_woven_t_3 (cf : Str → List AV → M AV) (v_weaving v_state : AV) (o_start o_programs o_kind o_hand o_steps : Option AV) : tl P13 cf "woven" [] 3 37 [o_start, o_programs, some v_weaving, o_kind, some v_state, o_hand, o_steps] = (do let steps6 ← (do let it3 ← pure v_weaving; let src4 ← srcOf it3; let ys5 ← compLoop src4 (fun u1 => (do let y2 ← (cf "go" [v_state, u1]); pure (some y2))) FUEL 0 []; newL false ys5); pure (.ret (.tup [v_state, steps6]))) := by kernel_rfl
theorem c_woven_for_2 (cf : Str → List AV → M AV) (v_state : AV) (o_start o_programs o_weaving o_kind o_hand o_steps : Option AV) (a : AV) : forB P13 cf "woven" [] 2 37 a [o_start, o_programs, o_weaving, o_kind, some v_state, o_hand, o_steps] = (do let _ ← (cf "need_hand" [v_state, a]); pure (.next [o_start, o_programs, o_weaving, o_kind, some v_state, some a, o_steps])) := by kernel_rfl
theorem c_mixed_0 (cf : Str → List AV → M AV) (v_cell v_k : AV) : tl P13 cf "_law_mixed" [] 0 40 [some v_cell, some v_k, none] = (do let left4 ← (do let x3 ← (do let x2 ← (do let x1 ← (pBin false .Mult (.int 7919) v_k); pBin false .Add v_cell x1); pBin false .Mult x2 (.int 48271)); pBin false .Mod x3 (.int 2147483647)); (do let y6 ← (do let x5 ← (pBin false .Mult left4 left4); pBin false .Mod x5 (.int 2147483629)); pure (.ret y6))) := by kernel_rfl
theorem c_cell_at_0 (cf : Str → List AV → M AV) (v_script v_k : AV) : tl P13 cf "_law_cell_at" [] 0 40 [some v_script, some v_k] = (do let c1 ← ((do let c4 ← (pBI false .len [v_script]); pCmp .Lt v_k c4)); match c1 with | true => (do let r ← (do let y3 ← (do let vs2 ← eachM [(pItem v_script v_k), pure v_k]; cf "_law_mixed" vs2); pure (.ret y3)); goOn (tl P13 cf "_law_cell_at" [] 1 39) r) | false => (do let r ← pure (.next [some v_script, some v_k]); goOn (tl P13 cf "_law_cell_at" [] 1 39) r)) := by kernel_rfl
theorem c_cell_at_t_1 (cf : Str → List AV → M AV) (o_script o_k : Option AV) : tl P13 cf "_law_cell_at" [] 1 39 [o_script, o_k] = pure (.ret (.int 0)) := by kernel_rfl
theorem c_cells_0 (cf : Str → List AV → M AV) (v_script v_at v_end : AV) : tl P13 cf "_law_cells" [] 0 40 [some v_script, some v_at, some v_end] = (do let y10 ← (do let it5 ← (do let vs9 ← eachM [pure v_at, (do let vs8 ← eachM [pure v_end, (pBI false .len [v_script])]; pBI false .min vs8)]; pBI false .range vs9); let src6 ← srcOf it5; let ys7 ← compLoop src6 (fun u1 => (do let y2 ← (do let vs3 ← eachM [(pItem v_script u1), pure u1]; cf "_law_mixed" vs3); pure (some y2))) FUEL 0 []; newL false ys7); pure (.ret y10)) := by kernel_rfl
theorem c_alike_0 (cf : Str → List AV → M AV) (v_found v_due : AV) : tl P13 cf "_law_alike" [] 0 40 [some v_found, some v_due, none, none] = (do let rest1 ← (newL true [.tup [v_found, v_due]]); (do let r ← whileLoop (whileT P13 cf "_law_alike" [] 1 38) (whileB P13 cf "_law_alike" [] 1 38) FUEL [some v_found, some v_due, some rest1, none]; goOn (tl P13 cf "_law_alike" [] 2 38) r)) := by kernel_rfl
theorem c_alike_t_2 (cf : Str → List AV → M AV) (o_found o_due o_rest o_pair : Option AV) : tl P13 cf "_law_alike" [] 2 38 [o_found, o_due, o_rest, o_pair] = pure (.ret (.bool true)) := by kernel_rfl
theorem c_alike_while_1t (cf : Str → List AV → M AV) (v_rest : AV) (o_found o_due o_pair : Option AV) : whileT P13 cf "_law_alike" [] 1 38 [o_found, o_due, some v_rest, o_pair] = ((do let c1 ← (newL false []); pCmp .NotEq v_rest c1)) := by kernel_rfl
theorem c_alike_while_1b (cf : Str → List AV → M AV) (v_rest : AV) (o_found o_due o_pair : Option AV) : whileB P13 cf "_law_alike" [] 1 38 [o_found, o_due, some v_rest, o_pair] = (do let pair2 ← (do let o1 ← pure v_rest; let _ ← listOf o1; (pMeth "pop" o1 [])); (do let c3 ← (do let v46 ← (do let v44 ← (pItem pair2 (.int 1)); let b45 ← pIsiTL v44; pure (.bool b45)); truth v46); match c3 with | true => (do let r ← (do let c4 ← (do let v7 ← (do let v5 ← (pItem pair2 (.int 0)); let b6 ← pIsi v5 .tuple; pure (.bool b6)); (do let c10 ← (do let v8 ← (pItem pair2 (.int 1)); let b9 ← pIsi v8 .tuple; pure (.bool b9)); pCmp .NotEq v7 c10)); match c4 with | true => (do let r ← pure (.ret (.bool false)); goOn (tl P13 cf "_law_alike" [(1, 0), (1, 0)] 1 35) r) | false => (do let r ← pure (.next [o_found, o_due, some v_rest, some pair2]); goOn (tl P13 cf "_law_alike" [(1, 0), (1, 0)] 1 35) r)); goOn (fun σ => pure (.next σ)) r) | false => (do let r ← (do let c11 ← (do let t38 ← (do let v39 ← (pItem pair2 (.int 1)); pCmp .Is v39 (.none)); match t38 with | true => pure true | false => (do let t40 ← (do let v43 ← (do let v41 ← (pItem pair2 (.int 1)); let b42 ← pIsi v41 .bool; pure (.bool b42)); truth v43); match t40 with | true => pure true | false => pure false)); match c11 with | true => (do let r ← (do let c12 ← (do let t13 ← (do let v16 ← (do let v14 ← (pItem pair2 (.int 0)); let b15 ← pIsi v14 .bool; pure (.bool b15)); (do let c19 ← (do let v17 ← (pItem pair2 (.int 1)); let b18 ← pIsi v17 .bool; pure (.bool b18)); pCmp .NotEq v16 c19)); match t13 with | true => pure true | false => (do let t20 ← (do let v21 ← (pItem pair2 (.int 0)); (do let c22 ← (pItem pair2 (.int 1)); pCmp .NotEq v21 c22)); match t20 with | true => pure true | false => pure false)); match c12 with | true => (do let r ← pure (.ret (.bool false)); goOn (fun σ => pure (.next σ)) r) | false => (do let r ← pure (.next [o_found, o_due, some v_rest, some pair2]); goOn (fun σ => pure (.next σ)) r)); goOn (fun σ => pure (.next σ)) r) | false => (do let r ← (do let c23 ← (do let t24 ← (do let v27 ← (do let v25 ← (pItem pair2 (.int 0)); let b26 ← pIsi v25 .str; pure (.bool b26)); (do let c30 ← (do let v28 ← (pItem pair2 (.int 1)); let b29 ← pIsi v28 .str; pure (.bool b29)); pCmp .NotEq v27 c30)); match t24 with | true => pure true | false => (do let t31 ← (do let v34 ← (do let v32 ← (pItem pair2 (.int 0)); let b33 ← pIsi v32 .bool; pure (.bool b33)); truth v34); match t31 with | true => pure true | false => (do let t35 ← (do let v36 ← (pItem pair2 (.int 0)); (do let c37 ← (pItem pair2 (.int 1)); pCmp .NotEq v36 c37)); match t35 with | true => pure true | false => pure false))); match c23 with | true => (do let r ← pure (.ret (.bool false)); goOn (fun σ => pure (.next σ)) r) | false => (do let r ← pure (.next [o_found, o_due, some v_rest, some pair2]); goOn (fun σ => pure (.next σ)) r)); goOn (fun σ => pure (.next σ)) r)); goOn (fun σ => pure (.next σ)) r))) := by kernel_rfl
theorem c_alike_t10_10_1 (cf : Str → List AV → M AV) (v_pair : AV) (o_found o_due o_rest : Option AV) : tl P13 cf "_law_alike" [(1, 0), (1, 0)] 1 35 [o_found, o_due, o_rest, some v_pair] = (do let c1 ← (do let t2 ← (do let v5 ← (do let v3 ← (pItem v_pair (.int 0)); let b4 ← pIsi v3 .list; pure (.bool b4)); (do let c8 ← (do let v6 ← (pItem v_pair (.int 1)); let b7 ← pIsi v6 .list; pure (.bool b7)); pCmp .NotEq v5 c8)); match t2 with | true => pure true | false => (do let t9 ← (do let v11 ← (do let vs10 ← eachM [(pItem v_pair (.int 0))]; pBI false .len vs10); (do let c13 ← (do let vs12 ← eachM [(pItem v_pair (.int 1))]; pBI false .len vs12); pCmp .NotEq v11 c13)); match t9 with | true => pure true | false => pure false)); match c1 with | true => (do let r ← pure (.ret (.bool false)); goOn (tl P13 cf "_law_alike" [(1, 0), (1, 0)] 2 34) r) | false => (do let r ← pure (.next [o_found, o_due, o_rest, some v_pair]); goOn (tl P13 cf "_law_alike" [(1, 0), (1, 0)] 2 34) r)) := by kernel_rfl
theorem c_alike_t10_10_2 (cf : Str → List AV → M AV) (v_rest v_pair : AV) (o_found o_due : Option AV) : tl P13 cf "_law_alike" [(1, 0), (1, 0)] 2 34 [o_found, o_due, some v_rest, some v_pair] = (do let rest3 ← (do let x2 ← (do let vs1 ← eachM [(pItem v_pair (.int 0)), (pItem v_pair (.int 1))]; pZipL false vs1); pBin true .Add v_rest x2); pure (.next [o_found, o_due, some rest3, some v_pair])) := by kernel_rfl
theorem c_value_by_0 (cf : Str → List AV → M AV) (v_cell : AV) : tl P13 cf "_law_value_by" [] 0 40 [some v_cell] = (do let c1 ← (do let v8 ← (pBin false .Mod v_cell (.int 4)); pCmp .Eq v8 (.int 0)); match c1 with | true => (do let r ← (do let y7 ← (do let x5 ← (do let x4 ← (do let x3 ← (do let x2 ← (pBin false .FloorDiv v_cell (.int 4)); pBin false .Mult x2 (.int 7919)); pBin false .Mult x3 (.int 7919)); pBin false .Mult x4 (.int 7919)); let x6 ← (pBin false .Pow (.int 10) (.int 20)); pBin false .Sub x5 x6); pure (.ret y7)); goOn (tl P13 cf "_law_value_by" [] 1 39) r) | false => (do let r ← pure (.next [some v_cell]); goOn (tl P13 cf "_law_value_by" [] 1 39) r)) := by kernel_rfl
theorem c_value_by_t_1 (cf : Str → List AV → M AV) (v_cell : AV) : tl P13 cf "_law_value_by" [] 1 39 [some v_cell] = (do let y3 ← (do let x2 ← (do let x1 ← (pBin false .FloorDiv v_cell (.int 4)); pBin false .Mod x1 (.int 5)); pBin false .Sub x2 (.int 1)); pure (.ret y3)) := by kernel_rfl
theorem c_deed_by_0 (cf : Str → List AV → M AV) (v_cell : AV) : tl P13 cf "_law_deed_by" [] 0 40 [some v_cell, none] = (do let name3 ← (do let x1 ← (newL false [.str "push", .str "push", .str "push", .str "push", .str "pop", .str "pop", .str "pop", .str "top", .str "top", .str "swap", .str "swap", .str "clear"]); let x2 ← (pBin false .Mod v_cell (.int 12)); pItem x1 x2); (do let c4 ← ((do let c8 ← (newL false [.str "push", .str "swap"]); pCmp .In name3 c8)); match c4 with | true => (do let r ← (do let y7 ← (do let vs6 ← eachM [pure name3, (do let vs5 ← eachM [(pBin false .FloorDiv v_cell (.int 12))]; cf "_law_value_by" vs5)]; pure (.tup vs6)); pure (.ret y7)); goOn (tl P13 cf "_law_deed_by" [] 2 38) r) | false => (do let r ← pure (.next [some v_cell, some name3]); goOn (tl P13 cf "_law_deed_by" [] 2 38) r))) := by kernel_rfl
theorem c_deed_by_t_2 (cf : Str → List AV → M AV) (v_name : AV) (o_cell : Option AV) : tl P13 cf "_law_deed_by" [] 2 38 [o_cell, some v_name] = pure (.ret (.tup [v_name])) := by kernel_rfl
theorem c_start_by_0 (cf : Str → List AV → M AV) (v_cell : AV) : tl P13 cf "_law_start_by" [] 0 40 [some v_cell, none] = (do let size1 ← (pBin false .Mod v_cell (.int 4)); (do let c2 ← (do let v6 ← (do let x5 ← (pBin false .FloorDiv v_cell (.int 4)); pBin false .Mod x5 (.int 8)); pCmp .Eq v6 (.int 1)); match c2 with | true => (do let r ← (do let size4 ← (do let x3 ← (pBin false .FloorDiv v_cell (.int 32)); pBin false .Mod x3 (.int 61)); pure (.next [some v_cell, some size4])); goOn (tl P13 cf "_law_start_by" [] 2 38) r) | false => (do let r ← pure (.next [some v_cell, some size1]); goOn (tl P13 cf "_law_start_by" [] 2 38) r))) := by kernel_rfl
theorem c_start_by_t_2 (cf : Str → List AV → M AV) (v_cell v_size : AV) : tl P13 cf "_law_start_by" [] 2 38 [some v_cell, some v_size] = (do let y10 ← (do let it7 ← (pBI false .range [v_size]); let src8 ← srcOf it7; let ys9 ← compLoop src8 (fun u1 => (do let y2 ← (do let vs4 ← eachM [(do let vs3 ← eachM [(pBin false .FloorDiv v_cell (.int 8)), pure u1]; cf "_law_mixed" vs3)]; cf "_law_value_by" vs4); pure (some y2))) FUEL 0 []; newL false ys9); pure (.ret y10)) := by kernel_rfl
theorem c_hands_by_0 (cf : Str → List AV → M AV) (v_cell : AV) : tl P13 cf "_law_hands_by" [] 0 40 [some v_cell] = (do let c1 ← (do let v6 ← (do let x5 ← (pBin false .FloorDiv v_cell (.int 4)); pBin false .Mod x5 (.int 8)); pCmp .Eq v6 (.int 1)); match c1 with | true => (do let r ← (do let y4 ← (do let x3 ← (do let x2 ← (pBin false .FloorDiv v_cell (.int 32)); pBin false .Mod x2 (.int 16)); pBin false .Add (.int 5) x3); pure (.ret y4)); goOn (tl P13 cf "_law_hands_by" [] 1 39) r) | false => (do let r ← pure (.next [some v_cell]); goOn (tl P13 cf "_law_hands_by" [] 1 39) r)) := by kernel_rfl
theorem c_hands_by_t_1 (cf : Str → List AV → M AV) (v_cell : AV) : tl P13 cf "_law_hands_by" [] 1 39 [some v_cell] = (do let y2 ← (do let x1 ← (pBin false .Mod v_cell (.int 4)); pBin false .Add (.int 1) x1); pure (.ret y2)) := by kernel_rfl
theorem c_programs_by_0 (cf : Str → List AV → M AV) (v_script v_hands : AV) : tl P13 cf "_law_programs_by" [] 0 40 [some v_script, some v_hands, none, none] = (do let programs6 ← (do let it3 ← (pBI false .range [v_hands]); let src4 ← srcOf it3; let ys5 ← compLoop src4 (fun u1 => (do let y2 ← (newL true []); pure (some y2))) FUEL 0 []; newL true ys5); (do let it7 ← (cf "_law_cells" [v_script, .int 3, .int 27]); let src8 ← srcOf it7; let r ← forLoop src8 (forB P13 cf "_law_programs_by" [] 1 38) FUEL 0 [some v_script, some v_hands, some programs6, none]; goOn (tl P13 cf "_law_programs_by" [] 2 38) r)) := by kernel_rfl
theorem c_programs_by_t_2 (cf : Str → List AV → M AV) (v_programs : AV) (o_script o_hands o_cell : Option AV) : tl P13 cf "_law_programs_by" [] 2 38 [o_script, o_hands, some v_programs, o_cell] = pure (.ret v_programs) := by kernel_rfl
theorem c_programs_by_for_1 (cf : Str → List AV → M AV) (v_hands v_programs : AV) (o_script o_cell : Option AV) (a : AV) : forB P13 cf "_law_programs_by" [] 1 38 a [o_script, some v_hands, some v_programs, o_cell] = (do let _ ← (do let o1 ← (do let x4 ← (pBin false .Mod a v_hands); pItem v_programs x4); let _ ← listOf o1; (do let vs3 ← eachM [(do let vs2 ← eachM [(pBin false .FloorDiv a (.int 4))]; cf "_law_deed_by" vs2)]; pMeth "append" o1 vs3)); pure (.next [o_script, some v_hands, some v_programs, some a])) := by kernel_rfl
theorem c_weaving_by_0 (cf : Str → List AV → M AV) (v_script v_hands : AV) : tl P13 cf "_law_weaving_by" [] 0 40 [some v_script, some v_hands, none, none, none, none] = (do let weaving1 ← (newL true []); (do let it2 ← (cf "_law_cells" [v_script, .int 27, .int 63]); let src3 ← srcOf it2; let r ← forLoop src3 (forB P13 cf "_law_weaving_by" [] 1 38) FUEL 0 [some v_script, some v_hands, some weaving1, none, none, none]; goOn (tl P13 cf "_law_weaving_by" [] 2 38) r)) := by kernel_rfl
theorem c_weaving_by_t_2 (cf : Str → List AV → M AV) (v_weaving : AV) (o_script o_hands o_cell o_rest o_k : Option AV) : tl P13 cf "_law_weaving_by" [] 2 38 [o_script, o_hands, some v_weaving, o_cell, o_rest, o_k] = pure (.ret v_weaving) := by kernel_rfl
theorem c_weaving_by_for_1 (cf : Str → List AV → M AV) (v_hands v_weaving : AV) (o_script o_cell o_rest o_k : Option AV) (a : AV) : forB P13 cf "_law_weaving_by" [] 1 38 a [o_script, some v_hands, some v_weaving, o_cell, o_rest, o_k] = (do let rest1 ← (pBin false .FloorDiv a (.int 36)); (do let c2 ← (do let v13 ← (pBin false .Mod a (.int 4)); pCmp .Gt v13 (.int 0)); match c2 with | true => (do let r ← (do let weaving10 ← (do let x9 ← (do let x7 ← (do let vs3 ← eachM [(pBin false .Mod rest1 v_hands)]; newL false vs3); let x8 ← (do let x5 ← (newL false [.int 1, .int 2, .int 2, .int 3, .int 3, .int 4, .int 6, .int 6, .int 7]); let x6 ← (do let x4 ← (pBin false .FloorDiv a (.int 4)); pBin false .Mod x4 (.int 9)); pItem x5 x6); pBin false .Mult x7 x8); pBin true .Add v_weaving x9); pure (.next [o_script, some v_hands, some weaving10, some a, some rest1, o_k])); goOn (fun σ => pure (.next σ)) r) | false => (do let r ← (do let it11 ← (pBI false .range [.int 7]); let src12 ← srcOf it11; let r ← forLoop src12 (forB P13 cf "_law_weaving_by" [(1, 0), (1, 1)] 0 35) FUEL 0 [o_script, some v_hands, some v_weaving, some a, some rest1, o_k]; goOn (fun σ => pure (.next σ)) r); goOn (fun σ => pure (.next σ)) r))) := by kernel_rfl
theorem c_weaving_by_for10_11_0 (cf : Str → List AV → M AV) (v_hands v_weaving v_rest : AV) (o_script o_cell o_k : Option AV) (a : AV) : forB P13 cf "_law_weaving_by" [(1, 0), (1, 1)] 0 35 a [o_script, some v_hands, some v_weaving, o_cell, some v_rest, o_k] = (do let _ ← (do let o1 ← pure v_weaving; let _ ← listOf o1; (do let vs2 ← eachM [(pBin false .Mod v_rest v_hands)]; pMeth "append" o1 vs2)); (do let rest3 ← (pBin false .FloorDiv v_rest v_hands); pure (.next [o_script, some v_hands, some v_weaving, o_cell, some rest3, some a]))) := by kernel_rfl
theorem c_lplayed_0 (cf : Str → List AV → M AV) (v_values v_deed : AV) : tl P13 cf "_law_played" [] 0 40 [some v_values, some v_deed, none] = (do let c1 ← (do let v6 ← (pItem v_deed (.int 0)); pCmp .Eq v6 (.str "push")); match c1 with | true => (do let r ← (do let y5 ← (do let vs4 ← eachM [pure (.none), (do let x3 ← (do let vs2 ← eachM [(pItem v_deed (.int 1))]; newL false vs2); pBin false .Add x3 v_values)]; pure (.tup vs4)); pure (.ret y5)); goOn (tl P13 cf "_law_played" [] 1 39) r) | false => (do let r ← pure (.next [some v_values, some v_deed, none]); goOn (tl P13 cf "_law_played" [] 1 39) r)) := by kernel_rfl
theorem c_lplayed_t_1 (cf : Str → List AV → M AV) (v_values v_deed : AV) (o_answer : Option AV) : tl P13 cf "_law_played" [] 1 39 [some v_values, some v_deed, o_answer] = (do let c1 ← (do let v4 ← (pItem v_deed (.int 0)); pCmp .Eq v4 (.str "clear")); match c1 with | true => (do let r ← (do let y3 ← (do let vs2 ← eachM [(pBI false .tuple [v_values]), (newL false [])]; pure (.tup vs2)); pure (.ret y3)); goOn (tl P13 cf "_law_played" [] 2 38) r) | false => (do let r ← pure (.next [some v_values, some v_deed, o_answer]); goOn (tl P13 cf "_law_played" [] 2 38) r)) := by kernel_rfl
theorem c_lplayed_t_2 (cf : Str → List AV → M AV) (v_values v_deed : AV) (o_answer : Option AV) : tl P13 cf "_law_played" [] 2 38 [some v_values, some v_deed, o_answer] = (do let answer3 ← (do let x2 ← (do let x1 ← (newL false [.none]); pBin false .Add v_values x1); pItem x2 (.int 0)); (do let c4 ← (do let t13 ← (do let v14 ← (pItem v_deed (.int 0)); pCmp .Eq v14 (.str "swap")); match t13 with | false => pure false | true => (do let t15 ← ((do let c16 ← (newL false []); pCmp .NotEq v_values c16)); match t15 with | false => pure false | true => pure true)); match c4 with | true => (do let r ← (do let y12 ← (do let vs11 ← eachM [pure answer3, (do let x9 ← (do let vs5 ← eachM [(pItem v_deed (.int 1))]; newL false vs5); let x10 ← (do let o6 ← pure v_values; let i7 ← pure (some 1); let j8 ← pure none; pSlice false o6 i7 j8); pBin false .Add x9 x10)]; pure (.tup vs11)); pure (.ret y12)); goOn (tl P13 cf "_law_played" [] 4 36) r) | false => (do let r ← pure (.next [some v_values, some v_deed, some answer3]); goOn (tl P13 cf "_law_played" [] 4 36) r))) := by kernel_rfl
theorem c_lplayed_t_4 (cf : Str → List AV → M AV) (v_values v_deed v_answer : AV) : tl P13 cf "_law_played" [] 4 36 [some v_values, some v_deed, some v_answer] = (do let c1 ← (do let v7 ← (pItem v_deed (.int 0)); pCmp .Eq v7 (.str "pop")); match c1 with | true => (do let r ← (do let y6 ← (do let vs5 ← eachM [pure v_answer, (do let o2 ← pure v_values; let i3 ← pure (some 1); let j4 ← pure none; pSlice false o2 i3 j4)]; pure (.tup vs5)); pure (.ret y6)); goOn (tl P13 cf "_law_played" [] 5 35) r) | false => (do let r ← pure (.next [some v_values, some v_deed, some v_answer]); goOn (tl P13 cf "_law_played" [] 5 35) r)) := by kernel_rfl
theorem c_lplayed_t_5 (cf : Str → List AV → M AV) (v_values v_answer : AV) (o_deed : Option AV) : tl P13 cf "_law_played" [] 5 35 [some v_values, o_deed, some v_answer] = (do let y2 ← (do let vs1 ← eachM [pure v_answer, (pBI false .list [v_values])]; pure (.tup vs1)); pure (.ret y2)) := by kernel_rfl
theorem c_ahead_0 (cf : Str → List AV → M AV) (v_one v_other : AV) : tl P13 cf "_law_ahead" [] 0 40 [some v_one, some v_other] = (do let y8 ← (do let v1 ← (do let v7 ← (pItem v_one (.int 5)); let b6 ← pCmp .IsNot v7 (.none); pure (.bool b6)); let t2 ← truth v1; match t2 with | false => pure v1 | true => (do let v4 ← (pItem v_one (.int 5)); let b3 ← (do let c5 ← (pItem v_other (.int 3)); pCmp .Lt v4 c5); pure (.bool b3))); pure (.ret y8)) := by kernel_rfl
theorem c_least_0 (cf : Str → List AV → M AV) (v_rest v_values v_rows : AV) : tl P13 cf "_law_least" [] 0 40 [some v_rest, some v_values, some v_rows, none, none, none, none] = (do let c1 ← ((do let c3 ← (newL false []); pCmp .Eq v_rest c3)); match c1 with | true => (do let r ← (do let y2 ← (newL false []); pure (.ret y2)); goOn (tl P13 cf "_law_least" [] 1 39) r) | false => (do let r ← pure (.next [some v_rest, some v_values, some v_rows, none, none, none, none]); goOn (tl P13 cf "_law_least" [] 1 39) r)) := by kernel_rfl
theorem c_least_t_1 (cf : Str → List AV → M AV) (v_rest : AV) (o_values o_rows o_place o_pair o_free o_found : Option AV) : tl P13 cf "_law_least" [] 1 39 [some v_rest, o_values, o_rows, o_place, o_pair, o_free, o_found] = (do let it1 ← pure v_rest; let src2 ← srcOf it1; let r ← forLoop src2 (forB P13 cf "_law_least" [] 1 38) FUEL 0 [some v_rest, o_values, o_rows, o_place, o_pair, o_free, o_found]; goOn (tl P13 cf "_law_least" [] 2 38) r) := by kernel_rfl
theorem c_least_t_2 (cf : Str → List AV → M AV) (o_rest o_values o_rows o_place o_pair o_free o_found : Option AV) : tl P13 cf "_law_least" [] 2 38 [o_rest, o_values, o_rows, o_place, o_pair, o_free, o_found] = pure (.ret (.none)) := by kernel_rfl
theorem c_least_for_1 (cf : Str → List AV → M AV) (v_rest v_values v_rows : AV) (o_place o_pair o_free o_found : Option AV) (a : AV) : forB P13 cf "_law_least" [] 1 38 a [some v_rest, some v_values, some v_rows, o_place, o_pair, o_free, o_found] = (do let pair3 ← (do let vs2 ← eachM [pure v_values, (do let x1 ← (pItem v_rows a); pItem x1 (.int 2))]; cf "_law_played" vs2); (do let free14 ← (do let v4 ← (do let vs13 ← eachM [(do let it10 ← pure v_rest; let src11 ← srcOf it10; let ys12 ← compLoop src11 (fun u6 => (do let y7 ← (do let vs8 ← eachM [(pItem v_rows u6), (pItem v_rows a)]; cf "_law_ahead" vs8); pure (some y7))) FUEL 0 []; newL false ys12)]; pBI false .any vs13); let b5 ← truth v4; pure (.bool !b5)); (do let c15 ← (do let t27 ← (truth free14); match t27 with | false => pure false | true => (do let t28 ← (do let t29 ← (do let v31 ← (do let x30 ← (pItem v_rows a); pItem x30 (.int 5)); pCmp .Is v31 (.none)); match t29 with | true => pure true | false => (do let t32 ← (do let v35 ← (do let vs34 ← eachM [(do let x33 ← (pItem v_rows a); pItem x33 (.int 6)), (pItem pair3 (.int 0))]; cf "_law_alike" vs34); truth v35); match t32 with | true => pure true | false => pure false)); match t28 with | false => pure false | true => pure true)); match c15 with | true => (do let r ← (do let found23 ← (do let vs22 ← eachM [(do let it19 ← pure v_rest; let src20 ← srcOf it19; let ys21 ← compLoop src20 (fun u16 => (do let t18 ← (pCmp .NotEq u16 a); if t18 = true then pure (some u16) else pure none)) FUEL 0 []; newL false ys21), (pItem pair3 (.int 1)), pure v_rows]; cf "_law_least" vs22); (do let c24 ← (pCmp .IsNot found23 (.none)); match c24 with | true => (do let r ← (do let y26 ← (do let x25 ← (newL false [a]); pBin false .Add x25 found23); pure (.ret y26)); goOn (fun σ => pure (.next σ)) r) | false => (do let r ← pure (.next [some v_rest, some v_values, some v_rows, some a, some pair3, some free14, some found23]); goOn (fun σ => pure (.next σ)) r))); goOn (fun σ => pure (.next σ)) r) | false => (do let r ← pure (.next [some v_rest, some v_values, some v_rows, some a, some pair3, some free14, o_found]); goOn (fun σ => pure (.next σ)) r)))) := by kernel_rfl
theorem c_law_0 (cf : Str → List AV → M AV) (v_script : AV) : tl P13 cf "law" [] 0 40 [some v_script, none, none, none, none, none, none, none, none, none, none, none] = (do let hands2 ← (do let vs1 ← eachM [(cf "_law_cell_at" [v_script, .int 2])]; cf "_law_hands_by" vs1); (do let start4 ← (do let vs3 ← eachM [(cf "_law_cell_at" [v_script, .int 0])]; cf "_law_start_by" vs3); (do let cell5 ← (cf "_law_cell_at" [v_script, .int 1]); (do let kind8 ← (do let x6 ← (newL false [.str "marks", .str "bare", .str "new"]); let x7 ← (pBin false .Mod cell5 (.int 3)); pItem x6 x7); (do let state11 ← (do let x10 ← (do let vs9 ← eachM [pure start4, (cf "_law_programs_by" [v_script, hands2]), (cf "_law_weaving_by" [v_script, hands2]), pure kind8]; cf "woven" vs9); pItem x10 (.int 0)); (do let rows12 ← (cf "rows_of" [state11]); (do let c13 ← (do let t14 ← (do let v15 ← (pBI false .len [rows12]); pCmp .Gt v15 (.int 7)); match t14 with | false => pure false | true => (do let t16 ← (do let b17 ← (do let v26 ← (do let vs25 ← eachM [pure start4, (do let o18 ← pure rows12; let i19 ← pure none; let j20 ← (do let q23 ← (do let x22 ← (do let x21 ← (pBin false .FloorDiv cell5 (.int 3)); pBin false .Mod x21 (.int 9)); pBin false .Add (.int 8) x22); let k24 ← intM q23; pure (some k24)); pSlice false o18 i19 j20)]; cf "_law_refused" vs25); truth v26); pure (!b17)); match t16 with | false => pure false | true => pure true)); match c13 with | true => (do let r ← pure (.ret (.bool false)); goOn (tl P13 cf "law" [] 7 33) r) | false => (do let r ← pure (.next [some v_script, some hands2, some start4, some cell5, some kind8, some state11, some rows12, none, none, none, none, none]); goOn (tl P13 cf "law" [] 7 33) r)))))))) := by kernel_rfl
theorem c_law_t_7 (cf : Str → List AV → M AV) (v_cell v_rows : AV) (o_script o_hands o_start o_kind o_state o_at o_odd o_due o_handed o_turn : Option AV) : tl P13 cf "law" [] 7 33 [o_script, o_hands, o_start, some v_cell, o_kind, o_state, some v_rows, o_at, o_odd, o_due, o_handed, o_turn] = (do let rows13 ← (do let o1 ← (do let o4 ← pure v_rows; let i5 ← (do let q8 ← (do let x7 ← (pBin false .FloorDiv v_cell (.int 4)); pBin false .Mod x7 (.int 3)); let k9 ← intM q8; pure (some k9)); let j6 ← pure none; pSlice false o4 i5 j6); let i2 ← pure none; let j3 ← (do let q11 ← (do let x10 ← (pBin false .FloorDiv v_cell (.int 27)); pBin false .Mod x10 (.int 8)); let k12 ← intM q11; pure (some k12)); pSlice false o1 i2 j3); (do let c14 ← (do let v17 ← (do let x16 ← (pBin false .FloorDiv v_cell (.int 216)); pBin false .Mod x16 (.int 2)); pCmp .Eq v17 (.int 1)); match c14 with | true => (do let r ← (do let rows15 ← (pRev false rows13); pure (.next [o_script, o_hands, o_start, some v_cell, o_kind, o_state, some rows15, o_at, o_odd, o_due, o_handed, o_turn])); goOn (tl P13 cf "law" [] 9 31) r) | false => (do let r ← pure (.next [o_script, o_hands, o_start, some v_cell, o_kind, o_state, some rows13, o_at, o_odd, o_due, o_handed, o_turn]); goOn (tl P13 cf "law" [] 9 31) r))) := by kernel_rfl
theorem c_law_t_9 (cf : Str → List AV → M AV) (v_cell v_rows : AV) (o_script o_hands o_start o_kind o_state o_at o_odd o_due o_handed o_turn : Option AV) : tl P13 cf "law" [] 9 31 [o_script, o_hands, o_start, some v_cell, o_kind, o_state, some v_rows, o_at, o_odd, o_due, o_handed, o_turn] = (do let at4 ← (do let x2 ← (pBin false .FloorDiv v_cell (.int 432)); let x3 ← (do let x1 ← (pBI false .len [v_rows]); pBin false .Add x1 (.int 1)); pBin false .Mod x2 x3); (do let rows17 ← (do let x15 ← (do let o5 ← pure v_rows; let i6 ← (do let q8 ← pure at4; let k9 ← intM q8; pure (some k9)); let j7 ← pure none; pSlice false o5 i6 j7); let x16 ← (do let o10 ← pure v_rows; let i11 ← pure none; let j12 ← (do let q13 ← pure at4; let k14 ← intM q13; pure (some k14)); pSlice false o10 i11 j12); pBin true .Add x15 x16); (do let c18 ← (do let t40 ← ((do let c41 ← (newL false []); pCmp .NotEq rows17 c41)); match t40 with | false => pure false | true => (do let t42 ← (do let v44 ← (do let x43 ← (pBin false .FloorDiv v_cell (.int 4096)); pBin false .Mod x43 (.int 2)); pCmp .Eq v44 (.int 1)); match t42 with | false => pure false | true => pure true)); match c18 with | true => (do let r ← (do let at21 ← (do let x19 ← (pBin false .FloorDiv v_cell (.int 8192)); let x20 ← (pBI false .len [rows17]); pBin false .Mod x19 x20); (do let odd25 ← (do let x23 ← (newL false [.none, .tup [], .int 0, .int 1, .int (-1)]); let x24 ← (do let x22 ← (pBin false .FloorDiv v_cell (.int 65536)); pBin false .Mod x22 (.int 5)); pItem x23 x24); (do let v39 ← (do let x37 ← (do let o26 ← (pItem rows17 at21); let i27 ← pure none; let j28 ← pure (some 5); pSlice false o26 i27 j28); let x38 ← (do let vs36 ← eachM [(do let x34 ← (do let vs32 ← eachM [(do let x29 ← (pItem rows17 at21); pItem x29 (.int 5)), (do let x31 ← (do let x30 ← (pItem rows17 at21); pItem x30 (.int 4)); pBin false .Add x31 (.int 9))]; newL false vs32); let x35 ← (do let x33 ← (pBin false .FloorDiv v_cell (.int 327680)); pBin false .Mod x33 (.int 2)); pItem x34 x35), pure odd25]; pure (.tup vs36)); pBin false .Add x37 x38); pStore rows17 at21 v39; pure (.next [o_script, o_hands, o_start, some v_cell, o_kind, o_state, some rows17, some at21, some odd25, o_due, o_handed, o_turn])))); goOn (tl P13 cf "law" [] 12 28) r) | false => (do let r ← pure (.next [o_script, o_hands, o_start, some v_cell, o_kind, o_state, some rows17, some at4, o_odd, o_due, o_handed, o_turn]); goOn (tl P13 cf "law" [] 12 28) r)))) := by kernel_rfl
theorem c_law_t_12 (cf : Str → List AV → M AV) (v_start v_rows : AV) (o_script o_hands o_cell o_kind o_state o_at o_odd o_due o_handed o_turn : Option AV) : tl P13 cf "law" [] 12 28 [o_script, o_hands, some v_start, o_cell, o_kind, o_state, some v_rows, o_at, o_odd, o_due, o_handed, o_turn] = (do let due4 ← (do let vs3 ← eachM [(do let vs2 ← eachM [(do let vs1 ← eachM [(pBI false .len [v_rows])]; pBI false .range vs1)]; pBI false .list vs2), pure v_start, pure v_rows]; cf "_law_least" vs3); (do let handed6 ← (do let vs5 ← eachM [(pBI false .list [v_start]), (pBI false .list [v_rows])]; newL false vs5); (do let it7 ← (pBI false .range [.int 2]); let src8 ← srcOf it7; let r ← forLoop src8 (forB P13 cf "law" [] 14 25) FUEL 0 [o_script, o_hands, some v_start, o_cell, o_kind, o_state, some v_rows, o_at, o_odd, some due4, some handed6, o_turn]; goOn (tl P13 cf "law" [] 15 25) r))) := by kernel_rfl
theorem c_law_t_15 (cf : Str → List AV → M AV) (v_start v_rows v_handed : AV) (o_script o_hands o_cell o_kind o_state o_at o_odd o_due o_turn : Option AV) : tl P13 cf "law" [] 15 25 [o_script, o_hands, some v_start, o_cell, o_kind, o_state, some v_rows, o_at, o_odd, o_due, some v_handed, o_turn] = (do let y3 ← (do let b1 ← (do let c2 ← (newL false [v_start, v_rows]); pCmp .Eq v_handed c2); pure (.bool b1)); pure (.ret y3)) := by kernel_rfl
theorem c_law_for_14 (cf : Str → List AV → M AV) (v_due v_handed : AV) (o_script o_hands o_start o_cell o_kind o_state o_rows o_at o_odd o_turn : Option AV) (a : AV) : forB P13 cf "law" [] 14 25 a [o_script, o_hands, o_start, o_cell, o_kind, o_state, o_rows, o_at, o_odd, some v_due, some v_handed, o_turn] = (do let c1 ← (do let b2 ← (do let v5 ← (do let vs4 ← eachM [(do let vs3 ← eachM [(pItem v_handed (.int 0)), (pItem v_handed (.int 1))]; cf "order_of" vs3), pure v_due]; cf "_law_alike" vs4); truth v5); pure (!b2)); match c1 with | true => (do let r ← pure (.ret (.bool false)); goOn (fun σ => pure (.next σ)) r) | false => (do let r ← pure (.next [o_script, o_hands, o_start, o_cell, o_kind, o_state, o_rows, o_at, o_odd, some v_due, some v_handed, some a]); goOn (fun σ => pure (.next σ)) r)) := by kernel_rfl
end Mine


set_option autoImplicit false
set_option linter.unusedVariables false
set_option maxRecDepth 100000
namespace Mine
open PySem PyProof.Rows
section
variable {H₀ H : AHeap} {c : Cn}

theorem s_head_of (n : Nat) (F : Foc H₀ H c) : callP P13 (n + 1) "head_of" [.loc c.st] H = some (.ok (.tup [c.head, .int c.mark]), H) := by
  refine callR (σ := [some (.loc c.st)]) (by kernel_rfl) (by kernel_rfl) (by kernel_rfl) ?_
  rw [c_head_of_0]
  refine Rn.val (.bind (.bind ?_))
  exact .eachE F.gHead (.eachE F.gMark (.each0 (.pure (.pure ⟨rfl, rfl⟩))))

noncomputable def Ix (a : AV) : Prop := a = .none ∨ ∃ i : Nat, a = .int i
noncomputable def eqIx : AV → AV → Bool
  | .none, .none => true
  | .int i, .int j => decide (i = j)
  | _, _ => false
theorem ne_ix {a b : AV} (ha : Ix a) (hb : Ix b) : pCmp .NotEq a b = pure (!eqIx a b) := by
  obtain rfl | ⟨i, rfl⟩ := ha <;> obtain rfl | ⟨j, rfl⟩ := hb
  · rfl
  · rfl
  · rfl
  · show (do let r ← pCmp .Eq (.int i) (.int j); pure (!r)) = _
    rw [e_eqi]; rfl
noncomputable def Kd (k : Str) : Prop := k = "marks" ∨ k = "bare" ∨ k = "new"
theorem kd_marks {k : Str} (h : Kd k) : pCmp .NotEq (.str k) (.str "marks") = pure (decide (k ≠ "marks")) := by
  obtain rfl | rfl | rfl := h <;> kernel_rfl
theorem kd_new {k : Str} (h : Kd k) : pCmp .Eq (.str k) (.str "new") = pure (decide (k = "new")) := by
  obtain rfl | rfl | rfl := h <;> kernel_rfl
noncomputable def stillB (c : Cn) (x : AV) (m : Int) : Bool := eqIx c.head x && (decide (c.kind ≠ "marks") || decide (c.mark = m))

theorem s_is_still (n : Nat) (F : Foc H₀ H c) {x : AV} {m : Int} (hk : Kd c.kind) (hh : Ix c.head) (hx : Ix x) (hs : c.seen = .tup [x, .int m]) :
    callP P13 (n + 1) "is_still" [.loc c.st, .loc c.w] H = some (.ok (.bool (stillB c x m)), H) := by
  refine callR (σ := [some (.loc c.st), some (.loc c.w)]) (by kernel_rfl) (by kernel_rfl) (by kernel_rfl) ?_
  have g := F.gSeen
  rw [hs] at g
  rw [c_is_still_0]
  refine Rn.val (.bind (.bof F.gHead (.bind (.bof g ?_))))
  rw [e_itT (k := 0) (a := x) rfl]
  refine .pure ?_
  rw [ne_ix hh hx]
  refine .pure ?_
  unfold stillB
  cases eqIx c.head x with
  | false => exact .pure ⟨rfl, rfl⟩
  | true =>
    show Rn (tl P13 _ "is_still" [] 1 39 _) H _
    rw [c_is_still_t_1]
    refine .bind (.bind (.bof F.gKind ?_))
    rw [kd_marks hk]
    refine .pure ?_
    rw [e_truth, pure_bind]
    cases decide (c.kind ≠ "marks") with
    | true => exact .pure (.pure ⟨rfl, rfl⟩)
    | false =>
      refine .bof F.gMark (.bind (.bind (.bof g ?_)))
      rw [e_itT (k := 1) (a := .int m) rfl]
      refine .pure ?_
      rw [e_eqi]
      exact .pure (.pure (.pure ⟨rfl, rfl⟩))

theorem s_put_below (n : Nat) (F : Foc H₀ H c) {i : Nat} {v u bel : AV} (hi : c.boxes[i]? = some (.tup [v, u])) :
    Rn (callP P13 (n + 1) "put_below" [.loc c.st, .int i, bel]) H fun a H' => Foc H₀ H' (c.u_boxes (c.boxes.set i (.tup [v, bel]))) := by
  refine callRn (σ := [some (.loc c.st), some (.int i), some bel]) (by kernel_rfl) (by kernel_rfl) (by kernel_rfl) ?_
  rw [c_put_below_0]
  refine .bind (.bind (.eachC (.bind (.bof F.gBoxes (.of (item_loc F.b hi) ?_)))))
  rw [e_itT (k := 0) (a := v) rfl]
  refine .pure (.eachP (.each0 (.pure (.bof F.gBoxes ?_))))
  exact .then (F.wBox (List.getElem?_eq_some_iff.mp hi).1 _) fun u_ H1 F1 => .pure F1

noncomputable def row0 (c : Cn) (num : Nat) : AV := .tup [.int num, .int c.place, c.deed, .int c.begun, .int c.time, .none, .none]
theorem s_point (n : Nat) (F : Foc H₀ H c) {num : Nat} (hn : c.hs[num]? = some (.loc c.hd)) (hl : c.rows.length < 100000) :
    Rn (callP P13 (n + 1) "come_to_point" [.loc c.st, .int num, .loc c.w]) H fun a H' => Foc H₀ H' ((c.u_row (.int c.rows.length)).u_rows (c.rows ++ [row0 c num])) := by
  refine callRn (σ := [some (.loc c.st), some (.int num), some (.loc c.w), none]) (by kernel_rfl) (by kernel_rfl) (by kernel_rfl) ?_
  rw [c_come_to_point_0]
  refine .bind (.bof F.gHands (.of (item_loc F.h hn) ?_))
  refine .bind (.bind (.eachE F.gRows (.each0 (.of (len_loc F.r) ?_))))
  refine .then (F.wRow _) fun u_ H1 F1 => ?_
  refine .bind (.bof F1.gRows (.bof (listOf_loc F1.r) ?_))
  refine .bind (.eachC (.bind (.eachP (.eachE F1.gPlace (.eachE F1.gDeed (.eachE F1.gBegun (.eachE F1.gTime (.eachP (.eachP (.each0 (.pure (.each0 ?_))))))))))))
  exact Rn.mono (F1.aRows hl (row0 c num)) fun u_ H2 F2 => .pure F2

theorem s_end_t (n : Nat) (F : Foc H₀ H c) {num k : Nat} {ans a1 a2 a3 a4 a5 a6 a7 : AV} {o : Option AV} (hn : c.hs[num]? = some (.loc c.hd)) (hr : c.row = .int k) (hk : c.rows[k]? = some (.tup [a1, a2, a3, a4, a5, a6, a7])) :
    Rn (tl P13 (callP P13 n) "end" [] 1 39 [some (.loc c.st), some (.int num), some (.loc c.w), some ans, o]) H fun r H' => (∃ σ, r = .next σ) ∧ Foc H₀ H' (((c.u_rows (c.rows.set k (.tup [a1, a2, a3, a4, a5, .int c.time, ans]))).u_place (c.place + 1)).u_wv .none) := by
  have g := F.gRow
  rw [hr] at g
  have L := LIMis
  rw [c_end_t_1]
  refine .bind (.bof F.gRows (.bof g (.of (item_loc F.r hk) ?_)))
  refine .bind (.bind ?_)
  simp only [pure_bind]
  rw [show pSlice false (.tup [a1, a2, a3, a4, a5, a6, a7]) none (some 5) = pure (.tup [a1, a2, a3, a4, a5]) from rfl]
  refine .pure (.bind (.bind (.eachE F.gTime (.eachP (.each0 (.pure ?_))))))
  rw [m_tup (by show 7 ≤ LIM; (first | lia | omega))]
  refine .pure (.bof F.gRows (.bof g ?_))
  refine .then (F.wRows (List.getElem?_eq_some_iff.mp hk).1 _) fun u_ H1 F1 => ?_
  refine .bind (.bind (.bind (.bof F1.gHands (.of (item_loc F1.h hn) (.of F1.gPlace ?_)))))
  rw [m_add]
  refine .pure (.bind (.bof F1.gHands (.of (item_loc F1.h hn) ?_)))
  refine .then (F1.wPlace _) fun u_ H2 F2 => ?_
  refine .bind (.bof F2.gHands (.of (item_loc F2.h hn) ?_))
  exact .then (F2.wWork _) fun u_ H3 F3 => .pure ⟨⟨_, rfl⟩, F3⟩

theorem s_end_old (n : Nat) (F : Foc H₀ H c) {num k : Nat} {ans a1 a2 a3 a4 a5 a6 a7 : AV} (hn : c.hs[num]? = some (.loc c.hd)) (hr : c.row = .int k) (hk : c.rows[k]? = some (.tup [a1, a2, a3, a4, a5, a6, a7])) :
    Rn (callP P13 (n + 1) "end" [.loc c.st, .int num, .loc c.w, ans]) H fun a H' => Foc H₀ H' (((c.u_rows (c.rows.set k (.tup [a1, a2, a3, a4, a5, .int c.time, ans]))).u_place (c.place + 1)).u_wv .none) := by
  refine callRn (σ := [some (.loc c.st), some (.int num), some (.loc c.w), some ans, none]) (by kernel_rfl) (by kernel_rfl) (by kernel_rfl) ?_
  have g := F.gRow
  rw [hr] at g
  rw [c_end_0]
  refine .bind (.bof g ?_)
  rw [show pCmp .Is (.int (k : Int)) .none = pure false from rfl]
  refine .pure (.bind (.pure ?_))
  refine Rn.mono (s_end_t n F hn hr hk) ?_
  rintro r H' ⟨⟨σ, rfl⟩, F'⟩
  exact F'
theorem s_end_new (n : Nat) (F : Foc H₀ H c) {num : Nat} {ans : AV} (hn : c.hs[num]? = some (.loc c.hd)) (hr : c.row = .none) (hl : c.rows.length < 100000) :
    Rn (callP P13 (n + 2) "end" [.loc c.st, .int num, .loc c.w, ans]) H fun a H' => Foc H₀ H' ((((c.u_row (.int c.rows.length)).u_rows (c.rows ++ [.tup [.int num, .int c.place, c.deed, .int c.begun, .int c.time, .int c.time, ans]])).u_place (c.place + 1)).u_wv .none) := by
  refine callRn (σ := [some (.loc c.st), some (.int num), some (.loc c.w), some ans, none]) (by kernel_rfl) (by kernel_rfl) (by kernel_rfl) ?_
  have g := F.gRow
  rw [hr] at g
  rw [c_end_0]
  refine .bind (.bof g ?_)
  rw [show pCmp .Is AV.none .none = pure true from rfl]
  refine .pure (.bind (.then (s_point n F hn hl) fun u_ H1 F1 => .pure ?_))
  refine Rn.mono (s_end_t (n + 1) F1 (k := c.rows.length) (a1 := .int num) (a2 := .int c.place) (a3 := c.deed) (a4 := .int c.begun) (a5 := .int c.time) (a6 := .none) (a7 := .none) hn rfl (by show (c.rows ++ [row0 c num])[c.rows.length]? = _; simp [row0])) ?_
  rintro r H' ⟨⟨σ, rfl⟩, F'⟩
  have e : (c.rows ++ [row0 c num]).set c.rows.length (.tup [.int num, .int c.place, c.deed, .int c.begun, .int c.time, .int c.time, ans]) = c.rows ++ [.tup [.int num, .int c.place, c.deed, .int c.begun, .int c.time, .int c.time, ans]] := by simp
  have F2 : Foc H₀ H' ((((c.u_row (.int c.rows.length)).u_rows ((c.rows ++ [row0 c num]).set c.rows.length (.tup [.int num, .int c.place, c.deed, .int c.begun, .int c.time, .int c.time, ans]))).u_place (c.place + 1)).u_wv .none) := F'
  rw [e] at F2
  exact F2
end
end Mine


set_option autoImplicit false
set_option linter.unusedVariables false
set_option maxRecDepth 100000
namespace Mine
open PySem PyProof.Rows
section
variable {H₀ H : AHeap} {c : Cn}

theorem s_take_t (n : Nat) (F : Foc H₀ H c) {w : Str} {v : AV} {i : Nat} (hd : c.deed = .tup [.str w, v]) (hi : i < c.boxes.length) :
    Rn (tl P13 (callP P13 n) "take" [] 1 39 [some (.loc c.st), some (.loc c.w), some (.int i)]) H fun r H' => r = .ret (.tup [.str "take", .int i]) ∧ Foc H₀ H' (((c.u_boxes (c.boxes.set i (.tup [v, .none]))).u_own (.int i)).u_next "look") := by
  have g := F.gDeed
  rw [hd] at g
  rw [c_take_t_1]
  refine .bind (.bind (.eachC (.bof g ?_)))
  rw [e_itT (k := 1) (a := v) rfl]
  refine .pure (.eachP (.each0 (.pure (.bof F.gBoxes ?_))))
  refine .then (F.wBox hi _) fun u_ H1 F1 => ?_
  refine .then (F1.wOwn _) fun u_ H2 F2 => ?_
  exact .then (F2.wNext _) fun u_ H3 F3 => .pure ⟨rfl, F3⟩

noncomputable def SpOk (c : Cn) : Prop := ∀ x ∈ c.spare, ∃ i : Nat, x = .int i ∧ i < c.boxes.length
theorem SpOk.rd (h : SpOk c) (H : AHeap) : ∀ x ∈ c.spare, ∃ d, rd H 7 x = some d := fun x hx => by
  obtain ⟨i, rfl, _⟩ := h x hx
  exact ⟨_, rd_int⟩

theorem s_take_new (n : Nat) (F : Foc H₀ H c) {w : Str} {v : AV} (hk : Kd c.kind) (hs : SpOk c) (hd : c.deed = .tup [.str w, v]) (hl : c.boxes.length < 100000) (hn : c.kind = "new" ∨ c.spare = []) :
    Rn (callP P13 (n + 1) "take" [.loc c.st, .loc c.w]) H fun a H' => a = .tup [.str "take", .int c.boxes.length] ∧ Foc H₀ H' (((c.u_boxes (c.boxes ++ [.tup [v, .none]])).u_own (.int c.boxes.length)).u_next "look") := by
  refine callRn (σ := [some (.loc c.st), some (.loc c.w), none]) (by kernel_rfl) (by kernel_rfl) (by kernel_rfl) ?_
  have tail : Rn (do let r ← (do let box3 ← (do let vs2 ← eachM [(pItem (.loc c.st) (.str "boxes"))]; pBI false .len vs2); (do let _ ← (do let o4 ← (pItem (.loc c.st) (.str "boxes")); let _ ← listOf o4; (pMeth "append" o4 [.none])); pure (.next [some (.loc c.st), some (.loc c.w), some box3]))); goOn (tl P13 (callP P13 n) "take" [] 1 39) r) H
      (Fl (fun u_ H' => AV.none = .tup [.str "take", .int c.boxes.length] ∧ Foc H₀ H' (((c.u_boxes (c.boxes ++ [.tup [v, .none]])).u_own (.int c.boxes.length)).u_next "look")) fun a H' => a = .tup [.str "take", .int c.boxes.length] ∧ Foc H₀ H' (((c.u_boxes (c.boxes ++ [.tup [v, .none]])).u_own (.int c.boxes.length)).u_next "look")) := by
    refine .bind (.bind (.bind (.eachE F.gBoxes (.each0 (.of (len_loc F.b) ?_)))))
    refine .bind (.bof F.gBoxes (.bof (listOf_loc F.b) ?_))
    refine Rn.mono (F.aBox hl .none) fun u_ H1 F1 => .pure ?_
    refine Rn.mono (s_take_t n F1 (w := w) (v := v) (i := c.boxes.length) hd (by show _ < (c.boxes ++ [AV.none]).length; simp)) ?_
    rintro r H' ⟨rfl, F'⟩
    refine ⟨rfl, ?_⟩
    have e : (c.boxes ++ [AV.none]).set c.boxes.length (.tup [v, .none]) = c.boxes ++ [.tup [v, .none]] := by simp
    have F2 : Foc H₀ H' (((c.u_boxes ((c.boxes ++ [AV.none]).set c.boxes.length (.tup [v, .none]))).u_own (.int c.boxes.length)).u_next "look") := F'
    rw [e] at F2
    exact F2
  rw [c_take_0]
  refine .bind (.bind (.bof F.gKind ?_))
  rw [kd_new hk]
  refine .pure ?_
  by_cases hnew : c.kind = "new"
  · rw [decide_eq_true hnew]
    exact .pure tail
  · rw [decide_eq_false hnew]
    have hsp : c.spare = [] := hn.resolve_left hnew
    refine .bind (.bof F.gSpare ?_)
    rw [e_newL (by simp), pure_bind]
    refine .of (eq_nil_loc F.sp (hs.rd H)) ?_
    rw [hsp]
    exact .pure tail

theorem s_take_pop (n : Nat) (F : Foc H₀ H c) {w : Str} {v : AV} {i : Nat} {xs : List AV} (hk : Kd c.kind) (hs : SpOk c) (hd : c.deed = .tup [.str w, v]) (hn : c.kind ≠ "new") (hx : c.spare = xs ++ [.int i]) :
    Rn (callP P13 (n + 1) "take" [.loc c.st, .loc c.w]) H fun a H' => a = .tup [.str "take", .int i] ∧ Foc H₀ H' ((((c.u_spare xs).u_boxes (c.boxes.set i (.tup [v, .none]))).u_own (.int i)).u_next "look") := by
  refine callRn (σ := [some (.loc c.st), some (.loc c.w), none]) (by kernel_rfl) (by kernel_rfl) (by kernel_rfl) ?_
  rw [c_take_0]
  refine .bind (.bind (.bof F.gKind ?_))
  rw [kd_new hk]
  refine .pure ?_
  rw [decide_eq_false hn]
  refine .bind (.bof F.gSpare ?_)
  rw [e_newL (by simp), pure_bind]
  refine .of (eq_nil_loc F.sp (hs.rd H)) ?_
  rw [show c.spare.isEmpty = false from by rw [hx]; simp]
  refine .pure (.bind (.bind (.bof F.gSpare (.bof (listOf_loc F.sp) ?_))))
  refine Rn.mono (F.pSpare hx) ?_
  rintro a H1 ⟨rfl, F1⟩
  refine .pure ?_
  have hi : i < c.boxes.length := by
    obtain ⟨j, h1, h2⟩ := hs (.int i) (by rw [hx]; simp)
    cases h1
    exact h2
  refine Rn.mono (s_take_t n F1 (w := w) (v := v) (i := i) hd hi) ?_
  rintro r H' ⟨rfl, F'⟩
  exact ⟨rfl, F'⟩

noncomputable def Wd (w : Str) : Prop := w = "push" ∨ w = "swap" ∨ w = "pop" ∨ w = "top" ∨ w = "clear"
theorem Wd.ok {w : Str} (h : Wd w) : PyData.strOk w = true := by obtain rfl | rfl | rfl | rfl | rfl := h <;> kernel_rfl
noncomputable def blk (w : Str) : Str := if w = "push" ∨ w = "clear" then "put" else "see"
noncomputable def bse (w : Str) : Str := if w = "top" then "check" else "put"
noncomputable def fst (w : Str) : Str := if w = "push" ∨ w = "swap" then "take" else "look"
theorem g_look {w : Str} (h : Wd w) : pItem g_BEHIND_LOOK (.str w) = pure (.str (blk w)) := by obtain rfl | rfl | rfl | rfl | rfl := h <;> kernel_rfl
theorem g_first {w : Str} (h : Wd w) : pItem g_FIRST (.str w) = pure (.str (fst w)) := by obtain rfl | rfl | rfl | rfl | rfl := h <;> kernel_rfl
theorem g_see {w : Str} (h : w = "swap" ∨ w = "pop" ∨ w = "top") : pItem g_BEHIND_SEE (.str w) = pure (.str (bse w)) := by obtain rfl | rfl | rfl := h <;> kernel_rfl

noncomputable def tLook (c : Cn) : AV := .tup [.str "look", c.head, .int c.mark]
noncomputable def cLook (c : Cn) (w : Str) : Cn := (c.u_seen (.tup [c.head, .int c.mark])).u_next (blk w)

theorem s_look_go (n : Nat) (F : Foc H₀ H c) {num : Nat} {w : Str} {r : List AV} {Q : AV → AHeap → Prop} (hw : Wd w) (hd : c.deed = .tup (.str w :: r))
    (h : ∀ H', Foc H₀ H' (cLook c w) → Rn (match decide (w = "push") with
      | true => (do let r ← (do let _ ← (do let vs8 ← eachM [pure (.loc c.st), (pItem (.loc c.w) (.str "own")), (pItem (.loc c.st) (.str "head"))]; callP P13 (n + 1) "put_below" vs8); pure (.next [some (.loc c.st), some (.int num), some (.loc c.w), some (.str w), some (tLook c), none])); goOn (tl P13 (callP P13 (n + 1)) "look" [] 5 35) r)
      | false => (do let r ← (do let c9 ← (do let v13 ← (pItem (.loc c.st) (.str "head")); pCmp .Is v13 (.none)); match c9 with | true => (do let r ← (do let c10 ← (pCmp .Eq (.str w) (.str "swap")); match c10 with | true => (do let r ← (do let _ ← (do let o11 ← (pItem (.loc c.st) (.str "spare")); let _ ← listOf o11; (do let vs12 ← eachM [(pItem (.loc c.w) (.str "own"))]; pMeth "append" o11 vs12)); pure (.next [some (.loc c.st), some (.int num), some (.loc c.w), some (.str w), some (tLook c), none])); goOn (tl P13 (callP P13 (n + 1)) "look" [(4, 1), (0, 0)] 1 33) r) | false => (do let r ← pure (.next [some (.loc c.st), some (.int num), some (.loc c.w), some (.str w), some (tLook c), none]); goOn (tl P13 (callP P13 (n + 1)) "look" [(4, 1), (0, 0)] 1 33) r)); goOn (fun σ => pure (.next σ)) r) | false => (do let r ← pure (.next [some (.loc c.st), some (.int num), some (.loc c.w), some (.str w), some (tLook c), none]); goOn (fun σ => pure (.next σ)) r)); goOn (tl P13 (callP P13 (n + 1)) "look" [] 5 35) r)) H' (Fl (fun u_ H' => Q .none H') Q)) :
    Rn (callP P13 (n + 2) "look" [.loc c.st, .int num, .loc c.w]) H Q := by
  refine callRn (σ := [some (.loc c.st), some (.int num), some (.loc c.w), none, none, none]) (by kernel_rfl) (by kernel_rfl) (by kernel_rfl) ?_
  have g := F.gDeed
  rw [hd] at g
  rw [c_look_0]
  refine .bind (.bof g ?_)
  rw [e_it0]
  refine .pure (.bof (s_head_of n F) ?_)
  refine .then (F.wSeen _) fun u_ H1 F1 => ?_
  rw [g_look hw, pure_bind]
  refine .then (F1.wNext _) fun u_ H2 F2 => ?_
  refine .bind (.bind (.eachP (.eachE F2.gHead (.eachE F2.gMark (.each0 (.pure ?_))))))
  rw [e_eqs hw.ok (by kernel_rfl), pure_bind]
  exact h H2 F2

theorem s_look_push (n : Nat) (F : Foc H₀ H c) {num o : Nat} {r : List AV} {v u : AV} (hd : c.deed = .tup (.str "push" :: r)) (ho : c.own = .int o) (hb : c.boxes[o]? = some (.tup [v, u])) :
    Rn (callP P13 (n + 2) "look" [.loc c.st, .int num, .loc c.w]) H fun a H' => a = tLook c ∧ Foc H₀ H' ((cLook c "push").u_boxes (c.boxes.set o (.tup [v, c.head]))) := by
  refine s_look_go n F (.inl rfl) hd fun H1 F1 => ?_
  rw [decide_eq_true rfl]
  have g := F1.gOwn
  rw [show (cLook c "push").own = .int o from ho] at g
  refine .bind (.bind (.bind (.eachP (.eachE g (.eachE F1.gHead (.each0 ?_))))))
  refine Rn.mono (s_put_below n F1 (i := o) (v := v) (u := u) hb) fun u_ H2 F2 => .pure ?_
  show Rn (tl P13 _ "look" [] 5 35 _) _ _
  rw [c_look_t_5]
  exact .pure ⟨rfl, F2⟩

theorem s_look_some (n : Nat) (F : Foc H₀ H c) {num i : Nat} {w : Str} {r : List AV} (hw : Wd w) (hp : w ≠ "push") (hd : c.deed = .tup (.str w :: r)) (hh : c.head = .int i) :
    Rn (callP P13 (n + 2) "look" [.loc c.st, .int num, .loc c.w]) H fun a H' => a = tLook c ∧ Foc H₀ H' (cLook c w) := by
  refine s_look_go n F hw hd fun H1 F1 => ?_
  rw [decide_eq_false hp]
  have g := F1.gHead
  rw [show (cLook c w).head = .int i from hh] at g
  refine .bind (.bind (.bof g ?_))
  rw [show pCmp .Is (.int (i : Int)) .none = pure false from rfl]
  refine .pure (.pure ?_)
  show Rn (tl P13 _ "look" [] 5 35 _) _ _
  rw [c_look_t_5]
  exact .pure ⟨rfl, F1⟩

noncomputable def endNew (c : Cn) (num : Nat) (ans : AV) : Cn := ((((c.u_row (.int c.rows.length)).u_rows (c.rows ++ [.tup [.int num, .int c.place, c.deed, .int c.begun, .int c.time, .int c.time, ans]])).u_place (c.place + 1)).u_wv .none)
noncomputable def cLookN (c : Cn) (w : Str) : Cn := if w = "swap" then (cLook c w).u_spare (c.spare ++ [c.own]) else cLook c w
theorem s_look_none (n : Nat) (F : Foc H₀ H c) {num : Nat} {w : Str} {r : List AV} (hw : Wd w) (hp : w ≠ "push") (hd : c.deed = .tup (.str w :: r)) (hh : c.head = .none) (hn : c.hs[num]? = some (.loc c.hd)) (hr : c.row = .none) (hl : c.rows.length < 100000) (hl2 : c.spare.length < 100000) :
    Rn (callP P13 (n + 3) "look" [.loc c.st, .int num, .loc c.w]) H fun a H' => a = tLook c ∧ Foc H₀ H' (endNew (cLookN c w) num (if w = "clear" then .tup [] else .none)) := by
  refine s_look_go (n + 1) F hw hd fun H1 F1 => ?_
  rw [decide_eq_false hp]
  have g := F1.gHead
  rw [show (cLook c w).head = .none from hh] at g
  have tail : ∀ (H2 : AHeap), Foc H₀ H2 (cLookN c w) → Rn (tl P13 (callP P13 (n + 2)) "look" [(4, 1), (0, 0)] 1 33 [some (.loc c.st), some (.int num), some (.loc c.w), some (.str w), some (tLook c), none]) H2 fun r H' => (∃ o1 o2 o3 o4 o5, r = .next [o1, o2, o3, o4, some (tLook c), o5]) ∧ Foc H₀ H' (endNew (cLookN c w) num (if w = "clear" then .tup [] else .none)) := by
    intro H2 F2
    have e1 : (cLookN c w).hs[num]? = some (.loc (cLookN c w).hd) := by unfold cLookN; split <;> exact hn
    have e2 : (cLookN c w).row = .none := by unfold cLookN; split <;> exact hr
    have e3 : (cLookN c w).rows.length < 100000 := by unfold cLookN; split <;> exact hl
    have e4 : (cLookN c w).st = c.st := by unfold cLookN; split <;> rfl
    have e5 : (cLookN c w).w = c.w := by unfold cLookN; split <;> rfl
    have q := fun ans => s_end_new n F2 (num := num) (ans := ans) e1 e2 e3
    rw [e4, e5] at q
    rw [c_look_t41_00_1, e_eqs hw.ok (by kernel_rfl), pure_bind]
    by_cases hc : w = "clear"
    · rw [decide_eq_true hc, if_pos hc]
      refine .bind (.pure ?_)
      show Rn (tl P13 _ "look" [(4, 1), (0, 0)] 3 31 _) _ _
      rw [c_look_t41_00_3]
      exact .then (q _) fun u_ H3 F3 => .pure ⟨⟨_, _, _, _, _, rfl⟩, F3⟩
    · rw [decide_eq_false hc, if_neg hc]
      refine .bind (.pure ?_)
      show Rn (tl P13 _ "look" [(4, 1), (0, 0)] 3 31 _) _ _
      rw [c_look_t41_00_3]
      exact .then (q _) fun u_ H3 F3 => .pure ⟨⟨_, _, _, _, _, rfl⟩, F3⟩
  have fin : ∀ {r' : Res} {H' : AHeap}, (∃ o1 o2 o3 o4 o5, r' = .next [o1, o2, o3, o4, some (tLook c), o5]) ∧ Foc H₀ H' (endNew (cLookN c w) num (if w = "clear" then .tup [] else .none)) →
      Rn (goOn (fun σ => pure (.next σ)) r') H' fun a H1 => Rn (goOn (tl P13 (callP P13 (n + 2)) "look" [] 5 35) a) H1 (Fl (fun u_ H' => AV.none = tLook c ∧ Foc H₀ H' (endNew (cLookN c w) num (if w = "clear" then .tup [] else .none))) fun a H' => a = tLook c ∧ Foc H₀ H' (endNew (cLookN c w) num (if w = "clear" then .tup [] else .none))) := by
    rintro r' H' ⟨⟨o1, o2, o3, o4, o5, rfl⟩, F'⟩
    refine .pure ?_
    show Rn (tl P13 _ "look" [] 5 35 _) _ _
    rw [c_look_t_5]
    exact .pure ⟨rfl, F'⟩
  refine .bind (.bind (.bof g ?_))
  rw [show pCmp .Is AV.none .none = pure true from rfl]
  refine .pure (.bind ?_)
  rw [e_eqs hw.ok (by kernel_rfl), pure_bind]
  by_cases hs : w = "swap"
  · rw [decide_eq_true hs]
    refine .bind (.bind (.bof F1.gSpare (.bof (listOf_loc F1.sp) (.bind (.eachE F1.gOwn (.each0 ?_))))))
    refine Rn.mono (F1.aSpare hl2 _) fun u_ H2 F2 => .pure ?_
    refine Rn.mono (tail H2 ?_) fun r' H' q => fin q
    unfold cLookN
    rw [if_pos hs]
    exact F2
  · rw [decide_eq_false hs]
    refine .bind (.pure ?_)
    refine Rn.mono (tail H1 ?_) fun r' H' q => fin q
    unfold cLookN
    rw [if_neg hs]
    exact F1
end
end Mine


set_option autoImplicit false
set_option linter.unusedVariables false
set_option maxRecDepth 100000
namespace Mine
open PySem PyProof.Rows
section
variable {H₀ H : AHeap} {c : Cn}

noncomputable def cSee (c : Cn) (w : Str) (v b : AV) : Cn := (c.u_inside (.tup [v, b])).u_next (bse w)
theorem s_see_go (n : Nat) (F : Foc H₀ H c) {w : Str} {r : List AV} {i : Nat} {m v b : AV} {Q : AV → AHeap → Prop} (hw : w = "swap" ∨ w = "pop" ∨ w = "top") (hd : c.deed = .tup (.str w :: r)) (hs : c.seen = .tup [.int i, m]) (hb : c.boxes[i]? = some (.tup [v, b]))
    (h : ∀ H', Foc H₀ H' (cSee c w v b) → Rn (match decide (w = "swap") with
      | true => (do let r ← (do let _ ← (do let vs12 ← eachM [pure (.loc c.st), (pItem (.loc c.w) (.str "own")), (do let x11 ← (pItem (.loc c.w) (.str "inside")); pItem x11 (.int 1))]; callP P13 n "put_below" vs12); pure (.next [some (.loc c.st), some (.loc c.w), some (.int i), some (.tup [.str "see", .int i, v, b])])); goOn (tl P13 (callP P13 n) "see" [] 5 35) r)
      | false => (do let r ← pure (.next [some (.loc c.st), some (.loc c.w), some (.int i), some (.tup [.str "see", .int i, v, b])]); goOn (tl P13 (callP P13 n) "see" [] 5 35) r)) H' (Fl (fun u_ H' => Q .none H') Q)) :
    Rn (callP P13 (n + 1) "see" [.loc c.st, .loc c.w]) H Q := by
  refine callRn (σ := [some (.loc c.st), some (.loc c.w), none, none]) (by kernel_rfl) (by kernel_rfl) (by kernel_rfl) ?_
  have g := F.gSeen
  rw [hs] at g
  have hok : PyData.strOk w = true := by obtain rfl | rfl | rfl := hw <;> kernel_rfl
  have L := LIMis
  rw [c_see_0]
  refine .bind (.bof g ?_)
  rw [e_it0]
  refine .pure (.bind (.bof F.gBoxes (.of (item_loc F.b hb) ?_)))
  refine .then (F.wInside _) fun u_ H1 F1 => ?_
  have g1 := F1.gDeed
  rw [show (c.u_inside (.tup [v, b])).deed = .tup (.str w :: r) from hd] at g1
  refine .bind (.bind (.bof g1 ?_))
  rw [e_it0]
  refine .pure ?_
  rw [g_see hw]
  refine .pure ?_
  refine .then (F1.wNext _) fun u_ H2 F2 => ?_
  refine .bind (.bof F2.gInside ?_)
  rw [show ((c.u_inside (.tup [v, b])).u_next (bse w)).inside = .tup [v, b] from rfl, m_tup (by show 4 ≤ LIM; (first | lia | omega))]
  refine .pure ?_
  have g2 := F2.gDeed
  rw [show ((c.u_inside (.tup [v, b])).u_next (bse w)).deed = .tup (.str w :: r) from hd] at g2
  refine .bind (.bind (.bof g2 ?_))
  rw [e_it0]
  refine .pure ?_
  rw [e_eqs hok (by kernel_rfl)]
  refine .pure ?_
  exact h H2 F2

theorem s_see_swap (n : Nat) (F : Foc H₀ H c) {r : List AV} {i o : Nat} {m v b v' b' : AV} (hd : c.deed = .tup (.str "swap" :: r)) (hs : c.seen = .tup [.int i, m]) (hb : c.boxes[i]? = some (.tup [v, b])) (ho : c.own = .int o) (hb' : c.boxes[o]? = some (.tup [v', b'])) :
    Rn (callP P13 (n + 2) "see" [.loc c.st, .loc c.w]) H fun a H' => a = .tup [.str "see", .int i, v, b] ∧ Foc H₀ H' ((cSee c "swap" v b).u_boxes (c.boxes.set o (.tup [v', b]))) := by
  refine s_see_go (n + 1) F (.inl rfl) hd hs hb fun H1 F1 => ?_
  rw [decide_eq_true rfl]
  have g := F1.gOwn
  rw [show (cSee c "swap" v b).own = .int o from ho] at g
  refine .bind (.bind (.bind (.eachP (.eachE g (.eachC (.bof F1.gInside ?_))))))
  rw [show (cSee c "swap" v b).inside = .tup [v, b] from rfl, e_itT (k := 1) (a := b) rfl]
  refine .pure (.each0 ?_)
  refine Rn.mono (s_put_below n F1 (i := o) (v := v') (u := b') hb') fun u_ H2 F2 => .pure ?_
  show Rn (tl P13 _ "see" [] 5 35 _) _ _
  rw [c_see_t_5]
  exact .pure ⟨rfl, F2⟩
theorem s_see (n : Nat) (F : Foc H₀ H c) {w : Str} {r : List AV} {i : Nat} {m v b : AV} (hw : w = "pop" ∨ w = "top") (hd : c.deed = .tup (.str w :: r)) (hs : c.seen = .tup [.int i, m]) (hb : c.boxes[i]? = some (.tup [v, b])) :
    Rn (callP P13 (n + 1) "see" [.loc c.st, .loc c.w]) H fun a H' => a = .tup [.str "see", .int i, v, b] ∧ Foc H₀ H' (cSee c w v b) := by
  refine s_see_go n F (.inr hw) hd hs hb fun H1 F1 => ?_
  rw [decide_eq_false (by obtain rfl | rfl := hw <;> decide)]
  refine .bind (.pure ?_)
  show Rn (tl P13 _ "see" [] 5 35 _) _ _
  rw [c_see_t_5]
  exact .pure ⟨rfl, F1⟩

theorem s_put_no (n : Nat) (F : Foc H₀ H c) {num : Nat} {x : AV} {m : Int} (hk : Kd c.kind) (hh : Ix c.head) (hx : Ix x) (hs : c.seen = .tup [x, .int m]) (hb : stillB c x m = false) :
    Rn (callP P13 (n + 2) "put" [.loc c.st, .int num, .loc c.w]) H fun a H' => a = .tup [.str "put", .bool false] ∧ Foc H₀ H' (c.u_next "look") := by
  refine callRn (σ := [some (.loc c.st), some (.int num), some (.loc c.w), none, none]) (by kernel_rfl) (by kernel_rfl) (by kernel_rfl) ?_
  rw [c_put_0]
  refine .bind (.bind (.bof (s_is_still n F hk hh hx hs) ?_))
  rw [hb, e_truth]
  refine .pure (.pure ?_)
  refine .bind (.then (F.wNext _) fun u_ H1 F1 => .pure ?_)
  exact .pure ⟨rfl, F1⟩

noncomputable def cPut (c : Cn) (w : Str) (num : Nat) (bi v : AV) : Cn :=
  if w = "clear" then ((((((c.u_mark (c.mark + 1)).u_head .none).u_row (.int c.rows.length)).u_rows (c.rows ++ [row0 c num])).u_walk c.head).u_next "walk")
  else if w = "push" then endNew ((c.u_mark (c.mark + 1)).u_head c.own) num .none
  else if w = "pop" then endNew ((((c.u_mark (c.mark + 1)).u_head c.own).u_head bi).u_spare (c.spare ++ [c.head])) num v
  else endNew (((c.u_mark (c.mark + 1)).u_head c.own).u_spare (c.spare ++ [c.head])) num v

theorem s_put_yes (n : Nat) (F : Foc H₀ H c) {num : Nat} {x v bi : AV} {m : Int} {w : Str} {r : List AV} (hw : w = "push" ∨ w = "clear" ∨ w = "swap" ∨ w = "pop") (hk : Kd c.kind) (hh : Ix c.head) (hx : Ix x) (hs : c.seen = .tup [x, .int m]) (hb : stillB c x m = true)
    (hd : c.deed = .tup (.str w :: r)) (hn : c.hs[num]? = some (.loc c.hd)) (hr : c.row = .none) (hl : c.rows.length < 100000) (hl2 : c.spare.length < 100000) (hi : (w = "swap" ∨ w = "pop") → c.inside = .tup [v, bi]) :
    Rn (callP P13 (n + 3) "put" [.loc c.st, .int num, .loc c.w]) H fun a H' => a = .tup [.str "put", .bool true] ∧ Foc H₀ H' (cPut c w num bi v) := by
  refine callRn (σ := [some (.loc c.st), some (.int num), some (.loc c.w), none, none]) (by kernel_rfl) (by kernel_rfl) (by kernel_rfl) ?_
  have hok : PyData.strOk w = true := by obtain rfl | rfl | rfl | rfl := hw <;> kernel_rfl
  rw [c_put_0]
  refine .bind (.bind (.bof (s_is_still (n + 1) F hk hh hx hs) ?_))
  rw [hb, e_truth]
  refine .pure (.pure (.bind (.pure ?_)))
  show Rn (tl P13 _ "put" [] 1 39 _) _ _
  have g := F.gDeed
  rw [hd] at g
  rw [c_put_t_1]
  refine .bind (.bof g ?_)
  rw [e_it0]
  refine .pure (.bof F.gHead (.bind (.bof F.gMark ?_)))
  rw [m_add]
  refine .pure ?_
  refine .then (F.wMark _) fun u_ H1 F1 => ?_
  rw [e_eqs hok (by kernel_rfl), pure_bind]
  have fin : ∀ {o1 o2 o3 o4 o5 : Option AV} {H' : AHeap}, Foc H₀ H' (cPut c w num bi v) → Rn (goOn (tl P13 (callP P13 (n + 2)) "put" [] 5 35) (.next [o1, o2, o3, o4, o5])) H' (Fl (fun u_ H' => AV.none = .tup [.str "put", .bool true] ∧ Foc H₀ H' (cPut c w num bi v)) fun a H' => a = .tup [.str "put", .bool true] ∧ Foc H₀ H' (cPut c w num bi v)) := by
    intro o1 o2 o3 o4 o5 H' F'
    show Rn (tl P13 _ "put" [] 5 35 _) _ _
    rw [c_put_t_5]
    exact .pure ⟨rfl, F'⟩
  by_cases h1 : w = "clear"
  · rw [decide_eq_true h1]
    have e : cPut c w num bi v = ((((((c.u_mark (c.mark + 1)).u_head .none).u_row (.int c.rows.length)).u_rows (c.rows ++ [row0 c num])).u_walk c.head).u_next "walk") := by unfold cPut; rw [if_pos h1]
    refine .bind (.then (F1.wHead _) fun u_ H2 F2 => ?_)
    refine .then (s_point (n + 1) F2 (num := num) hn hl) fun u_ H3 F3 => ?_
    refine .then (F3.wWalk c.head) fun u_ H4 F4 => ?_
    refine .then (F4.wNext _) fun u_ H5 F5 => .pure (fin ?_)
    rw [e]
    exact F5
  · rw [decide_eq_false h1]
    refine .bind ?_
    rw [e_eqs hok (by kernel_rfl), pure_bind]
    by_cases h2 : w = "push"
    · rw [decide_eq_true h2]
      have e : cPut c w num bi v = endNew ((c.u_mark (c.mark + 1)).u_head c.own) num .none := by unfold cPut; rw [if_neg h1, if_pos h2]
      refine .bind (.bof F1.gOwn (.then (F1.wHead _) fun u_ H2 F2 => ?_))
      refine .then (s_end_new n F2 (num := num) (ans := .none) hn hr hl) fun u_ H3 F3 => .pure (.pure (fin ?_))
      rw [e]
      exact F3
    · rw [decide_eq_false h2]
      have h3 : w = "swap" ∨ w = "pop" := by
        rcases hw with h | h | h | h
        · exact absurd h h2
        · exact absurd h h1
        · exact .inl h
        · exact .inr h
      have hin := hi h3
      refine .bind (.bof F1.gOwn (.then (F1.wHead _) fun u_ H2 F2 => ?_))
      rw [e_eqs hok (by kernel_rfl), pure_bind]
      by_cases h4 : w = "pop"
      · rw [decide_eq_true h4]
        have e : cPut c w num bi v = endNew ((((c.u_mark (c.mark + 1)).u_head c.own).u_head bi).u_spare (c.spare ++ [c.head])) num v := by unfold cPut; rw [if_neg h1, if_neg h2, if_pos h4]
        have g2 := F2.gInside
        rw [show (Cn.u_head (c.u_mark (c.mark + 1)) (c.u_mark (c.mark + 1)).own).inside = .tup [v, bi] from hin] at g2
        refine .bind (.bind (.bof g2 ?_))
        rw [e_itT (k := 1) (a := bi) rfl]
        refine .pure (.then (F2.wHead _) fun u_ H3 F3 => .pure ?_)
        show Rn (tl P13 _ "put" [(4, 1), (0, 1)] 2 32 _) _ _
        rw [c_put_t41_01_2]
        refine .bind (.bof F3.gSpare (.bof (listOf_loc F3.sp) ?_))
        refine Rn.mono (F3.aSpare hl2 c.head) fun u_ H4 F4 => ?_
        have g4 := F4.gInside
        refine .bind (.bind (.eachP (.eachP (.eachP (.eachC (.bof g4 ?_))))))
        rw [show (Cn.u_spare (Cn.u_head (Cn.u_head (c.u_mark (c.mark + 1)) (c.u_mark (c.mark + 1)).own) bi) _).inside = .tup [v, bi] from hin, e_itT (k := 0) (a := v) rfl]
        refine .pure (.each0 ?_)
        refine Rn.mono (s_end_new n F4 (num := num) (ans := v) hn hr hl) fun u_ H5 F5 => .pure (.pure (fin ?_))
        rw [e]
        exact F5
      · rw [decide_eq_false h4]
        have e : cPut c w num bi v = endNew (((c.u_mark (c.mark + 1)).u_head c.own).u_spare (c.spare ++ [c.head])) num v := by unfold cPut; rw [if_neg h1, if_neg h2, if_neg h4]
        refine .bind (.pure ?_)
        show Rn (tl P13 _ "put" [(4, 1), (0, 1)] 2 32 _) _ _
        rw [c_put_t41_01_2]
        refine .bind (.bof F2.gSpare (.bof (listOf_loc F2.sp) ?_))
        refine Rn.mono (F2.aSpare hl2 c.head) fun u_ H4 F4 => ?_
        have g4 := F4.gInside
        refine .bind (.bind (.eachP (.eachP (.eachP (.eachC (.bof g4 ?_))))))
        rw [show (Cn.u_spare (Cn.u_head (c.u_mark (c.mark + 1)) (c.u_mark (c.mark + 1)).own) _).inside = .tup [v, bi] from hin, e_itT (k := 0) (a := v) rfl]
        refine .pure (.each0 ?_)
        refine Rn.mono (s_end_new n F4 (num := num) (ans := v) hn hr hl) fun u_ H5 F5 => .pure (.pure (fin ?_))
        rw [e]
        exact F5

theorem s_check (n : Nat) (F : Foc H₀ H c) {num : Nat} {x v bi : AV} {m : Int} (hk : Kd c.kind) (hh : Ix c.head) (hx : Ix x) (hs : c.seen = .tup [x, .int m]) (hn : c.hs[num]? = some (.loc c.hd)) (hr : c.row = .none) (hl : c.rows.length < 100000) (hi : c.inside = .tup [v, bi]) :
    Rn (callP P13 (n + 3) "check" [.loc c.st, .int num, .loc c.w]) H fun a H' => a = tLook c ∧ Foc H₀ H' (if stillB c x m then endNew c num v else c.u_next "look") := by
  refine callRn (σ := [some (.loc c.st), some (.int num), some (.loc c.w), none]) (by kernel_rfl) (by kernel_rfl) (by kernel_rfl) ?_
  rw [c_check_0]
  refine .bind (.bind (.eachP (.eachE F.gHead (.eachE F.gMark (.each0 (.pure ?_))))))
  refine .bind (.bof (s_is_still (n + 1) F hk hh hx hs) ?_)
  rw [e_truth]
  refine .pure ?_
  cases hb : stillB c x m with
  | true =>
    have g4 := F.gInside
    rw [hi] at g4
    refine .bind (.bind (.bind (.eachP (.eachP (.eachP (.eachC (.bof g4 ?_)))))))
    rw [e_itT (k := 0) (a := v) rfl]
    refine .pure (.each0 ?_)
    refine Rn.mono (s_end_new n F (num := num) (ans := v) hn hr hl) fun u_ H5 F5 => .pure ?_
    show Rn (tl P13 _ "check" [] 2 38 _) _ _
    rw [c_check_t_2]
    exact .pure ⟨rfl, F5⟩
  | false =>
    refine .bind (.then (F.wNext _) fun u_ H1 F1 => .pure ?_)
    show Rn (tl P13 _ "check" [] 2 38 _) _ _
    rw [c_check_t_2]
    exact .pure ⟨rfl, F1⟩

noncomputable def cWalk (c : Cn) (i : Nat) (v b : AV) : Cn := ((c.u_kept (c.kept ++ [v])).u_spare (c.spare ++ [.int i])).u_walk b
noncomputable def cWalkE (c : Cn) (i k : Nat) (v b a1 a2 a3 a4 a5 : AV) : Cn := (((cWalk c i v b).u_rows (c.rows.set k (.tup [a1, a2, a3, a4, a5, .int c.time, .tup (c.kept ++ [v])]))).u_place (c.place + 1)).u_wv .none
theorem s_walk (n : Nat) (F : Foc H₀ H c) {num i k : Nat} {v b a1 a2 a3 a4 a5 a6 a7 : AV} (hw : c.walk = .int i) (hb : c.boxes[i]? = some (.tup [v, b])) (hx : Ix b) (hn : c.hs[num]? = some (.loc c.hd)) (hr : c.row = .int k) (hk : c.rows[k]? = some (.tup [a1, a2, a3, a4, a5, a6, a7])) (hl : c.kept.length < 100000) (hl2 : c.spare.length < 100000) :
    Rn (callP P13 (n + 3) "walk" [.loc c.st, .int num, .loc c.w]) H fun a H' => a = .tup [.str "see", .int i, v, b] ∧ Foc H₀ H' (if pIsNone b then cWalkE c i k v b a1 a2 a3 a4 a5 else cWalk c i v b) := by
  refine callRn (σ := [some (.loc c.st), some (.int num), some (.loc c.w), none, none, none]) (by kernel_rfl) (by kernel_rfl) (by kernel_rfl) ?_
  have g := F.gWalk
  rw [hw] at g
  rw [c_walk_0]
  refine .bof g (.bind (.bof F.gBoxes (.of (item_loc F.b hb) ?_)))
  rw [show pairOf (.tup [v, b]) = pure (v, b) from rfl, pure_bind]
  refine .bind (.bof F.gKept (.bof (listOf_loc F.k) ?_))
  refine Rn.mono (F.aKept hl _) fun u_ H1 F1 => ?_
  refine .bind (.bof F1.gSpare (.bof (listOf_loc F1.sp) ?_))
  refine Rn.mono (F1.aSpare hl2 _) fun u_ H2 F2 => ?_
  refine .then (F2.wWalk _) fun u_ H3 F3 => ?_
  obtain rfl | ⟨j, rfl⟩ := hx
  · rw [show pCmp .Is AV.none .none = pure true from rfl, pure_bind]
    refine .bind (.bind (.bind (.eachP (.eachP (.eachP (.eachC (.bind (.eachE F3.gKept (.each0 ?_)))))))))
    refine .of (a := .tup (c.kept ++ [v])) (H1 := H3) ?_ ?_
    · exact bind_of (listOf_loc F3.k) rfl
    · refine .each0 ?_
      refine Rn.mono (s_end_old (n + 1) F3 (num := num) (k := k) (ans := .tup (c.kept ++ [v])) hn hr hk) fun u_ H4 F4 => .pure ?_
      show Rn (tl P13 _ "walk" [] 6 34 _) _ _
      rw [c_walk_t_6, show pIsNone AV.none = true from rfl]
      exact .pure ⟨rfl, F4⟩
  · rw [show pCmp .Is (.int (j : Int)) .none = pure false from rfl, pure_bind]
    refine .bind (.pure ?_)
    show Rn (tl P13 _ "walk" [] 6 34 _) _ _
    rw [c_walk_t_6, show pIsNone (.int (j : Int)) = false from rfl]
    exact .pure ⟨rfl, F3⟩
end
end Mine


set_option autoImplicit false
set_option linter.unusedVariables false
set_option maxRecDepth 100000
namespace Mine
open PySem PyProof.Rows
section
variable {H₀ H : AHeap} {c : Cn}

theorem s_work_old (n : Nat) (F : Foc H₀ H c) {num : Nat} (hn : c.hs[num]? = some (.loc c.hd)) (hv : c.wv = .loc c.w) :
    callP P13 (n + 1) "work_of" [.loc c.st, .int num] H = some (.ok (.loc c.w), H) := by
  refine callR (σ := [some (.loc c.st), some (.int num), none, none]) (by kernel_rfl) (by kernel_rfl) (by kernel_rfl) ?_
  have g := F.gWork
  rw [hv] at g
  rw [c_work_of_0]
  refine Rn.val (.bind (.bof F.gHands (.of (item_loc F.h hn) (.bind (.bof g ?_)))))
  rw [show pCmp .Is (.loc c.w) .none = pure false from rfl]
  refine .pure (.bind (.pure ?_))
  show Rn (tl P13 _ "work_of" [] 2 38 _) _ _
  rw [c_work_of_t_2]
  exact .bof g (.pure ⟨rfl, rfl⟩)

theorem s_work_new (n : Nat) (F : Foc0 H₀ H c) {num p : Nat} {w : Str} {r : List AV} (hn : c.hs[num]? = some (.loc c.hd)) (hv : c.wv = .none) (hp : c.place = p) (hd : c.prog[p]? = some (.tup (.str w :: r))) (hw : Wd w) :
    Rn (callP P13 (n + 1) "work_of" [.loc c.st, .int num]) H fun a H' => a = .loc (H.length + 1) ∧ Foc H₀ H' ((c.beg H.length (H.length + 1) (.tup (.str w :: r)) (fst w)).u_wv (.loc (H.length + 1))) := by
  refine callRn (σ := [some (.loc c.st), some (.int num), none, none]) (by kernel_rfl) (by kernel_rfl) (by kernel_rfl) ?_
  have g := F.gWork
  rw [hv] at g
  have g2 := F.gPlace
  rw [hp] at g2
  have L := LIMis
  rw [c_work_of_0]
  refine .bind (.bof F.gHands (.of (item_loc F.h hn) (.bind (.bof g ?_))))
  rw [show pCmp .Is AV.none .none = pure true from rfl]
  refine .pure (.bind (.bind (.bof F.gProg (.bof g2 ?_))))
  rw [e_item_tup hd]
  refine .pure (.bind (.bind ?_))
  refine .eachP (.eachE F.gTime (.eachC ?_))
  rw [e_it0, pure_bind, g_first hw]
  refine .pure (.eachP (.eachP (.eachP (.eachP (.eachE (newT (by simp)) (.eachP (.each0 ?_)))))))
  have F1 := F.begun (.tup (.str w :: r)) (fst w)
  refine .of newDT ?_
  have e : (H ++ [AO.list []]).length = H.length + 1 := by simp
  rw [e]
  refine .then (F1.wWork (.loc (H.length + 1))) fun u_ H2 F2 => .pure ?_
  show Rn (tl P13 _ "work_of" [] 2 38 _) _ _
  rw [c_work_of_t_2]
  exact .bof F2.gWork (.pure ⟨rfl, F2⟩)

noncomputable def opCall (n : Nat) (c : Cn) (num : Nat) : M AV :=
  if c.next = "take" then callP P13 n "take" [.loc c.st, .loc c.w]
  else if c.next = "look" then callP P13 n "look" [.loc c.st, .int num, .loc c.w]
  else if c.next = "see" then callP P13 n "see" [.loc c.st, .loc c.w]
  else if c.next = "put" then callP P13 n "put" [.loc c.st, .int num, .loc c.w]
  else if c.next = "check" then callP P13 n "check" [.loc c.st, .int num, .loc c.w]
  else callP P13 n "walk" [.loc c.st, .int num, .loc c.w]

theorem s_go_t (n : Nat) (F : Foc H₀ H c) {o1 o2 o3 : Option AV} {told : AV} :
    Rn (tl P13 (callP P13 n) "go" [] 2 38 [some (.loc c.st), o1, o2, some told, o3]) H fun r H' => r = .ret told ∧ Foc H₀ H' (c.u_time (c.time + 1)) := by
  rw [c_go_t_2]
  refine .bind (.bof F.gTime ?_)
  rw [m_add]
  exact .pure (.then (F.wTime _) fun u_ H1 F1 => .pure ⟨rfl, F1⟩)

theorem s_go (n : Nat) {num : Nat} {G : AV → Cn → Prop} {c : Cn} {H1 : AHeap} {hd : Nat} {hand : List (Str × AV)} {wv : AV} {place : Int} {prog : List AV}
    (g1 : pItem (.loc c.st) (.str "hands") H = some (.ok (.loc c.lh), H)) (g2 : pItem (.loc c.lh) (.int num) H = some (.ok (.loc hd), H)) (g3 : pItem (.loc hd) (.str "work") H = some (.ok wv, H))
    (g4 : pItem (.loc hd) (.str "place") H = some (.ok (.int place), H)) (g5 : pItem (.loc hd) (.str "program") H = some (.ok (.tup prog), H)) (hc : pIsNone wv = false ∨ place ≠ prog.length) (hok : PyData.strOk c.next = true)
    (hw : callP P13 (n + 1) "work_of" [.loc c.st, .int num] H = some (.ok (.loc c.w), H1)) (F : Foc H₀ H1 c)
    (hop : Rn (opCall (n + 1) c num) H1 fun told H2 => ∃ c2, c2.st = c.st ∧ Foc H₀ H2 c2 ∧ G told c2) :
    Rn (callP P13 (n + 2) "go" [.loc c.st, .int num]) H fun told H' => ∃ c2, Foc H₀ H' (c2.u_time (c2.time + 1)) ∧ G told c2 := by
  refine callRn (σ := [some (.loc c.st), some (.int num), none, none, none]) (by kernel_rfl) (by kernel_rfl) (by kernel_rfl) ?_
  have fin : ∀ {told : AV} {H2 : AHeap} {o1 o2 o3 : Option AV}, (∃ c2, c2.st = c.st ∧ Foc H₀ H2 c2 ∧ G told c2) → Rn (tl P13 (callP P13 (n + 1)) "go" [] 2 38 [some (.loc c.st), o1, o2, some told, o3]) H2 (Fl (fun u_ H' => ∃ c2, Foc H₀ H' (c2.u_time (c2.time + 1)) ∧ G .none c2) fun told H' => ∃ c2, Foc H₀ H' (c2.u_time (c2.time + 1)) ∧ G told c2) := by
    rintro told H2 o1 o2 o3 ⟨c2, e, F2, q⟩
    rw [← e]
    refine Rn.mono (s_go_t (n + 1) F2) ?_
    rintro r H' ⟨rfl, F'⟩
    exact ⟨c2, F', q⟩
  rw [c_go_0]
  refine .bind (.bof g1 (.of g2 ?_))
  refine .bind (.bind (.bof g3 ?_))
  rw [show pCmp .Is wv .none = pure (pIsNone wv) from rfl]
  refine .pure ?_
  refine Rn.mono (R := fun b H' => b = false ∧ H' = H) ?_ ?_
  · cases hx : pIsNone wv with
    | false => exact .pure ⟨rfl, rfl⟩
    | true =>
      have hpl : place ≠ prog.length := hc.resolve_left (by rw [hx]; decide)
      refine .bind (.bof g4 (.bind (.bind (.eachE g5 (.each0 ?_)))))
      rw [e_len_tup]
      refine .pure ?_
      rw [e_eqi, decide_eq_false hpl]
      exact .pure (.pure ⟨rfl, rfl⟩)
  rintro b H' ⟨rfl, rfl⟩
  refine .bind (.bof hw ?_)
  unfold opCall at hop
  have cmp : ∀ x : Str, PyData.strOk x = true → pCmp .Eq (.str c.next) (.str x) = pure (decide (c.next = x)) := fun x hx => e_eqs hok hx
  refine .bind (.bof F.gNext ?_)
  rw [cmp _ (by kernel_rfl)]
  refine .pure ?_
  by_cases h1 : c.next = "take"
  · rw [if_pos h1] at hop
    rw [decide_eq_true h1]
    exact .bind (.then hop fun told H2 q => .pure (.pure (fin q)))
  rw [if_neg h1] at hop
  rw [decide_eq_false h1]
  refine .bind (.bind (.bof F.gNext ?_))
  rw [cmp _ (by kernel_rfl)]
  refine .pure ?_
  by_cases h2 : c.next = "look"
  · rw [if_pos h2] at hop
    rw [decide_eq_true h2]
    exact .bind (.then hop fun told H2 q => .pure (.pure (.pure (fin q))))
  rw [if_neg h2] at hop
  rw [decide_eq_false h2]
  refine .bind (.bind (.bof F.gNext ?_))
  rw [cmp _ (by kernel_rfl)]
  refine .pure ?_
  by_cases h3 : c.next = "see"
  · rw [if_pos h3] at hop
    rw [decide_eq_true h3]
    exact .bind (.then hop fun told H2 q => .pure (.pure (.pure (.pure (fin q)))))
  rw [if_neg h3] at hop
  rw [decide_eq_false h3]
  refine .bind (.bind (.bof F.gNext ?_))
  rw [cmp _ (by kernel_rfl)]
  refine .pure ?_
  by_cases h4 : c.next = "put"
  · rw [if_pos h4] at hop
    rw [decide_eq_true h4]
    exact .bind (.then hop fun told H2 q => .pure (.pure (.pure (.pure (.pure (fin q))))))
  rw [if_neg h4] at hop
  rw [decide_eq_false h4]
  refine .bind (.bind (.bof F.gNext ?_))
  rw [cmp _ (by kernel_rfl)]
  refine .pure ?_
  by_cases h5 : c.next = "check"
  · rw [if_pos h5] at hop
    rw [decide_eq_true h5]
    exact .bind (.then hop fun told H2 q => .pure (.pure (.pure (.pure (.pure (.pure (fin q)))))))
  rw [if_neg h5] at hop
  rw [decide_eq_false h5]
  exact .bind (.then hop fun told H2 q => .pure (.pure (.pure (.pure (.pure (.pure (fin q)))))))

theorem s_go_rest (n : Nat) (F : Foc0 H₀ H c) {num : Nat} (hn : c.hs[num]? = some (.loc c.hd)) (hv : c.wv = .none) (hp : c.place = c.prog.length) :
    Rn (callP P13 (n + 1) "go" [.loc c.st, .int num]) H fun told H' => told = .tup [.str "rest"] ∧ Foc0 H₀ H' (c.u_time (c.time + 1)) := by
  refine callRn (σ := [some (.loc c.st), some (.int num), none, none, none]) (by kernel_rfl) (by kernel_rfl) (by kernel_rfl) ?_
  have g := F.gWork
  rw [hv] at g
  rw [c_go_0]
  refine .bind (.bof F.gHands (.of (item_loc F.h hn) ?_))
  refine .bind (.bind (.bof g ?_))
  rw [show pCmp .Is AV.none .none = pure true from rfl]
  refine .pure (.bind (.bof F.gPlace (.bind (.bind (.eachE F.gProg (.each0 ?_))))))
  rw [e_len_tup]
  refine .pure ?_
  rw [e_eqi, decide_eq_true hp]
  refine .pure (.pure (.bind (.pure ?_)))
  show Rn (tl P13 _ "go" [] 2 38 _) _ _
  rw [c_go_t_2]
  refine .bind (.bof F.gTime ?_)
  rw [m_add]
  exact .pure (.then (F.wTime _) fun u_ H1 F1 => .pure ⟨rfl, F1⟩)
end
end Mine


set_option autoImplicit false
set_option linter.unusedVariables false
set_option maxRecDepth 100000
namespace Mine
open PySem PyProof.Rows

noncomputable def lookA : Dk → An
  | .clear => .tup []
  | _ => .none
theorem modify_at {α : Type} {f : α → α} : ∀ {l : List α} {j : Nat} {a : α}, l[j]? = some a → l.modify j f = l.set j (f a)
  | [], _, _, h => by cases h
  | x :: r, 0, a, h => by cases h; rfl
  | x :: r, j + 1, a, h => by
    rw [List.modify_succ_cons, List.set_cons_succ, modify_at (l := r) (j := j) h]
theorem ix_ix (x : Option Nat) : Ix (ixV x) := match x with
  | none => .inl rfl
  | some i => .inr ⟨i, rfl⟩
theorem eqIx_is (x y : Option Nat) : eqIx (ixV x) (ixV y) = decide (x = y) := by
  cases x with
  | none => cases y <;> rfl
  | some i => cases y with
    | none => rfl
    | some j => exact decide_eq_decide.mpr (Int.ofNat_inj.trans ⟨fun h => by rw [h], fun h => Option.some.inj h⟩)
theorem knS_kd (k : Kn) : Kd (knS k) := by cases k <;> simp [Kd, knS]
theorem knS_inj {k j : Kn} : knS k = knS j ↔ k = j := by cases k <;> cases j <;> first | exact ⟨fun u_ => rfl, fun u_ => rfl⟩ | exact ⟨fun h => absurd h (by decide), fun h => by cases h⟩
theorem dkS_wd (k : Dk) : Wd (dkS k) := by cases k <;> simp [Wd, dkS]
theorem nxS_ok (x : Nx) : PyData.strOk (nxS x) = true := by cases x <;> kernel_rfl
section
variable {H₀ H : AHeap} {L : Ly} {l : Lh} {t : Tw} {pr : List Deed} {p i k : Nat} {w : Wk}
theorem still_c {wv : AV} {x : Option Nat} {m : Nat} : stillB (cn L l t pr p wv w) (ixV x) m = t.still x m := by
  unfold stillB Tw.still
  show (eqIx (ixV t.head) (ixV x) && (decide (knS t.kind ≠ knS .marks) || decide ((t.mark : Int) = (m : Int)))) = _
  rw [eqIx_is]
  congr 2
  · exact decide_eq_decide.mpr (not_congr knS_inj)
  · exact decide_eq_decide.mpr Int.ofNat_inj
theorem sp_c {wv : AV} (T : TwOk k t) : SpOk (cn L l t pr p wv w) := fun x hx => by
  obtain ⟨j, hj, rfl⟩ := List.mem_map.mp (show x ∈ t.spare.map natV from hx)
  exact ⟨j, rfl, by show _ < (t.boxes.map bxV).length; rw [List.length_map]; exact T.spare j hj⟩
theorem deed_c {wv : AV} : (cn L l t pr p wv w).deed = .tup (.str (dkS w.deed.k) :: dkR w.deed.k w.deed.v) := deedK_is _ _

theorem r_take (n : Nat) (F : Foc H₀ H (cn L l t pr p (.loc l.w) w)) (T : TwOk k t) (hk : k < 3000) (hw : w.deed.k = .push ∨ w.deed.k = .swap) :
    Rn (callP P13 (n + 1) "take" [.loc L.st, .loc l.w]) H (Done H₀ L l pr p (opTake t w)) := by
  have hd : (cn L l t pr p (.loc l.w) w).deed = .tup [.str (dkS w.deed.k), .int w.deed.v] := by
    rw [deed_c]; rcases hw with h | h <;> rw [h] <;> rfl
  have lb := T.lb
  unfold opTake
  by_cases hc : t.kind = .new ∨ t.spare = []
  · rw [if_pos hc]
    refine Rn.mono (s_take_new n F (knS_kd _) (sp_c T) hd (by show (t.boxes.map bxV).length < _; rw [List.length_map]; (first | lia | omega)) ?_) ?_
    · exact hc.imp (fun h => by show knS t.kind = _; rw [h]; rfl) (fun h => by show t.spare.map natV = _; rw [h]; rfl)
    · rintro a H' ⟨rfl, F'⟩
      refine ⟨by show AV.tup [.str "take", .int ((t.boxes.map bxV).length : Nat)] = _; rw [List.length_map]; rfl, ?_⟩
      show Foc H₀ H' { cn L l t pr p (.loc l.w) w with boxes := (t.boxes ++ [(w.deed.v, none)]).map bxV, own := .int (t.boxes.length : Nat), next := "look" }
      rw [List.map_append, ← List.length_map (f := bxV)]
      exact F'
  · rw [if_neg hc]
    have hne : t.spare ≠ [] := fun q => hc (.inr q)
    have es : t.spare.map natV = t.spare.dropLast.map natV ++ [.int (t.spare.getLastD 0 : Nat)] := by
      have : t.spare = t.spare.dropLast ++ [t.spare.getLastD 0] := by
        cases hs : t.spare with
        | nil => exact absurd hs hne
        | cons a r => rw [show (a :: r).getLastD 0 = (a :: r).getLast (List.cons_ne_nil _ _) from rfl]; exact (List.dropLast_concat_getLast _).symm
      conv => lhs; rw [this]
      rw [List.map_append]; rfl
    refine Rn.mono (s_take_pop n F (knS_kd _) (sp_c T) hd (fun h => hc (.inl (knS_inj.mp (h.trans (show ("new" : Str) = knS .new from rfl))))) es) ?_
    rintro a H' ⟨rfl, F'⟩
    refine ⟨rfl, ?_⟩
    show Foc H₀ H' { cn L l t pr p (.loc l.w) w with boxes := (t.boxes.set (t.spare.getLastD 0) (w.deed.v, none)).map bxV, spare := t.spare.dropLast.map natV, own := .int (t.spare.getLastD 0 : Nat), next := "look" }
    rw [List.map_set]
    exact F'

theorem end_c {s : Tw} {a : An} {c : Cn} {w' : Wk} (F : Foc H₀ H (endNew c i (anV a))) (e : c = cn L l s pr p (.loc l.w) w') (hd : w'.deed = w.deed) (hb : w'.begun = w.begun) :
    ∃ w', Foc H₀ H (cn L l (s.ends i p w a) pr (p + 1) .none w') := by
  subst e
  refine ⟨{ w' with row := some s.rows.length }, ?_⟩
  have F' : Foc H₀ H { cn L l s pr (p + 1) .none w' with row := .int ((s.rows.map rwV).length : Nat), rows := s.rows.map rwV ++ [.tup [.int i, .int p, deedV w'.deed, .int w'.begun, .int s.time, .int s.time, anV a]] } := F
  show Foc H₀ H { cn L l s pr (p + 1) .none w' with row := .int (s.rows.length : Nat), rows := (s.rows ++ [(⟨i, p, w.deed, w.begun, s.time, some (s.time, a)⟩ : Row)]).map rwV }
  rw [List.map_append, ← List.length_map (f := rwV) (as := s.rows), ← hd, ← hb]
  exact F'

theorem below_map (t : Tw) (o : Nat) (u : Option Nat) : (t.below o u).boxes.map bxV = (t.boxes.map bxV).set o (.tup [.int (t.box o).1, ixV u]) := List.map_set

theorem r_look (n : Nat) (F : Foc H₀ H (cn L l t pr p (.loc l.w) w)) (T : TwOk k t) (hk : k < 3000) (hn : L.hs[i]? = some (.loc l.hd)) (hr : w.row = none) (ho : OwOk t.boxes.length w) :
    Rn (callP P13 (n + 3) "look" [.loc L.st, .int i, .loc l.w]) H (Done H₀ L l pr p (opLook t i p w)) := by
  have lr := T.lr
  have ls := T.ls
  have some_ : ∀ {kk : Dk}, w.deed.k = kk → kk ≠ .push → ∀ {x : Nat}, t.head = some x → Rn (callP P13 (n + 3) "look" [.loc L.st, .int i, .loc l.w]) H (Done H₀ L l pr p (t, some { w with seen := some (some x, t.mark), next := lookN kk }, .look (some x) t.mark)) := fun {kk} e hne {x} hx => by
    refine Rn.mono (s_look_some (n + 1) F (num := i) (i := x) (dkS_wd w.deed.k) (by rw [e]; cases kk <;> first | exact absurd rfl hne | decide) deed_c (by show ixV t.head = _; rw [hx]; rfl)) ?_
    rintro a H' ⟨rfl, F'⟩
    refine ⟨by show AV.tup [.str "look", ixV t.head, _] = _; rw [hx]; rfl, ?_⟩
    refine foc_eq F' ?_
    show ({ cn L l t pr p (.loc l.w) w with seen := .tup [ixV t.head, .int t.mark], next := blk (dkS w.deed.k) } : Cn) = { cn L l t pr p (.loc l.w) w with seen := .tup [ixV (some x), .int t.mark], next := nxS (lookN kk) }
    rw [hx, e]
    congr 1
    cases kk <;> kernel_rfl
  have none_ : ∀ {kk : Dk}, w.deed.k = kk → kk ≠ .push → kk ≠ .swap → t.head = none → Rn (callP P13 (n + 3) "look" [.loc L.st, .int i, .loc l.w]) H (Done H₀ L l pr p (t.ends i p w (lookA kk), none, .look none t.mark)) := fun {kk} e hne hns hx => by
    refine Rn.mono (s_look_none n F (num := i) (dkS_wd w.deed.k) (by rw [e]; cases kk <;> first | exact absurd rfl hne | decide) deed_c (by show ixV t.head = _; rw [hx]; rfl) hn (by show ixV w.row = _; rw [hr]; rfl) (by show (t.rows.map rwV).length < _; rw [List.length_map]; (first | lia | omega)) (by show (t.spare.map natV).length < _; rw [List.length_map]; (first | lia | omega))) ?_
    rintro a H' ⟨rfl, F'⟩
    refine ⟨by show AV.tup [.str "look", ixV t.head, _] = _; rw [hx]; rfl, ?_⟩
    have e1 : (if dkS w.deed.k = "clear" then AV.tup [] else .none) = anV (lookA kk) := by
      rw [e]; cases kk <;> kernel_rfl
    rw [e1] at F'
    refine end_c (w' := { w with seen := some (t.head, t.mark), next := lookN kk }) F' ?_ rfl rfl
    unfold cLookN
    rw [if_neg (by rw [e]; cases kk <;> first | exact absurd rfl hns | decide)]
    show ({ cn L l t pr p (.loc l.w) w with seen := .tup [ixV t.head, .int t.mark], next := blk (dkS w.deed.k) } : Cn) = { cn L l t pr p (.loc l.w) w with seen := .tup [ixV t.head, .int t.mark], next := nxS (lookN kk) }
    rw [e]
    congr 1
    cases kk <;> kernel_rfl
  unfold opLook
  cases hk : w.deed.k with
  | push =>
    unfold OwOk at ho
    rw [hk] at ho
    obtain ⟨o, h1, h2⟩ := ho
    refine Rn.mono (s_look_push (n + 1) F (num := i) (o := o) (by rw [deed_c, hk]; rfl) (by show ixV w.own = _; rw [h1]; rfl) (box_at h2)) ?_
    rintro a H' ⟨rfl, F'⟩
    refine ⟨rfl, ?_⟩
    simp only [h1, Option.getD_some]
    show Foc H₀ H' { cn L l t pr p (.loc l.w) w with boxes := (t.below o t.head).boxes.map bxV, own := ixV (some o), seen := .tup [ixV t.head, .int t.mark], next := "put" }
    rw [below_map, ← h1]
    have e : blk "push" = "put" := by kernel_rfl
    rw [← e]
    exact F'
  | swap =>
    cases hh : t.head with
    | some x => exact some_ hk (fun q => by cases q) hh
    | none =>
      unfold OwOk at ho
      rw [hk] at ho
      obtain ⟨o, h1, h2⟩ := ho
      refine Rn.mono (s_look_none n F (num := i) (dkS_wd w.deed.k) (by rw [hk]; decide) deed_c (by show ixV t.head = _; rw [hh]; rfl) hn (by show ixV w.row = _; rw [hr]; rfl) (by show (t.rows.map rwV).length < _; rw [List.length_map]; (first | lia | omega)) (by show (t.spare.map natV).length < _; rw [List.length_map]; (first | lia | omega))) ?_
      rintro a H' ⟨rfl, F'⟩
      refine ⟨by show AV.tup [.str "look", ixV t.head, _] = _; rw [hh]; rfl, ?_⟩
      have e1 : (if dkS w.deed.k = "clear" then AV.tup [] else .none) = anV .none := by rw [hk]; kernel_rfl
      rw [e1] at F'
      refine end_c (w' := { w with seen := some (t.head, t.mark), next := .see }) F' ?_ rfl rfl
      unfold cLookN
      rw [if_pos (by rw [hk]; rfl)]
      show ({ cn L l t pr p (.loc l.w) w with spare := t.spare.map natV ++ [ixV w.own], seen := .tup [ixV t.head, .int t.mark], next := blk (dkS w.deed.k) } : Cn) = { cn L l t pr p (.loc l.w) w with head := ixV none, spare := (t.spare ++ [w.own.getD 0]).map natV, seen := .tup [ixV t.head, .int t.mark], next := "see" }
      rw [hk, h1, hh, List.map_append]
      have e : blk (dkS .swap) = "see" := by kernel_rfl
      rw [e]
      show ({ cn L l t pr p (.loc l.w) w with head := ixV t.head, spare := _, seen := _, next := _ } : Cn) = _
      rw [hh]
      rfl
  | clear =>
    cases hh : t.head with
    | some x => exact some_ hk (fun q => by cases q) hh
    | none => exact none_ hk (fun q => by cases q) (fun q => by cases q) hh
  | pop =>
    cases hh : t.head with
    | some x => exact some_ hk (fun q => by cases q) hh
    | none => exact none_ hk (fun q => by cases q) (fun q => by cases q) hh
  | top =>
    cases hh : t.head with
    | some x => exact some_ hk (fun q => by cases q) hh
    | none => exact none_ hk (fun q => by cases q) (fun q => by cases q) hh

theorem r_see (n : Nat) (F : Foc H₀ H (cn L l t pr p (.loc l.w) w)) (T : TwOk k t) (hw : w.deed.k = .swap ∨ w.deed.k = .pop ∨ w.deed.k = .top) (ho : OwOk t.boxes.length w) {x m : Nat} (hx : x < t.boxes.length) (hs : w.seen = some (some x, m)) :
    Rn (callP P13 (n + 2) "see" [.loc L.st, .loc l.w]) H (Done H₀ L l pr p (opSee t w)) := by
  have eb : ((w.seen.getD (none, 0)).1).getD 0 = x := by rw [hs]; rfl
  have es : (cn L l t pr p (.loc l.w) w).seen = .tup [.int x, .int m] := by show seenV w.seen = _; rw [hs]; rfl
  have rest : ∀ {kk : Dk}, w.deed.k = kk → (dkS kk = "pop" ∨ dkS kk = "top") → Rn (callP P13 (n + 2) "see" [.loc L.st, .loc l.w]) H (Done H₀ L l pr p (t, some { w with inside := some (t.box x), next := seeN kk }, .see x (t.box x).1 (t.box x).2)) := fun {kk} e hp => by
    refine Rn.mono (s_see (n + 1) F (w := dkS w.deed.k) (by rw [e]; exact hp) deed_c es (box_at hx)) ?_
    rintro a H' ⟨rfl, F'⟩
    refine ⟨rfl, foc_eq F' ?_⟩
    show ({ cn L l t pr p (.loc l.w) w with inside := bxV (t.box x), next := bse (dkS w.deed.k) } : Cn) = { cn L l t pr p (.loc l.w) w with inside := bxV (t.box x), next := nxS (seeN kk) }
    rw [e]
    congr 1
    cases kk <;> kernel_rfl
  unfold opSee
  simp only [eb]
  rcases hw with hk | hk | hk
  · unfold OwOk at ho
    rw [hk] at ho
    obtain ⟨o, h1, h2⟩ := ho
    rw [hk, h1]
    refine Rn.mono (s_see_swap n F (by rw [deed_c, hk]; rfl) es (box_at hx) (o := o) (by show ixV w.own = _; rw [h1]; rfl) (box_at h2)) ?_
    rintro a H' ⟨rfl, F'⟩
    refine ⟨rfl, ?_⟩
    show Foc H₀ H' { cn L l t pr p (.loc l.w) w with boxes := (t.below o (t.box x).2).boxes.map bxV, own := ixV (some o), inside := bxV (t.box x), next := "put" }
    rw [below_map, ← h1]
    have e : bse "swap" = "put" := by kernel_rfl
    rw [← e]
    exact F'
  · rw [hk]; exact rest hk (.inl rfl)
  · rw [hk]; exact rest hk (.inr rfl)

theorem r_put (n : Nat) (F : Foc H₀ H (cn L l t pr p (.loc l.w) w)) (T : TwOk k t) (hk : k < 3000) (hn : L.hs[i]? = some (.loc l.hd)) (hr : w.row = none) (ho : OwOk t.boxes.length w) (hw : w.deed.k ≠ .top) {x : Option Nat} {m : Nat} (hs : w.seen = some (x, m)) (hne : w.deed.k ≠ .push → x ≠ none)
    (hi : (w.deed.k = .swap ∨ w.deed.k = .pop) → ∃ v b, w.inside = some (v, b) ∧ IxOk t.boxes.length b) : Rn (callP P13 (n + 3) "put" [.loc L.st, .int i, .loc l.w]) H (Done H₀ L l pr p (opPut t i p w)) := by
  have lr := T.lr
  have ls := T.ls
  have e1 : w.seen.getD (none, 0) = (x, m) := by rw [hs]; rfl
  have es : (cn L l t pr p (.loc l.w) w).seen = .tup [ixV x, .int m] := by show seenV w.seen = _; rw [hs]; rfl
  unfold opPut
  simp only [e1]
  cases hb : t.still x m with
  | false =>
    refine Rn.mono (s_put_no (n + 1) F (num := i) (knS_kd _) (ix_ix _) (ix_ix x) es (by rw [still_c]; exact hb)) ?_
    rintro a H' ⟨rfl, F'⟩
    exact ⟨rfl, F'⟩
  | true =>
    have hh := still_head hb
    have hx1 : ∀ {q : Nat}, x = some q → ixV t.head = .int q := fun {q} e => by rw [hh, e]; rfl
    have hwd : dkS w.deed.k = "push" ∨ dkS w.deed.k = "clear" ∨ dkS w.deed.k = "swap" ∨ dkS w.deed.k = "pop" := by
      cases hk : w.deed.k with
      | top => exact absurd hk hw
      | push => exact .inl rfl
      | clear => exact .inr (.inl rfl)
      | swap => exact .inr (.inr (.inl rfl))
      | pop => exact .inr (.inr (.inr rfl))
    obtain ⟨v, b, hin⟩ : ∃ v b, (w.deed.k = .swap ∨ w.deed.k = .pop) → w.inside = some (v, b) := by
      by_cases q : w.deed.k = .swap ∨ w.deed.k = .pop
      · obtain ⟨v, b, q1, _⟩ := hi q
        exact ⟨v, b, fun u_ => q1⟩
      · exact ⟨0, none, fun z => absurd z q⟩
    have hdk : ∀ {y : Dk}, dkS w.deed.k = dkS y → w.deed.k = y := fun {y} q => by
      revert q
      cases w.deed.k <;> cases y <;> intro q <;> first | rfl | exact absurd q (by decide)
    refine Rn.mono (s_put_yes n F (num := i) (v := .int v) (bi := ixV b) hwd (knS_kd _) (ix_ix _) (ix_ix x) es (by rw [still_c]; exact hb) deed_c hn (by show ixV w.row = _; rw [hr]; rfl) (by show (t.rows.map rwV).length < _; rw [List.length_map]; (first | lia | omega)) (by show (t.spare.map natV).length < _; rw [List.length_map]; (first | lia | omega))
      (fun q => by show insV w.inside = _; rw [hin (q.imp (fun z => hdk (y := .swap) z) fun z => hdk (y := .pop) z)]; rfl)) ?_
    rintro a H' ⟨rfl, F'⟩
    unfold cPut at F'
    have hj : w.deed.k ≠ .push → ∃ q, t.head = some q := fun z => by
      cases e : x with
      | none => exact absurd e (hne z)
      | some q => exact ⟨q, by rw [hh, e]⟩
    have hspare : ∀ {q : Nat}, t.head = some q → t.spare.map natV ++ [ixV t.head] = (t.spare ++ [t.head.getD 0]).map natV := fun {q} z => by rw [List.map_append, z]; rfl
    cases hk : w.deed.k with
    | top => exact absurd hk hw
    | clear =>
      rw [hk, if_pos (show dkS .clear = ("clear" : Str) from rfl)] at F'
      refine ⟨rfl, ?_⟩
      show Foc H₀ H' { cn L l t pr p (.loc l.w) w with mark := ((t.mark + 1 : Nat) : Int), head := .none, rows := (t.rows ++ [(⟨i, p, w.deed, w.begun, t.time, none⟩ : Row)]).map rwV, row := .int (t.rows.length : Nat), walk := ixV t.head, next := "walk" }
      rw [List.map_append, ← List.length_map (f := rwV) (as := t.rows)]
      exact F'
    | push =>
      rw [hk, if_neg (by decide), if_pos (show dkS .push = ("push" : Str) from rfl)] at F'
      exact ⟨rfl, end_c (s := { t with mark := t.mark + 1, head := w.own }) (w' := w) F' rfl rfl rfl⟩
    | pop =>
      rw [hk, if_neg (by decide), if_neg (by decide), if_pos (show dkS .pop = ("pop" : Str) from rfl)] at F'
      obtain ⟨q, hq⟩ := hj (by rw [hk]; exact fun z => by cases z)
      refine ⟨rfl, end_c (s := { t with mark := t.mark + 1, head := (w.inside.getD (0, none)).2, spare := t.spare ++ [t.head.getD 0] }) (w' := w) (a := .int (w.inside.getD (0, none)).1) (by rw [hin (.inr hk)]; exact F') ?_ rfl rfl⟩
      rw [hin (.inr hk)]
      show ({ cn L l t pr p (.loc l.w) w with mark := ((t.mark + 1 : Nat) : Int), head := ixV b, spare := t.spare.map natV ++ [ixV t.head] } : Cn) = { cn L l t pr p (.loc l.w) w with mark := ((t.mark + 1 : Nat) : Int), head := ixV b, spare := (t.spare ++ [t.head.getD 0]).map natV }
      rw [hspare hq]
    | swap =>
      rw [hk, if_neg (by decide), if_neg (by decide), if_neg (by decide)] at F'
      obtain ⟨q, hq⟩ := hj (by rw [hk]; exact fun z => by cases z)
      refine ⟨rfl, end_c (s := { t with mark := t.mark + 1, head := w.own, spare := t.spare ++ [t.head.getD 0] }) (w' := w) (a := .int (w.inside.getD (0, none)).1) (by rw [hin (.inl hk)]; exact F') ?_ rfl rfl⟩
      show ({ cn L l t pr p (.loc l.w) w with mark := ((t.mark + 1 : Nat) : Int), head := ixV w.own, spare := t.spare.map natV ++ [ixV t.head] } : Cn) = { cn L l t pr p (.loc l.w) w with mark := ((t.mark + 1 : Nat) : Int), head := ixV w.own, spare := (t.spare ++ [t.head.getD 0]).map natV }
      rw [hspare hq]

theorem r_check (n : Nat) (F : Foc H₀ H (cn L l t pr p (.loc l.w) w)) (T : TwOk k t) (hk : k < 3000) (hn : L.hs[i]? = some (.loc l.hd)) (hr : w.row = none) {x : Option Nat} {m : Nat} {v : Int} {b : Option Nat} (hs : w.seen = some (x, m)) (hi : w.inside = some (v, b)) :
    Rn (callP P13 (n + 3) "check" [.loc L.st, .int i, .loc l.w]) H (Done H₀ L l pr p (opCheck t i p w)) := by
  have lr := T.lr
  have e1 : w.seen.getD (none, 0) = (x, m) := by rw [hs]; rfl
  unfold opCheck
  simp only [e1]
  refine Rn.mono (s_check n F (num := i) (x := ixV x) (m := m) (v := .int v) (bi := ixV b) (knS_kd _) (ix_ix _) (ix_ix x) (by show seenV w.seen = _; rw [hs]; rfl) hn (by show ixV w.row = _; rw [hr]; rfl) (by show (t.rows.map rwV).length < _; rw [List.length_map]; (first | lia | omega)) (by show insV w.inside = _; rw [hi]; rfl)) ?_
  rintro a H' ⟨rfl, F'⟩
  rw [still_c] at F'
  cases hb : t.still x m with
  | true =>
    rw [hb, if_pos rfl] at F'
    exact ⟨rfl, end_c (s := t) (w' := w) (a := .int (w.inside.getD (0, none)).1) (by rw [hi]; exact F') rfl rfl rfl⟩
  | false =>
    rw [hb, if_neg (by decide)] at F'
    exact ⟨rfl, F'⟩

theorem r_walk (n : Nat) (F : Foc H₀ H (cn L l t pr p (.loc l.w) w)) (T : TwOk k t) (hk : k < 3000) (hkp : w.kept.length ≤ k) (hn : L.hs[i]? = some (.loc l.hd)) {x j : Nat} (hx : x < t.boxes.length) (hwk : w.walk = some x) (hj : j < t.rows.length) (hr : w.row = some j) :
    Rn (callP P13 (n + 3) "walk" [.loc L.st, .int i, .loc l.w]) H (Done H₀ L l pr p (opWalk t w)) := by
  have ls := T.ls
  have e1 : w.walk.getD 0 = x := by rw [hwk]; rfl
  obtain ⟨r, hr1, hr2⟩ := row_at hj
  unfold opWalk
  simp only [e1]
  refine Rn.mono (s_walk n F (num := i) (i := x) (k := j) (by show ixV w.walk = _; rw [hwk]; rfl) (box_at hx) (ix_ix _) hn (by show ixV w.row = _; rw [hr]; rfl) hr2 (by show (w.kept.map AV.int).length < _; rw [List.length_map]; (first | lia | omega)) (by show (t.spare.map natV).length < _; rw [List.length_map]; (first | lia | omega))) ?_
  rintro a H' ⟨rfl, F'⟩
  cases hb : (t.box x).2 with
  | some u =>
    rw [hb, show pIsNone (ixV (some u)) = false from rfl, if_neg (by decide)] at F'
    refine ⟨rfl, ?_⟩
    show Foc H₀ H' { cn L l t pr p (.loc l.w) w with spare := (t.spare ++ [x]).map natV, kept := (w.kept ++ [(t.box x).1]).map .int, walk := ixV (some u) }
    rw [List.map_append, List.map_append]
    exact F'
  | none =>
    rw [hb, show pIsNone (ixV none) = true from rfl, if_pos rfl] at F'
    refine ⟨rfl, { w with kept := w.kept ++ [(t.box x).1], walk := none }, ?_⟩
    have em : (t.rows.modify (w.row.getD 0) (setFin (t.time, .tup (w.kept ++ [(t.box x).1])))).map rwV = (t.rows.map rwV).set j (.tup [.int r.num, .int r.place, deedV r.deed, .int r.begun, .int r.point, .int t.time, .tup (w.kept.map .int ++ [.int (t.box x).1])]) := by
      rw [hr, Option.getD_some, modify_at hr1, List.map_set]
      congr 1
      show AV.tup [_, _, _, _, _, _, .tup ((w.kept ++ [(t.box x).1]).map .int)] = _
      rw [List.map_append]; rfl
    show Foc H₀ H' { cn L l t pr p (.loc l.w) w with spare := (t.spare ++ [x]).map natV, kept := (w.kept ++ [(t.box x).1]).map .int, walk := .none, rows := (t.rows.modify (w.row.getD 0) (setFin (t.time, .tup (w.kept ++ [(t.box x).1])))).map rwV, place := ((p + 1 : Nat) : Int), wv := .none }
    rw [em, List.map_append, List.map_append]
    exact F'

theorem r_op (n : Nat) (F : Foc H₀ H (cn L l t pr p (.loc l.w) w)) (T : TwOk k t) (hk : k < 3000) (hn : L.hs[i]? = some (.loc l.hd)) (h : WkOk k t.boxes.length t.rows.length w) :
    Rn (opCall (n + 3) (cn L l t pr p (.loc l.w) w) i) H (Done H₀ L l pr p (op t i p w)) := by
  obtain ⟨h1, h⟩ := h
  unfold op opCall
  unfold StOk at h
  have en : (cn L l t pr p (.loc l.w) w).next = nxS w.next := rfl
  cases hx : w.next with
  | take => rw [hx] at h en; have en : (cn L l t pr p (.loc l.w) w).next = ("take" : Str) := en; rw [if_pos en]; exact r_take (n + 2) F T hk h.2
  | look => rw [hx] at h en; have en : (cn L l t pr p (.loc l.w) w).next = ("look" : Str) := en; rw [if_neg (by rw [en]; decide), if_pos en]; exact r_look n F T hk hn h.1 h.2
  | see => rw [hx] at h en; have en : (cn L l t pr p (.loc l.w) w).next = ("see" : Str) := en; obtain ⟨a, b, c, x, m, d, e⟩ := h; rw [if_neg (by rw [en]; decide), if_neg (by rw [en]; decide), if_pos en]; exact r_see (n + 1) F T c b d e
  | put => rw [hx] at h en; have en : (cn L l t pr p (.loc l.w) w).next = ("put" : Str) := en; obtain ⟨a, b, c, x, m, d, e, f, g⟩ := h; rw [if_neg (by rw [en]; decide), if_neg (by rw [en]; decide), if_neg (by rw [en]; decide), if_pos en]; exact r_put n F T hk hn a b c e f g
  | check => rw [hx] at h en; have en : (cn L l t pr p (.loc l.w) w).next = ("check" : Str) := en; obtain ⟨a, b, x, m, v, y, c, d⟩ := h; rw [if_neg (by rw [en]; decide), if_neg (by rw [en]; decide), if_neg (by rw [en]; decide), if_neg (by rw [en]; decide), if_pos en]; exact r_check n F T hk hn a c d
  | walk => rw [hx] at h en; have en : (cn L l t pr p (.loc l.w) w).next = ("walk" : Str) := en; obtain ⟨a, ⟨x, b, c⟩, j, d, e⟩ := h; rw [if_neg (by rw [en]; decide), if_neg (by rw [en]; decide), if_neg (by rw [en]; decide), if_neg (by rw [en]; decide), if_neg (by rw [en]; decide)]; exact r_walk n F T hk h1 hn b c d e
end

end Mine


set_option autoImplicit false
set_option linter.unusedVariables false
set_option maxRecDepth 100000
namespace Mine
open PySem PyProof.Rows

noncomputable def mix (g h : Cn) : Cn := { h with st := g.st, lb := g.lb, lsp := g.lsp, lh := g.lh, lr := g.lr, kind := g.kind, boxes := g.boxes, head := g.head, mark := g.mark, spare := g.spare, hs := g.hs, time := g.time, rows := g.rows }
theorem mix_self (c : Cn) : mix c c = c := by cases c; rfl
noncomputable def gl5 (c : Cn) : List Nat := [c.st, c.lb, c.lsp, c.lh, c.lr]
noncomputable def hlocs (h : Cn) : List Nat := match h.wv with
  | .none => [h.hd]
  | _ => [h.hd, h.kp, h.w]
noncomputable def One (H : AHeap) (c : Cn) : Prop := (c.wv = .none ∧ Foc0 H H c) ∨ (c.wv = .loc c.w ∧ Foc H H c)
structure Rep (H : AHeap) (g : Cn) (hs : List Cn) : Prop where
  hsv : g.hs = hs.map fun h => .loc h.hd
  one : ∀ (i : Nat) h, hs[i]? = some h → One H (mix g h)
  ow : ∃ ow : Nat → Nat, (∀ l ∈ gl5 g, ow l = 0) ∧ ∀ (i : Nat) h, hs[i]? = some h → ∀ l ∈ hlocs h, ow l = i + 1

theorem mem8 {c : Cn} {l : Nat} (h : l ∈ c.ls) : l ∈ gl5 c ∨ l = c.hd ∨ l = c.kp ∨ l = c.w := by
  rcases List.mem_append.mp (show l ∈ gl5 c ++ [c.hd, c.kp, c.w] from h) with q | q
  · exact .inl q
  · exact .inr ((List.mem_cons.mp q).imp id fun q => (List.mem_cons.mp q).imp id fun q => List.mem_singleton.mp q)
theorem mem6 {c : Cn} {l : Nat} (h : l ∈ c.ls0) : l ∈ gl5 c ∨ l = c.hd := by
  rcases List.mem_append.mp (show l ∈ gl5 c ++ [c.hd] from h) with q | q
  · exact .inl q
  · exact .inr (List.mem_singleton.mp q)
theorem hl_none {c : Cn} (h : c.wv = .none) : hlocs c = [c.hd] := by unfold hlocs; rw [h]
theorem hl_loc {c : Cn} {l : Nat} (h : c.wv = .loc l) : hlocs c = [c.hd, c.kp, c.w] := by unfold hlocs; rw [h]

theorem one_keep {H H' : AHeap} {g h c' : Cn} {L : List Nat} (O : One H (mix g h)) (e : gl5 c' = gl5 g) (F : ∀ (j l : Nat) (o : AO), (gl5 c')[j]? = some l → (c'.os)[j]? = some o → H'[l]? = some o) (hl : H.length ≤ H'.length) (hout : ∀ l, l < H.length → l ∉ L → H'[l]? = H[l]?) (hL : ∀ l ∈ hlocs h, l ∉ L) : One H' (mix c' h) := by
  have e1 : c'.st = g.st := (List.cons.inj e).1
  have e2 := (List.cons.inj e).2
  have e3 : c'.lb = g.lb := (List.cons.inj e2).1
  have e4 := (List.cons.inj e2).2
  have e5 : c'.lsp = g.lsp := (List.cons.inj e4).1
  have e6 := (List.cons.inj e4).2
  have e7 : c'.lh = g.lh := (List.cons.inj e6).1
  have e8 := (List.cons.inj e6).2
  have e9 : c'.lr = g.lr := (List.cons.inj e8).1
  have ls : (mix c' h).ls = (mix g h).ls := by show [c'.st, c'.lb, c'.lsp, c'.lh, c'.lr, h.hd, h.kp, h.w] = [g.st, g.lb, g.lsp, g.lh, g.lr, h.hd, h.kp, h.w]; rw [e1, e3, e5, e7, e9]
  have ls0 : (mix c' h).ls0 = (mix g h).ls0 := by show [c'.st, c'.lb, c'.lsp, c'.lh, c'.lr, h.hd] = [g.st, g.lb, g.lsp, g.lh, g.lr, h.hd]; rw [e1, e3, e5, e7, e9]
  have kp : ∀ {l : Nat} {o : AO}, l ∈ hlocs h → H[l]? = some o → H'[l]? = some o := fun hm ho => by
    rw [hout _ (List.getElem?_eq_some_iff.mp ho).1 (hL _ hm)]; exact ho
  rcases O with ⟨hv, O⟩ | ⟨hv, O⟩
  · refine .inl ⟨hv, ⟨?_, by rw [ls0]; exact O.nd, Nat.le_refl _, fun u_ u_ u_ => rfl⟩⟩
    have m1 : h.hd ∈ hlocs h := by rw [hl_none (c := h) hv]; simp
    intro j l o hj ho
    match j, hj, ho with
    | 0, hj, ho => exact F 0 l o hj ho
    | 1, hj, ho => exact F 1 l o hj ho
    | 2, hj, ho => exact F 2 l o hj ho
    | 3, hj, ho => exact F 3 l o hj ho
    | 4, hj, ho => exact F 4 l o hj ho
    | 5, hj, ho =>
      have hj' : h.hd = l := Option.some.inj hj
      subst hj'
      exact kp m1 (O.all 5 h.hd o rfl ho)
    | j + 6, hj, ho => exact absurd hj (by simp [Cn.ls0])
  · refine .inr ⟨hv, ⟨?_, by rw [ls]; exact O.nd, Nat.le_refl _, fun u_ u_ u_ => rfl⟩⟩
    have m1 : h.hd ∈ hlocs h ∧ h.kp ∈ hlocs h ∧ h.w ∈ hlocs h := by rw [hl_loc (c := h) (l := h.w) hv]; simp
    intro j l o hj ho
    match j, hj, ho with
    | 0, hj, ho => exact F 0 l o hj ho
    | 1, hj, ho => exact F 1 l o hj ho
    | 2, hj, ho => exact F 2 l o hj ho
    | 3, hj, ho => exact F 3 l o hj ho
    | 4, hj, ho => exact F 4 l o hj ho
    | 5, hj, ho =>
      have hj' : h.hd = l := Option.some.inj hj
      subst hj'
      exact kp m1.1 (O.all 5 h.hd o rfl ho)
    | 6, hj, ho =>
      have hj' : h.kp = l := Option.some.inj hj
      subst hj'
      exact kp m1.2.1 (O.all 6 h.kp o rfl ho)
    | 7, hj, ho =>
      have hj' : h.w = l := Option.some.inj hj
      subst hj'
      exact kp m1.2.2 (O.all 7 h.w o rfl ho)
    | j + 8, hj, ho => exact absurd hj (by simp [Cn.ls])

theorem One.lt {H : AHeap} {g h : Cn} (O : One H (mix g h)) {l : Nat} (hl : l ∈ hlocs h) : l < H.length := by
  rcases O with ⟨hv, O⟩ | ⟨hv, O⟩
  · rw [hl_none (c := h) hv] at hl
    simp at hl
    subst hl
    exact (List.getElem?_eq_some_iff.mp (O.all 5 h.hd _ rfl rfl)).1
  · rw [hl_loc (c := h) (l := h.w) hv] at hl
    simp at hl
    rcases hl with rfl | rfl | rfl
    · exact (List.getElem?_eq_some_iff.mp (O.all 5 h.hd _ rfl rfl)).1
    · exact (List.getElem?_eq_some_iff.mp (O.all 6 h.kp _ rfl rfl)).1
    · exact (List.getElem?_eq_some_iff.mp (O.all 7 h.w _ rfl rfl)).1

theorem Rep.step {H H' : AHeap} {g h c' : Cn} {hs : List Cn} {i : Nat} {L : List Nat} (R : Rep H g hs) (hi : hs[i]? = some h) (O : One H' c') (e : gl5 c' = gl5 g) (ehs : c'.hs = g.hs) (ehd : c'.hd = h.hd)
    (F : ∀ (j l : Nat) (o : AO), (gl5 c')[j]? = some l → (c'.os)[j]? = some o → H'[l]? = some o) (hl : H.length ≤ H'.length) (hout : ∀ l, l < H.length → l ∉ L → H'[l]? = H[l]?)
    (hL : ∀ l ∈ L, l ∈ gl5 g ∨ l ∈ hlocs h ∨ H.length ≤ l) (hn : ∀ l ∈ hlocs c', l ∈ hlocs h ∨ H.length ≤ l) : Rep H' c' (hs.set i c') where
  hsv := by
    rw [ehs, R.hsv, List.map_set]
    have hil := (List.getElem?_eq_some_iff.mp hi).1
    apply List.ext_getElem?
    intro j
    by_cases hij : i = j
    · subst hij
      rw [List.getElem?_set_self (by rw [List.length_map]; exact hil), List.getElem?_map, hi, ehd]; rfl
    · rw [List.getElem?_set_ne hij]
  one := fun j hj hjj => by
    obtain ⟨ow, o1, o2⟩ := R.ow
    by_cases hij : i = j
    · subst hij
      rw [List.getElem?_set_self (List.getElem?_eq_some_iff.mp hi).1] at hjj
      cases hjj
      rw [mix_self]; exact O
    · rw [List.getElem?_set_ne hij] at hjj
      have Oj := R.one j hj hjj
      refine one_keep Oj e F hl hout fun l hlm hLm => ?_
      have q := o2 j hj hjj l hlm
      rcases hL l hLm with z | z | z
      · rw [o1 l z] at q; (first | lia | omega)
      · rw [o2 i h hi l z] at q; (first | lia | omega)
      · exact absurd (Oj.lt hlm) (by (first | lia | omega))
  ow := by
    obtain ⟨ow, o1, o2⟩ := R.ow
    refine ⟨fun l => if l < H.length then ow l else i + 1, fun l hm => ?_, fun j hj hjj l hm => ?_⟩
    · rw [e] at hm
      have hlt : l < H.length := by
        have Oi := R.one i h hi
        have : ∃ o, H[l]? = some o := by
          simp only [gl5, List.mem_cons, List.not_mem_nil, or_false] at hm
          rcases Oi with ⟨_, Oi⟩ | ⟨_, Oi⟩
          · rcases hm with rfl | rfl | rfl | rfl | rfl
            · exact ⟨_, Oi.all 0 g.st _ rfl rfl⟩
            · exact ⟨_, Oi.all 1 g.lb _ rfl rfl⟩
            · exact ⟨_, Oi.all 2 g.lsp _ rfl rfl⟩
            · exact ⟨_, Oi.all 3 g.lh _ rfl rfl⟩
            · exact ⟨_, Oi.all 4 g.lr _ rfl rfl⟩
          · rcases hm with rfl | rfl | rfl | rfl | rfl
            · exact ⟨_, Oi.all 0 g.st _ rfl rfl⟩
            · exact ⟨_, Oi.all 1 g.lb _ rfl rfl⟩
            · exact ⟨_, Oi.all 2 g.lsp _ rfl rfl⟩
            · exact ⟨_, Oi.all 3 g.lh _ rfl rfl⟩
            · exact ⟨_, Oi.all 4 g.lr _ rfl rfl⟩
        obtain ⟨o, ho⟩ := this
        exact (List.getElem?_eq_some_iff.mp ho).1
      simp only [hlt, if_true]
      exact o1 l hm
    · by_cases hij : i = j
      · subst hij
        rw [List.getElem?_set_self (List.getElem?_eq_some_iff.mp hi).1] at hjj
        cases hjj
        rcases hn l hm with z | z
        · have hlt := (R.one i h hi).lt z
          simp only [hlt, if_true]
          exact o2 i h hi l z
        · have hlt : ¬ l < H.length := by (first | lia | omega)
          simp only [hlt, if_false]
      · rw [List.getElem?_set_ne hij] at hjj
        have hlt := (R.one j hj hjj).lt hm
        simp only [hlt, if_true]
        exact o2 j hj hjj l hm

theorem foc_g {H₀ H : AHeap} {c : Cn} (F : Foc H₀ H c) : ∀ (j l : Nat) (o : AO), (gl5 c)[j]? = some l → (c.os)[j]? = some o → H[l]? = some o := fun j l o hj ho => by
  match j, hj, ho with
  | 0, hj, ho => exact F.all 0 l o hj ho
  | 1, hj, ho => exact F.all 1 l o hj ho
  | 2, hj, ho => exact F.all 2 l o hj ho
  | 3, hj, ho => exact F.all 3 l o hj ho
  | 4, hj, ho => exact F.all 4 l o hj ho
  | j + 5, hj, ho => exact absurd hj (by simp [gl5])
theorem foc0_g {H₀ H : AHeap} {c : Cn} (F : Foc0 H₀ H c) : ∀ (j l : Nat) (o : AO), (gl5 c)[j]? = some l → (c.os)[j]? = some o → H[l]? = some o := fun j l o hj ho => by
  match j, hj, ho with
  | 0, hj, ho => exact F.all 0 l o hj ho
  | 1, hj, ho => exact F.all 1 l o hj ho
  | 2, hj, ho => exact F.all 2 l o hj ho
  | 3, hj, ho => exact F.all 3 l o hj ho
  | 4, hj, ho => exact F.all 4 l o hj ho
  | j + 5, hj, ho => exact absurd hj (by simp [gl5])
theorem foc_one {H₀ H : AHeap} {c : Cn} (F : Foc H₀ H c) (h : c.wv = .none ∨ c.wv = .loc c.w) : One H c := by
  rcases h with h | h
  · refine .inl ⟨h, ⟨?_, (List.nodup_append.mp (show (c.ls0 ++ [c.kp, c.w]).Nodup from F.nd)).1, Nat.le_refl _, fun u_ u_ u_ => rfl⟩⟩
    intro j l o hj ho
    match j, hj, ho with
    | 0, hj, ho => exact F.all 0 l o hj ho
    | 1, hj, ho => exact F.all 1 l o hj ho
    | 2, hj, ho => exact F.all 2 l o hj ho
    | 3, hj, ho => exact F.all 3 l o hj ho
    | 4, hj, ho => exact F.all 4 l o hj ho
    | 5, hj, ho => exact F.all 5 l o hj ho
    | j + 6, hj, ho => exact absurd hj (by simp [Cn.ls0])
  · exact .inr ⟨h, ⟨F.all, F.nd, Nat.le_refl _, fun u_ u_ u_ => rfl⟩⟩

noncomputable def wvOf (h : Hd) (l : Lh) : AV := match h.work with
  | none => .none
  | some _ => .loc l.w
noncomputable def HIs (L : Ly) (h : Hd) (c : Cn) : Prop := ∃ l t w, c = cn L l t h.prog h.place (wvOf h l) w ∧ ∀ w', h.work = some w' → w = w'
noncomputable def Free (g : Cn) (hs : List Cn) (l : Nat) : Prop := l ∉ gl5 g ∧ ∀ (i : Nat) h, hs[i]? = some h → l ∉ hlocs h
structure TR (H : AHeap) (L : Ly) (t : Tw) (U : Nat → Prop) (g : Cn) (hs : List Cn) : Prop where
  gis : ∃ l pr p wv w, g = cn L l t pr p wv w
  rep : Rep H g hs
  len : hs.length = t.hands.length
  his : ∀ (i : Nat) h c, t.hands[i]? = some h → hs[i]? = some c → HIs L h c
  fr : ∀ x, U x → x < H.length ∧ Free g hs x
noncomputable def TRep (H : AHeap) (L : Ly) (t : Tw) (U : Nat → Prop) : Prop := ∃ g hs, TR H L t U g hs
section
variable {H H' : AHeap} {L : Ly} {t t' : Tw} {U : Nat → Prop} {g c c' : Cn} {hs : List Cn} {i k : Nat} {h h' : Hd} {l l' : Lh} {w' : Wk} {Ls : List Nat}
theorem hd_in (c : Cn) : c.hd ∈ hlocs c := by
  unfold hlocs
  split <;> exact List.mem_cons_self
theorem trep_step (T : TR H L t U g hs) (hi : hs[i]? = some c) (O : One H' c') (ec : c' = cn L l' t' h'.prog h'.place (wvOf h' l') w') (hw' : ∀ w, h'.work = some w → w' = w) (eh : t'.hands = t.hands.set i h') (ehd : c'.hd = c.hd)
    (F : ∀ (j l : Nat) (o : AO), (gl5 c')[j]? = some l → (c'.os)[j]? = some o → H'[l]? = some o) (hl : H.length ≤ H'.length) (hout : ∀ l, l < H.length → l ∉ Ls → H'[l]? = H[l]?)
    (hL : ∀ l ∈ Ls, l ∈ gl5 c' ∨ l ∈ hlocs c ∨ H.length ≤ l) (hn : ∀ l ∈ hlocs c', l ∈ hlocs c ∨ H.length ≤ l) : TRep H' L t' U ∧ ∀ x, U x → H'[x]? = H[x]? := by
  obtain ⟨l0, pr, p, wv, w0, eg⟩ := T.gis
  have e5 : gl5 c' = gl5 g := by rw [ec, eg]; rfl
  have hil := (List.getElem?_eq_some_iff.mp hi).1
  refine ⟨⟨c', hs.set i c', ⟨_, _, _, _, _, ec⟩, T.rep.step (L := Ls) hi O e5 (by rw [ec, eg]; rfl) ehd F hl hout (fun l h => e5 ▸ hL l h) hn, by rw [List.length_set, T.len, eh, List.length_set], fun j h1 c1 q1 q2 => ?_, fun x hx => ?_⟩, fun x hx => ?_⟩
  · rw [eh] at q1
    by_cases hij : i = j
    · subst hij
      rw [List.getElem?_set_self (T.len ▸ hil)] at q1
      rw [List.getElem?_set_self hil] at q2
      cases q1; cases q2
      exact ⟨l', t', w', ec, hw'⟩
    · rw [List.getElem?_set_ne hij] at q1 q2
      exact T.his j h1 c1 q1 q2
  · obtain ⟨f0, f1, f2⟩ := T.fr x hx
    refine ⟨Nat.lt_of_lt_of_le f0 hl, by rw [e5]; exact f1, fun j c1 q1 hm => ?_⟩
    by_cases hij : i = j
    · subst hij
      rw [List.getElem?_set_self hil] at q1
      cases q1
      rcases hn x hm with z | z
      · exact f2 i c hi z
      · exact absurd f0 (Nat.not_lt.mpr z)
    · rw [List.getElem?_set_ne hij] at q1
      exact f2 j c1 q1 hm
  · obtain ⟨f0, f1, f2⟩ := T.fr x hx
    refine hout x f0 fun hm => ?_
    rcases hL x hm with z | z | z
    · exact f1 (e5 ▸ z)
    · exact f2 i c hi z
    · exact absurd f0 (Nat.not_lt.mpr z)
theorem trep_work (T : TR H L t U g hs) (hi : hs[i]? = some c) (F : Foc H H' (cn L l' t' h'.prog h'.place (wvOf h' l') w')) (hw' : ∀ w, h'.work = some w → w' = w) (eh : t'.hands = t.hands.set i h') (ehd : l'.hd = c.hd)
    (hl : (l'.kp ∈ hlocs c ∧ l'.w ∈ hlocs c) ∨ (H.length ≤ l'.kp ∧ H.length ≤ l'.w)) : TRep H' L t' U ∧ ∀ x, U x → H'[x]? = H[x]? := by
  have sub : ∀ x, x = l'.hd ∨ x = l'.kp ∨ x = l'.w → x ∈ hlocs c ∨ H.length ≤ x := fun x q => by
    rcases q with q | q | q
    · rw [q, ehd]; exact .inl (hd_in c)
    · rw [q]; exact hl.imp (·.1) (·.1)
    · rw [q]; exact hl.imp (·.2) (·.2)
  have hwv : wvOf h' l' = .none ∨ wvOf h' l' = .loc l'.w := by
    unfold wvOf
    split
    · exact .inl rfl
    · exact .inr rfl
  refine trep_step T hi (foc_one F hwv) rfl hw' eh ehd (foc_g F) F.len (fun l a b => F.out l a b) (fun l hm => ?_) fun l hm => ?_
  · rcases mem8 hm with q | q
    · exact .inl q
    · exact .inr (sub l q)
  · rcases hwv with q | q
    · rw [hl_none (c := cn L l' t' h'.prog h'.place (wvOf h' l') w') q] at hm
      exact sub l (.inl (List.mem_singleton.mp hm))
    · rw [hl_loc (c := cn L l' t' h'.prog h'.place (wvOf h' l') w') q] at hm
      exact sub l ((List.mem_cons.mp hm).imp id fun q => (List.mem_cons.mp q).imp id fun q => List.mem_singleton.mp q)
theorem done_is {r : Tw × Option Wk × Td} {told : AV} (D : Done H L l h.prog h.place r told H') : told = tdV r.2.2 ∧ ∃ w', Foc H H' (cn L l r.1 (h.next r.2.1).prog (h.next r.2.1).place (wvOf (h.next r.2.1) l) w') ∧ ∀ w, (h.next r.2.1).work = some w → w' = w := by
  obtain ⟨t1, o, td⟩ := r
  obtain ⟨e, D⟩ := D
  refine ⟨e, ?_⟩
  cases o with
  | some w1 => exact ⟨w1, D, fun w e => Option.some.inj e⟩
  | none => obtain ⟨w1, D⟩ := D; exact ⟨w1, D, fun w e => nomatch e⟩
theorem fst_is (k : Dk) : fst (dkS k) = nxS (firstN k) := by cases k <;> kernel_rfl
theorem go_work (n : Nat) {H1 : AHeap} {hd : Nat} {wv : AV} {w : Wk} (T : TR H L t U g hs) (hi : hs[i]? = some c) (A : AllOk k t) (hk : k < 3000) (hn : L.hs[i]? = some (.loc l.hd)) (ehd : l.hd = c.hd)
    (g1 : pItem (.loc L.st) (.str "hands") H = some (.ok (.loc L.lh), H)) (g2 : pItem (.loc L.lh) (.int i) H = some (.ok (.loc hd), H)) (g3 : pItem (.loc hd) (.str "work") H = some (.ok wv, H))
    (g4 : pItem (.loc hd) (.str "place") H = some (.ok (.int h.place), H)) (g5 : pItem (.loc hd) (.str "program") H = some (.ok (.tup (h.prog.map deedV)), H)) (hc : pIsNone wv = false ∨ (h.place : Int) ≠ (h.prog.map deedV).length)
    (hw : callP P13 (n + 4) "work_of" [.loc L.st, .int i] H = some (.ok (.loc l.w), H1)) (F : Foc H H1 (cn L l t h.prog h.place (.loc l.w) w)) (W : WkOk k t.boxes.length t.rows.length w) (hh : t.hands[i]? = some h) (hnow : h.now t.time = some w)
    (hl : (l.kp ∈ hlocs c ∧ l.w ∈ hlocs c) ∨ (H.length ≤ l.kp ∧ H.length ≤ l.w)) :
    Rn (callP P13 (n + 5) "go" [.loc L.st, .int i]) H fun told H' => told = tdV (step t i).2 ∧ TRep H' L (step t i).1 U ∧ ∀ x, U x → H'[x]? = H[x]? := by
  have es : step t i = ({ (op t i h.place w).1 with hands := t.hands.set i (h.next (op t i h.place w).2.1), time := t.time + 1 }, (op t i h.place w).2.2) := by unfold step; rw [hh]; show (match h.now t.time with | none => _ | some w => _) = _; rw [hnow]
  have O := op_wf (i := i) (p := h.place) A.tw W
  refine Rn.mono (s_go (n + 3) (num := i) (G := fun told c2 => told = tdV (op t i h.place w).2.2 ∧ ∃ w', c2 = cn L l (op t i h.place w).1 (h.next (op t i h.place w).2.1).prog (h.next (op t i h.place w).2.1).place (wvOf (h.next (op t i h.place w).2.1) l) w' ∧ ∀ w2, (h.next (op t i h.place w).2.1).work = some w2 → w' = w2)
    (hand := []) (c := cn L l t h.prog h.place (.loc l.w) w) g1 g2 g3 g4 g5 hc (nxS_ok w.next) hw F ((r_op (n + 1) F A.tw hk hn W).mono fun told H2 D => ?_)) fun told H' ⟨c2, F2, e, w', ec, hw'⟩ => ?_
  · obtain ⟨e, w', F', hw'⟩ := done_is D
    exact ⟨cn L l (op t i h.place w).1 (h.next (op t i h.place w).2.1).prog (h.next (op t i h.place w).2.1).place (wvOf (h.next (op t i h.place w).2.1) l) w', rfl, F', e, w', rfl, hw'⟩
  · subst ec
    rw [es]
    have F3 : Foc H H' (cn L l { (op t i h.place w).1 with hands := t.hands.set i (h.next (op t i h.place w).2.1), time := t.time + 1 } (h.next (op t i h.place w).2.1).prog (h.next (op t i h.place w).2.1).place (wvOf (h.next (op t i h.place w).2.1) l) w') := by
      have e2 : ((op t i h.place w).1.time : Int) + 1 = ((t.time + 1 : Nat) : Int) := by rw [O.1.time]; rfl
      have F2' : Foc H H' ((cn L l (op t i h.place w).1 (h.next (op t i h.place w).2.1).prog (h.next (op t i h.place w).2.1).place (wvOf (h.next (op t i h.place w).2.1) l) w').u_time (((op t i h.place w).1.time : Int) + 1)) := F2
      rw [e2] at F2'
      exact F2'
    exact ⟨e, trep_work T hi F3 hw' rfl ehd hl⟩
theorem go_step (n : Nat) (T : TRep H L t U) (A : AllOk k t) (hk : k < 3000) (hi : i < t.hands.length) :
    Rn (callP P13 (n + 5) "go" [.loc L.st, .int i]) H fun told H' => told = tdV (step t i).2 ∧ TRep H' L (step t i).1 U ∧ ∀ x, U x → H'[x]? = H[x]? := by
  obtain ⟨g, hs, T⟩ := T
  have hh := List.getElem?_eq_getElem hi
  have hc := List.getElem?_eq_getElem (T.len ▸ hi : i < hs.length)
  generalize t.hands[i] = h at hh
  generalize hs[i]'(T.len ▸ hi) = c at hc
  obtain ⟨l, t0, w, ec, hwe⟩ := T.his i h c hh hc
  obtain ⟨l0, pr, p, wv, w0, eg⟩ := T.gis
  have hn : L.hs[i]? = some (.loc l.hd) := by
    have := T.rep.hsv
    rw [eg] at this
    rw [show L.hs = hs.map fun h => .loc h.hd from this, List.getElem?_map, hc, ec]; rfl
  have HK := A.hd h (List.mem_of_getElem? hh)
  have O := T.rep.one i c hc
  rw [eg, ec] at O
  have ehd : l.hd = c.hd := by rw [ec]; rfl
  cases hwk : h.work with
  | some w1 =>
    have ew := hwe w1 hwk
    subst ew
    have ev : wvOf h l = .loc l.w := by unfold wvOf; rw [hwk]
    rw [ev] at ec O
    rcases O with ⟨q, _⟩ | ⟨_, F⟩
    · cases q
    · have F : Foc H H (cn L l t h.prog h.place (.loc l.w) w) := F
      obtain ⟨hp, W⟩ := HK.work w hwk
      exact go_work n T hc A hk hn ehd F.gHands (item_loc F.h hn) F.gWork F.gPlace F.gProg (.inl rfl) (s_work_old (n + 3) F hn rfl) F W hh (by unfold Hd.now; rw [hwk])
        (.inl (by rw [ec, hl_loc (c := cn L l t0 h.prog h.place (.loc l.w) w) rfl]; exact ⟨List.mem_cons_of_mem _ List.mem_cons_self, List.mem_cons_of_mem _ (List.mem_cons_of_mem _ List.mem_cons_self)⟩))
  | none =>
    have ev : wvOf h l = .none := by unfold wvOf; rw [hwk]
    rw [ev] at ec O
    rcases O with ⟨_, F⟩ | ⟨q, _⟩
    · have F : Foc0 H H (cn L l t h.prog h.place .none w) := F
      by_cases hp : h.place = h.prog.length
      · have es : step t i = ({ t with time := t.time + 1 }, .rest) := by
          unfold step; rw [hh]; show (match h.now t.time with | none => _ | some w => _) = _
          have : h.now t.time = none := by unfold Hd.now; rw [hwk]; show (h.prog[h.place]?).map _ = none; rw [List.getElem?_eq_none (Nat.le_of_eq hp.symm)]; rfl
          rw [this]
        refine Rn.mono (s_go_rest (n + 4) F (num := i) hn rfl (by show (h.place : Int) = ((h.prog.map deedV).length : Int); rw [List.length_map, hp])) fun told H' ⟨e, F'⟩ => ?_
        rw [es]
        refine ⟨e, trep_step (l' := l) (h' := h) (w' := w) (c' := cn L l { t with time := t.time + 1 } h.prog h.place .none w) (Ls := (cn L l t h.prog h.place .none w).ls0) T hc (.inl ⟨rfl, ⟨F'.all, F'.nd, Nat.le_refl _, fun u_ u_ u_ => rfl⟩⟩) (by rw [ev]) hwe ?_ ehd (foc0_g F') F'.len (fun l a b => F'.out l a b) (fun x hm => ?_) fun x hm => ?_⟩
        · show t.hands = t.hands.set i h
          exact (List.ext_getElem? fun j => by
            by_cases hij : i = j
            · subst hij; rw [List.getElem?_set_self hi, hh]
            · rw [List.getElem?_set_ne hij])
        · rcases mem6 hm with q | q
          · exact .inl q
          · rw [show x = l.hd from q, ehd]; exact .inr (.inl (hd_in c))
        · rw [show x = l.hd from List.mem_singleton.mp hm, ehd]; exact .inl (hd_in c)
      · have hlt : h.place < h.prog.length := Nat.lt_of_le_of_ne HK.place hp
        have hd : (cn L l t h.prog h.place .none w).prog[h.place]? = some (.tup (.str (dkS h.prog[h.place].k) :: dkR h.prog[h.place].k h.prog[h.place].v)) := by
          show (h.prog.map deedV)[h.place]? = _
          rw [List.getElem?_map, List.getElem?_eq_getElem hlt, ← deedK_is]; rfl
        obtain ⟨a, H1, e1, e2, F1⟩ := s_work_new (n + 3) F (num := i) hn rfl rfl hd (dkS_wd _)
        subst e2
        have F2 : Foc H H1 (cn L ⟨l.hd, H.length + 1, H.length⟩ t h.prog h.place (.loc (H.length + 1)) (newW h.prog[h.place] t.time)) := by
          rw [← deedK_is, fst_is] at F1
          exact F1
        exact go_work (l := ⟨l.hd, H.length + 1, H.length⟩) n T hc A hk hn ehd F.gHands (item_loc F.h hn) F.gWork F.gPlace F.gProg (.inr (by rw [List.length_map]; exact fun q => hp (Int.ofNat_inj.mp q))) e1 F2 (newW_ok _) hh (by unfold Hd.now; rw [hwk]; show (h.prog[h.place]?).map _ = _; rw [List.getElem?_eq_getElem hlt]; rfl)
          (.inr ⟨Nat.le_refl _, Nat.le_succ _⟩)
    · cases q
end

end Mine


set_option autoImplicit false
set_option linter.unusedVariables false
set_option maxRecDepth 100000
namespace Mine
open PySem PyProof.Rows

theorem s_mixed (n : Nat) (c k : Int) : callP P13 (n + 1) "_law_mixed" [.int c, .int k] = pure (.int (mixed c k)) := by
  refine callQ (σ := [some (.int c), some (.int k), none]) (by kernel_rfl) (by kernel_rfl) (by kernel_rfl) ?_
  have h := fmod_lt ((c + 7919 * k) * 48271) (b := 2147483647) (by decide)
  rw [c_mixed_0, m_mulL (by decide), pure_bind, m_add, pure_bind, m_mulR (by decide), pure_bind, m_mod (by decide), pure_bind, m_mulL (by omega), pure_bind, m_mod (by decide)]
  rfl

theorem s_cell_at (n : Nat) (ns : List Int) (k : Nat) : callP P13 (n + 2) "_law_cell_at" [.lst (ns.map .int), .int k] = pure (.int (cellAt ns k)) := by
  refine callQ (σ := [some (.lst (ns.map .int)), some (.int k)]) (by kernel_rfl) (by kernel_rfl) (by kernel_rfl) ?_
  rw [c_cell_at_0, e_len_lst, pure_bind, e_lt, pure_bind]
  unfold cellAt
  cases hk : ns[k]? with
  | none =>
    have : ¬ ((k : Int) < (((ns.map AV.int).length : Nat) : Int)) := by rw [List.length_map]; rw [List.getElem?_eq_none_iff] at hk; (first | lia | omega)
    rw [decide_eq_false this]
    simp only [pure_bind, e_go_next, c_cell_at_t_1]
  | some c =>
    have hlt := (List.getElem?_eq_some_iff.mp hk).1
    have : ((k : Int) < (((ns.map AV.int).length : Nat) : Int)) := by rw [List.length_map]; (first | lia | omega)
    rw [decide_eq_true this]
    have hit : (ns.map AV.int)[k]? = some (.int c) := by rw [List.getElem?_map, hk]; rfl
    simp only [e_item_lst hit, e_eachp, e_each0, pure_bind, s_mixed, e_go_ret]

theorem s_value_by (n : Nat) (c : Int) : callP P13 (n + 1) "_law_value_by" [.int c] = pure (.int (valueBy c)) := by
  refine callQ (σ := [some (.int c)]) (by kernel_rfl) (by kernel_rfl) (by kernel_rfl) ?_
  rw [c_value_by_0, m_mod (by decide), pure_bind, e_eqi, pure_bind]
  unfold valueBy
  by_cases h : c.fmod 4 = 0
  · rw [decide_eq_true h, if_pos h]
    simp only [m_div (i := c) (j := 4) d4, pure_bind, m_mulR (j := 7919) (by decide)]
    rfl
  · rw [decide_eq_false h, if_neg h]
    simp only [pure_bind, e_go_next, c_value_by_t_1, m_div (i := c) (j := 4) d4, m_mod (j := 5) (by decide), m_sub]

theorem deed_rest (n : Nat) (c : Int) (k : Dk) (b : Bool) (nm : Str) (h : pCmp .In (.str nm) (.lst [.str "push", .str "swap"]) = pure b) (hk : (cond b (.tup [.str nm, .int (valueBy (c.fdiv 12))]) (.tup [.str nm]) : AV) = deedK k (valueBy (c.fdiv 12))) :
    (do let c4 ← ((do let c8 ← (newL false [.str "push", .str "swap"]); pCmp .In (.str nm) c8)); match c4 with | true => (do let r ← (do let y7 ← (do let vs6 ← eachM [pure (.str nm), (do let vs5 ← eachM [(pBin false .FloorDiv (.int c) (.int 12))]; callP P13 (n + 1) "_law_value_by" vs5)]; pure (.tup vs6)); pure (.ret y7)); goOn (tl P13 (callP P13 (n + 1)) "_law_deed_by" [] 2 38) r) | false => (do let r ← pure (.next [some (.int c), some (.str nm)]); goOn (tl P13 (callP P13 (n + 1)) "_law_deed_by" [] 2 38) r) : M Res)
      = pure (.ret (deedK k (valueBy (c.fdiv 12)))) := by
  rw [e_newL (by decide), pure_bind, h, pure_bind, ← hk]
  cases b with
  | true => simp only [m_div (i := c) (j := 12) d12, e_eachp, e_each0, pure_bind, s_value_by, e_go_ret]; rfl
  | false => simp only [pure_bind, e_go_next, c_deed_by_t_2]; rfl

noncomputable def DdOk (v : Int) (a : AV) : Prop := ∃ (b : Bool) (k : Dk) (nm : Str), a = .str nm ∧ pCmp .In (.str nm) (.lst [.str "push", .str "swap"]) = pure b ∧ (cond b (.tup [.str nm, .int v]) (.tup [.str nm]) : AV) = deedK k v
theorem dd_push (v : Int) : DdOk v (.str "push") := ⟨true, .push, _, rfl, by kernel_rfl, rfl⟩
theorem dd_pop (v : Int) : DdOk v (.str "pop") := ⟨false, .pop, _, rfl, by kernel_rfl, rfl⟩
theorem dd_top (v : Int) : DdOk v (.str "top") := ⟨false, .top, _, rfl, by kernel_rfl, rfl⟩
theorem dd_swap (v : Int) : DdOk v (.str "swap") := ⟨true, .swap, _, rfl, by kernel_rfl, rfl⟩
theorem dd_clear (v : Int) : DdOk v (.str "clear") := ⟨false, .clear, _, rfl, by kernel_rfl, rfl⟩
noncomputable def dd12 : List AV := [.str "push", .str "push", .str "push", .str "push", .str "pop", .str "pop", .str "pop", .str "top", .str "top", .str "swap", .str "swap", .str "clear"]
noncomputable def All (P : AV → Prop) : List AV → Prop
  | [] => True
  | a :: r => P a ∧ All P r
theorem All.at {P : AV → Prop} : ∀ {l : List AV} {j : Nat} {a : AV}, All P l → l[j]? = some a → P a
  | _ :: _, 0, _, h, e => Option.some.inj e ▸ h.1
  | _ :: r, j + 1, _, h, e => All.at (l := r) (j := j) h.2 e
theorem dd12_ok (v : Int) : All (DdOk v) dd12 := ⟨dd_push v, dd_push v, dd_push v, dd_push v, dd_pop v, dd_pop v, dd_pop v, dd_top v, dd_top v, dd_swap v, dd_swap v, dd_clear v, trivial⟩
theorem s_deed_by (n : Nat) (c : Int) : ∃ k, callP P13 (n + 2) "_law_deed_by" [.int c] = pure (deedK k (valueBy (c.fdiv 12))) := by
  have h := fmod_lt c (b := 12) (by decide)
  obtain ⟨j, hm⟩ := Int.eq_ofNat_of_zero_le h.1
  have hj : j < dd12.length := Int.ofNat_lt.mp (hm ▸ h.2)
  have e := List.getElem?_eq_getElem hj
  obtain ⟨b, k, nm, h1, h2, h3⟩ := (dd12_ok (valueBy (c.fdiv 12))).at e
  rw [h1] at e
  refine ⟨k, callQ (σ := [some (.int c), none]) (by kernel_rfl) (by kernel_rfl) (by kernel_rfl) ?_⟩
  unfold dd12 at e
  rw [c_deed_by_0, e_newL (by decide), pure_bind, m_mod (by decide), pure_bind, hm, e_item_lst (k := j) e, pure_bind]
  exact deed_rest n c k b nm h2 h3

theorem deed_is (n : Nat) (k : Dk) (v : Int) : callP P13 (n + 2) "is_deed" [deedK k v] = pure (.bool true) := by
  cases k <;> kernel_rfl

theorem s_start_t (n : Nat) (c m : Int) (hm : 0 ≤ m ∧ m ≤ 60) : ∃ L : List Int, L.length ≤ 60 ∧ tl P13 (callP P13 (n + 1)) "_law_start_by" [] 2 38 [some (.int c), some (.int m)] = pure (.ret (.lst (L.map .int))) := by
  have hb : ∀ a ∈ rangeL 0 m, (do let y2 ← (do let vs4 ← eachM [(do let vs3 ← eachM [(pBin false .FloorDiv (.int c) (.int 8)), pure a]; callP P13 (n + 1) "_law_mixed" vs3)]; callP P13 (n + 1) "_law_value_by" vs4); pure (some y2) : M (Option AV)) = pure (some ((fun a => match a with | .int i => AV.int (valueBy (mixed (c.fdiv 8) i)) | a => a) a)) := by
    intro a ha
    obtain ⟨i, rfl, hi⟩ := mem_rangeL ha
    simp only [m_div (i := c) d8, e_eachp, e_each0, pure_bind, s_mixed, s_value_by]
  refine ⟨(List.range (m - 0).toNat).map fun (k : Nat) => valueBy (mixed (c.fdiv 8) (0 + (k : Int))), ?_, ?_⟩
  · rw [List.length_map, List.length_range]; (first | lia | omega)
  · rw [c_start_by_t_2, e_range1, pure_bind, srcOf_range (by (first | lia | omega)) (by (first | lia | omega)), pure_bind, compM _ (by rw [rangeL_length]; (first | lia | omega)) hb, pure_bind, e_newL (by rw [List.length_map, rangeL_length]; have := LIMis; (first | lia | omega)), pure_bind]
    unfold rangeL
    rw [List.map_map, List.map_map]
    rfl
theorem s_start_by (n : Nat) (c : Int) : ∃ L : List Int, L.length ≤ 60 ∧ callP P13 (n + 2) "_law_start_by" [.int c] = pure (.lst (L.map .int)) := by
  have h4 := fmod_lt c (b := 4) (by decide)
  have h61 := fmod_lt (c.fdiv 32) (b := 61) (by decide)
  by_cases h : (c.fdiv 4).fmod 8 = 1
  · obtain ⟨L, h1, h2⟩ := s_start_t n c ((c.fdiv 32).fmod 61) (by omega)
    refine ⟨L, h1, callQ (σ := [some (.int c), none]) (by kernel_rfl) (by kernel_rfl) (by kernel_rfl) ?_⟩
    rw [c_start_by_0, m_mod (by decide), pure_bind, m_div d4, pure_bind, m_mod (by decide), pure_bind, e_eqi, pure_bind, decide_eq_true h]
    simp only [m_div (i := c) d32, pure_bind, m_mod (j := 61) (by decide), e_go_next, h2]
  · obtain ⟨L, h1, h2⟩ := s_start_t n c (c.fmod 4) (by omega)
    refine ⟨L, h1, callQ (σ := [some (.int c), none]) (by kernel_rfl) (by kernel_rfl) (by kernel_rfl) ?_⟩
    rw [c_start_by_0, m_mod (by decide), pure_bind, m_div d4, pure_bind, m_mod (by decide), pure_bind, e_eqi, pure_bind, decide_eq_false h]
    simp only [pure_bind, e_go_next, h2]

theorem s_hands_by (n : Nat) (c : Int) : ∃ m : Nat, 1 ≤ m ∧ m ≤ 20 ∧ callP P13 (n + 1) "_law_hands_by" [.int c] = pure (.int m) := by
  have h4 := fmod_lt c (b := 4) (by decide)
  have h16 := fmod_lt (c.fdiv 32) (b := 16) (by decide)
  by_cases h : (c.fdiv 4).fmod 8 = 1
  · refine ⟨(5 + (c.fdiv 32).fmod 16).toNat, by omega, by omega, callQ (σ := [some (.int c)]) (by kernel_rfl) (by kernel_rfl) (by kernel_rfl) ?_⟩
    rw [c_hands_by_0, m_div d4, pure_bind, m_mod (by decide), pure_bind, e_eqi, pure_bind, decide_eq_true h]
    simp only [m_div (i := c) d32, pure_bind, m_mod (i := c.fdiv 32) (j := 16) (by decide), m_add, e_go_ret]
    rw [Int.toNat_of_nonneg (by omega)]
  · refine ⟨(1 + c.fmod 4).toNat, by omega, by omega, callQ (σ := [some (.int c)]) (by kernel_rfl) (by kernel_rfl) (by kernel_rfl) ?_⟩
    rw [c_hands_by_0, m_div d4, pure_bind, m_mod (by decide), pure_bind, e_eqi, pure_bind, decide_eq_false h]
    simp only [pure_bind, e_go_next, c_hands_by_t_1, m_mod (i := c) (j := 4) (by decide), m_add]
    rw [Int.toNat_of_nonneg (by omega)]

theorem s_cells (n : Nat) (ns : List Int) (hns : ns.length ≤ 63) (a b : Nat) (hab : a ≤ b ∧ b ≤ 63) : ∃ L : List AV, AllN L ∧ L.length ≤ b - a ∧ callP P13 (n + 2) "_law_cells" [.lst (ns.map .int), .int a, .int b] = pure (.lst L) := by
  have hmin : (if ((ns.map AV.int).length : Int) < (b : Int) then ((ns.map AV.int).length : Int) else (b : Int)) ≤ b := by split <;> (first | lia | omega)
  have hmin2 : (if ((ns.map AV.int).length : Int) < (b : Int) then ((ns.map AV.int).length : Int) else (b : Int)) ≤ ns.length := by rw [List.length_map]; split <;> (first | lia | omega)
  have hmin3 : 0 ≤ (if ((ns.map AV.int).length : Int) < (b : Int) then ((ns.map AV.int).length : Int) else (b : Int)) := by split <;> (first | lia | omega)
  obtain ⟨e, he⟩ : ∃ e, e = (if ((ns.map AV.int).length : Int) < (b : Int) then ((ns.map AV.int).length : Int) else (b : Int)) := ⟨_, rfl⟩
  rw [← he] at hmin hmin2 hmin3
  have hb : ∀ u ∈ rangeL a e, (do let y2 ← (do let vs3 ← eachM [(pItem (.lst (ns.map .int)) u), pure u]; callP P13 (n + 1) "_law_mixed" vs3); pure (some y2) : M (Option AV)) = pure (some ((fun u => match u with | .int i => AV.int (mixed (ns.getD i.toNat 0) i) | u => u) u)) := by
    intro u hu
    obtain ⟨i, rfl, hi⟩ := mem_rangeL hu
    have hlt : a + i < ns.length := by (first | lia | omega)
    have hit : (ns.map AV.int)[a + i]? = some (.int ns[a + i]) := by rw [List.getElem?_map, List.getElem?_eq_getElem hlt]; rfl
    rw [show ((a : Int) + (i : Int)) = ((a + i : Nat) : Int) from by (first | lia | omega)]
    simp only [e_item_lst hit, e_eachp, e_each0, pure_bind, s_mixed, Int.toNat_natCast]
    rw [List.getD_eq_getElem?_getD, List.getElem?_eq_getElem hlt]; rfl
  refine ⟨(rangeL a e).map (fun u => match u with | .int i => AV.int (mixed (ns.getD i.toNat 0) i) | u => u), ?_, ?_, callQ (σ := [some (.lst (ns.map .int)), some (.int a), some (.int b)]) (by kernel_rfl) (by kernel_rfl) (by kernel_rfl) ?_⟩
  · intro x hx
    obtain ⟨u, hu, rfl⟩ := List.mem_map.mp hx
    obtain ⟨i, rfl, hi⟩ := mem_rangeL hu
    exact ⟨_, rfl, mixed_ge _ _⟩
  · rw [List.length_map, rangeL_length]; (first | lia | omega)
  · rw [c_cells_0, e_len_lst]
    simp only [e_eachp, e_each0, pure_bind]
    rw [show pBI false .min [.int b, .int ((ns.map AV.int).length : Nat)] = pure (.int e) from by rw [he]; rfl]
    simp only [e_eachp, e_each0, pure_bind]
    rw [e_range2, pure_bind, srcOf_range (by (first | lia | omega)) (by (first | lia | omega)), pure_bind, compM _ (by rw [rangeL_length]; (first | lia | omega)) hb, pure_bind, e_newL (by rw [List.length_map, rangeL_length]; have := LIMis; (first | lia | omega)), pure_bind]
noncomputable def Frm (H : AHeap) (l : Nat) (H1 : AHeap) : Prop := H.length ≤ l ∧ H.length ≤ H1.length ∧ ∀ x, x < H.length → H1[x]? = H[x]?
theorem Frm.app {H H1 : AHeap} {l : Nat} {o : AO} (h : Frm H l H1) : Frm H H1.length (H1 ++ [o]) := ⟨h.2.1, by rw [List.length_append]; exact Nat.le_add_right_of_le h.2.1, fun x hx => by rw [app_lt (Nat.lt_of_lt_of_le hx h.2.1)]; exact h.2.2 x hx⟩
theorem Frm.set {H H1 : AHeap} {l : Nat} {o : AO} (h : Frm H l H1) : Frm H l (H1.set l o) := ⟨h.1, by rw [List.length_set]; exact h.2.1, fun x hx => by rw [List.getElem?_set_ne (Nat.ne_of_gt (Nat.lt_of_lt_of_le hx h.1))]; exact h.2.2 x hx⟩
theorem we9_ok : All (fun a => ∃ t : Nat, t ≤ 7 ∧ a = .int t) [.int 1, .int 2, .int 2, .int 3, .int 3, .int 4, .int 6, .int 6, .int 7] := ⟨⟨1, by decide, rfl⟩, ⟨2, by decide, rfl⟩, ⟨2, by decide, rfl⟩, ⟨3, by decide, rfl⟩, ⟨3, by decide, rfl⟩, ⟨4, by decide, rfl⟩, ⟨6, by decide, rfl⟩, ⟨6, by decide, rfl⟩, ⟨7, by decide, rfl⟩, trivial⟩
theorem we9_at {q : Nat} (hq : q < 9) : ∃ t : Nat, t ≤ 7 ∧ ([.int 1, .int 2, .int 2, .int 3, .int 3, .int 4, .int 6, .int 6, .int 7] : List AV)[q]? = some (.int t) := by
  have e := List.getElem?_eq_getElem (l := ([.int 1, .int 2, .int 2, .int 3, .int 3, .int 4, .int 6, .int 6, .int 7] : List AV)) hq
  obtain ⟨t, h1, h2⟩ := we9_ok.at e
  exact ⟨t, h1, by rw [e, h2]⟩
theorem s_weaving (n : Nat) (ns : List Int) (hns : ns.length ≤ 63) (m : Nat) (hm : 1 ≤ m ∧ m ≤ 20) (H : AHeap) :
    Rn (callP P13 (n + 3) "_law_weaving_by" [.lst (ns.map .int), .int m]) H fun a H' => ∃ l W, a = .loc l ∧ H'[l]? = some (.list W) ∧ (∀ x ∈ W, InR m x) ∧ W.length ≤ 252 ∧ ∀ x, x < H.length → H'[x]? = H[x]? := by
  have L := LIMis
  obtain ⟨cs, hc1, hc2, hc3⟩ := s_cells n ns hns 27 63 (by (first | lia | omega))
  refine callRn (σ := [some (.lst (ns.map .int)), some (.int m), none, none, none, none]) (by kernel_rfl) (by kernel_rfl) (by kernel_rfl) ?_
  rw [c_weaving_by_0]
  refine .bof (newT (by simp)) ?_
  rw [show (AV.int 27) = .int ((27 : Nat) : Int) from rfl, show (AV.int 63) = .int ((63 : Nat) : Int) from rfl, hc3, pure_bind, srcOf_lst, pure_bind]
  refine .then (forI (fun k σ H1 => ∃ l W o1 o2 o3 o4, σ = [o1, some (.int m), some (.loc l), o2, o3, o4] ∧ H1[l]? = some (.list W) ∧ (∀ x ∈ W, InR m x) ∧ W.length ≤ 7 * k ∧ Frm H l H1)
    (Q := fun r H1 => ∃ l W o1 o2 o3 o4, r = .next [o1, some (.int m), some (.loc l), o2, o3, o4] ∧ H1[l]? = some (.list W) ∧ (∀ x ∈ W, InR m x) ∧ W.length ≤ 252 ∧ Frm H l H1) (by (first | lia | omega)) ?_ ?_ ?_) ?_
  · exact ⟨_, [], _, _, _, _, rfl, app_at, (fun x hx => by cases hx), by simp, .app ⟨Nat.le_refl _, Nat.le_refl _, fun u_ u_ => rfl⟩⟩
  · rintro k a σ H1 ha ⟨l, W, o1, o2, o3, o4, rfl, hl, hW, hlen, hfr⟩
    obtain ⟨v, rfl, hv⟩ := hc1 a (List.mem_of_getElem? ha)
    have hk : k < cs.length := (List.getElem?_eq_some_iff.mp ha).1
    rw [c_weaving_by_for_1, m_div d36, pure_bind, m_mod (by decide), pure_bind, e_gt, pure_bind]
    cases decide (0 < v.fmod 4) with
    | true =>
      obtain ⟨j, hj, hje⟩ := mod_nat (i := v.fdiv 36) hm.1
      have h9 := fmod_lt (v.fdiv 4) (b := 9) (by decide)
      obtain ⟨q, hq⟩ := Int.eq_ofNat_of_zero_le h9.1
      have hq9 : q < 9 := by (first | lia | omega)
      have hit := we9_at hq9
      obtain ⟨t, ht, hit⟩ := hit
      refine .bind (.bind (.bind ?_))
      rw [hje, e_eachp, e_each0, pure_bind, pure_bind, e_newL (by simp; (first | lia | omega))]
      rw [pure_bind, e_newL (by simp; (first | lia | omega)), pure_bind, m_div d4, pure_bind, m_mod (by decide), pure_bind, hq, e_item_lst hit, pure_bind, m_mul_lst (by (first | lia | omega)) (by simp)]
      refine .pure ?_
      have hfl : (List.replicate t [AV.int j]).flatten.length = t := by rw [List.length_flatten]; simp
      refine .of (m_cat_loc hl (by (first | lia | omega))) ?_
      refine .pure (.pure ⟨_, _, _, _, _, _, rfl, app_at, fun x hx => ?_, by rw [List.length_append, hfl]; (first | lia | omega), hfr.app⟩)
      rcases List.mem_append.mp hx with h | h
      · exact hW x h
      · obtain ⟨l', h1, h2⟩ := List.mem_flatten.mp h
        rw [List.eq_of_mem_replicate h1, List.mem_singleton] at h2
        exact ⟨j, h2, by (first | lia | omega), by (first | lia | omega)⟩
    | false =>
      rw [e_range1, pure_bind, srcOf_range (by (first | lia | omega)) (by (first | lia | omega)), pure_bind]
      refine .bind (.then (forI (fun t σ H2 => ∃ W o1 o2 o3 v, σ = [o1, some (.int m), some (.loc l), o2, some (.int v), o3] ∧ H2[l]? = some (.list W) ∧ (∀ x ∈ W, InR m x) ∧ W.length ≤ 7 * k + t ∧ Frm H l H2)
        (Q := fun r H2 => ∃ W o1 o2 o3 o4, r = .next [o1, some (.int m), some (.loc l), o2, o3, o4] ∧ H2[l]? = some (.list W) ∧ (∀ x ∈ W, InR m x) ∧ W.length ≤ 7 * (k + 1) ∧ Frm H l H2) (by rw [rangeL_length]; decide) ?_ ?_ ?_) ?_)
      · exact ⟨W, _, _, _, _, rfl, hl, hW, by (first | lia | omega), hfr⟩
      · rintro t a σ H2 ha ⟨W, o1, o2, o3, v, rfl, hl, hW, hlen, hfr⟩
        obtain ⟨rfl, ht⟩ := rangeL_at ha
        obtain ⟨j, hj, hje⟩ := mod_nat (i := v) hm.1
        rw [c_weaving_by_for10_11_0]
        refine .bind ?_
        rw [pure_bind]
        refine .bof (listOf_loc hl) ?_
        rw [hje, e_eachp, e_each0, pure_bind, pure_bind]
        refine .of (append_loc hl (by (first | lia | omega))) ?_
        rw [m_div ⟨by (first | lia | omega), by (first | lia | omega)⟩, pure_bind]
        refine .pure ⟨_, _, _, _, _, rfl, set_at hl, fun x hx => ?_, by rw [List.length_append]; simp; (first | lia | omega), hfr.set⟩
        rcases List.mem_append.mp hx with h | h
        · exact hW x h
        · rw [List.mem_singleton] at h
          exact ⟨j, h, by (first | lia | omega), by (first | lia | omega)⟩
      · rintro σ H2 ⟨W, o1, o2, o3, v, rfl, hl, hW, hlen, hfr⟩
        rw [rangeL_length] at hlen
        exact ⟨W, _, _, _, _, rfl, hl, hW, by (first | lia | omega), hfr⟩
      · rintro r H2 ⟨W, o1, o2, o3, o4, rfl, hl, hW, hlen⟩
        exact .pure (.pure ⟨_, W, _, _, _, _, rfl, hl, hW, hlen⟩)
  · rintro σ H1 ⟨l, W, o1, o2, o3, o4, rfl, hl, hW, hlen, hfr⟩
    exact ⟨l, W, _, _, _, _, rfl, hl, hW, by (first | lia | omega), hfr⟩
  · rintro r H1 ⟨l, W, o1, o2, o3, o4, rfl, hl, hW, hlen, hfr⟩
    rw [e_go_next, c_weaving_by_t_2]
    exact .pure ⟨l, W, rfl, hl, hW, hlen, hfr.2.2⟩

noncomputable def PrOk (H : AHeap) (lp : Nat) (PL : List Nat) (t : Nat) : Prop := H[lp]? = some (.list (PL.map .loc)) ∧ ∀ q ∈ PL, q ≠ lp ∧ ∃ p : List Deed, H[q]? = some (.list (p.map deedV)) ∧ p.length ≤ t

theorem s_programs (n : Nat) (ns : List Int) (hns : ns.length ≤ 63) (m : Nat) (hm : 1 ≤ m ∧ m ≤ 20) (H : AHeap) :
    Rn (callP P13 (n + 3) "_law_programs_by" [.lst (ns.map .int), .int m]) H fun a H' => ∃ lp PL, a = .loc lp ∧ PrOk H' lp PL 24 ∧ PL.length = m ∧ ∀ l, l < H.length → H'[l]? = H[l]? := by
  have L := LIMis
  obtain ⟨cs, hc1, hc2, hc3⟩ := s_cells n ns hns 3 27 (by (first | lia | omega))
  refine callRn (σ := [some (.lst (ns.map .int)), some (.int m), none, none]) (by kernel_rfl) (by kernel_rfl) (by kernel_rfl) ?_
  rw [c_programs_by_0, e_range1, pure_bind, srcOf_range (by (first | lia | omega)) (by (first | lia | omega)), pure_bind]
  refine .bind (.then (compA (rangeL 0 m) (fun i acc H1 => ∃ PL : List Nat, acc = PL.map .loc ∧ H.length ≤ H1.length ∧ (∀ l, l < H.length → H1[l]? = H[l]?) ∧ ∀ q ∈ PL, q < H1.length ∧ H.length ≤ q ∧ H1[q]? = some (.list [])) (by rw [rangeL_length]; (first | lia | omega)) (fun u_ u_ u_ u_ => rfl) ⟨[], rfl, Nat.le_refl _, fun u_ u_ => rfl, fun q hq => by cases hq⟩ ?_) ?_)
  · rintro i a acc H1 ha hacc ⟨PL, rfl, h1, h2, h3⟩
    refine .bof (newT (by simp)) (.pure ⟨_, rfl, PL ++ [H1.length], by simp, by simp; (first | lia | omega), fun l hl => ?_, fun q hq => ?_⟩)
    · rw [app_lt (by (first | lia | omega))]; exact h2 l hl
    · rcases List.mem_append.mp hq with h | h
      · obtain ⟨q1, q2, q3⟩ := h3 q h
        exact ⟨by simp; (first | lia | omega), q2, by rw [app_lt q1]; exact q3⟩
      · rw [List.mem_singleton] at h
        subst h
        exact ⟨by simp, h1, app_at⟩
  · rintro acc H1 ⟨⟨PL, rfl, h1, h2, h3⟩, hlen⟩
    rw [rangeL_length, List.length_map] at hlen
    refine .of (newT (by rw [List.length_map]; (first | lia | omega))) ?_
    rw [show (AV.int 3) = .int ((3 : Nat) : Int) from rfl, show (AV.int 27) = .int ((27 : Nat) : Int) from rfl, hc3, pure_bind, srcOf_lst, pure_bind]
    refine .then (forI (fun k σ H2 => (∃ o1 o2, σ = [o1, some (.int m), some (.loc H1.length), o2]) ∧ PrOk H2 H1.length PL k ∧ H1.length < H2.length ∧ ∀ l, l < H.length → H2[l]? = H[l]?)
      (Q := fun r H2 => (∃ o1 o2, r = .next [o1, some (.int m), some (.loc H1.length), o2]) ∧ PrOk H2 H1.length PL 24 ∧ ∀ l, l < H.length → H2[l]? = H[l]?) (by (first | lia | omega)) ?_ ?_ ?_) ?_
    · refine ⟨⟨_, _, rfl⟩, ⟨app_at, fun q hq => ?_⟩, by simp, fun l hl => by rw [app_lt (by (first | lia | omega))]; exact h2 l hl⟩
      obtain ⟨q1, q2, q3⟩ := h3 q hq
      exact ⟨by (first | lia | omega), [], by rw [app_lt q1]; exact q3, Nat.zero_le _⟩
    · rintro k a σ H2 ha ⟨⟨o1, o2, rfl⟩, ⟨p1, p2⟩, p3, p4⟩
      obtain ⟨v, rfl, hv⟩ := hc1 a (List.mem_of_getElem? ha)
      have hk : k < cs.length := (List.getElem?_eq_some_iff.mp ha).1
      obtain ⟨j, hj, hje⟩ := mod_nat (i := v) hm.1
      have hjl : j < PL.length := by (first | lia | omega)
      have hit : (PL.map AV.loc)[j]? = some (.loc PL[j]) := by rw [List.getElem?_map, List.getElem?_eq_getElem hjl]; rfl
      obtain ⟨hne, ds, hds, hdl⟩ := p2 _ (List.getElem_mem hjl)
      obtain ⟨jj, hdd⟩ := s_deed_by n (v.fdiv 4)
      rw [c_programs_by_for_1]
      refine .bind (.bind ?_)
      rw [hje, pure_bind]
      refine .of (item_loc p1 hit) ?_
      refine .bof (listOf_loc hds) ?_
      rw [m_div d4]
      simp only [e_eachp, e_each0, pure_bind]
      rw [hdd]
      simp only [e_eachp, e_each0, pure_bind]
      refine .of (append_loc hds (by rw [List.length_map]; (first | lia | omega))) ?_
      refine .pure ⟨⟨_, _, rfl⟩, ⟨?_, fun q hq => ?_⟩, by rw [List.length_set]; exact p3, fun l hl => ?_⟩
      · rw [List.getElem?_set_ne hne]; exact p1
      · obtain ⟨g1, ds', g2, g4⟩ := p2 q hq
        refine ⟨g1, ?_⟩
        by_cases hqe : PL[j] = q
        · exact ⟨ds ++ [⟨jj, valueBy ((v.fdiv 4).fdiv 12)⟩], by rw [← hqe, List.map_append]; exact set_at hds, by rw [List.length_append]; exact Nat.succ_le_succ hdl⟩
        · exact ⟨ds', by rw [List.getElem?_set_ne hqe]; exact g2, Nat.le_succ_of_le g4⟩
      · obtain ⟨q1, q2, q3⟩ := h3 _ (List.getElem_mem hjl)
        rw [List.getElem?_set_ne (by (first | lia | omega))]; exact p4 l hl
    · rintro σ H2 ⟨⟨o1, o2, rfl⟩, ⟨p1, p2⟩, p3, p4⟩
      refine ⟨⟨_, _, rfl⟩, ⟨p1, fun q hq => ?_⟩, p4⟩
      obtain ⟨g1, ds', g2, g4⟩ := p2 q hq
      exact ⟨g1, ds', g2, by (first | lia | omega)⟩
    · rintro r H2 ⟨⟨o1, o2, rfl⟩, p, p4⟩
      rw [e_go_next, c_programs_by_t_2]
      exact .pure ⟨_, PL, rfl, p, by (first | lia | omega), p4⟩

end Mine


set_option autoImplicit false
set_option linter.unusedVariables false
set_option maxRecDepth 100000
namespace Mine
open PySem PyProof.Rows

noncomputable def Progs (H : AHeap) (lp : Nat) (PL : List Nat) (ps : List (List Deed)) : Prop :=
  H[lp]? = some (.list (PL.map .loc)) ∧ PL.length = ps.length ∧ (∀ (i q : Nat) p, PL[i]? = some q → ps[i]? = some p → H[q]? = some (.list (p.map deedV))) ∧ ∀ p ∈ ps, p.length ≤ 60
theorem progs_of {H : AHeap} : ∀ {PL : List Nat}, (∀ q ∈ PL, ∃ p : List Deed, H[q]? = some (.list (p.map deedV)) ∧ p.length ≤ 60) → ∃ ps : List (List Deed), PL.length = ps.length ∧ (∀ (i q : Nat) p, PL[i]? = some q → ps[i]? = some p → H[q]? = some (.list (p.map deedV))) ∧ ∀ p ∈ ps, p.length ≤ 60
  | [], _ => ⟨[], rfl, fun i q p e => (nomatch e), fun p e => nomatch e⟩
  | q :: r, h => by
    obtain ⟨p, h1, h2⟩ := h q List.mem_cons_self
    obtain ⟨ps, g1, g2, g3⟩ := progs_of fun q hq => h q (List.mem_cons_of_mem _ hq)
    refine ⟨p :: ps, congrArg Nat.succ g1, fun i q' p' e1 e2 => ?_, fun p' hp => (List.mem_cons.mp hp).elim (fun e => e ▸ h2) (g3 p')⟩
    cases i with
    | zero => cases e1; cases e2; exact h1
    | succ i => exact g2 i q' p' e1 e2
theorem s_whole (n : Nat) (i : Int) : callP P13 (n + 1) "is_whole" [.int i] = pure (.bool true) := by
  refine callQ (σ := [some (.int i)]) (by kernel_rfl) (by kernel_rfl) (by kernel_rfl) ?_
  rw [c_is_whole_0]; rfl
theorem kd_in (kd : Kn) : pCmp .NotIn (.str (knS kd)) g_KINDS = pure false := by cases kd <;> kernel_rfl
theorem deed_ok (n : Nat) (d : Deed) : callP P13 (n + 2) "is_deed" [deedV d] = pure (.bool true) := deed_is n d.k d.v
theorem s_need_all (n : Nat) {xs : List Int} {kd : Kn} {H : AHeap} {lp : Nat} {PL : List Nat} {ps : List (List Deed)} (hl : xs.length ≤ 60) (hP : Progs H lp PL ps) (hp : ps.length ≤ 20) :
    Rn (callP P13 (n + 3) "need_all" [.lst (xs.map .int), .loc lp, .str (knS kd)]) H fun u_ H' => H' = H := by
  refine callRn (σ := [some (.lst (xs.map .int)), some (.loc lp), some (.str (knS kd)), none, none, none]) (by kernel_rfl) (by kernel_rfl) (by kernel_rfl) ?_
  rw [c_need_all_0, kd_in]
  simp only [pure_bind]
  rw [show pIsi (.str (knS kd)) .str = pure true from rfl]
  simp only [pure_bind, e_truth, Bool.not_true]
  show Rn (tl P13 _ "need_all" [] 1 39 _) _ _
  rw [c_need_all_t_1, e_len_lst, pure_bind, g_MOST_VALUES, e_gt, pure_bind, List.length_map, decide_eq_false (by (first | lia | omega))]
  refine .bind (.pure ?_)
  show Rn (tl P13 _ "need_all" [] 2 38 _) _ _
  rw [c_need_all_t_2, pure_bind, srcOf_lst, pure_bind]
  refine .then (forI (fun k σ H1 => H1 = H ∧ ∃ o1 o2 o3 o4 o5, σ = [o1, some (.loc lp), o2, o3, o4, o5]) (Q := fun r H1 => H1 = H ∧ ∃ o1 o2 o3 o4 o5, r = .next [o1, some (.loc lp), o2, o3, o4, o5]) (by rw [List.length_map]; (first | lia | omega)) ⟨rfl, _, _, _, _, _, rfl⟩ ?_ ?_) ?_
  · rintro k a σ H1 ha ⟨rfl, o1, o2, o3, o4, o5, rfl⟩
    obtain ⟨v, _, rfl⟩ := List.mem_map.mp (List.mem_of_getElem? ha)
    rw [c_need_all_for_2, s_whole (n + 1)]
    simp only [pure_bind, e_truth, Bool.not_true]
    exact .pure ⟨rfl, _, _, _, _, _, rfl⟩
  · rintro σ H1 ⟨rfl, o1, o2, o3, o4, o5, rfl⟩
    exact ⟨rfl, _, _, _, _, _, rfl⟩
  rintro r H1 ⟨rfl, o1, o2, o3, o4, o5, rfl⟩
  obtain ⟨hP1, hP2, hP3, hP4⟩ := hP
  rw [e_go_next, c_need_all_t_3]
  refine .bind (.bof (len_loc hP1) ?_)
  rw [g_MOST_PROGRAMS, e_gt, List.length_map, decide_eq_false (by (first | lia | omega))]
  refine .pure (.bind (.pure ?_))
  show Rn (tl P13 _ "need_all" [] 4 36 _) _ _
  rw [c_need_all_t_4, pure_bind]
  refine .bof (srcOf_loc hP1) ?_
  refine .then (forA (xs := PL.map .loc) (fun k σ H2 => H2 = H1 ∧ ∃ o1 o2 o3 o4 o5 o6, σ = [o1, o2, o3, o4, o5, o6]) (Q := fun r H2 => H2 = H1 ∧ ∃ σ, r = .next σ) (by rw [List.length_map]; (first | lia | omega)) ⟨rfl, _, _, _, _, _, _, rfl⟩ (fun i σ H2 q => by rw [q.1]; exact hP1) ?_ ?_) ?_
  · rintro k a σ H2 ha ⟨rfl, o1, o2, o3, o4, o5, o6, rfl⟩
    rw [List.getElem?_map, Option.map_eq_some_iff] at ha
    obtain ⟨q, hq, rfl⟩ := ha
    have hkp : k < ps.length := hP2 ▸ (List.getElem?_eq_some_iff.mp hq).1
    have hds := hP3 k q _ hq (List.getElem?_eq_getElem hkp)
    have hdl := hP4 _ (List.getElem_mem hkp)
    generalize ps[k] = p at hds hdl
    rw [c_need_all_for_4]
    refine .bind (.bof (len_loc hds) ?_)
    rw [g_MOST_DEEDS, e_gt, List.length_map, decide_eq_false (by (first | lia | omega))]
    refine .pure (.bind (.pure ?_))
    show Rn (tl P13 _ "need_all" [(4, 0)] 1 34 _) _ _
    rw [c_need_all_t40_1, pure_bind]
    refine .bof (srcOf_loc hds) ?_
    refine .then (forA (xs := p.map deedV) (fun k σ H3 => H3 = H2 ∧ ∃ o1 o2 o3 o4 o5 o6, σ = [o1, o2, o3, o4, o5, o6]) (Q := fun r H3 => H3 = H2 ∧ ∃ o1 o2 o3 o4 o5 o6, r = .next [o1, o2, o3, o4, o5, o6]) (by rw [List.length_map]; (first | lia | omega)) ⟨rfl, _, _, _, _, _, _, rfl⟩ (fun i σ H3 q => by rw [q.1]; exact hds) ?_ ?_) ?_
    · rintro k a σ H3 ha ⟨rfl, o1, o2, o3, o4, o5, o6, rfl⟩
      obtain ⟨d, _, rfl⟩ := List.mem_map.mp (List.mem_of_getElem? ha)
      rw [c_need_all_for40_1, deed_ok n]
      simp only [pure_bind, e_truth, Bool.not_true]
      exact .pure ⟨rfl, _, _, _, _, _, _, rfl⟩
    · rintro σ H3 ⟨rfl, o1, o2, o3, o4, o5, o6, rfl⟩
      exact ⟨rfl, _, _, _, _, _, _, rfl⟩
    · rintro r H3 ⟨rfl, o1, o2, o3, o4, o5, o6, rfl⟩
      exact .pure ⟨rfl, _, _, _, _, _, _, rfl⟩
  · rintro σ H2 ⟨rfl, o1, o2, o3, o4, o5, o6, rfl⟩
    exact ⟨rfl, _, rfl⟩
  · rintro r H2 ⟨rfl, σ, rfl⟩
    exact .pure rfl

noncomputable def handD (p : List Deed) : AO := .dict [("program", .tup (p.map deedV)), ("place", .int 0), ("work", .none)]
noncomputable def ly0 (b n m : Nat) : Ly := ⟨n + 3, b, n + 1, n, n + 2, (List.range m).map fun j => .loc (b + 1 + j)⟩
noncomputable def wk0 : Wk := newW ⟨.pop, 0⟩ 0
noncomputable def cn0 (b n m j : Nat) (t : Tw) (p : List Deed) : Cn := cn (ly0 b n m) ⟨b + 1 + j, 0, 0⟩ t p 0 .none wk0
theorem tail_at {X Y : AHeap} (k : Nat) : (X ++ Y)[X.length + k]? = Y[k]? := by rw [List.getElem?_append_right (Nat.le_add_right _ _), Nat.add_sub_cancel_left]
theorem mapIdx_at {α β : Type} {f : Nat → α → β} {ps : List α} {j : Nat} {y : β} (h : (ps.mapIdx f)[j]? = some y) : ∃ p, ps[j]? = some p ∧ y = f j p := by
  rw [List.getElem?_mapIdx, Option.map_eq_some_iff] at h
  obtain ⟨p, h1, h2⟩ := h
  exact ⟨p, h1, h2.symm⟩
theorem tower_rep {X : AHeap} {b : Nat} {kd : Kn} {xs : List Int} {ps : List (List Deed)} (hb : X[b]? = some (.list ((bx0 xs).map bxV))) (hX : X.length = b + 1 + ps.length) (hh : ∀ j p, ps[j]? = some p → X[b + 1 + j]? = some (handD p)) :
    TRep (X ++ [.list (ly0 b X.length ps.length).hs, .list [], .list [], .dict (cn0 b X.length ps.length 0 (tw0 kd xs ps) []).sD]) (ly0 b X.length ps.length) (tw0 kd xs ps) (fun x => x < b) := by
  have lt : ∀ {l : Nat} {o : AO} {Y : AHeap}, X[l]? = some o → (X ++ Y)[l]? = some o := fun h => by rw [List.getElem?_append_left (List.getElem?_eq_some_iff.mp h).1]; exact h
  have g5 : gl5 (cn0 b X.length ps.length 0 (tw0 kd xs ps) []) = [X.length + 3, b, X.length + 1, X.length, X.length + 2] := rfl
  refine ⟨cn0 b X.length ps.length 0 (tw0 kd xs ps) [], ps.mapIdx fun j p => cn0 b X.length ps.length j (tw0 kd xs ps) p, ⟨⟨_, _, _, _, _, rfl⟩, ⟨?_, fun j c hj => ?_, ?_⟩, by rw [List.length_mapIdx]; exact (List.length_map ..).symm, fun j h c e1 e2 => ?_, fun x hx => ⟨?_, fun hm => ?_, fun j c hj hm => ?_⟩⟩⟩
  · show (List.range ps.length).map (fun j => AV.loc (b + 1 + j)) = (ps.mapIdx fun j p => cn0 b X.length ps.length j (tw0 kd xs ps) p).map fun h => .loc h.hd
    refine List.ext_getElem? fun j => ?_
    rw [List.getElem?_map, List.getElem?_map, List.getElem?_mapIdx]
    by_cases hj : j < ps.length
    · rw [List.getElem?_range hj, List.getElem?_eq_getElem hj]; rfl
    · rw [List.getElem?_eq_none (by rw [List.length_range]; (first | lia | omega)), List.getElem?_eq_none (by (first | lia | omega))]; rfl
  · obtain ⟨p, hp, rfl⟩ := mapIdx_at hj
    have hjl := (List.getElem?_eq_some_iff.mp hp).1
    refine .inl ⟨rfl, ⟨fun i l o hi ho => ?_, ?_, Nat.le_refl _, fun u_ u_ u_ => rfl⟩⟩
    · match i, hi, ho with
      | 0, hi, ho => exact Option.some.inj hi ▸ Option.some.inj ho ▸ tail_at 3
      | 1, hi, ho => exact Option.some.inj hi ▸ Option.some.inj ho ▸ lt hb
      | 2, hi, ho => exact Option.some.inj hi ▸ Option.some.inj ho ▸ tail_at 1
      | 3, hi, ho => exact Option.some.inj hi ▸ Option.some.inj ho ▸ tail_at 0
      | 4, hi, ho => exact Option.some.inj hi ▸ Option.some.inj ho ▸ tail_at 2
      | 5, hi, ho => exact Option.some.inj hi ▸ Option.some.inj ho ▸ lt (hh j p hp)
      | i + 6, hi, ho => cases hi
    · show [X.length + 3, b, X.length + 1, X.length, X.length + 2, b + 1 + j].Nodup
      simp only [List.nodup_cons, List.mem_cons, List.not_mem_nil, or_false, not_or, List.nodup_nil, and_true, not_false_eq_true]
      (first | lia | omega)
  · refine ⟨fun l => if b + 1 ≤ l ∧ l < b + 1 + ps.length then l - b else 0, fun l hm => if_neg ?_, fun j c hj l hm => ?_⟩
    · rw [g5] at hm
      simp only [List.mem_cons, List.not_mem_nil, or_false] at hm
      (first | lia | omega)
    · obtain ⟨p, hp, rfl⟩ := mapIdx_at hj
      have hjl := (List.getElem?_eq_some_iff.mp hp).1
      have e : l = b + 1 + j := List.mem_singleton.mp hm
      show (if _ then _ else _) = _
      rw [if_pos (by (first | lia | omega))]; (first | lia | omega)
  · obtain ⟨p, hp, rfl⟩ := mapIdx_at e2
    have e1 : (ps.map fun p => (⟨p, 0, none⟩ : Hd))[j]? = some h := e1
    rw [List.getElem?_map, hp] at e1
    cases e1
    exact ⟨_, _, wk0, rfl, fun w e => nomatch e⟩
  · rw [List.length_append]; (first | lia | omega)
  · rw [g5] at hm
    simp only [List.mem_cons, List.not_mem_nil, or_false] at hm
    (first | lia | omega)
  · obtain ⟨p, hp, rfl⟩ := mapIdx_at hj
    have e : x = b + 1 + j := List.mem_singleton.mp hm
    (first | lia | omega)

end Mine


set_option autoImplicit false
set_option linter.unusedVariables false
set_option maxRecDepth 100000
namespace Mine
open PySem PyProof.Rows

theorem s_tower (n : Nat) {xs : List Int} {kd : Kn} {H : AHeap} {lp : Nat} {PL : List Nat} {ps : List (List Deed)} (hl : xs.length ≤ 60) (hP : Progs H lp PL ps) (hp : ps.length ≤ 20) :
    Rn (callP P13 (n + 4) "tower_of" [.lst (xs.map .int), .loc lp, .str (knS kd)]) H fun a H' => ∃ L, a = .loc L.st ∧ TRep H' L (tw0 kd xs ps) (fun x => x < H.length) ∧ ∀ x, x < H.length → H'[x]? = H[x]? := by
  have hLIM := LIMis
  refine callRn (σ := [some (.lst (xs.map .int)), some (.loc lp), some (.str (knS kd)), none, none, none, none, none, none]) (by kernel_rfl) (by kernel_rfl) (by kernel_rfl) ?_
  rw [c_tower_of_0]
  refine .then (s_need_all n hl hP hp) ?_
  rintro _ H1 rfl
  refine .bof (newT (Nat.zero_le _)) ?_
  rw [pure_bind, listOf_lst, pure_bind, srcOf_lst, pure_bind]
  refine .then (forE (fun k σ H2 => ∃ o1 o2 o3 o4 o5, σ = [some (.lst (xs.map .int)), some (.loc lp), some (.str (knS kd)), some (.loc H1.length), o1, o2, o3, o4, o5] ∧ H2 = H1 ++ [.list (((bx0 xs).take k).map bxV)])
    (Q := fun r H2 => ∃ o1 o2 o3 o4 o5, r = .next [some (.lst (xs.map .int)), some (.loc lp), some (.str (knS kd)), some (.loc H1.length), o1, o2, o3, o4, o5] ∧ H2 = H1 ++ [.list ((bx0 xs).map bxV)]) (by rw [List.length_map]; (first | lia | omega)) ⟨_, _, _, _, _, rfl, rfl⟩ ?_ ?_) ?_
  · rintro k a σ H2 ha ⟨o1, o2, o3, o4, o5, rfl, rfl⟩
    rw [List.getElem?_map, Option.map_eq_some_iff] at ha
    obtain ⟨v, hv, rfl⟩ := ha
    have hk : k < xs.length := (List.getElem?_eq_some_iff.mp hv).1
    have hbx := bx0_at hv
    have htk : (bx0 xs).take (k + 1) = (bx0 xs).take k ++ [(v, if k + 1 = xs.length then none else some (k + 1))] := by rw [List.take_add_one, hbx]; rfl
    have tail : ∀ (bl : AV), bl = ixV (if k + 1 = xs.length then none else some (k + 1)) → Rn (tl P13 (callP P13 (n + 3)) "tower_of" [(2, 0)] 2 35 [some (.lst (xs.map .int)), some (.loc lp), some (.str (knS kd)), some (.loc H1.length), some (.int k), some (.int v), some bl, o4, o5]) (H1 ++ [.list (((bx0 xs).take k).map bxV)])
        (Fl (fun σ H2 => ∃ o1 o2 o3 o4 o5, σ = [some (.lst (xs.map .int)), some (.loc lp), some (.str (knS kd)), some (.loc H1.length), o1, o2, o3, o4, o5] ∧ H2 = H1 ++ [.list (((bx0 xs).take (k + 1)).map bxV)])
          fun v H' => ∃ o1 o2 o3 o4 o5, Res.ret v = .next [some (.lst (xs.map .int)), some (.loc lp), some (.str (knS kd)), some (.loc H1.length), o1, o2, o3, o4, o5] ∧ H' = H1 ++ [.list ((bx0 xs).map bxV)]) := by
      rintro bl rfl
      rw [c_tower_of_t20_2]
      refine .bind ?_
      rw [pure_bind]
      refine .bof (listOf_loc app_at) (.of (append_loc app_at (by rw [List.length_map, List.length_take]; (first | lia | omega))) ?_)
      refine .pure ⟨_, _, _, _, _, rfl, ?_⟩
      rw [htk, List.map_append, List.set_append_right _ _ (Nat.le_refl _), Nat.sub_self]; rfl
    rw [c_tower_of_for_2, m_add, pure_bind, e_len_lst, pure_bind, e_eqi, pure_bind, List.length_map]
    by_cases he : k + 1 = xs.length
    · rw [decide_eq_true (by (first | lia | omega))]
      exact .bind (.pure (tail .none (by rw [if_pos he]; rfl)))
    · rw [decide_eq_false (by (first | lia | omega))]
      exact .bind (.pure (tail (.int ((k : Int) + 1)) (by rw [if_neg he]; rfl)))
  · rintro σ H2 ⟨o1, o2, o3, o4, o5, rfl, rfl⟩
    exact ⟨_, _, _, _, _, rfl, by rw [List.length_map, ← bx0_len xs, List.take_length]⟩
  rintro r H2 ⟨o1, o2, o3, o4, o5, rfl, rfl⟩
  obtain ⟨hP1, hP2, hP3, hP4⟩ := hP
  have hlp : lp < H1.length := (List.getElem?_eq_some_iff.mp hP1).1
  have tail : ∀ (hd : AV), hd = ixV (tw0 kd xs ps).head → Rn (tl P13 (callP P13 (n + 3)) "tower_of" [] 5 35 [some (.lst (xs.map .int)), some (.loc lp), some (.str (knS kd)), some (.loc H1.length), o1, o2, o3, some hd, o5]) (H1 ++ [.list ((bx0 xs).map bxV)])
      (Fl (fun u_ H' => ∃ L, AV.none = .loc L.st ∧ TRep H' L (tw0 kd xs ps) (fun x => x < H1.length) ∧ ∀ x, x < H1.length → H'[x]? = H1[x]?) fun a H' => ∃ L, a = .loc L.st ∧ TRep H' L (tw0 kd xs ps) (fun x => x < H1.length) ∧ ∀ x, x < H1.length → H'[x]? = H1[x]?) := by
    rintro hd rfl
    have at0 : ∀ {Y : AHeap} {x : Nat} {o : AO}, H1[x]? = some o → (H1 ++ [.list ((bx0 xs).map bxV)] ++ Y)[x]? = some o := fun h => by
      rw [List.append_assoc, List.getElem?_append_left (List.getElem?_eq_some_iff.mp h).1]; exact h
    rw [c_tower_of_t_5, pure_bind]
    refine .bind (.bof (srcOf_loc (l := lp) (xs := PL.map .loc) (by rw [app_lt hlp]; exact hP1)) ?_)
    refine .then (compA (PL.map .loc) (fun i acc H3 => H3 = H1 ++ [.list ((bx0 xs).map bxV)] ++ (ps.take i).map handD ∧ acc = (List.range i).map (fun j => .loc (H1.length + 1 + j))) (by rw [List.length_map]; (first | lia | omega)) (fun i acc H3 q => get_loc (by rw [q.1]; exact at0 hP1)) ⟨(List.append_nil _).symm, rfl⟩ ?_) ?_
    · rintro i a acc H3 ha hacc ⟨rfl, rfl⟩
      rw [List.getElem?_map, Option.map_eq_some_iff] at ha
      obtain ⟨q, hq, rfl⟩ := ha
      have hip : i < ps.length := hP2 ▸ (List.getElem?_eq_some_iff.mp hq).1
      have hds := hP3 i q _ hq (List.getElem?_eq_getElem hip)
      refine .bind (.bind ?_)
      refine .eachE (a := .tup (ps[i].map deedV)) (bind_of (seqOf_loc (at0 hds)) rfl) (.eachP (.eachP (.each0 (.of newDT (.pure ⟨_, rfl, ?_, ?_⟩)))))
      · rw [List.take_add_one, List.getElem?_eq_getElem hip, List.map_append, ← List.append_assoc]; rfl
      · rw [List.range_succ, List.map_append]
        congr 1
        show [AV.loc _] = [AV.loc _]
        rw [List.length_append, List.length_append, List.length_map, List.length_take, Nat.min_eq_left (Nat.le_of_lt hip)]; rfl
    · rintro acc H3 ⟨⟨rfl, rfl⟩, hlen⟩
      rw [List.length_map, hP2, List.take_length]
      have hXl : (H1 ++ [AO.list ((bx0 xs).map bxV)] ++ ps.map handD).length = H1.length + 1 + ps.length := by rw [List.length_append, List.length_append, List.length_map]; rfl
      have R := tower_rep (kd := kd) (X := H1 ++ [AO.list ((bx0 xs).map bxV)] ++ ps.map handD) (b := H1.length) (xs := xs) (ps := ps) (by rw [List.append_assoc]; exact tail_at (Y := [AO.list ((bx0 xs).map bxV)] ++ ps.map handD) 0) hXl (fun j p hj => by
        rw [List.append_assoc, Nat.add_assoc, tail_at (Y := [AO.list ((bx0 xs).map bxV)] ++ ps.map handD) (1 + j), Nat.add_comm 1 j]
        show (ps.map handD)[j]? = _
        rw [List.getElem?_map, hj]; rfl)
      refine .of (newT (by rw [List.length_map, List.length_range]; (first | lia | omega))) ?_
      refine .bind (.bind (.eachP (.eachP (.eachP (.eachP (.eachE (newT (Nat.zero_le _)) (.eachP (.eachP (.eachE (newT (Nat.zero_le _)) (.each0 (.of newDT (.pure ?_))))))))))))
      have hXp : ∀ x, x < H1.length → (H1 ++ [AO.list ((bx0 xs).map bxV)] ++ ps.map handD)[x]? = H1[x]? := fun x hx => by rw [List.append_assoc, List.getElem?_append_left hx]
      generalize H1 ++ [AO.list ((bx0 xs).map bxV)] ++ ps.map handD = X at R hXl hXp ⊢
      have e1 : ∀ {a : AO}, (X ++ [a]).length = X.length + 1 := List.length_append ..
      have e2 : ∀ {a b : AO}, (X ++ [a] ++ [b]).length = X.length + 2 := fun {a b} => by rw [List.length_append, e1]; rfl
      have e3 : ∀ {a b c : AO}, (X ++ [a] ++ [b] ++ [c]).length = X.length + 3 := fun {a b c} => by rw [List.length_append, e2]; rfl
      refine ⟨ly0 H1.length X.length ps.length, congrArg AV.loc e3, ?_, fun x hx => ?_⟩
      · rw [e1, e2, List.append_assoc, List.append_assoc, List.append_assoc]
        exact R
      · rw [List.append_assoc, List.append_assoc, List.append_assoc, List.getElem?_append_left (by (first | lia | omega))]
        exact hXp x hx
  rw [e_go_next, c_tower_of_t_3, e_len_lst, pure_bind, e_gt, pure_bind, List.length_map]
  by_cases h0' : xs.length = 0
  · rw [decide_eq_false (by (first | lia | omega))]
    exact .bind (.pure (tail .none (by show _ = ixV (if xs.length = 0 then none else some 0); rw [if_pos h0']; rfl)))
  · rw [decide_eq_true (by (first | lia | omega))]
    exact .bind (.pure (tail (.int 0) (by show _ = ixV (if xs.length = 0 then none else some 0); rw [if_neg h0']; rfl)))
theorem TRep.reads {H : AHeap} {L : Ly} {t : Tw} {U : Nat → Prop} (T : TRep H L t U) (h : 0 < t.hands.length) : ∃ l pr p wv w, H[L.st]? = some (.dict (cn L l t pr p wv w).sD) ∧ H[L.lh]? = some (.list L.hs) ∧ L.hs.length = t.hands.length ∧ H[L.lb]? = some (.list (t.boxes.map bxV)) ∧ H[L.lr]? = some (.list (t.rows.map rwV)) := by
  obtain ⟨g, hs, T⟩ := T
  obtain ⟨l, pr, p, wv, w, eg⟩ := T.gis
  obtain ⟨c, hc⟩ : ∃ c, hs[0]? = some c := ⟨_, List.getElem?_eq_getElem (T.len ▸ h : 0 < hs.length)⟩
  have O := T.rep.one 0 c hc
  have hl : L.hs.length = t.hands.length := by
    have := T.rep.hsv
    rw [eg] at this
    rw [show L.hs = hs.map fun h => .loc h.hd from this, List.length_map, T.len]
  rw [eg] at O
  refine ⟨l, pr, p, wv, w, ?_⟩
  rcases O with ⟨_, F⟩ | ⟨_, F⟩
  · exact ⟨F.s, F.h, hl, F.all 1 _ _ rfl rfl, F.all 4 _ _ rfl rfl⟩
  · exact ⟨F.s, F.h, hl, F.b, F.r⟩
theorem s_need_hand (n : Nat) {H : AHeap} {c : Cn} {i : Nat} (h1 : H[c.st]? = some (.dict c.sD)) (h2 : H[c.lh]? = some (.list c.hs)) (hi : i < c.hs.length) :
    callP P13 (n + 2) "need_hand" [.loc c.st, .int i] H = some (.ok .none, H) := by
  refine callN (σ := [some (.loc c.st), some (.int i)]) (σ' := [some (.loc c.st), some (.int i)]) (by kernel_rfl) (by kernel_rfl) (by kernel_rfl) ?_
  rw [c_need_hand_0, s_whole n]
  simp only [pure_bind, e_truth, Bool.not_true]
  rw [e_le, decide_eq_true (by (first | lia | omega))]
  simp only [pure_bind]
  refine Rn.val (.bind (.bind (.bind (.bind (.bind (.eachE (dItem (v := .loc c.lh) h1 (by kernel_rfl)) (.each0 (.of (len_loc h2) ?_))))))))
  rw [e_lt, decide_eq_true (by (first | lia | omega))]
  exact .pure (.pure (.pure (.pure ⟨rfl, rfl⟩)))
theorem s_woven (n : Nat) {xs : List Int} {W : List Nat} {kd : Kn} {H : AHeap} {lp lw : Nat} {PL : List Nat} {ps : List (List Deed)} (hl : xs.length ≤ 60) (hP : Progs H lp PL ps) (hp : 1 ≤ ps.length ∧ ps.length ≤ 20) (hw : H[lw]? = some (.list (W.map natV))) (hW : ∀ i ∈ W, i < ps.length) (hWl : W.length ≤ 2000) :
    Rn (callP P13 (n + 6) "woven" [.lst (xs.map .int), .loc lp, .loc lw, .str (knS kd)]) H fun a H' => ∃ L, a = .tup [.loc L.st, .lst ((tolds (tw0 kd xs ps) W).map tdV)] ∧ TRep H' L (run (tw0 kd xs ps) W) (fun x => x < H.length) ∧ ∀ x, x < H.length → H'[x]? = H[x]? := by
  have hLIM := LIMis
  have hlw : lw < H.length := (List.getElem?_eq_some_iff.mp hw).1
  have A0 := tw0_ok (kd := kd) (ps := ps) hl
  have hh0 : (tw0 kd xs ps).hands.length = ps.length := List.length_map ..
  refine callRn (σ := [some (.lst (xs.map .int)), some (.loc lp), some (.loc lw), some (.str (knS kd)), none, none, none]) (by kernel_rfl) (by kernel_rfl) (by kernel_rfl) ?_
  rw [c_woven_0]
  refine .then (s_tower (n + 1) hl hP hp.2) ?_
  rintro a H1 ⟨L, rfl, T, hfr⟩
  have hw1 : H1[lw]? = some (.list (W.map natV)) := (hfr lw hlw).trans hw
  obtain ⟨l, pr, p, wv, w, rs, rh, rl, _⟩ := T.reads (by rw [hh0]; exact hp.1)
  refine .bind (.bof (len_loc hw1) ?_)
  rw [g_MOST_STEPS, e_gt, List.length_map, decide_eq_false (by (first | lia | omega))]
  refine .pure (.bind (.pure ?_))
  show Rn (tl P13 _ "woven" [] 2 38 _) _ _
  rw [c_woven_t_2, pure_bind]
  refine .bof (srcOf_loc hw1) ?_
  refine .then (forA (xs := W.map natV) (fun k σ H2 => H2 = H1 ∧ ∃ o1 o2 o3 o4 o5, σ = [o1, o2, some (.loc lw), o3, some (.loc L.st), o4, o5]) (Q := fun r H2 => H2 = H1 ∧ ∃ o1 o2 o3 o4 o5, r = .next [o1, o2, some (.loc lw), o3, some (.loc L.st), o4, o5]) (by rw [List.length_map]; (first | lia | omega)) ⟨rfl, _, _, _, _, _, rfl⟩ (fun i σ H3 q => by rw [q.1]; exact hw1) ?_ ?_) ?_
  · rintro k a σ H2 ha ⟨rfl, o1, o2, o3, o4, o5, rfl⟩
    obtain ⟨i, hi, rfl⟩ := List.mem_map.mp (List.mem_of_getElem? ha)
    rw [c_woven_for_2]
    exact .bof (s_need_hand (n + 3) (c := cn L l (tw0 kd xs ps) pr p wv w) rs rh (by show i < L.hs.length; rw [rl, hh0]; exact hW i hi)) (.pure ⟨rfl, _, _, _, _, _, rfl⟩)
  · rintro σ H2 ⟨rfl, o1, o2, o3, o4, o5, rfl⟩
    exact ⟨rfl, _, _, _, _, _, rfl⟩
  rintro r H2 ⟨rfl, o1, o2, o3, o4, o5, rfl⟩
  rw [e_go_next, c_woven_t_3, pure_bind]
  refine .bind (.bof (srcOf_loc hw1) ?_)
  refine .then (compA (W.map natV) (fun i acc H3 => acc = (tolds (tw0 kd xs ps) (W.take i)).map tdV ∧ TRep H3 L (run (tw0 kd xs ps) (W.take i)) (fun x => x < H.length) ∧ ∀ x, x < H.length → H3[x]? = H2[x]?) (by rw [List.length_map]; (first | lia | omega)) (fun i acc H3 q => get_loc ((q.2.2 lw hlw).trans hw1)) ⟨rfl, T, fun u_ u_ => rfl⟩ ?_) ?_
  · rintro i a acc H3 ha hacc ⟨rfl, T3, hf3⟩
    rw [List.getElem?_map, Option.map_eq_some_iff] at ha
    obtain ⟨x, hx, rfl⟩ := ha
    have hi : i < W.length := (List.getElem?_eq_some_iff.mp hx).1
    have A3 := run_ok (W.take i) A0
    rw [List.length_take, Nat.min_eq_left (Nat.le_of_lt hi), Nat.zero_add] at A3
    have htk : W.take (i + 1) = W.take i ++ [x] := by rw [List.take_add_one, hx]; rfl
    refine .then (go_step n T3 A3 (by (first | lia | omega)) (by rw [run_hands _ _ A0, hh0]; exact hW x (List.mem_of_getElem? hx))) ?_
    rintro told H4 ⟨rfl, T4, hf4⟩
    rw [htk, tolds_snoc, run_snoc, List.map_append]
    exact .pure ⟨_, rfl, rfl, T4, fun y hy => (hf4 y hy).trans (hf3 y hy)⟩
  · rintro steps H3 ⟨⟨rfl, T3, hf3⟩, hlen⟩
    rw [List.length_map] at T3 hlen ⊢
    rw [List.take_length] at T3 ⊢
    rw [e_newL (by rw [List.length_map, tolds_len]; (first | lia | omega))]
    exact .pure (.pure ⟨L, rfl, T3, fun x hx => (hf3 x hx).trans (hfr x hx)⟩)

end Mine


set_option autoImplicit false
set_option linter.unusedVariables false
set_option maxRecDepth 100000
namespace Mine
open PySem PyProof.Rows

noncomputable def Lf (a : AV) : Prop := a = .none ∨ (∃ i, a = .int i) ∨ (∃ s, a = .str s ∧ PyData.strOk s = true) ∨ ∃ b, a = .bool b
theorem Lf.ne {a : AV} (h : Lf a) : pCmp .NotEq a a = pure false := by
  rcases h with rfl | ⟨i, rfl⟩ | ⟨s, rfl, hs⟩ | ⟨b, rfl⟩
  · kernel_rfl
  · rw [e_nei, decide_eq_true rfl]; rfl
  · show (do let r ← pCmp .Eq (.str s) (.str s); pure (!r)) = _
    rw [e_eqs hs hs, decide_eq_true rfl]; rfl
  · rw [e_neb, bne_self_eq_false]
theorem Lf.rd {a : AV} (h : Lf a) (H : AHeap) (n : Nat) : ∃ d, rd H n a = some d := by
  rcases h with rfl | ⟨i, rfl⟩ | ⟨s, rfl, hs⟩ | ⟨b, rfl⟩
  · exact ⟨_, by cases n <;> rfl⟩
  · exact ⟨_, rd_int⟩
  · exact ⟨_, by cases n <;> exact if_pos hs⟩
  · exact ⟨_, by cases n <;> rfl⟩
noncomputable def Sq (H : AHeap) : Bool → AV → List AV → Prop
  | true, a, xs => a = .tup xs
  | false, a, xs => a = .lst xs ∨ ∃ l, a = .loc l ∧ H[l]? = some (.list xs)
noncomputable def SmL (P : Nat → AV × AV → Prop) : Nat → List (AV × AV) → Prop
  | c, [] => c = 0
  | c, p :: r => ∃ a b, c = a + b ∧ P a p ∧ SmL P b r
noncomputable def Sm (H : AHeap) : Nat → Nat → AV × AV → Prop
  | 0, c, p => c = 1 ∧ Lf p.1 ∧ p.2 = p.1
  | n + 1, c, p => (c = 1 ∧ Lf p.1 ∧ p.2 = p.1) ∨ ∃ k xs ys d, Sq H k p.1 xs ∧ Sq H k p.2 ys ∧ xs.length = ys.length ∧ c = d + 1 ∧ SmL (Sm H n) d (xs.zip ys)
theorem SmL.mono {P Q : Nat → AV × AV → Prop} (h : ∀ c p, P c p → Q c p) : ∀ {l : List (AV × AV)} {c : Nat}, SmL P c l → SmL Q c l
  | [], _, e => e
  | p :: r, c, ⟨a, b, e, h1, h2⟩ => ⟨a, b, e, h a p h1, h2.mono h⟩
theorem SmL.app {P : Nat → AV × AV → Prop} : ∀ {l r : List (AV × AV)} {c d : Nat}, SmL P c l → SmL P d r → SmL P (c + d) (l ++ r)
  | [], r, c, d, e, h => by
    have e : c = 0 := e
    rw [e, Nat.zero_add]; exact h
  | p :: l, r, c, d, ⟨a, b, e, h1, h2⟩, h => ⟨a, b + d, by rw [e, Nat.add_assoc], h1, h2.app h⟩
theorem SmL.snoc {P : Nat → AV × AV → Prop} {p : AV × AV} : ∀ {l : List (AV × AV)} {c : Nat}, SmL P c (l ++ [p]) → ∃ a b, c = a + b ∧ SmL P a l ∧ P b p
  | [], c, ⟨a, b, e, h1, h2⟩ => ⟨0, a, by rw [e, show b = 0 from h2, Nat.zero_add]; rfl, rfl, h1⟩
  | q :: l, c, ⟨a, b, e, h1, h2⟩ => let ⟨a', b', e', h3, h4⟩ := SmL.snoc h2; ⟨a + a', b', by rw [e, e', Nat.add_assoc], ⟨a, a', rfl, h1, h3⟩, h4⟩
theorem SmL.len {P : Nat → AV × AV → Prop} (h : ∀ c p, P c p → 1 ≤ c) : ∀ {l : List (AV × AV)} {c : Nat}, SmL P c l → l.length ≤ c
  | [], _, _ => Nat.zero_le _
  | p :: r, c, ⟨a, b, e, h1, h2⟩ => by rw [e, Nat.add_comm]; exact Nat.add_le_add (h2.len h) (h a p h1)
theorem SmL.mem {P : Nat → AV × AV → Prop} : ∀ {l : List (AV × AV)} {c : Nat}, SmL P c l → ∀ p ∈ l, ∃ a, P a p
  | q :: r, c, ⟨a, b, e, h1, h2⟩, p, hp => (List.mem_cons.mp hp).elim (fun e => e ▸ ⟨a, h1⟩) (h2.mem p)
theorem Sm.elim {H : AHeap} {n c : Nat} {p : AV × AV} {T : Prop} (h : Sm H n c p) (h1 : c = 1 → Lf p.1 → p.2 = p.1 → T) (h2 : ∀ m k xs ys d, n = m + 1 → Sq H k p.1 xs → Sq H k p.2 ys → xs.length = ys.length → c = d + 1 → SmL (Sm H m) d (xs.zip ys) → T) : T := by
  cases n with
  | zero => exact h1 h.1 h.2.1 h.2.2
  | succ n =>
    rcases h with h | ⟨k, xs, ys, d, q1, q2, q3, q4, q5⟩
    · exact h1 h.1 h.2.1 h.2.2
    · exact h2 n k xs ys d rfl q1 q2 q3 q4 q5
theorem Sm.up {H : AHeap} {n : Nat} : ∀ {c : Nat} {p : AV × AV}, Sm H n c p → Sm H (n + 1) c p := by
  induction n with
  | zero => exact fun h => .inl h
  | succ n ih => exact fun h => h.elim (fun q1 q2 q3 => .inl ⟨q1, q2, q3⟩) fun m k xs ys d e q1 q2 q3 q4 q5 => by cases e; exact .inr ⟨k, xs, ys, d, q1, q2, q3, q4, q5.mono fun u_ u_ h => ih h⟩
theorem Sm.pos {H : AHeap} {n c : Nat} {p : AV × AV} (h : Sm H n c p) : 1 ≤ c := h.elim (fun e u_ u_ => Nat.le_of_eq e.symm) fun u_ u_ u_ u_ u_ u_ u_ u_ u_ e u_ => e ▸ Nat.succ_le_succ (Nat.zero_le _)
theorem Sq.elim {H : AHeap} {T : Bool → AV → List AV → Prop} (h1 : ∀ xs, T true (.tup xs) xs) (h2 : ∀ xs, T false (.lst xs) xs) (h3 : ∀ l xs, H[l]? = some (.list xs) → T false (.loc l) xs) : ∀ {k : Bool} {a : AV} {xs : List AV}, Sq H k a xs → T k a xs
  | true, _, xs, rfl => h1 xs
  | false, _, xs, .inl rfl => h2 xs
  | false, _, xs, .inr ⟨l, rfl, h⟩ => h3 l xs h
theorem Sq.app {H X : AHeap} {k : Bool} {a : AV} {xs : List AV} (h : Sq H k a xs) : Sq (H ++ X) k a xs :=
  Sq.elim (T := fun k a xs => Sq (H ++ X) k a xs) (fun u_ => rfl) (fun u_ => .inl rfl) (fun l u_ h => .inr ⟨l, rfl, by rw [List.getElem?_append_left (List.getElem?_eq_some_iff.mp h).1]; exact h⟩) h
theorem Sq.rd {H : AHeap} {n : Nat} {k : Bool} {a : AV} {xs : List AV} (q : Sq H k a xs) (h : ∀ x ∈ xs, ∃ d, rd H n x = some d) : ∃ d, rd H (n + 1) a = some d := by
  obtain ⟨ds, h1, _⟩ := mapM_ok (f := Mine.rd H n) h
  refine Sq.elim (T := fun k a xs => xs.mapM (Mine.rd H n) = some ds → ∃ d, Mine.rd H (n + 1) a = some d) (fun xs h1 => ⟨.tuple ds, ?_⟩) (fun xs h1 => ⟨.list ds, ?_⟩) (fun l xs hl h1 => ⟨.list ds, ?_⟩) q h1
  · show Option.map _ (xs.mapM (Mine.rd H n)) = _; rw [h1]; rfl
  · show Option.map _ (xs.mapM (Mine.rd H n)) = _; rw [h1]; rfl
  · exact rd_loc hl h1
theorem zip_l {xs ys : List AV} (hl : xs.length = ys.length) {x : AV} (hx : x ∈ xs) : ∃ y, (x, y) ∈ xs.zip ys := by
  obtain ⟨i, hi⟩ := List.mem_iff_getElem?.mp hx
  have h1 := (List.getElem?_eq_some_iff.mp hi).1
  exact ⟨ys[i]'(hl ▸ h1), List.mem_iff_getElem?.mpr ⟨i, by rw [List.getElem?_zip_eq_some]; exact ⟨hi, List.getElem?_eq_getElem _⟩⟩⟩
theorem zip_r {xs ys : List AV} (hl : xs.length = ys.length) {y : AV} (hy : y ∈ ys) : ∃ x, (x, y) ∈ xs.zip ys := by
  obtain ⟨i, hi⟩ := List.mem_iff_getElem?.mp hy
  have h1 := (List.getElem?_eq_some_iff.mp hi).1
  exact ⟨xs[i]'(hl ▸ h1), List.mem_iff_getElem?.mpr ⟨i, by rw [List.getElem?_zip_eq_some]; exact ⟨List.getElem?_eq_getElem _, hi⟩⟩⟩
theorem Sm.rd {H X : AHeap} {n : Nat} : ∀ {c : Nat} {p : AV × AV}, Sm H n c p → (∃ d, rd (H ++ X) n p.1 = some d) ∧ ∃ d, rd (H ++ X) n p.2 = some d := by
  have lf : ∀ {c n : Nat} {p : AV × AV}, c = 1 → Lf p.1 → p.2 = p.1 → (∃ d, Mine.rd (H ++ X) n p.1 = some d) ∧ ∃ d, Mine.rd (H ++ X) n p.2 = some d := fun u_ h e => ⟨h.rd _ _, e ▸ h.rd _ _⟩
  induction n with
  | zero => exact fun h => h.elim lf fun u_ u_ u_ u_ u_ e => nomatch e
  | succ n ih =>
    intro c p h
    refine h.elim lf fun m k xs ys d e h1 h2 h3 h4 h5 => ?_
    cases e
    refine ⟨h1.app.rd fun x hx => ?_, h2.app.rd fun y hy => ?_⟩
    · obtain ⟨y, hy⟩ := zip_l h3 hx
      obtain ⟨a, h⟩ := h5.mem _ hy
      exact (ih h).1
    · obtain ⟨x, hx⟩ := zip_r h3 hy
      obtain ⟨a, h⟩ := h5.mem _ hx
      exact (ih h).2
theorem rd_pr {H : AHeap} {n : Nat} {p : AV × AV} (h1 : ∃ d, rd H n p.1 = some d) (h2 : ∃ d, rd H n p.2 = some d) : ∃ d, rd H (n + 1) (prV p) = some d := by
  obtain ⟨d, h1⟩ := h1
  obtain ⟨e, h2⟩ := h2
  exact ⟨.tuple [d, e], by show Option.map _ ([p.1, p.2].mapM (Mine.rd H n)) = _; simp only [List.mapM_cons, List.mapM_nil, h1, h2]; rfl⟩
theorem Sq.isTL {H : AHeap} {k : Bool} {a : AV} {xs : List AV} (h : Sq H k a xs) : pIsiTL a H = some (.ok true, H) :=
  Sq.elim (T := fun u_ a u_ => pIsiTL a H = some (.ok true, H)) (fun u_ => rfl) (fun u_ => rfl) (fun u_ u_ h => bind_of (listOf_loc h) rfl) h
theorem Sq.isT {H : AHeap} {k : Bool} {a : AV} {xs : List AV} (h : Sq H k a xs) : pIsi a .tuple H = some (.ok k, H) :=
  Sq.elim (T := fun k a u_ => pIsi a .tuple H = some (.ok k, H)) (fun u_ => rfl) (fun u_ => rfl) (fun u_ u_ h => bind_of (listOf_loc h) rfl) h
theorem Sq.isL {H : AHeap} {k : Bool} {a : AV} {xs : List AV} (h : Sq H k a xs) : pIsi a .list H = some (.ok !k, H) :=
  Sq.elim (T := fun k a u_ => pIsi a .list H = some (.ok !k, H)) (fun u_ => rfl) (fun u_ => rfl) (fun u_ u_ h => bind_of (listOf_loc h) rfl) h
theorem Sq.len {H : AHeap} {k : Bool} {a : AV} {xs : List AV} (h : Sq H k a xs) : pBI false .len [a] H = some (.ok (.int xs.length), H) :=
  Sq.elim (T := fun u_ a xs => pBI false .len [a] H = some (.ok (.int xs.length), H)) (fun u_ => rfl) (fun u_ => rfl) (fun u_ u_ h => len_loc h) h
theorem Sq.seq {H : AHeap} {k : Bool} {a : AV} {xs : List AV} (h : Sq H k a xs) : seqOf a H = some (.ok xs, H) ∧ isTp a = k :=
  Sq.elim (T := fun k a xs => seqOf a H = some (.ok xs, H) ∧ isTp a = k) (fun u_ => ⟨rfl, rfl⟩) (fun u_ => ⟨rfl, rfl⟩) (fun u_ u_ h => ⟨seqOf_loc h, rfl⟩) h
theorem Sq.zip {H : AHeap} {k : Bool} {x y : AV} {xs ys : List AV} (hx : Sq H k x xs) (hy : Sq H k y ys) (hl : xs.length = ys.length) (hz : xs.length ≤ LIM) : pZipL false [x, y] H = some (.ok (.lst ((xs.zip ys).map prV)), H) := by
  refine bind_of hx.seq.1 (bind_of hy.seq.1 ?_)
  rw [hx.seq.2, hy.seq.2, decide_eq_true hl, zip_map, beq_self_eq_true, Bool.and_self, if_pos rfl, e_newL (by rw [List.length_map, List.length_zip]; (first | lia | omega))]; rfl
theorem leaf_turn (cf : Str → List AV → M AV) {H : AHeap} {l : Nat} {rest : List AV} {a : AV} {o1 o2 o3 : Option AV} (h : H[l]? = some (.list (rest ++ [prV (a, a)]))) (ha : Lf a) :
    Rn (whileB P13 cf "_law_alike" [] 1 38 [o1, o2, some (.loc l), o3]) H fun r H' => r = .next [o1, o2, some (.loc l), some (prV (a, a))] ∧ H' = H.set l (.list rest) := by
  have nn := ha.ne
  rw [c_alike_while_1b]
  simp only [pure_bind]
  refine .bind (.bof (listOf_loc h) (.of (pop_last h) ?_))
  rcases ha with rfl | ⟨i, rfl⟩ | ⟨s, rfl, hs⟩ | ⟨b, rfl⟩
  · exact .eq (by kernel_rfl) ⟨rfl, rfl⟩
  · simp only [prV, e_it0, e_it1, pure_bind, show pIsiTL (.int i) = pure false from rfl, e_truth, e_isN, pIsNone, show pIsi (.int i) .bool = pure false from rfl, show pIsi (.int i) .str = pure false from rfl, e_neb, nn, bne_self_eq_false, e_go_next]
    exact .pure ⟨rfl, rfl⟩
  · simp only [prV, e_it0, e_it1, pure_bind, show pIsiTL (.str s) = pure false from rfl, e_truth, e_isN, pIsNone, show pIsi (.str s) .bool = pure false from rfl, show pIsi (.str s) .str = pure true from rfl, e_neb, nn, bne_self_eq_false, e_go_next]
    exact .pure ⟨rfl, rfl⟩
  · cases b <;> exact .eq (by kernel_rfl) ⟨rfl, rfl⟩
theorem seq_turn (cf : Str → List AV → M AV) {H : AHeap} {l : Nat} {rest : List AV} {x y : AV} {xs ys : List AV} {k : Bool} {o1 o2 o3 : Option AV} (h : H[l]? = some (.list (rest ++ [prV (x, y)]))) (hx : Sq (H.set l (.list rest)) k x xs) (hy : Sq (H.set l (.list rest)) k y ys) (hl : xs.length = ys.length) (hL : rest.length + xs.length ≤ LIM) :
    Rn (whileB P13 cf "_law_alike" [] 1 38 [o1, o2, some (.loc l), o3]) H fun r H' => r = .next [o1, o2, some (.loc H.length), some (prV (x, y))] ∧ H' = H.set l (.list rest) ++ [.list (rest ++ (xs.zip ys).map prV)] := by
  have hlt : l < H.length := (List.getElem?_eq_some_iff.mp h).1
  have hs : (H.set l (.list rest))[l]? = some (.list rest) := List.getElem?_set_self hlt
  have hlen : (H.set l (.list rest)).length = H.length := List.length_set ..
  rw [c_alike_while_1b]
  simp only [pure_bind]
  refine .bind (.bof (listOf_loc h) (.of (pop_last h) ?_))
  generalize H.set l (.list rest) = G at hx hy hs hlen ⊢
  simp only [prV, e_it0, e_it1, pure_bind]
  refine .bind (.bind (.bof hy.isTL (.pure (.eq e_truth ?_))))
  refine .bind (.bind (.bind (.bof hx.isT (.pure (.bind (.bof hy.isT (.pure (.eq ((e_neb k k).trans (by rw [bne_self_eq_false])) ?_))))))))
  simp only [e_go_next, c_alike_t10_10_1, e_it0, e_it1, pure_bind, e_eachp, e_each0]
  refine .bind (.bind (.bind (.bof hx.isL (.pure (.bind (.bof hy.isL (.pure (.eq ((e_neb (!k) (!k)).trans (by rw [bne_self_eq_false])) ?_))))))))
  refine .bind (.bof hx.len (.bof hy.len (.eq (e_nei.trans (by rw [hl, decide_eq_true rfl, Bool.not_true])) ?_)))
  refine .pure ?_
  simp only [e_go_next, c_alike_t10_10_2, e_it0, e_it1, pure_bind, e_eachp, e_each0]
  refine .bind (.bof (hx.zip hy hl (Nat.le_trans (Nat.le_add_left _ _) hL)) (.of (add_loc hs (by rw [List.length_map, List.length_zip, ← hl, Nat.min_self]; exact hL)) ?_))
  rw [hlen]
  exact .pure (.pure ⟨rfl, rfl⟩)
theorem s_like (n : Nat) (H : AHeap) {a b : AV} {c : Nat} (h : Sm H 5 c (a, b)) (hc : c < 100000) : Rn (callP P13 (n + 1) "_law_alike" [a, b]) H fun r H' => r = .bool true ∧ ∃ X, H' = H ++ X := by
  have hL := LIMis
  refine callRn (σ := [some a, some b, none, none]) (by kernel_rfl) (by kernel_rfl) (by kernel_rfl) ?_
  rw [c_alike_0]
  refine .bof (newT (by show 1 ≤ LIM; (first | lia | omega))) ?_
  refine .then (whR c (fun m σ H2 => ∃ o1 o2 o3 l X rest, σ = [o1, o2, some (.loc l), o3] ∧ H2 = H ++ X ∧ H.length ≤ l ∧ H2[l]? = some (.list (rest.map prV)) ∧ SmL (Sm H 5) m rest ∧ m < 100000)
    (Q := fun r H2 => ∃ σ, r = .next σ ∧ ∃ o1 o2 o3 o4 X, σ = [o1, o2, o3, o4] ∧ H2 = H ++ X) hc ?_ ?_) ?_
  · exact ⟨_, _, _, H.length, _, [(a, b)], rfl, rfl, Nat.le_refl _, app_at, ⟨c, 0, rfl, h, rfl⟩, hc⟩
  · rintro m σ H2 ⟨o1, o2, o3, l, X, rest, rfl, rfl, hl, h1, h2, h3⟩
    rw [c_alike_while_1t, e_newL (Nat.zero_le _), pure_bind]
    refine .of (ne_nil_loc h1 fun x hx => ?_) ?_
    · obtain ⟨p, hp, rfl⟩ := List.mem_map.mp hx
      obtain ⟨a, q⟩ := h2.mem p hp
      exact rd_pr q.up.rd.1 q.up.rd.2
    rcases List.eq_nil_or_concat rest with rfl | ⟨r, p, rfl⟩
    · exact .inl ⟨rfl, _, rfl, _, _, _, _, X, rfl, rfl⟩
    rw [List.concat_eq_append] at h1 h2 ⊢
    rw [List.map_append] at h1
    obtain ⟨u, v, rfl, h4, h5⟩ := h2.snoc
    have hr := h4.len fun u_ u_ q => q.pos
    refine .inr ⟨by rw [List.map_append]; cases r.map prV <;> rfl, ?_⟩
    obtain ⟨x, y⟩ := p
    rcases h5 with ⟨rfl, lf, e⟩ | ⟨k, xs, ys, d, sx, sy, hxy, rfl, hd⟩
    · have e : y = x := e
      subst e
      refine (leaf_turn _ h1 lf).mono ?_
      rintro _ _ ⟨rfl, rfl⟩
      exact ⟨u, Nat.lt_succ_self u, _, _, _, l, _, r, rfl, set_far hl, hl, List.getElem?_set_self (List.getElem?_eq_some_iff.mp h1).1, h4, by (first | lia | omega)⟩
    · have hz := hd.len fun u_ u_ q => q.pos
      rw [List.length_zip, ← hxy, Nat.min_self] at hz
      refine (seq_turn _ (k := k) (xs := xs) (ys := ys) h1 (set_far hl ▸ sx.app) (set_far hl ▸ sy.app) hxy (by rw [List.length_map]; (first | lia | omega))).mono ?_
      rintro _ _ ⟨rfl, rfl⟩
      refine ⟨u + d, by (first | lia | omega), _, _, _, (H ++ X).length, _, r ++ xs.zip ys, rfl, by rw [set_far hl, List.append_assoc], by rw [List.length_append]; exact Nat.le_add_right _ _, ?_, h4.app (hd.mono fun u_ u_ q => q.up), by (first | lia | omega)⟩
      have := app_at (H := (H ++ X).set l (.list (r.map prV))) (o := .list (r.map prV ++ (xs.zip ys).map prV))
      rw [List.length_set] at this
      rw [List.map_append]
      exact this
  · rintro r H2 ⟨σ, rfl, o1, o2, o3, o4, X, rfl, rfl⟩
    rw [e_go_next, c_alike_t_2]
    exact .pure ⟨rfl, X, rfl⟩

end Mine


set_option autoImplicit false
set_option linter.unusedVariables false
set_option maxRecDepth 100000
namespace Mine
open PySem PyProof.Rows

theorem s_rows_of (n : Nat) {H : AHeap} {c : Cn} (h1 : H[c.st]? = some (.dict c.sD)) (h2 : H[c.lr]? = some (.list c.rows)) (hl : c.rows.length ≤ 100000) : callP P13 (n + 1) "rows_of" [.loc c.st] H = some (.ok (.lst c.rows), H) := by
  refine callR (σ := [some (.loc c.st)]) (by kernel_rfl) (by kernel_rfl) (by kernel_rfl) ?_
  rw [c_rows_of_0]
  have hL := LIMis
  exact Rn.val (.bind (.bind (.eachE (dItem (v := .loc c.lr) h1 (by kernel_rfl)) (.each0 (.of (list_loc h2 (by (first | lia | omega))) (.pure ⟨rfl, rfl⟩))))))
theorem mapM_nats {H : AHeap} {n : Nat} : ∀ xs : List Nat, (xs.map natV).mapM (rd H n) = some (xs.map fun (i : Nat) => PyData.int (i : Int))
  | [] => rfl
  | x :: r => by
    rw [List.map_cons, List.mapM_cons, mapM_nats r]
    show (do let y ← rd H n (.int x); _) = _
    rw [rd_int]; rfl

theorem SmL.self {H : AHeap} {n C : Nat} : ∀ {xs : List AV}, (∀ x ∈ xs, ∃ c, c ≤ C ∧ Sm H n c (x, x)) → ∃ c, c ≤ xs.length * C ∧ SmL (Sm H n) c (xs.zip xs)
  | [], _ => ⟨0, Nat.zero_le _, rfl⟩
  | x :: r, h => by
    obtain ⟨a, h1, h2⟩ := h x List.mem_cons_self
    obtain ⟨b, h3, h4⟩ := SmL.self (xs := r) fun y hy => h y (List.mem_cons_of_mem _ hy)
    refine ⟨a + b, ?_, a, b, rfl, h2, h4⟩
    rw [List.length_cons, Nat.succ_mul, Nat.add_comm]
    exact Nat.add_le_add h3 h1
theorem Sm.lf {H : AHeap} {a : AV} (h : Lf a) : ∀ n, Sm H n 1 (a, a)
  | 0 => ⟨rfl, h, rfl⟩
  | _ + 1 => .inl ⟨rfl, h, rfl⟩
theorem Sm.sq {H : AHeap} {n C : Nat} {k : Bool} {x y : AV} {xs : List AV} (hx : Sq H k x xs) (hy : Sq H k y xs) (h : ∀ x ∈ xs, ∃ c, c ≤ C ∧ Sm H n c (x, x)) : ∃ c, c ≤ xs.length * C + 1 ∧ Sm H (n + 1) c (x, y) :=
  let ⟨c, h1, h2⟩ := SmL.self h
  ⟨c + 1, Nat.succ_le_succ h1, .inr ⟨k, xs, xs, c, hx, hy, rfl, rfl, h2⟩⟩
theorem lf_int {i : Int} : Lf (.int i) := .inr (.inl ⟨i, rfl⟩)
theorem kind3 {c : Int} : ∃ kd : Kn, pItem (.lst [.str "marks", .str "bare", .str "new"]) (.int (c.fmod 3)) = pure (.str (knS kd)) := by
  have h := fmod_lt c (b := 3) (by decide)
  obtain ⟨j, hj⟩ := Int.eq_ofNat_of_zero_le h.1
  rw [hj]
  match j, (show j < 3 by omega) with
  | 0, _ => exact ⟨.marks, e_item_lst (k := 0) rfl⟩
  | 1, _ => exact ⟨.bare, e_item_lst (k := 1) rfl⟩
  | 2, _ => exact ⟨.new, e_item_lst (k := 2) rfl⟩
end Mine


set_option autoImplicit false
set_option linter.unusedVariables false
set_option maxRecDepth 100000
namespace Mine
open PySem PyProof.Rows

theorem s_played (n : Nat) (k : Dk) (v : Int) (xs : List Int) (hl : xs.length ≤ 1000) : callP P13 (n + 3) "played" [.lst (xs.map .int), deedK k v] = pure (.tup [plA k xs, .lst ((plV k v xs).map .int)]) := by
  refine callQ (σ := [some (.lst (xs.map .int)), some (deedK k v)]) (by kernel_rfl) (by kernel_rfl) (by kernel_rfl) ?_
  have hL := LIMis
  have hm : (xs.map AV.int).length ≤ LIM := by rw [List.length_map]; (first | lia | omega)
  rw [c_played_0, deed_is]
  simp only [pure_bind, e_truth, Bool.not_true, e_go_next]
  rw [c_played_t_1]
  cases k with
  | push =>
    simp only [it_push, q_push_push, iv_push, pure_bind, e_eachp, e_each0, e_newL (xs := [.int v]) (by simp; (first | lia | omega)), e_list_lst hm, m_addL (xs := [.int v]) (ys := xs.map .int) (by simp; (first | lia | omega)), e_go_ret]
    rfl
  | clear =>
    simp only [it_clear, q_clear_push, q_clear_clear, pure_bind, e_go_next, c_played_t_2, e_tup_lst, e_eachp, e_each0, e_newL (xs := []) (Nat.zero_le _), e_go_ret]
    rfl
  | top =>
    simp only [it_top, q_top_push, q_top_clear, pure_bind, e_go_next, c_played_t_2, c_played_t_3, len0, e_eqi]
    cases xs with
    | nil => simp only [List.length_nil, decE rfl, pure_bind, e_eachp, e_each0, e_newL (xs := []) (Nat.zero_le _), e_go_ret]; rfl
    | cons x r =>
      rw [decide_eq_false (by simp; (first | lia | omega))]
      simp only [pure_bind, e_go_next, c_played_t_4, it_top, q_top_top, List.map_cons, e_list_lst (xs := AV.int x :: List.map AV.int r) hm, l0, e_eachp, e_each0, e_go_ret]
      rfl
  | swap =>
    simp only [it_swap, q_swap_push, q_swap_clear, pure_bind, e_go_next, c_played_t_2, c_played_t_3, len0, e_eqi]
    cases xs with
    | nil => simp only [List.length_nil, decE rfl, pure_bind, e_eachp, e_each0, e_newL (xs := []) (Nat.zero_le _), e_go_ret]; rfl
    | cons x r =>
      have hr : (r.map AV.int).length ≤ LIM := by rw [List.length_map]; simp at hl; (first | lia | omega)
      rw [decide_eq_false (by simp; (first | lia | omega))]
      simp only [pure_bind, e_go_next, c_played_t_4, c_played_t_5, it_swap, iv_swap, q_swap_top, q_swap_swap, List.map_cons, slice1 _ _ hr, e_list_lst hr, l0, e_newL (xs := [.int v]) (by simp; (first | lia | omega)), m_addL (xs := [.int v]) (ys := r.map .int) (by simp at hl ⊢; (first | lia | omega)), e_eachp, e_each0, e_go_ret]
      rfl
  | pop =>
    simp only [it_pop, q_pop_push, q_pop_clear, pure_bind, e_go_next, c_played_t_2, c_played_t_3, len0, e_eqi]
    cases xs with
    | nil => simp only [List.length_nil, decE rfl, pure_bind, e_eachp, e_each0, e_newL (xs := []) (Nat.zero_le _), e_go_ret]; rfl
    | cons x r =>
      have hr : (r.map AV.int).length ≤ LIM := by rw [List.length_map]; simp at hl; (first | lia | omega)
      rw [decide_eq_false (by simp; (first | lia | omega))]
      simp only [pure_bind, e_go_next, c_played_t_4, c_played_t_5, c_played_t_6, it_pop, q_pop_top, q_pop_swap, List.map_cons, slice1 _ _ hr, e_list_lst hr, l0, e_eachp, e_each0]
      rfl

theorem s_lplayed (n : Nat) (k : Dk) (v : Int) (xs : List Int) (hl : xs.length ≤ 1000) : callP P13 (n + 1) "_law_played" [.lst (xs.map .int), deedK k v] = pure (.tup [plA k xs, .lst ((plV k v xs).map .int)]) := by
  refine callQ (σ := [some (.lst (xs.map .int)), some (deedK k v), none]) (by kernel_rfl) (by kernel_rfl) (by kernel_rfl) ?_
  have hL := LIMis
  have hm : (xs.map AV.int).length ≤ LIM := by rw [List.length_map]; (first | lia | omega)
  rw [c_lplayed_0]
  cases k with
  | push =>
    simp only [it_push, q_push_push, iv_push, pure_bind, e_eachp, e_each0, e_newL (xs := [.int v]) (by simp; (first | lia | omega)), m_addL (xs := [.int v]) (ys := xs.map .int) (by simp; (first | lia | omega)), e_go_ret]
    rfl
  | clear =>
    simp only [it_clear, q_clear_push, q_clear_clear, pure_bind, e_go_next, c_lplayed_t_1, e_tup_lst, e_eachp, e_each0, e_newL (xs := []) (Nat.zero_le _), e_go_ret]
    rfl
  | top =>
    simp only [it_top, q_top_push, q_top_clear, q_top_swap, q_top_pop, pure_bind, e_go_next, c_lplayed_t_1, c_lplayed_t_2, e_newL (xs := [.none]) (by simp; (first | lia | omega)), m_addL (xs := xs.map .int) (ys := [.none]) (by simp; (first | lia | omega))]
    cases xs with
    | nil => simp only [List.map_nil, List.nil_append, l0, pure_bind, e_go_next, c_lplayed_t_4, it_top, q_top_pop, c_lplayed_t_5, e_list_lst (xs := []) (Nat.zero_le _), e_eachp, e_each0]; rfl
    | cons x r =>
      simp only [List.map_cons, List.cons_append, l0, pure_bind, e_go_next, c_lplayed_t_4, it_top, q_top_pop, c_lplayed_t_5, e_list_lst (xs := AV.int x :: List.map AV.int r) hm, e_eachp, e_each0]
      rfl
  | swap =>
    simp only [it_swap, q_swap_push, q_swap_clear, q_swap_swap, iv_swap, pure_bind, e_go_next, c_lplayed_t_1, c_lplayed_t_2, e_newL (xs := []) (Nat.zero_le _), isnil, e_newL (xs := [.none]) (by simp; (first | lia | omega)), m_addL (xs := xs.map .int) (ys := [.none]) (by simp; (first | lia | omega))]
    cases xs with
    | nil => simp only [List.map_nil, List.nil_append, l0, List.isEmpty_nil, Bool.not_true, pure_bind, e_go_next, c_lplayed_t_4, it_swap, q_swap_pop, c_lplayed_t_5, e_list_lst (xs := []) (Nat.zero_le _), e_eachp, e_each0]; rfl
    | cons x r =>
      have hr : (r.map AV.int).length ≤ LIM := by rw [List.length_map]; simp at hl; (first | lia | omega)
      simp only [List.map_cons, List.cons_append, l0, List.isEmpty_cons, Bool.not_false, pure_bind, List.map_cons, slice1 _ _ hr, e_newL (xs := [.int v]) (by simp; (first | lia | omega)), m_addL (xs := [.int v]) (ys := r.map .int) (by simp at hl ⊢; (first | lia | omega)), e_eachp, e_each0, e_go_ret]
      rfl
  | pop =>
    simp only [it_pop, q_pop_push, q_pop_clear, q_pop_swap, pure_bind, e_go_next, c_lplayed_t_1, c_lplayed_t_2, e_newL (xs := [.none]) (by simp; (first | lia | omega)), m_addL (xs := xs.map .int) (ys := [.none]) (by simp; (first | lia | omega))]
    cases xs with
    | nil => simp only [List.map_nil, List.nil_append, l0, pure_bind, e_go_next, c_lplayed_t_4, it_pop, q_pop_pop, slice1', e_eachp, e_each0, e_go_ret]; rfl
    | cons x r =>
      have hr : (r.map AV.int).length ≤ LIM := by rw [List.length_map]; simp at hl; (first | lia | omega)
      simp only [List.map_cons, List.cons_append, l0, pure_bind, e_go_next, c_lplayed_t_4, it_pop, q_pop_pop, List.map_cons, slice1 _ _ hr, e_eachp, e_each0, e_go_ret]
      rfl

end Mine


set_option autoImplicit false
set_option linter.unusedVariables false
set_option maxRecDepth 100000
namespace Mine
open PySem PyProof.Rows

noncomputable def LI (a : AV) : Prop := a = .none ∨ ∃ i, a = .int i
theorem LI.lf {a : AV} (h : LI a) : Lf a := h.elim .inl fun q => .inr (.inl q)
noncomputable def eqL : AV → AV → Bool
  | .none, .none => true
  | .int i, .int j => decide (i = j)
  | _, _ => false
theorem eqL_is {x y : AV} (hx : LI x) (hy : LI y) : eqL x y = true ↔ x = y := by
  rcases hx with rfl | ⟨i, rfl⟩ <;> rcases hy with rfl | ⟨j, rfl⟩
  · exact ⟨fun u_ => rfl, fun u_ => rfl⟩
  · exact ⟨fun h => absurd (show false = true from h) Bool.false_ne_true, fun h => nomatch h⟩
  · exact ⟨fun h => absurd (show false = true from h) Bool.false_ne_true, fun h => nomatch h⟩
  · exact ⟨fun h => by rw [of_decide_eq_true (show decide (i = j) = true from h)], fun h => by injection h with h; exact decide_eq_true h⟩
theorem s_unlike (n : Nat) (H : AHeap) {x y : AV} (hx : LI x) (hy : LI y) (hne : x ≠ y) : Rn (callP P13 (n + 1) "_law_alike" [x, y]) H fun r H' => r = .bool false ∧ ∃ X, H' = H ++ X := by
  have hL := LIMis
  refine callRn (σ := [some x, some y, none, none]) (by kernel_rfl) (by kernel_rfl) (by kernel_rfl) ?_
  rw [c_alike_0]
  refine .bof (newT (by show 1 ≤ LIM; (first | lia | omega))) ?_
  have turn : Rn (whileB P13 (callP P13 n) "_law_alike" [] 1 38 [some x, some y, some (.loc H.length), none]) (H ++ [.list [.tup [x, y]]]) fun r H' => r = .ret (.bool false) ∧ ∃ X, H' = H ++ X := by
    rw [c_alike_while_1b]
    simp only [pure_bind]
    have hat : (H ++ [AO.list [AV.tup [x, y]]])[H.length]? = some (.list ([] ++ [.tup [x, y]])) := app_at
    refine .bind (.bof (listOf_loc hat) (.of (pop_last hat) ?_))
    have hX : ∃ X, (H ++ [AO.list [AV.tup [x, y]]]).set H.length (.list []) = H ++ X := ⟨_, set_far (Nat.le_refl _)⟩
    rcases hy with rfl | ⟨j, rfl⟩
    · rcases hx with rfl | ⟨i, rfl⟩
      · exact absurd rfl hne
      · exact .eq (by kernel_rfl) ⟨rfl, hX⟩
    · rcases hx with rfl | ⟨i, rfl⟩
      · exact .eq (by kernel_rfl) ⟨rfl, hX⟩
      · have : ¬ i = j := fun q => hne (by rw [q])
        simp only [e_it0, e_it1, pure_bind, show ∀ k : Int, pIsiTL (.int k) = pure false from fun u_ => rfl, e_truth, e_isN, pIsNone, show ∀ k : Int, pIsi (.int k) .bool = pure false from fun u_ => rfl, show ∀ k : Int, pIsi (.int k) .str = pure false from fun u_ => rfl, e_neb, bne_self_eq_false, e_nei, decide_eq_false this, Bool.not_false, e_go_ret]
        exact .pure ⟨rfl, hX⟩
  refine .then (whR 1 (fun m σ H2 => m = 1 ∧ σ = [some x, some y, some (.loc H.length), none] ∧ H2 = H ++ [.list [.tup [x, y]]]) (Q := fun r H2 => r = .ret (.bool false) ∧ ∃ X, H2 = H ++ X) (by decide) ⟨rfl, rfl, rfl⟩ ?_) ?_
  · rintro m σ H2 ⟨rfl, rfl, rfl⟩
    rw [c_alike_while_1t, e_newL (Nat.zero_le _), pure_bind]
    refine .of (ne_nil_loc app_at fun z hz => ?_) (.inr ⟨rfl, turn.mono ?_⟩)
    · rw [List.mem_singleton.mp hz]
      exact rd_pr (p := (x, y)) (hx.lf.rd _ 6) (hy.lf.rd _ 6)
    · rintro _ _ ⟨rfl, hX⟩
      exact ⟨rfl, hX⟩
  · rintro r H2 ⟨rfl, hX⟩
    exact .pure ⟨rfl, hX⟩
theorem s_leaf (n : Nat) (H : AHeap) {x y : AV} (hx : LI x) (hy : LI y) : Rn (callP P13 (n + 1) "_law_alike" [x, y]) H fun r H' => r = .bool (eqL x y) ∧ ∃ X, H' = H ++ X := by
  cases h : eqL x y with
  | true => have := (eqL_is hx hy).mp h; subst this; exact s_like n H (Sm.lf hx.lf 5) (by decide)
  | false => exact s_unlike n H hx hy fun q => by rw [(eqL_is hx hy).mpr q] at h; cases h

theorem compF_go {xs : List AV} {body : AV → M (Option AV)} {g : AV → Option AV} (h : ∀ a ∈ xs, body a = pure (g a)) :
    ∀ (fuel i : Nat) (acc : List AV), i ≤ xs.length → xs.length < i + fuel → acc.length ≤ i → xs.length < LIM → compLoop (.items xs) body fuel i acc = pure (acc ++ (xs.drop i).filterMap g) := by
  intro fuel
  induction fuel with
  | zero => intro i acc h1 h2; exact absurd h2 (Nat.not_lt.mpr h1)
  | succ f ih =>
    intro i acc h1 hf ha hL
    show (do let r ← (pure xs[i]? : M _); _) = _
    rcases Nat.eq_or_lt_of_le h1 with e | hi
    · rw [List.getElem?_eq_none (Nat.le_of_eq e.symm), pure_bind, List.drop_of_length_le (Nat.le_of_eq e.symm), List.filterMap_nil, List.append_nil]
    · rw [List.getElem?_eq_getElem hi, pure_bind]
      show (do let r ← noX (body xs[i]); _) = _
      rw [h _ (List.getElem_mem hi), noX_pure, pure_bind, List.drop_eq_getElem_cons hi, List.filterMap_cons]
      cases g xs[i] with
      | none => exact ih (i + 1) _ hi (Nat.succ_add_eq_add_succ i f ▸ hf) (Nat.le_succ_of_le ha) hL
      | some y =>
        show (if acc.length < LIM then _ else _) = _
        rw [if_pos (Nat.lt_trans (Nat.lt_of_le_of_lt ha hi) hL), ih (i + 1) _ hi (Nat.succ_add_eq_add_succ i f ▸ hf) (by rw [List.length_append]; exact Nat.succ_le_succ ha) hL, List.append_assoc]
        rfl
theorem compF {xs : List AV} {body : AV → M (Option AV)} (g : AV → Option AV) (hl : xs.length < 100000) (h : ∀ a ∈ xs, body a = pure (g a)) : compLoop (.items xs) body FUEL 0 [] = pure (xs.filterMap g) :=
  compF_go h FUEL 0 [] (Nat.zero_le _) (by rw [FUEL_is, Nat.zero_add]; exact hl) (Nat.le_refl _) (ltLIM hl)

end Mine


set_option autoImplicit false
set_option linter.unusedVariables false
set_option maxRecDepth 100000
namespace Mine
open PySem PyProof.Rows

noncomputable def anEq : An → An → Bool
  | .none, .none => true
  | .int i, .int j => decide (i = j)
  | .tup xs, .tup ys => decide (xs = ys)
  | _, _ => false
noncomputable def plN (k : Dk) (xs : List Int) : An := match k with
  | .push => .none
  | .clear => .tup xs
  | _ => (match xs with
    | [] => .none
    | x :: _ => .int x)
theorem plN_is (k : Dk) (xs : List Int) : anV (plN k xs) = plA k xs := by cases k <;> first | rfl | (cases xs <;> rfl)
theorem plN_len (k : Dk) (xs : List Int) : anLen (plN k xs) ≤ xs.length := by cases k <;> first | exact Nat.zero_le _ | exact Nat.le_refl _ | (cases xs <;> exact Nat.zero_le _)
noncomputable def anD : An → PyData
  | .none => .none
  | .int i => .int i
  | .tup xs => .tuple (xs.map .int)
theorem mapM_ints {H : AHeap} {n : Nat} : ∀ xs : List Int, (xs.map AV.int).mapM (rd H n) = some (xs.map PyData.int)
  | [] => rfl
  | x :: xs => by rw [List.map_cons, List.mapM_cons, rd_int, mapM_ints xs]; rfl
theorem rd_an {H : AHeap} {n : Nat} (a : An) : rd H (n + 1) (anV a) = some (anD a) := by
  cases a with
  | none => rfl
  | int i => exact rd_int
  | tup xs => show Option.map _ ((xs.map AV.int).mapM (rd H n)) = _; rw [mapM_ints]; rfl
theorem eqv_ints : ∀ xs ys : List Int, PyData.eqvAll (xs.map .int) (ys.map .int) = decide (xs = ys)
  | [], [] => rfl
  | [], _ :: _ => rfl
  | _ :: _, [] => rfl
  | x :: xs, y :: ys => by
    show ((x == y) && PyData.eqvAll (xs.map .int) (ys.map .int)) = _
    rw [eqv_ints xs ys]
    by_cases h : x = y
    · subst h
      by_cases h2 : xs = ys
      · subst h2; simp
      · rw [decide_eq_false h2, decide_eq_false fun q => h2 (List.cons.inj q).2, Bool.and_false]
    · rw [beq_eq_false_iff_ne.mpr h, decide_eq_false fun q => h (List.cons.inj q).1, Bool.false_and]
theorem eqv_an (a b : An) : PyData.eqv (anD a) (anD b) = anEq a b := by
  cases a <;> cases b <;> first | rfl | exact eqv_ints _ _
theorem set_self {H : AHeap} {l : Nat} {o : AO} (h : H[l]? = some o) : H = H.set l o := by
  obtain ⟨q, e⟩ := List.getElem?_eq_some_iff.mp h
  rw [← e, List.set_getElem_self]
theorem ne_anV {H : AHeap} (a b : An) : pCmp .NotEq (anV a) (anV b) H = some (.ok (!anEq a b), H) := bind_of (eq_is (rd_an a) (rd_an b)) (by rw [eqv_an]; rfl)
section
variable {cf : Str → List AV → M AV} {H : AHeap} {l : Nat} {rest : List AV} {o1 o2 o3 : Option AV}
theorem int_turn {i j : Int} (h : H[l]? = some (.list (rest ++ [prV (.int i, .int j)]))) (hne : i ≠ j) : Rn (whileB P13 cf "_law_alike" [] 1 38 [o1, o2, some (.loc l), o3]) H fun r H' => r = .ret (.bool false) ∧ H' = H.set l (.list rest) := by
  rw [c_alike_while_1b]
  simp only [pure_bind]
  refine .bind (.bof (listOf_loc h) (.of (pop_last h) ?_))
  simp only [prV, e_it0, e_it1, pure_bind, show ∀ k : Int, pIsiTL (.int k) = pure false from fun u_ => rfl, e_truth, e_isN, pIsNone, show ∀ k : Int, pIsi (.int k) .bool = pure false from fun u_ => rfl, show ∀ k : Int, pIsi (.int k) .str = pure false from fun u_ => rfl, e_neb, bne_self_eq_false, e_nei, decide_eq_false hne, Bool.not_false, e_go_ret]
  exact .pure ⟨rfl, rfl⟩
theorem ints_loop : ∀ (f : Nat) (ps : List (Int × Int)) {H : AHeap} {l : Nat} {o1 o2 o3 : Option AV}, ps.length < f → H[l]? = some (.list (ps.map fun p => prV (.int p.1, .int p.2))) → Rn (whileLoop (whileT P13 cf "_law_alike" [] 1 38) (whileB P13 cf "_law_alike" [] 1 38) f [o1, o2, some (.loc l), o3]) H fun r H' =>
    (∃ o, H' = H.set l o) ∧ match ps.all fun p => decide (p.1 = p.2) with
      | true => ∃ o1 o2 o3 o4, r = .next [o1, o2, o3, o4]
      | false => r = .ret (.bool false) := by
  intro f
  induction f with
  | zero => intro ps H l o1 o2 o3 h _; exact absurd h (Nat.not_lt_zero _)
  | succ f ih =>
    intro ps H l o1 o2 o3 hl h
    unfold whileLoop
    rw [c_alike_while_1t, e_newL (Nat.zero_le _), pure_bind]
    have hn := ne_nil_loc h fun x hx => by
      obtain ⟨p, _, rfl⟩ := List.mem_map.mp hx
      exact rd_pr (p := (AV.int p.1, AV.int p.2)) ⟨_, rd_int⟩ ⟨_, rd_int⟩
    rcases List.eq_nil_or_concat ps with rfl | ⟨qs, p, rfl⟩
    · exact .bof hn (.pure ⟨⟨_, set_self h⟩, _, _, _, _, rfl⟩)
    · rw [List.concat_eq_append] at *
      rw [List.map_append] at h hn
      refine .bof hn ?_
      rw [show (List.map (fun p : Int × Int => prV (AV.int p.1, AV.int p.2)) qs ++ List.map (fun p : Int × Int => prV (AV.int p.1, AV.int p.2)) [p]).isEmpty = false by cases qs.map (fun p : Int × Int => prV (AV.int p.1, AV.int p.2)) <;> rfl]
      show Rn (do match ← whileB P13 cf "_law_alike" [] 1 38 [o1, o2, some (.loc l), o3] with | .next σ' => whileLoop _ _ f σ' | .ret w => pure (.ret w)) H _
      rw [List.all_append]
      by_cases hp : p.1 = p.2
      · obtain ⟨i, j⟩ := p
        have hp : i = j := hp
        subst hp
        refine .then (leaf_turn cf (a := .int i) h (.inr (.inl ⟨i, rfl⟩))) ?_
        rintro _ _ ⟨rfl, rfl⟩
        refine (ih qs (by rw [List.length_append] at hl; exact Nat.lt_of_succ_lt_succ hl) (set_at h)).mono ?_
        rintro r H' ⟨⟨o, rfl⟩, q⟩
        refine ⟨⟨o, List.set_set ..⟩, ?_⟩
        rw [show ([(i, i)].all fun p => decide (p.1 = p.2)) = true by simp, Bool.and_true]
        exact q
      · refine .then (int_turn h hp) ?_
        rintro _ _ ⟨rfl, rfl⟩
        refine .pure ⟨⟨_, rfl⟩, ?_⟩
        rw [show ([p].all fun p => decide (p.1 = p.2)) = false by simp [hp], Bool.and_false]
theorem first_no {x y : AV} (n : Nat) (H : AHeap) (hx : ∃ d, rd (H ++ [AO.list [AV.tup [x, y]]]) 6 x = some d) (hy : ∃ d, rd (H ++ [AO.list [AV.tup [x, y]]]) 6 y = some d) (turn : ∀ o, Rn (whileB P13 (callP P13 n) "_law_alike" [] 1 38 [some x, some y, some (.loc H.length), o]) (H ++ [AO.list [AV.tup [x, y]]]) fun r H' => r = .ret (.bool false) ∧ ∃ o, H' = (H ++ [AO.list [AV.tup [x, y]]]).set H.length o) :
    Rn (callP P13 (n + 1) "_law_alike" [x, y]) H fun r H' => r = .bool false ∧ ∃ X, H' = H ++ X := by
  have hL := LIMis
  refine callRn (σ := [some x, some y, none, none]) (by kernel_rfl) (by kernel_rfl) (by kernel_rfl) ?_
  rw [c_alike_0]
  refine .bof (newT (by show 1 ≤ LIM; (first | lia | omega))) ?_
  rw [show FUEL = 99999 + 1 from rfl]
  unfold whileLoop
  rw [c_alike_while_1t, e_newL (Nat.zero_le _), pure_bind]
  refine .bind (.bof (ne_nil_loc app_at fun z hz => ?_) ?_)
  · rw [List.mem_singleton.mp hz]
    exact rd_pr (p := (x, y)) hx hy
  show Rn (do match ← whileB P13 (callP P13 n) "_law_alike" [] 1 38 [some x, some y, some (.loc H.length), none] with | .next σ' => whileLoop _ _ 99999 σ' | .ret w => pure (.ret w)) _ _
  refine .then (turn none) ?_
  rintro _ _ ⟨rfl, o, rfl⟩
  exact .pure (.pure ⟨rfl, _, set_far (Nat.le_refl _)⟩)
noncomputable def shp : An → An → Prop
  | .tup xs, .tup ys => xs.length ≠ ys.length
  | .tup _, _ => True
  | _, .tup _ => True
  | _, _ => False
theorem shape_turn {a b : An} (h : shp a b) (hat : H[l]? = some (.list ([] ++ [.tup [anV a, anV b]]))) :
    Rn (whileB P13 cf "_law_alike" [] 1 38 [o1, o2, some (.loc l), o3]) H fun r H' => r = .ret (.bool false) ∧ ∃ o, H' = H.set l o := by
  rw [c_alike_while_1b]
  simp only [pure_bind]
  refine .bind (.bof (listOf_loc hat) (.of (pop_last hat) ?_))
  have fin : ∀ {m : M Res}, m = Pure.pure (.ret (.bool false)) → Rn m (H.set l (.list [])) fun r H' => r = .ret (.bool false) ∧ ∃ o, H' = H.set l o := fun e => .eq e ⟨rfl, _, rfl⟩
  cases b with
  | tup ys =>
    cases a with
    | tup xs =>
      have h : xs.length ≠ ys.length := h
      refine fin ?_
      simp only [anV, e_it0, e_it1, pure_bind, show ∀ zs, pIsiTL (.tup zs) = pure true from fun u_ => rfl, show ∀ zs, pIsi (.tup zs) .tuple = pure true from fun u_ => rfl, show ∀ zs, pIsi (.tup zs) .list = pure false from fun u_ => rfl, e_truth, e_neb, bne_self_eq_false, e_go_next, c_alike_t10_10_1, e_len_tup, e_eachp, e_each0, e_nei, List.length_map, e_go_ret]
      rw [decide_eq_false (fun q => h (Int.ofNat_inj.mp q))]
      rfl
    | none => exact fin (by simp only [anV, e_it0, e_it1, pure_bind, show ∀ zs, pIsiTL (.tup zs) = pure true from fun u_ => rfl, show ∀ zs, pIsi (.tup zs) .tuple = pure true from fun u_ => rfl, show pIsi .none .tuple = pure false from rfl, e_truth, e_neb]; rfl)
    | int i => exact fin (by simp only [anV, e_it0, e_it1, pure_bind, show ∀ zs, pIsiTL (.tup zs) = pure true from fun u_ => rfl, show ∀ zs, pIsi (.tup zs) .tuple = pure true from fun u_ => rfl, show pIsi (.int i) .tuple = pure false from rfl, e_truth, e_neb]; rfl)
  | none =>
    cases a with
    | tup xs =>
      have hn : ∀ G : AHeap, pCmp .NotEq (.tup (xs.map .int)) .none G = some (.ok true, G) := fun G => ne_anV (.tup xs) .none
      simp only [anV, e_it0, e_it1, pure_bind, show pIsiTL .none = pure false from rfl, e_truth, e_isN, pIsNone, show ∀ zs, pIsi (.tup zs) .bool = pure false from fun u_ => rfl, show pIsi .none .bool = pure false from rfl, e_neb, bne_self_eq_false]
      refine .bind (.bind (.bind (.bind (.of (hn _) (.pure ?_)))))
      exact .goEnd (.goEnd (.goEnd ⟨rfl, _, rfl⟩))
    | none => exact h.elim
    | int i => exact h.elim
  | int j =>
    cases a with
    | tup xs =>
      have hn : ∀ G : AHeap, pCmp .NotEq (.tup (xs.map .int)) (.int j) G = some (.ok true, G) := fun G => ne_anV (.tup xs) (.int j)
      simp only [anV, e_it0, e_it1, pure_bind, show pIsiTL (.int j) = pure false from rfl, e_truth, e_isN, pIsNone, show pIsi (.int j) .bool = pure false from rfl, show ∀ zs, pIsi (.tup zs) .str = pure false from fun u_ => rfl, show pIsi (.int j) .str = pure false from rfl, show ∀ zs, pIsi (.tup zs) .bool = pure false from fun u_ => rfl, e_neb, bne_self_eq_false]
      refine .bind (.bind (.bind (.bind (.of (hn _) (.pure ?_)))))
      exact .goEnd (.goEnd (.goEnd ⟨rfl, _, rfl⟩))
    | none => exact h.elim
    | int i => exact h.elim
end
theorem zip_all : ∀ (xs ys : List Int), xs.length = ys.length → ((xs.zip ys).all fun p => decide (p.1 = p.2)) = decide (xs = ys)
  | [], [], _ => rfl
  | x :: xs, y :: ys, h => by
    rw [List.zip_cons_cons, List.all_cons, zip_all xs ys (Nat.succ.inj h)]
    by_cases h1 : x = y
    · subst h1
      by_cases h2 : xs = ys
      · subst h2; simp
      · rw [decide_eq_false h2, Bool.and_false, decide_eq_false fun q => h2 (List.cons.inj q).2]
    · rw [show decide ((x, y).1 = (x, y).2) = false from decide_eq_false h1, Bool.false_and, decide_eq_false fun q => h1 (List.cons.inj q).1]
theorem s_alikeA (n : Nat) (H : AHeap) (a b : An) (ha : anLen a ≤ 1000) (hb : anLen b ≤ 1000) : Rn (callP P13 (n + 1) "_law_alike" [anV a, anV b]) H fun r H' => r = .bool (anEq a b) ∧ ∃ X, H' = H ++ X := by
  have hL := LIMis
  have li : ∀ c : An, (∀ xs, c ≠ .tup xs) → LI (anV c) := fun c hc => by
    cases c with
    | none => exact .inl rfl
    | int i => exact .inr ⟨i, rfl⟩
    | tup xs => exact absurd rfl (hc xs)
  have no : shp a b → anEq a b = false → Rn (callP P13 (n + 1) "_law_alike" [anV a, anV b]) H fun r H' => r = .bool (anEq a b) ∧ ∃ X, H' = H ++ X := fun h e => by
    rw [e]
    exact first_no n H ⟨_, rd_an a⟩ ⟨_, rd_an b⟩ fun o => shape_turn h (by exact app_at)
  have leaf : LI (anV a) → LI (anV b) → eqL (anV a) (anV b) = anEq a b → Rn (callP P13 (n + 1) "_law_alike" [anV a, anV b]) H fun r H' => r = .bool (anEq a b) ∧ ∃ X, H' = H ++ X := fun h1 h2 e => by rw [← e]; exact s_leaf n H h1 h2
  cases a with
  | none =>
    cases b with
    | none => exact leaf (.inl rfl) (.inl rfl) rfl
    | int j => exact leaf (.inl rfl) (.inr ⟨j, rfl⟩) rfl
    | tup ys => exact no trivial rfl
  | int i =>
    cases b with
    | none => exact leaf (.inr ⟨i, rfl⟩) (.inl rfl) rfl
    | int j => exact leaf (.inr ⟨i, rfl⟩) (.inr ⟨j, rfl⟩) rfl
    | tup ys => exact no trivial rfl
  | tup xs =>
    cases b with
    | none => exact no trivial rfl
    | int j => exact no trivial rfl
    | tup ys =>
      by_cases hl : xs.length = ys.length
      · have ha : xs.length ≤ 1000 := ha
        clear no leaf li
        refine callRn (σ := [some (anV (.tup xs)), some (anV (.tup ys)), none, none]) (by kernel_rfl) (by kernel_rfl) (by kernel_rfl) ?_
        rw [c_alike_0]
        refine .bof (newT (by show 1 ≤ LIM; (first | lia | omega))) ?_
        rw [show FUEL = 99999 + 1 from rfl]
        unfold whileLoop
        rw [c_alike_while_1t, e_newL (Nat.zero_le _), pure_bind]
        refine .bind (.bof (ne_nil_loc app_at fun z hz => ?_) ?_)
        · rw [List.mem_singleton.mp hz]
          exact rd_pr (p := (anV (.tup xs), anV (.tup ys))) ⟨_, rd_an (.tup xs)⟩ ⟨_, rd_an (.tup ys)⟩
        show Rn (do match ← whileB P13 (callP P13 n) "_law_alike" [] 1 38 [some (anV (.tup xs)), some (anV (.tup ys)), some (.loc H.length), none] with | .next σ' => whileLoop _ _ 99999 σ' | .ret w => pure (.ret w)) _ _
        have hat : (H ++ [AO.list [AV.tup [anV (.tup xs), anV (.tup ys)]]])[H.length]? = some (.list ([] ++ [prV (anV (.tup xs), anV (.tup ys))])) := app_at
        refine .then (seq_turn _ (k := true) (xs := xs.map .int) (ys := ys.map .int) hat rfl rfl (by rw [List.length_map, List.length_map]; exact hl) (by rw [List.length_map]; show 0 + _ ≤ _; (first | lia | omega))) ?_
        rintro _ _ ⟨rfl, rfl⟩
        have ez : ([] : List AV) ++ ((xs.map AV.int).zip (ys.map AV.int)).map prV = (xs.zip ys).map fun p => prV (.int p.1, .int p.2) := by
          rw [List.nil_append, List.zip_map, List.map_map]; rfl
        rw [ez]
        have hl2 : (H ++ [AO.list [AV.tup [anV (.tup xs), anV (.tup ys)]]]).length = H.length + 1 := List.length_append ..
        have hat2 : (((H ++ [AO.list [AV.tup [anV (.tup xs), anV (.tup ys)]]]).set H.length (.list [])) ++ [AO.list ((xs.zip ys).map fun p => prV (.int p.1, .int p.2))])[(H ++ [AO.list [AV.tup [anV (.tup xs), anV (.tup ys)]]]).length]? = some (.list ((xs.zip ys).map fun p => prV (.int p.1, .int p.2))) := by
          have := app_at (H := (H ++ [AO.list [AV.tup [anV (.tup xs), anV (.tup ys)]]]).set H.length (.list [])) (o := .list ((xs.zip ys).map fun p => prV (.int p.1, .int p.2)))
          rwa [List.length_set] at this
        refine (ints_loop 99999 (xs.zip ys) (by rw [List.length_zip]; (first | lia | omega)) hat2).mono ?_
        rintro r H' ⟨⟨o, rfl⟩, q⟩
        rw [zip_all xs ys hl] at q
        have hX : ∃ X, ((((H ++ [AO.list [AV.tup [anV (.tup xs), anV (.tup ys)]]]).set H.length (.list [])) ++ [AO.list ((xs.zip ys).map fun p => prV (.int p.1, .int p.2))]).set (H ++ [AO.list [AV.tup [anV (.tup xs), anV (.tup ys)]]]).length o) = H ++ X := by
          rw [set_far (H := H) (Nat.le_refl _), List.append_assoc, set_far (by rw [hl2]; exact Nat.le_succ _)]
          exact ⟨_, rfl⟩
        cases he : decide (xs = ys) with
        | true =>
          rw [he] at q
          obtain ⟨o1, o2, o3, o4, rfl⟩ := q
          rw [e_go_next, c_alike_t_2]
          exact .pure ⟨by show AV.bool true = .bool (decide (xs = ys)); rw [he], hX⟩
        | false =>
          rw [he] at q
          subst q
          exact .pure ⟨by show AV.bool false = .bool (decide (xs = ys)); rw [he], hX⟩
      · exact no hl (decide_eq_false fun q => hl (by rw [q]))
end Mine


set_option autoImplicit false
set_option linter.unusedVariables false
set_option maxRecDepth 100000
namespace Mine
open PySem PyProof.Rows

structure Rx where
  num : Nat
  place : Nat
  deed : Deed
  begun : Nat
  point : Nat
  en : Option Nat
  an : An
noncomputable def rxV (r : Rx) : AV := .tup [.int r.num, .int r.place, deedV r.deed, .int r.begun, .int r.point, ixV r.en, anV r.an]
noncomputable def finAn : Option (Nat × An) → An
  | none => .none
  | some q => q.2
noncomputable def ofRow (r : Row) : Rx := ⟨r.num, r.place, r.deed, r.begun, r.point, r.fin.map (·.1), finAn r.fin⟩
theorem rxV_of (r : Row) : rxV (ofRow r) = rwV r := by
  obtain ⟨a, b, c, d, e, f⟩ := r
  cases f <;> rfl
theorem rx2 (r : Rx) : pItem (rxV r) (.int 2) = pure (deedV r.deed) := e_item_tup (k := 2) rfl
theorem rx3 (r : Rx) : pItem (rxV r) (.int 3) = pure (.int r.begun) := e_item_tup (k := 3) rfl
theorem rx4 (r : Rx) : pItem (rxV r) (.int 4) = pure (.int r.point) := e_item_tup (k := 4) rfl
theorem rx5 (r : Rx) : pItem (rxV r) (.int 5) = pure (ixV r.en) := e_item_tup (k := 5) rfl
theorem rx6 (r : Rx) : pItem (rxV r) (.int 6) = pure (anV r.an) := e_item_tup (k := 6) rfl
noncomputable def aheadX (r q : Rx) : Bool := match r.en with
  | none => false
  | some τ => decide (τ < q.begun)
theorem lt_cast (a b : Nat) : decide ((a : Int) < (b : Int)) = decide (a < b) := decide_eq_decide.mpr Int.ofNat_lt
theorem isnot_ix (x : Option Nat) : pCmp .IsNot (ixV x) .none = pure x.isSome := by cases x <;> rfl
theorem s_ahead (n : Nat) (r q : Rx) : callP P13 (n + 1) "_law_ahead" [rxV r, rxV q] = pure (.bool (aheadX r q)) := by
  refine callQ (σ := [some (rxV r), some (rxV q)]) (by kernel_rfl) (by kernel_rfl) (by kernel_rfl) ?_
  rw [c_ahead_0]
  simp only [rx5, rx3, pure_bind, isnot_ix, e_truth]
  unfold aheadX
  cases r.en with
  | none => rfl
  | some τ => simp only [Option.isSome_some, ixV, e_lt, pure_bind, lt_cast]
theorem s_late (n : Nat) (r q : Rx) : callP P13 (n + 1) "is_late" [rxV r, rxV q] = pure (.bool (aheadX q r)) := by
  refine callQ (σ := [some (rxV r), some (rxV q)]) (by kernel_rfl) (by kernel_rfl) (by kernel_rfl) ?_
  rw [c_is_late_0]
  simp only [rx5, rx3, pure_bind, isnot_ix, e_truth]
  unfold aheadX
  cases q.en with
  | none => rfl
  | some τ => simp only [Option.isSome_some, ixV, e_gt, pure_bind, lt_cast]
noncomputable def okX (r : Rx) (vals : List Int) : Bool := r.en.isNone || anEq r.an (plN r.deed.k vals)
theorem anEq_comm (a b : An) : anEq a b = anEq b a := by
  cases a <;> cases b <;> first | rfl | exact decide_eq_decide.mpr ⟨Eq.symm, Eq.symm⟩
theorem s_behind (n : Nat) (H : AHeap) (r : Rx) (vals : List Int) (hl : vals.length ≤ 1000) : callP P13 (n + 4) "behind" [.lst (vals.map .int), rxV r] H = some (.ok (match okX r vals with | true => .lst ((plV r.deed.k r.deed.v vals).map .int) | false => .none), H) := by
  refine Rn.val (callRn (σ := [some (.lst (vals.map .int)), some (rxV r), none, none]) (by kernel_rfl) (by kernel_rfl) (by kernel_rfl) ?_)
  rw [c_behind_0]
  have hp : callP P13 (n + 3) "played" [.lst (vals.map .int), deedV r.deed] = _ := s_played n r.deed.k r.deed.v vals hl
  simp only [rx2, e_eachp, e_each0, pure_bind, hp]
  rw [show pairOf (.tup [plA r.deed.k vals, .lst ((plV r.deed.k r.deed.v vals).map .int)]) = pure (plA r.deed.k vals, .lst ((plV r.deed.k r.deed.v vals).map .int)) from rfl]
  simp only [pure_bind, rx5, isnot_ix, rx6]
  unfold okX
  cases hen : r.en with
  | none =>
    simp only [Option.isSome_none, Option.isNone_none, Bool.true_or, pure_bind, e_go_next, c_behind_t_2]
    exact .pure ⟨rfl, rfl⟩
  | some τ =>
    simp only [Option.isSome_some, Option.isNone_some, Bool.false_or]
    rw [← plN_is]
    refine .bind (.bind (.of (ne_anV _ _) ?_))
    rw [anEq_comm]
    cases anEq r.an (plN r.deed.k vals) with
    | true =>
      refine .pure ?_
      show Rn (goOn (tl P13 (callP P13 (n + 3)) "behind" [] 2 38) (Res.next _)) H _
      rw [e_go_next, c_behind_t_2]
      exact .pure ⟨rfl, rfl⟩
    | false => exact .pure (.pure ⟨rfl, rfl⟩)
noncomputable def dfX : Rx := ⟨0, 0, ⟨.pop, 0⟩, 0, 0, none, .none⟩
noncomputable def rxAt (RS : List Rx) (p : Nat) : Rx := (RS[p]?).getD dfX
theorem rx_it {RS : List Rx} {p : Nat} (h : p < RS.length) : (RS.map rxV)[p]? = some (rxV (rxAt RS p)) := by
  unfold rxAt; rw [List.getElem?_map, List.getElem?_eq_getElem h]; rfl
noncomputable def lead (RS : List Rx) : Nat → List Nat → List Int → Option (List Nat)
  | 0, _, _ => none
  | f + 1, rest, vals => match rest with
    | [] => some []
    | _ => rest.findSome? fun p => if !(rest.any fun q => aheadX (rxAt RS q) (rxAt RS p)) && okX (rxAt RS p) vals then (lead RS f (rest.filter fun q => decide (q ≠ p)) (plV (rxAt RS p).deed.k (rxAt RS p).deed.v vals)).map (p :: ·) else none
noncomputable def ordV (o : List Nat) : Option (List Nat) → AV
  | none => .none
  | some l => .lst ((o ++ l).map natV)
theorem forSome {body : AV → Loc → M Res} {rest : List Nat} {g : Nat → Option AV} {J : Loc → Prop} {σ : Loc} {H : AHeap} (hl : rest.length < 100000) (h0 : J σ)
    (hs : ∀ p ∈ rest, ∀ σ X, J σ → Rn (body (natV p) σ) (H ++ X) fun r H' => (∃ X', H' = H ++ X') ∧ match g p with | some v => r = .ret v | none => ∃ σ', r = .next σ' ∧ J σ') :
    Rn (forLoop (.items (rest.map natV)) body FUEL 0 σ) H fun r H' => (∃ X', H' = H ++ X') ∧ match rest.findSome? g with | some v => r = .ret v | none => ∃ σ', r = .next σ' ∧ J σ' := by
  refine forI (fun k σ H2 => J σ ∧ (∃ X, H2 = H ++ X) ∧ (rest.take k).findSome? g = none) (by rw [List.length_map]; exact hl) ⟨h0, ⟨[], (List.append_nil _).symm⟩, rfl⟩ ?_ ?_
  · rintro k a σ H2 ha ⟨hJ, ⟨X, rfl⟩, hf⟩
    rw [List.getElem?_map, Option.map_eq_some_iff] at ha
    obtain ⟨p, hp, rfl⟩ := ha
    have hm := List.mem_of_getElem? hp
    have tk : rest.take (k + 1) = rest.take k ++ [p] := by rw [List.take_add_one, hp]; rfl
    refine (hs p hm σ X hJ).mono ?_
    rintro r H3 ⟨hX, q⟩
    have full : rest = rest.take k ++ p :: rest.drop (k + 1) := by
      have hk := (List.getElem?_eq_some_iff.mp hp).1
      conv => lhs; rw [← List.take_append_drop k rest]
      rw [List.drop_eq_getElem_cons hk]
      rw [List.getElem?_eq_getElem hk] at hp
      rw [Option.some.inj hp]
    cases hg : g p with
    | some v =>
      rw [hg] at q
      subst q
      refine ⟨hX, ?_⟩
      rw [full, List.findSome?_append, hf, Option.none_or, List.findSome?_cons, hg]
    | none =>
      rw [hg] at q
      obtain ⟨σ', rfl, hJ'⟩ := q
      refine ⟨hJ', hX, ?_⟩
      rw [tk, List.findSome?_append, hf, Option.none_or, List.findSome?_cons, hg]; rfl
  · rintro σ H2 ⟨hJ, hX, hf⟩
    rw [List.length_map, List.take_length] at hf
    refine ⟨hX, ?_⟩
    rw [hf]
    exact ⟨σ, rfl, hJ⟩
end Mine


set_option autoImplicit false
set_option linter.unusedVariables false
set_option maxRecDepth 100000
namespace Mine
open PySem PyProof.Rows

theorem any_bools (bs : List Bool) : pBI false .any [.lst (bs.map .bool)] = pure (.bool (bs.any id)) := by
  have : boolsOf (bs.map .bool) = some bs := by
    induction bs with
    | nil => rfl
    | cons b r ih => rw [List.map_cons]; show Option.map _ _ = _; rw [ih]; rfl
  show (do let bs ← ofOpt (boolsOf (bs.map .bool)); pure (.bool (bs.any id)) : M AV) = _
  rw [this]; rfl
theorem nats_isnil (xs : List Nat) (H : AHeap) : pCmp .Eq (.lst (xs.map natV)) (.lst []) H = some (.ok xs.isEmpty, H) := by
  rw [eq_is (show rd H 8 (.lst (xs.map natV)) = some (.list _) from by show Option.map _ ((xs.map natV).mapM (rd H 7)) = _; rw [mapM_nats]; rfl) rd_nil, eqv_nil]
  cases xs <;> rfl
theorem ne_natD (i j : Nat) : pCmp .NotEq (.int (i : Int)) (.int (j : Int)) = pure (decide (i ≠ j)) := by
  rw [e_nei]
  congr 1
  by_cases h : i = j
  · subst h; simp
  · rw [decide_eq_true h, decide_eq_false (by (first | lia | omega))]; rfl
theorem filt_nats (n : Nat) (xs : List Nat) (p : Nat) (hl : xs.length ≤ 1000) : compLoop (.items (xs.map natV)) (fun u7 => (do let t9 ← (pCmp .NotEq u7 (.int (p : Int))); if t9 = true then pure (some u7) else pure none)) FUEL 0 [] = pure ((xs.filter fun q => decide (q ≠ p)).map natV) := by
  have : ∀ ys : List Nat, (ys.map natV).filterMap (fun a => match a with | .int i => if i = (p : Int) then none else some (.int i) | a => some a) = (ys.filter fun q => decide (q ≠ p)).map natV := fun ys => by
    induction ys with
    | nil => rfl
    | cons y r ih =>
      rw [List.map_cons, List.filterMap_cons, ih, List.filter_cons]
      by_cases h : y = p
      · rw [show (match natV y with | .int i => if i = (p : Int) then none else some (.int i) | a => some a : Option AV) = none from if_pos (by rw [h]), if_neg (by simp [h])]
      · rw [show (match natV y with | .int i => if i = (p : Int) then none else some (.int i) | a => some a : Option AV) = some (natV y) from if_neg (fun q => h (Int.ofNat_inj.mp q)), if_pos (by simp [h])]; rfl
  rw [compF (fun a => match a with | .int i => if i = (p : Int) then none else some (.int i) | a => some a) (by rw [List.length_map]; (first | lia | omega)) fun a ha => ?_, this]
  obtain ⟨i, _, rfl⟩ := List.mem_map.mp ha
  show (do let t9 ← pCmp .NotEq (.int (i : Int)) (.int (p : Int)); _) = _
  rw [ne_natD, pure_bind]
  by_cases h : i = p
  · rw [decide_eq_false (by simp [h]), if_neg (by decide)]
    show _ = pure (if ((i : Nat) : Int) = (p : Int) then none else some _)
    rw [if_pos (by rw [h])]
  · rw [decide_eq_true h, if_pos rfl]
    show _ = pure (if ((i : Nat) : Int) = (p : Int) then none else some _)
    rw [if_neg (fun q => h (Int.ofNat_inj.mp q))]; rfl

theorem compH {xs : List AV} {body : AV → M (Option AV)} {H : AHeap} (g : AV → AV) (hl : xs.length < 100000) (h : ∀ a ∈ xs, body a H = some (.ok (some (g a)), H)) : compLoop (.items xs) body FUEL 0 [] H = some (.ok (xs.map g), H) := by
  refine Rn.val ((compA xs (fun i acc H2 => H2 = H ∧ acc = (xs.take i).map g) hl (fun u_ u_ u_ u_ => rfl) ⟨rfl, rfl⟩ ?_).mono ?_)
  · rintro i a acc H2 ha hacc ⟨rfl, rfl⟩
    refine .of (h a (List.mem_of_getElem? ha)) ⟨_, rfl, rfl, ?_⟩
    rw [List.take_add_one, ha, List.map_append]; rfl
  · rintro ys H2 ⟨⟨rfl, rfl⟩, _⟩
    exact ⟨by rw [List.take_length], rfl⟩
structure RowsIs (H₀ : AHeap) (v : AV) (RS : List Rx) : Prop where
  at' : ∀ X p, p < RS.length → pItem v (.int p) (H₀ ++ X) = some (.ok (rxV (rxAt RS p)), H₀ ++ X)
theorem rows_loc {H₀ : AHeap} {RS : List Rx} {l : Nat} (h : H₀[l]? = some (.list (RS.map rxV))) : RowsIs H₀ (.loc l) RS := ⟨fun X p hp => item_loc (by rw [List.getElem?_append_left (List.getElem?_eq_some_iff.mp h).1]; exact h) (rx_it hp)⟩
theorem lead_step {RS : List Rx} {f : Nat} {rest : List Nat} {vals : List Int} (hne : rest ≠ []) : lead RS (f + 1) rest vals = rest.findSome? fun p => if !(rest.any fun q => aheadX (rxAt RS q) (rxAt RS p)) && okX (rxAt RS p) vals then (lead RS f (rest.filter fun q => decide (q ≠ p)) (plV (rxAt RS p).deed.k (rxAt RS p).deed.v vals)).map (p :: ·) else none := by
  cases rest with
  | nil => exact absurd rfl hne
  | cons x r => rfl
theorem filt_lt {rest : List Nat} {p : Nat} (hp : p ∈ rest) : (rest.filter fun q => decide (q ≠ p)).length < rest.length := List.length_filter_lt_length_iff_exists.mpr ⟨p, hp, by simp⟩
theorem find_map {rest : List Nat} {g : Nat → Option (List Nat)} {o : List Nat} : rest.findSome? (fun p => (g p).map fun l => ordV o (some l)) = (rest.findSome? g).map fun l => ordV o (some l) := by
  induction rest with
  | nil => rfl
  | cons x r ih =>
    rw [List.findSome?_cons, List.findSome?_cons]
    cases g x with
    | none => exact ih
    | some l => rfl
theorem lead_len {RS : List Rx} : ∀ (f : Nat) (rest : List Nat) (vals : List Int) (o : List Nat), lead RS f rest vals = some o → o.length ≤ f
  | 0, _, _, _, h => nomatch h
  | f + 1, rest, vals, o, h => by
    by_cases hne : rest = []
    · subst hne; cases h; exact Nat.zero_le _
    · rw [lead_step hne] at h
      obtain ⟨p, _, hp⟩ := List.exists_of_findSome?_eq_some h
      split at hp
      · obtain ⟨l, h1, h2⟩ := Option.map_eq_some_iff.mp hp
        subst h2
        exact Nat.succ_le_succ (lead_len f _ _ l h1)
      · cases hp
theorem s_least (n : Nat) {H₀ : AHeap} {v : AV} {RS : List Rx} (hR : RowsIs H₀ v RS) (hA : ∀ p, anLen (rxAt RS p).an ≤ 1000) : ∀ (f : Nat) (rest : List Nat) (vals : List Int) (X : AHeap), (∀ p ∈ rest, p < RS.length) → rest.length < f → rest.length ≤ 100 → vals.length + f ≤ 900 →
    Rn (callP P13 (n + f + 1) "_law_least" [.lst (rest.map natV), .lst (vals.map .int), v]) (H₀ ++ X) fun a H' => a = ordV [] (lead RS f rest vals) ∧ ∃ X', H' = H₀ ++ X ++ X' := by
  intro f
  induction f with
  | zero => intro rest vals X _ hl _ _; exact absurd hl (Nat.not_lt_zero _)
  | succ f ih =>
    intro rest vals X hr hl hl2 hv
    have hL := LIMis
    refine callRn (σ := [some (.lst (rest.map natV)), some (.lst (vals.map .int)), some v, none, none, none, none]) (by kernel_rfl) (by kernel_rfl) (by kernel_rfl) ?_
    rw [c_least_0, e_newL (Nat.zero_le _), pure_bind]
    refine .bof (nats_isnil rest _) ?_
    cases hem : rest.isEmpty with
    | true =>
      have : rest = [] := List.isEmpty_iff.mp hem
      subst this
      exact .pure ⟨rfl, [], (List.append_nil _).symm⟩
    | false =>
      have hne : rest ≠ [] := fun e => by rw [e] at hem; cases hem
      rw [lead_step hne]
      simp only [e_go_next, c_least_t_1, pure_bind, srcOf_lst]
      have loop := forSome (H := H₀ ++ X) (rest := rest) (σ := [some (.lst (rest.map natV)), some (.lst (vals.map .int)), some v, none, none, none, none]) (body := forB P13 (callP P13 (n + (f + 1))) "_law_least" [] 1 38)
        (g := fun p => (if !(rest.any fun q => aheadX (rxAt RS q) (rxAt RS p)) && okX (rxAt RS p) vals then (lead RS f (rest.filter fun q => decide (q ≠ p)) (plV (rxAt RS p).deed.k (rxAt RS p).deed.v vals)).map (p :: ·) else none).map fun l => ordV [] (some l))
        (J := fun σ => ∃ o4 o5 o6 o7, σ = [some (.lst (rest.map natV)), some (.lst (vals.map .int)), some v, o4, o5, o6, o7]) (by (first | lia | omega)) ⟨_, _, _, _, rfl⟩ ?_
      · refine .then loop ?_
        rintro r H' ⟨⟨X', rfl⟩, q⟩
        rw [find_map] at q
        have ap : ∃ X'', H₀ ++ X ++ X' = H₀ ++ X ++ X'' := ⟨X', rfl⟩
        revert q
        generalize rest.findSome? _ = res
        intro q
        cases res with
        | some l =>
          have q : r = .ret (ordV [] (some l)) := q
          subst q
          exact .pure ⟨rfl, ap⟩
        | none =>
          obtain ⟨σ', rfl, o4, o5, o6, o7, rfl⟩ := q
          rw [e_go_next, c_least_t_2]
          exact .pure ⟨rfl, ap⟩
      · rintro p hp σ X1 ⟨o4, o5, o6, o7, rfl⟩
        have hlt := hr p hp
        have ap : ∀ Y, ∃ X', H₀ ++ (X ++ X1) ++ Y = H₀ ++ X ++ X' := fun Y => ⟨X1 ++ Y, by rw [List.append_assoc, List.append_assoc, List.append_assoc]⟩
        have ap0 : ∃ X', H₀ ++ (X ++ X1) = H₀ ++ X ++ X' := ⟨X1, by rw [List.append_assoc]⟩
        rw [List.append_assoc]
        have rp := hR.at' (X ++ X1) p hlt
        have cmp : compLoop (.items (rest.map natV)) (fun u6 => (do let y7 ← (do let vs8 ← eachM [(pItem v u6), (pItem v (natV p))]; callP P13 (n + (f + 1)) "_law_ahead" vs8); pure (some y7))) FUEL 0 [] (H₀ ++ (X ++ X1)) = some (.ok ((rest.map fun q => aheadX (rxAt RS q) (rxAt RS p)).map .bool), H₀ ++ (X ++ X1)) := by
          rw [compH (fun a => match a with | .int i => .bool (aheadX (rxAt RS i.toNat) (rxAt RS p)) | a => a) (by rw [List.length_map]; (first | lia | omega)) fun a ha => ?_, List.map_map, List.map_map]
          · rfl
          · obtain ⟨q, hq, rfl⟩ := List.mem_map.mp ha
            refine Rn.val ?_
            repeat with_reducible refine .bind ?_
            refine .eachE (hR.at' _ q (hr q hq)) (.eachE rp (.each0 (.eq (s_ahead (n + f) _ _) (.pure ⟨?_, rfl⟩))))
            show some _ = some (AV.bool (aheadX (rxAt RS ((q : Nat) : Int).toNat) (rxAt RS p)))
            rw [Int.toNat_natCast]
        have pl : callP P13 (n + (f + 1)) "_law_played" [.lst (vals.map .int), deedV (rxAt RS p).deed] = pure (.tup [plA (rxAt RS p).deed.k vals, .lst ((plV (rxAt RS p).deed.k (rxAt RS p).deed.v vals).map .int)]) := s_lplayed (n + f) _ _ _ (by (first | lia | omega))
        rw [show natV p = .int (p : Int) from rfl] at cmp ⊢
        rw [c_least_for_1]
        repeat with_reducible refine .bind ?_
        refine .eachP (.eachC (.bof rp (.eq (rx2 _) (.each0 (.eq pl ?_)))))
        repeat with_reducible refine .bind ?_
        refine .eachC ?_
        repeat with_reducible refine .bind ?_
        refine .pure (.beq srcOf_lst (.bof cmp (.eq (e_newL (by rw [List.length_map, List.length_map]; (first | lia | omega))) (.each0 (.eq (any_bools _) (.beq e_truth (.pure ?_)))))))
        rw [List.any_map]
        simp only [e_truth, Function.comp_def, id_eq, pure_bind]
        cases ha : rest.any fun q => aheadX (rxAt RS q) (rxAt RS p) with
        | true =>
          simp only [Bool.not_true, Bool.false_and, Bool.false_eq_true, if_false, pure_bind, e_go_next, Option.map_none]
          exact .pure ⟨ap0, _, rfl, _, _, _, _, rfl⟩
        | false =>
          simp only [Bool.not_false, Bool.true_and, pure_bind]
          refine .then (R := fun b H' => b = okX (rxAt RS p) vals ∧ ∃ Y, H' = H₀ ++ (X ++ X1) ++ Y) ?_ ?_
          · repeat with_reducible refine .bind ?_
            refine .of rp (.eq (rx5 _) (.eq e_isN ?_))
            unfold okX
            cases hen : (rxAt RS p).en with
            | none => exact .pure (.pure ⟨rfl, [], (List.append_nil _).symm⟩)
            | some τ =>
              show Rn (do let t32 ← _; _) _ _
              repeat with_reducible refine .bind ?_
              refine .eachC (.bof rp (.eq (rx6 _) (.eachC (.eq e_it0 (.each0 ?_)))))
              rw [← plN_is]
              refine (s_alikeA (n + f) _ _ _ (hA p) (Nat.le_trans (plN_len _ _) (by (first | lia | omega)))).mono ?_
              rintro _ H' ⟨rfl, Y, rfl⟩
              rw [e_truth]
              refine .pure ?_
              cases anEq (rxAt RS p).an (plN (rxAt RS p).deed.k vals) <;> exact .pure (.pure ⟨rfl, Y, rfl⟩)
          · rintro b H' ⟨rfl, Y, rfl⟩
            cases hok : okX (rxAt RS p) vals with
            | false =>
              simp only [Bool.false_eq_true, if_false, Option.map_none, pure_bind, e_go_next]
              exact .pure ⟨ap Y, _, rfl, _, _, _, _, rfl⟩
            | true =>
              simp only [if_true]
              repeat with_reducible refine .bind ?_
              refine .eachC ?_
              repeat with_reducible refine .bind ?_
              refine .pure (.beq (filt_nats 0 rest p (by (first | lia | omega))) (.eq (e_newL (by rw [List.length_map]; exact Nat.le_trans (List.length_filter_le _ _) (by (first | lia | omega)))) (.eachC (.eq e_it1 (.eachP (.each0 ?_))))))
              have fl := filt_lt hp
              have hv2 := plV_le (rxAt RS p).deed.k (rxAt RS p).deed.v vals
              rw [List.append_assoc]
              refine (ih _ _ (X ++ X1 ++ Y) (fun q hq => hr q (List.mem_filter.mp hq).1) (by (first | lia | omega)) (Nat.le_trans (List.length_filter_le _ _) hl2) (by (first | lia | omega))).mono ?_
              rintro _ H' ⟨rfl, X3, rfl⟩
              have lb : ∀ o, lead RS f (rest.filter fun q => decide (q ≠ p)) (plV (rxAt RS p).deed.k (rxAt RS p).deed.v vals) = some o → o.length ≤ 1000 := fun o ho => Nat.le_trans (lead_len _ _ _ _ ho) (by (first | lia | omega))
              have ap3 : ∃ X', H₀ ++ (X ++ X1 ++ Y) ++ X3 = H₀ ++ X ++ X' := ⟨X1 ++ Y ++ X3, by simp only [List.append_assoc]⟩
              cases hlead : lead RS f (rest.filter fun q => decide (q ≠ p)) (plV (rxAt RS p).deed.k (rxAt RS p).deed.v vals) with
              | none =>
                simp only [ordV, e_isnone, pure_bind, e_go_next, Option.map_none]
                exact .pure (.goEnd ⟨ap3, _, rfl, _, _, _, _, rfl⟩)
              | some o =>
                have hol := lb o hlead
                simp only [ordV, show ∀ xs, pCmp .IsNot (.lst xs) .none = pure true from fun u_ => rfl, pure_bind, Option.map_some, List.nil_append]
                rw [e_newL (by show 1 ≤ LIM; (first | lia | omega)), pure_bind, m_addL (by rw [List.length_map]; show 1 + _ ≤ LIM; (first | lia | omega)), pure_bind]
                exact .pure (.goEnd ⟨ap3, rfl⟩)
end Mine


set_option autoImplicit false
set_option linter.unusedVariables false
set_option maxRecDepth 100000
namespace Mine
open PySem PyProof.Rows

theorem notin_lst (p : Nat) (o : List Nat) : pCmp .NotIn (.int (p : Int)) (.lst (o.map natV)) = pure (decide (p ∉ o)) := by
  funext H
  have e2 : rd H 8 (.lst (o.map natV)) = some (.list (o.map fun (i : Nat) => PyData.int (i : Int))) := by
    show Option.map _ ((o.map natV).mapM (rd H 7)) = _
    rw [mapM_nats]; rfl
  have e3 : ((o.map fun (i : Nat) => PyData.int (i : Int)).any fun y => PyData.eqv y (.int (p : Int))) = decide (p ∈ o) := by
    rw [List.any_map]
    show (o.any fun (i : Nat) => ((i : Int) == (p : Int))) = _
    by_cases h : p ∈ o
    · rw [decide_eq_true h, List.any_eq_true]
      exact ⟨p, h, beq_self_eq_true _⟩
    · rw [decide_eq_false h, List.any_eq_false]
      exact fun x hx q => h (by have := beq_iff_eq.mp q; rw [← Int.ofNat_inj.mp this]; exact hx)
  have e1 : pIn (.int (p : Int)) (.lst (o.map natV)) H = some (.ok (decide (p ∈ o)), H) := bind_of (rdM_is rd_int) (bind_of (rdM_is e2) (by
    show some (Except.ok ((o.map fun (i : Nat) => PyData.int (i : Int)).any fun y => PyData.eqv y (.int (p : Int))), H) = _
    rw [e3]))
  have : pCmp .NotIn (.int (p : Int)) (.lst (o.map natV)) H = some (.ok (!decide (p ∈ o)), H) := bind_of e1 rfl
  rw [this, decide_not]; rfl
noncomputable def leftP (n : Nat) (o : List Nat) : List Nat := (List.range n).filter fun p => decide (p ∉ o)
theorem left_snoc {n p : Nat} {o : List Nat} : leftP n (o ++ [p]) = (leftP n o).filter fun q => decide (q ≠ p) := by
  unfold leftP
  rw [List.filter_filter]
  refine List.filter_congr fun q u_ => ?_
  rw [← Bool.decide_and]
  exact decide_eq_decide.mpr ⟨fun h => ⟨fun e => h (List.mem_append_right _ (List.mem_singleton.mpr e)), fun e => h (List.mem_append_left _ e)⟩, fun ⟨h1, h2⟩ h => (List.mem_append.mp h).elim h2 fun e => h1 (List.mem_singleton.mp e)⟩
theorem left_lt {n p : Nat} {o : List Nat} (h : p ∈ leftP n o) : p < n := List.mem_range.mp (List.mem_filter.mp h).1
theorem rangeL_nat (n : Nat) : rangeL 0 n = (List.range n).map natV := by
  unfold rangeL
  rw [Int.sub_zero, Int.toNat_natCast]
  exact List.map_congr_left fun k u_ => by rw [Int.zero_add]; rfl
theorem left_is (n : Nat) (o : List Nat) (hn : n ≤ 1000) : compLoop (.items (rangeL 0 n)) (fun u1 => (do let t3 ← (pCmp .NotIn u1 (.lst (o.map natV))); if t3 = true then pure (some u1) else pure none)) FUEL 0 [] = pure ((leftP n o).map natV) := by
  rw [rangeL_nat]
  have : ∀ ys : List Nat, (ys.map natV).filterMap (fun a => match a with | .int i => if i.toNat ∈ o then none else some (.int i) | a => some a) = (ys.filter fun p => decide (p ∉ o)).map natV := fun ys => by
    induction ys with
    | nil => rfl
    | cons y r ih =>
      rw [List.map_cons, List.filterMap_cons, ih, List.filter_cons]
      by_cases h : y ∈ o
      · rw [show (match natV y with | .int i => if i.toNat ∈ o then none else some (.int i) | a => some a : Option AV) = none from if_pos (by rw [Int.toNat_natCast]; exact h), if_neg (by simp [h])]
      · rw [show (match natV y with | .int i => if i.toNat ∈ o then none else some (.int i) | a => some a : Option AV) = some (natV y) from if_neg (by rw [Int.toNat_natCast]; exact h), if_pos (by simp [h])]; rfl
  rw [compF (fun a => match a with | .int i => if i.toNat ∈ o then none else some (.int i) | a => some a) (by rw [List.length_map, List.length_range]; (first | lia | omega)) fun a ha => ?_, this]
  · rfl
  · obtain ⟨i, _, rfl⟩ := List.mem_map.mp ha
    show (do let t3 ← pCmp .NotIn (.int (i : Int)) (.lst (o.map natV)); if t3 = true then pure (some (AV.int (i : Int))) else pure none : M (Option AV)) = pure (if ((i : Nat) : Int).toNat ∈ o then none else some (.int (i : Int)))
    rw [notin_lst, pure_bind, Int.toNat_natCast]
    by_cases h : i ∈ o
    · rw [decide_eq_false (fun q => q h), if_neg (by decide), if_pos h]
    · rw [decide_eq_true h, if_pos rfl, if_neg h]
theorem late_is (n : Nat) {RS : List Rx} (rest : List Nat) (p : Nat) (hp : p < RS.length) (hr : ∀ q ∈ rest, q < RS.length) (hl : rest.length ≤ 1000) : compLoop (.items (rest.map natV)) (fun u10 => (do let t14 ← (pCmp .NotEq u10 (.int (p : Int))); if t14 = true then (do let y11 ← (do let vs12 ← eachM [(pItem (.lst (RS.map rxV)) (.int (p : Int))), (pItem (.lst (RS.map rxV)) u10)]; callP P13 (n + 1) "is_late" vs12); pure (some y11)) else pure none)) FUEL 0 [] = pure (((rest.filter fun q => decide (q ≠ p)).map fun q => aheadX (rxAt RS q) (rxAt RS p)).map .bool) := by
  have : ∀ ys : List Nat, (ys.map natV).filterMap (fun a => match a with | .int i => if i = (p : Int) then none else some (AV.bool (aheadX (rxAt RS i.toNat) (rxAt RS p))) | a => some a) = ((ys.filter fun q => decide (q ≠ p)).map fun q => aheadX (rxAt RS q) (rxAt RS p)).map .bool := fun ys => by
    induction ys with
    | nil => rfl
    | cons y r ih =>
      rw [List.map_cons, List.filterMap_cons, ih, List.filter_cons]
      by_cases h : y = p
      · rw [show (match natV y with | .int i => if i = (p : Int) then none else some (AV.bool (aheadX (rxAt RS i.toNat) (rxAt RS p))) | a => some a : Option AV) = none from if_pos (by rw [h]), if_neg (by simp [h])]
      · rw [show (match natV y with | .int i => if i = (p : Int) then none else some (AV.bool (aheadX (rxAt RS i.toNat) (rxAt RS p))) | a => some a : Option AV) = some (.bool (aheadX (rxAt RS ((y : Nat) : Int).toNat) (rxAt RS p))) from if_neg (fun q => h (Int.ofNat_inj.mp q)), if_pos (by simp [h]), Int.toNat_natCast]; rfl
  rw [compF (fun a => match a with | .int i => if i = (p : Int) then none else some (AV.bool (aheadX (rxAt RS i.toNat) (rxAt RS p))) | a => some a) (by rw [List.length_map]; (first | lia | omega)) fun a ha => ?_, this]
  obtain ⟨i, hi, rfl⟩ := List.mem_map.mp ha
  show (do let t14 ← pCmp .NotEq (.int (i : Int)) (.int (p : Int)); _) = pure (if ((i : Nat) : Int) = (p : Int) then none else some _)
  rw [ne_natD, pure_bind]
  by_cases h : i = p
  · rw [decide_eq_false (by simp [h]), if_neg (by decide), if_pos (by rw [h])]
  · rw [decide_eq_true h, if_pos rfl, if_neg (fun q => h (Int.ofNat_inj.mp q)), Int.toNat_natCast]
    rw [e_item_lst (rx_it hp), show natV i = .int (i : Int) from rfl, e_item_lst (rx_it (hr i hi))]
    simp only [e_eachp, e_each0, pure_bind]
    rw [s_late]; rfl
theorem any_ne {rest : List Nat} {p : Nat} {h : Nat → Bool} (hp : h p = false) : (rest.filter fun q => decide (q ≠ p)).any h = rest.any h := by
  rw [List.any_filter]
  congr 1
  funext q
  by_cases e : q = p
  · subst e; rw [hp]; simp
  · rw [decide_eq_true e, Bool.true_and]
theorem filt_len {p : Nat} : ∀ {l : List Nat}, l.Nodup → p ∈ l → (l.filter fun q => decide (q ≠ p)).length + 1 = l.length
  | [], _, h => nomatch h
  | x :: l, hn, h => by
    rw [List.nodup_cons] at hn
    rw [List.filter_cons]
    by_cases e : x = p
    · subst e
      have e2 : (l.filter fun q => decide (q ≠ x)) = l := List.filter_eq_self.mpr fun q hq => decide_eq_true (show q ≠ x from fun z => hn.1 (z ▸ hq))
      rw [if_neg (by simp), e2]
      rfl
    · rw [if_pos (decide_eq_true e), List.length_cons, List.length_cons, filt_len hn.2 ((List.mem_cons.mp h).resolve_left fun z => e z.symm)]
theorem s_from (n : Nat) {RS : List Rx} (hS : ∀ p, aheadX (rxAt RS p) (rxAt RS p) = false) (hn : RS.length ≤ 100) : ∀ (f : Nat) (o : List Nat) (vals : List Int) (H : AHeap), (leftP RS.length o).length < f → o.length + (leftP RS.length o).length = RS.length → vals.length + f ≤ 900 →
    Rn (callP P13 (n + f + 5) "least_from" [.lst (vals.map .int), .lst (RS.map rxV), .lst (o.map natV)]) H fun a H' => a = ordV o (lead RS f (leftP RS.length o) vals) ∧ ∃ X, H' = H ++ X := by
  intro f
  induction f with
  | zero => intro o vals H hl _ _; exact absurd hl (Nat.not_lt_zero _)
  | succ f ih =>
    intro o vals H hl ho hv
    have hL := LIMis
    refine callRn (σ := [some (.lst (vals.map .int)), some (.lst (RS.map rxV)), some (.lst (o.map natV)), none, none, none, none]) (by kernel_rfl) (by kernel_rfl) (by kernel_rfl) ?_
    rw [c_least_from_0, e_len_lst, e_len_lst]
    simp only [pure_bind, e_eqi, List.length_map]
    by_cases hem : leftP RS.length o = []
    · rw [hem] at ho ⊢
      rw [decide_eq_true (by rw [List.length_nil] at ho; (first | lia | omega))]
      exact .pure ⟨by show _ = AV.lst ((o ++ []).map natV); rw [List.append_nil], [], (List.append_nil _).symm⟩
    · have hpos : 0 < (leftP RS.length o).length := List.length_pos_iff.mpr hem
      rw [decide_eq_false (by (first | lia | omega))]
      simp only [e_go_next, c_least_from_t_1, e_len_lst, e_eachp, e_each0, pure_bind, e_range1, List.length_map]
      rw [srcOf_range (by (first | lia | omega)) (by (first | lia | omega)), pure_bind, left_is _ _ (by (first | lia | omega)), pure_bind, e_newL (by rw [List.length_map]; (first | lia | omega)), lead_step hem]
      simp only [pure_bind, srcOf_lst]
      have loop := forSome (H := H) (rest := leftP RS.length o) (σ := [some (.lst (vals.map .int)), some (.lst (RS.map rxV)), some (.lst (o.map natV)), none, some (.lst ((leftP RS.length o).map natV)), none, none]) (body := forB P13 (callP P13 (n + (f + 1) + 4)) "least_from" [] 2 37)
        (g := fun p => (if !((leftP RS.length o).any fun q => aheadX (rxAt RS q) (rxAt RS p)) && okX (rxAt RS p) vals then (lead RS f ((leftP RS.length o).filter fun q => decide (q ≠ p)) (plV (rxAt RS p).deed.k (rxAt RS p).deed.v vals)).map (p :: ·) else none).map fun l => ordV o (some l))
        (J := fun σ => ∃ o4 o6 o7, σ = [some (.lst (vals.map .int)), some (.lst (RS.map rxV)), some (.lst (o.map natV)), o4, some (.lst ((leftP RS.length o).map natV)), o6, o7]) (by (first | lia | omega)) ⟨_, _, _, rfl⟩ ?_
      · refine .then loop ?_
        rintro r H' ⟨ap, q⟩
        rw [find_map] at q
        revert q
        generalize (leftP RS.length o).findSome? _ = res
        intro q
        cases res with
        | some l =>
          have q : r = .ret (ordV o (some l)) := q
          subst q
          exact .pure ⟨rfl, ap⟩
        | none =>
          obtain ⟨σ', rfl, o4, o6, o7, rfl⟩ := q
          rw [e_go_next, c_least_from_t_3]
          exact .pure ⟨rfl, ap⟩
      · rintro p hp σ X1 ⟨o4, o6, o7, rfl⟩
        have hlt := left_lt hp
        rw [show natV p = .int (p : Int) from rfl, c_least_from_for_2]
        simp only [pure_bind, srcOf_lst]
        rw [late_is (n + (f + 1) + 3) _ p hlt (fun q hq => left_lt hq) (by (first | lia | omega))]
        simp only [pure_bind]
        rw [e_newL (by rw [List.length_map, List.length_map]; exact Nat.le_trans (List.length_filter_le _ _) (by (first | lia | omega)))]
        simp only [pure_bind, e_eachp, e_each0, any_bools, e_truth, List.any_map, Function.comp_def, id_eq, any_ne (h := fun q => aheadX (rxAt RS q) (rxAt RS p)) (hS p)]
        cases ha : (leftP RS.length o).any fun q => aheadX (rxAt RS q) (rxAt RS p) with
        | true =>
          simp only [Bool.not_true, Bool.false_and, Bool.false_eq_true, if_false, Option.map_none, e_go_next]
          exact .pure ⟨⟨X1, rfl⟩, _, rfl, _, _, _, rfl⟩
        | false =>
          simp only [Bool.not_false, Bool.true_and]
          rw [e_item_lst (rx_it hlt)]
          simp only [e_eachp, e_each0, pure_bind]
          repeat with_reducible refine .bind ?_
          refine .of (s_behind (n + (f + 1)) _ _ vals (by (first | lia | omega))) ?_
          cases hok : okX (rxAt RS p) vals with
          | false =>
            simp only [e_isnone, pure_bind, e_go_next, Bool.false_eq_true, if_false, Option.map_none]
            exact .pure (.goEnd ⟨⟨X1, rfl⟩, _, rfl, _, _, _, rfl⟩)
          | true =>
            simp only [if_true, show ∀ xs, pCmp .IsNot (.lst xs) .none = pure true from fun u_ => rfl, pure_bind]
            rw [e_newL (by show 1 ≤ LIM; (first | lia | omega))]
            simp only [pure_bind]
            rw [m_addL (by rw [List.length_map]; show _ + 1 ≤ LIM; (first | lia | omega))]
            simp only [e_eachp, e_each0, pure_bind]
            have fl := filt_lt hp
            have hv2 := plV_le (rxAt RS p).deed.k (rxAt RS p).deed.v vals
            have eo : o.map natV ++ [AV.int (p : Int)] = (o ++ [p]).map natV := by rw [List.map_append]; rfl
            rw [eo]
            have ih := ih (o ++ [p]) (plV (rxAt RS p).deed.k (rxAt RS p).deed.v vals) (H ++ X1) (by rw [left_snoc]; (first | lia | omega)) (by rw [left_snoc, List.length_append]; have := filt_len (List.nodup_range.filter _) hp; show o.length + 1 + _ = _; unfold leftP at *; (first | lia | omega)) (by (first | lia | omega))
            rw [left_snoc] at ih
            repeat with_reducible refine .bind ?_
            refine ih.mono ?_
            rintro _ H' ⟨rfl, X3, rfl⟩
            have ap3 : ∃ X', H ++ X1 ++ X3 = H ++ X' := ⟨X1 ++ X3, List.append_assoc ..⟩
            cases hlead : lead RS f ((leftP RS.length o).filter fun q => decide (q ≠ p)) (plV (rxAt RS p).deed.k (rxAt RS p).deed.v vals) with
            | none =>
              simp only [ordV, e_isnone, pure_bind, e_go_next, Option.map_none]
              exact .pure (.goEnd (.goEnd ⟨ap3, _, rfl, _, _, _, rfl⟩))
            | some l =>
              simp only [ordV, show ∀ xs, pCmp .IsNot (.lst xs) .none = pure true from fun u_ => rfl, pure_bind, Option.map_some]
              exact .pure (.goEnd (.goEnd ⟨ap3, by rw [List.append_assoc]; rfl⟩))
end Mine


set_option autoImplicit false
set_option linter.unusedVariables false
set_option maxRecDepth 100000
namespace Mine
open PySem PyProof.Rows

theorem run_time : ∀ (t : Tw) (W : List Nat), (run t W).time ≤ t.time + W.length
  | _, [] => Nat.le_refl _
  | t, i :: r => by
    have h1 := run_time (step t i).1 r
    have h2 : (step t i).1.time ≤ t.time + 1 := by
      unfold step
      cases hh : t.hands[i]? with
      | none => exact Nat.le_succ _
      | some h =>
        show (match h.now t.time with | none => _ | some w => _ : Tw × Td).1.time ≤ _
        cases h.now t.time with
        | none => exact Nat.le_refl _
        | some w => exact Nat.le_refl _
    show (run (step t i).1 r).time ≤ t.time + (r.length + 1)
    (first | lia | omega)
theorem nats_of {m : Nat} : ∀ {O : List AV}, (∀ o ∈ O, InR m o) → ∃ W : List Nat, O = W.map natV ∧ ∀ i ∈ W, i < m
  | [], _ => ⟨[], rfl, fun u_ h => nomatch h⟩
  | a :: r, h => by
    obtain ⟨i, rfl, h1, h2⟩ := h a List.mem_cons_self
    obtain ⟨j, rfl⟩ := Int.eq_ofNat_of_zero_le h1
    obtain ⟨W, e, hW⟩ := nats_of fun o ho => h o (List.mem_cons_of_mem _ ho)
    exact ⟨j :: W, by rw [e]; rfl, fun x hx => (List.mem_cons.mp hx).elim (fun e => by rw [e]; exact Int.ofNat_lt.mp h2) (hW x)⟩
theorem left_nil (n : Nat) : leftP n [] = List.range n := List.filter_eq_self.mpr fun p u_ => decide_eq_true (List.not_mem_nil)
theorem s_order (n : Nat) {RS : List Rx} (hS : ∀ p, aheadX (rxAt RS p) (rxAt RS p) = false) (hn : RS.length ≤ 7) {vals : List Int} (hv : vals.length ≤ 60) (H : AHeap) : Rn (callP P13 (n + 14) "order_of" [.lst (vals.map .int), .lst (RS.map rxV)]) H fun a H' => a = ordV [] (lead RS (RS.length + 1) (List.range RS.length) vals) ∧ ∃ X, H' = H ++ X := by
  have hL := LIMis
  refine callRn (σ := [some (.lst (vals.map .int)), some (.lst (RS.map rxV))]) (by kernel_rfl) (by kernel_rfl) (by kernel_rfl) ?_
  rw [c_order_of_0, e_len_lst]
  simp only [pure_bind]
  rw [show pCmp .Gt (.int ((RS.map rxV).length : Nat)) g_MOST_ROWS = pure (decide ((7 : Int) < ((RS.map rxV).length : Nat))) from rfl, List.length_map, decide_eq_false (by (first | lia | omega))]
  simp only [pure_bind, e_go_next, c_order_of_t_1]
  rw [e_list_lst (by rw [List.length_map]; (first | lia | omega)), e_newL (Nat.zero_le _)]
  simp only [e_eachp, e_each0, pure_bind]
  have h := s_from (n + 7 - RS.length) hS (by (first | lia | omega)) (RS.length + 1) [] vals H (by rw [left_nil, List.length_range]; (first | lia | omega)) (by rw [left_nil, List.length_range]; exact Nat.zero_add _) (by (first | lia | omega))
  rw [left_nil, show n + 7 - RS.length + (RS.length + 1) + 5 = n + 13 by (first | lia | omega)] at h
  refine .then h ?_
  rintro _ H' ⟨rfl, hX⟩
  exact .pure ⟨rfl, hX⟩
theorem s_many (n : Nat) {a : AV} {RS : List AV} (hn : 7 < RS.length) (H : AHeap) : callP P13 (n + 1) "order_of" [a, .lst RS] H = some (.error "TooMany", H) := by
  refine callX (σ := [some a, some (.lst RS)]) (by kernel_rfl) (by kernel_rfl) (by kernel_rfl) ?_
  rw [c_order_of_0, e_len_lst]
  simp only [pure_bind]
  rw [show pCmp .Gt (.int (RS.length : Nat)) g_MOST_ROWS = pure (decide ((7 : Int) < (RS.length : Nat))) from rfl, decide_eq_true (by (first | lia | omega))]
  rfl
noncomputable def try13 : TryF := (tryOf (fnD P13 "_law_refused").body).getD ⟨[], "", default, "", default, [], default, default, []⟩
theorem c_try (cf ch : Str → List AV → M AV) (a d : AV) : bodyRun P13 cf ch (fnD P13 "_law_refused").scope (fnD P13 "_law_refused").names (fnD P13 "_law_refused").body [some a, some d, none] = tryRun P13 cf ch (fnD P13 "_law_refused").scope (fnD P13 "_law_refused").names try13 [some a, some d, none] := by
  kernel_rfl
theorem c_tbody (cf : Str → List AV → M AV) (a d : AV) : tBody (den P13 cf EFUEL (fnD P13 "_law_refused").scope (fnD P13 "_law_refused").names [some a, some d, none]) EFUEL try13.body = (do let _ ← cf "order_of" [a, d]; pure ()) := by
  kernel_rfl
theorem c_hand (n : Nat) (a d : AV) (H : AHeap) : tryHand P13 (callP P13.off (n + 1)) (fnD P13 "_law_refused").scope (fnD P13 "_law_refused").names try13 [some a, some d, none] "TooMany" H = some (.ok (.bool true), H) := by
  kernel_rfl
theorem s_refused (n : Nat) {a d : AV} {H : AHeap} (h : callP P13 (n + 1) "order_of" [a, d] H = some (.error "TooMany", H)) : callP P13 (n + 2) "_law_refused" [a, d] H = some (.ok (.bool true), H) := by
  rw [call_body (σ := [some a, some d, none]) (by kernel_rfl) (by kernel_rfl) (by kernel_rfl), c_try]
  unfold tryRun
  rw [c_tbody]
  have : (do let _ ← callP P13 (n + 1) "order_of" [a, d]; pure () : M Unit) H = some (.error "TooMany", H) := by
    show Option.bind (callP P13 (n + 1) "order_of" [a, d] H) _ = _
    rw [h]; rfl
  rw [this]
  exact c_hand n a d H
end Mine


set_option autoImplicit false
set_option linter.unusedVariables false
set_option maxRecDepth 100000
namespace Mine
open PySem PyProof.Rows

theorem rd_str {H : AHeap} {n : Nat} {x : Str} (h : PyData.strOk x = true) : rd H n (.str x) = some (.str x) := by cases n <;> exact if_pos h
noncomputable def dD (d : Deed) : PyData := match d.k with
  | .push => .tuple [.str "push", .int d.v]
  | .swap => .tuple [.str "swap", .int d.v]
  | .pop => .tuple [.str "pop"]
  | .top => .tuple [.str "top"]
  | .clear => .tuple [.str "clear"]
theorem rd_deed {H : AHeap} {n : Nat} (d : Deed) : rd H (n + 1) (deedV d) = some (dD d) := by
  obtain ⟨k, v⟩ := d
  have two : ∀ {x : Str}, PyData.strOk x = true → rd H (n + 1) (.tup [.str x, .int v]) = some (.tuple [.str x, .int v]) := fun {x} h => by
    show Option.map _ ([AV.str x, AV.int v].mapM (rd H n)) = _
    rw [List.mapM_cons, List.mapM_cons, List.mapM_nil, rd_str h, rd_int]; rfl
  have one : ∀ {x : Str}, PyData.strOk x = true → rd H (n + 1) (.tup [.str x]) = some (.tuple [.str x]) := fun {x} h => by
    show Option.map _ ([AV.str x].mapM (rd H n)) = _
    rw [List.mapM_cons, List.mapM_nil, rd_str h]; rfl
  cases k with
  | push => exact two (by kernel_rfl)
  | swap => exact two (by kernel_rfl)
  | pop => exact one (by kernel_rfl)
  | top => exact one (by kernel_rfl)
  | clear => exact one (by kernel_rfl)
theorem add_new {H : AHeap} {xs ys : List AV} (h : xs.length + ys.length ≤ LIM) : pBin true .Add (.lst xs) (.lst ys) H = some (.ok (.loc H.length), H ++ [.list (xs ++ ys)]) :=
  show newL true (xs ++ ys) H = _ from newT (by rw [List.length_append]; exact h)
theorem rd_locG {H : AHeap} {l n : Nat} {xs : List AV} {ds : List PyData} (h : H[l]? = some (.list xs)) (h1 : xs.mapM (rd H n) = some ds) : rd H (n + 1) (.loc l) = some (.list ds) := by
  show (match H[l]? with | some (.list xs) => (xs.mapM (rd H n)).map PyData.list | _ => none) = _
  rw [h]
  show Option.map _ (xs.mapM (rd H n)) = _
  rw [h1]; rfl
noncomputable def ixD : Option Nat → PyData
  | none => .none
  | some i => .int i
noncomputable def rxD (r : Rx) : PyData := .tuple [.int r.num, .int r.place, dD r.deed, .int r.begun, .int r.point, ixD r.en, anD r.an]
theorem rd_ix {H : AHeap} {n : Nat} (x : Option Nat) : rd H n (ixV x) = some (ixD x) := by
  cases x with
  | none => cases n <;> rfl
  | some i => exact rd_int
theorem rd_rx {H : AHeap} {n : Nat} (r : Rx) : rd H (n + 2) (rxV r) = some (rxD r) := by
  show Option.map _ ([AV.int r.num, .int r.place, deedV r.deed, .int r.begun, .int r.point, ixV r.en, anV r.an].mapM (rd H (n + 1))) = _
  simp only [List.mapM_cons, List.mapM_nil, rd_int, rd_deed, rd_ix, rd_an]; rfl
theorem mapM_rx {H : AHeap} {n : Nat} : ∀ rs : List Rx, (rs.map rxV).mapM (rd H (n + 2)) = some (rs.map rxD)
  | [] => rfl
  | r :: rs => by rw [List.map_cons, List.mapM_cons, rd_rx, mapM_rx rs]; rfl
structure RxOk (r : Rx) : Prop where
  pt : r.begun ≤ r.point
  en : ∀ τ, r.en = some τ → r.begun ≤ τ
  an : anLen r.an ≤ 1000
theorem RxOk.self {r : Rx} (h : RxOk r) : aheadX r r = false := by
  unfold aheadX
  cases he : r.en with
  | none => rfl
  | some τ => exact decide_eq_false (Nat.not_lt.mpr (h.en τ he))
theorem rx_mem {RS : List Rx} (h : ∀ r ∈ RS, RxOk r) (p : Nat) : RxOk (rxAt RS p) := by
  unfold rxAt
  cases hp : RS[p]? with
  | none => exact ⟨Nat.le_refl _, fun u_ e => (nomatch e), Nat.zero_le _⟩
  | some r => exact h r (List.mem_of_getElem? hp)
theorem e_lr {a b : Int} : pBI false .list [.range a b] = (if small62 a && small62 b then newL false (rangeL a b) else stuck) := rfl
theorem e_list_range {n : Nat} (h : n ≤ 1000) : pBI false .list [.range 0 (n : Int)] = pure (.lst ((List.range n).map natV)) := by
  have hL := LIMis
  rw [e_lr, small62_of (i := 0) (by (first | lia | omega)), small62_of (i := (n : Int)) (by (first | lia | omega)), Bool.and_self, if_pos rfl, rangeL_nat, e_newL (by rw [List.length_map, List.length_range]; (first | lia | omega))]
theorem sm_ord {H : AHeap} (o : Option (List Nat)) (ho : ∀ l, o = some l → l.length ≤ 1000) : ∃ c, c < 100000 ∧ Sm H 5 c (ordV [] o, ordV [] o) := by
  cases o with
  | none => exact ⟨1, by decide, Sm.lf (.inl rfl) 5⟩
  | some l =>
    have hl := ho l rfl
    obtain ⟨c, h1, h2⟩ := Sm.sq (H := H) (n := 4) (C := 1) (k := false) (x := ordV [] (some l)) (y := ordV [] (some l)) (xs := l.map natV) (.inl rfl) (.inl rfl) fun x hx => by
      obtain ⟨i, _, rfl⟩ := List.mem_map.mp hx
      exact ⟨1, Nat.le_refl _, Sm.lf lf_int 4⟩
    rw [List.length_map] at h1
    exact ⟨c, by (first | lia | omega), h2⟩
theorem law_end (n : Nat) {RS : List Rx} {xs : List Int} {H : AHeap} {l : Nat} (h : H[l]? = some (.list (RS.map rxV))) (hR : ∀ r ∈ RS, RxOk r) (hn : RS.length ≤ 7) (hx : xs.length ≤ 60) {o1 o2 o4 o5 o6 o8 o9 o10 o11 o12 : Option AV} :
    Rn (tl P13 (callP P13 (n + 29)) "law" [] 12 28 [o1, o2, some (.lst (xs.map .int)), o4, o5, o6, some (.loc l), o8, o9, o10, o11, o12]) H fun r u_ => r = .ret (.bool true) := by
  have hL := LIMis
  have hS : ∀ p, aheadX (rxAt RS p) (rxAt RS p) = false := fun p => (rx_mem hR p).self
  have hA : ∀ p, anLen (rxAt RS p).an ≤ 1000 := fun p => (rx_mem hR p).an
  have keep : ∀ X : AHeap, (H ++ X)[l]? = some (.list (RS.map rxV)) := fun X => by rw [List.getElem?_append_left (List.getElem?_eq_some_iff.mp h).1]; exact h
  rw [c_law_t_12]
  repeat with_reducible refine .bind ?_
  refine .eachC ?_
  repeat with_reducible refine .bind ?_
  refine .eachC ?_
  repeat with_reducible refine .bind ?_
  refine .eachE (len_loc h) (.each0 (.eq e_range1 (.each0 ?_)))
  rw [List.length_map]
  refine .eq (e_list_range (by (first | lia | omega))) (.eachP (.eachP (.each0 ?_)))
  have hle := s_least (n + 27 - RS.length) (rows_loc h) hA (RS.length + 1) (List.range RS.length) xs [] (fun p hp => List.mem_range.mp hp) (by rw [List.length_range]; (first | lia | omega)) (by rw [List.length_range]; (first | lia | omega)) (by (first | lia | omega))
  rw [List.append_nil, show n + 27 - RS.length + (RS.length + 1) + 1 = n + 29 by (first | lia | omega)] at hle
  refine hle.mono ?_
  rintro _ H1 ⟨rfl, X, rfl⟩
  have hlen : ∀ l', lead RS (RS.length + 1) (List.range RS.length) xs = some l' → l'.length ≤ 1000 := fun l' e => Nat.le_trans (lead_len _ _ _ _ e) (by (first | lia | omega))
  have hord := fun G => s_order (n + 15) hS hn hx G
  generalize lead RS (RS.length + 1) (List.range RS.length) xs = o at hlen hord ⊢
  rw [e_list_lst (by rw [List.length_map]; (first | lia | omega))]
  repeat with_reducible refine .bind ?_
  refine .eachP (.eachE (list_loc (keep X) (by rw [List.length_map]; (first | lia | omega))) (.each0 (.eq (e_newL (by show 2 ≤ LIM; (first | lia | omega))) ?_)))
  rw [show pBI false .range [.int 2] = pure (.range 0 2) from rfl]
  refine .beq rfl (.beq (srcOf_range (by (first | lia | omega)) (by (first | lia | omega))) ?_)
  refine .then (forI (fun k σ H2 => (∃ o', σ = [o1, o2, some (.lst (xs.map .int)), o4, o5, o6, some (.loc l), o8, o9, some (ordV [] o), some (.lst [.lst (xs.map .int), .lst (RS.map rxV)]), o']) ∧ ∃ X, H2 = H ++ X)
    (Q := fun r H2 => (∃ o', r = .next [o1, o2, some (.lst (xs.map .int)), o4, o5, o6, some (.loc l), o8, o9, some (ordV [] o), some (.lst [.lst (xs.map .int), .lst (RS.map rxV)]), o']) ∧ ∃ X, H2 = H ++ X) (by rw [rangeL_length]; decide) ⟨⟨_, rfl⟩, X, rfl⟩ ?_ ?_) ?_
  · rintro k a σ H2 ha ⟨⟨o', rfl⟩, X2, rfl⟩
    rw [c_law_for_14, l0, show ∀ {x y : AV}, pItem (.lst [x, y]) (.int 1) = pure y from fun {x y} => e_item_lst (k := 1) rfl]
    simp only [e_eachp, e_each0, pure_bind]
    repeat with_reducible refine .bind ?_
    refine .eachC ((hord (H ++ X2)).mono ?_)
    rintro _ H3 ⟨rfl, X3, rfl⟩
    refine .eachP (.each0 ?_)
    obtain ⟨c, hc1, hc2⟩ := sm_ord (H := H ++ X2 ++ X3) o hlen
    refine (s_like (n + 28) _ hc2 hc1).mono ?_
    rintro _ H4 ⟨rfl, X4, rfl⟩
    rw [e_truth]
    refine .pure (.pure ?_)
    show Rn (goOn _ (Res.next _)) _ _
    exact .goEnd ⟨⟨_, rfl⟩, X2 ++ X3 ++ X4, by simp only [List.append_assoc]⟩
  · rintro σ H2 ⟨⟨o', rfl⟩, hX⟩
    exact ⟨⟨_, rfl⟩, hX⟩
  rintro r H2 ⟨⟨o', rfl⟩, X2, rfl⟩
  rw [e_go_next, c_law_t_15, e_newL (by show 2 ≤ LIM; (first | lia | omega)), pure_bind]
  have e1 : rd (H ++ X2) 7 (.lst (xs.map .int)) = some (.list (xs.map .int)) := by
    show Option.map _ ((xs.map AV.int).mapM (rd (H ++ X2) 6)) = _
    rw [mapM_ints]; rfl
  have e2 : rd (H ++ X2) 7 (.lst (RS.map rxV)) = some (.list (RS.map rxD)) := by
    show Option.map _ ((RS.map rxV).mapM (rd (H ++ X2) 6)) = _
    rw [mapM_rx]; rfl
  have e3 : rd (H ++ X2) 7 (.loc l) = some (.list (RS.map rxD)) := rd_locG (keep X2) (mapM_rx RS)
  have f1 : rd (H ++ X2) 8 (.lst [.lst (xs.map .int), .lst (RS.map rxV)]) = some (.list [.list (xs.map .int), .list (RS.map rxD)]) := by
    show Option.map _ ([AV.lst (xs.map .int), .lst (RS.map rxV)].mapM (rd (H ++ X2) 7)) = _
    simp only [List.mapM_cons, List.mapM_nil, e1, e2]; rfl
  have f2 : rd (H ++ X2) 8 (.lst [.lst (xs.map .int), .loc l]) = some (.list [.list (xs.map .int), .list (RS.map rxD)]) := by
    show Option.map _ ([AV.lst (xs.map .int), .loc l].mapM (rd (H ++ X2) 7)) = _
    simp only [List.mapM_cons, List.mapM_nil, e1, e3]; rfl
  exact .bind (.bind (.of (eq_same f1 f2) (.pure (.pure rfl))))
end Mine


set_option autoImplicit false
set_option linter.unusedVariables false
set_option maxRecDepth 100000
namespace Mine
open PySem PyProof.Rows

theorem clip_nat (n k : Nat) : clipA n (k : Int) = min k n := by
  unfold clipA
  rw [if_neg (Int.not_lt.mpr (Int.natCast_nonneg k))]
  rcases Nat.le_total k n with h | h
  · rw [Int.min_eq_left (Int.ofNat_le.mpr h), Int.max_eq_right (Int.natCast_nonneg _), Int.toNat_natCast, Nat.min_eq_left h]
  · rw [Int.min_eq_right (Int.ofNat_le.mpr h), Int.max_eq_right (Int.natCast_nonneg _), Int.toNat_natCast, Nat.min_eq_right h]
theorem sl_from {xs : List AV} {k : Nat} (h : xs.length ≤ 1000) : pSlice false (.lst xs) (some (k : Int)) none = pure (.lst (xs.drop k)) := by
  have hL := LIMis
  have e : cut xs (some (k : Int)) none = xs.drop k := by
    unfold cut
    simp only [Option.elim, clip_nat]
    rw [List.take_of_length_le (by rw [List.length_drop]; (first | lia | omega))]
    by_cases hk : k ≤ xs.length
    · rw [Nat.min_eq_left hk]
    · rw [Nat.min_eq_right (by (first | lia | omega)), List.drop_length, List.drop_of_length_le (by (first | lia | omega))]
  show newL false (cut xs (some (k : Int)) none) = _
  rw [e, e_newL (by rw [List.length_drop]; (first | lia | omega))]
theorem sl_to {xs : List AV} {k : Nat} (h : xs.length ≤ 1000) : pSlice false (.lst xs) none (some (k : Int)) = pure (.lst (xs.take k)) := by
  have hL := LIMis
  have e : cut xs none (some (k : Int)) = xs.take k := by
    unfold cut
    simp only [Option.elim, clip_nat, List.drop_zero, Nat.sub_zero]
    by_cases hk : k ≤ xs.length
    · rw [Nat.min_eq_left hk]
    · rw [Nat.min_eq_right (by (first | lia | omega)), List.take_length, List.take_of_length_le (by (first | lia | omega))]
  show newL false (cut xs none (some (k : Int))) = _
  rw [e, e_newL (by rw [List.length_take]; (first | lia | omega))]
theorem sl_to5 (r : Rx) : pSlice false (rxV r) none (some 5) = pure (.tup [.int r.num, .int r.place, deedV r.deed, .int r.begun, .int r.point]) := by
  show (if (0 : Int) ≤ 5 ∧ (5 : Int) < ((7 : Nat) : Int) then pure (AV.tup ([AV.int r.num, .int r.place, deedV r.deed, .int r.begun, .int r.point, ixV r.en, anV r.an].take 5)) else stuck : M AV) = _
  rw [if_pos (by decide)]; rfl
theorem odd_at {j : Nat} (h : j < 5) : ∃ o : An, anLen o ≤ 1000 ∧ pItem (.lst [.none, .tup [], .int 0, .int 1, .int (-1)]) (.int (j : Int)) = pure (anV o) := by
  match j, h with
  | 0, _ => exact ⟨.none, Nat.zero_le _, e_item_lst (k := 0) rfl⟩
  | 1, _ => exact ⟨.tup [], Nat.zero_le _, e_item_lst (k := 1) rfl⟩
  | 2, _ => exact ⟨.int 0, Nat.zero_le _, e_item_lst (k := 2) rfl⟩
  | 3, _ => exact ⟨.int 1, Nat.zero_le _, e_item_lst (k := 3) rfl⟩
  | 4, _ => exact ⟨.int (-1), Nat.zero_le _, e_item_lst (k := 4) rfl⟩
theorem end_at (r : Rx) {j : Nat} (h : j < 2) (hr : RxOk r) : ∃ x : Option Nat, (∀ τ, x = some τ → r.begun ≤ τ) ∧ pItem (.lst [ixV r.en, .int ((r.point : Int) + 9)]) (.int (j : Int)) = pure (ixV x) := by
  match j, h with
  | 0, _ => exact ⟨r.en, hr.en, e_item_lst (k := 0) rfl⟩
  | 1, _ => exact ⟨some (r.point + 9), fun τ e => by cases e; exact Nat.le_trans hr.pt (Nat.le_add_right _ _), e_item_lst (k := 1) rfl⟩
theorem intM_is (k : Int) : intM (.int k) = pure k := rfl
theorem law_mid (n : Nat) {RS : List Rx} {xs : List Int} {H : AHeap} {c : Int} (hR : ∀ r ∈ RS, RxOk r) (hn : RS.length ≤ 7) (hx : xs.length ≤ 60) {o1 o2 o5 o6 o8 o9 o10 o11 o12 : Option AV} :
    Rn (tl P13 (callP P13 (n + 29)) "law" [] 9 31 [o1, o2, some (.lst (xs.map .int)), some (.int c), o5, o6, some (.lst (RS.map rxV)), o8, o9, o10, o11, o12]) H fun r u_ => r = .ret (.bool true) := by
  have hL := LIMis
  obtain ⟨a, ha, hae⟩ := mod_nat (i := c.fdiv 432) (m := RS.length + 1) (by (first | lia | omega))
  obtain ⟨b, hb, hbe⟩ := mod_nat (i := c.fdiv 4096) (m := 2) (by decide)
  obtain ⟨j, hj, hje⟩ := mod_nat (i := c.fdiv 65536) (m := 5) (by decide)
  obtain ⟨e, he, hee⟩ := mod_nat (i := c.fdiv 327680) (m := 2) (by decide)
  have hbe : pBin false .Mod (.int (c.fdiv 4096)) (.int 2) = pure (.int b) := hbe
  have hje : pBin false .Mod (.int (c.fdiv 65536)) (.int 5) = pure (.int j) := hje
  have hee : pBin false .Mod (.int (c.fdiv 327680)) (.int 2) = pure (.int e) := hee
  have hae : pBin false .Mod (.int (c.fdiv 432)) (.int ((RS.length : Int) + 1)) = pure (.int a) := hae
  have hRl : (RS.map rxV).length ≤ 1000 := by rw [List.length_map]; (first | lia | omega)
  obtain ⟨RS2, h2⟩ : ∃ RS2, RS2 = RS.drop a ++ RS.take a := ⟨_, rfl⟩
  have hR2 : ∀ r ∈ RS2, RxOk r := fun r hr => by
    rw [h2] at hr
    exact (List.mem_append.mp hr).elim (fun q => hR r (List.mem_of_mem_drop q)) fun q => hR r (List.mem_of_mem_take q)
  have hn2 : RS2.length ≤ 7 := by rw [h2, List.length_append, List.length_drop, List.length_take]; (first | lia | omega)
  have e2 : (RS.map rxV).drop a ++ (RS.map rxV).take a = RS2.map rxV := by rw [h2, List.map_append, List.map_drop, List.map_take]
  rw [c_law_t_9]
  simp only [m_div (i := c) (j := 432) ⟨by decide, by decide⟩, e_len_lst, m_add, pure_bind, List.length_map, hae, intM_is, sl_from hRl, sl_to hRl]
  refine .bof (add_new (by rw [List.length_drop, List.length_take, List.length_map]; (first | lia | omega))) ?_
  rw [e2]
  have hat : (H ++ [AO.list (RS2.map rxV)])[H.length]? = some (.list (RS2.map rxV)) := app_at
  generalize hG : H ++ [AO.list (RS2.map rxV)] = G at hat ⊢
  simp only [m_div (i := c) (j := 4096) ⟨by decide, by decide⟩, hbe, e_newL (xs := []) (Nat.zero_le _), e_eqi, pure_bind]
  have fin : ∀ {G' : AHeap} {RS3 : List Rx} {p8 p9 : Option AV}, G'[H.length]? = some (.list (RS3.map rxV)) → (∀ r ∈ RS3, RxOk r) → RS3.length ≤ 7 → Rn (goOn (tl P13 (callP P13 (n + 29)) "law" [] 12 28) (.next [o1, o2, some (.lst (xs.map .int)), some (.int c), o5, o6, some (.loc H.length), p8, p9, o10, o11, o12])) G' fun r u_ => r = .ret (.bool true) := fun h1 h3 h4 => by
    rw [e_go_next]; exact law_end n h1 h3 h4 hx
  refine .bind (.bof (ne_nil_loc hat fun x hx => ?_) ?_)
  · obtain ⟨r, _, rfl⟩ := List.mem_map.mp hx
    exact ⟨_, rd_rx r⟩
  cases hem : (RS2.map rxV).isEmpty with
  | true => exact .pure (fin hat hR2 hn2)
  | false =>
    have hpos : 1 ≤ RS2.length := by
      cases RS2 with
      | nil => cases hem
      | cons _ _ => exact Nat.succ_le_succ (Nat.zero_le _)
    show Rn (match decide ((b : Int) = 1) with | false => pure false | true => pure true) G _
    cases hb1 : decide ((b : Int) = 1) with
    | false => exact .pure (fin hat hR2 hn2)
    | true =>
      refine .pure ?_
      obtain ⟨p, hp, hpe⟩ := mod_nat (i := c.fdiv 8192) (m := RS2.length) hpos
      obtain ⟨od, hod, hoe⟩ := odd_at hj
      have rp : pItem (.loc H.length) (.int (p : Int)) G = some (.ok (rxV (rxAt RS2 p)), G) := item_loc hat (rx_it hp)
      obtain ⟨en, hen, hee2⟩ := end_at (rxAt RS2 p) he (rx_mem hR2 p)
      show Rn (do let r ← _; goOn _ r) G _
      repeat with_reducible refine .bind ?_
      refine .eq (m_div ⟨by decide, by decide⟩) (.bof (len_loc hat) ?_)
      rw [List.length_map, hpe]
      refine .pure ?_
      rw [e_newL (by show 5 ≤ LIM; (first | lia | omega)), m_div ⟨by decide, by decide⟩]
      simp only [pure_bind, hje]
      rw [hoe]
      simp only [pure_bind]
      repeat with_reducible refine .bind ?_
      refine .of rp ?_
      refine .eq (sl_to5 _) ?_
      repeat with_reducible refine .bind ?_
      refine .eachC ?_
      repeat with_reducible refine .bind ?_
      refine .eachC (.bind (.of rp (.eq (rx5 _) ?_)))
      refine .eachC (.bind (.bind (.of rp (.eq (rx4 _) (.eq m_add (.each0 ?_))))))
      refine .eq (e_newL (by show 2 ≤ LIM; (first | lia | omega))) ?_
      refine .bind (.bind (.eq (m_div ⟨by decide, by decide⟩) (.eq hee (.eq hee2 (.eachP (.each0 (.pure ?_)))))))
      refine .eq (m_tup (by show 7 ≤ LIM; (first | lia | omega))) ?_
      obtain ⟨r', hr'⟩ : ∃ r' : Rx, r' = ⟨(rxAt RS2 p).num, (rxAt RS2 p).place, (rxAt RS2 p).deed, (rxAt RS2 p).begun, (rxAt RS2 p).point, en, od⟩ := ⟨_, rfl⟩
      have ok' : RxOk r' := by subst hr'; exact ⟨(rx_mem hR2 p).pt, hen, hod⟩
      have ev : AV.tup ([AV.int (rxAt RS2 p).num, .int (rxAt RS2 p).place, deedV (rxAt RS2 p).deed, .int (rxAt RS2 p).begun, .int (rxAt RS2 p).point] ++ [ixV en, anV od]) = rxV r' := by rw [hr']; rfl
      rw [ev]
      refine .bof (lStore (v := rxV r') hat (by rw [List.length_map]; exact hp)) (.pure ?_)
      refine fin (RS3 := RS2.set p r') ?_ (fun r hr => ?_) (by rw [List.length_set]; exact hn2)
      · rw [set_at hat, List.map_set]
      · exact (List.mem_or_eq_of_mem_set hr).elim (hR2 r) fun e => by rw [e]; exact ok'
end Mine


set_option autoImplicit false
set_option linter.unusedVariables false
set_option maxRecDepth 100000
namespace Mine
open PySem PyProof.Rows

theorem e_rev {xs : List AV} (h : xs.length ≤ LIM) : pRev false (.lst xs) = pure (.lst xs.reverse) := by
  show newL false xs.reverse = _
  rw [e_newL (by rw [List.length_reverse]; exact h)]
theorem law_t7 (n : Nat) {RS : List Rx} {xs : List Int} {H : AHeap} {c : Int} (hR : ∀ r ∈ RS, RxOk r) (hn : RS.length ≤ 1000) (hx : xs.length ≤ 60) {o1 o2 o5 o6 o8 o9 o10 o11 o12 : Option AV} :
    Rn (tl P13 (callP P13 (n + 29)) "law" [] 7 33 [o1, o2, some (.lst (xs.map .int)), some (.int c), o5, o6, some (.lst (RS.map rxV)), o8, o9, o10, o11, o12]) H fun r u_ => r = .ret (.bool true) := by
  have hL := LIMis
  obtain ⟨a, ha, hae⟩ := mod_nat (i := c.fdiv 4) (m := 3) (by decide)
  obtain ⟨b, hb, hbe⟩ := mod_nat (i := c.fdiv 27) (m := 8) (by decide)
  obtain ⟨d, hd, hde⟩ := mod_nat (i := c.fdiv 216) (m := 2) (by decide)
  have hae : pBin false .Mod (.int (c.fdiv 4)) (.int 3) = pure (.int a) := hae
  have hbe : pBin false .Mod (.int (c.fdiv 27)) (.int 8) = pure (.int b) := hbe
  have hde : pBin false .Mod (.int (c.fdiv 216)) (.int 2) = pure (.int d) := hde
  obtain ⟨RS2, h2⟩ : ∃ RS2, RS2 = (RS.drop a).take b := ⟨_, rfl⟩
  have e2 : ((RS.map rxV).drop a).take b = RS2.map rxV := by rw [h2, ← List.map_drop, ← List.map_take]
  have hR2 : ∀ r ∈ RS2, RxOk r := fun r hr => by
    rw [h2] at hr
    exact hR r (List.mem_of_mem_drop (List.mem_of_mem_take hr))
  have hn2 : RS2.length ≤ 7 := by rw [h2, List.length_take]; (first | lia | omega)
  have hl1 : (RS.map rxV).length ≤ 1000 := by rw [List.length_map]; exact hn
  have hl2 : ((RS.map rxV).drop a).length ≤ 1000 := by rw [List.length_drop]; (first | lia | omega)
  rw [c_law_t_7]
  simp only [m_div (i := c) (j := 4) ⟨by decide, by decide⟩, m_div (i := c) (j := 27) ⟨by decide, by decide⟩, m_div (i := c) (j := 216) ⟨by decide, by decide⟩, pure_bind, hae, hbe, hde, intM_is, sl_from hl1, sl_to hl2, e2, e_eqi]
  cases decide ((d : Int) = 1) with
  | true =>
    show Rn (do let r ← (do let rows15 ← pRev false (.lst (RS2.map rxV)); _); _) H _
    rw [e_rev (by rw [List.length_map]; (first | lia | omega)), ← List.map_reverse]
    simp only [pure_bind]
    rw [e_go_next]
    exact law_mid n (fun r hr => hR2 r (List.mem_reverse.mp hr)) (by rw [List.length_reverse]; exact hn2) hx
  | false =>
    show Rn (goOn _ (.next _)) H _
    rw [e_go_next]
    exact law_mid n hR2 hn2 hx
end Mine


set_option autoImplicit false
set_option linter.unusedVariables false
set_option maxRecDepth 100000
namespace Mine
open PySem PyProof.Rows

theorem rxOk_of {T : Nat} {r : Row} (h : RwB T r) (hT : T ≤ 1000) : RxOk (ofRow r) := by
  refine ⟨h.pt, fun τ e => ?_, ?_⟩
  · have e : r.fin.map (·.1) = some τ := e
    obtain ⟨q, hq, rfl⟩ := Option.map_eq_some_iff.mp e
    exact (h.fin q hq).1
  · show anLen (finAn r.fin) ≤ 1000
    cases hf : r.fin with
    | none => exact Nat.zero_le _
    | some q => exact Nat.le_trans (h.fin q hf).2 hT
theorem s_law (ns : List Int) (hns : ns.length ≤ 63) : Rn (callP P13 30 "law" [.lst (ns.map .int)]) [] fun a u_ => a = .bool true := by
  have hL := LIMis
  refine callRn (n := 29) (σ := [some (.lst (ns.map .int)), none, none, none, none, none, none, none, none, none, none, none]) (by kernel_rfl) (by kernel_rfl) (by kernel_rfl) ?_
  obtain ⟨m, hm1, hm2, hm⟩ := s_hands_by 28 (cellAt ns 2)
  obtain ⟨xs, hx, hs⟩ := s_start_by 27 (cellAt ns 0)
  obtain ⟨kd, hki⟩ := kind3 (c := cellAt ns 1)
  have c0 : callP P13 29 "_law_cell_at" [.lst (ns.map .int), .int 0] = _ := s_cell_at 27 ns 0
  have c1 : callP P13 29 "_law_cell_at" [.lst (ns.map .int), .int 1] = _ := s_cell_at 27 ns 1
  have c2 : callP P13 29 "_law_cell_at" [.lst (ns.map .int), .int 2] = _ := s_cell_at 27 ns 2
  rw [c_law_0, c0, c1, c2]
  simp only [e_eachp, e_each0, pure_bind, hm, hs]
  rw [e_newL (by show 3 ≤ LIM; (first | lia | omega)), pure_bind, m_mod (by decide), pure_bind, hki, pure_bind]
  repeat with_reducible refine .bind ?_
  refine .eachC ?_
  refine (s_programs 26 ns hns m ⟨hm1, hm2⟩ []).mono ?_
  rintro _ H1 ⟨lp, PL, rfl, hP, hPL, _⟩
  refine .eachC ((s_weaving 26 ns hns m ⟨hm1, hm2⟩ H1).mono ?_)
  rintro _ H2 ⟨lw, W0, rfl, hw, hW, hWl, hf2⟩
  refine .eachP (.each0 ?_)
  obtain ⟨W, rfl, hWn⟩ := nats_of hW
  rw [List.length_map] at hWl
  have kp2 : ∀ {x : Nat} {o : AO}, H1[x]? = some o → H2[x]? = some o := fun h => (hf2 _ (List.getElem?_eq_some_iff.mp h).1).trans h
  obtain ⟨ps, hp1, hp2, hp3⟩ := progs_of (H := H2) (PL := PL) fun q hq => by
    obtain ⟨_, p, g1, g2⟩ := hP.2 q hq
    exact ⟨p, kp2 g1, by (first | lia | omega)⟩
  have hPs : Progs H2 lp PL ps := ⟨kp2 hP.1, hp1, hp2, hp3⟩
  refine .pure ?_
  refine (s_woven 23 (kd := kd) hx hPs ⟨by (first | lia | omega), by (first | lia | omega)⟩ hw (fun i hi => by have := hWn i hi; (first | lia | omega)) (by (first | lia | omega))).mono ?_
  rintro _ H3 ⟨L, rfl, T, hf3⟩
  have A0 := tw0_ok (kd := kd) (ps := ps) hx
  have hh0 : (tw0 kd xs ps).hands.length = ps.length := List.length_map ..
  have At := run_ok W A0
  have hti := run_time (tw0 kd xs ps) W
  have hhs := run_hands (tw0 kd xs ps) W A0
  have hB := (bi0 kd xs ps).run W
  generalize run (tw0 kd xs ps) W = t at T At hti hhs hB
  have hti : t.time ≤ W.length := Nat.le_trans hti (by show 0 + W.length ≤ _; (first | lia | omega))
  have hrl : t.rows.length ≤ 252 := by have := At.tw.lr; (first | lia | omega)
  obtain ⟨l, pr, p, wv, w, rs, _, _, rb, rr⟩ := T.reads (by rw [hhs, hh0]; (first | lia | omega))
  refine .eq e_it0 ?_
  refine .bof (s_rows_of 28 (c := cn L l t pr p wv w) rs rr (by show (t.rows.map rwV).length ≤ _; rw [List.length_map]; (first | lia | omega))) ?_
  obtain ⟨RS, hRS⟩ : ∃ RS, RS = t.rows.map ofRow := ⟨_, rfl⟩
  have e1 : (cn L l t pr p wv w).rows = RS.map rxV := by
    show t.rows.map rwV = _
    rw [hRS, List.map_map]
    exact List.map_congr_left fun r u_ => (rxV_of r).symm
  have hR : ∀ r ∈ RS, RxOk r := fun r hr => by
    rw [hRS] at hr
    obtain ⟨q, hq, rfl⟩ := List.mem_map.mp hr
    exact rxOk_of (hB.rows q hq) (by (first | lia | omega))
  have hn : RS.length ≤ 252 := by rw [hRS, List.length_map]; exact hrl
  rw [e1]
  obtain ⟨j, hj, hje⟩ := mod_nat (i := (cellAt ns 1).fdiv 3) (m := 9) (by decide)
  have hje : pBin false .Mod (.int ((cellAt ns 1).fdiv 3)) (.int 9) = pure (.int j) := hje
  have hl1 : (RS.map rxV).length ≤ 1000 := by rw [List.length_map]; (first | lia | omega)
  have fin : ∀ {H : AHeap} {p1 p2 p5 p6 p8 p9 p10 p11 p12 : Option AV}, Rn (goOn (tl P13 (callP P13 29) "law" [] 7 33) (.next [p1, p2, some (.lst (xs.map .int)), some (.int (cellAt ns 1)), p5, p6, some (.lst (RS.map rxV)), p8, p9, p10, p11, p12])) H (Fl (fun u_ u_ => AV.none = .bool true) fun a u_ => a = .bool true) := by
    intros; rw [e_go_next]; exact (law_t7 0 hR (by (first | lia | omega)) hx).mono fun r u_ e => by rw [e]; rfl
  have gt : pCmp .Gt (.int ((RS.length : Nat) : Int)) (.int 7) = pure (decide ((RS.length : Int) > 7)) := rfl
  rw [e_len_lst, List.length_map]
  simp only [pure_bind, gt]
  by_cases h7 : (RS.length : Int) > 7
  · rw [decide_eq_true h7]
    have e8 : pBin false .Add (.int 8) (.int (j : Int)) = pure (.int ((8 + j : Nat) : Int)) := by rw [m_add]; rfl
    simp only [m_div (i := cellAt ns 1) (j := 3) ⟨by decide, by decide⟩, pure_bind, hje, e8, intM_is, sl_to hl1, e_eachp, e_each0]
    have hlong : 7 < ((RS.map rxV).take (8 + j)).length := by rw [List.length_take, List.length_map]; (first | lia | omega)
    refine .bind (.bind (.bind (.bind (.of (s_refused 27 (s_many 27 hlong H3)) ?_))))
    rw [e_truth]
    refine .pure (.pure (.pure (fin)))
  · rw [decide_eq_false h7]
    refine .bind (.pure ?_)
    exact fin
end Mine


open PySem PySem.W PyProof.Rows
set_option Elab.async false
set_option maxRecDepth 100000
set_option maxHeartbeats 8000000
namespace Mine
noncomputable def t13_KINDS : List (Str × Tok) := [("marks", 349), ("bare", 350), ("new", 351)]
noncomputable def t13_FIRST : List (Str × Tok × Str × Tok) := [("push", 393, "take", 394), ("swap", 395, "take", 396), ("pop", 397, "look", 398), ("top", 399, "look", 400), ("clear", 401, "look", 402)]
noncomputable def t13_BEHIND_LOOK : List (Str × Tok × Str × Tok) := [("push", 409, "put", 410), ("swap", 411, "see", 412), ("pop", 413, "see", 414), ("top", 415, "see", 416), ("clear", 417, "put", 418)]
noncomputable def t13_BEHIND_SEE : List (Str × Tok × Str × Tok) := [("swap", 425, "put", 426), ("pop", 427, "put", 428), ("top", 429, "check", 430)]
noncomputable def D13 : Tbl := [("KINDS", 135, tObj t13_KINDS), ("FIRST", 162, dObj t13_FIRST 5), ("BEHIND_LOOK", 163, dObj t13_BEHIND_LOOK 5), ("BEHIND_SEE", 164, dObj t13_BEHIND_SEE 3)]
noncomputable def cl13 : List (Str × List Str) := [("TowerError", []), ("NoKind", ["TowerError"]), ("NoValue", ["TowerError"]), ("NoDeed", ["TowerError"]), ("NoHand", ["TowerError"]), ("TooMany", ["TowerError"])]
noncomputable def q13 : Program := viewOf PySem.Challenge.pw_uf020017_13
noncomputable def loose13 : List Str := ["FIRST", "BEHIND_LOOK", "BEHIND_SEE"]
noncomputable def top13 (w : World) : Prop := (openEnds treeTable PySem.Challenge.pw_uf020017_13 w 6000).map (fun s => (openSeen q13 loose13 (importedModules PySem.Challenge.pw_uf020017_13.main.body) (fun s => xlAt q13 [] s && recOk (RowW.records PySem.Challenge.rw_uf020017_13.row.toRowW) s && tblX D13 s && clsOk cl13 s.heap) true s, tblF D13 s)) = some (openGood q13 loose13, tblA D13 w)
theorem left13a (w : World) : top13 (w.withFollow "special-get-raises" false) := by
  unfold top13 openEnds fencedOpening topFrom
  rw [PySem.W.Fast.te10274390034422433532, PySem.W.Fast.te14082659384304107361, PySem.W.Fast.te4187177175401517315, PySem.W.Fast.te14364793385576792824, PySem.W.Fast.te1435165496053646825, PySem.W.Fast.te14289696077712309145, PySem.W.Fast.te5923862056798008813]
  kernel_rfl
theorem left13b (w : World) : top13 (w.withFollow "special-get-raises" true) := by
  unfold top13 openEnds fencedOpening topFrom
  rw [PySem.W.Fast.te10274390034422433532, PySem.W.Fast.te14082659384304107361, PySem.W.Fast.te4187177175401517315, PySem.W.Fast.te14364793385576792824, PySem.W.Fast.te1435165496053646825, PySem.W.Fast.te14289696077712309145, PySem.W.Fast.te5923862056798008813]
  kernel_rfl
theorem left13 : LeftO PySem.Challenge.rw_uf020017_13.row.prog q13 loose13 (fun s => xlAt q13 [] s && recOk (RowW.records PySem.Challenge.rw_uf020017_13.row.toRowW) s && tblX D13 s && clsOk cl13 s.heap) (tblF D13) (tblA D13) 6000 :=
  byRow2 (P := top13) "special-get-raises" left13a left13b
theorem said13 : PySem.Challenge.rw_uf020017_13.wellSaid = true := by
  rw [PySem.W.Fast.te9446332074065402090]
  kernel_rfl
theorem promised13 : PySem.Challenge.rw_uf020017_13.row.toRowW.promised := by
  w_witness2
theorem glob13 (w : World) (mean : ExcName → Option Value) (mg mb : Str → Option Value) (h : Heap) (os : OsState) (X : tblXP D13 mg) (Y : tblP D13 w h) (T : Top q13 (looseW q13 loose13) mean mg mb h) (x : Str) (a : AV) (hg : P13.glob x = some a) :
    Gl ⟨PySem.Challenge.rw_uf020017_13.prog, w, h, os, mg, mb, [], none⟩ x a := by
  exact AllG.look (Q := Gl ⟨PySem.Challenge.rw_uf020017_13.prog, w, h, os, mg, mb, [], none⟩) (l := [("MOST_ROWS", g_MOST_ROWS), ("KINDS", g_KINDS), ("MOST_VALUES", g_MOST_VALUES), ("MOST_PROGRAMS", g_MOST_PROGRAMS), ("MOST_DEEDS", g_MOST_DEEDS), ("FIRST", g_FIRST), ("BEHIND_LOOK", g_BEHIND_LOOK), ("BEHIND_SEE", g_BEHIND_SEE), ("MOST_STEPS", g_MOST_STEPS)]) ⟨gl_int (cx := ⟨PySem.Challenge.rw_uf020017_13.prog, w, h, os, mg, mb, [], none⟩) T (i := 7) (by kernel_rfl), gl_tup (cx := ⟨PySem.Challenge.rw_uf020017_13.prog, w, h, os, mg, mb, [], none⟩) X Y (es := t13_KINDS) (a := 135) (.head _) (by kernel_rfl), gl_int (cx := ⟨PySem.Challenge.rw_uf020017_13.prog, w, h, os, mg, mb, [], none⟩) T (i := 60) (by kernel_rfl), gl_int (cx := ⟨PySem.Challenge.rw_uf020017_13.prog, w, h, os, mg, mb, [], none⟩) T (i := 20) (by kernel_rfl), gl_int (cx := ⟨PySem.Challenge.rw_uf020017_13.prog, w, h, os, mg, mb, [], none⟩) T (i := 60) (by kernel_rfl), gl_dict (cx := ⟨PySem.Challenge.rw_uf020017_13.prog, w, h, os, mg, mb, [], none⟩) X Y (es := t13_FIRST) (a := 162) (n := 5) (.tail _ (.head _)) (by decide), gl_dict (cx := ⟨PySem.Challenge.rw_uf020017_13.prog, w, h, os, mg, mb, [], none⟩) X Y (es := t13_BEHIND_LOOK) (a := 163) (n := 5) (.tail _ (.tail _ (.head _))) (by decide), gl_dict (cx := ⟨PySem.Challenge.rw_uf020017_13.prog, w, h, os, mg, mb, [], none⟩) X Y (es := t13_BEHIND_SEE) (a := 164) (n := 3) (.tail _ (.tail _ (.tail _ (.head _)))) (by decide), gl_int (cx := ⟨PySem.Challenge.rw_uf020017_13.prog, w, h, os, mg, mb, [], none⟩) T (i := 2000) (by kernel_rfl), trivial⟩ hg
end Mine
theorem PySem.Challenge.cw_uf020017_13_holds : PySem.Challenge.rw_uf020017_13.Holds := by
  refine Mine.head_law (q := Mine.q13) (loose := Mine.loose13) (D := Mine.D13) (P := Mine.P13) (n := 30) Mine.said13 Mine.left13 (by kernel_rfl) (by kernel_rfl) (by kernel_rfl) (by kernel_rfl) (by kernel_rfl) ⟨rfl, rfl, rfl, rfl, rfl, by decide +kernel⟩ Mine.promised13 rfl rfl (by kernel_rfl) (Mine.defs_ok (by kernel_rfl) (by kernel_rfl)) (by kernel_rfl) (by decide) (cl := Mine.cl13) rfl
    Mine.glob13 (fun ns hl => ?_)
  obtain ⟨a, H', h, rfl⟩ := Mine.s_law ns hl
  exact ⟨H', h⟩

