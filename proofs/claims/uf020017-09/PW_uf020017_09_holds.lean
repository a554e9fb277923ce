import PyProof.Rows.All
import PyProof.P3Statements
import PyProof.Claim2
import PyProof.TableCode
import PyProof.Defs
import PyProof.Rows.Top
import PyProof.Rows.CellsFrame
import PyProof.ListOps
import PyProof.TupleOps
import PyProof.P3In
import PyProof.DictTable
import PyProof.RangeFor
import PyProof.SliceMore
import PyProof.Rows.RuleB_mul
import PyProof.Rows.RuleB_floordiv
import PyProof.Rows.RuleB_mod
import PyProof.Rows.RuleB_sub
import PyProof.Rows.RuleB_small
import PyProof.Rows.RuleU_int
import PyProof.Rows.IntRules
import PyProof.Rows.ListMul
import PyProof.Rows.ListMulArg
import PyProof.NeData
import PyProof.IsiPairs
import PyProof.IsiNone
import PyProof.IsiSeqPairs
import PyProof.IsiTupleAll
import PyProof.IsiTupleOf
import PyProof.ListIndexNeg
import PyProof.DictRoads
import PyProof.ListRange
import PyProof.TupleOfSeq
import PyProof.ListCopy
import PyProof.Rows.IntOr
import PyProof.Rows.RuleC_int
import PyProof.DictStraight
import PyProof.WalkInts
import PyProof.ConsumeWalk
import PyProof.Conv_int_bool
import PyProof.Rows.TupMore
import PyProof.DictCopy
import PyProof.LetGo
import KE.KRevSl
import KE.KDictOf
import PyProof.SeqI3
import PyProof.Rows.SortShell
import PyProof.Rows.Chain
import PyProof.CompFree
import PyProof.TupleIter
import PyProof.EnumMake
import PyProof.EnumStmt
import PyProof.Rows.TupSub
import PyProof.Rows.SeqSlice
import PyProof.Rows.Exc
import Wide.All
import OpenK.AllK
import Wide.FinOn
import PySem.Challenge.RW_uf020017_09
set_option Elab.async false
set_option autoImplicit false
set_option linter.unusedVariables false
namespace Mine
open PySem PyProof.Rows

/-- abstract values: what a Python value is, with lists either frozen (lst) or on the abstract heap (loc) -/
inductive AV where
  | none
  | bool (b : Bool)
  | int (i : Int)
  | str (s : Str)
  | tup (xs : List AV)
  | lst (xs : List AV)
  | loc (l : Nat)
  | range (a b : Int)
  | cdict (es : List (Str × AV))

inductive AO where
  | list (xs : List AV)
  | dict (es : List (Str × AV))

abbrev AHeap := List AO

/-- the most items a list may have here -/
noncomputable def LIM : Nat := 2 ^ 20

abbrev M := StateT AHeap Option
noncomputable def stuck {α : Type} : M α := fun _ => none

/-- turns that a loop may do here -/
noncomputable def FUEL : Nat := 100000

/-- the pure datum that a value reads as, with n levels -/
noncomputable def rd (H : AHeap) : Nat → AV → Option PyData
  | _, .none => some .none
  | _, .bool b => some (.bool b)
  | _, .int i => some (.int i)
  | _, .str x => if PyData.strOk x then some (.str x) else none
  | n + 1, .tup xs => (xs.mapM (rd H n)).map .tuple
  | n + 1, .lst xs => (xs.mapM (rd H n)).map .list
  | n + 1, .loc l => match H[l]? with
    | some (.list xs) => (xs.mapM (rd H n)).map .list
    | _ => none
  | _, _ => none

noncomputable def seqOf (v : AV) : M (List AV) := fun H => match v with
  | .tup xs => some (xs, H)
  | .lst xs => some (xs, H)
  | .loc l => match H[l]? with
    | some (.list xs) => some (xs, H)
    | _ => none
  | _ => none
noncomputable def listOf (v : AV) : M (List AV) := fun H => match v with
  | .lst xs => some (xs, H)
  | .loc l => match H[l]? with
    | some (.list xs) => some (xs, H)
    | _ => none
  | _ => none

noncomputable def newL (mu : Bool) (xs : List AV) : M AV := fun H =>
  if xs.length ≤ LIM then (match mu with
    | true => some (.loc H.length, H ++ [.list xs])
    | false => some (.lst xs, H)) else none
noncomputable def newD (es : List (Str × AV)) : M AV := fun H => some (.loc H.length, H ++ [.dict es])

noncomputable def truth : AV → M Bool
  | .bool b => pure b
  | _ => stuck

noncomputable def asI (v : AV) : Option Int := match v with
  | .int i => some i
  | _ => none
noncomputable def int2 (a b : AV) (f : Int → Int → M AV) : M AV := match asI a with
  | some i => match asI b with
    | some j => f i j
    | none => stuck
  | none => stuck
noncomputable def addTup (xs : List AV) (b : AV) : M AV := match b with
  | .tup ys => if xs.isEmpty || ys.isEmpty || decide (LIM < xs.length + ys.length) then stuck else pure (.tup (xs ++ ys))
  | _ => stuck
noncomputable def addSeq (mu : Bool) (a b : AV) : M AV := match a with
  | .tup xs => addTup xs b
  | a => do
    let xs ← listOf a
    let ys ← listOf b
    newL mu (xs ++ ys)
noncomputable def bAdd (mu : Bool) (a b : AV) : M AV := match asI a with
  | some i => match asI b with
    | some j => pure (.int (i + j))
    | none => stuck
  | none => addSeq mu a b
noncomputable def bMul (mu : Bool) (a b : AV) : M AV := match asI b with
  | some n => match asI a with
    | some i => if n.natAbs < 2 ^ 64 ∨ i.natAbs < 2 ^ 64 then pure (.int (i * n)) else stuck
    | none => do
      let xs ← listOf a
      if n < 0 ∨ 1048576 < n ∨ LIM < n.toNat * xs.length then stuck else newL mu (List.replicate n.toNat xs).flatten
  | none => stuck
noncomputable def pBin (mu : Bool) (op : Operator) (a b : AV) : M AV := match op with
  | .Add => bAdd mu a b
  | .Sub => int2 a b fun i j => pure (.int (i - j))
  | .Mult => bMul mu a b
  | .FloorDiv => int2 a b fun i j => if j = 0 ∨ 1073741824 ≤ j.natAbs then stuck else pure (.int (i.fdiv j))
  | .Mod => int2 a b fun i j => if j = 0 then stuck else pure (.int (i.fmod j))
  | .Pow => int2 a b fun i j => if i = 10 ∧ j = 20 then pure (.int 100000000000000000000) else stuck
  | _ => stuck

noncomputable def pNeg : AV → M AV
  | .int i => pure (.int (-i))
  | _ => stuck

noncomputable def cmpI (op : CmpOp) (i j : Int) : M Bool := match op with
  | .Lt => pure (decide (i < j))
  | .LtE => pure (decide (i ≤ j))
  | .Gt => pure (decide (j < i))
  | .GtE => pure (decide (j ≤ i))
  | _ => stuck
noncomputable def pEq (a b : AV) : M Bool := fun H => match rd H 8 a, rd H 8 b with
  | some x, some y => some (PyData.eqv x y, H)
  | _, _ => none
noncomputable def pIn (a b : AV) : M Bool := fun H => match rd H 8 a, rd H 8 b with
  | some x, some (.list ys) => some (ys.any fun y => PyData.eqv y x, H)
  | some x, some (.tuple ys) => some (ys.any fun y => PyData.eqv y x, H)
  | _, _ => none
noncomputable def pIsNone : AV → Bool
  | .none => true
  | _ => false
noncomputable def pCmp (op : CmpOp) (a b : AV) : M Bool := match op with
  | .Eq => pEq a b
  | .NotEq => do let r ← pEq a b; pure (!r)
  | .In => pIn a b
  | .NotIn => do let r ← pIn a b; pure (!r)
  | .Is => match b with
    | .none => pure (pIsNone a)
    | _ => stuck
  | .IsNot => match b with
    | .none => pure (!pIsNone a)
    | _ => stuck
  | op => match asI a with
    | some i => match asI b with
      | some j => cmpI op i j
      | none => stuck
    | none => stuck

/-- the place of an index, from the end if it is below nought -/
noncomputable def idx (k : Int) (n : Nat) : Option Nat := if 0 ≤ k then (if k < n then some k.toNat else none) else (if -k ≤ n then some (k + n).toNat else none)

noncomputable def look (es : List (Str × AV)) (k : Str) : Option AV := (es.find? fun e => e.1 = k).map (·.2)
noncomputable def put (es : List (Str × AV)) (k : Str) (v : AV) : List (Str × AV) :=
  if es.any (fun e => e.1 = k) then es.map (fun e => if e.1 = k then (e.1, v) else e) else es ++ [(k, v)]

noncomputable def ofOpt {α : Type} : Option α → M α
  | some a => pure a
  | none => stuck

noncomputable def pItem (o i : AV) : M AV := match i with
  | .str k => match o with
    | .cdict es => ofOpt (look es k)
    | .loc l => fun H => match H[l]? with
      | some (.dict es) => (look es k).map fun v => (v, H)
      | _ => none
    | _ => stuck
  | .int k => do
    let xs ← seqOf o
    ofOpt ((idx k xs.length).bind fun j => xs[j]?)
  | _ => stuck

/-- where an end of a slice falls, in a list of n -/
noncomputable def clipA (n : Nat) (i : Int) : Nat := (max 0 (min (if i < 0 then i + n else i) n)).toNat

/-- xs[lo:hi] -/
noncomputable def cut (xs : List AV) (lo hi : Option Int) : List AV :=
  let n := xs.length
  let a := lo.elim 0 (clipA n)
  let b := hi.elim n (clipA n)
  (xs.drop a).take (b - a)

noncomputable def pSlice (mu : Bool) (o : AV) (lo hi : Option Int) : M AV := match o with
  | .tup xs => match lo, hi with
    | none, some b => if 0 ≤ b ∧ b < xs.length then pure (.tup (xs.take b.toNat)) else stuck
    | _, _ => stuck
  | o => do
    let xs ← listOf o
    newL mu (cut xs lo hi)
noncomputable def pRev (mu : Bool) (o : AV) : M AV := do
  let xs ← listOf o
  newL mu xs.reverse

noncomputable def pStore (o i v : AV) : M Unit := match o, i with
  | .loc l, .str k => fun H => match H[l]? with
    | some (.dict es) => if es.length < LIM then some ((), H.set l (.dict (put es k v))) else none
    | _ => none
  | .loc l, .int k => fun H => match H[l]? with
    | some (.list xs) => if 0 ≤ k ∧ k < xs.length then some ((), H.set l (.list (xs.set k.toNat v))) else none
    | _ => none
  | _, _ => stuck

/-- the types that isinstance is asked of -/
inductive Ty where
  | int | bool | str | tuple | list
  deriving DecidableEq
noncomputable def tyOf (x : Str) : Option Ty :=
  if x = ("int" : Str) then some .int else if x = ("bool" : Str) then some .bool else if x = ("str" : Str) then some .str
  else if x = ("tuple" : Str) then some .tuple else if x = ("list" : Str) then some .list else none

noncomputable def pIs1 (H : AHeap) (v : AV) (t : Ty) : Option Bool := match v, t with
  | .none, _ => some false
  | .bool _, .int | .bool _, .bool => some true
  | .bool _, _ => some false
  | .int _, .int => some true
  | .int _, _ => some false
  | .str _, .str => some true
  | .str _, _ => some false
  | .tup _, .tuple => some true
  | .tup _, _ => some false
  | .lst _, .list => some true
  | .lst _, _ => some false
  | .loc l, t => match H[l]?, t with
    | some (.list _), .list => some true
    | some (.list _), _ => some false
    | _, _ => none
  | _, _ => none
noncomputable def pIsi (v : AV) (t : Ty) : M Bool := fun H => (pIs1 H v t).map fun b => (b, H)

inductive BI where
  | len | list | tuple | dict | int | range | min | max | any | sorted
  deriving DecidableEq
noncomputable def biOf (x : Str) : Option BI :=
  if x = ("len" : Str) then some .len else if x = ("list" : Str) then some .list else if x = ("tuple" : Str) then some .tuple
  else if x = ("dict" : Str) then some .dict else if x = ("int" : Str) then some .int else if x = ("range" : Str) then some .range
  else if x = ("min" : Str) then some .min else if x = ("max" : Str) then some .max else if x = ("any" : Str) then some .any
  else if x = ("sorted" : Str) then some .sorted else none

noncomputable def rangeL (a b : Int) : List AV := (List.range (b - a).toNat).map fun (k : Nat) => .int (a + (k : Int))
noncomputable def small62 (i : Int) : Bool := decide (-(2 ^ 62) ≤ i) && decide (i < 2 ^ 62)
noncomputable def intsOf : List AV → Option (List Int)
  | [] => some []
  | .int i :: r => (intsOf r).map (i :: ·)
  | _ => none
noncomputable def boolsOf : List AV → Option (List Bool)
  | [] => some []
  | .bool i :: r => (boolsOf r).map (i :: ·)
  | _ => none
noncomputable def maxI : List Int → Option Int
  | [] => none
  | x :: r => some (r.foldl (fun m y => if m < y then y else m) x)
noncomputable def sortI (l : List Int) : List Int := l.mergeSort (fun a b => decide (a ≤ b))


noncomputable def one (vs : List AV) (f : AV → M AV) : M AV := match vs with
  | [v] => f v
  | _ => stuck
noncomputable def bList (mu : Bool) (v : AV) : M AV := match v with
  | .range a b => if small62 a && small62 b then newL mu (rangeL a b) else stuck
  | v => do let xs ← seqOf v; newL mu xs
noncomputable def bDict (v : AV) : M AV := match v with
  | .loc l => fun H => match H[l]? with
    | some (.dict es) => some (.loc H.length, H ++ [.dict es])
    | _ => none
  | _ => stuck
noncomputable def bInt (v : AV) : M AV := match v with
  | .bool b => pure (.int (if b then 1 else 0))
  | _ => stuck
noncomputable def bRange (vs : List AV) : M AV := match vs with
  | [v] => match asI v with
    | some n => pure (.range 0 n)
    | none => stuck
  | [v, w] => match asI v with
    | some a => match asI w with
      | some b => pure (.range a b)
      | none => stuck
    | none => stuck
  | _ => stuck
noncomputable def bMin (vs : List AV) : M AV := match vs with
  | [v, w] => match asI v with
    | some a => match asI w with
      | some b => pure (.int (if b < a then b else a))
      | none => stuck
    | none => stuck
  | _ => stuck
noncomputable def pBI (mu : Bool) (b : BI) (vs : List AV) : M AV := match b with
  | .len => one vs fun v => do let xs ← seqOf v; pure (.int xs.length)
  | .list => one vs (bList mu)
  | .tuple => one vs fun v => do let xs ← listOf v; pure (.tup xs)
  | .dict => one vs bDict
  | .int => one vs bInt
  | .range => bRange vs
  | .min => bMin vs
  | .max => one vs fun v => do let xs ← listOf v; let is ← ofOpt (intsOf xs); let m ← ofOpt (maxI is); pure (.int m)
  | .any => one vs fun v => do let xs ← listOf v; let bs ← ofOpt (boolsOf xs); pure (.bool (bs.any id))
  | .sorted => one vs fun v => do let xs ← listOf v; let is ← ofOpt (intsOf xs); if is.length < 64 then newL mu ((sortI is).map .int) else stuck

noncomputable def pZip (mu : Bool) (a b : AV) : M AV := stuck

noncomputable def pMeth (m : Str) (o : AV) (vs : List AV) : M AV := match o with
  | .loc l => fun H => match H[l]? with
    | some (.list xs) =>
      if m = ("append" : Str) then (match vs with
        | [v] => if xs.length < LIM then some (.none, H.set l (.list (xs ++ [v]))) else none
        | _ => none)
      else if m = ("pop" : Str) then (match vs with
        | [] => (match xs[xs.length - 1]? with
          | some v => some (v, H.set l (.list (xs.eraseIdx (xs.length - 1))))
          | none => none)
        | [.int k] => if 0 ≤ k ∧ k < xs.length then (match xs[k.toNat]? with
          | some v => some (v, H.set l (.list (xs.eraseIdx k.toNat)))
          | none => none) else none
        | _ => none)
      else if m = ("clear" : Str) then (match vs with
        | [] => some (.none, H.set l (.list []))
        | _ => none)
      else if m = ("count" : Str) then (match vs with
        | [v] => (match xs.mapM (rd H 7), rd H 8 v with
          | some ys, some y => some (.int (ys.countP fun z => PyData.eqv z y : Nat), H)
          | _, _ => none)
        | _ => none)
      else none
    | _ => none
  | .lst xs =>
      if m = ("count" : Str) then (match vs with
        | [v] => fun H => (match xs.mapM (rd H 7), rd H 8 v with
          | some ys, some y => some (.int (ys.countP fun z => PyData.eqv z y : Nat), H)
          | _, _ => none)
        | _ => stuck)
      else stuck
  | _ => stuck

/-- what is iterated -/
inductive Src where
  | items (xs : List AV)
  | at (l : Nat)
  | enum (s : Src)
noncomputable def Src.get : Src → Nat → M (Option AV)
  | .items xs, i => pure xs[i]?
  | .at l, i => fun H => match H[l]? with
    | some (.list xs) => some (xs[i]?, H)
    | _ => none
  | .enum s, i => do
    let r ← s.get i
    pure (r.map fun v => .tup [.int i, v])

noncomputable def srcOf (v : AV) : M Src := fun H => match v with
  | .tup xs => some (.items xs, H)
  | .lst xs => some (.items xs, H)
  | .range a b => if small62 a && small62 b then some (.items (rangeL a b), H) else none
  | .loc l => match H[l]? with
    | some (.list _) => some (.at l, H)
    | _ => none
  | _ => none

noncomputable def evEach (ev : Expr → M AV) : List Expr → M (List AV)
  | [] => pure []
  | e :: r => do
    let v ← ev e
    let vs ← evEach ev r
    pure (v :: vs)

noncomputable def bOp (ev : Expr → M AV) (op : BoolOp) : List Expr → M AV
  | [] => stuck
  | [e] => ev e
  | e :: r => do
    let v ← ev e
    let t ← truth v
    match op with
    | .And => (match t with
      | false => pure v
      | true => bOp ev .And r)
    | .Or => (match t with
      | true => pure v
      | false => bOp ev .Or r)

/-- a chain of comparisons; r hands on the last one's answer -/
noncomputable def chain (ev : Expr → M AV) (a : AV) : List CmpOp → List Expr → M Bool
  | [op], [e] => do
    let b ← ev e
    pCmp op a b
  | op :: op' :: ops, e :: e' :: es => do
    let b ← ev e
    let t ← pCmp op a b
    match t with
    | true => chain ev b (op' :: ops) (e' :: es)
    | false => pure false
  | _, _ => stuck

noncomputable def tests (te : Expr → M Bool) (op : BoolOp) : List Expr → M Bool
  | [] => pure (op == .And)
  | e :: r => do
    let t ← te e
    match op with
    | .And => (match t with
      | false => pure false
      | true => tests te .And r)
    | .Or => (match t with
      | true => pure true
      | false => tests te .Or r)

noncomputable def plainT (ev : Expr → M AV) (e : Expr) : M Bool := do let v ← ev e; truth v
noncomputable def denT (ev : Expr → M AV) : Nat → Expr → M Bool
  | 0, _ => stuck
  | n + 1, e => match e with
    | .UnaryOp op x p => match op with
      | .Not => do let b ← denT ev n x; pure (!b)
      | op => plainT ev (.UnaryOp op x p)
    | .BoolOp op vs _ => tests (denT ev n) op vs
    | .Compare l ops cs _ => do let a ← ev l; chain ev a ops cs
    | e => plainT ev e

structure Fn where
  params : List Str
  names : List Str
  body : List Stmt
  scope : Scope

structure Pg where
  fn : Str → Option Fn
  glob : Str → Option AV
  mu : Pos → Bool

abbrev Loc := List (Option AV)

noncomputable def nameV (ns : List Str) (x : Str) (σ : Loc) : M AV := match ns.idxOf? x with
  | some i => match σ[i]? with
    | some (some v) => pure v
    | _ => stuck
  | none => stuck

noncomputable def isLocal (sc : Scope) (x : Str) : Bool := match sc.names.lookup x with
  | some .local | some .cell | some .free => true
  | _ => false
noncomputable def isGlob (sc : Scope) (x : Str) : Bool := match sc.names.lookup x with
  | some .globalImplicit => true
  | _ => false

noncomputable def constV : Const → M AV
  | .none => pure .none
  | .bool b => pure (.bool b)
  | .int i => pure (.int i)
  | .str s => pure (.str s)
  | _ => stuck

noncomputable def compLoop (src : Src) (body : AV → M (Option AV)) : Nat → Nat → List AV → M (List AV)
  | 0, _, _ => stuck
  | f + 1, i, acc => do
    match ← src.get i with
    | none => pure acc
    | some v => do
      match ← body v with
      | none => compLoop src body f (i + 1) acc
      | some y => if acc.length < LIM then compLoop src body f (i + 1) (acc ++ [y]) else stuck

noncomputable def ifs1 (te : Expr → M Bool) : List Expr → M Bool
  | [] => pure true
  | [e] => te e
  | _ => stuck

noncomputable def strKeys : List (Option Expr) → Option (List Str)
  | [] => some []
  | some (.Constant (.str k) _ _) :: r => (strKeys r).map (k :: ·)
  | _ => none

noncomputable def sliceEnd (ev : Expr → M AV) : Option Expr → M (Option Int)
  | none => pure none
  | some e => do
    match ← ev e with
    | .int i => pure (some i)
    | _ => stuck

/-- what is asked of a comprehension's scope: its own name is local, what is free lies in a cell around -/
noncomputable def compOk (sc : Scope) (ns : List Str) (scope : Scope) (x : Str) : Bool :=
  scope.kind == .function && scope.names.lookup x == some .local && !(ns.contains (".0" : Str)) &&
  scope.names.all fun (y, k) => match k with
    | .local => (y == x || y == (".0" : Str)) && scope.names.lookup y == some .local
    | .free => sc.names.lookup y == some .cell && ns.contains y
    | .globalImplicit => true
    | _ => false
noncomputable def noSet : Expr → Bool
  | .Set _ _ _ => true
  | _ => false

noncomputable def plainBase : Expr → Bool
  | .Name _ _ => true
  | .Subscript _ _ _ => true
  | _ => false

noncomputable def isTL (t u : Str) : Bool := decide (t = ("tuple" : Str)) && decide (u = ("list" : Str))
noncomputable def pIsiTL (v : AV) : M Bool := do
  let b ← pIsi v .tuple
  let c ← pIsi v .list
  pure (b || c)

noncomputable def dName (P : Pg) (sc : Scope) (ns : List Str) (σ : Loc) (x : Str) : M AV :=
  if x == ("__debug__" : Str) || x == ("__classdict__" : Str) then stuck else if isLocal sc x then nameV ns x σ else if isGlob sc x then ofOpt (P.glob x) else stuck
noncomputable def dUn (ev : Expr → M AV) (op : UnaryOp) (x : Expr) : M AV := match op with
  | .USub => do let v ← ev x; pNeg v
  | .Not => do let v ← ev x; let b ← truth v; pure (.bool !b)
  | _ => stuck
noncomputable def dDict (ev : Expr → M AV) (keys : List (Option Expr)) (vals : List Expr) : M AV := match strKeys keys with
  | some ks => if ks.length = vals.length ∧ ks.length ≤ 15 ∧ ks ≠ [] ∧ ks.Nodup then do
      let vs ← evEach ev vals
      newD (ks.zip vs)
    else stuck
  | none => stuck
noncomputable def isOne : Const → Bool
  | .int i => decide (i = 1)
  | _ => false
noncomputable def isC1 : Expr → Bool
  | .Constant c _ _ => isOne c
  | _ => false
noncomputable def isNegOp : UnaryOp → Bool
  | .USub => true
  | _ => false
/-- the written -1 -/
noncomputable def isM1 : Expr → Bool
  | .UnaryOp op x _ => isNegOp op && isC1 x
  | _ => false
noncomputable def dSlice (ev : Expr → M AV) (mu : Bool) (o : Expr) (lo hi st : Option Expr) : M AV := match st with
  | none => do
    let ov ← ev o
    let a ← sliceEnd ev lo
    let b ← sliceEnd ev hi
    pSlice mu ov a b
  | some e => if isM1 e && lo.isNone && hi.isNone then do
      let ov ← ev o
      pRev mu ov
    else stuck
noncomputable def dSub (ev : Expr → M AV) (mu : Bool) (o i : Expr) : M AV := match i with
  | .Slice lo hi st _ => dSlice ev mu o lo hi st
  | i => do
    let ov ← ev o
    let iv ← ev i
    pItem ov iv
noncomputable def nameOf1 : Expr → Option (Str × Pos)
  | .Name x p => some (x, p)
  | _ => none
noncomputable def compGen : List Comprehension → Option (Str × Expr × List Expr)
  | [g] => if g.is_async = 0 then (nameOf1 g.target).map fun x => (x.1, g.iter, g.ifs) else none
  | _ => none
noncomputable def pairN : List Expr → Option ((Str × Pos) × Str × Pos)
  | [a, b] => match nameOf1 a with
    | some x => (nameOf1 b).map fun y => (x, y)
    | none => none
  | _ => none
/-- f(..) with no keyword -/
noncomputable def callOf : Expr → Option (Str × List Expr)
  | .Call f args kws _ => match kws with
    | [] => (nameOf1 f).map fun x => (x.1, args)
    | _ => none
  | _ => none
noncomputable def isZip (sc : Scope) (args : List Expr) : Option (Expr × Expr) := match args with
  | [e] => match callOf e with
    | some (z, [x, y]) => if z = ("zip" : Str) ∧ isGlob sc z then some (x, y) else none
    | _ => none
  | _ => none
noncomputable def dIsi1 (ev : Expr → M AV) (sc : Scope) (e : Expr) (t : Expr) : M AV := match t with
  | .Name t _ => if isGlob sc t then (match tyOf t with
    | some t => do
      let v ← ev e
      let b ← pIsi v t
      pure (.bool b)
    | none => stuck) else stuck
  | .Tuple es _ _ => match pairN es with
    | some (t, u) => if isTL t.1 u.1 && isGlob sc t.1 && isGlob sc u.1 then do
        let v ← ev e
        let b ← pIsiTL v
        pure (.bool b)
      else stuck
    | none => stuck
  | _ => stuck
noncomputable def dIsi (ev : Expr → M AV) (sc : Scope) (args : List Expr) : M AV := match args with
  | [e, t] => dIsi1 ev sc e t
  | _ => stuck
noncomputable def dBI (ev : Expr → M AV) (mu : Bool) (sc : Scope) (b : BI) (args : List Expr) : M AV := match (if b = .list then isZip sc args else none) with
  | some (x, y) => do
    let a ← ev x
    let b ← ev y
    pZip mu a b
  | none => do
    let vs ← evEach ev args
    pBI mu b vs
noncomputable def dCallN (ev : Expr → M AV) (cf : Str → List AV → M AV) (mu : Bool) (sc : Scope) (f : Str) (args : List Expr) : M AV :=
  if isGlob sc f then (if f = ("isinstance" : Str) then dIsi ev sc args else match biOf f with
    | some b => dBI ev mu sc b args
    | none => do
      let vs ← evEach ev args
      cf f vs) else stuck
noncomputable def dCall (ev : Expr → M AV) (cf : Str → List AV → M AV) (mu : Bool) (sc : Scope) (f : Expr) (args : List Expr) (p : Pos) : M AV := match f with
  | .Attribute o m ap => if plainBase o && ap.endLine == p.line && decide (args.length ≤ 2) then do
      let ov ← ev o
      let _ ← listOf ov
      let vs ← evEach ev args
      pMeth m ov vs
    else stuck
  | .Name f _ => dCallN ev cf mu sc f args
  | _ => stuck

noncomputable def dComp (ev : Expr → M AV) (ec : Str → AV → Expr → M AV) (n : Nat) (mu : Bool) (sc : Scope) (ns : List Str) (scope : Scope) (elt : Expr) (gens : List Comprehension) : M AV := match compGen gens with
  | some (x, iter, ifs) => if !compOk sc ns scope x || noSet iter then stuck else do
    let iv ← ev iter
    let src ← srcOf iv
    let ys ← compLoop src (fun v => do
      let t ← ifs1 (denT (ec x v) n) ifs
      if t then do
        let y ← ec x v elt
        pure (some y)
      else pure none) FUEL 0 []
    newL mu ys
  | none => stuck

noncomputable def den (P : Pg) (cf : Str → List AV → M AV) : Nat → Scope → List Str → Loc → Expr → M AV
  | 0, _, _, _, _ => stuck
  | n + 1, sc, ns, σ, e => match e with
    | .Constant c _ _ => constV c
    | .Name x _ => dName P sc ns σ x
    | .BoolOp op vs _ => bOp (den P cf n sc ns σ) op vs
    | .BinOp l op r p => do
      let a ← den P cf n sc ns σ l
      let b ← den P cf n sc ns σ r
      pBin (P.mu p) op a b
    | .UnaryOp op x _ => dUn (den P cf n sc ns σ) op x
    | .Compare l ops cs _ => do
      let a ← den P cf n sc ns σ l
      let b ← chain (den P cf n sc ns σ) a ops cs
      pure (.bool b)
    | .Tuple es _ _ => if es.length ≤ 100 then do let vs ← evEach (den P cf n sc ns σ) es; pure (.tup vs) else stuck
    | .List es p => do let vs ← evEach (den P cf n sc ns σ) es; newL (P.mu p) vs
    | .Dict ks vs _ => dDict (den P cf n sc ns σ) ks vs
    | .Subscript o i p => dSub (den P cf n sc ns σ) (P.mu p) o i
    | .ListComp elt gens scope p => dComp (den P cf n sc ns σ) (fun x v => den P cf n scope (x :: ns) (some v :: σ)) n (P.mu p) sc ns scope elt gens
    | .Call f args kws p => match kws with
      | [] => dCall (den P cf n sc ns σ) cf (P.mu p) sc f args p
      | _ => stuck
    | _ => stuck

inductive Res where
  | next (σ : Loc)
  | ret (v : AV)

noncomputable def setN (ns : List Str) (x : Str) (v : AV) (σ : Loc) : M Loc := match ns.idxOf? x with
  | some i => pure (σ.set i (some v))
  | none => stuck

noncomputable def assignP (sc : Scope) (ns : List Str) (v : AV) (σ : Loc) (x y : Str) : M Loc := match v with
  | .tup vs => match vs with
    | [a, b] => if isLocal sc x && isLocal sc y then do
        let σ ← setN ns x a σ
        setN ns y b σ
      else stuck
    | _ => stuck
  | _ => stuck
noncomputable def assignTo (ev : Loc → Expr → M AV) (sc : Scope) (ns : List Str) (v : AV) (σ : Loc) : Expr → M Loc
  | .Name x _ => if isLocal sc x then setN ns x v σ else stuck
  | .Subscript o i _ => do
    let ov ← ev σ o
    let iv ← ev σ i
    pStore ov iv v
    pure σ
  | .Tuple es _ _ => match pairN es with
    | some (x, y) => assignP sc ns v σ x.1 y.1
    | none => stuck
  | _ => stuck

noncomputable def forLoop (src : Src) (body : AV → Loc → M Res) : Nat → Nat → Loc → M Res
  | 0, _, _ => stuck
  | f + 1, i, σ => do
    match ← src.get i with
    | none => pure (.next σ)
    | some v => do
      match ← body v σ with
      | .next σ' => forLoop src body f (i + 1) σ'
      | .ret w => pure (.ret w)

noncomputable def whileLoop (test : Loc → M Bool) (body : Loc → M Res) : Nat → Loc → M Res
  | 0, _ => stuck
  | f + 1, σ => do
    match ← test σ with
    | false => pure (.next σ)
    | true => do
      match ← body σ with
      | .next σ' => whileLoop test body f σ'
      | .ret w => pure (.ret w)

noncomputable def noComp : Expr → Bool
  | .ListComp _ _ _ _ => false
  | _ => true
noncomputable def isTupE : Expr → Bool
  | .Tuple _ _ _ => true
  | _ => false
noncomputable def pairOf : AV → M (AV × AV)
  | .tup [a, b] => pure (a, b)
  | _ => stuck

/-- e in enumerate(e) -/
noncomputable def enumArg (sc : Scope) (it : Expr) : Option Expr := match callOf it with
  | some (f, [e]) => if f = ("enumerate" : Str) ∧ isGlob sc f = true then some e else none
  | _ => none
/-- what is left of a block, behind one statement's answer -/
noncomputable def goOn (m : Loc → M Res) : Res → M Res
  | .next σ' => m σ'
  | .ret v => pure (.ret v)
noncomputable def bAssign (ev : Expr → M AV) (sc : Scope) (ns : List Str) (m : Loc → M Res) (σ : Loc) (e : Expr) (t : Expr) : M Res := match t with
  | .Name x _ => if isLocal sc x then do
      let v ← ev e
      let σ' ← setN ns x v σ
      m σ'
    else stuck
  | .Subscript o i _ => do
    let v ← ev e
    let ov ← ev o
    let iv ← ev i
    pStore ov iv v
    m σ
  | .Tuple es _ _ => match pairN es with
    | some (x, y) => if isTupE e || !isLocal sc x.1 || !isLocal sc y.1 then stuck else do
      let v ← ev e
      let p ← pairOf v
      let σ1 ← setN ns x.1 p.1 σ
      let σ2 ← setN ns y.1 p.2 σ1
      m σ2
    | none => stuck
  | _ => stuck
noncomputable def bFor (ev : Loc → Expr → M AV) (sc : Scope) (ns : List Str) (body : Loc → M Res) (m : Loc → M Res) (σ : Loc) (t it : Expr) : M Res := match t with
  | .Name x px => if noSet it then stuck else do
      let v ← ev σ it
      let src ← srcOf v
      let r ← forLoop src (fun v σ => do
        let σ' ← assignTo ev sc ns v σ (.Name x px)
        body σ') FUEL 0 σ
      goOn m r
  | .Tuple es k pt => match pairN es with
    | some (x, y) => match enumArg sc it with
      | some e => do
        let v ← ev σ e
        let _ ← listOf v
        let src ← srcOf v
        let r ← forLoop (.enum src) (fun v σ => do
          let σ' ← assignTo ev sc ns v σ (.Tuple [.Name x.1 x.2, .Name y.1 y.2] k pt)
          body σ') FUEL 0 σ
        goOn m r
      | none => stuck
    | none => stuck
  | _ => stuck

noncomputable def denB (P : Pg) (cf : Str → List AV → M AV) (sc : Scope) (ns : List Str) : Nat → List Stmt → Loc → M Res
  | _, [], σ => pure (.next σ)
  | 0, _ :: _, _ => stuck
  | n + 1, s :: rest, σ => match s with
    | .Pass _ => denB P cf sc ns n rest σ
    | .Return v _ => match v with
      | none => pure (.ret .none)
      | some e => do let v ← den P cf n sc ns σ e; pure (.ret v)
    | .Expr e _ => if noComp e then do
        let _ ← den P cf n sc ns σ e
        denB P cf sc ns n rest σ
      else stuck
    | .Assign ts e _ => match ts with
      | [t] => bAssign (den P cf n sc ns σ) sc ns (denB P cf sc ns n rest) σ e t
      | _ => stuck
    | .If t b o _ => do
      let c ← denT (den P cf n sc ns σ) n t
      match c with
      | true => do
        let r ← denB P cf sc ns n b σ
        goOn (denB P cf sc ns n rest) r
      | false => do
        let r ← denB P cf sc ns n o σ
        goOn (denB P cf sc ns n rest) r
    | .For t it b o _ => match o with
      | [] => bFor (fun σ e => den P cf n sc ns σ e) sc ns (denB P cf sc ns n b) (denB P cf sc ns n rest) σ t it
      | _ => stuck
    | .While t b o _ => match o with
      | [] => do
        let r ← whileLoop (fun σ => denT (den P cf n sc ns σ) n t) (denB P cf sc ns n b) FUEL σ
        goOn (denB P cf sc ns n rest) r
      | _ => stuck
    | _ => stuck

noncomputable def EFUEL : Nat := 40

/-- a call of one of the text's own defs, n calls deep at most -/
noncomputable def callP (P : Pg) : Nat → Str → List AV → M AV
  | 0, _, _ => stuck
  | n + 1, f, args => match P.fn f with
    | none => stuck
    | some fn =>
      if args.length = fn.params.length then do
        match ← denB P (callP P n) fn.scope fn.names EFUEL fn.body (args.map some ++ List.replicate (fn.names.length - args.length) none) with
        | .ret v => pure v
        | .next _ => pure .none
      else stuck

theorem bind_of {α β : Type} {m : M α} {f : α → M β} {H H1 : AHeap} {a : α} {r : β × AHeap} (h1 : m H = some (a, H1)) (h2 : f a H1 = some r) : (m >>= f) H = some r := by
  show (m H).bind _ = some r
  rw [h1]; exact h2

noncomputable def fnChk (fn : Fn) : Bool :=
  fn.scope.kind == .function && !fn.scope.isCoroutine && !fn.scope.isGenerator &&
  (fn.scope.names.all fun (_, k) => k == .local || k == .cell || k == .globalImplicit) &&
  decide (fn.params.Nodup) && fn.names.take fn.params.length == fn.params &&
  fn.params.all fun x => fn.scope.names.lookup x == some .local || fn.scope.names.lookup x == some .cell

end Mine


set_option autoImplicit false
set_option linter.unusedVariables false
namespace Mine
open PySem PyProof.Rows


noncomputable def mkFn (a : Arguments) (b : List Stmt) (sc : Scope) : Fn :=
  let ps := a.args.map (·.arg)
  ⟨ps, ps ++ (sc.names.filterMap fun (x, k) => if (k == .local || k == .cell) && !ps.contains x then some x else none), b, sc⟩
noncomputable def fnSt (f : Str) : Stmt → Option Fn
  | .FunctionDef n a b [] _ _ sc _ _ _ => if n = f then some (mkFn a b sc) else none
  | _ => none
noncomputable def fnOf (p : Program) (f : Str) : Option Fn := p.main.body.findSome? (fnSt f)
noncomputable def recSt : Stmt → Option DefRec
  | .FunctionDef n a b [] _ _ sc _ _ pos => some ⟨n, a, b, sc, pos⟩
  | _ => none
noncomputable def recs (p : Program) : List DefRec := p.main.body.filterMap recSt
noncomputable def defChk (d : DefRec) : Bool := fnChk (mkFn d.params d.body d.scope) && d.name != ("__debug__" : Str) && d.params.posonlyargs.isEmpty && d.params.vararg.isNone && d.params.kwonlyargs.isEmpty && d.params.kwarg.isNone

/-- the block at a path: the statement's number, then body (0) or orelse (1) -/
noncomputable def subB : Stmt → Nat → List Stmt
  | .If _ b _ _, 0 => b
  | .If _ _ o _, _ => o
  | .For _ _ b _ _, _ => b
  | .While _ b _ _, _ => b
  | _, _ => []
noncomputable def bAt : List Stmt → List (Nat × Nat) → List Stmt
  | b, [] => b
  | b, (i, k) :: r => match b[i]? with
    | some s => bAt (subB s k) r
    | none => []

noncomputable def eachM : List (M AV) → M (List AV)
  | [] => pure []
  | m :: r => do
    let v ← m
    let vs ← eachM r
    pure (v :: vs)
noncomputable def fnD (P : Pg) (f : Str) : Fn := (P.fn f).getD ⟨[], [], [], default⟩
/-- what is left of a block of f, from its i-th statement on, with fuel n -/
noncomputable def tl (P : Pg) (cf : Str → List AV → M AV) (f : Str) (path : List (Nat × Nat)) (i n : Nat) (σ : Loc) : M Res := denB P cf (fnD P f).scope (fnD P f).names n ((bAt (fnD P f).body path).drop i) σ
/-- a turn of the for that stands at path, i -/
noncomputable def forB (P : Pg) (cf : Str → List AV → M AV) (f : Str) (path : List (Nat × Nat)) (i n : Nat) (v : AV) (σ : Loc) : M Res := match (bAt (fnD P f).body path)[i]? with
  | some (.For t _ b _ _) => do
    let σ' ← assignTo (fun σ e => den P cf n (fnD P f).scope (fnD P f).names σ e) (fnD P f).scope (fnD P f).names v σ t
    denB P cf (fnD P f).scope (fnD P f).names n b σ'
  | _ => stuck
theorem b_some {α β : Type} {m : M α} {f : α → M β} {H H1 : AHeap} {a : α} (h1 : m H = some (a, H1)) : (m >>= f) H = f a H1 := by
  show (m H).bind _ = _
  rw [h1]; rfl

theorem callR {P : Pg} {n : Nat} {f : Str} {as : List AV} {σ : Loc} (hf : P.fn f = some (fnD P f)) (hl : as.length = (fnD P f).params.length) (hσ : as.map some ++ List.replicate ((fnD P f).names.length - as.length) none = σ) {a : AV} {H H' : AHeap}
    (h : tl P (callP P n) f [] 0 40 σ H = some (.ret a, H')) : callP P (n + 1) f as H = some (a, H') := by
  unfold callP
  rw [hf]
  simp only [hl, if_true]
  rw [hl] at hσ
  rw [hσ]
  exact b_some h
theorem callN {P : Pg} {n : Nat} {f : Str} {as : List AV} {σ : Loc} (hf : P.fn f = some (fnD P f)) (hl : as.length = (fnD P f).params.length) (hσ : as.map some ++ List.replicate ((fnD P f).names.length - as.length) none = σ) {σ' : Loc} {H H' : AHeap}
    (h : tl P (callP P n) f [] 0 40 σ H = some (.next σ', H')) : callP P (n + 1) f as H = some (.none, H') := by
  unfold callP
  rw [hf]
  simp only [hl, if_true]
  rw [hl] at hσ
  rw [hσ]
  exact b_some h

theorem callQ {P : Pg} {n : Nat} {f : Str} {as : List AV} {σ : Loc} (hf : P.fn f = some (fnD P f)) (hl : as.length = (fnD P f).params.length) (hσ : as.map some ++ List.replicate ((fnD P f).names.length - as.length) none = σ) {a : AV}
    (h : tl P (callP P n) f [] 0 40 σ = pure (.ret a)) : callP P (n + 1) f as = pure a := by
  funext H
  exact callR hf hl hσ (by rw [h]; rfl)

theorem e_each0 : eachM [] = pure [] := rfl
theorem e_eachp {a : AV} {r : List (M AV)} : eachM (pure a :: r) = (do let vs ← eachM r; pure (a :: vs)) := rfl
theorem e_go_next {m : Loc → M Res} {σ : Loc} : goOn m (.next σ) = m σ := rfl
theorem e_go_ret {m : Loc → M Res} {a : AV} : goOn m (.ret a) = pure (.ret a) := rfl
theorem e_truth {b : Bool} : truth (.bool b) = pure b := rfl
theorem e_lt {i j : Int} : pCmp .Lt (.int i) (.int j) = pure (decide (i < j)) := rfl
theorem e_le {i j : Int} : pCmp .LtE (.int i) (.int j) = pure (decide (i ≤ j)) := rfl
theorem e_gt {i j : Int} : pCmp .Gt (.int i) (.int j) = pure (decide (j < i)) := rfl
theorem e_eqi {i j : Int} : pCmp .Eq (.int i) (.int j) = pure (decide (i = j)) := by
  funext H
  show some ((i == j), H) = some (decide (i = j), H)
  have : (i == j) = decide (i = j) := by by_cases h : i = j <;> simp [h]
  rw [this]
theorem e_len_lst {mu : Bool} {xs : List AV} : pBI mu .len [.lst xs] = pure (.int xs.length) := rfl
theorem e_len_tup {mu : Bool} {xs : List AV} : pBI mu .len [.tup xs] = pure (.int xs.length) := rfl
theorem e_item_lst {xs : List AV} {k : Nat} {a : AV} (h : xs[k]? = some a) : pItem (.lst xs) (.int k) = pure a := by
  have hk : k < xs.length := (List.getElem?_eq_some_iff.mp h).1
  have hi : idx (k : Int) xs.length = some k := by
    unfold idx
    rw [if_pos (by omega), if_pos (by omega)]; simp
  funext H
  show (ofOpt ((idx (k : Int) xs.length).bind fun j => xs[j]?) : M AV) H = _
  rw [hi]
  show (ofOpt xs[k]? : M AV) H = _
  rw [h]; rfl
theorem e_item_tup {xs : List AV} {k : Nat} {a : AV} (h : xs[k]? = some a) : pItem (.tup xs) (.int k) = pure a := by
  have hk : k < xs.length := (List.getElem?_eq_some_iff.mp h).1
  have hi : idx (k : Int) xs.length = some k := by
    unfold idx
    rw [if_pos (by omega), if_pos (by omega)]; simp
  funext H
  show (ofOpt ((idx (k : Int) xs.length).bind fun j => xs[j]?) : M AV) H = _
  rw [hi]
  show (ofOpt xs[k]? : M AV) H = _
  rw [h]; rfl
theorem e_newL {xs : List AV} (h : xs.length ≤ LIM) : newL false xs = pure (.lst xs) := by
  funext H; unfold newL; rw [if_pos h]; rfl
theorem m_add {mu : Bool} {i j : Int} : pBin mu .Add (.int i) (.int j) = pure (.int (i + j)) := rfl
theorem m_sub {mu : Bool} {i j : Int} : pBin mu .Sub (.int i) (.int j) = pure (.int (i - j)) := rfl
theorem m_mulL {mu : Bool} {i j : Int} (h : i.natAbs < 2 ^ 64) : pBin mu .Mult (.int i) (.int j) = pure (.int (i * j)) := if_pos (.inr h)
theorem m_mulR {mu : Bool} {i j : Int} (h : j.natAbs < 2 ^ 64) : pBin mu .Mult (.int i) (.int j) = pure (.int (i * j)) := if_pos (.inl h)
theorem m_mod {mu : Bool} {i j : Int} (h : j ≠ 0) : pBin mu .Mod (.int i) (.int j) = pure (.int (i.fmod j)) := if_neg h
theorem m_div {mu : Bool} {i j : Int} (h : j ≠ 0 ∧ j.natAbs < 1073741824) : pBin mu .FloorDiv (.int i) (.int j) = pure (.int (i.fdiv j)) := if_neg (by omega)
theorem fmod_lt (a : Int) {b : Int} (h : 0 < b) : 0 ≤ a.fmod b ∧ a.fmod b < b := ⟨Int.fmod_nonneg_of_pos a h, Int.fmod_lt_of_pos a h⟩
end Mine


set_option autoImplicit false
set_option linter.unusedVariables false
namespace Mine
open PySem PyProof.Rows

/-- the fixed part of a run: program, world, the heap ahead of the law's call -/
structure Cx where
  prog : Program
  w : World
  h₀ : Heap
  os₀ : OsState
  mg : Str → Option Value
  mb : Str → Option Value
  /-- lists that are being made: no value speaks of them yet -/
  hid : List Addr

mutual
inductive VR (cx : Cx) (ι : List Addr) (h : Heap) : AV → Value → Prop
  | none : VR cx ι h .none .none
  | bool (b : Bool) : VR cx ι h (.bool b) (.bool b)
  | int (i : Int) (t : Tok) : VR cx ι h (.int i) (.int i t)
  | str (x : Str) (t : Tok) : VR cx ι h (.str x) (.str x t)
  | tup {a : Addr} {vs : Array Value} {n : Nat} {xs : List AV} : IsT h a vs n → a ∉ ι → xs.length ≤ LIM → VRs cx ι h xs vs.toList → VR cx ι h (.tup xs) (.ref a)
  | lst {a : Addr} {vs : Array Value} {n : Nat} {xs : List AV} : IsL h a vs n → (a ∉ ι ∧ a ∉ cx.hid) → xs.length ≤ LIM → VRs cx ι h xs vs.toList → VR cx ι h (.lst xs) (.ref a)
  | loc {l : Nat} {a : Addr} : ι[l]? = some a → VR cx ι h (.loc l) (.ref a)
  | range {r : Addr} {a b : Int} {t u v : Tok} : IsRange h r a b 1 t u v → r ∉ ι → VR cx ι h (.range a b) (.ref r)
  | cdict {d : Addr} {kvs : List (Str × Value)} {es : List (Str × AV)} : h.DictOf (strKind cx.prog cx.w) d kvs → d ∉ ι → kvs.map (·.1) = es.map (·.1) → ((d == sysModules) = false ∧ ∃ o, cx.h₀.get? d = some o) →
      VRs cx ι h (es.map (·.2)) (kvs.map (·.2)) → VR cx ι h (.cdict es) (.ref d)
inductive VRs (cx : Cx) (ι : List Addr) (h : Heap) : List AV → List Value → Prop
  | nil : VRs cx ι h [] []
  | cons {a : AV} {v : Value} {xs : List AV} {vs : List Value} : VR cx ι h a v → VRs cx ι h xs vs → VRs cx ι h (a :: xs) (v :: vs)
end

/-- a mutable object of the abstract heap, at its address -/
noncomputable def OR (cx : Cx) (ι : List Addr) (h : Heap) (a : Addr) : AO → Prop
  | .list xs => ∃ vs n, IsL h a vs n ∧ xs.length ≤ LIM ∧ VRs cx ι h xs vs.toList
  | .dict es => ∃ kvs, h.DictOf (strKind cx.prog cx.w) a kvs ∧ ((a == sysModules) = false ∧ es.length ≤ LIM) ∧ kvs.map (·.1) = es.map (·.1) ∧ VRs cx ι h (es.map (·.2)) (kvs.map (·.2))

/-- how a step may turn the heap: the addresses of ι may change, all else is kept; new mutable ones are fresh -/
structure Ext (ι ι' : List Addr) (h h' : Heap) : Prop where
  pre : ι <+: ι'
  news : ∀ a ∈ ι', a ∉ ι → h.get? a = none
  keep : ∀ b o, h.get? b = some o → b ∉ ι → h'.get? b = some o

structure St (cx : Cx) (ι : List Addr) (H : AHeap) (s : Shared) : Prop where
  base : ∀ b o, cx.h₀.get? b = some o → s.heap.get? b = some o
  len : ι.length = H.length
  nodup : ι.Nodup
  fresh : ∀ a ∈ ι, cx.h₀.get? a = none
  own : ∀ (l : Nat) (a : Addr) (o : AO), ι[l]? = some a → H[l]? = some o → OR cx ι s.heap a o
  gens : s.gens = #[]
  os : s.os = cx.os₀
  sysm : ∃ o, cx.h₀.get? cStatics = some o
  hid : ∀ a ∈ cx.hid, a ∉ ι ∧ cx.h₀.get? a = none ∧ ∃ vs n, IsL s.heap a vs n

theorem DictOf.at' {cx : Cx} {h h' : Heap} {d : Addr} {kvs : List (Str × Value)} (x : h.DictOf (strKind cx.prog cx.w) d kvs) (e : ∀ o, h.get? d = some o → h'.get? d = some o) :
    h'.DictOf (strKind cx.prog cx.w) d kvs := let ⟨o, es, ep, ho, r⟩ := x; ⟨o, es, ep, e o ho, r⟩
theorem DictOf.lt {cx : Cx} {h : Heap} {d : Addr} {kvs : List (Str × Value)} (x : h.DictOf (strKind cx.prog cx.w) d kvs) : d < h.objs.size := let ⟨_, _, _, ho, _⟩ := x; Heap.lt_size ho

theorem Ext.refl (ι : List Addr) (h : Heap) : Ext ι ι h h := ⟨List.prefix_refl _, fun _ a b => absurd a b, fun _ _ e _ => e⟩
theorem Ext.notin {ι ι' : List Addr} {h h' : Heap} (x : Ext ι ι' h h') {b : Addr} {o : Obj} (hb : h.get? b = some o) (hn : b ∉ ι) : b ∉ ι' := fun hm => by rw [x.news b hm hn] at hb; cases hb
theorem Ext.trans {ι ι' ι'' : List Addr} {h h' h'' : Heap} (x : Ext ι ι' h h') (y : Ext ι' ι'' h' h'') : Ext ι ι'' h h'' where
  pre := x.pre.trans y.pre
  news := fun a ha hn => by
    by_cases h1 : a ∈ ι'
    · exact x.news a h1 hn
    · cases e : h.get? a with
      | none => rfl
      | some o => have := y.news a ha h1; rw [x.keep a o e hn] at this; cases this
  keep := fun b o e hn => y.keep b o (x.keep b o e hn) (x.notin e hn)

theorem prefix_get {α : Type} {l l' : List α} (h : l <+: l') {i : Nat} {a : α} (e : l[i]? = some a) : l'[i]? = some a := by
  obtain ⟨t, rfl⟩ := h
  rw [List.getElem?_append_left (by rw [List.getElem?_eq_some_iff] at e; exact e.1)]; exact e

/-- a turn under which the values' relation stands -/
structure Tn (cx cx' : Cx) (ι ι' : List Addr) (h h' : Heap) : Prop where
  same : cx'.prog = cx.prog ∧ cx'.w = cx.w ∧ cx'.h₀ = cx.h₀
  tup : ∀ a vs n, IsT h a vs n → a ∉ ι → IsT h' a vs n ∧ a ∉ ι'
  lst : ∀ a vs n, IsL h a vs n → (a ∉ ι ∧ a ∉ cx.hid) → IsL h' a vs n ∧ (a ∉ ι' ∧ a ∉ cx'.hid)
  loc : ∀ (l : Nat) a, ι[l]? = some a → ι'[l]? = some a
  range : ∀ r a b t u v, IsRange h r a b 1 t u v → r ∉ ι → IsRange h' r a b 1 t u v ∧ r ∉ ι'
  dict : ∀ d o, h.get? d = some o → d ∉ ι → (∃ o, cx.h₀.get? d = some o) → h'.get? d = some o ∧ d ∉ ι'
mutual
theorem VR.gen {cx cx' : Cx} {ι ι' : List Addr} {h h' : Heap} (x : Tn cx cx' ι ι' h h') : ∀ {a : AV} {v : Value}, VR cx ι h a v → VR cx' ι' h' a v
  | _, _, .none => .none
  | _, _, .bool b => .bool b
  | _, _, .int i t => .int i t
  | _, _, .str s t => .str s t
  | _, _, .tup ht hn hz hs => .tup (x.tup _ _ _ ht hn).1 (x.tup _ _ _ ht hn).2 hz (VRs.gen x hs)
  | _, _, .lst ht hn hz hs => .lst (x.lst _ _ _ ht hn).1 (x.lst _ _ _ ht hn).2 hz (VRs.gen x hs)
  | _, _, .loc hl => .loc (x.loc _ _ hl)
  | _, _, .range hr hn => .range (x.range _ _ _ _ _ _ hr hn).1 (x.range _ _ _ _ _ _ hr hn).2
  | _, _, .cdict hd hn hk hsm hs => .cdict (by rw [x.same.1, x.same.2.1]; exact DictOf.at' hd fun o e => (x.dict _ o e hn hsm.2).1) (let ⟨_, _, _, ho, _⟩ := hd; (x.dict _ _ ho hn hsm.2).2) hk (by rw [x.same.2.2]; exact hsm) (VRs.gen x hs)
theorem VRs.gen {cx cx' : Cx} {ι ι' : List Addr} {h h' : Heap} (x : Tn cx cx' ι ι' h h') : ∀ {xs : List AV} {vs : List Value}, VRs cx ι h xs vs → VRs cx' ι' h' xs vs
  | _, _, .nil => .nil
  | _, _, .cons a as => .cons (VR.gen x a) (VRs.gen x as)
end
theorem Ext.tn {cx : Cx} {ι ι' : List Addr} {h h' : Heap} (x : Ext ι ι' h h') : Tn cx cx ι ι' h h' where
  same := ⟨rfl, rfl, rfl⟩
  tup := fun _ _ _ ht hn => ⟨x.keep _ _ ht hn, x.notin ht hn⟩
  lst := fun _ _ _ ht hn => ⟨x.keep _ _ ht hn.1, x.notin ht hn.1, hn.2⟩
  loc := fun _ _ hl => prefix_get x.pre hl
  range := fun _ _ _ _ _ _ hr hn => ⟨x.keep _ _ hr hn, x.notin hr hn⟩
  dict := fun _ _ ho hn _ => ⟨x.keep _ _ ho hn, x.notin ho hn⟩
theorem VR.mono {cx : Cx} {ι ι' : List Addr} {h h' : Heap} (x : Ext ι ι' h h') {a : AV} {v : Value} (r : VR cx ι h a v) : VR cx ι' h' a v := r.gen x.tn
theorem VRs.mono {cx : Cx} {ι ι' : List Addr} {h h' : Heap} (x : Ext ι ι' h h') {xs : List AV} {vs : List Value} (r : VRs cx ι h xs vs) : VRs cx ι' h' xs vs := r.gen x.tn

namespace VRs
variable {cx : Cx} {ι : List Addr} {h : Heap}
theorem length : ∀ {xs : List AV} {vs : List Value}, VRs cx ι h xs vs → xs.length = vs.length
  | _, _, .nil => rfl
  | _, _, .cons _ r => by rw [List.length_cons, List.length_cons, r.length]
theorem get : ∀ {xs : List AV} {vs : List Value}, VRs cx ι h xs vs → ∀ {i : Nat} {a : AV}, xs[i]? = some a → ∃ v, vs[i]? = some v ∧ VR cx ι h a v
  | _, _, .nil, i, a, e => by simp at e
  | _, _, .cons x r, 0, a, e => by simp at e; subst e; exact ⟨_, rfl, x⟩
  | _, _, .cons x r, i + 1, a, e => by simp at e; simpa using r.get e
theorem append : ∀ {xs ys : List AV} {vs ws : List Value}, VRs cx ι h xs vs → VRs cx ι h ys ws → VRs cx ι h (xs ++ ys) (vs ++ ws)
  | _, _, _, _, .nil, y => y
  | _, _, _, _, .cons x r, y => .cons x (r.append y)
theorem drop : ∀ {xs : List AV} {vs : List Value} (n : Nat), VRs cx ι h xs vs → VRs cx ι h (xs.drop n) (vs.drop n)
  | _, _, 0, x => x
  | _, _, _ + 1, .nil => .nil
  | _, _, n + 1, .cons _ r => r.drop n
theorem take : ∀ {xs : List AV} {vs : List Value} (n : Nat), VRs cx ι h xs vs → VRs cx ι h (xs.take n) (vs.take n)
  | _, _, 0, _ => .nil
  | _, _, _ + 1, .nil => .nil
  | _, _, n + 1, .cons x r => .cons x (r.take n)
theorem set : ∀ {xs : List AV} {vs : List Value} (n : Nat) {a : AV} {v : Value}, VRs cx ι h xs vs → VR cx ι h a v → VRs cx ι h (xs.set n a) (vs.set n v)
  | _, _, _, _, _, .nil, _ => .nil
  | _, _, 0, _, _, .cons _ r, y => .cons y r
  | _, _, n + 1, _, _, .cons x r, y => .cons x (r.set n y)
theorem eraseIdx : ∀ {xs : List AV} {vs : List Value} (n : Nat), VRs cx ι h xs vs → VRs cx ι h (xs.eraseIdx n) (vs.eraseIdx n)
  | _, _, _, .nil => .nil
  | _, _, 0, .cons _ r => r
  | _, _, n + 1, .cons x r => .cons x (r.eraseIdx n)
theorem reverse {xs : List AV} {vs : List Value} (x : VRs cx ι h xs vs) : VRs cx ι h xs.reverse vs.reverse := by
  induction xs generalizing vs with
  | nil => cases x; exact .nil
  | cons a xs ih => cases x with | cons y r => rw [List.reverse_cons, List.reverse_cons]; exact (ih r).append (.cons y .nil)
theorem one {a : AV} {v : Value} (x : VR cx ι h a v) : VRs cx ι h [a] [v] := .cons x .nil
end VRs

/-- OR is kept where only other addresses turn -/
theorem OR.keep {cx : Cx} {ι ι' : List Addr} {h h' : Heap} (x : Ext ι ι' h h') {a : Addr} {o : AO} (e : ∀ q, h.get? a = some q → h'.get? a = some q) (r : OR cx ι h a o) : OR cx ι' h' a o := by
  cases o with
  | list xs => obtain ⟨vs, n, hl, hz, hs⟩ := r; exact ⟨vs, n, e _ hl, hz, hs.mono x⟩
  | dict es => obtain ⟨kvs, hd, h1, h2, hs⟩ := r; exact ⟨kvs, DictOf.at' hd e, h1, h2, hs.mono x⟩
theorem OR.lt {cx : Cx} {ι : List Addr} {h : Heap} {a : Addr} {o : AO} (r : OR cx ι h a o) : a < h.objs.size := by
  cases o with
  | list xs => obtain ⟨vs, n, hl, hs⟩ := r; exact Heap.lt_size hl
  | dict es => obtain ⟨kvs, hd, _⟩ := r; exact DictOf.lt hd

namespace St
variable {cx : Cx} {ι : List Addr} {H : AHeap} {s : Shared}
theorem lt (S : St cx ι H s) {a : Addr} (ha : a ∈ ι) : a < s.heap.objs.size := by
  obtain ⟨l, hl, e⟩ := List.mem_iff_getElem.mp ha
  have hl' : l < H.length := S.len ▸ hl
  exact (S.own l a H[l] (by rw [List.getElem?_eq_getElem hl, e]) (List.getElem?_eq_getElem hl')).lt
theorem tok (S : St cx ι H s) (t : Nat) : St cx ι H { s with toks := t } := ⟨S.base, S.len, S.nodup, S.fresh, S.own, S.gens, S.os, S.sysm, S.hid⟩
/-- a heap in which every old object stays -/
theorem keeps (S : St cx ι H s) {h' : Heap} {t : Nat} (hk : ∀ b o, s.heap.get? b = some o → h'.get? b = some o) : St cx ι H { s with heap := h', toks := t } where
  base := fun b o e => hk b o (S.base b o e)
  len := S.len
  nodup := S.nodup
  fresh := S.fresh
  own := fun l a o e1 e2 => (S.own l a o e1 e2).keep ⟨List.prefix_refl _, fun _ a b => absurd a b, fun b o e _ => hk b o e⟩ (hk a)
  gens := S.gens
  os := S.os
  sysm := S.sysm
  hid := fun a ha => let ⟨h1, h2, vs, n, h3⟩ := S.hid a ha; ⟨h1, h2, vs, n, hk _ _ h3⟩
theorem push (S : St cx ι H s) (o : Obj) : St cx ι H { s with heap := s.heap.push o } := S.keeps (t := s.toks) (fun _ _ e => Heap.get?_push_of_some _ e)
end St

/-- the step that keeps every old object -/
theorem Ext.keeps {ι : List Addr} {h h' : Heap} (hk : ∀ b o, h.get? b = some o → h'.get? b = some o) : Ext ι ι h h' :=
  ⟨List.prefix_refl _, fun _ a b => absurd a b, fun b o e _ => hk b o e⟩
theorem Ext.push {ι : List Addr} {h : Heap} (o : Obj) : Ext ι ι h (h.push o) := Ext.keeps (fun _ _ e => Heap.get?_push_of_some _ e)

end Mine


set_option autoImplicit false
set_option linter.unusedVariables false
namespace Mine
open PySem PyProof.Rows

def PostV (cx : Cx) (ι : List Addr) (h : Heap) (a : AV) (H' : AHeap) : Value → Shared → Prop :=
  fun v s' => ∃ ι', Ext ι ι' h s'.heap ∧ St cx ι' H' s' ∧ VR cx ι' s'.heap a v
abbrev noE : Value → Shared → Prop := fun _ _ => False

theorem PostV.trans {cx : Cx} {ι ι₁ : List Addr} {h h₁ : Heap} {a : AV} {H' : AHeap} {v : Value} {s' : Shared} (x : Ext ι ι₁ h h₁) (p : PostV cx ι₁ h₁ a H' v s') : PostV cx ι h a H' v s' := by
  obtain ⟨ι', e, r⟩ := p; exact ⟨ι', x.trans e, r⟩
/-- the state stands, the value is by itself -/
theorem PostV.same {cx : Cx} {ι : List Addr} {H : AHeap} {s : Shared} {a : AV} {v : Value} (S : St cx ι H s) (t : Nat) (r : VR cx ι s.heap a v) : PostV cx ι s.heap a H v { s with toks := t } := ⟨ι, Ext.refl _ _, S.tok t, r⟩
theorem PostV.here {cx : Cx} {ι : List Addr} {H : AHeap} {s : Shared} {a : AV} {v : Value} (S : St cx ι H s) (r : VR cx ι s.heap a v) : PostV cx ι s.heap a H v s := ⟨ι, Ext.refl _ _, S, r⟩

theorem bind_some {α β : Type} {m : M α} {f : α → M β} {H : AHeap} {b : β} {H'' : AHeap} (h : (m >>= f) H = some (b, H'')) : ∃ a H', m H = some (a, H') ∧ f a H' = some (b, H'') := by
  change (m H).bind (fun x => f x.1 x.2) = some (b, H'') at h
  cases hm : m H with
  | none => rw [hm] at h; cases h
  | some x => rw [hm] at h; exact ⟨x.1, x.2, rfl, h⟩
theorem pure_some {α : Type} {a b : α} {H H' : AHeap} (h : (pure a : M α) H = some (b, H')) : b = a ∧ H' = H := by
  change some (a, H) = some (b, H') at h; cases h; exact ⟨rfl, rfl⟩
theorem stuck_some {α : Type} {H : AHeap} {r : α × AHeap} (h : (stuck : M α) H = some r) : False := by cases h
theorem ofOpt_some {α : Type} {o : Option α} {a : α} {H H' : AHeap} (h : ofOpt o H = some (a, H')) : o = some a ∧ H' = H := by
  cases o with
  | none => cases h
  | some b => obtain ⟨rfl, rfl⟩ := pure_some h; exact ⟨rfl, rfl⟩

section
variable {cx : Cx} {A : Around} {ι : List Addr} {H H' : AHeap} {s : Shared}

theorem fresh_notin (S : St cx ι H s) : s.heap.objs.size ∉ ι := fun h => Nat.lt_irrefl _ (S.lt h)
theorem get_size (h : Heap) : h.get? h.objs.size = none := by
  cases e : h.get? h.objs.size with
  | none => rfl
  | some o => exact absurd (Heap.lt_size e) (Nat.lt_irrefl _)
theorem St.notin (S : St cx ι H s) {a : Addr} (ha : s.heap.get? a = none) : a ∉ ι := fun hm => by
  obtain ⟨l, hl, e⟩ := List.mem_iff_getElem.mp hm
  have hl' : l < H.length := S.len ▸ hl
  have r := S.own l a H[l] (by rw [List.getElem?_eq_getElem hl, e]) (List.getElem?_eq_getElem hl')
  cases ho : H[l] with
  | list xs => rw [ho] at r; obtain ⟨_, _, q, _⟩ := r; rw [q] at ha; cases ha
  | dict es => rw [ho] at r; obtain ⟨_, ⟨_, _, _, q, _⟩, _⟩ := r; rw [q] at ha; cases ha
theorem St.not_sys (S : St cx ι H s) (_ : s.heap.get? s.heap.objs.size = none) : (s.heap.objs.size == sysModules) = false := by
  obtain ⟨o, e⟩ := S.sysm
  have h1 := Heap.lt_size (S.base _ _ e)
  have h2 : sysModules < s.heap.objs.size := Nat.lt_trans (by decide) h1
  exact beq_eq_false_iff_ne.mpr (Nat.ne_of_gt h2)
theorem St.nothid (S : St cx ι H s) {a : Addr} (ha : s.heap.get? a = none) : a ∉ cx.hid := fun hm => by
  obtain ⟨_, _, vs, n, h3⟩ := S.hid a hm
  rw [h3] at ha; cases ha
theorem St.base_none (S : St cx ι H s) {a : Addr} (ha : s.heap.get? a = none) : cx.h₀.get? a = none := by
  cases e : cx.h₀.get? a with
  | none => rfl
  | some o => rw [S.base a o e] at ha; cases ha

/-- a fresh object onto the abstract heap -/
theorem St.alloc (S : St cx ι H s) {h' : Heap} {t : Nat} {a : Addr} {o : AO} (hk : ∀ b q, s.heap.get? b = some q → h'.get? b = some q)
    (ha : s.heap.get? a = none) (r : Ext ι (ι ++ [a]) s.heap h' → OR cx (ι ++ [a]) h' a o) : Ext ι (ι ++ [a]) s.heap h' ∧ St cx (ι ++ [a]) (H ++ [o]) { s with heap := h', toks := t } := by
  have hna : a ∉ ι := S.notin ha
  have e1 : Ext ι (ι ++ [a]) s.heap h' := ⟨List.prefix_append _ _, fun b hb hn => by
      rcases List.mem_append.mp hb with h1 | h1
      · exact absurd h1 hn
      · rw [List.mem_singleton.mp h1]; exact ha, fun b q e _ => hk b q e⟩
  refine ⟨e1, ⟨fun b q e => hk b q (S.base b q e), by simp [S.len], ?_, ?_, ?_, S.gens, S.os, S.sysm, ?_⟩⟩
  · rw [List.nodup_append]
    exact ⟨S.nodup, by simp, fun x hx y hy => by rw [List.mem_singleton.mp hy]; exact fun e => hna (e ▸ hx)⟩
  · intro b hb
    rcases List.mem_append.mp hb with h1 | h1
    · exact S.fresh b h1
    · rw [List.mem_singleton.mp h1]; exact S.base_none ha
  · intro l b q e1' e2
    by_cases hl : l < ι.length
    · rw [List.getElem?_append_left hl] at e1'
      rw [List.getElem?_append_left (S.len ▸ hl)] at e2
      exact (S.own l b q e1' e2).keep e1 (hk b)
    · rw [List.getElem?_append_right (by omega)] at e1'
      rw [List.getElem?_append_right (by rw [← S.len]; omega), ← S.len] at e2
      have hl0 : l - ι.length = 0 := by
        rcases Nat.eq_zero_or_pos (l - ι.length) with h0 | h0
        · exact h0
        · rw [List.getElem?_eq_none (by simp; omega)] at e1'; cases e1'
      rw [hl0] at e1' e2
      simp at e1' e2
      subst e1'; subst e2
      exact r e1
  · intro b hb
    obtain ⟨h1, h2, vs, n, h3⟩ := S.hid b hb
    refine ⟨fun hm => ?_, h2, vs, n, hk _ _ h3⟩
    rcases List.mem_append.mp hm with hm | hm
    · exact h1 hm
    · have hba := List.mem_singleton.mp hm; subst hba; have h4 : s.heap.get? b = some _ := h3; rw [ha] at h4; cases h4

/-- one mutable object is turned, all else stays -/
theorem St.turn (S : St cx ι H s) {l : Nat} {a : Addr} {h' : Heap} {t : Nat} {o : AO} (hl : ι[l]? = some a) (hk : ∀ b q, b ≠ a → s.heap.get? b = some q → h'.get? b = some q)
    (r : Ext ι ι s.heap h' → OR cx ι h' a o) : Ext ι ι s.heap h' ∧ St cx ι (H.set l o) { s with heap := h', toks := t } := by
  have hm : a ∈ ι := List.mem_of_getElem? hl
  have e1 : Ext ι ι s.heap h' := ⟨List.prefix_refl _, fun _ x y => absurd x y, fun b q e hn => hk b q (fun z => hn (z ▸ hm)) e⟩
  refine ⟨e1, ⟨fun b q e => hk b q (fun z => ?_) (S.base b q e), by simp [S.len], S.nodup, S.fresh, ?_, S.gens, S.os, S.sysm, fun b hb => let ⟨h1, h2, vs, n, h3⟩ := S.hid b hb; ⟨h1, h2, vs, n, hk b _ (fun z => h1 (z ▸ hm)) h3⟩⟩⟩
  · subst z; rw [S.fresh _ hm] at e; cases e
  · intro l' b q e1' e2
    rw [List.getElem?_set] at e2
    by_cases hll : l = l'
    · subst hll
      rw [hl] at e1'; cases e1'
      simp only [if_true] at e2
      split at e2
      · cases e2; exact r e1
      · cases e2
    · rw [if_neg hll] at e2
      have hba : b ≠ a := fun z => hll (by
        subst z
        have h1 : l < ι.length := (List.getElem?_eq_some_iff.mp hl).1
        have h2 : l' < ι.length := (List.getElem?_eq_some_iff.mp e1').1
        have q1 : ι[l] = b := (List.getElem?_eq_some_iff.mp hl).2
        have q2 : ι[l'] = b := (List.getElem?_eq_some_iff.mp e1').2
        exact (List.getElem_inj S.nodup).mp (q1.trans q2.symm))
      exact (S.own l' b q e1' e2).keep e1 (fun q' e => hk b q' hba e)

theorem VRs.size {xs : List AV} {vs : Array Value} {h : Heap} (x : VRs cx ι h xs vs.toList) : vs.size = xs.length := by rw [x.length]; simp

/-- a list that is made new, frozen or on the abstract heap -/
theorem newL_post (S : St cx ι H s) {mu : Bool} {xs : List AV} {vs : Array Value} {a : AV} {h' : Heap} {t : Nat} {d : Addr} {n : Nat} (he : newL mu xs H = some (a, H'))
    (hk : ∀ b q, s.heap.get? b = some q → h'.get? b = some q) (hd : s.heap.get? d = none) (hL : IsL h' d vs n) (r : VRs cx ι s.heap xs vs.toList) :
    PostV cx ι s.heap a H' (.ref d) { s with heap := h', toks := t } := by
  unfold newL at he
  split at he
  · cases mu with
    | true =>
      simp only [Option.some.injEq, Prod.mk.injEq] at he
      obtain ⟨rfl, rfl⟩ := he
      obtain ⟨e1, S1⟩ := S.alloc (t := t) hk hd (o := .list xs) (fun e1 => ⟨vs, n, hL, by assumption, r.mono e1⟩)
      exact ⟨_, e1, S1, .loc (by rw [List.getElem?_append_right (by rw [S.len]; exact Nat.le_refl _)]; simp [S.len])⟩
    | false =>
      simp only [Option.some.injEq, Prod.mk.injEq] at he
      obtain ⟨rfl, rfl⟩ := he
      have e1 : Ext ι ι s.heap h' := Ext.keeps hk
      exact ⟨ι, e1, S.keeps hk, .lst hL ⟨S.notin hd, S.nothid hd⟩ (by assumption) (r.mono e1)⟩
  · cases he
theorem newL_len {mu : Bool} {xs : List AV} {a : AV} (he : newL mu xs H = some (a, H')) : xs.length ≤ LIM := by
  unfold newL at he
  split at he
  · assumption
  · cases he
theorem LIM_le : LIM ≤ sizeLine := by decide
theorem sizeLine_is : sizeLine = 16777216 := by decide
theorem LIM_is : LIM = 1048576 := by decide

theorem newList_sound {mu : Bool} {xs : List AV} {vs : List Value} {a : AV} {E : Value → Shared → Prop} (S : St cx ι H s) (he : newL mu xs H = some (a, H')) (r : VRs cx ι s.heap xs vs) :
    wpAny (model cx.prog cx.w) A (newList vs) (PostV cx ι s.heap a H') E s := by
  have hl := newL_len he
  refine wpAny_newObj_type (newL_post S he (t := s.toks) (fun b q e => Heap.get?_push_of_some _ e) (get_size _) (IsL.new _ _) (by simpa using r)) ?_
  show vs.toArray.size ≤ sizeLine
  have := r.length; have := LIM_le
  simp only [List.size_toArray]; omega
theorem newTuple_sound {xs : List AV} {vs : List Value} {E : Value → Shared → Prop} (S : St cx ι H s) (hl : xs.length ≤ LIM) (r : VRs cx ι s.heap xs vs) :
    wpAny (model cx.prog cx.w) A (newTuple vs) (PostV cx ι s.heap (.tup xs) H) E s := by
  refine wpAny_newObj_type ⟨ι, Ext.push _, S.push _, .tup (IsT.new _ _) (fresh_notin S) hl (by simpa using r.mono (Ext.push _))⟩ ?_
  show vs.toArray.size ≤ sizeLine
  have := r.length; have := LIM_le
  simp only [List.size_toArray]; omega

/-- what listOf, seqOf read -/
theorem listOf_sound (S : St cx ι H s) {a : AV} {v : Value} {xs : List AV} (h : listOf a H = some (xs, H')) (r : VR cx ι s.heap a v) : H' = H ∧ ∃ l vs n, v = .ref l ∧ IsL s.heap l vs n ∧ xs.length ≤ LIM ∧ VRs cx ι s.heap xs vs.toList := by
  cases r with
  | lst hl hn hz hs => simp only [listOf, Option.some.injEq, Prod.mk.injEq] at h; obtain ⟨rfl, rfl⟩ := h; exact ⟨rfl, _, _, _, rfl, hl, hz, hs⟩
  | loc hl =>
    simp only [listOf] at h
    split at h
    · rename_i ys hH
      cases h
      obtain ⟨vs, n, h1, hz, h2⟩ := S.own _ _ _ hl hH
      exact ⟨rfl, _, vs, n, rfl, h1, hz, h2⟩
    · cases h
  | _ => cases h
inductive IsSeq (h : Heap) (l : Addr) (vs : Array Value) (n : Nat) : Prop
  | list (x : IsL h l vs n)
  | tuple (x : IsT h l vs n)
theorem seqOf_sound (S : St cx ι H s) {a : AV} {v : Value} {xs : List AV} (h : seqOf a H = some (xs, H')) (r : VR cx ι s.heap a v) : H' = H ∧ ∃ l vs n, v = .ref l ∧ IsSeq s.heap l vs n ∧ xs.length ≤ LIM ∧ VRs cx ι s.heap xs vs.toList := by
  cases r with
  | tup hl hn hz hs => simp only [seqOf, Option.some.injEq, Prod.mk.injEq] at h; obtain ⟨rfl, rfl⟩ := h; exact ⟨rfl, _, _, _, rfl, .tuple hl, hz, hs⟩
  | lst hl hn hz hs => simp only [seqOf, Option.some.injEq, Prod.mk.injEq] at h; obtain ⟨rfl, rfl⟩ := h; exact ⟨rfl, _, _, _, rfl, .list hl, hz, hs⟩
  | loc hl =>
    simp only [seqOf] at h
    split at h
    · rename_i ys hH
      cases h
      obtain ⟨vs, n, h1, hz, h2⟩ := S.own _ _ _ hl hH
      exact ⟨rfl, _, vs, n, rfl, .list h1, hz, h2⟩
    · cases h
  | _ => cases h

theorem mul_fits_of {i j : Int} (h : j.natAbs < 2 ^ 64 ∨ i.natAbs < 2 ^ 64) : IntMulOk i j := by
  rcases h with h | h
  · exact .of_right (intBits_le_64 (by omega) (by omega))
  · exact .of_left (intBits_le_64 (by omega) (by omega))

theorem addLists_sound {mu : Bool} {a b c : AV} {v w : Value} {E : Value → Shared → Prop} (S : St cx ι H s) (ra : VR cx ι s.heap a v) (rb : VR cx ι s.heap b w)
    (h : (do let xs ← listOf a; let ys ← listOf b; newL mu (xs ++ ys) : M AV) H = some (c, H')) : wpAny (model cx.prog cx.w) A (binaryOp .Add v w) (PostV cx ι s.heap c H') E s := by
  obtain ⟨xs, H1, h1, h3⟩ := bind_some h
  obtain ⟨ys, H2, h2, h4⟩ := bind_some h3
  obtain ⟨rfl, l, vs, n, rfl, hl, hz, hvs⟩ := listOf_sound S h1 ra
  obtain ⟨rfl, l2, ws, n2, rfl, hl2, hz2, hws⟩ := listOf_sound S h2 rb
  have hlen := newL_len h4
  refine P.add_list hl hl2 (newL_post S h4 (t := s.toks) (fun b q e => Heap.get?_push_of_some _ e) (get_size _) (IsL.new _ _) (by simpa using hvs.append hws)) ?_
  have := hvs.size; have := hws.size; have := LIM_le; rw [List.length_append] at hlen; omega

theorem VRs.rep {xs : List AV} {vs : List Value} {h : Heap} (x : VRs cx ι h xs vs) : ∀ k : Nat, VRs cx ι h (List.replicate k xs).flatten (List.replicate k vs).flatten
  | 0 => .nil
  | k + 1 => by simp only [List.replicate_succ, List.flatten_cons]; exact x.append (VRs.rep x k)

theorem mulList_sound {mu : Bool} {a c : AV} {v : Value} {n : Int} {t : Tok} {E : Value → Shared → Prop} (S : St cx ι H s) (ra : VR cx ι s.heap a v)
    (h : (do let xs ← listOf a; if n < 0 ∨ 1048576 < n ∨ LIM < n.toNat * xs.length then stuck else newL mu (List.replicate n.toNat xs).flatten : M AV) H = some (c, H')) :
    wpAny (model cx.prog cx.w) A (binaryOp .Mult v (.int n t)) (PostV cx ι s.heap c H') E s := by
  obtain ⟨xs, H1, h1, h3⟩ := bind_some h
  obtain ⟨e0, l, vs, k, rfl, hl, hz, hvs⟩ := listOf_sound S h1 ra
  subst e0
  by_cases hc : n < 0 ∨ 1048576 < n ∨ LIM < n.toNat * xs.length
  · rw [if_pos hc] at h3; cases h3
  · rw [if_neg hc] at h3
    have hsz := hvs.size
    have h2 : vs.size * n.toNat ≤ 2 ^ 24 := by
      rw [hsz, Nat.mul_comm]; have := LIM_is; omega
    have hbig : n < 2 ^ 63 := by omega
    · refine wpAny_binaryOp_repeat_ref (T := "list") (U := "int") (by decide) ⟨_, hl, rfl⟩ (fun s' => typeIs_int s' n t) noFill_list_mul F.fills_int_mul F.slot_int_rmul repeat_list F.slot_int_index.lookup
        (call_meets F.slot_int_rmul (typeIs_int s n t) F.entry_int_rmul (F.args_int_rmul_2 _ _) (int___rmul___int_list n t l vs k)
          ⟨hl, rfl, ⟨_, hl, rfl⟩, call_meets F.slot_list_mul ⟨_, hl, rfl⟩ F.entry_list_mul (F.args_list_mul_2 _ _)
            (AutoListH.list___mul___list_int_3 l vs k n t (by simp [Builtin.List.listFitsIndex]; omega) (by omega) (by simp [Builtin.List.listTooLong, sizeLine]; omega))
            ⟨hl, ?_⟩⟩)
      refine newL_post S h3 (t := s.toks) (fun b q e => Heap.get?_push_of_some _ e) (get_size _) (IsL.new _ _) ?_
      rw [listMul_foldl_if]
      simpa using hvs.rep n.toNat

theorem asI_some {v : AV} {i : Int} (h : asI v = some i) : v = .int i := by
  cases v with
  | int j => cases h; rfl
  | _ => exact (nomatch (show (none : Option Int) = some i from h))
theorem int2_some {a b : AV} {f : Int → Int → M AV} {H : AHeap} {r : AV × AHeap} (h : int2 a b f H = some r) : ∃ i j, a = .int i ∧ b = .int j ∧ f i j H = some r := by
  unfold int2 at h
  cases ha : asI a with
  | none => simp only [ha] at h; exact (stuck_some (H := H) h).elim
  | some i =>
    cases hb : asI b with
    | none => simp only [ha, hb] at h; exact (stuck_some (H := H) h).elim
    | some j => simp only [ha, hb] at h; exact ⟨i, j, asI_some ha, asI_some hb, h⟩

theorem pBin_sound {mu : Bool} {op : Operator} {a b c : AV} {v w : Value} {E : Value → Shared → Prop} (S : St cx ι H s) (ra : VR cx ι s.heap a v) (rb : VR cx ι s.heap b w) (h : pBin mu op a b H = some (c, H')) :
    wpAny (model cx.prog cx.w) A (binaryOp op v w) (PostV cx ι s.heap c H') E s := by
  cases op with
  | Add =>
    have h' : bAdd mu a b H = some (c, H') := h
    unfold bAdd at h'
    cases ha : asI a with
    | some i =>
      cases hb : asI b with
      | none => simp only [ha, hb] at h'; exact (stuck_some (H := H) h').elim
      | some j =>
        simp only [ha, hb] at h'
        have e1 := asI_some ha
        have e2 := asI_some hb
        subst e1; subst e2
        cases ra; cases rb; obtain ⟨rfl, rfl⟩ := pure_some h'; exact add_int (PostV.same S _ (.int _ _))
    | none =>
      simp only [ha] at h'
      cases a with
      | tup xs =>
        cases b with
        | tup ys =>
          have h2 : (if xs.isEmpty || ys.isEmpty || decide (LIM < xs.length + ys.length) then stuck else pure (.tup (xs ++ ys)) : M AV) H = some (c, H') := h'
          split at h2
          · exact (stuck_some (H := H) h2).elim
          · rename_i hc
            have hc := Bool.eq_false_iff.mpr hc
            rw [Bool.or_eq_false_iff, Bool.or_eq_false_iff, List.isEmpty_eq_false_iff, List.isEmpty_eq_false_iff, decide_eq_false_iff_not] at hc
            obtain ⟨⟨hx, hy⟩, hlen⟩ := hc
            obtain ⟨rfl, rfl⟩ := pure_some h2
            cases ra with | tup ha hna hza hsa => cases rb with | tup hb hnb hzb hsb =>
            have e1 := hsa.size; have e2 := hsb.size
            have x1 := List.length_pos_iff.mpr hx
            have x2 := List.length_pos_iff.mpr hy
            refine P.add_tuple ha hb (by intro z; rw [Array.isEmpty_iff_size_eq_zero] at z; omega) (by intro z; rw [Array.isEmpty_iff_size_eq_zero] at z; omega) ?_ ?_
            · exact ⟨ι, Ext.push _, S.push _, .tup (IsT.new _ _) (fresh_notin S) (by rw [List.length_append]; omega) (by simpa using (hsa.append hsb).mono (Ext.push _))⟩
            · have := LIM_le; omega
        | _ => exact (stuck_some (H := H) h').elim
      | _ => exact addLists_sound S ra rb h'
  | Sub =>
    replace h := int2_some h
    obtain ⟨i, j, rfl, rfl, h⟩ := h
    cases ra; cases rb; obtain ⟨rfl, rfl⟩ := pure_some h; exact sub_int' (PostV.same S _ (.int _ _))
  | Mult =>
    have h' : bMul mu a b H = some (c, H') := h
    unfold bMul at h'
    cases hb : asI b with
    | none => simp only [hb] at h'; exact (stuck_some (H := H) h').elim
    | some n =>
      have e2 := asI_some hb
      subst e2
      simp only [hb] at h'
      cases ha : asI a with
      | some i =>
        have e1 := asI_some ha
        subst e1
        simp only [ha] at h'
        cases ra; cases rb
        split at h'
        · rename_i hc; obtain ⟨rfl, rfl⟩ := pure_some h'; exact mul_int (PostV.same S _ (.int _ _)) (mul_fits_of hc)
        · exact (stuck_some (H := H) h').elim
      | none =>
        simp only [ha] at h'
        cases rb; exact mulList_sound S ra h'
  | FloorDiv =>
    replace h := int2_some h
    obtain ⟨i, j, rfl, rfl, h⟩ := h
    cases ra; cases rb
    split at h
    · exact (stuck_some (H := H) h).elim
    · rename_i hc; obtain ⟨rfl, rfl⟩ := pure_some h; exact floordiv_int (fun z => hc (.inl z)) (PostV.same S _ (.int _ _)) (.inl (PyProof.noPylong_small (by omega)))
  | Mod =>
    replace h := int2_some h
    obtain ⟨i, j, rfl, rfl, h⟩ := h
    cases ra; cases rb
    split at h
    · exact (stuck_some (H := H) h).elim
    · rename_i hc; obtain ⟨rfl, rfl⟩ := pure_some h; exact mod_int' hc (PostV.same S _ (.int _ _))
  | Pow =>
    replace h := int2_some h
    obtain ⟨i, j, rfl, rfl, h⟩ := h
    cases ra; cases rb
    split at h
    · rename_i hc; obtain ⟨rfl, rfl⟩ := pure_some h; obtain ⟨rfl, rfl⟩ := hc
      exact pow_int_small (by decide) (by decide) (by decide) (PostV.same S _ (.int _ _))
    · exact (stuck_some (H := H) h).elim
  | _ => exact (stuck_some (H := H) h).elim
end
end Mine


set_option autoImplicit false
set_option linter.unusedVariables false
namespace Mine
open PySem PyProof.Rows PySem.SeqAt

section
variable {cx : Cx} {A : Around} {ι : List Addr} {H H' : AHeap} {s : Shared}

theorem pNeg_sound {a c : AV} {v : Value} {E : Value → Shared → Prop} (S : St cx ι H s) (ra : VR cx ι s.heap a v) (h : pNeg a H = some (c, H')) :
    wpAny (model cx.prog cx.w) A (unaryOp .USub v) (PostV cx ι s.heap c H') E s := by
  cases ra <;> first | (cases h; done) | skip
  obtain ⟨rfl, rfl⟩ := pure_some h
  exact neg_int (PostV.same S _ (.int _ _))

/-- what rd reads is what the heap holds -/
theorem mapM_cons_some {α β : Type} {f : α → Option β} {x : α} {xs : List α} {r : List β} (h : (x :: xs).mapM f = some r) : ∃ y ys, f x = some y ∧ xs.mapM f = some ys ∧ r = y :: ys := by
  rw [List.mapM_cons] at h
  cases hx : f x with
  | none => rw [hx] at h; cases h
  | some y =>
    rw [hx] at h
    cases hy : xs.mapM f with
    | none => rw [hy] at h; cases h
    | some ys => rw [hy] at h; cases h; exact ⟨y, ys, rfl, rfl, rfl⟩

theorem rds_sound (n : Nat) (ih : ∀ {a : AV} {v : Value} {d : PyData}, VR cx ι s.heap a v → rd H n a = some d → ∃ as, Reads s.heap v d as ∧ d.canLay0 = true ∧ d.depth ≤ n) :
    ∀ {xs : List AV} {vs : List Value} {ds : List PyData}, VRs cx ι s.heap xs vs → xs.mapM (rd H n) = some ds → ∃ as, ReadsAll s.heap vs ds as ∧ PyData.canLayAll0 ds = true ∧ PyData.depthAll ds ≤ n
  | _, _, _, .nil, h => by cases h; exact ⟨[], .nil, rfl, Nat.zero_le _⟩
  | _, _, _, .cons r rs, h => by
    obtain ⟨y, ys, h1, h2, rfl⟩ := mapM_cons_some h
    obtain ⟨as, q1, q2, q3⟩ := ih r h1
    obtain ⟨bs, p1, p2, p3⟩ := rds_sound n ih rs h2
    exact ⟨as ++ bs, .cons q1 p1, by simp [PyData.canLayAll0, q2, p2], by simp only [PyData.depthAll]; exact Nat.max_le.mpr ⟨q3, p3⟩⟩

theorem rd_sound (S : St cx ι H s) : ∀ (n : Nat) {a : AV} {v : Value} {d : PyData}, VR cx ι s.heap a v → rd H n a = some d → ∃ as, Reads s.heap v d as ∧ d.canLay0 = true ∧ d.depth ≤ n
  | n, a, v, d, r, h => by
    cases r with
    | none => cases n <;> (cases h; exact ⟨[], .none, rfl, Nat.zero_le _⟩)
    | bool b => cases n <;> (cases h; exact ⟨[], .bool b, rfl, Nat.zero_le _⟩)
    | int i t => cases n <;> (cases h; exact ⟨[], .int i t, rfl, Nat.zero_le _⟩)
    | str x t =>
      have h' : (if PyData.strOk x then some (PyData.str x) else none) = some d := by cases n <;> exact h
      split at h'
      · rename_i ho; cases h'; exact ⟨[], .str x t, by simpa [PyData.canLay0] using ho, Nat.zero_le _⟩
      · cases h'
    | tup ht hn hz hs =>
      cases n with
      | zero => cases h
      | succ n =>
        simp only [rd] at h
        rename_i xs
        cases hm : xs.mapM (rd H n) with
        | none => rw [hm] at h; cases h
        | some ds =>
          rw [hm] at h; cases h
          obtain ⟨as, p1, p2, p3⟩ := rds_sound n (fun r h => rd_sound S n r h) hs hm
          exact ⟨as, .tuple ht rfl rfl p1, by simpa [PyData.canLay0] using p2, by simp only [PyData.depth]; omega⟩
    | lst ht hn hz hs =>
      cases n with
      | zero => cases h
      | succ n =>
        simp only [rd] at h
        rename_i xs
        cases hm : xs.mapM (rd H n) with
        | none => rw [hm] at h; cases h
        | some ds =>
          rw [hm] at h; cases h
          obtain ⟨as, p1, p2, p3⟩ := rds_sound n (fun r h => rd_sound S n r h) hs hm
          exact ⟨_, .list ht rfl rfl p1, by simpa [PyData.canLay0] using p2, by simp only [PyData.depth]; omega⟩
    | loc hl =>
      cases n with
      | zero => cases h
      | succ n =>
        simp only [rd] at h
        split at h
        · rename_i xs hH
          obtain ⟨vs, k, hL, hz, hs⟩ := S.own _ _ _ hl hH
          cases hm : xs.mapM (rd H n) with
          | none => rw [hm] at h; cases h
          | some ds =>
            rw [hm] at h; cases h
            obtain ⟨as, p1, p2, p3⟩ := rds_sound n (fun r h => rd_sound S n r h) hs hm
            exact ⟨_, .list hL rfl rfl p1, by simpa [PyData.canLay0] using p2, by simp only [PyData.depth]; omega⟩
        · cases h
    | range hr hn => cases n <;> cases h
    | cdict hd hn hk hsm hs => cases n <;> cases h

/-- room for a handful of the machine's own calls -/
abbrev Room (A : Around) : Prop := A.units + 100 < cLine

theorem room_min {A : Around} (R : Room A) {da db : PyData} (h : da.depth ≤ 8) : A.units + min da.depth db.depth < cLine := by have : min da.depth db.depth ≤ 8 := Nat.le_trans (Nat.min_le_left _ _) h; unfold Room at R; omega

theorem pEq_some {a b : AV} {r : Bool} (h : pEq a b H = some (r, H')) : H' = H ∧ ∃ x y, rd H 8 a = some x ∧ rd H 8 b = some y ∧ r = PyData.eqv x y := by
  unfold pEq at h
  split at h
  · rename_i x y hx hy; cases h; exact ⟨rfl, x, y, hx, hy, rfl⟩
  · cases h
theorem pIn_some {a b : AV} {r : Bool} (h : pIn a b H = some (r, H')) : H' = H ∧ ∃ x ys, rd H 8 a = some x ∧ (rd H 8 b = some (.list ys) ∨ rd H 8 b = some (.tuple ys)) ∧ r = ys.any fun y => PyData.eqv y x := by
  unfold pIn at h
  split at h
  · rename_i x ys hx hy; cases h; exact ⟨rfl, x, ys, hx, .inl hy, rfl⟩
  · rename_i x ys hx hy; cases h; exact ⟨rfl, x, ys, hx, .inr hy, rfl⟩
  · cases h

theorem isNone_of {a : AV} {v : Value} {h : Heap} (r : VR cx ι h a v) : (v == .none) = pIsNone a := by cases r <;> rfl

theorem is_not_none {v : Value} {M : Model} {E : Value → Shared → Prop} {Q : Value → Shared → Prop} (h : Q (.bool (!(v == .none))) s) : wpAny M A (compareOp .IsNot v .none) Q E s := by
  show wpAny M A (do return .bool !(← isSame v .none)) Q E s
  rw [isSame_none]
  exact wpAny_bind (wpAny_pure (wpAny_pure h))

theorem pCmp_sound {op : CmpOp} {a b : AV} {r : Bool} {v w : Value} {E : Value → Shared → Prop} (R : Room A) (S : St cx ι H s) (ra : VR cx ι s.heap a v) (rb : VR cx ι s.heap b w) (h : pCmp op a b H = some (r, H')) :
    wpAny (model cx.prog cx.w) A (compareOp op v w) (fun x s' => x = .bool r ∧ PostV cx ι s.heap (.bool r) H' x s') E s := by
  have fin : ∀ t : Nat, H' = H → (Value.bool r = .bool r ∧ PostV cx ι s.heap (.bool r) H' (.bool r) { s with toks := t }) := fun t e => ⟨rfl, e ▸ PostV.same S t (.bool r)⟩
  have fin0 : H' = H → (Value.bool r = .bool r ∧ PostV cx ι s.heap (.bool r) H' (.bool r) s) := fun e => fin s.toks e
  have twoI : ∀ (q : CmpOp), (match asI a with | some i => (match asI b with | some j => cmpI q i j | none => stuck) | none => stuck : M Bool) H = some (r, H') → ∃ i j, a = .int i ∧ b = .int j ∧ cmpI q i j H = some (r, H') := by
    intro q h
    cases ha : asI a with
    | none => simp only [ha] at h; exact (stuck_some (H := H) h).elim
    | some i =>
      cases hb : asI b with
      | none => simp only [ha, hb] at h; exact (stuck_some (H := H) h).elim
      | some j => simp only [ha, hb] at h; exact ⟨i, j, asI_some ha, asI_some hb, h⟩
  cases op with
  | Eq =>
    obtain ⟨e, x, y, hx, hy, rfl⟩ := pEq_some h
    obtain ⟨as, p1, p2, p3⟩ := rd_sound S 8 ra hx
    obtain ⟨bs, q1, q2, q3⟩ := rd_sound S 8 rb hy
    exact compareEq_reads p1 q1 p2 q2 (room_min R p3) (fin0 e)
  | NotEq =>
    obtain ⟨r', H1, h1, h2⟩ := bind_some h
    obtain ⟨e, x, y, hx, hy, rfl⟩ := pEq_some h1
    obtain ⟨rfl, rfl⟩ := pure_some h2
    obtain ⟨as, p1, p2, p3⟩ := rd_sound S 8 ra hx
    obtain ⟨bs, q1, q2, q3⟩ := rd_sound S 8 rb hy
    exact compareNe_reads p1 q1 p2 q2 (room_min R p3) (fin0 e)
  | In =>
    obtain ⟨e, x, ys, hx, hy, rfl⟩ := pIn_some h
    obtain ⟨as, p1, p2, p3⟩ := rd_sound S 8 ra hx
    rcases hy with hy | hy
    · obtain ⟨bs, q1, q2, q3⟩ := rd_sound S 8 rb hy
      exact in_list_reads q1 p1 (by simpa [PyData.canLay0] using q2) p2 (by have := Nat.min_le_right (PyData.depthAll ys) x.depth; unfold Room at R; omega) (fin0 e)
    · obtain ⟨bs, q1, q2, q3⟩ := rd_sound S 8 rb hy
      exact in_tuple_reads q1 p1 (by simpa [PyData.canLay0] using q2) p2 (by have := Nat.min_le_right (PyData.depthAll ys) x.depth; unfold Room at R; omega) (fin0 e)
  | NotIn =>
    obtain ⟨r', H1, h1, h2⟩ := bind_some h
    obtain ⟨e, x, ys, hx, hy, rfl⟩ := pIn_some h1
    obtain ⟨rfl, rfl⟩ := pure_some h2
    obtain ⟨as, p1, p2, p3⟩ := rd_sound S 8 ra hx
    rcases hy with hy | hy
    · obtain ⟨bs, q1, q2, q3⟩ := rd_sound S 8 rb hy
      exact notIn_list_reads q1 p1 (by simpa [PyData.canLay0] using q2) p2 (by have := Nat.min_le_right (PyData.depthAll ys) x.depth; unfold Room at R; omega) (fin0 e)
    · obtain ⟨bs, q1, q2, q3⟩ := rd_sound S 8 rb hy
      exact notIn_tuple_reads q1 p1 (by simpa [PyData.canLay0] using q2) p2 (by have := Nat.min_le_right (PyData.depthAll ys) x.depth; unfold Room at R; omega) (fin0 e)
  | Is =>
    cases rb with
    | none =>
      obtain ⟨rfl, rfl⟩ := pure_some h
      exact is_none (by rw [isNone_of ra]; exact fin0 rfl)
    | _ => exact (stuck_some (H := H) h).elim
  | IsNot =>
    cases rb with
    | none =>
      obtain ⟨rfl, rfl⟩ := pure_some h
      exact is_not_none (by rw [isNone_of ra]; exact fin0 rfl)
    | _ => exact (stuck_some (H := H) h).elim
  | Lt =>
    replace h := twoI .Lt h
    obtain ⟨i, j, rfl, rfl, h⟩ := h
    cases ra; cases rb
    obtain ⟨rfl, rfl⟩ := pure_some h
    exact wpAny_lt_int (fin0 rfl)
  | LtE =>
    replace h := twoI .LtE h
    obtain ⟨i, j, rfl, rfl, h⟩ := h
    cases ra; cases rb
    obtain ⟨rfl, rfl⟩ := pure_some h
    exact le_int (fin0 rfl)
  | Gt =>
    replace h := twoI .Gt h
    obtain ⟨i, j, rfl, rfl, h⟩ := h
    cases ra; cases rb
    obtain ⟨rfl, rfl⟩ := pure_some h
    exact PyProof.Rows.gt_int (fin0 rfl)
  | GtE =>
    replace h := twoI .GtE h
    obtain ⟨i, j, rfl, rfl, h⟩ := h
    cases ra; cases rb
    obtain ⟨rfl, rfl⟩ := pure_some h
    exact ge_int (fin0 rfl)

theorem IsSeq.has {h : Heap} {l : Addr} {vs : Array Value} {n : Nat} (x : IsSeq h l vs n) : ∃ o, h.get? l = some o ∧ o.data = .seq vs n ∧ (o.cls = .type "list" ∨ o.cls = .type "tuple") := by
  cases x with
  | list x => exact ⟨_, x, rfl, .inl rfl⟩
  | tuple x => exact ⟨_, x, rfl, .inr rfl⟩

theorem idx_some {k : Int} {n j : Nat} (h : idx k n = some j) : j < n ∧ ((0 ≤ k ∧ k < n ∧ j = k.toNat) ∨ (k < 0 ∧ -k ≤ n ∧ j = (k + n).toNat)) := by
  unfold idx at h
  split at h
  · split at h
    · cases h; exact ⟨by omega, .inl ⟨by assumption, by assumption, rfl⟩⟩
    · cases h
  · split at h
    · cases h; exact ⟨by omega, .inr ⟨by omega, by assumption, rfl⟩⟩
    · cases h

theorem getItem_seq {l : Addr} {vs : Array Value} {n : Nat} {k : Int} {t : Tok} {j : Nat} {y : Value} {Q : Value → Shared → Prop} {E : Value → Shared → Prop} (hs : IsSeq s.heap l vs n) (hj : idx k vs.size = some j) (hy : vs[j]? = some y)
    (hb : vs.size < 2 ^ 62) (h : Q y s) : wpAny (model cx.prog cx.w) A (getItem (.ref l) (.int k t)) Q E s := by
  obtain ⟨hlt, hc⟩ := idx_some hj
  cases hs with
  | list hl =>
    rcases hc with ⟨h0, h1, rfl⟩ | ⟨h0, h1, rfl⟩
    · exact wpAny_getItem_list hl.isList h0 (by omega) hy h
    · exact wpAny_getItem_list_neg hl.isList h0 (by omega) (by omega) hy h
  | tuple hl =>
    refine P.getItem_tuple hl (by omega) (by omega) (k := j) ?_ hy h
    rcases hc with ⟨h0, h1, rfl⟩ | ⟨h0, h1, rfl⟩
    · exact seqIndex_of h0 h1
    · exact PySem.seqIndex_neg h0 (by omega)

theorem look_valueAt : ∀ {es : List (Str × AV)} {kvs : List (Str × Value)} {h : Heap} {k : Str} {a : AV}, kvs.map (·.1) = es.map (·.1) → VRs cx ι h (es.map (·.2)) (kvs.map (·.2)) → look es k = some a →
    ∃ v, valueAt kvs k = some v ∧ VR cx ι h a v
  | [], kvs, h, k, a, e, r, hl => by cases hl
  | e :: es, [], h, k, a, he, r, hl => by cases he
  | e :: es, kv :: kvs, h, k, a, he, r, hl => by
    simp only [List.map_cons, List.cons.injEq] at he
    cases r with | cons r1 r2 =>
    unfold look at hl
    unfold valueAt
    rw [List.find?_cons] at hl ⊢
    by_cases hk : e.1 = k
    · have hk' : kv.1 = k := he.1.trans hk
      simp only [hk, decide_true] at hl
      simp only [hk', decide_true]
      simp at hl; subst hl
      exact ⟨_, rfl, r1⟩
    · have hk' : ¬ kv.1 = k := fun q => hk (he.1.symm.trans q)
      simp only [hk, decide_false] at hl
      simp only [hk', decide_false]
      exact look_valueAt he.2 r2 hl

theorem getItem_dict {d : Addr} {kvs : List (Str × Value)} {k : Str} {t : Tok} {v : Value} {Q : Value → Shared → Prop} {E : Value → Shared → Prop} (hd : s.heap.DictOf (strKind cx.prog cx.w) d kvs) (hv : valueAt kvs k = some v)
    (h : Q v { s with toks := s.toks + 1 }) : wpAny (model cx.prog cx.w) A (getItem (.ref d) (.str k t)) Q E s :=
  wpAny_getItem_of (strKind_is _ _ k t) hd.mapOf hv h

/-- whose items are asked for is a list, a tuple or a dict -/
def Subs (s : Shared) (v : Value) : Prop := ∃ T id, s.TypeIs v T ∧ typeLookup (.type T) "__getitem__" = pure (some (.builtin id))
theorem Subs.list {l : Addr} {vs : Array Value} {n : Nat} (hl : IsL s.heap l vs n) : Subs s (.ref l) := ⟨"list", _, ⟨_, hl, rfl⟩, list_getitem_lookup⟩
theorem Subs.tuple {l : Addr} {vs : Array Value} {n : Nat} (hl : IsT s.heap l vs n) : Subs s (.ref l) := ⟨"tuple", _, ⟨_, hl, rfl⟩, F.slot_tuple_getitem.lookup⟩
theorem Subs.seq {l : Addr} {vs : Array Value} {n : Nat} (hl : IsSeq s.heap l vs n) : Subs s (.ref l) := by cases hl with | list x => exact .list x | tuple x => exact .tuple x
theorem Subs.dict {d : Addr} {kvs : List (Str × Value)} (hd : s.heap.DictOf (strKind cx.prog cx.w) d kvs) : Subs s (.ref d) := ⟨"dict", _, hd.mapOf.typeIs, slot_dict_getitem.lookup⟩

theorem pItem_sound {o i c : AV} {v w : Value} {E : Value → Shared → Prop} (S : St cx ι H s) (ro : VR cx ι s.heap o v) (ri : VR cx ι s.heap i w) (h : pItem o i H = some (c, H')) :
    Subs s v ∧ wpAny (model cx.prog cx.w) A (getItem v w) (PostV cx ι s.heap c H') E s := by
  unfold pItem at h
  split at h
  · cases ri
    split at h
    · obtain ⟨h1, rfl⟩ := ofOpt_some h
      cases ro with | cdict hd hn hk hsm hs =>
      obtain ⟨v, hv, rv⟩ := look_valueAt hk hs h1
      exact ⟨.dict hd, getItem_dict hd hv (PostV.same S _ rv)⟩
    · split at h
      · rename_i es hH
        cases ro with | loc hl =>
        obtain ⟨kvs, hd, h1, h2, hs⟩ := S.own _ _ _ hl hH
        cases hk : look es _ with
        | none => rw [hk] at h; cases h
        | some a =>
          rw [hk] at h; cases h
          obtain ⟨v, hv, rv⟩ := look_valueAt h2 hs hk
          exact ⟨.dict hd, getItem_dict hd hv (PostV.same S _ rv)⟩
      · cases h
    · cases h
  · cases ri
    obtain ⟨xs, H1, h1, h2⟩ := bind_some h
    obtain ⟨h3, rfl⟩ := ofOpt_some h2
    obtain ⟨e0, l, vs, n, rfl, hl, hz, hvs⟩ := seqOf_sound S h1 ro
    subst e0
    cases hj : idx _ xs.length with
    | none => rw [hj] at h3; cases h3
    | some j =>
      rw [hj] at h3
      obtain ⟨y, hy, ry⟩ := hvs.get (i := j) h3
      refine ⟨.seq hl, getItem_seq hl (j := j) (by rw [hvs.size]; exact hj) (by rw [← Array.getElem?_toList]; exact hy) (by rw [hvs.size]; have := LIM_is; omega) (PostV.here S ry)⟩
  · cases h
end
end Mine


set_option autoImplicit false
set_option linter.unusedVariables false
namespace Mine
open PySem PyProof.Rows PySem.SeqAt

section
variable {cx : Cx} {A : Around} {ι : List Addr} {H H' : AHeap} {s : Shared}

theorem cut_sound {xs : List AV} {vs : Array Value} {h : Heap} (r : VRs cx ι h xs vs.toList) (lo hi : Option Int) : VRs cx ι h (cut xs lo hi) (slicePick vs lo hi none).toList := by
  rw [slicePick_plain]
  simp only [cut, r.size]
  exact (r.drop _).take _

theorem Subs.push {v : Value} (h : Subs s v) (o : Obj) : Subs { s with heap := s.heap.push o } v := by
  obtain ⟨T, id, hT, r⟩ := h
  refine ⟨T, id, ?_, r⟩
  cases v with
  | ref a => obtain ⟨o', h1, h2⟩ := hT; exact ⟨o', Heap.get?_push_of_some _ h1, h2⟩
  | _ => exact hT

/-- t[:b] of a tuple -/
theorem sliceApplied_upto {sl : Addr} {b n : Nat} {u : Tok} {M' : Model} {E : Value → Shared → Prop} {Q : Int × Int × Nat → Shared → Prop} (hs : s.heap.IsSliceOf sl .none (.int b u) .none) (hb : b ≤ n) (h : Q (0, 1, b) s) :
    wpAny (model cx.prog cx.w) A (Builtin.Slice.sliceApplied (.ref sl) (pure (n : Int))) Q E s := by
  obtain ⟨os, hos, hcs, hds⟩ := id hs
  unfold Builtin.Slice.sliceApplied Builtin.Slice.sliceFields
  refine wpAny_bind (wpAny_bind (wpAny_field hos hds (x := .none) rfl (wpAny_bind (wpAny_field hos hds (x := .int b u) rfl (wpAny_bind (wpAny_field hos hds (x := .none) rfl (wpAny_pure ?_)))))))
  refine wpAny_bind (slicePart_none ?_)
  show wpAny _ _ (if ((1 : Int) == 0) = true then _ else _) _ _ s
  rw [if_neg (by decide)]
  refine wpAny_bind (slicePart_none (wpAny_bind (slicePart_int (wpAny_bind (wpAny_pure ?_)))))
  have e1 : Builtin.Slice.sliceAdjust none (some (b : Int)) 1 (n : Int) = (0, (b : Int)) := by
    unfold Builtin.Slice.sliceAdjust
    have h2 : ¬ ((b : Int) < 0) := by omega
    have h1 : ¬ ((1 : Int) < 0) := by omega
    simp only [h1, h2, if_false]
    congr 1
    omega
  have e2 : Builtin.Slice.slicePlaces 0 (b : Int) 1 = b := by
    unfold Builtin.Slice.slicePlaces
    have h1 : (1 : Int) > 0 := by omega
    simp only [h1, if_true, Int.ediv_one]
    split <;> omega
  show wpAny _ _ (match Builtin.Slice.sliceAdjust none (some (b : Int)) 1 (n : Int) with | (lo, hi) => pure (lo, (1 : Int), Builtin.Slice.slicePlaces lo hi 1)) _ _ s
  rw [e1]
  show wpAny _ _ (pure (0, (1 : Int), Builtin.Slice.slicePlaces 0 (b : Int) 1)) _ _ s
  rw [e2]
  exact wpAny_pure h

theorem pick_upto (xs : Array Value) (b : Nat) : ((List.range b).filterMap fun (k : Nat) => xs[((0 : Int) + (k : Int) * 1).toNat]?).toArray = (xs.toList.take b).toArray := by
  have e : (fun (k : Nat) => xs[((0 : Int) + (k : Int) * 1).toNat]?) = fun k => xs[0 + k]? := by
    funext k
    have : ((0 : Int) + (k : Int) * 1).toNat = 0 + k := by omega
    rw [this]
  rw [e]
  have := pick_run xs 0 b
  rw [List.filterMap_map] at this
  have e2 : ((fun x => xs[x]?) ∘ fun x => 0 + x) = fun k => xs[0 + k]? := rfl
  rw [e2] at this
  rw [this, List.drop_zero]

theorem getItem_tuple_upto {t sl : Addr} {items : Array Value} {b n : Nat} {u : Tok} {E : Value → Shared → Prop} {Q : Value → Shared → Prop} (ht : IsT s.heap t items n) (hs : s.heap.IsSliceOf sl .none (.int b u) .none) (hb : b < items.size)
    (h : Q (.ref s.heap.objs.size) { s with heap := s.heap.push { cls := .type "tuple", data := .seq (items.toList.take b).toArray } })
    (hsz : items.size ≤ sizeLine) : wpAny (model cx.prog cx.w) A (getItem (.ref t) (.ref sl)) Q E s := by
  have hdrop : sizeOk (.seq (items.toList.take b).toArray) := by
    show (items.toList.take b).toArray.size ≤ sizeLine
    rw [List.size_toArray, List.length_take, Array.length_toList]
    omega
  have hT : s.TypeIs (.ref t) "tuple" := ⟨_, ht, rfl⟩
  obtain ⟨os, hos, hcs, hds⟩ := id hs
  have hTs : s.TypeIs (.ref sl) "slice" := ⟨os, hos, hcs⟩
  unfold getItem
  try with_reducible refine wpAny_holding ?_
  first | refine wpAny_bind (wpAny_pure ?_) | skip
  refine wpAny_bind (wpAny_sequenceKey hT (by decide) ?_)
  refine wpAny_bind (wpAny_callSpecial?_slot (name := Str.ofString "__getitem__") hT slot_tuple_getitem
    (wpAny_call_entry slot_tuple_getitem hT entry_tuple_getitem ?_ (args_tuple_getitem _ _)))
  show wpAny _ _ (Builtin.Tuple.tupleItemsOf (.ref t) >>= _) _ _ s
  refine wpAny_bind (tupleItemsOf_ ⟨_, ht, rfl, n, rfl⟩ ?_)
  refine wpAny_bind (wpAny_typeOf hTs ?_)
  rw [if_pos (by decide)]
  refine wpAny_bind (sliceApplied_upto (M' := model cx.prog cx.w) hs (Nat.le_of_lt hb) ?_)
  have hno : ¬ (((0 : Int) == 0 && (1 : Int) == 1 && b == items.size) = true) := by
    have : (b == items.size) = false := by rw [beq_eq_false_iff_ne]; omega
    rw [this]; simp
  show wpAny _ _ (if ((0 : Int) == 0 && (1 : Int) == 1 && b == items.size) = true then _ else _) _ _ s
  rw [if_neg hno, pick_upto items b]
  first
    | exact wpAny_bind (m := Builtin.Tuple.tupleExact _) (wpAny_newObj_type (wpAny_pure ⟨_, rfl, wpAny_pure h⟩) hdrop)
    | exact wpAny_bind (m := Builtin.Tuple.tupleExact _) (wpAny_newObj_type (wpAny_bind (wpAny_pure (wpAny_pure ⟨_, rfl, wpAny_pure h⟩))) hdrop)
    | exact wpAny_bind (wpAny_bind (m := Builtin.Tuple.tupleExact _) (wpAny_newObj_type (wpAny_pure (wpAny_pure ⟨_, rfl, wpAny_pure h⟩)) hdrop))
    | exact wpAny_bind (wpAny_bind (m := Builtin.Tuple.tupleExact _) (wpAny_newObj_type (wpAny_pure ⟨_, rfl, wpAny_pure h⟩) hdrop))

/-- the slice object lies fresh at sl -/
theorem pSlice_sound {mu : Bool} {o c : AV} {v vl vu : Value} {lo hi : Option Int} {E : Value → Shared → Prop} (S : St cx ι H s) (ro : VR cx ι s.heap o v) (pl : IsPart vl lo) (pu : IsPart vu hi) (h : pSlice mu o lo hi H = some (c, H')) :
    let s₁ : Shared := { s with heap := s.heap.push { cls := .type "slice", data := .fields #[vl, vu, .none] } }
    Subs s₁ v ∧ wpAny (model cx.prog cx.w) A (getItem v (.ref s.heap.objs.size)) (PostV cx ι s.heap c H') E s₁ := by
  intro s₁
  have S₁ : St cx ι H s₁ := S.push _
  have e1 : Ext ι ι s.heap s₁.heap := Ext.push _
  unfold pSlice at h
  split at h
  · split at h
    · split at h
      · rename_i xs b hb
        obtain ⟨rfl, rfl⟩ := pure_some h
        cases ro with | tup ht hn hz hs =>
        cases pl
        cases pu with | int _ u =>
        have hsz := hs.size
        have ht₁ : IsT s₁.heap _ _ _ := Heap.get?_push_of_some _ ht
        obtain ⟨k, rfl⟩ := Int.eq_ofNat_of_zero_le hb.1
        refine ⟨.tuple ht₁, getItem_tuple_upto ht₁ (Heap.IsSliceOf.new s.heap .none (.int (k : Int) u) .none) (by rw [hsz]; omega) ?_ (by rw [hsz]; have := LIM_le; omega)⟩
        refine ⟨ι, e1.trans (Ext.push _), S₁.push _, .tup (IsT.new _ _) (fresh_notin S₁) (by rw [List.length_take]; omega) ?_⟩
        simpa using ((hs.mono e1).take k).mono (Ext.push _)
      · cases h
    · cases h
  · obtain ⟨xs, H1, h1, h2⟩ := bind_some h
    obtain ⟨e0, l, vs, n, rfl, hl, hz, hvs⟩ := listOf_sound S h1 ro
    subst e0
    have hl₁ : IsL s₁.heap l vs n := Heap.get?_push_of_some _ hl
    refine ⟨.list hl₁, wpAny_getItem_list_slice hl₁.isList (Heap.IsSliceOf.new ..) pl pu .none (by simp) ?_ (by rw [hvs.size]; have := LIM_le; omega)⟩
    refine PostV.trans e1 (newL_post S₁ h2 (t := s.toks) (fun b q e => Heap.get?_push_of_some _ e) (get_size _) (IsL.new _ _) (cut_sound (hvs.mono e1) lo hi))

theorem rev_pick (items : Array Value) : slicePick items none none (some (-1)) = items.toList.reverse.toArray := PySem.W.krv_pick items

theorem pRev_sound {mu : Bool} {o c : AV} {v : Value} {t : Tok} {E : Value → Shared → Prop} (S : St cx ι H s) (ro : VR cx ι s.heap o v) (h : pRev mu o H = some (c, H')) :
    let s₁ : Shared := { s with heap := s.heap.push { cls := .type "slice", data := .fields #[.none, .none, .int (-1) t] } }
    Subs s₁ v ∧ wpAny (model cx.prog cx.w) A (getItem v (.ref s.heap.objs.size)) (PostV cx ι s.heap c H') E s₁ := by
  intro s₁
  have S₁ : St cx ι H s₁ := S.push _
  have e1 : Ext ι ι s.heap s₁.heap := Ext.push _
  obtain ⟨xs, H1, h1, h2⟩ := bind_some h
  obtain ⟨e0, l, vs, n, rfl, hl, hz, hvs⟩ := listOf_sound S h1 ro
  subst e0
  have hl₁ : IsL s₁.heap l vs n := Heap.get?_push_of_some _ hl
  refine ⟨.list hl₁, wpAny_getItem_list_slice hl₁.isList (Heap.IsSliceOf.new ..) .none .none (.int (-1) t) (by simp) ?_ (by rw [hvs.size]; have := LIM_le; omega)⟩
  refine PostV.trans e1 (newL_post S₁ h2 (t := s.toks) (fun b q e => Heap.get?_push_of_some _ e) (get_size _) (IsL.new _ _) ?_)
  rw [rev_pick]
  simpa using (hvs.mono e1).reverse

/-- a store into a list or a dict -/
theorem stored_put : ∀ {es : List (Str × AV)} {kvs : List (Str × Value)} {h : Heap} {k : Str} {a : AV} {v : Value}, kvs.map (·.1) = es.map (·.1) → VRs cx ι h (es.map (·.2)) (kvs.map (·.2)) → VR cx ι h a v →
    (stored kvs k v).map (·.1) = (put es k a).map (·.1) ∧ VRs cx ι h ((put es k a).map (·.2)) ((stored kvs k v).map (·.2)) := by
  intro es kvs h k a v he r ra
  have hany : kvs.any (fun kv => kv.1 = k) = es.any (fun e => e.1 = k) := by
    have : (kvs.map (·.1)).any (fun x => x = k) = (es.map (·.1)).any (fun x => x = k) := by rw [he]
    rw [List.any_map, List.any_map] at this; exact this
  unfold stored put
  rw [hany]
  split
  · rename_i hc
    clear hc hany
    induction es generalizing kvs with
    | nil => cases kvs with | nil => exact ⟨rfl, .nil⟩ | cons _ _ => cases he
    | cons e es ih =>
      cases kvs with
      | nil => cases he
      | cons kv kvs =>
        simp only [List.map_cons, List.cons.injEq] at he
        cases r with | cons r1 r2 =>
        obtain ⟨i1, i2⟩ := ih he.2 r2
        by_cases hk : e.1 = k
        · have hk' : kv.1 = k := he.1.trans hk
          simp only [List.map_cons, hk, hk', if_true]
          exact ⟨by rw [i1], .cons ra i2⟩
        · have hk' : ¬ kv.1 = k := fun q => hk (he.1.symm.trans q)
          simp only [List.map_cons, hk, hk', if_false]
          exact ⟨by rw [he.1, i1], .cons r1 i2⟩
  · simp only [List.map_append, List.map_cons, List.map_nil]
    exact ⟨by rw [he], r.append (.one ra)⟩

noncomputable def PostU (cx : Cx) (ι : List Addr) (h : Heap) (H' : AHeap) : Unit → Shared → Prop := fun _ s' => ∃ ι', Ext ι ι' h s'.heap ∧ St cx ι' H' s'

theorem put_length (es : List (Str × AV)) (k : Str) (v : AV) : (put es k v).length ≤ es.length + 1 := by
  unfold put; split <;> simp

theorem setItem_isL {l : Addr} {items : Array Value} {n : Nat} {k : Int} {t : Tok} {v : Value} {E : Value → Shared → Prop} {Q : Unit → Shared → Prop} (hl : IsL s.heap l items n)
    (h0 : 0 ≤ k) (hfit : k < 2 ^ 63) (hn : k < items.size) (hQ : ∀ h' n', IsL h' l (items.setIfInBounds k.toNat v) n' → Heap.SameBut l s.heap h' → Q () { s with heap := h' }) :
    wpAny (model cx.prog cx.w) A (setItem (.ref l) (.int k t) v) Q E s := by
  unfold setItem
  try with_reducible refine wpAny_holding ?_
  first | refine wpAny_bind (wpAny_pure ?_) | skip
  refine wpAny_bind (wpAny_sequenceKey hl.isList.typeIs (by decide) ?_)
  refine wpAny_bind (wpAny_callSpecial?_slot (name := Str.ofString "__setitem__") hl.isList.typeIs slot_list_setitem
    (wpAny_call_entry slot_list_setitem hl.isList.typeIs entry_list_setitem ?_ (args_list_setitem _ _ _)))
  show wpAny _ _ (Builtin.List.listSubscript? (.int k t) >>= _) _ _ s
  refine wpAny_bind (wpAny_listSubscript_int (fitsIndex_of h0 hfit) ?_)
  clear hfit
  obtain ⟨j, rfl⟩ := Int.eq_ofNat_of_zero_le h0
  have hj : j < items.size := by omega
  have hx' : items[j]? = some items[j] := Array.getElem?_eq_getElem hj
  show wpAny _ _ ((seqItemAt l j >>= fun r => pure (r.map (j, ·))) >>= _) _ _ s
  refine wpAny_bind (wpAny_bind (wpAny_seqItemAt hl rfl (wpAny_pure ?_)))
  rw [hx']
  show wpAny _ _ (setSeqItemAt l j v >>= _) _ _ s
  refine wpAny_bind (wpAny_setSeqItemAt hl rfl ?_)
  first
    | exact wpAny_bind (wpAny_pure (wpAny_pure ⟨.none, rfl, wpAny_pure (hQ _ _ (IsL.update hl _) (Heap.SameBut.update ..))⟩))
    | exact wpAny_pure ⟨.none, rfl, wpAny_pure (hQ _ _ (IsL.update hl _) (Heap.SameBut.update ..))⟩

theorem pStore_sound {o i a : AV} {v w x : Value} {E : Value → Shared → Prop} (S : St cx ι H s) (ro : VR cx ι s.heap o v) (ri : VR cx ι s.heap i w) (ra : VR cx ι s.heap a x) (h : pStore o i a H = some ((), H')) :
    wpAny (model cx.prog cx.w) A (setItem v w x) (PostU cx ι s.heap H') E s := by
  unfold pStore at h
  split at h
  · rename_i kk
    cases ro with | loc hl =>
    cases ri
    split at h
    · rename_i es hH
      split at h
      · rename_i hlen
        cases h
        obtain ⟨kvs, hd, h1, h2, hs⟩ := S.own _ _ _ hl hH
        refine wpAny_setItem_pairs (strKind_is _ _ _ _) hd (fun h' hd' hsb => ?_) ?_
        · obtain ⟨e, S'⟩ := S.turn (t := s.toks + 1) (o := .dict (put es _ a)) hl (fun b q hb e => (hsb.2 b hb).trans e) (fun e => by
            obtain ⟨q1, q2⟩ := stored_put (k := _) h2 hs ra
            exact ⟨_, hd', ⟨h1.1, by have := put_length es kk a; omega⟩, q1, q2.mono e⟩)
          exact ⟨ι, e, S'⟩
        · have := congrArg List.length h2; simp only [List.length_map] at this; have := LIM_le; omega
      · cases h
    · cases h
  · rename_i kk
    cases ro with | loc hl =>
    cases ri
    split at h
    · rename_i xs hH
      split at h
      · rename_i hk
        cases h
        obtain ⟨vs, n, hL, hz, hs⟩ := S.own _ _ _ hl hH
        have hsz := hs.size
        have hz' := LIM_is
        refine setItem_isL hL hk.1 (by omega) (by omega) fun h' n' hL' hsb => ?_
        obtain ⟨e, S'⟩ := S.turn (t := s.toks) (o := .list (xs.set kk.toNat a)) hl (fun b q hb e => (hsb.2 b hb).trans e) (fun e => by
          refine ⟨_, n', hL', by rw [List.length_set]; exact hz, ?_⟩
          rw [Array.toList_setIfInBounds]
          exact (hs.set _ ra).mono e)
        exact ⟨ι, e, S'⟩
      · cases h
    · cases h
  · cases h

/-- isinstance -/
noncomputable def tyStr : Ty → String
  | .int => "int"
  | .bool => "bool"
  | .str => "str"
  | .tuple => "tuple"
  | .list => "list"

theorem pIsi_some {v : AV} {t : Ty} {b : Bool} (h : pIsi v t H = some (b, H')) : H' = H ∧ pIs1 H v t = some b := by
  unfold pIsi at h
  cases e : pIs1 H v t with
  | none => rw [e] at h; cases h
  | some c => rw [e] at h; cases h; exact ⟨rfl, rfl⟩

theorem pIsi_sound {a : AV} {t : Ty} {b : Bool} {v : Value} {E : Value → Shared → Prop} (S : St cx ι H s) (ra : VR cx ι s.heap a v) (h : pIsi a t H = some (b, H')) :
    wpAny (model cx.prog cx.w) A (call (.builtin "isinstance") [v, .type (tyStr t)]) (PostV cx ι s.heap (.bool b) H') E s := by
  obtain ⟨rfl, h1⟩ := pIsi_some h
  have f0 : ∀ t : Nat, PostV cx ι s.heap (.bool b) H' (.bool b) { s with toks := t } := fun t => PostV.same S t (.bool b)
  have f1 : PostV cx ι s.heap (.bool b) H' (.bool b) s := f0 s.toks
  cases ra with
  | none =>
    cases t <;> cases h1
    · exact IsiPair.NoneType_int (f0 _)
    · exact IsiPair.NoneType_bool (f0 _)
    · exact IsiPair.NoneType_str (f0 _)
    · exact IsiPair.NoneType_tuple (f0 _)
    · exact IsiPair.NoneType_list (f0 _)
  | bool c =>
    cases t <;> cases h1
    · exact IsiPair.bool_int f1
    · exact IsiPair.bool_bool f1
    · exact IsiPair.bool_str (f0 _)
    · exact IsiPair.bool_tuple (f0 _)
    · exact IsiPair.bool_list (f0 _)
  | int i u =>
    cases t <;> cases h1
    · exact IsiPair.int_int f1
    · exact IsiPair.int_bool (f0 _)
    · exact IsiPair.int_str (f0 _)
    · exact IsiPair.int_tuple (f0 _)
    · exact IsiPair.int_list (f0 _)
  | str x u =>
    cases t <;> cases h1
    · exact IsiPair.str_int (f0 _)
    · exact IsiPair.str_bool (f0 _)
    · exact IsiPair.str_str f1
    · exact IsiPair.str_tuple (f0 _)
    · exact IsiPair.str_list (f0 _)
  | tup hl hn hz hs =>
    have hL : s.heap.IsTuple _ _ := ⟨_, hl, rfl, _, rfl⟩
    cases t <;> cases h1
    · exact IsiPair.isTuple_int hL (fun _ _ e => e) (f0 _)
    · exact IsiPair.isTuple_bool hL (fun _ _ e => e) (f0 _)
    · exact IsiPair.isTuple_str hL (fun _ _ e => e) (f0 _)
    · exact IsiPair.isTuple_tuple hL (fun _ _ e => e) f1
    · exact IsiPair.isTuple_list hL (fun _ _ e => e) (f0 _)
  | lst hl hn hz hs =>
    have hL := hl.isList
    cases t <;> cases h1
    · exact IsiPair.isList_int hL (fun _ _ e => e) (f0 _)
    · exact IsiPair.isList_bool hL (fun _ _ e => e) (f0 _)
    · exact IsiPair.isList_str hL (fun _ _ e => e) (f0 _)
    · exact IsiPair.isList_tuple hL (fun _ _ e => e) (f0 _)
    · exact IsiPair.isList_list hL (fun _ _ e => e) f1
  | @loc l0 a0 hl =>
    cases hH : H'[l0]? with
    | none => simp only [pIs1, hH] at h1; cases t <;> cases h1
    | some o =>
      cases o with
      | dict es => simp only [pIs1, hH] at h1; cases t <;> cases h1
      | list xs =>
        obtain ⟨vs, n, hL', _⟩ := S.own _ _ _ hl hH
        have hL := IsL.isList hL'
        cases t <;> (simp only [pIs1, hH, Option.some.injEq] at h1; subst h1)
        · exact IsiPair.isList_int hL (fun _ _ e => e) (f0 _)
        · exact IsiPair.isList_bool hL (fun _ _ e => e) (f0 _)
        · exact IsiPair.isList_str hL (fun _ _ e => e) (f0 _)
        · exact IsiPair.isList_tuple hL (fun _ _ e => e) (f0 _)
        · exact IsiPair.isList_list hL (fun _ _ e => e) f1
  | range hr hn => cases t <;> cases h1
  | cdict hd hn hk hsm hs => cases t <;> cases h1
end
end Mine


set_option autoImplicit false
set_option linter.unusedVariables false
namespace Mine
open PySem PyProof.Rows PySem.SeqAt

section
variable {cx : Cx} {A : Around} {ι : List Addr} {H H' : AHeap} {s : Shared}

theorem VRs.inv1 {a : AV} {vs : List Value} {h : Heap} (x : VRs cx ι h [a] vs) : ∃ v, vs = [v] ∧ VR cx ι h a v := by
  cases x with
  | cons r r0 => cases r0; exact ⟨_, rfl, r⟩
theorem VRs.inv2 {a b : AV} {vs : List Value} {h : Heap} (x : VRs cx ι h [a, b] vs) : ∃ v w, vs = [v, w] ∧ VR cx ι h a v ∧ VR cx ι h b w := by
  cases x with
  | cons r r0 => obtain ⟨w, rfl, r1⟩ := r0.inv1; exact ⟨_, _, rfl, r, r1⟩

noncomputable def biV : BI → Value
  | .len => .builtin "len"
  | .list => .type "list"
  | .tuple => .type "tuple"
  | .dict => .type "dict"
  | .int => .type "int"
  | .range => .type "range"
  | .min => .builtin "min"
  | .max => .builtin "max"
  | .any => .builtin "any"
  | .sorted => .builtin "sorted"

theorem small_of {a b : Int} (h : (small62 a && small62 b) = true) : Builtin.Range.small a b 1 = true ∧ (-(2 ^ 62) ≤ a ∧ a < 2 ^ 62) ∧ (-(2 ^ 62) ≤ b ∧ b < 2 ^ 62) := by
  simp only [small62, Bool.and_eq_true, decide_eq_true_eq] at h
  exact ⟨small_one h.1.1 h.1.2 h.2.1 h.2.2, h.1, h.2⟩
theorem range_count (a b : Int) : Builtin.Range.rangeSize a b 1 = ((b - a).toNat : Nat) := by
  rw [rangeSize_one]; split <;> omega

theorem VRs.of_items {n : Nat} {f : Nat → AV} {acc : Array Value} {h : Heap} (hi : ItemsOf (fun i v => VR cx ι h (f i) v) acc n) : VRs cx ι h ((List.range n).map f) acc.toList := by
  obtain ⟨h1, h2⟩ := hi
  subst h1
  have : ∀ (l : List Value) (k : Nat), (∀ j v, l[j]? = some v → VR cx ι h (f (k + j)) v) → VRs cx ι h ((List.range' k l.length).map f) l := by
    intro l
    induction l with
    | nil => intro k _; exact .nil
    | cons x r ih =>
      intro k hk
      rw [List.length_cons, List.range'_succ, List.map_cons]
      refine .cons (by simpa using hk 0 x rfl) (ih (k + 1) fun j v hj => ?_)
      have := hk (j + 1) v (by simpa using hj)
      rwa [show k + (j + 1) = k + 1 + j by omega] at this
  have := this acc.toList 0 (fun j v hj => by rw [Nat.zero_add]; exact h2 j v (by simpa using hj))
  simpa [List.range_eq_range'] using this

theorem ints_items : ∀ {xs : List AV} {vs : List Value} {is : List Int} {h : Heap}, VRs cx ι h xs vs → intsOf xs = some is → ∃ ps : List (Int × Tok), vs = ps.map (fun p => .int p.1 p.2) ∧ ps.map (·.1) = is
  | _, _, _, _, .nil, e => by cases e; exact ⟨[], rfl, rfl⟩
  | _, _, _, _, .cons r rs, e => by
    cases r <;> first | (cases e; done) | skip
    rename_i i t
    simp only [intsOf] at e
    cases hr : intsOf _ with
    | none => rw [hr] at e; cases e
    | some js =>
      rw [hr] at e; cases e
      obtain ⟨ps, rfl, rfl⟩ := ints_items rs hr
      exact ⟨(i, t) :: ps, rfl, rfl⟩
theorem bools_items : ∀ {xs : List AV} {vs : List Value} {bs : List Bool} {h : Heap}, VRs cx ι h xs vs → boolsOf xs = some bs → vs = bs.map .bool
  | _, _, _, _, .nil, e => by cases e; rfl
  | _, _, _, _, .cons r rs, e => by
    cases r <;> first | (cases e; done) | skip
    simp only [boolsOf] at e
    cases hr : boolsOf _ with
    | none => rw [hr] at e; cases e
    | some js => rw [hr] at e; cases e; rw [List.map_cons, bools_items rs hr]

theorem foldl_max (r : List Int) : ∀ x : Int, (r.foldl (fun m y => if m < y then y else m) x ∈ x :: r) ∧ ∀ y ∈ x :: r, y ≤ r.foldl (fun m y => if m < y then y else m) x := by
  induction r with
  | nil => intro x; simp
  | cons z r ih =>
    intro x
    rw [List.foldl_cons]
    obtain ⟨h1, h2⟩ := ih (if x < z then z else x)
    refine ⟨?_, fun y hy => ?_⟩
    · rcases List.mem_cons.mp h1 with h | h
      · rw [h]; split <;> simp
      · simp [h]
    · have hm := h2 (if x < z then z else x) List.mem_cons_self
      have hx : x ≤ (if x < z then z else x) ∧ z ≤ (if x < z then z else x) := by split <;> omega
      rcases List.mem_cons.mp hy with rfl | hy
      · exact Int.le_trans hx.1 hm
      · rcases List.mem_cons.mp hy with rfl | hy
        · exact Int.le_trans hx.2 hm
        · exact h2 y (List.mem_cons_of_mem _ hy)

theorem intsAre_pairs : ∀ ps : List (Int × Tok), IntsAre (ps.map fun p => .int p.1 p.2) (ps.map (·.1))
  | [] => .nil
  | p :: r => .cons _ _ (intsAre_pairs r)
theorem vrs_ints : ∀ {vs : List Value} {ns : List Int} {h : Heap}, IntsAre vs ns → VRs cx ι h (ns.map .int) vs
  | _, _, _, .nil => .nil
  | _, _, _, .cons _ _ r => .cons (.int _ _) (vrs_ints r)
theorem perm_sorted {l l' : List Int} (hp : l.Perm l') (h : l.Pairwise (· ≤ ·)) (h' : l'.Pairwise (· ≤ ·)) : l = l' :=
  hp.eq_of_pairwise (le := (· ≤ ·)) (fun a b _ _ h1 h2 => Int.le_antisymm h1 h2) h h'

theorem one_some {vs : List AV} {f : AV → M AV} {H : AHeap} {r : AV × AHeap} (h : one vs f H = some r) : ∃ v, vs = [v] ∧ f v H = some r := by
  match vs, h with
  | [v], h => exact ⟨v, rfl, h⟩
  | [], h => exact (stuck_some (H := H) h).elim
  | _ :: _ :: _, h => exact (stuck_some (H := H) h).elim
theorem bList_some {mu : Bool} {v : AV} {H : AHeap} {r : AV × AHeap} (h : bList mu v H = some r) : (∃ a b, v = .range a b ∧ (if small62 a && small62 b then newL mu (rangeL a b) else stuck : M AV) H = some r) ∨ (do let xs ← seqOf v; newL mu xs : M AV) H = some r := by
  cases v with
  | range a b => exact .inl ⟨a, b, rfl, h⟩
  | _ => exact .inr h
theorem bRange_some {vs : List AV} {H : AHeap} {r : AV × AHeap} (h : bRange vs H = some r) : (∃ n, vs = [.int n] ∧ r = (.range 0 n, H)) ∨ ∃ a b, vs = [.int a, .int b] ∧ r = (.range a b, H) := by
  match vs, h with
  | [v], h =>
    have h' : (match asI v with | some n => pure (.range 0 n) | none => stuck : M AV) H = some r := h
    cases hv : asI v with
    | none => simp only [hv] at h'; exact (stuck_some (H := H) h').elim
    | some n => simp only [hv] at h'; cases h'; exact .inl ⟨n, by rw [asI_some hv], rfl⟩
  | [v, w], h =>
    have h' : (match asI v with | some a => (match asI w with | some b => pure (.range a b) | none => stuck) | none => stuck : M AV) H = some r := h
    cases hv : asI v with
    | none => simp only [hv] at h'; exact (stuck_some (H := H) h').elim
    | some a =>
      cases hw : asI w with
      | none => simp only [hv, hw] at h'; exact (stuck_some (H := H) h').elim
      | some b => simp only [hv, hw] at h'; cases h'; exact .inr ⟨a, b, by rw [asI_some hv, asI_some hw], rfl⟩
  | [], h => exact (stuck_some (H := H) h).elim
  | _ :: _ :: _ :: _, h => exact (stuck_some (H := H) h).elim
theorem bMin_some {vs : List AV} {H : AHeap} {r : AV × AHeap} (h : bMin vs H = some r) : ∃ a b, vs = [.int a, .int b] ∧ r = (.int (if b < a then b else a), H) := by
  match vs, h with
  | [v, w], h =>
    have h' : (match asI v with | some a => (match asI w with | some b => pure (.int (if b < a then b else a)) | none => stuck) | none => stuck : M AV) H = some r := h
    cases hv : asI v with
    | none => simp only [hv] at h'; exact (stuck_some (H := H) h').elim
    | some a =>
      cases hw : asI w with
      | none => simp only [hv, hw] at h'; exact (stuck_some (H := H) h').elim
      | some b => simp only [hv, hw] at h'; cases h'; exact ⟨a, b, by rw [asI_some hv, asI_some hw], rfl⟩
  | [], h => exact (stuck_some (H := H) h).elim
  | [_], h => exact (stuck_some (H := H) h).elim
  | _ :: _ :: _ :: _, h => exact (stuck_some (H := H) h).elim

theorem pBI_sound {mu : Bool} {b : BI} {as : List AV} {c : AV} {vs : List Value} {E : Value → Shared → Prop} (hh : A.handled = none) (S : St cx ι H s) (rs : VRs cx ι s.heap as vs) (h : pBI mu b as H = some (c, H')) :
    wpAny (model cx.prog cx.w) A (PySem.call (biV b) vs) (PostV cx ι s.heap c H') E s := by
  have hLIM := LIM_is
  have hSL := LIM_le
  cases b with
  | len =>
    replace h := one_some h
    obtain ⟨w0, rfl, h⟩ := h
    obtain ⟨v0, rfl, r⟩ := rs.inv1
    obtain ⟨xs, H1, h1, h2⟩ := bind_some h
    obtain ⟨rfl, rfl⟩ := pure_some h2
    obtain ⟨e0, l, ws, n, rfl, hl, hz, hvs⟩ := seqOf_sound S h1 r
    subst e0
    have hsz := hvs.size
    cases hl with
    | list hl => exact PySem.Calls.call_len_list hl.isList (by omega) (by rw [hsz]; exact PostV.same S _ (.int _ _))
    | tuple hl => exact P.len_tuple hl (by omega) (by rw [hsz]; exact PostV.same S _ (.int _ _))
  | list =>
    replace h := one_some h
    obtain ⟨w0, rfl, h⟩ := h
    replace h := bList_some h
    rcases h with ⟨ra, rb, rfl, h⟩ | h
    · obtain ⟨v0, rfl, r⟩ := rs.inv1
      cases r with | range hr hn =>
      split at h
      · rename_i hsm
        obtain ⟨q1, q2, q3⟩ := small_of hsm
        have hlen := newL_len h
        rw [rangeL, List.length_map, List.length_range] at hlen
        refine call_list_range hh hr q1 (range_count _ _) (by omega) fun h' tk acc' c' hk hL hit => ?_
        refine newL_post S h hk (get_size _) hL ?_
        refine VRs.of_items (f := fun (k : Nat) => .int (ra + (k : Int))) ⟨hit.1, fun j v hj => ?_⟩
        obtain ⟨t, rfl⟩ := hit.2 j v hj
        rw [Int.mul_one]; exact .int _ _
      · cases h
    · obtain ⟨v0, rfl, r⟩ := rs.inv1
      obtain ⟨xs, H1, h1, h2⟩ := bind_some h
      obtain ⟨e0, l, ws, n, rfl, hl, hz, hvs⟩ := seqOf_sound S h1 r
      subst e0
      have hsz := hvs.size
      obtain ⟨o, ho, hd, hc⟩ := hl.has
      rcases hc with hc | hc
      · exact call_list_seq l (.inl rfl) ho hc hd (fun h' c' hk hL => newL_post S h2 (t := s.toks) hk (get_size _) hL hvs) (by omega)
      · exact call_list_seq l (.inr rfl) ho hc hd (fun h' c' hk hL => newL_post S h2 (t := s.toks) hk (get_size _) hL hvs) (by omega)
  | tuple =>
    replace h := one_some h
    obtain ⟨w0, rfl, h⟩ := h
    obtain ⟨v0, rfl, r⟩ := rs.inv1
    obtain ⟨xs, H1, h1, h2⟩ := bind_some h
    obtain ⟨rfl, rfl⟩ := pure_some h2
    obtain ⟨e0, l, ws, n, rfl, hl, hz, hvs⟩ := listOf_sound S h1 r
    subst e0
    have hsz := hvs.size
    refine call_tuple_list hl.isList (fun h' hk => ?_) (by omega)
    have S₁ : St cx ι H' { s with heap := h' } := S.keeps (t := s.toks) hk
    exact ⟨ι, (Ext.keeps hk).trans (Ext.push _), S₁.push _, .tup (IsT.new _ _) (fresh_notin S₁) hz ((hvs.mono (Ext.keeps hk)).mono (Ext.push _))⟩
  | dict =>
    replace h := one_some h
    obtain ⟨w0, rfl, h⟩ := h
    obtain ⟨v0, rfl, r⟩ := rs.inv1
    cases r with
    | @loc l la hl =>
      have h' : (match H[l]? with | some (.dict es) => some (AV.loc H.length, H ++ [.dict es]) | _ => none) = some (c, H') := h
      split at h'
      · rename_i es hH
        cases h'
        obtain ⟨kvs, hd, h1, h2, hs⟩ := S.own _ _ _ hl hH
        have hln := congrArg List.length h2
        simp only [List.length_map] at hln
        refine kt_call_dict h1.1 hd (by omega) fun h' hd' hsb => ?_
        have hk : ∀ b q, s.heap.get? b = some q → h'.get? b = some q := fun b q e => (hsb.2 b (Nat.ne_of_lt (Heap.lt_size e))).trans (Heap.get?_push_of_some _ e)
        obtain ⟨e, S'⟩ := S.alloc (t := s.toks) (o := .dict es) hk (get_size _) (fun e => ⟨kvs, hd', ⟨S.not_sys (get_size _), h1.2⟩, h2, hs.mono e⟩)
        exact ⟨_, e, S', .loc (by rw [List.getElem?_append_right (by rw [S.len]; exact Nat.le_refl _)]; simp [S.len])⟩
      · cases h'
    | _ => exact (stuck_some (H := H) h).elim
  | int =>
    replace h := one_some h
    obtain ⟨w0, rfl, h⟩ := h
    obtain ⟨v0, rfl, r⟩ := rs.inv1
    cases r with
    | bool b0 =>
      obtain ⟨rfl, rfl⟩ := pure_some h
      exact call_int_bool (PostV.same S _ (.int _ _))
    | _ => exact (stuck_some (H := H) h).elim
  | range =>
    replace h := bRange_some h
    rcases h with ⟨n0, rfl, e⟩ | ⟨a0, b0, rfl, e⟩
    · cases e
      obtain ⟨v0, rfl, r⟩ := rs.inv1
      cases r
      exact call_range_1 ⟨ι, Ext.push _, (S.push _).tok _, .range (IsRange.new ..) (fresh_notin S)⟩
    · cases e
      obtain ⟨v0, v1, rfl, r, r1⟩ := rs.inv2
      cases r; cases r1
      exact call_range_2 ⟨ι, Ext.push _, (S.push _).tok _, .range (IsRange.new ..) (fresh_notin S)⟩
  | min =>
    replace h := bMin_some h
    obtain ⟨a0, b0, rfl, e⟩ := h
    cases e
    obtain ⟨v0, v1, rfl, r, r1⟩ := rs.inv2
    cases r; cases r1
    refine min_two_ints hh fun h' tk hk => ?_
    refine ⟨ι, Ext.keeps hk, S.keeps hk, ?_⟩
    split <;> exact .int _ _
  | max =>
    replace h := one_some h
    obtain ⟨w0, rfl, h⟩ := h
    obtain ⟨v0, rfl, r⟩ := rs.inv1
    obtain ⟨xs, H1, h1, h2⟩ := bind_some h
    obtain ⟨is, H2, h3, h4⟩ := bind_some h2
    obtain ⟨m, H3, h5, h6⟩ := bind_some h4
    obtain ⟨rfl, rfl⟩ := pure_some h6
    obtain ⟨h7, rfl⟩ := ofOpt_some h5
    obtain ⟨h8, rfl⟩ := ofOpt_some h3
    obtain ⟨e0, l, ws, n, rfl, hl, hz, hvs⟩ := listOf_sound S h1 r
    subst e0
    obtain ⟨ps, hps, his⟩ := ints_items hvs h8
    have hws : ws = intItems ps.toArray := by
      apply Array.ext'
      rw [hps]; simp [intItems]
    rw [hws] at hl
    cases is with
    | nil => cases h7
    | cons i0 is =>
      have hne : 0 < ps.toArray.size := by
        have := congrArg List.length his; simp at this; simp; omega
      refine max_intList hh hl.isList hne fun v h' tk hv hk => ?_
      obtain ⟨t, rfl⟩ := intItems_at hv
      obtain ⟨q1, q2⟩ := argBest_gt (numAt ps.toArray) (ps.toArray.size - 1)
      simp only [maxI, Option.some.injEq] at h7
      obtain ⟨m1, m2⟩ := foldl_max is i0
      rw [h7] at m1 m2
      have hget : ∀ j, j < ps.length → numAt ps.toArray j ∈ i0 :: is := fun j hj => by
        rw [numAt_eq, ← his]
        simp only [List.toList_toArray]
        rw [List.getD_eq_getElem?_getD, List.getElem?_eq_getElem (by simpa using hj), Option.getD_some]
        exact List.getElem_mem _
      have hm : numAt ps.toArray (argBest (fun i j => decide (numAt ps.toArray i > numAt ps.toArray j)) (ps.toArray.size - 1)) = m := by
        apply Int.le_antisymm
        · exact m2 _ (hget _ (by simp at q1 hne ⊢; omega))
        · rw [← his] at m1
          obtain ⟨j, hj, e⟩ := List.mem_iff_getElem.mp m1
          have hj' : j < ps.length := by simpa using hj
          have := q2 j (by simp; omega)
          rw [numAt_eq] at this
          simp only [List.toList_toArray] at this
          rw [List.getD_eq_getElem?_getD, List.getElem?_eq_getElem hj, e] at this
          exact this
      rw [hm]
      exact ⟨ι, Ext.keeps hk, S.keeps hk, .int _ _⟩
  | any =>
    replace h := one_some h
    obtain ⟨w0, rfl, h⟩ := h
    obtain ⟨v0, rfl, r⟩ := rs.inv1
    obtain ⟨xs, H1, h1, h2⟩ := bind_some h
    obtain ⟨bs, H2, h3, h4⟩ := bind_some h2
    obtain ⟨rfl, rfl⟩ := pure_some h4
    obtain ⟨h8, rfl⟩ := ofOpt_some h3
    obtain ⟨e0, l, ws, n, rfl, hl, hz, hvs⟩ := listOf_sound S h1 r
    subst e0
    have hb := bools_items hvs h8
    have hlt : l < s.heap.objs.size := Heap.lt_size hl
    refine call_any_walk (wpAny_pyIter_list hl.isList ?_)
    refine ⟨s.heap.objs.size, [s.heap.objs.size, l], [s.heap.objs.size], ws.size, _, _, fun i => (bs[i]?).getD false, rfl, Walks.list (A := A.in1) hh _ l (Nat.ne_of_lt hlt) ws,
      ⟨⟨_, Heap.get?_push_size _ rfl, rfl, rfl⟩, hl.isList.push _⟩, fun i v s' Q' E' hP hQ => ?_, fun h' tk hk => ?_⟩
    · have hP' : ws.toList[i]? = some v := by rw [Array.getElem?_toList]; exact hP
      rw [hb, List.getElem?_map] at hP'
      cases hbi : bs[i]? with
      | none => rw [hbi] at hP'; cases hP'
      | some q =>
        rw [hbi] at hP'
        dsimp only at hQ
        rw [hbi] at hQ
        cases hP'
        exact wpAny_truthy_bool hQ
    · have hk' : ∀ b q, s.heap.get? b = some q → h'.get? b = some q := fun b q e => hk b q (by
        intro hm; rw [List.mem_singleton.mp hm] at e; exact Nat.lt_irrefl _ (Heap.lt_size e)) (Heap.get?_push_of_some _ e)
      have e : ((List.range ws.size).any fun i => (bs[i]?).getD false) = bs.any id := by
        have hl' : ws.size = bs.length := by have := congrArg List.length hb; simpa using this
        rw [hl', Bool.eq_iff_iff, List.any_eq_true, List.any_eq_true]
        constructor
        · rintro ⟨i, hi, hx⟩
          have hi' := List.mem_range.mp hi
          rw [List.getElem?_eq_getElem hi'] at hx
          exact ⟨bs[i], List.getElem_mem hi', hx⟩
        · rintro ⟨q, hq, hx⟩
          obtain ⟨i, hi, rfl⟩ := List.mem_iff_getElem.mp hq
          exact ⟨i, List.mem_range.mpr hi, by rw [List.getElem?_eq_getElem hi]; exact hx⟩
      rw [e]
      exact ⟨ι, Ext.keeps hk', S.keeps hk', .bool _⟩
  | sorted =>
    replace h := one_some h
    obtain ⟨w0, rfl, h⟩ := h
    obtain ⟨v0, rfl, r⟩ := rs.inv1
    obtain ⟨xs, H1, h1, h2⟩ := bind_some h
    obtain ⟨is, H2, h3, h4⟩ := bind_some h2
    obtain ⟨h8, rfl⟩ := ofOpt_some h3
    obtain ⟨e0, l, ws, n, rfl, hl, hz, hvs⟩ := listOf_sound S h1 r
    subst e0
    split at h4
    · rename_i h64
      obtain ⟨ps, hps, his⟩ := ints_items hvs h8
      have hI : IntsAre ws.toList is := by
        rw [hps, ← his]; exact intsAre_pairs ps
      have hl' : s.heap.IsList l ws.toList.toArray := by simpa using hl.isList
      refine sorted_ints hl' hI (by rw [hps, List.length_map]; have := congrArg List.length his; rw [List.length_map] at this; omega) fun out ns' a1 a2 a3 => ?_
      obtain ⟨e, he⟩ := sortedAll_at s.heap ws.toList out
      have hns : ns' = sortI is := perm_sorted (a2.trans (List.mergeSort_perm _ _).symm) a3 (by
        have := List.pairwise_mergeSort (le := fun (a b : Int) => decide (a ≤ b)) (by intro a b c; simp; omega) (by intro a b; simp; omega) is
        simpa [sortI] using this)
      have hget : s.heap.get? (s.heap.objs.size + 1) = none := by
        cases e : s.heap.get? (s.heap.objs.size + 1) with
        | none => rfl
        | some o => exact absurd (Heap.lt_size e) (Nat.not_lt.mpr (Nat.le_succ _))
      refine newL_post S h4 (t := s.toks) (fun b q => sortedAll_old) hget (vs := out) (n := e) he ?_
      rw [← hns]
      exact vrs_ints a1
    · cases h4
end
end Mine


set_option autoImplicit false
set_option linter.unusedVariables false
namespace Mine
open PySem PyProof.Rows PySem.SeqAt

def EvOK (cx : Cx) (A : Around) (env : Env) (I : List Addr → Heap → Prop) (ev : Expr → M AV) : Prop :=
  ∀ (e : Expr) (ι : List Addr) (H : AHeap) (s : Shared) (a : AV) (H' : AHeap), St cx ι H s → I ι s.heap → ev e H = some (a, H') → wpAny (model cx.prog cx.w) A (eval e env) (PostV cx ι s.heap a H') noE s
def Stable (I : List Addr → Heap → Prop) : Prop := ∀ ι ι' h h', I ι h → Ext ι ι' h h' → I ι' h'

section
variable {cx : Cx} {A : Around} {ι : List Addr} {H H' : AHeap} {s : Shared} {env : Env} {I : List Addr → Heap → Prop} {ev : Expr → M AV}

def PostVs (cx : Cx) (ι : List Addr) (h : Heap) (as : List AV) (H' : AHeap) : List Value → Shared → Prop :=
  fun vs s' => ∃ ι', Ext ι ι' h s'.heap ∧ St cx ι' H' s' ∧ VRs cx ι' s'.heap as vs

theorem starEach_cons {e : Expr} {r : List Expr} (h : ∀ x p, e ≠ .Starred x p) : starEach (e :: r) env = (false, eval e env) :: starEach r env := by
  cases e <;> first | rfl | exact absurd rfl (h _ _)

theorem each_sound (hS : ∀ x p H, ev (.Starred x p) H = none) (hst : Stable I) (hev : EvOK cx A env I ev) (pos : Pos) : ∀ (es : List Expr) {ι : List Addr} {H H' : AHeap} {s : Shared} {as : List AV}, St cx ι H s → I ι s.heap → evEach ev es H = some (as, H') →
    wpAny (model cx.prog cx.w) A (spliced (backTo pos (starEach es env))) (PostVs cx ι s.heap as H') noE s
  | [], ι, H, H', s, as, S, i, h => by
    obtain ⟨rfl, rfl⟩ := pure_some h
    exact Calls.spliced_nil ⟨ι, Ext.refl _ _, S, .nil⟩
  | e :: r, ι, H, H', s, as, S, i, h => by
    obtain ⟨a, H1, h1, h2⟩ := bind_some h
    obtain ⟨bs, H2, h3, h4⟩ := bind_some h2
    obtain ⟨rfl, rfl⟩ := pure_some h4
    have hne : ∀ x p, e ≠ .Starred x p := fun x p q => by subst q; rw [hS] at h1; cases h1
    rw [starEach_cons hne]
    show wpAny _ _ (spliced ((false, eval e env) :: backTo pos (starEach r env))) _ _ _
    refine Calls.spliced_cons (wpAny_mono (hev e ι H s a H1 S i h1) (fun v s₁ h₁ => ?_) fun _ _ x => x)
    obtain ⟨ι₁, e1, S₁, r1⟩ := h₁
    refine wpAny_mono (each_sound hS hst hev pos r S₁ (hst _ _ _ _ i e1) h3) (fun vs s₂ h₂ => ?_) fun _ _ x => x
    obtain ⟨ι₂, e2, S₂, r2⟩ := h₂
    exact ⟨ι₂, e1.trans e2, S₂, .cons (r1.mono e2) r2⟩

theorem truth_some {a : AV} {b : Bool} (h : truth a H = some (b, H')) : a = .bool b ∧ H' = H := by
  cases a <;> first | (cases h; done) | skip
  obtain ⟨rfl, rfl⟩ := pure_some h
  exact ⟨rfl, rfl⟩

theorem bOp_sound (hst : Stable I) (hev : EvOK cx A env I ev) (pos : Pos) (op : BoolOp) : ∀ (es : List Expr) {ι : List Addr} {H H' : AHeap} {s : Shared} {a : AV}, St cx ι H s → I ι s.heap → bOp ev op es H = some (a, H') →
    wpAny (model cx.prog cx.w) A (boolOp pos op (evalEach es env)) (PostV cx ι s.heap a H') noE s
  | [], ι, H, H', s, a, S, i, h => by cases h
  | [e], ι, H, H', s, a, S, i, h => hev e ι H s a H' S i h
  | e :: e2 :: r, ι, H, H', s, a, S, i, h => by
    obtain ⟨v, H1, h1, h2⟩ := bind_some h
    obtain ⟨t, H2, h3, h4⟩ := bind_some h2
    obtain ⟨rfl, rfl⟩ := truth_some h3
    show wpAny _ _ (boolOp pos op (eval e env :: eval e2 env :: evalEach r env)) _ _ _
    rw [boolOp]
    refine wpAny_bind (wpAny_mono (hev e ι H s _ _ S i h1) (fun v s₁ h₁ => ?_) fun _ _ x => x)
    · obtain ⟨ι₁, e1, S₁, r1⟩ := h₁
      cases r1
      refine wpAny_bind (wpAny_standAt (wpAny_bind (wpAny_holding (wpAny_truthy_bool ?_))))
      have hrec : bOp ev op (e2 :: r) H2 = some (a, H') → wpAny (model cx.prog cx.w) A (boolOp pos op (evalEach (e2 :: r) env)) (PostV cx ι s.heap a H') noE s₁ := fun hq =>
        wpAny_mono (bOp_sound hst hev pos op (e2 :: r) S₁ (hst _ _ _ _ i e1) hq) (fun v s₂ h₂ => h₂.trans e1) fun _ _ x => x
      cases op <;> cases t
      · obtain ⟨rfl, rfl⟩ := pure_some h4; exact wpAny_pure ⟨ι₁, e1, S₁, .bool _⟩
      · exact hrec h4
      · exact hrec h4
      · obtain ⟨rfl, rfl⟩ := pure_some h4; exact wpAny_pure ⟨ι₁, e1, S₁, .bool _⟩
    · intro hx; cases hx

theorem markedBehind {op : CmpOp} {e : Expr} {t : Sem Value} (h : ∀ es k p, e ≠ .Set es k p) : markedBehindIn op e t = t := by
  unfold markedBehindIn
  cases e <;> first | rfl | exact absurd rfl (h _ _ _)
theorem marked_cons {op op' : CmpOp} {ops : List CmpOp} {e e' : Expr} {es : List Expr} : markedEach (op :: op' :: ops) (e :: e' :: es) (evalEach (e :: e' :: es) env) = eval e env :: markedEach (op' :: ops) (e' :: es) (evalEach (e' :: es) env) := rfl

def PostB (cx : Cx) (ι : List Addr) (h : Heap) (b : Bool) (H' : AHeap) : Bool → Shared → Prop := fun c s' => c = b ∧ ∃ ι', Ext ι ι' h s'.heap ∧ St cx ι' H' s'


theorem compareChain_two {pos : Pos} {v : Value} {op op' : CmpOp} {ops : List CmpOp} {x : Sem Value} {T : List (Sem Value)} : compareChain pos v (op :: op' :: ops) (x :: T) = (do
    let rv ← holding [v] x
    standAt pos
    let c ← holding [v, rv] (compareOp op v rv)
    release [v, rv] [c]
    if ← holding [c, rv] (truthy c) then compareChain pos rv (op' :: ops) T else pure c) := by
  rw [compareChain]
  intro q
  cases q
theorem testChain_two {pos : Pos} {v : Value} {op op' : CmpOp} {ops : List CmpOp} {x : Sem Value} {T : List (Sem Value)} : testChain pos v (op :: op' :: ops) (x :: T) = (do
    let rv ← holding [v] x
    standAt pos
    let c ← holding [v, rv] (compareOp op v rv)
    release [v, rv] [c]
    if ← holding [c, rv] (truthy c) then testChain pos rv (op' :: ops) T else pure false) := by
  rw [testChain]
  intro q
  cases q

theorem chain_sound (R : Room A) (hSet : ∀ es k p H, ev (.Set es k p) H = none) (hst : Stable I) (hev : EvOK cx A env I ev) (pos : Pos) : ∀ (ops : List CmpOp) (es : List Expr) {ι : List Addr} {H H' : AHeap} {s : Shared} {a : AV} {v : Value} {b : Bool},
    St cx ι H s → I ι s.heap → VR cx ι s.heap a v → chain ev a ops es H = some (b, H') →
    wpAny (model cx.prog cx.w) A (compareChain pos v ops (markedEach ops es (evalEach es env))) (PostV cx ι s.heap (.bool b) H') noE s
  | [], _, ι, H, H', s, a, v, b, S, i, r, h => by cases h
  | [op], [], ι, H, H', s, a, v, b, S, i, r, h => by cases h
  | [op], _ :: _ :: _, ι, H, H', s, a, v, b, S, i, r, h => by cases h
  | _ :: _ :: _, [], ι, H, H', s, a, v, b, S, i, r, h => by cases h
  | op :: op' :: ops, [e], ι, H, H', s, a, v, b, S, i, r, h => by cases h
  | [op], [e], ι, H, H', s, a, v, b, S, i, r, h => by
    obtain ⟨w, H1, h1, h2⟩ := bind_some h
    have hne : ∀ es k p, e ≠ .Set es k p := fun es k p q => by subst q; rw [hSet] at h1; cases h1
    show wpAny _ _ (compareChain pos v [op] [markedBehindIn op e (eval e env)]) _ _ _
    rw [markedBehind hne, compareChain]
    refine wpAny_bind (wpAny_holding (wpAny_mono (hev e ι H s _ _ S i h1) (fun w' s₁ h₁ => ?_) fun _ _ x => x))
    obtain ⟨ι₁, e1, S₁, r1⟩ := h₁
    refine wpAny_bind (wpAny_standAt (wpAny_operating ?_))
    exact wpAny_mono (pCmp_sound R S₁ (r.mono e1) r1 h2) (fun x s₂ h₂ => h₂.2.trans e1) fun _ _ x => x
  | op :: op' :: ops, e :: e' :: es, ι, H, H', s, a, v, b, S, i, r, h => by
    obtain ⟨w, H1, h1, h2⟩ := bind_some h
    obtain ⟨t, H2, h3, h4⟩ := bind_some h2
    rw [marked_cons]
    generalize hT : markedEach (op' :: ops) (e' :: es) (evalEach (e' :: es) env) = T
    rw [compareChain_two]
    refine wpAny_bind (wpAny_holding (wpAny_mono (hev e ι H s _ _ S i h1) (fun w' s₁ h₁ => ?_) fun _ _ x => x))
    obtain ⟨ι₁, e1, S₁, r1⟩ := h₁
    refine wpAny_bind (wpAny_standAt (wpAny_bind (wpAny_holding (wpAny_mono (pCmp_sound R S₁ (r.mono e1) r1 h3) (fun x s₂ h₂ => ?_) fun _ _ x => x))))
    obtain ⟨rfl, ι₂, e2, S₂, r2⟩ := h₂
    refine wpAny_bind (wpAny_release' (wpAny_bind (wpAny_holding (wpAny_truthy_bool ?_))))
    cases t with
    | true =>
      simp only [if_true]
      rw [← hT]
      exact wpAny_mono (chain_sound R hSet hst hev pos (op' :: ops) (e' :: es) S₂ (hst _ _ _ _ i (e1.trans e2)) (r1.mono e2) h4) (fun x s₃ h₃ => h₃.trans (e1.trans e2)) fun _ _ x => x
    | false =>
      obtain ⟨rfl, rfl⟩ := pure_some h4
      simp only [Bool.false_eq_true, if_false]
      exact wpAny_pure ⟨ι₂, e1.trans e2, S₂, .bool _⟩

theorem testChain_sound (R : Room A) (hSet : ∀ es k p H, ev (.Set es k p) H = none) (hst : Stable I) (hev : EvOK cx A env I ev) (pos : Pos) : ∀ (ops : List CmpOp) (es : List Expr) {ι : List Addr} {H H' : AHeap} {s : Shared} {a : AV} {v : Value} {b : Bool},
    St cx ι H s → I ι s.heap → VR cx ι s.heap a v → chain ev a ops es H = some (b, H') →
    wpAny (model cx.prog cx.w) A (testChain pos v ops (markedEach ops es (evalEach es env))) (PostB cx ι s.heap b H') noE s
  | [], _, ι, H, H', s, a, v, b, S, i, r, h => by cases h
  | [op], [], ι, H, H', s, a, v, b, S, i, r, h => by cases h
  | [op], _ :: _ :: _, ι, H, H', s, a, v, b, S, i, r, h => by cases h
  | _ :: _ :: _, [], ι, H, H', s, a, v, b, S, i, r, h => by cases h
  | op :: op' :: ops, [e], ι, H, H', s, a, v, b, S, i, r, h => by cases h
  | [op], [e], ι, H, H', s, a, v, b, S, i, r, h => by
    obtain ⟨w, H1, h1, h2⟩ := bind_some h
    have hne : ∀ es k p, e ≠ .Set es k p := fun es k p q => by subst q; rw [hSet] at h1; cases h1
    show wpAny _ _ (testChain pos v [op] [markedBehindIn op e (eval e env)]) _ _ _
    rw [markedBehind hne, testChain]
    refine wpAny_bind (wpAny_holding (wpAny_mono (hev e ι H s _ _ S i h1) (fun w' s₁ h₁ => ?_) fun _ _ x => x))
    obtain ⟨ι₁, e1, S₁, r1⟩ := h₁
    refine wpAny_bind (wpAny_standAt (wpAny_bind (wpAny_operating ?_)))
    refine wpAny_mono (pCmp_sound R S₁ (r.mono e1) r1 h2) (fun x s₂ h₂ => ?_) fun _ _ x => x
    obtain ⟨rfl, ι₂, e2, S₂, r2⟩ := h₂
    exact wpAny_holding (wpAny_truthy_bool ⟨rfl, ι₂, e1.trans e2, S₂⟩)
  | op :: op' :: ops, e :: e' :: es, ι, H, H', s, a, v, b, S, i, r, h => by
    obtain ⟨w, H1, h1, h2⟩ := bind_some h
    obtain ⟨t, H2, h3, h4⟩ := bind_some h2
    rw [marked_cons]
    generalize hT : markedEach (op' :: ops) (e' :: es) (evalEach (e' :: es) env) = T
    rw [testChain_two]
    refine wpAny_bind (wpAny_holding (wpAny_mono (hev e ι H s _ _ S i h1) (fun w' s₁ h₁ => ?_) fun _ _ x => x))
    obtain ⟨ι₁, e1, S₁, r1⟩ := h₁
    refine wpAny_bind (wpAny_standAt (wpAny_bind (wpAny_holding (wpAny_mono (pCmp_sound R S₁ (r.mono e1) r1 h3) (fun x s₂ h₂ => ?_) fun _ _ x => x))))
    obtain ⟨rfl, ι₂, e2, S₂, r2⟩ := h₂
    refine wpAny_bind (wpAny_release' (wpAny_bind (wpAny_holding (wpAny_truthy_bool ?_))))
    cases t with
    | true =>
      simp only [if_true]
      rw [← hT]
      refine wpAny_mono (testChain_sound R hSet hst hev pos (op' :: ops) (e' :: es) S₂ (hst _ _ _ _ i (e1.trans e2)) (r1.mono e2) h4) (fun x s₃ h₃ => ?_) fun _ _ x => x
      obtain ⟨rfl, ι₃, e3, S₃⟩ := h₃
      exact ⟨rfl, ι₃, (e1.trans e2).trans e3, S₃⟩
    | false =>
      obtain ⟨rfl, rfl⟩ := pure_some h4
      simp only [Bool.false_eq_true, if_false]
      exact wpAny_pure ⟨rfl, ι₂, e1.trans e2, S₂⟩

/-- a test, as if, while and comprehensions ask it -/
def TeOK (cx : Cx) (A : Around) (env : Env) (I : List Addr → Heap → Prop) (te : Expr → M Bool) : Prop :=
  ∀ (e : Expr) (ι : List Addr) (H : AHeap) (s : Shared) (b : Bool) (H' : AHeap), St cx ι H s → I ι s.heap → te e H = some (b, H') → wpAny (model cx.prog cx.w) A (isTrue e env (eval e env)) (PostB cx ι s.heap b H') noE s

theorem tests_sound {te : Expr → M Bool} (hst : Stable I) (hte : TeOK cx A env I te) (op : BoolOp) : ∀ (es : List Expr) {ι : List Addr} {H H' : AHeap} {s : Shared} {b : Bool}, St cx ι H s → I ι s.heap → tests te op es H = some (b, H') →
    wpAny (model cx.prog cx.w) A (allTrue op es env) (PostB cx ι s.heap b H') noE s
  | [], ι, H, H', s, b, S, i, h => by
    obtain ⟨rfl, rfl⟩ := pure_some h
    rw [allTrue]
    exact wpAny_pure ⟨rfl, ι, Ext.refl _ _, S⟩
  | e :: r, ι, H, H', s, b, S, i, h => by
    obtain ⟨t, H1, h1, h2⟩ := bind_some h
    rw [allTrue]
    refine wpAny_bind (wpAny_mono (hte e ι H s _ _ S i h1) (fun c s₁ h₁ => ?_) fun _ _ x => x)
    obtain ⟨rfl, ι₁, e1, S₁⟩ := h₁
    have hrec : tests te op r H1 = some (b, H') → wpAny (model cx.prog cx.w) A (allTrue op r env) (PostB cx ι s.heap b H') noE s₁ := fun hq =>
      wpAny_mono (tests_sound hst hte op r S₁ (hst _ _ _ _ i e1) hq) (fun c s₂ h₂ => by obtain ⟨rfl, ι₂, e2, S₂⟩ := h₂; exact ⟨rfl, ι₂, e1.trans e2, S₂⟩) fun _ _ x => x
    cases op <;> cases c
    · obtain ⟨rfl, rfl⟩ := pure_some h2; exact wpAny_pure ⟨rfl, ι₁, e1, S₁⟩
    · exact hrec h2
    · exact hrec h2
    · obtain ⟨rfl, rfl⟩ := pure_some h2; exact wpAny_pure ⟨rfl, ι₁, e1, S₁⟩

theorem denT_sound (R : Room A) (hSet : ∀ es k p H, ev (.Set es k p) H = none) (hIf : ∀ t b o p H, ev (.IfExp t b o p) H = none) (hst : Stable I) (hev : EvOK cx A env I ev) : ∀ n : Nat, TeOK cx A env I (denT ev n)
  | 0 => fun e ι H s b H' S i h => (stuck_some (H := H) h).elim
  | n + 1 => fun e ι H s b H' S i h => by
    have ih := denT_sound R hSet hIf hst hev n
    have hfin : plainT ev e H = some (b, H') → wpAny (model cx.prog cx.w) A (do let v ← eval e env; standAt e.pos; holding [v] (truthy v)) (PostB cx ι s.heap b H') noE s := fun h => by
      obtain ⟨a, H1, h1, h2⟩ := bind_some h
      obtain ⟨rfl, rfl⟩ := truth_some h2
      refine wpAny_bind (wpAny_mono (hev e ι H s _ _ S i h1) (fun v s₁ h₁ => ?_) fun _ _ x => x)
      obtain ⟨ι₁, e1, S₁, r1⟩ := h₁
      cases r1
      exact wpAny_bind (wpAny_standAt (wpAny_holding (wpAny_truthy_bool ⟨rfl, ι₁, e1, S₁⟩)))
    cases e with
    | UnaryOp op x p =>
      cases op with
      | Not =>
        obtain ⟨c, H1, h1, h2⟩ := bind_some (show (do let b ← denT ev n x; pure (!b) : M Bool) H = some (b, H') from h)
        obtain ⟨rfl, rfl⟩ := pure_some h2
        refine isTrue_not (wpAny_mono (ih _ ι H s _ _ S i h1) (fun c s₁ h₁ => ?_) fun _ _ x => x)
        obtain ⟨rfl, r⟩ := h₁
        exact ⟨rfl, r⟩
      | _ => exact hfin h
    | BoolOp op vs p => exact wpAny_isTrue_BoolOp (tests_sound hst ih _ _ S i h)
    | Compare l ops cs p =>
      obtain ⟨a, H1, h1, h2⟩ := bind_some (show (do let a ← ev l; chain ev a ops cs : M Bool) H = some (b, H') from h)
      rw [arm_isTrue_Compare]
      refine wpAny_bind (wpAny_mono (hev _ ι H s _ _ S i h1) (fun v s₁ h₁ => ?_) fun _ _ x => x)
      obtain ⟨ι₁, e1, S₁, r1⟩ := h₁
      refine wpAny_mono (testChain_sound R hSet hst hev _ _ _ S₁ (hst _ _ _ _ i e1) r1 h2) (fun c s₂ h₂ => ?_) fun _ _ x => x
      obtain ⟨rfl, ι₂, e2, S₂⟩ := h₂
      exact ⟨rfl, ι₂, e1.trans e2, S₂⟩
    | IfExp t b o p =>
      obtain ⟨a, H1, h1, h2⟩ := bind_some (show plainT ev (.IfExp t b o p) H = _ from h)
      rw [hIf] at h1; cases h1
    | _ => exact hfin h
end
end Mine


set_option autoImplicit false
set_option linter.unusedVariables false
namespace Mine
open PySem PyProof.Rows PySem.SeqAt

section
variable {cx : Cx} {A : Around} {ι : List Addr} {H H' : AHeap} {s : Shared}

/-- the methods of lists that are called here -/
inductive LM : Str → String → Prop
  | append : LM "append" "list.append"
  | pop : LM "pop" "list.pop"
  | clear : LM "clear" "list.clear"
  | count : LM "count" "list.count"

theorem listOf_list (S : St cx ι H s) {a : AV} {v : Value} {xs : List AV} (h : listOf a H = some (xs, H')) (r : VR cx ι s.heap a v) : H' = H ∧ ∃ l vs n, v = .ref l ∧ IsL s.heap l vs n := by
  obtain ⟨e, l, vs, n, e2, hl, _⟩ := listOf_sound S h r
  exact ⟨e, l, vs, n, e2, hl⟩

theorem toList_eraseIdx (vs : Array Value) (k : Nat) (hk : k < vs.size) : (vs.eraseIdxIfInBounds k).toList = vs.toList.eraseIdx k := by
  rw [Array.eraseIdxIfInBounds, dif_pos hk]; simp

theorem mapM_reads (S : St cx ι H s) {xs : List AV} {vs : List Value} {ds : List PyData} {n : Nat} (r : VRs cx ι s.heap xs vs) (h : xs.mapM (rd H n) = some ds) : ∃ as, ReadsAll s.heap vs ds as ∧ PyData.canLayAll0 ds = true ∧ PyData.depthAll ds ≤ n :=
  rds_sound n (fun r h => rd_sound S n r h) r h

theorem count_by {h : Heap} {vs : Array Value} {ds : List PyData} {as : List Addr} {d : PyData} (rs : ReadsAll h vs.toList ds as) (hc : PyData.canLayAll0 ds = true) :
    vs.toList.countP (fun y => PyData.eqv (readOf h y) d) = ds.countP (fun y => PyData.eqv y d) := by
  rw [← readsAll_map ds _ _ hc rs, List.countP_map]; rfl

theorem St.listTurn (S : St cx ι H s) {l0 : Nat} {a : Addr} {ws : Array Value} {n : Nat} {xs' : List AV} (f : Array Value → Array Value) (hl : ι[l0]? = some a) (hL : IsL s.heap a ws n) (hz : xs'.length ≤ LIM) (hs : VRs cx ι s.heap xs' (f ws).toList) :
    Ext ι ι s.heap (s.heap.update a (Obj.mapSeq f)) ∧ St cx ι (H.set l0 (.list xs')) { s with heap := s.heap.update a (Obj.mapSeq f) } :=
  S.turn (t := s.toks) (o := .list xs') hl (fun b q hb e => (Heap.get?_update_other _ _ (Ne.symm hb)).trans e) (fun e => ⟨_, _, IsL.update hL f, hz, hs.mono e⟩)

theorem call_count {l : Addr} {vs : Array Value} {n : Nat} {xs : List AV} {x : Value} {a : AV} {ys : List PyData} {y : PyData} {E : Value → Shared → Prop} {Q : Value → Shared → Prop} (R : Room A) (S : St cx ι H s) (hl : IsL s.heap l vs n)
    (rs : VRs cx ι s.heap xs vs.toList) (ra : VR cx ι s.heap a x) (h1 : xs.mapM (rd H 7) = some ys) (h2 : rd H 8 a = some y) (h : Q (.int (ys.countP fun z => PyData.eqv z y : Nat) s.toks) { s with toks := s.toks + 1 }) :
    wpAny (model cx.prog cx.w) A (PySem.call (.builtin "list.count") [.ref l, x]) Q E s := by
  obtain ⟨as, q1, q2, q3⟩ := mapM_reads S rs h1
  obtain ⟨bs, p1, p2, p3⟩ := rd_sound S 8 ra h2
  refine call_meets F.slot_list_count ⟨_, hl, rfl⟩ F.entry_list_count (F.args_list_count_2 _ _) (list_countAt l vs n none #[] x (fun y' => PyData.eqv (readOf s.heap y') y)) ⟨hl, ?_, ?_⟩
  · exact items_eqAt q1 p1 q2 p2 (by have := Nat.min_le_right (PyData.depthAll ys) y.depth; unfold Room at R; omega)
  · rw [count_by q1 q2]; exact h

theorem pMeth_sound {m : Str} {o c : AV} {as : List AV} {v : Value} {vs : List Value} {E : Value → Shared → Prop} (R : Room A) (S : St cx ι H s) (ro : VR cx ι s.heap o v) (rs : VRs cx ι s.heap as vs) (h : pMeth m o as H = some (c, H')) :
    ∃ id, LM m id ∧ wpAny (model cx.prog cx.w) A (PySem.call (.builtin id) (v :: vs)) (PostV cx ι s.heap c H') E s := by
  have hLIM := LIM_is
  have hSL := LIM_le
  unfold pMeth at h
  split at h
  · rename_i l0
    split at h
    · rename_i xs hH
      cases ro with | loc hl =>
      obtain ⟨ws, n, hL, hz, hs⟩ := S.own _ _ _ hl hH
      have hsz := hs.size
      split at h
      · -- append
        rename_i hm; subst hm
        split at h
        · split at h
          · rename_i a hlen
            cases h
            obtain ⟨x, rfl, ra⟩ := rs.inv1
            refine ⟨_, .append, call_meets F.slot_list_append ⟨_, hL, rfl⟩ F.entry_list_append (F.args_list_append_2 _ _) (list_append _ ws n x (by omega)) ⟨hL, ?_⟩⟩
            obtain ⟨e, S'⟩ := S.listTurn (xs' := xs ++ [a]) (fun x1 => x1.push x) hl hL (by rw [List.length_append]; simp; omega) (by rw [Array.toList_push]; exact hs.append (.one ra))
            exact ⟨ι, e, S', .none⟩
          · cases h
        · cases h
      · split at h
        · -- pop
          rename_i hm; subst hm
          split at h
          · split at h
            · rename_i y hy
              cases h
              cases rs
              obtain ⟨yv, hyv, ry⟩ := hs.get hy
              have hlt : xs.length - 1 < xs.length := (List.getElem?_eq_some_iff.mp hy).1
              refine ⟨_, .pop, call_meets F.slot_list_pop ⟨_, hL, rfl⟩ F.entry_list_pop (F.args_list_pop_1 _) (MeetsSeq.list_pop_last _ ws n yv (by rw [← Array.getElem?_toList, hsz]; exact hyv) (by omega)) ⟨hL, ?_⟩⟩
              obtain ⟨e, S'⟩ := S.listTurn (xs' := xs.eraseIdx (xs.length - 1)) (fun x1 => x1.eraseIdxIfInBounds (ws.size - 1)) hl hL (by have := List.length_eraseIdx_le xs (xs.length - 1); omega)
                (by rw [toList_eraseIdx _ _ (by omega), hsz]; exact hs.eraseIdx _)
              exact ⟨ι, e, S', ry.mono e⟩
            · cases h
          · split at h
            · rename_i k hk
              split at h
              · rename_i y hy
                cases h
                obtain ⟨x, rfl, ra⟩ := rs.inv1
                cases ra
                obtain ⟨yv, hyv, ry⟩ := hs.get hy
                refine ⟨_, .pop, call_meets F.slot_list_pop ⟨_, hL, rfl⟩ F.entry_list_pop (F.args_list_pop_2 _ _)
                  (MeetsSeq.list_pop_at _ ws n k _ k.toNat yv (fitsIndex_of hk.1 (by omega)) (seqIndex_of hk.1 (by omega)) (by rw [← Array.getElem?_toList]; exact hyv) (by omega)) ⟨hL, ?_⟩⟩
                obtain ⟨e, S'⟩ := S.listTurn (xs' := xs.eraseIdx k.toNat) (fun x1 => x1.eraseIdxIfInBounds k.toNat) hl hL (by have := List.length_eraseIdx_le xs k.toNat; omega)
                  (by rw [toList_eraseIdx _ _ (by omega)]; exact hs.eraseIdx _)
                exact ⟨ι, e, S', ry.mono e⟩
              · cases h
            · cases h
          · cases h
        · split at h
          · -- clear
            rename_i hm; subst hm
            split at h
            · cases h
              cases rs
              refine ⟨_, .clear, call_meets F.slot_list_clear ⟨_, hL, rfl⟩ F.entry_list_clear (F.args_list_clear_1 _) (AutoSeq1.list_clear_list_0 _ ws n (by omega)) ⟨hL, ?_⟩⟩
              obtain ⟨e, S'⟩ := S.listTurn (xs' := []) (fun _ => #[]) hl hL (Nat.zero_le _) .nil
              exact ⟨ι, e, S', .none⟩
            · cases h
          · split at h
            · -- count
              rename_i hm; subst hm
              split at h
              · split at h
                · rename_i ys y h1 h2
                  cases h
                  obtain ⟨x, rfl, ra⟩ := rs.inv1
                  exact ⟨_, .count, call_count R S hL hs ra h1 h2 (PostV.same S _ (.int _ _))⟩
                · cases h
              · cases h
            · cases h
    · cases h
  · split at h
    · rename_i hm; subst hm
      split at h
      · split at h
        · rename_i ys y h1 h2
          cases h
          cases ro with | lst hL hn hz hs =>
          obtain ⟨x, rfl, ra⟩ := rs.inv1
          exact ⟨_, .count, call_count R S hL hs ra h1 h2 (PostV.same S _ (.int _ _))⟩
        · cases h
      · cases h
    · cases h
  · cases h
end
end Mine


set_option autoImplicit false
set_option linter.unusedVariables false
namespace Mine
open PySem PyProof.Rows PySem.SeqAt

/-- an object that no abstract value reads -/
def NotData (o : Obj) : Prop := (∀ vs n, o.data ≠ .seq vs n) ∧ ((∀ vs, o.data ≠ .fields vs) ∨ o.cls ≠ .type "range")

section
variable {cx : Cx} {A : Around} {ι : List Addr} {H H' : AHeap} {s : Shared}

/-- what is kept but for the private objects p -/
theorem Tn.buts {h h' : Heap} {p : Addr → Prop} (hp : ∀ b o, p b → h.get? b = some o → NotData o) (hb : ∀ b, p b → cx.h₀.get? b = none) (hk : ∀ b o, ¬ p b → h.get? b = some o → h'.get? b = some o) : Tn cx cx ι ι h h' where
  same := ⟨rfl, rfl, rfl⟩
  tup := fun _ _ _ ht hn => ⟨hk _ _ (fun e => (hp _ _ e ht).1 _ _ rfl) ht, hn⟩
  lst := fun _ _ _ ht hn => ⟨hk _ _ (fun e => (hp _ _ e ht).1 _ _ rfl) ht, hn⟩
  loc := fun _ _ hl => hl
  range := fun _ _ _ _ _ _ hr hn => ⟨hk _ _ (fun e => by rcases (hp _ _ e hr).2 with q | q; exact q _ rfl; exact q rfl) hr, hn⟩
  dict := fun _ _ ho hn hsm => ⟨hk _ _ (fun e' => by obtain ⟨o', q⟩ := hsm; rw [hb _ e'] at q; cases q) ho, hn⟩
theorem Tn.but {h h' : Heap} {c : Addr} (hp : ∀ o, h.get? c = some o → NotData o) (hb : cx.h₀.get? c = none) (hk : ∀ b o, b ≠ c → h.get? b = some o → h'.get? b = some o) : Tn cx cx ι ι h h' :=
  .buts (p := fun b => b = c) (fun b o e => e ▸ hp o) (fun b e => e ▸ hb) hk
theorem VR.but {h h' : Heap} {c : Addr} (hp : ∀ o, h.get? c = some o → NotData o) (hb : cx.h₀.get? c = Option.none) (hk : ∀ b o, b ≠ c → h.get? b = some o → h'.get? b = some o) {a : AV} {v : Value} (r : VR cx ι h a v) : VR cx ι h' a v := r.gen (.but hp hb hk)
theorem VRs.but {h h' : Heap} {c : Addr} (hp : ∀ o, h.get? c = some o → NotData o) (hb : cx.h₀.get? c = Option.none) (hk : ∀ b o, b ≠ c → h.get? b = some o → h'.get? b = some o) {xs : List AV} {vs : List Value} (r : VRs cx ι h xs vs) : VRs cx ι h' xs vs := r.gen (.but hp hb hk)
theorem VR.buts {h h' : Heap} {p : Addr → Prop} (hp : ∀ b o, p b → h.get? b = some o → NotData o) (hb : ∀ b, p b → cx.h₀.get? b = Option.none) (hk : ∀ b o, ¬ p b → h.get? b = some o → h'.get? b = some o) {a : AV} {v : Value} (r : VR cx ι h a v) : VR cx ι h' a v := r.gen (.buts hp hb hk)
theorem VRs.buts {h h' : Heap} {p : Addr → Prop} (hp : ∀ b o, p b → h.get? b = some o → NotData o) (hb : ∀ b, p b → cx.h₀.get? b = Option.none) (hk : ∀ b o, ¬ p b → h.get? b = some o → h'.get? b = some o) {xs : List AV} {vs : List Value} (r : VRs cx ι h xs vs) : VRs cx ι h' xs vs := r.gen (.buts hp hb hk)

/-- a private object turns: the abstract state stands -/
theorem St.priv (S : St cx ι H s) {c : Addr} {h' : Heap} {t : Nat} (hc : c ∉ ι) (hb : cx.h₀.get? c = none) (hp : ∀ o, s.heap.get? c = some o → NotData o) (hk : ∀ b o, b ≠ c → s.heap.get? b = some o → h'.get? b = some o) : St cx ι H { s with heap := h', toks := t } where
  base := fun b o e => hk b o (fun z => by rw [z, hb] at e; cases e) (S.base b o e)
  len := S.len
  nodup := S.nodup
  fresh := S.fresh
  own := fun l a o e1 e2 => by
    have hac : a ≠ c := fun q => hc (q ▸ List.mem_of_getElem? e1)
    have r := S.own l a o e1 e2
    cases o with
    | list xs => obtain ⟨vs, n, hl, hz, hs⟩ := r; exact ⟨vs, n, hk a _ hac hl, hz, hs.but hp hb hk⟩
    | dict es => obtain ⟨kvs, hd, h1, h2, hs⟩ := r; exact ⟨kvs, DictOf.at' hd (fun o e => hk a o hac e), h1, h2, hs.but hp hb hk⟩
  gens := S.gens
  os := S.os
  sysm := S.sysm
  hid := fun a ha => let ⟨h1, h2, vs, n, h3⟩ := S.hid a ha; ⟨h1, h2, vs, n, hk a _ (fun z => by subst z; exact (hp _ h3).1 _ _ rfl) h3⟩

structure EnvR (cx : Cx) (env : Env) (sc : Scope) (ns : List Str) (σ : Loc) (ι : List Addr) (h : Heap) : Prop where
  kind : env.scope.kind = .function
  glob : env.globals = mainGlobals
  blt : env.builtins = builtinsNs
  notin : env.locals ∉ ι
  fresh : cx.h₀.get? env.locals = none
  nsm : ∃ m, h.Ns env.locals m ∧ ∀ (x : Str) (i : Nat) (a : AV), ns.idxOf? x = some i → σ[i]? = some (some a) → env.kindOf x = some .local → ∃ v, m x = some v ∧ VR cx ι h a v
  cel : ∀ (x : Str) (i : Nat) (a : AV), ns.idxOf? x = some i → σ[i]? = some (some a) → (env.kindOf x = some .cell ∨ env.kindOf x = some .free) → ∃ c v, env.cells.lookup x = some c ∧ h.IsCell c (some v) ∧ c ∉ ι ∧ VR cx ι h a v
  has : ∀ x, ns.contains x = true → sc.names.lookup x = some .cell → ∃ c v, env.cells.lookup x = some c ∧ h.IsCell c v ∧ c ∉ ι
  klocal : ∀ x, isLocal sc x = true → env.kindOf x = some .local ∨ env.kindOf x = some .cell ∨ env.kindOf x = some .free
  kcell : ∀ x, sc.names.lookup x = some .cell → env.kindOf x = some .cell
  kglob : ∀ x, isGlob sc x = true → env.kindOf x = some .globalImplicit

theorem EnvR.stable {env : Env} {sc : Scope} {ns : List Str} {σ : Loc} : Stable (EnvR cx env sc ns σ) := fun ι ι' h h' e x => by
  have hL : ∃ o, h.get? env.locals = some o := let ⟨_, ⟨o, _, _, ho, _⟩, _⟩ := e.nsm; ⟨o, ho⟩
  obtain ⟨oL, hoL⟩ := hL
  refine ⟨e.kind, e.glob, e.blt, x.notin hoL e.notin, e.fresh, ?_, ?_, ?_, e.klocal, e.kcell, e.kglob⟩
  · obtain ⟨m, hm, hv⟩ := e.nsm
    exact ⟨m, hm.at' fun o ho => x.keep _ o ho e.notin, fun y i a h1 h2 h3 => by obtain ⟨v, q1, q2⟩ := hv y i a h1 h2 h3; exact ⟨v, q1, q2.mono x⟩⟩
  · intro y i a h1 h2 h3
    obtain ⟨c, v, q1, ⟨o, ho, hd⟩, q3, q4⟩ := e.cel y i a h1 h2 h3
    exact ⟨c, v, q1, ⟨o, x.keep _ o ho q3, hd⟩, x.notin ho q3, q4.mono x⟩
  · intro y h1 h2
    obtain ⟨c, v, q1, ⟨o, ho, hd⟩, q3⟩ := e.has y h1 h2
    exact ⟨c, v, q1, ⟨o, x.keep _ o ho q3, hd⟩, x.notin ho q3⟩

/-- a private object that is neither the frame's dict nor a cell turns -/
theorem EnvR.priv {env : Env} {sc : Scope} {ns : List Str} {σ : Loc} {h h' : Heap} {c : Addr} (e : EnvR cx env sc ns σ ι h) (hb : cx.h₀.get? c = none) (hLc : env.locals ≠ c) (hp : ∀ o, h.get? c = some o → NotData o ∧ (∀ v, o.data ≠ .cell v))
    (hk : ∀ b o, b ≠ c → h.get? b = some o → h'.get? b = some o) : EnvR cx env sc ns σ ι h' := by
  have hp' : ∀ o, h.get? c = some o → NotData o := fun o ho => (hp o ho).1
  have hcell : ∀ d v, h.IsCell d v → h'.IsCell d v := fun d v ⟨o, ho, hd⟩ => ⟨o, hk d o (fun q => by subst q; exact (hp o ho).2 _ hd) ho, hd⟩
  refine ⟨e.kind, e.glob, e.blt, e.notin, e.fresh, ?_, ?_, ?_, e.klocal, e.kcell, e.kglob⟩
  · obtain ⟨m, hm, hv⟩ := e.nsm
    exact ⟨m, hm.at' fun o ho => hk _ o hLc ho, fun y i a h1 h2 h3 => by obtain ⟨v, q1, q2⟩ := hv y i a h1 h2 h3; exact ⟨v, q1, q2.but hp' hb hk⟩⟩
  · intro y i a h1 h2 h3
    obtain ⟨d, v, q1, q2, q3, q4⟩ := e.cel y i a h1 h2 h3
    exact ⟨d, v, q1, hcell _ _ q2, q3, q4.but hp' hb hk⟩
  · intro y h1 h2
    obtain ⟨d, v, q1, q2, q3⟩ := e.has y h1 h2
    exact ⟨d, v, q1, hcell _ _ q2, q3⟩

structure Good (cx : Cx) (P : Pg) : Prop where
  g : cx.h₀.Ns mainGlobals cx.mg
  b : cx.h₀.Ns builtinsNs cx.mb
  nolim : cx.h₀.NoLimit
  glob : ∀ x a, P.glob x = some a → ∃ v, cx.mg x = some v ∧ VR { cx with hid := [] } [] cx.h₀ a v
  bi : ∀ x b, biOf x = some b → cx.mg x = none ∧ cx.mb x = some (biV b)
  isi : cx.mg "isinstance" = none ∧ cx.mb "isinstance" = some (.builtin "isinstance")
  ty : ∀ x t, tyOf x = some t → cx.mg x = none ∧ cx.mb x = some (.type (tyStr t))
  zip : cx.mg "zip" = none ∧ cx.mb "zip" = some (.type "zip")
  enum : cx.mg "enumerate" = none ∧ cx.mb "enumerate" = some (.type "enumerate")

theorem St.ext₀ (S : St cx ι H s) : Ext [] ι cx.h₀ s.heap := ⟨List.nil_prefix, fun a ha _ => S.fresh a ha, fun b o e _ => S.base b o e⟩
theorem St.g {P : Pg} (S : St cx ι H s) (G : Good cx P) : s.heap.Ns mainGlobals cx.mg := G.g.keeps S.base
theorem St.b {P : Pg} (S : St cx ι H s) (G : Good cx P) : s.heap.Ns builtinsNs cx.mb := G.b.keeps S.base

/-- a name of the text's top, or a built-in one -/
theorem load_glob {P : Pg} {env : Env} {sc : Scope} {ns : List Str} {σ : Loc} {x : Str} {pos : Pos} {v : Value} {E : Value → Shared → Prop} {Q : Value → Shared → Prop} (G : Good cx P) (S : St cx ι H s) (I : EnvR cx env sc ns σ ι s.heap) (hx : isGlob sc x = true)
    (hd : (x == ("__debug__" : Str)) = false) (hv : cx.mg x = some v) (h : Q v s) : wpAny (model cx.prog cx.w) A (eval (.Name x pos) env) Q E s :=
  Calls.Name_function_global I.kind (I.kglob x hx) (Calls.loadGlobal_global (by rw [I.glob]; exact S.g G) hv h) hd
theorem load_bi {P : Pg} {env : Env} {sc : Scope} {ns : List Str} {σ : Loc} {x : Str} {pos : Pos} {v : Value} {E : Value → Shared → Prop} {Q : Value → Shared → Prop} (G : Good cx P) (S : St cx ι H s) (I : EnvR cx env sc ns σ ι s.heap) (hx : isGlob sc x = true)
    (hd : (x == ("__debug__" : Str)) = false) (hv : cx.mg x = none ∧ cx.mb x = some v) (h : Q v s) : wpAny (model cx.prog cx.w) A (eval (.Name x pos) env) Q E s :=
  Calls.Name_function_global I.kind (I.kglob x hx) (Calls.loadGlobal_builtin (by rw [I.glob]; exact S.g G) hv.1 (by rw [I.blt]; exact S.b G) hv.2 h) hd

theorem name_sound {P : Pg} {env : Env} {sc : Scope} {ns : List Str} {σ : Loc} {x : Str} {pos : Pos} {a : AV} {E : Value → Shared → Prop} (G : Good cx P) (S : St cx ι H s) (I : EnvR cx env sc ns σ ι s.heap) (hl : isLocal sc x = true)
    (hd : (x == ("__debug__" : Str) || x == ("__classdict__" : Str)) = false) (h : nameV ns x σ H = some (a, H')) : wpAny (model cx.prog cx.w) A (eval (.Name x pos) env) (PostV cx ι s.heap a H') E s := by
  simp only [Bool.or_eq_false_iff] at hd
  unfold nameV at h
  cases hi : ns.idxOf? x with
  | none => rw [hi] at h; cases h
  | some i =>
    rw [hi] at h
    cases hv : σ[i]? with
    | none => simp only [hv] at h; cases h
    | some ov =>
      cases ov with
      | none => simp only [hv] at h; cases h
      | some v =>
        simp only [hv] at h
        obtain ⟨rfl, rfl⟩ := pure_some h
        refine wpAny_Name ?_ hd.1
        rcases I.klocal x hl with k | k | k
        · obtain ⟨m, hm, hmv⟩ := I.nsm
          obtain ⟨w, q1, q2⟩ := hmv x i a hi hv k
          exact wpAny_loadName_local I.kind k hm q1 (PostV.here S q2)
        · obtain ⟨c, w, q1, q2, q3, q4⟩ := I.cel x i a hi hv (.inl k)
          exact wpAny_loadName_cell I.kind k q1 q2 (PostV.here S q4)
        · obtain ⟨c, w, q1, q2, q3, q4⟩ := I.cel x i a hi hv (.inr k)
          exact wpAny_loadName_free I.kind k q1 q2 (PostV.here S q4) hd.2
end
end Mine


set_option autoImplicit false
set_option linter.unusedVariables false
namespace Mine
open PySem PyProof.Rows PySem.SeqAt

section
variable {cx : Cx} {A : Around} {ι : List Addr} {H H' : AHeap} {s : Shared}

inductive ItR (cx : Cx) (ι : List Addr) (h : Heap) (it : Addr) : Src → Nat → Prop
  | list {l : Addr} {vs : Array Value} {n : Nat} {xs : List AV} {i : Nat} : h.IsListIter it l i → IsL h l vs n → (l ∉ ι ∧ l ∉ cx.hid) → VRs cx ι h xs vs.toList → ItR cx ι h it (.items xs) i
  | tup {l : Addr} {vs : Array Value} {n : Nat} {xs : List AV} {i : Nat} : h.IsTupleIter it l i → IsT h l vs n → l ∉ ι → VRs cx ι h xs vs.toList → ItR cx ι h it (.items xs) i
  | range {a b : Int} {i : Nat} : IsRangeIter h it (a + i) (((b - a).toNat : Int) - i) 1 → ItR cx ι h it (.items (rangeL a b)) i
  | at {l : Nat} {a : Addr} {i : Nat} : h.IsListIter it a i → ι[l]? = some a → ItR cx ι h it (.at l) i

theorem ItR.obj {h : Heap} {it : Addr} {src : Src} {i : Nat} (x : ItR cx ι h it src i) : ∃ o, h.get? it = some o ∧ NotData o ∧ (∀ es n, o.data ≠ .dict es n) ∧ (∀ v, o.data ≠ .cell v) := by
  have key : ∀ (o : Obj) (vs : Array Value) (c : Value), o.data = .fields vs → o.cls = c → c ≠ .type "range" → NotData o ∧ (∀ es n, o.data ≠ .dict es n) ∧ (∀ v, o.data ≠ .cell v) := fun o vs c h1 h2 h3 => by
    refine ⟨⟨?_, .inr (by rw [h2]; exact h3)⟩, ?_, ?_⟩
    · intro vs n q; rw [h1] at q; cases q
    · intro vs n q; rw [h1] at q; cases q
    · intro v q; rw [h1] at q; cases q
  cases x with
  | list h1 _ _ _ => obtain ⟨o, ho, hc, hd⟩ := h1; exact ⟨o, ho, key o _ _ hd hc (by decide)⟩
  | tup h1 _ _ _ => obtain ⟨o, ho, hc, hd⟩ := h1; exact ⟨o, ho, key o _ _ hd hc (by decide)⟩
  | range h1 => exact ⟨_, h1, key _ _ (.type "range_iterator") rfl rfl (by decide)⟩
  | «at» h1 _ => obtain ⟨o, ho, hc, hd⟩ := h1; exact ⟨o, ho, key o _ _ hd hc (by decide)⟩

theorem ItR.mono {ι' : List Addr} {h h' : Heap} {it : Addr} {src : Src} {i : Nat} (x : ItR cx ι h it src i) (hn : it ∉ ι) (e : Ext ι ι' h h') : ItR cx ι' h' it src i := by
  cases x with
  | list h1 h2 h3 h4 => exact .list (h1.at fun o ho => e.keep _ o ho hn) (e.keep _ _ h2 h3.1) ⟨e.notin h2 h3.1, h3.2⟩ (h4.mono e)
  | tup h1 h2 h3 h4 =>
    obtain ⟨o, ho, r⟩ := h1
    exact .tup ⟨o, e.keep _ o ho hn, r⟩ (e.keep _ _ h2 h3) (e.notin h2 h3) (h4.mono e)
  | range h1 => exact .range (e.keep _ _ h1 hn)
  | «at» h1 h2 => exact .at (h1.at fun o ho => e.keep _ o ho hn) (prefix_get e.pre h2)
/-- another private object turns -/
theorem ItR.priv {h h' : Heap} {it c : Addr} {src : Src} {i : Nat} (x : ItR cx ι h it src i) (hc : it ≠ c) (hci : c ∉ ι) (hb : cx.h₀.get? c = none) (hp : ∀ o, h.get? c = some o → NotData o) (hk : ∀ b o, b ≠ c → h.get? b = some o → h'.get? b = some o) : ItR cx ι h' it src i := by
  cases x with
  | list h1 h2 h3 h4 => exact .list (h1.at fun o ho => hk _ o hc ho) (hk _ _ (fun q => by subst q; exact (hp _ h2).1 _ _ rfl) h2) h3 (h4.but hp hb hk)
  | tup h1 h2 h3 h4 =>
    obtain ⟨o, ho, r⟩ := h1
    exact .tup ⟨o, hk _ o hc ho, r⟩ (hk _ _ (fun q => by subst q; exact (hp _ h2).1 _ _ rfl) h2) h3 (h4.but hp hb hk)
  | range h1 => exact .range (hk _ _ hc h1)
  | «at» h1 h2 => exact .at (h1.at fun o ho => hk _ o hc ho) h2

/-- what a turn of the iterator gives -/
def NextPost (cx : Cx) (ι : List Addr) (s : Shared) (it : Addr) (src : Src) (i : Nat) (r : Option AV) : Option Value → Shared → Prop := fun o s' =>
  ∃ h' t, s' = { s with heap := h', toks := t } ∧ (∀ b q, b ≠ it → s.heap.get? b = some q → h'.get? b = some q) ∧
    match r with
    | none => o = none
    | some a => ∃ v, o = some v ∧ VR cx ι h' a v ∧ ItR cx ι h' it src (i + 1)

theorem rangeL_get {a b : Int} {i : Nat} : (rangeL a b)[i]? = if i < (b - a).toNat then some (.int (a + i)) else none := by
  unfold rangeL
  rw [List.getElem?_map]
  by_cases h : i < (b - a).toNat
  · rw [List.getElem?_range h, if_pos h]; rfl
  · rw [List.getElem?_eq_none (by simpa using h), if_neg h]; rfl

theorem next_sound {it : Addr} {src : Src} {i : Nat} {r : Option AV} {E : Value → Shared → Prop} (hh : A.handled = none) (S : St cx ι H s) (x : ItR cx ι s.heap it src i) (hb : cx.h₀.get? it = none) (h : src.get i H = some (r, H')) :
    H' = H ∧ wpAny (model cx.prog cx.w) A (pyNext (.ref it)) (NextPost cx ι s it src i r) E s := by
  have hobj := x.obj
  obtain ⟨oi, hoi, hnd, _, _⟩ := hobj
  have hp : ∀ o, s.heap.get? it = some o → NotData o := fun o ho => by rw [hoi] at ho; cases ho; exact hnd
  cases x with
  | list h1 h2 h3 h4 =>
    obtain ⟨rfl, rfl⟩ := pure_some h
    refine ⟨rfl, ?_⟩
    rename_i l vs n xs
    cases hx : xs[i]? with
    | none =>
      refine wpAny_pyNext_list_end hh h1 h2.isList (by
        rw [Array.getElem?_eq_none_iff]; have := h4.size; rw [List.getElem?_eq_none_iff] at hx; omega) fun h' he => ⟨h', s.toks, rfl, fun b q hbq e => he b q hbq e, rfl⟩
    | some a =>
      obtain ⟨v, hv, rv⟩ := h4.get hx
      refine wpAny_pyNext_list_item h1 h2.isList (x := v) (by rw [← Array.getElem?_toList]; exact hv) fun h' hit hs => ?_
      have hk : ∀ b q, b ≠ it → s.heap.get? b = some q → h'.get? b = some q := fun b q hbq e => hs.extBut b q hbq e
      exact ⟨h', s.toks, rfl, hk, v, rfl, rv.but hp hb hk, .list hit (hk _ _ (fun q => by subst q; exact (hp _ h2).1 _ _ rfl) h2) h3 (h4.but hp hb hk)⟩
  | tup h1 h2 h3 h4 =>
    obtain ⟨rfl, rfl⟩ := pure_some h
    refine ⟨rfl, ?_⟩
    rename_i l vs n xs
    have hT : s.heap.IsTuple l vs := ⟨_, h2, rfl, n, rfl⟩
    cases hx : xs[i]? with
    | none =>
      refine wpAny_pyNext_tuple_end hh h1 hT (by
        rw [Array.getElem?_eq_none_iff]; have := h4.size; rw [List.getElem?_eq_none_iff] at hx; omega) fun h' he => ⟨h', s.toks, rfl, fun b q hbq e => he b q hbq e, rfl⟩
    | some a =>
      obtain ⟨v, hv, rv⟩ := h4.get hx
      refine wpAny_pyNext_tuple_item h1 hT (x := v) (by rw [← Array.getElem?_toList]; exact hv) fun h' hit hs => ?_
      have hk : ∀ b q, b ≠ it → s.heap.get? b = some q → h'.get? b = some q := fun b q hbq e => hs.extBut b q hbq e
      exact ⟨h', s.toks, rfl, hk, v, rfl, rv.but hp hb hk, .tup hit (hk _ _ (fun q => by subst q; exact (hp _ h2).1 _ _ rfl) h2) h3 (h4.but hp hb hk)⟩
  | range h1 =>
    rename_i a b
    obtain ⟨rfl, rfl⟩ := pure_some h
    refine ⟨rfl, ?_⟩
    rw [rangeL_get]
    split
    · refine wpAny_pyNext_range_item h1 (by omega) fun h' hit hs => ?_
      refine ⟨h', s.toks + 1, rfl, fun b q hbq e => hs.extBut b q hbq e, _, rfl, .int _ _, .range ?_⟩
      have e1 : a + ((i + 1 : Nat) : Int) = a + i + 1 := by omega
      have e2 : ((b - a).toNat : Int) - ((i + 1 : Nat) : Int) = ((b - a).toNat : Int) - i - 1 := by omega
      rw [e1, e2]; exact hit
    · exact wpAny_pyNext_range_end hh h1 (by omega) fun h' he => ⟨h', s.toks, rfl, fun b q hbq e => he b q hbq e, rfl⟩
  | «at» h1 h2 =>
    rename_i l a
    simp only [Src.get] at h
    split at h
    · rename_i xs hH
      cases h
      refine ⟨rfl, ?_⟩
      obtain ⟨vs, n, hL, hz, h4⟩ := S.own _ _ _ h2 hH
      cases hx : xs[i]? with
      | none =>
        refine wpAny_pyNext_list_end hh h1 (IsL.isList hL) (by
          rw [Array.getElem?_eq_none_iff]; have := h4.size; rw [List.getElem?_eq_none_iff] at hx; omega) fun h' he => ⟨h', s.toks, rfl, fun b q hbq e => he b q hbq e, rfl⟩
      | some a =>
        obtain ⟨v, hv, rv⟩ := h4.get hx
        refine wpAny_pyNext_list_item h1 (IsL.isList hL) (x := v) (by rw [← Array.getElem?_toList]; exact hv) fun h' hit hs => ?_
        have hk : ∀ b q, b ≠ it → s.heap.get? b = some q → h'.get? b = some q := fun b q hbq e => hs.extBut b q hbq e
        exact ⟨h', s.toks, rfl, hk, v, rfl, rv.but hp hb hk, .at hit h2⟩
    · cases h

theorem iter_sound {a : AV} {v : Value} {src : Src} {E : Value → Shared → Prop} (S : St cx ι H s) (r : VR cx ι s.heap a v) (h : srcOf a H = some (src, H')) :
    H' = H ∧ wpAny (model cx.prog cx.w) A (pyIter v) (fun w s' => ∃ it h', w = .ref it ∧ s' = { s with heap := h' } ∧ (∀ b q, s.heap.get? b = some q → h'.get? b = some q) ∧ s.heap.get? it = none ∧ ItR cx ι h' it src 0) E s := by
  cases r with
  | tup h1 h2 h3 h4 =>
    simp only [srcOf, Option.some.injEq, Prod.mk.injEq] at h
    obtain ⟨rfl, rfl⟩ := h
    refine ⟨rfl, wpAny_pyIter_tuple ⟨_, h1, rfl, _, rfl⟩ ⟨_, _, rfl, rfl, fun b q e => Heap.get?_push_of_some _ e, get_size _, .tup ⟨_, Heap.get?_push_size _ rfl, rfl, rfl⟩ (Heap.get?_push_of_some _ h1) h2 (h4.mono (Ext.push _))⟩⟩
  | lst h1 h2 h3 h4 =>
    simp only [srcOf, Option.some.injEq, Prod.mk.injEq] at h
    obtain ⟨rfl, rfl⟩ := h
    refine ⟨rfl, wpAny_pyIter_list h1.isList ⟨_, _, rfl, rfl, fun b q e => Heap.get?_push_of_some _ e, get_size _, .list ⟨_, Heap.get?_push_size _ rfl, rfl, rfl⟩ (Heap.get?_push_of_some _ h1) h2 (h4.mono (Ext.push _))⟩⟩
  | range h1 h2 =>
    simp only [srcOf] at h
    split at h
    · rename_i hsm
      cases h
      obtain ⟨q1, _, _⟩ := small_of hsm
      refine ⟨rfl, wpAny_pyIter_range h1 q1 ⟨_, _, rfl, rfl, fun b q e => Heap.get?_push_of_some _ e, get_size _, .range ?_⟩⟩
      rw [range_count, show ((0 : Nat) : Int) = 0 from rfl, Int.add_zero, Int.sub_zero]
      exact Heap.get?_push_size _ rfl
    · cases h
  | loc hl =>
    simp only [srcOf] at h
    split at h
    · rename_i xs hH
      cases h
      obtain ⟨vs, n, hL, hz, h4⟩ := S.own _ _ _ hl hH
      exact ⟨rfl, wpAny_pyIter_list (IsL.isList hL) ⟨_, _, rfl, rfl, fun b q e => Heap.get?_push_of_some _ e, get_size _, .at ⟨_, Heap.get?_push_size _ rfl, rfl, rfl⟩ hl⟩⟩
    · cases h
  | _ => cases h

/-- an iterator is its own iterator -/
theorem self_sound {it : Addr} {src : Src} {i : Nat} {Q : Value → Shared → Prop} {E : Value → Shared → Prop} (x : ItR cx ι s.heap it src i) (h : Q (.ref it) s) : wpAny (model cx.prog cx.w) A (pyIter (.ref it)) Q E s := by
  cases x with
  | list h1 _ _ _ => exact wpAny_pyIter_listiter h1 h
  | tup h1 _ _ _ => exact wpAny_pyIter_tupleiter h1 h
  | range h1 => exact wpAny_pyIter_rangeiter h1 h
  | «at» h1 _ => exact wpAny_pyIter_listiter h1 h
end
end Mine


set_option autoImplicit false
set_option linter.unusedVariables false
namespace Mine
open PySem PyProof.Rows PySem.SeqAt

abbrev Cx.hide (cx : Cx) (D : Addr) : Cx := { cx with hid := D :: cx.hid }

section
variable {cx : Cx} {A : Around} {ι : List Addr} {H H' : AHeap} {s : Shared}

theorem tl_absurd {h : Heap} {a : Addr} {vs ws : Array Value} {n k : Nat} (x : IsT h a vs n) (y : IsL h a ws k) : False := by
  have z := (show h.get? a = some _ from x).symm.trans (show h.get? a = some _ from y)
  simp at z
theorem rl_absurd {h : Heap} {r : Addr} {a b c : Int} {t u v : Tok} {ws : Array Value} {k : Nat} (x : IsRange h r a b c t u v) (y : IsL h r ws k) : False := by
  have z := (show h.get? r = some _ from x).symm.trans (show h.get? r = some _ from y)
  simp at z
theorem Tn.hide {h : Heap} {D : Addr} (hD : h.get? D = none) : Tn cx (cx.hide D) ι ι h h where
  same := ⟨rfl, rfl, rfl⟩
  tup := fun _ _ _ ht hn => ⟨ht, hn⟩
  lst := fun _ _ _ ht hn => ⟨ht, hn.1, fun hm => by
      rcases List.mem_cons.mp hm with q | q
      · subst q; have h4 : h.get? _ = some _ := ht; rw [hD] at h4; cases h4
      · exact hn.2 q⟩
  loc := fun _ _ hl => hl
  range := fun _ _ _ _ _ _ hr hn => ⟨hr, hn⟩
  dict := fun _ _ ho hn _ => ⟨ho, hn⟩
theorem VR.hide {h : Heap} {D : Addr} (hD : h.get? D = Option.none) {a : AV} {v : Value} (r : VR cx ι h a v) : VR (cx.hide D) ι h a v := r.gen (.hide hD)
theorem VRs.hide {h : Heap} {D : Addr} (hD : h.get? D = Option.none) {xs : List AV} {vs : List Value} (r : VRs cx ι h xs vs) : VRs (cx.hide D) ι h xs vs := r.gen (.hide hD)
theorem Tn.unhide {h : Heap} {D : Addr} : Tn (cx.hide D) cx ι ι h h where
  same := ⟨rfl, rfl, rfl⟩
  tup := fun _ _ _ ht hn => ⟨ht, hn⟩
  lst := fun _ _ _ ht hn => ⟨ht, hn.1, fun hm => hn.2 (List.mem_cons_of_mem _ hm)⟩
  loc := fun _ _ hl => hl
  range := fun _ _ _ _ _ _ hr hn => ⟨hr, hn⟩
  dict := fun _ _ ho hn _ => ⟨ho, hn⟩
theorem VR.unhide {h : Heap} {D : Addr} {a : AV} {v : Value} (r : VR (cx.hide D) ι h a v) : VR cx ι h a v := r.gen .unhide
theorem VRs.unhide {h : Heap} {D : Addr} {xs : List AV} {vs : List Value} (r : VRs (cx.hide D) ι h xs vs) : VRs cx ι h xs vs := r.gen .unhide
/-- the hidden list becomes one of the abstract heap's own -/
theorem Tn.adopt {h : Heap} {D : Addr} {ws : Array Value} {k : Nat} (hD : IsL h D ws k) (hb : cx.h₀.get? D = none) : Tn (cx.hide D) cx ι (ι ++ [D]) h h where
  same := ⟨rfl, rfl, rfl⟩
  tup := fun _ _ _ ht hn => ⟨ht, fun hm => by
      rcases List.mem_append.mp hm with q | q
      · exact hn q
      · have q' := List.mem_singleton.mp q; subst q'; exact tl_absurd ht hD⟩
  lst := fun _ _ _ ht hn => ⟨ht, fun hm => by
      rcases List.mem_append.mp hm with q | q
      · exact hn.1 q
      · have q' := List.mem_singleton.mp q; exact hn.2 (q' ▸ List.mem_cons_self), fun hm => hn.2 (List.mem_cons_of_mem _ hm)⟩
  loc := fun _ _ hl => prefix_get (List.prefix_append _ _) hl
  range := fun _ _ _ _ _ _ hr hn => ⟨hr, fun hm => by
      rcases List.mem_append.mp hm with q | q
      · exact hn q
      · have q' := List.mem_singleton.mp q; subst q'; exact rl_absurd hr hD⟩
  dict := fun _ _ ho hn hsm => ⟨ho, fun hm => by
      rcases List.mem_append.mp hm with q | q
      · exact hn q
      · have q' := List.mem_singleton.mp q; subst q'; obtain ⟨o, ho⟩ := hsm; have h4 : cx.h₀.get? _ = some o := ho; rw [hb] at h4; cases h4⟩
theorem VR.adopt {h : Heap} {D : Addr} {ws : Array Value} {k : Nat} (hD : IsL h D ws k) (hb : cx.h₀.get? D = Option.none) {a : AV} {v : Value} (r : VR (cx.hide D) ι h a v) : VR cx (ι ++ [D]) h a v := r.gen (.adopt hD hb)
theorem VRs.adopt {h : Heap} {D : Addr} {ws : Array Value} {k : Nat} (hD : IsL h D ws k) (hb : cx.h₀.get? D = Option.none) {xs : List AV} {vs : List Value} (r : VRs (cx.hide D) ι h xs vs) : VRs cx (ι ++ [D]) h xs vs := r.gen (.adopt hD hb)
/-- a hidden list turns -/
theorem Tn.hturn {h h' : Heap} {D : Addr} {ws : Array Value} {k : Nat} (hD : IsL h D ws k) (hm : D ∈ cx.hid) (hb : cx.h₀.get? D = none) (hk : ∀ b o, b ≠ D → h.get? b = some o → h'.get? b = some o) : Tn cx cx ι ι h h' where
  same := ⟨rfl, rfl, rfl⟩
  tup := fun _ _ _ ht hn => ⟨hk _ _ (fun q => by subst q; exact tl_absurd ht hD) ht, hn⟩
  lst := fun _ _ _ ht hn => ⟨hk _ _ (fun q => hn.2 (q ▸ hm)) ht, hn⟩
  loc := fun _ _ hl => hl
  range := fun _ _ _ _ _ _ hr hn => ⟨hk _ _ (fun q => by subst q; exact rl_absurd hr hD) hr, hn⟩
  dict := fun _ _ ho hn hsm => ⟨hk _ _ (fun q => by subst q; obtain ⟨o', ho⟩ := hsm; rw [hb] at ho; cases ho) ho, hn⟩
theorem VR.hturn {h h' : Heap} {D : Addr} {ws : Array Value} {k : Nat} (hD : IsL h D ws k) (hm : D ∈ cx.hid) (hb : cx.h₀.get? D = Option.none) (hk : ∀ b o, b ≠ D → h.get? b = some o → h'.get? b = some o) {a : AV} {v : Value} (r : VR cx ι h a v) : VR cx ι h' a v := r.gen (.hturn hD hm hb hk)
theorem VRs.hturn {h h' : Heap} {D : Addr} {ws : Array Value} {k : Nat} (hD : IsL h D ws k) (hm : D ∈ cx.hid) (hb : cx.h₀.get? D = Option.none) (hk : ∀ b o, b ≠ D → h.get? b = some o → h'.get? b = some o) {xs : List AV} {vs : List Value} (r : VRs cx ι h xs vs) : VRs cx ι h' xs vs := r.gen (.hturn hD hm hb hk)

theorem OR.hide {h : Heap} {D a : Addr} {o : AO} (hD : h.get? D = none) (r : OR cx ι h a o) : OR (cx.hide D) ι h a o := by
  cases o with
  | list xs => obtain ⟨vs, n, hl, hz, hs⟩ := r; exact ⟨vs, n, hl, hz, hs.hide hD⟩
  | dict es => obtain ⟨kvs, hd, h1, h2, hs⟩ := r; exact ⟨kvs, hd, h1, h2, hs.hide hD⟩
theorem OR.unhide {h : Heap} {D a : Addr} {o : AO} (r : OR (cx.hide D) ι h a o) : OR cx ι h a o := by
  cases o with
  | list xs => obtain ⟨vs, n, hl, hz, hs⟩ := r; exact ⟨vs, n, hl, hz, hs.unhide⟩
  | dict es => obtain ⟨kvs, hd, h1, h2, hs⟩ := r; exact ⟨kvs, hd, h1, h2, hs.unhide⟩

theorem St.hide (S : St cx ι H s) {D : Addr} {h' : Heap} {t n : Nat} {ws : Array Value} (hD : s.heap.get? D = none) (hk : ∀ b q, s.heap.get? b = some q → h'.get? b = some q) (hL : IsL h' D ws n) : St (cx.hide D) ι H { s with heap := h', toks := t } where
  base := fun b o e => hk b o (S.base b o e)
  len := S.len
  nodup := S.nodup
  fresh := S.fresh
  own := fun l a o e1 e2 => ((S.own l a o e1 e2).hide hD).keep (Ext.keeps hk) (hk a)
  gens := S.gens
  os := S.os
  sysm := S.sysm
  hid := fun a ha => by
    rcases List.mem_cons.mp ha with rfl | ha
    · exact ⟨S.notin hD, S.base_none hD, ws, n, hL⟩
    · obtain ⟨h1, h2, vs, m, h3⟩ := S.hid a ha
      exact ⟨h1, h2, vs, m, hk _ _ h3⟩
theorem St.unhide {D : Addr} (S : St (cx.hide D) ι H s) : St cx ι H s :=
  ⟨S.base, S.len, S.nodup, S.fresh, fun l a o e1 e2 => (S.own l a o e1 e2).unhide, S.gens, S.os, S.sysm, fun a ha => S.hid a (List.mem_cons_of_mem _ ha)⟩
theorem St.hturn (S : St cx ι H s) {D : Addr} {ws : Array Value} {k : Nat} (hm : D ∈ cx.hid) (hD : IsL s.heap D ws k) (f : Array Value → Array Value) : St cx ι H { s with heap := s.heap.update D (Obj.mapSeq f) } := by
  obtain ⟨hDi, hb, _⟩ := S.hid D hm
  have hk : ∀ b o, b ≠ D → s.heap.get? b = some o → (s.heap.update D (Obj.mapSeq f)).get? b = some o := fun b o hb e => (Heap.get?_update_other _ _ (Ne.symm hb)).trans e
  refine ⟨fun b o e => hk b o (fun z => by rw [z, hb] at e; cases e) (S.base b o e), S.len, S.nodup, S.fresh, fun l a o e1 e2 => ?_, S.gens, S.os, S.sysm, fun a ha => ?_⟩
  · have hac : a ≠ D := fun q => hDi (q ▸ List.mem_of_getElem? e1)
    have r := S.own l a o e1 e2
    cases o with
    | list xs => obtain ⟨vs, n, hl, hz, hs⟩ := r; exact ⟨vs, n, hk a _ hac hl, hz, hs.hturn hD hm hb hk⟩
    | dict es => obtain ⟨kvs, hd, h1, h2, hs⟩ := r; exact ⟨kvs, DictOf.at' hd (fun o e => hk a o hac e), h1, h2, hs.hturn hD hm hb hk⟩
  · obtain ⟨h1, h2, vs, n, h3⟩ := S.hid a ha
    by_cases haD : a = D
    · subst haD; exact ⟨h1, h2, _, _, IsL.update hD f⟩
    · exact ⟨h1, h2, vs, n, hk a _ haD h3⟩
theorem St.adopt {D : Addr} {ws : Array Value} {k : Nat} {xs : List AV} (S : St (cx.hide D) ι H s) (hD : IsL s.heap D ws k) (hz : xs.length ≤ LIM) (hs : VRs (cx.hide D) ι s.heap xs ws.toList) (hnd : D ∉ cx.hid) : St cx (ι ++ [D]) (H ++ [.list xs]) s := by
  obtain ⟨hDi, hb, _⟩ := S.hid D List.mem_cons_self
  refine ⟨S.base, by simp [S.len], ?_, ?_, ?_, S.gens, S.os, S.sysm, ?_⟩
  · rw [List.nodup_append]
    exact ⟨S.nodup, by simp, fun x hx y hy => by rw [List.mem_singleton.mp hy]; exact fun e => hDi (e ▸ hx)⟩
  · intro b hbm
    rcases List.mem_append.mp hbm with h1 | h1
    · exact S.fresh b h1
    · rw [List.mem_singleton.mp h1]; exact hb
  · intro l b q e1' e2
    by_cases hl : l < ι.length
    · rw [List.getElem?_append_left hl] at e1'
      rw [List.getElem?_append_left (S.len ▸ hl)] at e2
      have r := S.own l b q e1' e2
      cases q with
      | list ys => obtain ⟨vs, n, hl, hz, hs⟩ := r; exact ⟨vs, n, hl, hz, hs.adopt (cx := cx) hD hb⟩
      | dict es => obtain ⟨kvs, hd, h1, h2, hs⟩ := r; exact ⟨kvs, hd, h1, h2, hs.adopt (cx := cx) hD hb⟩
    · rw [List.getElem?_append_right (by omega)] at e1'
      rw [List.getElem?_append_right (by rw [← S.len]; omega), ← S.len] at e2
      have hl0 : l - ι.length = 0 := by
        rcases Nat.eq_zero_or_pos (l - ι.length) with h0 | h0
        · exact h0
        · rw [List.getElem?_eq_none (by simp; omega)] at e1'; cases e1'
      rw [hl0] at e1' e2
      simp at e1' e2
      subst e1'; subst e2
      exact ⟨ws, k, hD, hz, hs.adopt (cx := cx) hD hb⟩
  · intro a ha
    obtain ⟨h1, h2, vs, n, h3⟩ := S.hid a (List.mem_cons_of_mem _ ha)
    refine ⟨fun hm => ?_, h2, vs, n, h3⟩
    rcases List.mem_append.mp hm with hm | hm
    · exact h1 hm
    · exact hnd (List.mem_singleton.mp hm ▸ ha)

theorem EnvR.hide {env : Env} {sc : Scope} {ns : List Str} {σ : Loc} {h : Heap} {D : Addr} (e : EnvR cx env sc ns σ ι h) (hD : h.get? D = none) : EnvR (cx.hide D) env sc ns σ ι h := by
  refine ⟨e.kind, e.glob, e.blt, e.notin, e.fresh, ?_, ?_, e.has, e.klocal, e.kcell, e.kglob⟩
  · obtain ⟨m, hm, hv⟩ := e.nsm
    exact ⟨m, hm, fun y i a h1 h2 h3 => by obtain ⟨v, q1, q2⟩ := hv y i a h1 h2 h3; exact ⟨v, q1, q2.hide hD⟩⟩
  · intro y i a h1 h2 h3
    obtain ⟨d, v, q1, q2, q3, q4⟩ := e.cel y i a h1 h2 h3
    exact ⟨d, v, q1, q2, q3, q4.hide hD⟩
theorem EnvR.unhide {env : Env} {sc : Scope} {ns : List Str} {σ : Loc} {h : Heap} {D : Addr} (e : EnvR (cx.hide D) env sc ns σ ι h) : EnvR cx env sc ns σ ι h := by
  refine ⟨e.kind, e.glob, e.blt, e.notin, e.fresh, ?_, ?_, e.has, e.klocal, e.kcell, e.kglob⟩
  · obtain ⟨m, hm, hv⟩ := e.nsm
    exact ⟨m, hm, fun y i a h1 h2 h3 => by obtain ⟨v, q1, q2⟩ := hv y i a h1 h2 h3; exact ⟨v, q1, q2.unhide⟩⟩
  · intro y i a h1 h2 h3
    obtain ⟨d, v, q1, q2, q3, q4⟩ := e.cel y i a h1 h2 h3
    exact ⟨d, v, q1, q2, q3, q4.unhide⟩
theorem EnvR.hturn {env : Env} {sc : Scope} {ns : List Str} {σ : Loc} {h h' : Heap} {D : Addr} {ws : Array Value} {k : Nat} (e : EnvR cx env sc ns σ ι h) (hD : IsL h D ws k) (hm : D ∈ cx.hid) (hb : cx.h₀.get? D = none) (hk : ∀ b o, b ≠ D → h.get? b = some o → h'.get? b = some o) : EnvR cx env sc ns σ ι h' := by
  have hD' : h.get? D = some _ := hD
  have hcell : ∀ d v, h.IsCell d v → h'.IsCell d v := fun d v ⟨o, ho, hd⟩ => ⟨o, hk d o (fun q => by subst q; rw [hD'] at ho; cases ho; cases hd) ho, hd⟩
  refine ⟨e.kind, e.glob, e.blt, e.notin, e.fresh, ?_, ?_, ?_, e.klocal, e.kcell, e.kglob⟩
  · obtain ⟨m, hmm, hv⟩ := e.nsm
    have hLc : env.locals ≠ D := fun q => by
      obtain ⟨o, es, ep, ho, hd, _⟩ := hmm
      rw [q, hD'] at ho; cases ho; cases hd
    exact ⟨m, hmm.at' fun o ho => hk _ o hLc ho, fun y i a h1 h2 h3 => by obtain ⟨v, q1, q2⟩ := hv y i a h1 h2 h3; exact ⟨v, q1, q2.hturn hD hm hb hk⟩⟩
  · intro y i a h1 h2 h3
    obtain ⟨d, v, q1, q2, q3, q4⟩ := e.cel y i a h1 h2 h3
    exact ⟨d, v, q1, hcell _ _ q2, q3, q4.hturn hD hm hb hk⟩
  · intro y h1 h2
    obtain ⟨d, v, q1, q2, q3⟩ := e.has y h1 h2
    exact ⟨d, v, q1, hcell _ _ q2, q3⟩
theorem ItR.hide {h : Heap} {it D : Addr} {src : Src} {i : Nat} (x : ItR cx ι h it src i) (hD : h.get? D = none) : ItR (cx.hide D) ι h it src i := by
  cases x with
  | list h1 h2 h3 h4 =>
    exact .list h1 h2 ⟨h3.1, fun hm => by
      rcases List.mem_cons.mp hm with q | q
      · subst q; have h5 : h.get? _ = some _ := h2; rw [hD] at h5; cases h5
      · exact h3.2 q⟩ (h4.hide hD)
  | tup h1 h2 h3 h4 => exact .tup h1 h2 h3 (h4.hide hD)
  | range h1 => exact .range h1
  | «at» h1 h2 => exact .at h1 h2
theorem ItR.hturn {h h' : Heap} {it D : Addr} {src : Src} {i : Nat} {ws : Array Value} {k : Nat} (x : ItR cx ι h it src i) (hD : IsL h D ws k) (hm : D ∈ cx.hid) (hDi : D ∉ ι) (hb : cx.h₀.get? D = none) (hk : ∀ b o, b ≠ D → h.get? b = some o → h'.get? b = some o) : ItR cx ι h' it src i := by
  have hD' : h.get? D = some _ := hD
  have hit : it ≠ D := fun q => by
    obtain ⟨o, ho, hn, _⟩ := x.obj
    rw [q, hD'] at ho; cases ho; exact hn.1 _ _ rfl
  cases x with
  | list h1 h2 h3 h4 => exact .list (h1.at fun o ho => hk _ o hit ho) (hk _ _ (fun q => h3.2 (q ▸ hm)) h2) h3 (h4.hturn hD hm hb hk)
  | tup h1 h2 h3 h4 =>
    obtain ⟨o, ho, r⟩ := h1
    exact .tup ⟨o, hk _ o hit ho, r⟩ (hk _ _ (fun q => by subst q; exact tl_absurd h2 hD) h2) h3 (h4.hturn hD hm hb hk)
  | range h1 => exact .range (hk _ _ hit h1)
  | «at» h1 h2 => exact .at (h1.at fun o ho => hk _ o hit ho) h2

/-- what stands at the top is hidden from no one -/
theorem VR.top {h : Heap} (hb : ∀ a ∈ cx.hid, h.get? a = Option.none) {a : AV} {v : Value} (r : VR { cx with hid := [] } ι h a v) : VR cx ι h a v :=
  VR.gen (cx := { cx with hid := [] }) (cx' := cx) ⟨⟨rfl, rfl, rfl⟩, fun _ _ _ ht hn => ⟨ht, hn⟩, fun _ _ _ ht hn => ⟨ht, hn.1, fun hm => by have h4 : h.get? _ = some _ := ht; rw [hb _ hm] at h4; cases h4⟩, fun _ _ hl => hl, fun _ _ _ _ _ _ hr hn => ⟨hr, hn⟩, fun _ _ ho hn _ => ⟨ho, hn⟩⟩ r
theorem VR.ofBase (S : St cx ι H s) {a : AV} {v : Value} (r : VR { cx with hid := [] } [] cx.h₀ a v) : VR cx ι s.heap a v :=
  (VR.top (fun a ha => (S.hid a ha).2.1) r).mono S.ext₀

theorem Good.hide {P : Pg} {D : Addr} (G : Good cx P) : Good (cx.hide D) P := ⟨G.g, G.b, G.nolim, G.glob, G.bi, G.isi, G.ty, G.zip, G.enum⟩
end
end Mine


set_option autoImplicit false
set_option linter.unusedVariables false
namespace Mine
open PySem PyProof.Rows PySem.SeqAt

section
variable {cx : Cx} {A : Around} {ι : List Addr} {H H' : AHeap} {s : Shared}

theorem closureFor_some {env : Env} {scope : Scope} (h : ∀ y, (y, NameKind.free) ∈ scope.names → ∃ c, env.cells.lookup y = some c) :
    ∃ cl, closureFor scope env = pure cl ∧ ∀ y, (y, NameKind.free) ∈ scope.names → cl.lookup y = env.cells.lookup y := by
  have go : ∀ (names : List (Str × NameKind)) (acc : List (Str × Addr)), (∀ y, (y, NameKind.free) ∈ names → ∃ c, env.cells.lookup y = some c) →
      (∀ y c, acc.lookup y = some c → env.cells.lookup y = some c) →
      ∃ cl, (forIn (m := Sem) names acc fun x r => if (x.2 == NameKind.free) = true then (do let c ← cellOf env x.1; pure (ForInStep.yield ((x.1, c) :: r))) else pure (ForInStep.yield r)) = pure cl ∧
        (∀ y c, cl.lookup y = some c → env.cells.lookup y = some c) ∧ (∀ y, (y, NameKind.free) ∈ names → ∃ c, cl.lookup y = some c) ∧ (∀ y c, acc.lookup y = some c → ∃ c', cl.lookup y = some c') := by
    intro names
    induction names with
    | nil => intro acc _ ha; exact ⟨acc, rfl, ha, fun y hy => (nomatch hy), fun y c hc => ⟨c, hc⟩⟩
    | cons x r ih =>
      intro acc hn ha
      rw [List.forIn_cons]
      by_cases hx : x.2 = .free
      · obtain ⟨c, hc⟩ := hn x.1 (by rw [← hx]; exact List.mem_cons_self)
        have hcell : cellOf env x.1 = pure c := by unfold cellOf; rw [hc]
        simp only [hx, beq_self_eq_true, if_true, hcell, pure_bind]
        have ha' : ∀ y c', ((x.1, c) :: acc).lookup y = some c' → env.cells.lookup y = some c' := fun y c' h' => by
          rw [List.lookup_cons] at h'
          cases hb : y == x.1 with
          | true => rw [hb] at h'; cases h'; rw [beq_iff_eq.mp hb]; exact hc
          | false => rw [hb] at h'; exact ha y c' h'
        obtain ⟨cl, e1, e2, e3, e4⟩ := ih ((x.1, c) :: acc) (fun y hy => hn y (List.mem_cons_of_mem _ hy)) ha'
        refine ⟨cl, e1, e2, fun y hy => ?_, fun y c' h' => ?_⟩
        · rcases List.mem_cons.mp hy with q | q
          · exact e4 y c (by rw [← q]; simp [List.lookup_cons])
          · exact e3 y q
        · cases hb : y == x.1 with
          | true => exact e4 y c (by rw [List.lookup_cons, hb])
          | false => exact e4 y c' (by rw [List.lookup_cons, hb]; exact h')
      · have hb : (x.2 == NameKind.free) = false := by simpa using hx
        simp only [hb, Bool.false_eq_true, if_false, pure_bind]
        obtain ⟨cl, e1, e2, e3, e4⟩ := ih acc (fun y hy => hn y (List.mem_cons_of_mem _ hy)) ha
        refine ⟨cl, e1, e2, fun y hy => ?_, e4⟩
        rcases List.mem_cons.mp hy with q | q
        · exact absurd (by rw [← q]) hx
        · exact e3 y q
  obtain ⟨cl, e1, e2, e3, _⟩ := go scope.names [] h (fun y c hc => by cases hc)
  refine ⟨cl, ?_, fun y hy => ?_⟩
  · have e0 : closureFor scope env = ((forIn (m := Sem) scope.names ([] : List (Str × Addr)) fun x r => if (x.2 == NameKind.free) = true then (do let c ← cellOf env x.1; pure (ForInStep.yield ((x.1, c) :: r))) else pure (ForInStep.yield r)) >>= fun cs => pure cs) := by
      unfold closureFor
      congr 1
    rw [e0, e1]; rfl
  · obtain ⟨c, hc⟩ := e3 y hy
    rw [hc, e2 y c hc]
end
end Mine


set_option autoImplicit false
set_option linter.unusedVariables false
namespace Mine
open PySem PyProof.Rows PySem.SeqAt

section
variable {cx : Cx} {A : Around} {ι : List Addr} {H H' : AHeap} {s : Shared}

theorem relabel_lookup {env : Env} (y : Str) : ∀ (names : List (Str × NameKind)),
    (names.map fun (n, k) => if (k == NameKind.free && env.scope.kind == .function && env.kindOf n == some .cell) then (n, NameKind.cell) else (n, k)).lookup y =
      (names.lookup y).map (fun k => if (k == NameKind.free && env.scope.kind == .function && env.kindOf y == some .cell) then NameKind.cell else k)
  | [] => rfl
  | (n, k) :: r => by
    have ih := relabel_lookup (env := env) y r
    show List.lookup y ((if (k == NameKind.free && env.scope.kind == .function && env.kindOf n == some .cell) = true then (n, NameKind.cell) else (n, k)) :: _) = _
    cases hx : y == n with
    | true =>
      have hyn : y = n := beq_iff_eq.mp hx
      subst hyn
      by_cases hc : (k == NameKind.free && env.scope.kind == .function && env.kindOf y == some .cell) = true
      · rw [if_pos hc]; simp only [List.lookup_cons, hx, Option.map_some, hc, if_true]
      · rw [if_neg hc]; simp only [List.lookup_cons, hx, Option.map_some, hc]; rfl
    | false =>
      simp only [List.lookup_cons, hx]
      by_cases hc : (k == NameKind.free && env.scope.kind == .function && env.kindOf n == some .cell) = true
      · rw [if_pos hc]; simp only [List.lookup_cons, hx]; exact ih
      · rw [if_neg hc]; simp only [List.lookup_cons, hx]; exact ih

theorem lookup_mem {names : List (Str × NameKind)} {y : Str} {k : NameKind} (h : names.lookup y = some k) : (y, k) ∈ names := by
  induction names with
  | nil => cases h
  | cons p r ih =>
    rw [List.lookup_cons] at h
    cases hb : y == p.1 with
    | true => rw [hb] at h; cases h; rw [beq_iff_eq.mp hb]; exact List.mem_cons_self
    | false => rw [hb] at h; exact List.mem_cons_of_mem _ (ih h)

structure CompOK (sc : Scope) (ns : List Str) (scope : Scope) (x : Str) : Prop where
  kind : scope.kind = .function
  own : scope.names.lookup x = some .local
  no0 : (".0" : Str) ∉ ns
  loc : ∀ y, (y, NameKind.local) ∈ scope.names → (y = x ∨ y = (".0" : Str)) ∧ scope.names.lookup y = some .local
  free : ∀ y, (y, NameKind.free) ∈ scope.names → sc.names.lookup y = some .cell ∧ ns.contains y = true
  kinds : ∀ y k, (y, k) ∈ scope.names → k = .local ∨ k = .free ∨ k = .globalImplicit

theorem compOk_of {sc : Scope} {ns : List Str} {scope : Scope} {x : Str} (h : compOk sc ns scope x = true) : CompOK sc ns scope x := by
  unfold compOk at h
  rw [Bool.and_eq_true, Bool.and_eq_true, Bool.and_eq_true, List.all_eq_true] at h
  obtain ⟨⟨⟨h1, h2⟩, h3⟩, h4⟩ := h
  refine ⟨by simpa using h1, by simpa using h2, by simpa using h3, fun y hy => ?_, fun y hy => ?_, fun y k hy => ?_⟩
  · have := h4 _ hy
    simpa using this
  · have := h4 _ hy
    simpa using this
  · have := h4 _ hy
    cases k <;> simp_all

theorem idxOf_cons_self {x : Str} {ns : List Str} : (x :: ns).idxOf? x = some 0 := by simp [List.idxOf?_cons]
theorem idxOf_cons_ne {x y : Str} {ns : List Str} (h : y ≠ x) : (x :: ns).idxOf? y = (ns.idxOf? y).map (· + 1) := by
  rw [List.idxOf?_cons, if_neg (by simpa using Ne.symm h)]
theorem idxOf_none {y : Str} {ns : List Str} (h : y ∉ ns) : ns.idxOf? y = none := by
  rw [List.idxOf?_eq_none_iff]; exact h

theorem EnvR.comp {env : Env} {sc : Scope} {ns : List Str} {σ : Loc} {h : Heap} {scope : Scope} {x : Str} {cl : List (Str × Addr)} {C : Addr} {m : Str → Option Value} {a : AV} {v : Value}
    (e : EnvR cx env sc ns σ ι h) (ok : CompOK sc ns scope x) (hcl : ∀ y, (y, NameKind.free) ∈ scope.names → cl.lookup y = env.cells.lookup y)
    (hC : C ∉ ι) (hb : cx.h₀.get? C = none) (hn : h.Ns C m) (hx : m x = some v) (r : VR cx ι h a v) : EnvR cx (compEnvC scope cl C env) scope (x :: ns) (some a :: σ) ι h := by
  have hk : ∀ y, (compEnvC scope cl C env).kindOf y = (scope.names.lookup y).map (fun k => if (k == NameKind.free && env.scope.kind == .function && env.kindOf y == some .cell) then NameKind.cell else k) := fun y => relabel_lookup (env := env) y scope.names
  have hlook : ∀ y k, scope.names.lookup y = some k → k = .local ∨ k = .free ∨ k = .globalImplicit := fun y k q => ok.kinds y k (lookup_mem q)
  refine ⟨?_, e.glob, e.blt, hC, hb, ⟨m, hn, ?_⟩, ?_, ?_, ?_, ?_, ?_⟩
  · simp [compEnvC, relabel, ok.kind]
  · intro y i b h1 h2 h3
    rw [hk] at h3
    cases hl : scope.names.lookup y with
    | none => rw [hl] at h3; cases h3
    | some k =>
      rw [hl] at h3
      rcases hlook y k hl with q | q | q
      · subst q
        have hy := (ok.loc y (lookup_mem hl)).1
        by_cases hyx : y = x
        · subst hyx
          rw [idxOf_cons_self] at h1
          cases h1
          simp only [List.getElem?_cons_zero, Option.some.injEq] at h2
          subst h2
          exact ⟨v, hx, r⟩
        · rcases hy with hy | hy
          · exact absurd hy hyx
          · rw [idxOf_cons_ne hyx, idxOf_none (by rw [hy]; exact ok.no0)] at h1; cases h1
      · subst q
        simp only [Option.map_some] at h3
        split at h3 <;> cases h3
      · subst q; simp at h3
  · intro y i b h1 h2 h3
    rw [hk] at h3
    cases hl : scope.names.lookup y with
    | none => rw [hl] at h3; rcases h3 with h3 | h3 <;> cases h3
    | some k =>
      rw [hl] at h3
      rcases hlook y k hl with q | q | q
      · subst q; simp at h3
      · subst q
        obtain ⟨f1, f2⟩ := ok.free y (lookup_mem hl)
        have hyx : y ≠ x := fun q => by subst q; rw [ok.own] at hl; cases hl
        rw [idxOf_cons_ne hyx] at h1
        cases hi : ns.idxOf? y with
        | none => rw [hi] at h1; cases h1
        | some j =>
          rw [hi] at h1
          cases h1
          simp only [List.getElem?_cons_succ] at h2
          obtain ⟨c, w, q1, q2, q3, q4⟩ := e.cel y j b hi h2 (.inl (e.kcell y f1))
          exact ⟨c, w, (hcl y (lookup_mem hl)).trans q1, q2, q3, q4⟩
      · subst q; simp at h3
  · intro y h1 h2
    rcases hlook y _ h2 with q | q | q <;> cases q
  · intro y hy
    rw [hk]
    unfold isLocal at hy
    cases hl : scope.names.lookup y with
    | none => rw [hl] at hy; cases hy
    | some k =>
      rcases hlook y k hl with q | q | q
      · subst q; exact .inl rfl
      · subst q
        simp only [Option.map_some]
        split
        · exact .inr (.inl rfl)
        · exact .inr (.inr rfl)
      · subst q; rw [hl] at hy; cases hy
  · intro y h2
    rcases hlook y _ h2 with q | q | q <;> cases q
  · intro y hy
    rw [hk]
    unfold isGlob at hy
    cases hl : scope.names.lookup y with
    | none => rw [hl] at hy; cases hy
    | some k =>
      rcases hlook y k hl with q | q | q
      · subst q; rw [hl] at hy; cases hy
      · subst q; rw [hl] at hy; cases hy
      · subst q; rfl

theorem Ext.priv {ι ι' : List Addr} {h h' h'' : Heap} {c : Addr} (e : Ext ι ι' h h') (hc : h.get? c = none) (hk : ∀ b o, b ≠ c → h'.get? b = some o → h''.get? b = some o) : Ext ι ι' h h'' :=
  ⟨e.pre, e.news, fun b o hb hn => hk b o (fun q => by rw [q, hc] at hb; cases hb) (e.keep b o hb hn)⟩
theorem Ext.fresh {ι ι' : List Addr} {h h' : Heap} (e : Ext ι ι' h h') {b : Addr} (h1 : b ∉ ι) (h2 : ∃ o, h.get? b = some o) : b ∉ ι' := let ⟨_, ho⟩ := h2; e.notin ho h1

theorem Ns.notData {h : Heap} {C : Addr} {m : Str → Option Value} (hn : h.Ns C m) : ∀ o, h.get? C = some o → NotData o ∧ (∀ v, o.data ≠ .cell v) := fun o ho => by
  obtain ⟨o', es, ep, ho', hd, _⟩ := hn
  rw [ho] at ho'; cases ho'
  refine ⟨⟨fun vs n q => ?_, .inl fun vs q => ?_⟩, fun v q => ?_⟩ <;> rw [hd] at q <;> cases q
end
end Mine


set_option autoImplicit false
set_option linter.unusedVariables false
namespace Mine
open PySem PyProof.Rows PySem.SeqAt

/-- what holds at each turn of a comprehension -/
structure CL (cx : Cx) (env : Env) (sc : Scope) (ns : List Str) (σ : Loc) (ι₁ : List Addr) (h₁ : Heap) (it C D : Addr) (src : Src) (i : Nat) (acc : List AV) (ι : List Addr) (H : AHeap) (s : Shared) : Prop where
  S : St cx ι H s
  X : Ext ι₁ ι h₁ s.heap
  E : EnvR cx env sc ns σ ι s.heap
  J : ItR cx ι s.heap it src i
  L : ∃ vs n, IsL s.heap D vs n ∧ VRs cx ι s.heap acc vs.toList
  N : ∃ m, s.heap.Ns C m
  hit : it ∉ ι
  hC : C ∉ ι

structure CLs (cx : Cx) (env : Env) (h₁ : Heap) (it C D : Addr) : Prop where
  hD : D ∈ cx.hid
  iN : h₁.get? it = none
  cN : h₁.get? C = none
  dN : h₁.get? D = none
  i0 : cx.h₀.get? it = none
  c0 : cx.h₀.get? C = none
  d0 : cx.h₀.get? D = none
  iC : it ≠ C
  lC : env.locals ≠ C
  lI : env.locals ≠ it

section
variable {cx : Cx} {A : Around} {ι ι' : List Addr} {H H' : AHeap} {s s' : Shared} {env : Env} {sc : Scope} {ns : List Str} {σ : Loc} {ι₁ : List Addr} {h₁ : Heap} {it C D : Addr} {src : Src} {i : Nat} {acc : List AV}

theorem CL.mono (c : CL cx env sc ns σ ι₁ h₁ it C D src i acc ι H s) (K : CLs cx env h₁ it C D) (x : Ext ι ι' s.heap s'.heap) (S : St cx ι' H' s') : CL cx env sc ns σ ι₁ h₁ it C D src i acc ι' H' s' := by
  obtain ⟨vs, n, l1, l2⟩ := c.L
  obtain ⟨m, hm⟩ := c.N
  have hDi : D ∉ ι := (c.S.hid D K.hD).1
  obtain ⟨oi, hoi, _⟩ := c.J.obj
  obtain ⟨oc, _, _, hoc, _⟩ := id hm
  exact ⟨S, c.X.trans x, c.E.stable _ _ _ _ x, c.J.mono c.hit x, ⟨vs, n, x.keep _ _ l1 hDi, l2.mono x⟩, ⟨m, hm.at' fun o ho => x.keep _ o ho c.hC⟩, x.notin hoi c.hit, x.notin hoc c.hC⟩

/-- the comprehension's own dict turns -/
theorem CL.turnC (c : CL cx env sc ns σ ι₁ h₁ it C D src i acc ι H s) (K : CLs cx env h₁ it C D) {h' : Heap} {t : Nat} {m' : Str → Option Value} (hk : ∀ b o, b ≠ C → s.heap.get? b = some o → h'.get? b = some o) (hn : h'.Ns C m') :
    CL cx env sc ns σ ι₁ h₁ it C D src i acc ι H { s with heap := h', toks := t } := by
  obtain ⟨vs, n, l1, l2⟩ := c.L
  obtain ⟨m, hm⟩ := c.N
  have hp := Ns.notData hm
  have hp' : ∀ o, s.heap.get? C = some o → NotData o := fun o ho => (hp o ho).1
  have hDC : D ≠ C := fun q => by subst q; exact (hp' _ l1).1 _ _ rfl
  exact ⟨c.S.priv c.hC K.c0 hp' hk, c.X.priv K.cN hk, c.E.priv K.c0 K.lC hp hk, c.J.priv K.iC c.hC K.c0 hp' hk, ⟨vs, n, hk _ _ hDC l1, l2.but hp' K.c0 hk⟩, ⟨m', hn⟩, c.hit, c.hC⟩

/-- the iterator turns -/
theorem CL.turnI (c : CL cx env sc ns σ ι₁ h₁ it C D src i acc ι H s) (K : CLs cx env h₁ it C D) {h' : Heap} {t : Nat} {j : Nat} (hk : ∀ b o, b ≠ it → s.heap.get? b = some o → h'.get? b = some o) (hn : ItR cx ι h' it src j) :
    CL cx env sc ns σ ι₁ h₁ it C D src j acc ι H { s with heap := h', toks := t } := by
  obtain ⟨vs, n, l1, l2⟩ := c.L
  obtain ⟨m, hm⟩ := c.N
  obtain ⟨oi, hoi, q1, q2, q3⟩ := c.J.obj
  have hp : ∀ o, s.heap.get? it = some o → NotData o ∧ (∀ v, o.data ≠ .cell v) := fun o ho => by rw [hoi] at ho; cases ho; exact ⟨q1, q3⟩
  have hp' : ∀ o, s.heap.get? it = some o → NotData o := fun o ho => (hp o ho).1
  have hDI : D ≠ it := fun q => by subst q; exact (hp' _ l1).1 _ _ rfl
  exact ⟨c.S.priv c.hit K.i0 hp' hk, c.X.priv K.iN hk, c.E.priv K.i0 K.lI hp hk, hn, ⟨vs, n, hk _ _ hDI l1, l2.but hp' K.i0 hk⟩, ⟨m, hm.at' fun o ho => hk _ o (Ne.symm K.iC) ho⟩, c.hit, c.hC⟩

/-- an item is added -/
theorem CL.add (c : CL cx env sc ns σ ι₁ h₁ it C D src i acc ι H s) (K : CLs cx env h₁ it C D) {a : AV} {v : Value} {Q : Value → Shared → Prop} {E : Value → Shared → Prop} (r : VR cx ι s.heap a v) (hz : acc.length < LIM)
    (hQ : ∀ w s', CL cx env sc ns σ ι₁ h₁ it C D src i (acc ++ [a]) ι H s' → Q w s') : wpAny (model cx.prog cx.w) A (PySem.call (.builtin "list.append") [.ref D, v]) Q E s := by
  obtain ⟨vs, n, l1, l2⟩ := c.L
  obtain ⟨m, hm⟩ := c.N
  have hsz := l2.size
  have hL := LIM_is
  have hSL := sizeLine_is
  refine call_meets F.slot_list_append ⟨_, l1, rfl⟩ F.entry_list_append (F.args_list_append_2 _ _) (list_append _ vs n v (by omega)) ⟨l1, hQ _ _ ?_⟩
  have hDi : D ∉ ι := (c.S.hid D K.hD).1
  have hk : ∀ b o, b ≠ D → s.heap.get? b = some o → (s.heap.update D (Obj.mapSeq (·.push v))).get? b = some o := fun b o hb e => (Heap.get?_update_other _ _ (Ne.symm hb)).trans e
  have hCD : C ≠ D := fun q => by subst q; exact ((Ns.notData hm) _ l1).1.1 _ _ rfl
  refine ⟨c.S.hturn K.hD l1 _, c.X.priv K.dN hk, c.E.hturn l1 K.hD K.d0 hk, c.J.hturn l1 K.hD hDi K.d0 hk, ⟨_, _, IsL.update l1 _, ?_⟩, ⟨m, hm.at' fun o ho => hk _ o hCD ho⟩, c.hit, c.hC⟩
  rw [Array.toList_push]
  exact (l2.append (.one r)).hturn l1 K.hD K.d0 hk
end
end Mine


set_option autoImplicit false
set_option linter.unusedVariables false
namespace Mine
open PySem PyProof.Rows PySem.SeqAt

noncomputable def compBody (te : AV → Expr → M Bool) (ev : AV → Expr → M AV) (ifs : List Expr) (elt : Expr) (v : AV) : M (Option AV) := do
  let t ← ifs1 (te v) ifs
  if t then do
    let y ← ev v elt
    pure (some y)
  else pure none

section
variable {cx : Cx} {A : Around} {ι : List Addr} {H H' H1 H2 H3 H4 : AHeap} {s : Shared} {env : Env} {sc : Scope} {ns : List Str} {σ : Loc} {src : Src} {acc : List AV}

theorem ifs_sound {te : Expr → M Bool} {I : List Addr → Heap → Prop} {env' : Env} {E : Value → Shared → Prop} (hte : TeOK cx A env' I te) (S : St cx ι H s) (i : I ι s.heap) {ifs : List Expr} {b : Bool} (h : ifs1 te ifs H = some (b, H')) :
    wpAny (model cx.prog cx.w) A (forIn ifs true fun c r => if r = true then do let ok ← PySem.isTrue c env' (eval c env'); pure (ForInStep.yield ok) else pure (ForInStep.yield r)) (PostB cx ι s.heap b H') E s := by
  unfold ifs1 at h
  split at h
  · obtain ⟨rfl, rfl⟩ := pure_some h
    exact wpAny_tests_nil ⟨rfl, ι, Ext.refl _ _, S⟩
  · exact wpAny_tests_one (wpAny_mono (hte _ ι H s _ _ S i h) (fun _ _ x => x) fun _ _ x => x.elim)
  · cases h

theorem compLoop_sound {elt iter : Expr} {x : Str} {px pos : Pos} {ifs : List Expr} {scope : Scope} {cl : List (Str × Addr)} {ι₁ : List Addr} {h₁ : Heap} {it C D : Addr} {ys : List AV} {te : AV → Expr → M Bool} {ev : AV → Expr → M AV} {R : Result → Shared → Prop}
    (hh : A.handled = none) (ok : CompOK sc ns scope x) (hcl : ∀ y, (y, NameKind.free) ∈ scope.names → cl.lookup y = env.cells.lookup y) (K : CLs cx env h₁ it C D)
    (hev : ∀ env' a, EvOK cx A env' (EnvR cx env' scope (x :: ns) (some a :: σ)) (ev a)) (hte : ∀ env' a, TeOK cx A env' (EnvR cx env' scope (x :: ns) (some a :: σ)) (te a))
    (hR : ∀ ι' s' h' t, (∃ i, CL cx env sc ns σ ι₁ h₁ it C D src i ys ι' H3 s') → (∀ b o, b ≠ it → s'.heap.get? b = some o → h'.get? b = some o) → R (.ok .next) { s' with heap := h', toks := t })
    (f : Nat) (i : Nat) (hc : CL cx env sc ns σ ι₁ h₁ it C D src i acc ι H s) (hl : compLoop src (compBody te ev ifs elt) f i acc H = some (ys, H3)) :
    codeAny (model cx.prog cx.w) A (.compLoop (.ListComp elt [⟨.Name x px, iter, ifs, 0⟩] scope pos) 0 (.ref it) (.ref D) (compEnvC scope cl C env)) R s := by
  refine codeAny_compLoop_tests (fun k s' => ∃ ι' H' i acc, CL cx env sc ns σ ι₁ h₁ it C D src i acc ι' H' s' ∧ compLoop src (compBody te ev ifs elt) k i acc H' = some (ys, H3)) ?_ f ⟨ι, H, i, acc, hc, hl⟩
  clear hc hl
  rintro k s ⟨ι, H, i, acc, c, hl⟩
  cases k with
  | zero => cases hl
  | succ k =>
    unfold compLoop at hl
    obtain ⟨r, H', h1, h2⟩ := bind_some hl
    obtain ⟨rfl, hn⟩ := next_sound (E := noE) hh c.S c.J K.i0 h1
    refine wpAny_mono hn (fun o s₁ h₁' => ?_) fun _ _ x => x.elim
    obtain ⟨h', t, rfl, hk, hr⟩ := h₁'
    cases r with
    | none =>
      simp only at hr
      subst hr
      obtain ⟨rfl, rfl⟩ := pure_some h2
      exact hR ι s h' t ⟨i, c⟩ hk
    | some a =>
      simp only at hr
      obtain ⟨v, rfl, rv, J'⟩ := hr
      have c1 := c.turnI K hk J' (t := t)
      obtain ⟨m, hm⟩ := c1.N
      simp only
      obtain ⟨b, H2, h3, h4⟩ := bind_some h2
      refine wpAny_assign_Name (wpAny_storeName_local (env := compEnvC scope cl C env) (lookup_relabel_local ok.own) hm (fun h'' hn'' hs'' => ?_) (by simp [compEnvC, relabel, ok.kind]))
      have c2 := c1.turnC K (t := t + 1) hs''.extBut hn''
      have hv2 : VR cx ι h'' a v := rv.but (fun o ho => (Ns.notData hm o ho).1) K.c0 hs''.extBut
      have I2 : EnvR cx (compEnvC scope cl C env) scope (x :: ns) (some a :: σ) ι h'' := c2.E.comp ok hcl c2.hC K.c0 hn'' (by simp) hv2
      unfold compBody at h3
      obtain ⟨b1, H3', h5, h6⟩ := bind_some h3
      refine wpAny_mono (ifs_sound (hte _ a) c2.S I2 h5) (fun ok' s₃ h₃ => ?_) fun _ _ x => x
      obtain ⟨rfl, ι₃, e3, S₃⟩ := h₃
      have c3 := c2.mono K e3 S₃
      cases ok' with
      | false =>
        obtain ⟨rfl, rfl⟩ := pure_some h6
        exact ⟨k, Nat.lt_succ_self _, ι₃, _, _, _, c3, h4⟩
      | true =>
        simp only [if_true] at h6 ⊢
        obtain ⟨y, H5, h7, h8⟩ := bind_some h6
        obtain ⟨rfl, rfl⟩ := pure_some h8
        simp only at h4
        split at h4
        · rename_i hlt
          refine wpAny_mono (hev _ a elt ι₃ _ s₃ _ _ S₃ (EnvR.stable _ _ _ _ I2 e3) h7) (fun w s₄ h₄ => ?_) fun _ _ x => x.elim
          obtain ⟨ι₄, e4, S₄, r4⟩ := h₄
          have c4 := c3.mono K e4 S₄
          exact c4.add K r4 hlt fun _ s' c5 => ⟨k, Nat.lt_succ_self _, ι₄, _, _, _, c5, h4⟩
        · cases h4

theorem comp_sound {elt iter : Expr} {x : Str} {px pos pos' : Pos} {ifs : List Expr} {scope : Scope} {mu : Bool} {iv a : AV} {ys : List AV} {te : AV → Expr → M Bool} {ev : AV → Expr → M AV} {use : Option (Value → Sem Unit)} {Q : Value → Shared → Prop}
    (hh : A.handled = none) (ok : CompOK sc ns scope x) (hset : ∀ v, foldedSetIterable iter env v = pure v)
    (hev : ∀ D env' a, EvOK (cx.hide D) A env' (EnvR (cx.hide D) env' scope (x :: ns) (some a :: σ)) (ev a)) (hte : ∀ D env' a, TeOK (cx.hide D) A env' (EnvR (cx.hide D) env' scope (x :: ns) (some a :: σ)) (te a))
    (hi : wpAny (model cx.prog cx.w) A (eval iter env) (PostV cx ι s.heap iv H1) noE s) (I : EnvR cx env sc ns σ ι s.heap)
    (hsrc : srcOf iv H1 = some (src, H2)) (hloop : compLoop src (compBody te ev ifs elt) FUEL 0 [] H2 = some (ys, H3)) (hnew : newL mu ys H3 = some (a, H4))
    (hfin : ∀ D C m ι' s', Ext ι ι' s.heap s'.heap → St cx ι' H4 s' → VR cx ι' s'.heap a (.ref D) → EnvR cx env sc ns σ ι' s'.heap → s'.heap.Ns C m → s.heap.get? C = none → C ∉ ι' → cx.h₀.get? C = none →
      compPost (model cx.prog cx.w) A noE use Q (.ref D) C (.ok .next) s') :
    wpAny (model cx.prog cx.w) A (comprehension (.ListComp elt [⟨.Name x px, iter, ifs, 0⟩] scope pos) scope env pos' (newList []) false (eval iter env) use) Q noE s := by
  obtain ⟨cl, hclos, hcl⟩ := closureFor_some (env := env) (scope := scope) (fun y hy => by
    obtain ⟨f1, f2⟩ := ok.free y hy
    obtain ⟨c, v, q, _⟩ := I.has y f2 f1
    exact ⟨c, q⟩)
  refine wpAny_comprehension_free (use := use) rfl hset hclos ok.kind (fun z hz hl => (ok.loc z.1 (by rw [← hl]; exact hz)).2) (wpAny_mono hi (fun xv s₁ h₁ => ?_) fun _ _ x => x)
  obtain ⟨ι₁, e1, S₁, r1⟩ := h₁
  obtain ⟨rfl, hit⟩ := iter_sound (A := A) (E := noE) S₁ r1 hsrc
  refine wpAny_mono hit (fun w s₂ h₂ => ?_) fun _ _ x => x
  obtain ⟨it, h2, rfl, rfl, hk2, hitn, J2⟩ := h₂
  have S₂ := S₁.keeps (t := s₁.toks) hk2
  refine wpAny_newObj_type (wpAny_newFunctionEnv (fun z hz => by rcases ok.kinds z.1 z.2 hz with q | q | q <;> rw [q] <;> simp) (by intro y hy; simp at hy) (fun h3 hns hsb => ?_) ok.kind)
  dsimp only at hns hsb ⊢
  generalize hH : h2.push { cls := .type "list", dict := none, data := .seq ([] : List Value).toArray } = G at hns hsb ⊢
  have hCs : G.objs.size = h2.objs.size + 1 := by rw [← hH, Heap.size_push]
  have hDn : h2.get? h2.objs.size = none := get_size _
  have hDG : h2.objs.size ≠ G.objs.size := by rw [hCs]; exact Nat.ne_of_lt (Nat.lt_succ_self _)
  have below : ∀ b, b < h2.objs.size → b ≠ G.objs.size := fun b hb => by rw [hCs]; exact Nat.ne_of_lt (Nat.lt_succ_of_lt hb)
  have hGle : h2.objs.size ≤ G.objs.size := by rw [hCs]; exact Nat.le_succ _
  have hk3 : ∀ b o, h2.get? b = some o → h3.get? b = some o := fun b o e => hsb.extBut b o (below b (Heap.lt_size e)) (Heap.get?_push_of_some _ (hH ▸ Heap.get?_push_of_some _ e))
  have hL3 : IsL h3 h2.objs.size #[] 0 := hsb.extBut _ _ hDG (Heap.get?_push_of_some _ (hH ▸ Heap.get?_push_size _ rfl))
  have hold : ∀ b, h2.objs.size ≤ b → s₁.heap.get? b = none := fun b hb => by
    cases e : s₁.heap.get? b with
    | none => rfl
    | some o => exact absurd (Heap.lt_size (hk2 b o e)) (Nat.not_lt.mpr hb)
  have hDn1 : s₁.heap.get? h2.objs.size = none := hold _ (Nat.le_refl _)
  have hCn1 : s₁.heap.get? G.objs.size = none := hold _ hGle
  have hDc : h2.objs.size ∉ cx.hid := S₁.nothid hDn1
  have I1 := EnvR.stable _ _ _ _ I e1
  have I3 : EnvR (cx.hide h2.objs.size) env sc ns σ ι₁ h3 := (((EnvR.stable _ _ _ _ I1 (Ext.keeps hk2)).hide hDn).stable _ _ _ _ (Ext.keeps hk3))
  have hlt : ∃ o, s₁.heap.get? env.locals = some o := let ⟨_, ⟨o, _, _, ho, _⟩, _⟩ := I1.nsm; ⟨o, ho⟩
  obtain ⟨oL, hoL⟩ := hlt
  obtain ⟨oi, hoi, _⟩ := J2.obj
  have hitlt : it < h2.objs.size := Heap.lt_size hoi
  have K : CLs (cx.hide h2.objs.size) env s₁.heap it G.objs.size h2.objs.size :=
    ⟨List.mem_cons_self, hitn, hCn1, hDn1, S₁.base_none hitn, S₁.base_none hCn1, S₁.base_none hDn1, below it hitlt, (fun q => by rw [q, hCn1] at hoL; cases hoL), (fun q => by rw [q, hitn] at hoL; cases hoL)⟩
  have c0 : CL (cx.hide h2.objs.size) env sc ns σ ι₁ s₁.heap it G.objs.size h2.objs.size src 0 [] ι₁ H2 { s₁ with heap := h3, toks := s₁.toks + 0 } :=
    ⟨S₂.hide hDn hk3 hL3, Ext.keeps fun b o e => hk3 b o (hk2 b o e), I3, (J2.hide hDn).mono (S₁.notin hitn) (Ext.keeps hk3), ⟨#[], 0, hL3, .nil⟩, ⟨_, hns⟩, S₁.notin hitn, S₁.notin hCn1⟩
  have loop : codeAny (model cx.prog cx.w) A (.compLoop (.ListComp elt [⟨.Name x px, iter, ifs, 0⟩] scope pos) 0 (.ref it) (.ref h2.objs.size) (compEnvC scope cl G.objs.size env)) (compPost (model cx.prog cx.w) A noE use Q (.ref h2.objs.size) G.objs.size) { s₁ with heap := h3, toks := s₁.toks + 0 } := by
    refine compLoop_sound (cx := cx.hide h2.objs.size) hh ok hcl K (fun env' a => hev _ env' a) (fun env' a => hte _ env' a) ?_ FUEL 0 c0 hloop
    rintro ι' s' h' t ⟨i, c⟩ hk
    obtain ⟨oi', hoi', q1, q2, q3⟩ := c.J.obj
    have hp : ∀ o, s'.heap.get? it = some o → NotData o ∧ (∀ v, o.data ≠ .cell v) := fun o ho => by rw [hoi'] at ho; cases ho; exact ⟨q1, q3⟩
    have hp' : ∀ o, s'.heap.get? it = some o → NotData o := fun o ho => (hp o ho).1
    obtain ⟨vs, n, l1, l2⟩ := c.L
    obtain ⟨m, hm⟩ := c.N
    have hDI : h2.objs.size ≠ it := Ne.symm (Nat.ne_of_lt hitlt)
    have S' := c.S.priv (t := t) c.hit K.i0 hp' hk
    have X' := c.X.priv K.iN hk
    have E' := c.E.priv K.i0 K.lI hp hk
    have L' : IsL h' h2.objs.size vs n := hk _ _ hDI l1
    have V' := l2.but hp' K.i0 hk
    have N' : h'.Ns G.objs.size m := hm.at' fun o ho => hk _ o (Ne.symm K.iC) ho
    have hz := newL_len hnew
    have hDi : h2.objs.size ∉ ι' := (c.S.hid _ K.hD).1
    have hCn : s.heap.get? G.objs.size = none := by
      cases e : s.heap.get? G.objs.size with
      | none => rfl
      | some o =>
        by_cases hm : G.objs.size ∈ ι
        · have := S₁.lt (e1.pre.subset hm)
          have := (hk2)
          have h9 := hold G.objs.size hGle
          exact absurd (e1.pre.subset hm) (S₁.notin h9)
        · have := e1.keep _ _ e hm; rw [hCn1] at this; cases this
    unfold newL at hnew
    rw [if_pos hz] at hnew
    cases mu with
    | false =>
      cases hnew
      exact hfin _ _ m ι' _ (e1.trans X') S'.unhide (.lst (cx := cx) L' ⟨hDi, hDc⟩ hz V'.unhide) E'.unhide N' hCn c.hC K.c0
    | true =>
      cases hnew
      have S'' : St cx (ι' ++ [h2.objs.size]) (H3 ++ [.list ys]) { s' with heap := h', toks := t } := St.adopt S' L' hz V' hDc
      have hX : Ext ι₁ (ι' ++ [h2.objs.size]) s₁.heap h' := ⟨X'.pre.trans (List.prefix_append _ _), fun b hb hn => by
        rcases List.mem_append.mp hb with q | q
        · exact X'.news b q hn
        · rw [List.mem_singleton.mp q]; exact hDn1, X'.keep⟩
      refine hfin _ _ m _ _ (e1.trans hX) S'' (.loc ?_) (EnvR.stable _ _ _ _ I1 hX) N' hCn ?_ K.c0
      · rw [← S'.len, List.getElem?_append_right (Nat.le_refl _)]; simp
      · intro hm'
        rcases List.mem_append.mp hm' with q | q
        · exact c.hC q
        · exact hDG (List.mem_singleton.mp q).symm
  exact codeAny_compStart_list loop (self_sound (cx := cx.hide h2.objs.size) c0.J loop)
end
end Mine


set_option autoImplicit false
set_option linter.unusedVariables false
namespace Mine
open PySem PyProof.Rows PySem.SeqAt

section
variable {cx : Cx} {A : Around} {ι : List Addr} {H H' : AHeap} {s : Shared} {env : Env} {I : List Addr → Heap → Prop} {ev : Expr → M AV}

theorem const_sound {c : Const} {k : Nat} {p : Pos} {a : AV} (S : St cx ι H s) (h : constV c H = some (a, H')) : wpAny (model cx.prog cx.w) A (eval (.Constant c k p) env) (PostV cx ι s.heap a H') noE s := by
  cases c <;> first | (cases h; done) | skip
  · obtain ⟨rfl, rfl⟩ := pure_some h; exact wpAny_Constant_none (PostV.here S .none)
  · obtain ⟨rfl, rfl⟩ := pure_some h; exact wpAny_Constant_bool (PostV.here S (.bool _))
  · obtain ⟨rfl, rfl⟩ := pure_some h; exact wpAny_Constant_int (PostV.same S _ (.int _ _))
  · obtain ⟨rfl, rfl⟩ := pure_some h; exact wpAny_Constant_str (PostV.same S _ (.str _ _))

theorem bin_sound {l r : Expr} {op : Operator} {p : Pos} {mu : Bool} {c : AV} (hst : Stable I) (hev : EvOK cx A env I ev) (S : St cx ι H s) (i : I ι s.heap)
    (h : (do let a ← ev l; let b ← ev r; pBin mu op a b : M AV) H = some (c, H')) : wpAny (model cx.prog cx.w) A (eval (.BinOp l op r p) env) (PostV cx ι s.heap c H') noE s := by
  obtain ⟨a, H1, h1, h2⟩ := bind_some h
  obtain ⟨b, H2, h3, h4⟩ := bind_some h2
  refine wpAny_BinOp (wpAny_mono (hev _ _ _ _ _ _ S i h1) (fun v s₁ q₁ => ?_) fun _ _ x => x)
  obtain ⟨ι₁, e1, S₁, r1⟩ := q₁
  refine wpAny_mono (hev _ _ _ _ _ _ S₁ (hst _ _ _ _ i e1) h3) (fun w s₂ q₂ => ?_) fun _ _ x => x
  obtain ⟨ι₂, e2, S₂, r2⟩ := q₂
  exact wpAny_mono (pBin_sound S₂ (r1.mono e2) r2 h4) (fun x s₃ q₃ => q₃.trans (e1.trans e2)) fun _ _ x => x

theorem neg_sound {x : Expr} {p : Pos} {c : AV} (hev : EvOK cx A env I ev) (S : St cx ι H s) (i : I ι s.heap) (h : (do let v ← ev x; pNeg v : M AV) H = some (c, H')) :
    wpAny (model cx.prog cx.w) A (eval (.UnaryOp .USub x p) env) (PostV cx ι s.heap c H') noE s := by
  obtain ⟨a, H1, h1, h2⟩ := bind_some h
  refine wpAny_UnaryOp (wpAny_mono (hev _ _ _ _ _ _ S i h1) (fun v s₁ q₁ => ?_) fun _ _ x => x)
  obtain ⟨ι₁, e1, S₁, r1⟩ := q₁
  exact wpAny_mono (pNeg_sound S₁ r1 h2) (fun x s₃ q₃ => q₃.trans e1) fun _ _ x => x

theorem not_sound {x : Expr} {p : Pos} {c : AV} (hev : EvOK cx A env I ev) (S : St cx ι H s) (i : I ι s.heap) (h : (do let v ← ev x; let b ← truth v; pure (.bool !b) : M AV) H = some (c, H')) :
    wpAny (model cx.prog cx.w) A (eval (.UnaryOp .Not x p) env) (PostV cx ι s.heap c H') noE s := by
  obtain ⟨a, H1, h1, h2⟩ := bind_some h
  obtain ⟨b, H2, h3, h4⟩ := bind_some h2
  obtain ⟨rfl, rfl⟩ := truth_some h3
  obtain ⟨rfl, rfl⟩ := pure_some h4
  refine wpAny_UnaryOp (wpAny_mono (hev _ _ _ _ _ _ S i h1) (fun v s₁ q₁ => ?_) fun _ _ x => x)
  obtain ⟨ι₁, e1, S₁, r1⟩ := q₁
  cases r1
  exact not_value (wpAny_truthy_bool ⟨ι₁, e1, S₁, .bool _⟩)

theorem compare_sound {l : Expr} {ops : List CmpOp} {cs : List Expr} {p : Pos} {c : AV} (R : Room A) (hSet : ∀ es k p H, ev (.Set es k p) H = none) (hst : Stable I) (hev : EvOK cx A env I ev) (S : St cx ι H s) (i : I ι s.heap)
    (h : (do let a ← ev l; let b ← chain ev a ops cs; pure (.bool b) : M AV) H = some (c, H')) : wpAny (model cx.prog cx.w) A (eval (.Compare l ops cs p) env) (PostV cx ι s.heap c H') noE s := by
  obtain ⟨a, H1, h1, h2⟩ := bind_some h
  obtain ⟨b, H2, h3, h4⟩ := bind_some h2
  obtain ⟨rfl, rfl⟩ := pure_some h4
  rw [arm_eval_Compare]
  refine wpAny_bind (wpAny_mono (hev _ _ _ _ _ _ S i h1) (fun v s₁ q₁ => ?_) fun _ _ x => x)
  obtain ⟨ι₁, e1, S₁, r1⟩ := q₁
  exact wpAny_mono (chain_sound R hSet hst hev _ _ _ S₁ (hst _ _ _ _ i e1) r1 h3) (fun x s₃ q₃ => q₃.trans e1) fun _ _ x => x

theorem evEach_len : ∀ {es : List Expr} {H H' : AHeap} {as : List AV}, evEach ev es H = some (as, H') → as.length = es.length
  | [], _, _, _, h => by obtain ⟨rfl, rfl⟩ := pure_some h; rfl
  | e :: r, _, _, _, h => by
    obtain ⟨a, H1, h1, h2⟩ := bind_some h
    obtain ⟨bs, H2, h3, h4⟩ := bind_some h2
    obtain ⟨rfl, rfl⟩ := pure_some h4
    simp [evEach_len h3]

theorem tuple_sound {es : List Expr} {k : Nat} {p : Pos} {c : AV} (hS : ∀ x p H, ev (.Starred x p) H = none) (hst : Stable I) (hev : EvOK cx A env I ev) (S : St cx ι H s) (i : I ι s.heap)
    (h : (if es.length ≤ 100 then (do let vs ← evEach ev es; pure (.tup vs) : M AV) else stuck) H = some (c, H')) : wpAny (model cx.prog cx.w) A (eval (.Tuple es k p) env) (PostV cx ι s.heap c H') noE s := by
  split at h
  · rename_i hl
    obtain ⟨as, H1, h1, h2⟩ := bind_some h
    obtain ⟨rfl, rfl⟩ := pure_some h2
    refine Tuple_ (wpAny_mono (each_sound hS hst hev p es S i h1) (fun vs s₁ q₁ => ?_) fun _ _ x => x)
    obtain ⟨ι₁, e1, S₁, r1⟩ := q₁
    refine wpAny_mono (newTuple_sound (E := noE) S₁ (by have := evEach_len h1; have := LIM_is; omega) r1) (fun x s₃ q₃ => q₃.trans e1) fun _ _ x => x
  · cases h
theorem list_sound {es : List Expr} {p : Pos} {mu : Bool} {c : AV} (hS : ∀ x p H, ev (.Starred x p) H = none) (hst : Stable I) (hev : EvOK cx A env I ev) (S : St cx ι H s) (i : I ι s.heap)
    (h : (do let vs ← evEach ev es; newL mu vs : M AV) H = some (c, H')) : wpAny (model cx.prog cx.w) A (eval (.List es p) env) (PostV cx ι s.heap c H') noE s := by
  obtain ⟨as, H1, h1, h2⟩ := bind_some h
  refine List_ (wpAny_mono (each_sound hS hst hev p es S i h1) (fun vs s₁ q₁ => ?_) fun _ _ x => x)
  obtain ⟨ι₁, e1, S₁, r1⟩ := q₁
  exact wpAny_mono (newList_sound (E := noE) S₁ h2 r1) (fun x s₃ q₃ => q₃.trans e1) fun _ _ x => x

/-- the read of an item, once object and index are there -/
theorem sub_tail {value slice : Expr} {o i : Value} {Q : Value → Shared → Prop} (hsl : ∀ b, b = false → subscripted slice b o i = operate [o, i] (getItem o i) ∨ subscripted slice b o i = operate [i, o] (getItem o i)) (hs : Subs s o) (h : wpAny (model cx.prog cx.w) A (getItem o i) Q noE s) :
    wpAny (model cx.prog cx.w) A (do let r ← subscripted slice (← getitemInPython o) o i; letTemporaryGo value o r; pure r) Q noE s := by
  obtain ⟨T, id, hT, hl⟩ := hs
  rw [getitemInPython_of_ne hT.not_modules]
  have fin : wpAny (model cx.prog cx.w) A (subscripted slice false o i) (fun r s₃ => wpAny (model cx.prog cx.w) A (letTemporaryGo value o r >>= fun _ => pure r) Q noE s₃) noE s := by
    have hg : wpAny (model cx.prog cx.w) A (getItem o i) (fun r s₃ => wpAny (model cx.prog cx.w) A (letTemporaryGo value o r >>= fun _ => pure r) Q noE s₃) noE s :=
      wpAny_mono h (fun r s₃ h₃ => wpAny_bind (wpAny_letTemporaryGo (wpAny_pure h₃))) fun _ _ x => x
    rcases hsl false rfl with q | q <;> rw [q] <;> exact wpAny_operating hg
  refine wpAny_bind (wpAny_bind (wpAny_specialOf hT hl ?_))
  exact wpAny_pure (wpAny_bind fin)

theorem sub_eval {value slice : Expr} {p : Pos} {Q : Value → Shared → Prop} (hsl : ∀ b o i, b = false → subscripted slice b o i = operate [o, i] (getItem o i) ∨ subscripted slice b o i = operate [i, o] (getItem o i))
    (h : wpAny (model cx.prog cx.w) A (eval value env) (fun o s₁ => wpAny (model cx.prog cx.w) A (eval slice env) (fun i s₂ => Subs s₂ o ∧ wpAny (model cx.prog cx.w) A (getItem o i) Q noE s₂) noE s₁) noE s) :
    wpAny (model cx.prog cx.w) A (eval (.Subscript value slice p) env) Q noE s := by
  rw [eval_Subscript]
  refine wpAny_bind (wpAny_mono h (fun o s₁ h₁ => wpAny_bind (wpAny_holding (wpAny_mono h₁ (fun i s₂ h₂ => wpAny_bind (wpAny_standAt (sub_tail (fun b hb => hsl b o i hb) h₂.1 h₂.2))) fun _ _ x => x))) fun _ _ x => x)

theorem subscripted_or (slice : Expr) (b : Bool) (o i : Value) (hb : b = false) : subscripted slice b o i = operate [o, i] (getItem o i) ∨ subscripted slice b o i = operate [i, o] (getItem o i) := by
  subst hb
  cases slice
  case Slice lo hi st p => cases st; exact .inr rfl; exact .inl rfl
  all_goals exact .inl rfl

theorem item_sound {o i : Expr} {p : Pos} {c : AV} (hst : Stable I) (hev : EvOK cx A env I ev) (S : St cx ι H s) (j : I ι s.heap) (h : (do let ov ← ev o; let iv ← ev i; pItem ov iv : M AV) H = some (c, H')) :
    wpAny (model cx.prog cx.w) A (eval (.Subscript o i p) env) (PostV cx ι s.heap c H') noE s := by
  obtain ⟨a, H1, h1, h2⟩ := bind_some h
  obtain ⟨b, H2, h3, h4⟩ := bind_some h2
  refine sub_eval (fun b o i hb => subscripted_or _ b o i hb) (wpAny_mono (hev _ _ _ _ _ _ S j h1) (fun v s₁ q₁ => ?_) fun _ _ x => x)
  obtain ⟨ι₁, e1, S₁, r1⟩ := q₁
  refine wpAny_mono (hev _ _ _ _ _ _ S₁ (hst _ _ _ _ j e1) h3) (fun w s₂ q₂ => ?_) fun _ _ x => x
  obtain ⟨ι₂, e2, S₂, r2⟩ := q₂
  obtain ⟨f1, f2⟩ := pItem_sound (A := A) (E := noE) S₂ (r1.mono e2) r2 h4
  exact ⟨f1, wpAny_mono f2 (fun x s₃ q₃ => q₃.trans (e1.trans e2)) fun _ _ x => x⟩

theorem sliceEnd_sound {e : Option Expr} {k : Option Int} (hev : EvOK cx A env I ev) (S : St cx ι H s) (j : I ι s.heap) (h : sliceEnd ev e H = some (k, H')) :
    wpAny (model cx.prog cx.w) A (evalPart e env) (fun v s' => IsPart v k ∧ ∃ ι', Ext ι ι' s.heap s'.heap ∧ St cx ι' H' s') noE s := by
  cases e with
  | none =>
    obtain ⟨rfl, rfl⟩ := pure_some h
    rw [evalPart_none]
    exact wpAny_pure ⟨.none, ι, Ext.refl _ _, S⟩
  | some e =>
    obtain ⟨a, H1, h1, h2⟩ := bind_some h
    rw [evalPart_some]
    refine wpAny_mono (hev _ _ _ _ _ _ S j h1) (fun v s₁ q₁ => ?_) fun _ _ x => x
    obtain ⟨ι₁, e1, S₁, r1⟩ := q₁
    cases r1 <;> first | (cases h2; done) | skip
    obtain ⟨rfl, rfl⟩ := pure_some h2
    exact ⟨.int _ _, ι₁, e1, S₁⟩

theorem slice_sound {o : Expr} {lo hi : Option Expr} {sp p : Pos} {mu : Bool} {c : AV} (hst : Stable I) (hev : EvOK cx A env I ev) (S : St cx ι H s) (j : I ι s.heap)
    (h : (do let ov ← ev o; let a ← sliceEnd ev lo; let b ← sliceEnd ev hi; pSlice mu ov a b : M AV) H = some (c, H')) :
    wpAny (model cx.prog cx.w) A (eval (.Subscript o (.Slice lo hi none sp) p) env) (PostV cx ι s.heap c H') noE s := by
  obtain ⟨a, H1, h1, h2⟩ := bind_some h
  obtain ⟨k, H2, h3, h4⟩ := bind_some h2
  obtain ⟨m, H3, h5, h6⟩ := bind_some h4
  refine sub_eval (fun b o i hb => subscripted_or _ b o i hb) (wpAny_mono (hev _ _ _ _ _ _ S j h1) (fun v s₁ q₁ => ?_) fun _ _ x => x)
  obtain ⟨ι₁, e1, S₁, r1⟩ := q₁
  refine wpAny_Slice (wpAny_mono (sliceEnd_sound hev S₁ (hst _ _ _ _ j e1) h3) (fun w s₂ q₂ => ?_) fun _ _ x => x)
  obtain ⟨p2, ι₂, e2, S₂⟩ := q₂
  refine wpAny_mono (sliceEnd_sound hev S₂ (hst _ _ _ _ j (e1.trans e2)) h5) (fun w' s₃ q₃ => ?_) fun _ _ x => x
  obtain ⟨p3, ι₃, e3, S₃⟩ := q₃
  rw [evalPart_none]
  refine wpAny_pure ?_
  obtain ⟨f1, f2⟩ := pSlice_sound (A := A) (E := noE) S₃ (r1.mono (e2.trans e3)) p2 p3 h6
  exact ⟨f1, wpAny_mono f2 (fun x s₃ q₃ => q₃.trans ((e1.trans e2).trans e3)) fun _ _ x => x⟩

theorem rev_sound {o : Expr} {sp p p1 p2 : Pos} {k : Nat} {mu : Bool} {c : AV} (hev : EvOK cx A env I ev) (S : St cx ι H s) (j : I ι s.heap)
    (h : (do let ov ← ev o; pRev mu ov : M AV) H = some (c, H')) :
    wpAny (model cx.prog cx.w) A (eval (.Subscript o (.Slice none none (some (.UnaryOp .USub (.Constant (.int 1) k p1) p2)) sp) p) env) (PostV cx ι s.heap c H') noE s := by
  obtain ⟨a, H1, h1, h2⟩ := bind_some h
  refine sub_eval (fun b o i hb => subscripted_or _ b o i hb) (wpAny_mono (hev _ _ _ _ _ _ S j h1) (fun v s₁ q₁ => ?_) fun _ _ x => x)
  obtain ⟨ι₁, e1, S₁, r1⟩ := q₁
  refine wpAny_Slice ?_
  rw [evalPart_none]
  refine wpAny_pure (wpAny_pure ?_)
  rw [evalPart_some]
  refine wpAny_UnaryOp (wpAny_Constant_int (neg_int ?_))
  obtain ⟨f1, f2⟩ := pRev_sound (A := A) (E := noE) (t := s₁.toks + 1) (S₁.tok (s₁.toks + 1 + 1)) r1 h2
  exact ⟨f1, wpAny_mono f2 (fun x s₃ q₃ => q₃.trans e1) fun _ _ x => x⟩
end
end Mine


set_option autoImplicit false
set_option linter.unusedVariables false
namespace Mine
open PySem PyProof.Rows PySem.SeqAt

section
variable {cx : Cx} {A : Around} {ι : List Addr} {H H' : AHeap} {s : Shared} {env : Env} {I : List Addr → Heap → Prop} {ev : Expr → M AV}

/-- an object that no value reads is taken among the mutable ones -/
theorem Tn.own {h : Heap} {d : Addr} (hp : ∀ o, h.get? d = some o → NotData o) (hb : cx.h₀.get? d = none) : Tn cx cx ι (ι ++ [d]) h h := by
  have key : ∀ {a : Addr}, a ∉ ι → a ≠ d → a ∉ ι ++ [d] := fun h1 h2 hm => by
    rcases List.mem_append.mp hm with q | q
    · exact h1 q
    · exact h2 (List.mem_singleton.mp q)
  exact ⟨⟨rfl, rfl, rfl⟩, fun _ _ _ ht hn => ⟨ht, key hn fun q => by subst q; exact (hp _ ht).1 _ _ rfl⟩, fun _ _ _ ht hn => ⟨ht, key hn.1 fun q => by subst q; exact (hp _ ht).1 _ _ rfl, hn.2⟩,
    fun _ _ hl => prefix_get (List.prefix_append _ _) hl, fun _ _ _ _ _ _ hr hn => ⟨hr, key hn fun q => by subst q; rcases (hp _ hr).2 with z | z; exact z _ rfl; exact z rfl⟩,
    fun _ _ ho hn hsm => ⟨ho, key hn fun q => by subst q; obtain ⟨o, ho⟩ := hsm; rw [hb] at ho; cases ho⟩⟩
theorem VR.own {h : Heap} {d : Addr} (hp : ∀ o, h.get? d = some o → NotData o) (hb : cx.h₀.get? d = Option.none) {a : AV} {v : Value} (r : VR cx ι h a v) : VR cx (ι ++ [d]) h a v := r.gen (.own hp hb)
theorem VRs.own {h : Heap} {d : Addr} (hp : ∀ o, h.get? d = some o → NotData o) (hb : cx.h₀.get? d = Option.none) {xs : List AV} {vs : List Value} (r : VRs cx ι h xs vs) : VRs cx (ι ++ [d]) h xs vs := r.gen (.own hp hb)

theorem St.take (S : St cx ι H s) {d : Addr} {h' : Heap} {t : Nat} {o : AO} (hd : d ∉ ι) (hb : cx.h₀.get? d = none) (hp : ∀ o, s.heap.get? d = some o → NotData o) (hk : ∀ b o, b ≠ d → s.heap.get? b = some o → h'.get? b = some o)
    (hp' : ∀ o, h'.get? d = some o → NotData o) (r : OR cx (ι ++ [d]) h' d o) : St cx (ι ++ [d]) (H ++ [o]) { s with heap := h', toks := t } := by
  have S' := S.priv (t := t) hd hb hp hk
  refine ⟨S'.base, by simp [S'.len], ?_, ?_, ?_, S'.gens, S'.os, S'.sysm, ?_⟩
  · rw [List.nodup_append]
    exact ⟨S.nodup, by simp, fun x hx y hy => by rw [List.mem_singleton.mp hy]; exact fun e => hd (e ▸ hx)⟩
  · intro b hbm
    rcases List.mem_append.mp hbm with h1 | h1
    · exact S.fresh b h1
    · rw [List.mem_singleton.mp h1]; exact hb
  · intro l b q e1' e2
    by_cases hl : l < ι.length
    · rw [List.getElem?_append_left hl] at e1'
      rw [List.getElem?_append_left (S.len ▸ hl)] at e2
      have r := S'.own l b q e1' e2
      cases q with
      | list ys => obtain ⟨vs, n, hl, hz, hs⟩ := r; exact ⟨vs, n, hl, hz, hs.own hp' hb⟩
      | dict es => obtain ⟨kvs, hd, h1, h2, hs⟩ := r; exact ⟨kvs, hd, h1, h2, hs.own hp' hb⟩
    · rw [List.getElem?_append_right (by omega)] at e1'
      rw [List.getElem?_append_right (by rw [← S.len]; omega), ← S.len] at e2
      have hl0 : l - ι.length = 0 := by
        rcases Nat.eq_zero_or_pos (l - ι.length) with h0 | h0
        · exact h0
        · rw [List.getElem?_eq_none (by simp; omega)] at e1'; cases e1'
      rw [hl0] at e1' e2
      simp at e1' e2
      subst e1'; subst e2
      exact r
  · intro a ha
    obtain ⟨h1, h2, vs, n, h3⟩ := S'.hid a ha
    refine ⟨fun hm => ?_, h2, vs, n, h3⟩
    rcases List.mem_append.mp hm with hm | hm
    · exact h1 hm
    · have q' := List.mem_singleton.mp hm; subst q'; exact (hp' _ h3).1 _ _ rfl

theorem dict_notData {h : Heap} {d : Addr} {kvs : List (Str × Value)} (x : h.DictOf (strKind cx.prog cx.w) d kvs) : ∀ o, h.get? d = some o → NotData o := fun o ho => by
  obtain ⟨o', es, ep, ho', _, hd, _⟩ := x
  rw [ho] at ho'; cases ho'
  refine ⟨fun vs n q => ?_, .inl fun vs q => ?_⟩ <;> rw [hd] at q <;> cases q

theorem pairs_sound (hS : ∀ x p H, ev (.Starred x p) H = none) (hst : Stable I) (hev : EvOK cx A env I ev) (pos : Pos) : ∀ (keys : List (Option Expr)) (values : List Expr) {ks : List Str} {ι : List Addr} {H H' : AHeap} {s : Shared} {as : List AV}, St cx ι H s → I ι s.heap →
    strKeys keys = some ks → ks.length = values.length → evEach ev values H = some (as, H') →
    wpAny (model cx.prog cx.w) A (evalPairs (pairTrees keys values env pos)) (fun vs s' => allStrKeys vs = true ∧ (strPairs vs).map (·.1) = ks ∧ PostVs cx ι s.heap as H' ((strPairs vs).map (·.2)) s') noE s
  | [], [], ks, ι, H, H', s, as, S, i, hk, hl, h => by
    cases hk
    obtain ⟨rfl, rfl⟩ := pure_some h
    exact pairTrees_nil_walk ⟨rfl, rfl, ι, Ext.refl _ _, S, .nil⟩
  | [], _ :: _, ks, ι, H, H', s, as, S, i, hk, hl, h => by cases hk; cases hl
  | k :: keys, values, ks, ι, H, H', s, as, S, i, hk, hl, h => by
    unfold strKeys at hk
    split at hk
    · cases ‹k :: keys = []›
    · rename_i k0 kd kp keys0 q
      cases q
      cases hk1 : strKeys keys with
      | none => rw [hk1] at hk; cases hk
      | some ks1 =>
        rw [hk1] at hk
        cases hk
        cases values with
        | nil => cases hl
        | cons e values =>
          obtain ⟨a, H1, h1, h2⟩ := bind_some h
          obtain ⟨bs, H2, h3, h4⟩ := bind_some h2
          obtain ⟨rfl, rfl⟩ := pure_some h4
          refine pairTrees_cons_walk (wpAny_Constant_str (wpAny_mono (hev e ι H _ a H1 (S.tok _) i h1) (fun v s₁ q₁ => ?_) fun _ _ x => x))
          obtain ⟨ι₁, e1, S₁, r1⟩ := q₁
          refine wpAny_mono (pairs_sound hS hst hev pos keys values S₁ (hst _ _ _ _ i e1) hk1 (by simpa using hl) h3) (fun vs s₂ q₂ => ?_) fun _ _ x => x
          obtain ⟨q3, q4, ι₂, e2, S₂, r2⟩ := q₂
          refine ⟨q3, ?_, ι₂, e1.trans e2, S₂, ?_⟩
          · show k0 :: (strPairs vs).map (·.1) = _; rw [q4]
          · exact .cons (r1.mono e2) r2
    · cases hk

theorem map_zip_fst : ∀ {ks : List Str} {as : List AV}, ks.length = as.length → (ks.zip as).map (·.1) = ks
  | [], [], _ => rfl
  | [], _ :: _, h => by cases h
  | _ :: _, [], h => by cases h
  | k :: ks, a :: as, h => by simp [map_zip_fst (by simpa using h : ks.length = as.length)]
theorem map_zip_snd : ∀ {ks : List Str} {as : List AV}, ks.length = as.length → (ks.zip as).map (·.2) = as
  | [], [], _ => rfl
  | [], _ :: _, h => by cases h
  | _ :: _, [], h => by cases h
  | k :: ks, a :: as, h => by simp [map_zip_snd (by simpa using h : ks.length = as.length)]

theorem strKeys_all : ∀ {keys : List (Option Expr)} {ks : List Str}, strKeys keys = some ks → keys.all (·.isSome) = true ∧ keys.length = ks.length
  | [], _, h => by cases h; exact ⟨rfl, rfl⟩
  | k :: keys, ks, h => by
    unfold strKeys at h
    split at h
    · cases ‹k :: keys = []›
    · rename_i k0 kd kp keys0 q
      cases q
      cases hk1 : strKeys keys with
      | none => rw [hk1] at h; cases h
      | some ks1 =>
        rw [hk1] at h
        cases h
        obtain ⟨q1, q2⟩ := strKeys_all hk1
        exact ⟨by simpa using q1, by simp [q2]⟩
    · cases h

theorem dict_sound {keys : List (Option Expr)} {values : List Expr} {p : Pos} {ks : List Str} {c : AV} (hS : ∀ x p H, ev (.Starred x p) H = none) (hst : Stable I) (hev : EvOK cx A env I ev) (S : St cx ι H s) (i : I ι s.heap) (hk : strKeys keys = some ks)
    (hl : ks.length = values.length ∧ ks.length ≤ 15 ∧ ks ≠ [] ∧ ks.Nodup)
    (h : (do let vs ← evEach ev values; newD (ks.zip vs) : M AV) H = some (c, H')) : wpAny (model cx.prog cx.w) A (eval (.Dict keys values p) env) (PostV cx ι s.heap c H') noE s := by
  obtain ⟨hl1, hl2, hl3, hl4⟩ := hl
  obtain ⟨k1, k2⟩ := strKeys_all hk
  obtain ⟨as, H1, h1, h2⟩ := bind_some h
  cases h2
  have hlen := evEach_len h1
  have S0 := S.push { cls := .type "dict", data := .dict #[] }
  have i0 := hst _ _ _ _ i (Ext.push (ι := ι) (h := s.heap) { cls := .type "dict", data := .dict #[] })
  have hdn : s.heap.get? s.heap.objs.size = none := get_size _
  have hD0 : (s.heap.push { cls := .type "dict", data := .dict #[] }).DictOf (strKind cx.prog cx.w) s.heap.objs.size [] := Heap.DictOf.new _
  refine wpAny_Dict_walk (knd := strKind cx.prog cx.w) k1 (by omega) (fun q => by subst q; cases hk; exact hl3 rfl) (by omega) (wpAny_mono (pairs_sound hS hst hev p keys values S0 i0 hk hl1 h1) (fun vs s₁ q₁ => ?_) fun _ _ x => x)
  obtain ⟨q1, q2, ι₁, e1, S₁, r1⟩ := q₁
  have hdi : s.heap.objs.size ∉ ι₁ := e1.notin (Heap.get?_push_size _ rfl) (S.notin hdn)
  have hD1 : s₁.heap.DictOf (strKind cx.prog cx.w) s.heap.objs.size [] := DictOf.at' hD0 fun o ho => e1.keep _ o ho (S.notin hdn)
  refine display_done_str q1 (by rw [q2]; exact hl4) hD1 fun h' hd' hs' => ?_
  have hb := S.base_none hdn
  have hp := dict_notData hD1
  have hp' := dict_notData hd'
  have hlz : (ks.zip as).length ≤ LIM := by rw [List.length_zip]; have := LIM_is; omega
  refine ⟨ι₁ ++ [s.heap.objs.size], ?_, S₁.take (o := .dict (ks.zip as)) hdi hb hp hs'.extBut hp' ⟨strPairs vs, hd', ⟨S.not_sys hdn, hlz⟩, ?_, ?_⟩, ?_⟩
  · refine ⟨e1.pre.trans (List.prefix_append _ _), fun b hb hn => ?_, fun b o ho hn => ?_⟩
    · rcases List.mem_append.mp hb with q | q
      · have := e1.news b q hn
        cases hg : s.heap.get? b with
        | none => rfl
        | some o => rw [Heap.get?_push_of_some _ hg] at this; cases this
      · rw [List.mem_singleton.mp q]; exact hdn
    · exact hs'.extBut b o (fun q => by rw [q, hdn] at ho; cases ho) (e1.keep b o (Heap.get?_push_of_some _ ho) hn)
  · rw [q2, map_zip_fst (by omega)]
  · rw [map_zip_snd (by omega)]
    exact (r1.but hp hb hs'.extBut).own hp' hb
  · rw [← S₁.len]; exact .loc (by rw [List.getElem?_append_right (Nat.le_refl _)]; simp)
end
end Mine


set_option autoImplicit false
set_option linter.unusedVariables false
namespace Mine
open PySem PyProof.Rows PySem.SeqAt

section
variable {cx : Cx} {A : Around} {ι : List Addr} {H H' : AHeap} {s : Shared} {env : Env} {I : List Addr → Heap → Prop} {ev : Expr → M AV}

theorem plain_trees (hS : ∀ x p H, ev (.Starred x p) H = none) (pos : Pos) : ∀ {es : List Expr} {H H' : AHeap} {as : List AV}, evEach ev es H = some (as, H') → backTo pos (starEach es env) = es.map fun e => (false, eval e env)
  | [], _, _, _, _ => rfl
  | e :: r, H, H', as, h => by
    obtain ⟨a, H1, h1, h2⟩ := bind_some h
    obtain ⟨bs, H2, h3, h4⟩ := bind_some h2
    have hne : ∀ x p, e ≠ .Starred x p := fun x p q => by subst q; rw [hS] at h1; cases h1
    rw [starEach_cons hne, List.map_cons, ← plain_trees hS pos h3]
    rfl
theorem plain_any (es : List Expr) : (es.map fun e => (false, eval e env)).any (·.1) = false := by
  induction es with
  | nil => rfl
  | cons e r ih => simpa using ih
theorem plain_all (es : List Expr) : (es.map fun e => (false, eval e env)).all (fun x => !x.1) = true := by
  induction es with
  | nil => rfl
  | cons e r ih => simpa using ih

/-- the arguments of a call -/
theorem args_sound {f : Value} {pos : Pos} {Q : Args → Shared → Prop} (hS : ∀ x p H, ev (.Starred x p) H = none) (hst : Stable I) (hev : EvOK cx A env I ev) {es : List Expr} {as : List AV} (S : St cx ι H s) (i : I ι s.heap) (h : evEach ev es H = some (as, H'))
    (hQ : ∀ vs s', PostVs cx ι s.heap as H' vs s' → Q ⟨vs, []⟩ s') : wpAny (model cx.prog cx.w) A (evalArgs f true (backTo pos (starEach es env)) []) Q noE s := by
  have hs := each_sound hS hst hev pos es S i h
  cases es with
  | nil =>
    obtain ⟨rfl, rfl⟩ := pure_some h
    exact evalArgs_nil3 (hQ _ _ ⟨ι, Ext.refl _ _, S, .nil⟩)
  | cons e r =>
    rw [plain_trees hS pos h] at hs ⊢
    rw [List.map_cons] at hs ⊢
    exact Calls.evalArgs_plain (wpAny_mono hs (fun vs s' q => hQ vs s' q) fun _ _ x => x)

theorem callBuiltin_sound {id : String} {pos : Pos} {first : List Value} {Q : Value → Shared → Prop} (hS : ∀ x p H, ev (.Starred x p) H = none) (hst : Stable I) (hev : EvOK cx A env I ev) {es : List Expr} {as : List AV} (S : St cx ι H s) (i : I ι s.heap) (h : evEach ev es H = some (as, H'))
    (hQ : ∀ vs s', PostVs cx ι s.heap as H' vs s' → wpAny (model cx.prog cx.w) A (PySem.call (.builtin id) (first ++ vs)) Q noE s') : wpAny (model cx.prog cx.w) A (callWith pos (.builtin id) first (backTo pos (starEach es env)) []) Q noE s :=
  Calls.callWith_builtin (by rw [plain_trees hS pos h]; exact plain_any es) (args_sound hS hst hev S i h hQ)
theorem callType_sound {T : String} {pos : Pos} {Q : Value → Shared → Prop} (hS : ∀ x p H, ev (.Starred x p) H = none) (hst : Stable I) (hev : EvOK cx A env I ev) {es : List Expr} {as : List AV} (S : St cx ι H s) (i : I ι s.heap) (h : evEach ev es H = some (as, H'))
    (hQ : ∀ vs s', PostVs cx ι s.heap as H' vs s' → wpAny (model cx.prog cx.w) A (PySem.call (.type T) vs) Q noE s') : wpAny (model cx.prog cx.w) A (callWith pos (.type T) [] (backTo pos (starEach es env)) []) Q noE s :=
  PyProof.Rows.callWith_type (by rw [plain_trees hS pos h]; exact plain_any es) (args_sound hS hst hev S i h hQ)
theorem callFn_sound {a : Addr} {o : Obj} {fd : FuncData} {pos : Pos} {Q : Value → Shared → Prop} (hS : ∀ x p H, ev (.Starred x p) H = none) (hst : Stable I) (hev : EvOK cx A env I ev) {es : List Expr} {as : List AV} (S : St cx ι H s) (i : I ι s.heap) (h : evEach ev es H = some (as, H'))
    (hQ : ∀ vs s', PostVs cx ι s.heap as H' vs s' → (s'.heap.get? a = some o ∧ o.data = .func fd) ∧ wpAny (model cx.prog cx.w) A (PySem.call (.ref a) vs) Q noE s') : wpAny (model cx.prog cx.w) A (callWith pos (.ref a) [] (backTo pos (starEach es env)) []) Q noE s :=
  Calls.callWith_function (args_sound hS hst hev S i h hQ)

/-- a method of a list -/
theorem LM.slot {m : Str} {id : String} (x : LM m id) : Slot "list" m id ∧ typeOf (.builtin id) = pure (.type "method_descriptor") := by
  cases x
  · exact ⟨F.slot_list_append, by kernel_rfl⟩
  · exact ⟨F.slot_list_pop, by kernel_rfl⟩
  · exact ⟨F.slot_list_clear, by kernel_rfl⟩
  · exact ⟨F.slot_list_count, by kernel_rfl⟩
theorem LM.one {m : Str} {id id' : String} (x : LM m id) (y : LM m id') : id' = id := by
  generalize hm : m = m' at y
  cases x <;> cases y <;> first | rfl | (exact absurd hm (by decide))
theorem pMeth_lm {m : Str} {o : AV} {as : List AV} {r : AV × AHeap} (h : pMeth m o as H = some r) : ∃ id, LM m id := by
  unfold pMeth at h
  split at h
  · split at h
    · split at h
      · subst_vars; exact ⟨_, .append⟩
      · split at h
        · subst_vars; exact ⟨_, .pop⟩
        · split at h
          · subst_vars; exact ⟨_, .clear⟩
          · split at h
            · subst_vars; exact ⟨_, .count⟩
            · cases h
    · cases h
  · split at h
    · subst_vars; exact ⟨_, .count⟩
    · cases h
  · cases h

theorem plainBase_attr {o : Expr} {m : Str} (h : plainBase o = true) : attributeBase o m env (eval o env) = eval o env := by
  cases o <;> first | (cases h; done) | rfl

theorem meth_sound {o : Expr} {m : Str} {ap p : Pos} {args : List Expr} {c : AV} (R : Room A) (hS : ∀ x p H, ev (.Starred x p) H = none) (hst : Stable I) (hev : EvOK cx A env I ev) (S : St cx ι H s) (i : I ι s.heap)
    (hb : (plainBase o && ap.endLine == p.line && decide (args.length ≤ 2)) = true)
    (h : (do let ov ← ev o; let _ ← listOf ov; let vs ← evEach ev args; pMeth m ov vs : M AV) H = some (c, H')) :
    wpAny (model cx.prog cx.w) A (eval (.Call (.Attribute o m ap) args [] p) env) (PostV cx ι s.heap c H') noE s := by
  rw [Bool.and_eq_true, Bool.and_eq_true] at hb
  obtain ⟨⟨hb1, hb2⟩, hb3⟩ := hb
  have hb3 := of_decide_eq_true hb3
  obtain ⟨a, H1, h1, h2⟩ := bind_some h
  obtain ⟨xs, H2, h3, h4⟩ := bind_some h2
  obtain ⟨as, H3, h5, h6⟩ := bind_some h4
  obtain ⟨id, hid⟩ := pMeth_lm h6
  refine wpAny_Call_method_late (trees := backTo p (starEach args env)) (plainBase_attr hb1) ?_ hb2 rfl (wpAny_mono (hev _ _ _ _ _ _ S i h1) (fun v s₁ q₁ => ?_) fun _ _ x => x)
  · rw [plain_trees hS p h5, plain_all]
    simp only [List.length_nil, Bool.true_and]
    show (true && decide _) = true
    simp; omega
  · obtain ⟨ι₁, e1, S₁, r1⟩ := q₁
    obtain ⟨rfl, l, vs, n, rfl, hL⟩ := listOf_list S₁ h3 r1
    refine ⟨"list", id, F.plainAttrs_list, hid.slot.1, hid.slot.2, ⟨_, hL, rfl⟩, fun a' q => by cases q; exact ⟨_, hL, rfl⟩, ?_⟩
    refine callBuiltin_sound hS hst hev S₁ (hst _ _ _ _ i e1) h5 fun ws s₂ q₂ => ?_
    obtain ⟨ι₂, e2, S₂, r2⟩ := q₂
    obtain ⟨id', hid', hw⟩ := pMeth_sound (A := A) (E := noE) R S₂ (r1.mono e2) r2 h6
    rw [hid.one hid'] at hw
    exact wpAny_mono hw (fun x s₃ q₃ => q₃.trans (e1.trans e2)) fun _ _ x => x

theorem biOf_name {x : Str} {b : BI} (h : biOf x = some b) : (x == ("__debug__" : Str)) = false := by
  cases hx : x == ("__debug__" : Str) with
  | false => rfl
  | true => rw [beq_iff_eq.mp hx, show biOf ("__debug__" : Str) = none by decide] at h; cases h
theorem tyOf_name {x : Str} {b : Ty} (h : tyOf x = some b) : (x == ("__debug__" : Str)) = false := by
  cases hx : x == ("__debug__" : Str) with
  | false => rfl
  | true => rw [beq_iff_eq.mp hx, show tyOf ("__debug__" : Str) = none by decide] at h; cases h
end

section
variable {cx : Cx} {A : Around} {ι : List Addr} {H H' : AHeap} {s : Shared} {env : Env} {sc : Scope} {ns : List Str} {σ : Loc} {ev : Expr → M AV} {P : Pg}

theorem bi_sound {f : Str} {fp p : Pos} {args : List Expr} {b : BI} {c : AV} {mu : Bool} (hh : A.handled = none) (G : Good cx P) (hS : ∀ x p H, ev (.Starred x p) H = none) (hev : EvOK cx A env (EnvR cx env sc ns σ) ev) (S : St cx ι H s) (i : EnvR cx env sc ns σ ι s.heap)
    (hg : isGlob sc f = true) (hb : biOf f = some b) (h : (do let vs ← evEach ev args; pBI mu b vs : M AV) H = some (c, H')) :
    wpAny (model cx.prog cx.w) A (eval (.Call (.Name f fp) args [] p) env) (PostV cx ι s.heap c H') noE s := by
  obtain ⟨as, H1, h1, h2⟩ := bind_some h
  refine Call_Name rfl (load_bi G S i hg (biOf_name hb) (G.bi f b hb) ?_)
  have fin : ∀ vs s', PostVs cx ι s.heap as H1 vs s' → wpAny (model cx.prog cx.w) A (PySem.call (biV b) vs) (PostV cx ι s.heap c H') noE s' := fun vs s' q => by
    obtain ⟨ι₁, e1, S₁, r1⟩ := q
    exact wpAny_mono (pBI_sound hh S₁ r1 h2) (fun x s₃ q₃ => q₃.trans e1) fun _ _ x => x
  cases b with
  | len => exact callBuiltin_sound (id := "len") (first := []) hS EnvR.stable hev S i h1 fin
  | list => exact callType_sound (T := "list") hS EnvR.stable hev S i h1 fin
  | tuple => exact callType_sound (T := "tuple") hS EnvR.stable hev S i h1 fin
  | dict => exact callType_sound (T := "dict") hS EnvR.stable hev S i h1 fin
  | int => exact callType_sound (T := "int") hS EnvR.stable hev S i h1 fin
  | range => exact callType_sound (T := "range") hS EnvR.stable hev S i h1 fin
  | min => exact callBuiltin_sound (id := "min") (first := []) hS EnvR.stable hev S i h1 fin
  | max => exact callBuiltin_sound (id := "max") (first := []) hS EnvR.stable hev S i h1 fin
  | any => exact callBuiltin_sound (id := "any") (first := []) hS EnvR.stable hev S i h1 fin
  | sorted => exact callBuiltin_sound (id := "sorted") (first := []) hS EnvR.stable hev S i h1 fin

theorem isi_sound {fp p tp : Pos} {e : Expr} {x : Str} {t : Ty} {c : AV} (G : Good cx P) (hne : ∀ x p, e ≠ .Starred x p) (hev : EvOK cx A env (EnvR cx env sc ns σ) ev) (S : St cx ι H s) (i : EnvR cx env sc ns σ ι s.heap)
    (hg : isGlob sc ("isinstance" : Str) = true) (hx : isGlob sc x = true) (ht : tyOf x = some t) (h : (do let v ← ev e; let b ← pIsi v t; pure (.bool b) : M AV) H = some (c, H')) :
    wpAny (model cx.prog cx.w) A (eval (.Call (.Name ("isinstance" : Str) fp) [e, .Name x tp] [] p) env) (PostV cx ι s.heap c H') noE s := by
  obtain ⟨a, H1, h1, h2⟩ := bind_some h
  obtain ⟨b, H2, h3, h4⟩ := bind_some h2
  obtain ⟨rfl, rfl⟩ := pure_some h4
  have htr : backTo p (starEach [e, .Name x tp] env) = [(false, eval e env), (false, eval (.Name x tp) env)] := by
    rw [starEach_cons hne]; rfl
  refine Call_Name htr (load_bi G S i hg (by decide) G.isi ?_)
  refine Calls.callWith_builtin rfl (Calls.evalArgs_plain (Calls.spliced_cons (wpAny_mono (hev _ _ _ _ _ _ S i h1) (fun v s₁ q₁ => ?_) fun _ _ x => x)))
  obtain ⟨ι₁, e1, S₁, r1⟩ := q₁
  have i1 := EnvR.stable _ _ _ _ i e1
  refine Calls.spliced_cons (load_bi G S₁ i1 hx (tyOf_name ht) (G.ty x t ht) (Calls.spliced_nil ?_))
  exact wpAny_mono (pIsi_sound S₁ r1 h3) (fun x s₃ q₃ => q₃.trans e1) fun _ _ x => x

theorem pIsiTL_sound {a : AV} {b : Bool} {v : Value} {tp : Addr} {E : Value → Shared → Prop} (S : St cx ι H s) (ra : VR cx ι s.heap a v) (ht : s.heap.get? tp = some { cls := .type "tuple", data := .seq #[.type "tuple", .type "list"] }) (h : pIsiTL a H = some (b, H')) :
    wpAny (model cx.prog cx.w) A (PySem.call (.builtin "isinstance") [v, .ref tp]) (PostV cx ι s.heap (.bool b) H') E s := by
  obtain ⟨b1, H1, h1, h2⟩ := bind_some h
  obtain ⟨b2, H2, h3, h4⟩ := bind_some h2
  obtain ⟨rfl, rfl⟩ := pure_some h4
  obtain ⟨rfl, g1⟩ := pIsi_some h1
  obtain ⟨rfl, g2⟩ := pIsi_some h3
  have f0 : ∀ (c : Bool) (t : Nat), PostV cx ι s.heap (.bool c) H' (.bool c) { s with toks := t } := fun c t => PostV.same S t (.bool c)
  cases ra with
  | none =>
    cases g1; cases g2
    exact IsiPair.tupleOfB (Tx := "NoneType") (vs := [false, false]) (.cons (.of_false_none (by decide +kernel) F.isi_meta_tuple F.sub_NoneType_tuple) (.cons (.of_false_none (by decide +kernel) F.isi_meta_list F.sub_NoneType_list) .nil)) rfl ht rfl (f0 false)
  | bool c =>
    cases g1; cases g2
    exact IsiPair.tupleOfB (Tx := "bool") (vs := [false, false]) (.cons (.of_false_bool (by decide +kernel) F.isi_meta_tuple F.sub_bool_tuple) (.cons (.of_false_bool (by decide +kernel) F.isi_meta_list F.sub_bool_list) .nil)) rfl ht rfl (f0 false)
  | int i u =>
    cases g1; cases g2
    exact IsiPair.tupleOfB (Tx := "int") (vs := [false, false]) (.cons (.of_false_int (by decide +kernel) F.isi_meta_tuple F.sub_int_tuple) (.cons (.of_false_int (by decide +kernel) F.isi_meta_list F.sub_int_list) .nil)) rfl ht rfl (f0 false)
  | str x u =>
    cases g1; cases g2
    exact IsiPair.tupleOfB (Tx := "str") (vs := [false, false]) (.cons (.of_false_str (by decide +kernel) F.isi_meta_tuple F.sub_str_tuple) (.cons (.of_false_str (by decide +kernel) F.isi_meta_list F.sub_str_list) .nil)) rfl ht rfl (f0 false)
  | tup hl hn hz hs =>
    cases g1; cases g2
    exact IsiPair.tupleOfB (Tx := "tuple") (vs := [true, false]) (.cons (.of_true F.isi_meta_tuple F.sub_tuple_tuple) (.cons (.of_false_tuple (by decide +kernel) F.isi_meta_list F.sub_tuple_list) .nil)) ⟨_, hl, rfl⟩ ht rfl (f0 true)
  | lst hl hn hz hs =>
    cases g1; cases g2
    exact IsiPair.tupleOfB (Tx := "list") (vs := [false, true]) (.cons (.of_false_list (by decide +kernel) F.isi_meta_tuple F.sub_list_tuple) (.cons (.of_true F.isi_meta_list F.sub_list_list) .nil)) ⟨_, hl, rfl⟩ ht rfl (f0 true)
  | @loc l0 a0 hl =>
    cases hH : H'[l0]? with
    | none => simp only [pIs1, hH] at g1; cases g1
    | some o =>
      cases o with
      | dict es => simp only [pIs1, hH] at g1; cases g1
      | list xs =>
        obtain ⟨vs, n, hL', _⟩ := S.own _ _ _ hl hH
        simp only [pIs1, hH, Option.some.injEq] at g1 g2
        subst g1; subst g2
        exact IsiPair.tupleOfB (Tx := "list") (vs := [false, true]) (.cons (.of_false_list (by decide +kernel) F.isi_meta_tuple F.sub_list_tuple) (.cons (.of_true F.isi_meta_list F.sub_list_list) .nil)) ⟨_, hL', rfl⟩ ht rfl (f0 true)
  | range hr hn => cases g1
  | cdict hd hn hk hsm hs => cases g1

theorem isiTL_sound {fp p tp1 tp2 tp3 : Pos} {k : Nat} {e : Expr} {x y : Str} {c : AV} (G : Good cx P) (hne : ∀ x p, e ≠ .Starred x p) (hev : EvOK cx A env (EnvR cx env sc ns σ) ev) (S : St cx ι H s) (i : EnvR cx env sc ns σ ι s.heap)
    (hg : isGlob sc ("isinstance" : Str) = true) (hx : isGlob sc x = true) (hy : isGlob sc y = true) (ht : isTL x y = true) (h : (do let v ← ev e; let b ← pIsiTL v; pure (.bool b) : M AV) H = some (c, H')) :
    wpAny (model cx.prog cx.w) A (eval (.Call (.Name ("isinstance" : Str) fp) [e, .Tuple [.Name x tp1, .Name y tp2] k tp3] [] p) env) (PostV cx ι s.heap c H') noE s := by
  simp only [isTL, Bool.and_eq_true, decide_eq_true_eq] at ht
  obtain ⟨rfl, rfl⟩ := ht
  obtain ⟨a, H1, h1, h2⟩ := bind_some h
  obtain ⟨b, H2, h3, h4⟩ := bind_some h2
  obtain ⟨rfl, rfl⟩ := pure_some h4
  have htr : backTo p (starEach [e, .Tuple [.Name ("tuple" : Str) tp1, .Name ("list" : Str) tp2] k tp3] env) = [(false, eval e env), (false, eval (.Tuple [.Name ("tuple" : Str) tp1, .Name ("list" : Str) tp2] k tp3) env)] := by
    rw [starEach_cons hne]; rfl
  refine Call_Name htr (load_bi G S i hg (by decide) G.isi ?_)
  refine Calls.callWith_builtin rfl (Calls.evalArgs_plain (Calls.spliced_cons (wpAny_mono (hev _ _ _ _ _ _ S i h1) (fun v s₁ q₁ => ?_) fun _ _ x => x)))
  obtain ⟨ι₁, e1, S₁, r1⟩ := q₁
  have i1 := EnvR.stable _ _ _ _ i e1
  refine Calls.spliced_cons (Tuple_ ?_)
  show wpAny _ _ (spliced [(false, eval (.Name ("tuple" : Str) tp1) env), (false, eval (.Name ("list" : Str) tp2) env)]) _ _ _
  refine Calls.spliced_cons (load_bi G S₁ i1 hx (by decide) (G.ty _ .tuple (by decide)) ?_)
  refine Calls.spliced_cons (load_bi G S₁ i1 hy (by decide) (G.ty _ .list (by decide)) (Calls.spliced_nil ?_))
  refine wpAny_newObj_type (Calls.spliced_nil ?_) (by size_fits)
  have S₂ := S₁.push { cls := .type "tuple", data := .seq #[.type "tuple", .type "list"] }
  have e2 : Ext ι₁ ι₁ s₁.heap (s₁.heap.push { cls := .type "tuple", data := .seq #[.type "tuple", .type "list"] }) := Ext.push _
  exact wpAny_mono (pIsiTL_sound S₂ (r1.mono e2) (Heap.get?_push_size _ rfl) h3) (fun x s₃ q₃ => q₃.trans (e1.trans e2)) fun _ _ x => x

/-- what is asked of the calls of the text's own defs -/
def CallOK (cx : Cx) (A : Around) (cf : Str → List AV → M AV) : Prop :=
  ∀ (hid : List Addr) (f : Str) (as : List AV) (H : AHeap) (a : AV) (H' : AHeap), cf f as H = some (a, H') → (f == ("__debug__" : Str)) = false ∧ ∃ fa o fd, cx.mg f = some (.ref fa) ∧ cx.h₀.get? fa = some o ∧ o.data = .func fd ∧
    ∀ (ι : List Addr) (s : Shared) (vs : List Value), St { cx with hid := hid } ι H s → VRs { cx with hid := hid } ι s.heap as vs → wpAny (model cx.prog cx.w) A (PySem.call (.ref fa) vs) (PostV { cx with hid := hid } ι s.heap a H') noE s

theorem fn_sound {f : Str} {fp p : Pos} {args : List Expr} {c : AV} {cf : Str → List AV → M AV} (G : Good cx P) (C : CallOK cx A cf) (hS : ∀ x p H, ev (.Starred x p) H = none) (hev : EvOK cx A env (EnvR cx env sc ns σ) ev) (S : St cx ι H s) (i : EnvR cx env sc ns σ ι s.heap)
    (hg : isGlob sc f = true) (h : (do let vs ← evEach ev args; cf f vs : M AV) H = some (c, H')) :
    wpAny (model cx.prog cx.w) A (eval (.Call (.Name f fp) args [] p) env) (PostV cx ι s.heap c H') noE s := by
  obtain ⟨as, H1, h1, h2⟩ := bind_some h
  obtain ⟨hd, fa, o, fd, q1, q2, q3, q4⟩ := C cx.hid f as H1 c H' h2
  refine Call_Name rfl (load_glob G S i hg hd q1 ?_)
  refine callFn_sound (o := o) (fd := fd) hS EnvR.stable hev S i h1 fun vs s' q => ?_
  obtain ⟨ι₁, e1, S₁, r1⟩ := q
  exact ⟨⟨S₁.base _ _ q2, q3⟩, wpAny_mono (q4 ι₁ s' vs S₁ r1) (fun x s₃ q₃ => q₃.trans e1) fun _ _ x => x⟩
end
end Mine


set_option autoImplicit false
set_option linter.unusedVariables false
namespace Mine
open PySem PyProof.Rows PySem.SeqAt

section
variable {cx : Cx} {A : Around} {ι : List Addr} {H H' : AHeap} {s : Shared} {P : Pg} {cf : Str → List AV → M AV}

theorem den_starred (n : Nat) (sc : Scope) (ns : List Str) (σ : Loc) (x : Expr) (p : Pos) (H : AHeap) : den P cf n sc ns σ (.Starred x p) H = none := by cases n <;> rfl
theorem den_set (n : Nat) (sc : Scope) (ns : List Str) (σ : Loc) (es : List Expr) (k : Nat) (p : Pos) (H : AHeap) : den P cf n sc ns σ (.Set es k p) H = none := by cases n <;> rfl
theorem den_ifexp (n : Nat) (sc : Scope) (ns : List Str) (σ : Loc) (t b o : Expr) (p : Pos) (H : AHeap) : den P cf n sc ns σ (.IfExp t b o p) H = none := by cases n <;> rfl

theorem noSet_pure {iter : Expr} {env : Env} (h : noSet iter = false) (v : Value) : foldedSetIterable iter env v = pure v := by
  cases iter <;> first | rfl | (cases h; done)

/-- the plain comprehension: its variable's dict is let go -/
theorem comp_plain {a : AV} {C D : Addr} {m : Str → Option Value} {ι' : List Addr} {s' : Shared} (e : Ext ι ι' s.heap s'.heap) (S : St cx ι' H' s') (r : VR cx ι' s'.heap a (.ref D)) (hn : s'.heap.Ns C m) (hc : s.heap.get? C = none) (hC : C ∉ ι') (hb : cx.h₀.get? C = none) :
    compPost (model cx.prog cx.w) A noE none (PostV cx ι s.heap a H') (.ref D) C (.ok .next) s' := by
  refine ⟨m, hn, fun h' hs => ?_⟩
  have hp : ∀ o, s'.heap.get? C = some o → NotData o := fun o ho => (Ns.notData hn o ho).1
  exact ⟨ι', e.priv hc hs.extBut, S.priv (t := s'.toks) hC hb hp hs.extBut, r.but hp hb hs.extBut⟩

theorem nameOf1_of {e : Expr} {x : Str × Pos} (h : nameOf1 e = some x) : e = .Name x.1 x.2 := by
  cases e with
  | Name y q => cases h; rfl
  | _ => exact (nomatch (show (none : Option (Str × Pos)) = some x from h))
theorem compGen_of {gens : List Comprehension} {x : Str} {iter : Expr} {ifs : List Expr} (h : compGen gens = some (x, iter, ifs)) : ∃ px, gens = [⟨.Name x px, iter, ifs, 0⟩] := by
  match gens, h with
  | [g], h =>
    have h' : (if g.is_async = 0 then (nameOf1 g.target).map fun x => (x.1, g.iter, g.ifs) else none) = some (x, iter, ifs) := h
    split at h'
    · rename_i h0
      obtain ⟨y, h1, h2⟩ := Option.map_eq_some_iff.mp h'
      cases h2
      have h3 := nameOf1_of h1
      obtain ⟨tg, it, fs, k⟩ := g
      have h3' : tg = .Name y.1 y.2 := h3
      have h0' : k = 0 := h0
      subst h3'; subst h0'
      exact ⟨y.2, rfl⟩
    · cases h'
theorem pairN_of {es : List Expr} {x y : Str × Pos} (h : pairN es = some (x, y)) : es = [.Name x.1 x.2, .Name y.1 y.2] := by
  match es, h with
  | [a, b], h =>
    have h' : (match nameOf1 a with | some x => (nameOf1 b).map fun y => (x, y) | none => none) = some (x, y) := h
    cases ha : nameOf1 a with
    | none => simp only [ha] at h'; cases h'
    | some z =>
      simp only [ha] at h'
      obtain ⟨w, h1, h2⟩ := Option.map_eq_some_iff.mp h'
      cases h2
      rw [nameOf1_of ha, nameOf1_of h1]
theorem callOf_of {e : Expr} {f : Str} {args : List Expr} (h : callOf e = some (f, args)) : ∃ fp p, e = .Call (.Name f fp) args [] p := by
  cases e with
  | Call g as kws p =>
    cases kws with
    | nil =>
      obtain ⟨z, h1, h2⟩ := Option.map_eq_some_iff.mp (show (nameOf1 g).map (fun x => (x.1, as)) = some (f, args) from h)
      cases h2
      exact ⟨z.2, p, by rw [nameOf1_of h1]⟩
    | cons _ _ => exact (nomatch (show (none : Option (Str × List Expr)) = some (f, args) from h))
  | _ => exact (nomatch (show (none : Option (Str × List Expr)) = some (f, args) from h))
theorem isM1_of {e : Expr} (h : isM1 e = true) : ∃ k p1 p2, e = .UnaryOp .USub (.Constant (.int 1) k p1) p2 := by
  cases e with
  | UnaryOp op x p =>
    have h' : (isNegOp op && isC1 x) = true := h
    rw [Bool.and_eq_true] at h'
    obtain ⟨h1, h2⟩ := h'
    cases op with
    | USub =>
      cases x with
      | Constant c k q =>
        cases c with
        | int i =>
          have : i = 1 := of_decide_eq_true h2
          subst this
          exact ⟨k, q, p, rfl⟩
        | _ => exact (nomatch (show false = true from h2))
      | _ => exact (nomatch (show false = true from h2))
    | _ => exact (nomatch (show false = true from h1))
  | _ => exact (nomatch (show false = true from h))

section
variable {sc : Scope} {ns : List Str} {σ : Loc} {env : Env} {ev : Expr → M AV} {a : AV}
theorem sub_sound {o i : Expr} {p : Pos} {mu : Bool} (hst : Stable (EnvR cx env sc ns σ)) (hev : EvOK cx A env (EnvR cx env sc ns σ) ev) (S : St cx ι H s) (j : EnvR cx env sc ns σ ι s.heap) (h : dSub ev mu o i H = some (a, H')) :
    wpAny (model cx.prog cx.w) A (eval (.Subscript o i p) env) (PostV cx ι s.heap a H') noE s := by
  cases i with
  | Slice lo hi st sp =>
    cases st with
    | none => exact slice_sound (mu := mu) hst hev S j h
    | some e =>
      have h' : (if isM1 e && lo.isNone && hi.isNone then (do let ov ← ev o; pRev mu ov) else stuck : M AV) H = some (a, H') := h
      split at h'
      · rename_i hc
        rw [Bool.and_eq_true, Bool.and_eq_true, Option.isNone_iff_eq_none, Option.isNone_iff_eq_none] at hc
        obtain ⟨⟨h1, rfl⟩, rfl⟩ := hc
        obtain ⟨k, p1, p2, rfl⟩ := isM1_of h1
        exact rev_sound hev S j h'
      · exact (stuck_some (H := H) h').elim
  | _ => exact item_sound hst hev S j h
theorem call_sound {f : Expr} {args : List Expr} {p : Pos} {mu : Bool} (hh : A.handled = none) (R : Room A) (G : Good cx P) (C : CallOK cx A cf) (hS : ∀ x p H, ev (.Starred x p) H = none) (hst : Stable (EnvR cx env sc ns σ)) (hev : EvOK cx A env (EnvR cx env sc ns σ) ev) (S : St cx ι H s) (i : EnvR cx env sc ns σ ι s.heap)
    (h : dCall ev cf mu sc f args p H = some (a, H')) : wpAny (model cx.prog cx.w) A (eval (.Call f args [] p) env) (PostV cx ι s.heap a H') noE s := by
  cases f with
  | Attribute o m ap =>
    have h' : (if plainBase o && ap.endLine == p.line && decide (args.length ≤ 2) then (do let ov ← ev o; let _ ← listOf ov; let vs ← evEach ev args; pMeth m ov vs) else stuck : M AV) H = some (a, H') := h
    split at h'
    · exact meth_sound R hS hst hev S i ‹_› h'
    · exact (stuck_some (H := H) h').elim
  | Name f fp =>
    have h' : (if isGlob sc f then (if f = ("isinstance" : Str) then dIsi ev sc args else match biOf f with | some b => dBI ev mu sc b args | none => do let vs ← evEach ev args; cf f vs) else stuck : M AV) H = some (a, H') := h
    split at h'
    · rename_i hg
      split at h'
      · rename_i hf
        subst hf
        match args, h' with
        | [e, t], h' =>
          have hne : ∀ {b : AV} {H1 : AHeap}, ev e H = some (b, H1) → ∀ y q, e ≠ .Starred y q := fun h1 y q hq => by subst hq; rw [hS] at h1; cases h1
          cases t with
          | Name t tp =>
            have h2 : (if isGlob sc t then (match tyOf t with | some t => (do let v ← ev e; let b ← pIsi v t; pure (.bool b)) | none => stuck) else stuck : M AV) H = some (a, H') := h'
            split at h2
            · rename_i hx
              cases ht : tyOf t with
              | none => simp only [ht] at h2; exact (stuck_some (H := H) h2).elim
              | some t =>
                simp only [ht] at h2
                obtain ⟨v, H1, h1, _⟩ := bind_some h2
                exact isi_sound G (hne h1) hev S i hg hx ht h2
            · exact (stuck_some (H := H) h2).elim
          | Tuple es k tp =>
            have h2 : (match pairN es with | some (t, u) => (if isTL t.1 u.1 && isGlob sc t.1 && isGlob sc u.1 then (do let v ← ev e; let b ← pIsiTL v; pure (.bool b)) else stuck) | none => stuck : M AV) H = some (a, H') := h'
            cases hp : pairN es with
            | none => simp only [hp] at h2; exact (stuck_some (H := H) h2).elim
            | some tu =>
              obtain ⟨t, u⟩ := tu
              simp only [hp] at h2
              split at h2
              · rename_i hx
                rw [Bool.and_eq_true, Bool.and_eq_true] at hx
                obtain ⟨v, H1, h1, _⟩ := bind_some h2
                rw [pairN_of hp]
                exact isiTL_sound G (hne h1) hev S i hg hx.1.2 hx.2 hx.1.1 h2
              · exact (stuck_some (H := H) h2).elim
          | _ => exact (stuck_some (H := H) h').elim
        | [], h' => exact (stuck_some (H := H) h').elim
        | [_], h' => exact (stuck_some (H := H) h').elim
        | _ :: _ :: _ :: _, h' => exact (stuck_some (H := H) h').elim
      · cases hb : biOf f with
        | none => simp only [hb] at h'; exact fn_sound G C hS hev S i hg h'
        | some b =>
          simp only [hb] at h'
          unfold dBI at h'
          cases hz : (if b = .list then isZip sc args else none : Option (Expr × Expr)) with
          | none => simp only [hz] at h'; exact bi_sound hh G hS hev S i hg hb h'
          | some xy =>
            simp only [hz] at h'
            obtain ⟨_, _, _, h2⟩ := bind_some h'
            obtain ⟨_, _, _, h3⟩ := bind_some h2
            exact (stuck_some h3).elim
    · exact (stuck_some (H := H) h').elim
  | _ => exact (stuck_some (H := H) h).elim
end

theorem den_sound (hh : A.handled = none) (R : Room A) : ∀ (n : Nat) (cx : Cx) (G : Good cx P) (C : CallOK cx A cf) (env : Env) (sc : Scope) (ns : List Str) (σ : Loc), EvOK cx A env (EnvR cx env sc ns σ) (den P cf n sc ns σ)
  | 0, cx, G, C, env, sc, ns, σ => fun e ι H s a H' S i h => (stuck_some (H := H) h).elim
  | n + 1, cx, G, C, env, sc, ns, σ => fun e ι H s a H' S i h => by
    have ih := den_sound hh R n
    have hev := ih cx G C env sc ns σ
    have hS : ∀ x p H, den P cf n sc ns σ (.Starred x p) H = none := den_starred n sc ns σ
    have hSet : ∀ es k p H, den P cf n sc ns σ (.Set es k p) H = none := den_set n sc ns σ
    have hst : Stable (EnvR cx env sc ns σ) := EnvR.stable
    cases e with
    | Constant c k p => exact const_sound S h
    | Name x p =>
      have h' : dName P sc ns σ x H = some (a, H') := h
      unfold dName at h'
      split at h'
      · exact (stuck_some (H := H) h').elim
      · rename_i hd
        have hd' := Bool.eq_false_iff.mpr hd
        split at h'
        · exact name_sound G S i ‹_› hd' h'
        · split at h'
          · obtain ⟨h1, rfl⟩ := ofOpt_some h'
            obtain ⟨v, q1, q2⟩ := G.glob _ _ h1
            rw [Bool.or_eq_false_iff] at hd'
            exact load_glob G S i ‹_› hd'.1 q1 (PostV.here S (VR.ofBase S q2))
          · exact (stuck_some (H := H) h').elim
    | BoolOp op vs p => rw [arm_eval_BoolOp]; exact bOp_sound hst hev _ _ _ S i h
    | BinOp l op r p => exact bin_sound hst hev S i h
    | UnaryOp op x p =>
      cases op with
      | USub => exact neg_sound hev S i h
      | Not => exact not_sound hev S i h
      | _ => exact (stuck_some (H := H) h).elim
    | Compare l ops cs p => exact compare_sound R hSet hst hev S i h
    | Tuple es k p => exact tuple_sound hS hst hev S i h
    | List es p => exact list_sound hS hst hev S i h
    | Dict keys vals p =>
      have h' : dDict (den P cf n sc ns σ) keys vals H = some (a, H') := h
      unfold dDict at h'
      cases hk : strKeys keys with
      | none => simp only [hk] at h'; exact (stuck_some (H := H) h').elim
      | some ks =>
        simp only [hk] at h'
        split at h'
        · exact dict_sound hS hst hev S i hk ‹_› h'
        · exact (stuck_some (H := H) h').elim
    | Subscript o j p => exact sub_sound hst hev S i h
    | ListComp elt gens scope p =>
      have h' : dComp (den P cf n sc ns σ) (fun x v => den P cf n scope (x :: ns) (some v :: σ)) n (P.mu p) sc ns scope elt gens H = some (a, H') := h
      unfold dComp at h'
      cases hg : compGen gens with
      | none => simp only [hg] at h'; exact (stuck_some (H := H) h').elim
      | some q =>
        obtain ⟨x, iter, ifs⟩ := q
        simp only [hg] at h'
        obtain ⟨px, rfl⟩ := compGen_of hg
        split at h'
        · exact (stuck_some (H := H) h').elim
        · rename_i hok
          have hok' := Bool.eq_false_iff.mpr hok
          rw [Bool.or_eq_false_iff, Bool.not_eq_false'] at hok'
          obtain ⟨iv, H1, h1, h2⟩ := bind_some h'
          obtain ⟨src, H2, h3, h4⟩ := bind_some h2
          obtain ⟨ys, H3, h5, h6⟩ := bind_some h4
          rw [eval_ListComp]
          exact comp_sound (te := fun v => denT (den P cf n scope (x :: ns) (some v :: σ)) n) (ev := fun v => den P cf n scope (x :: ns) (some v :: σ)) (use := none) (mu := P.mu p) hh (compOk_of hok'.1) (noSet_pure hok'.2)
            (fun D env' a => ih (cx.hide D) G.hide C env' scope (x :: ns) (some a :: σ))
            (fun D env' a => denT_sound R (den_set n _ _ _) (den_ifexp n _ _ _) EnvR.stable (ih (cx.hide D) G.hide C env' scope (x :: ns) (some a :: σ)) n)
            (hev _ _ _ _ _ _ S i h1) i h3 h5 h6 fun D C m ι' s' e S' r I' hn hc hC hb => comp_plain e S' r hn hc hC hb
    | Call f args kws p =>
      cases kws with
      | nil => exact call_sound hh R G C hS hst hev S i h
      | cons _ _ => exact (stuck_some (H := H) h).elim
    | _ => exact (stuck_some (H := H) h).elim
end
end Mine


set_option autoImplicit false
set_option linter.unusedVariables false
namespace Mine
open PySem PyProof.Rows PySem.SeqAt

/-- the frame's own dict and cells -/
noncomputable def Own (env : Env) (b : Addr) : Prop := b = env.locals ∨ ∃ n, env.cells.lookup n = some b

structure ExtO (env : Env) (ι ι' : List Addr) (h h' : Heap) : Prop where
  pre : ι <+: ι'
  news : ∀ a ∈ ι', a ∉ ι → h.get? a = none
  keep : ∀ b o, h.get? b = some o → b ∉ ι → ¬ Own env b → h'.get? b = some o

structure FrS (cx : Cx) (env : Env) (sc : Scope) : Prop where
  scp : env.scope = sc
  l0 : cx.h₀.get? env.locals = none
  c0 : ∀ n c, env.cells.lookup n = some c → cx.h₀.get? c = none
  inj : ∀ n n' c, env.cells.lookup n = some c → env.cells.lookup n' = some c → n = n'
  nofree : ∀ x, isLocal sc x = true → sc.names.lookup x = some .local ∨ sc.names.lookup x = some .cell

structure FS (cx : Cx) (env : Env) (sc : Scope) (ns : List Str) (σ : Loc) (ι : List Addr) (H : AHeap) (s : Shared) : Prop where
  S : St cx ι H s
  E : EnvR cx env sc ns σ ι s.heap
  cells : ∀ n c, env.cells.lookup n = some c → c ∉ ι ∧ ∃ v, s.heap.IsCell c v

section
variable {cx : Cx} {A : Around} {ι ι' ι'' : List Addr} {H H' : AHeap} {s s' : Shared} {env : Env} {sc : Scope} {ns : List Str} {σ σ' : Loc} {h h' h'' : Heap}

theorem ExtO.refl : ExtO env ι ι h h := ⟨List.prefix_refl _, fun _ a b => absurd a b, fun _ _ e _ _ => e⟩
theorem ExtO.notin (x : ExtO env ι ι' h h') {b : Addr} {o : Obj} (hb : h.get? b = some o) (hn : b ∉ ι) : b ∉ ι' := fun hm => by rw [x.news b hm hn] at hb; cases hb
theorem ExtO.trans (x : ExtO env ι ι' h h') (y : ExtO env ι' ι'' h' h'') (hown : ∀ a, Own env a → a ∉ ι'') : ExtO env ι ι'' h h'' where
  pre := x.pre.trans y.pre
  news := fun a ha hn => by
    by_cases h1 : a ∈ ι'
    · exact x.news a h1 hn
    · cases e : h.get? a with
      | none => rfl
      | some o => have := y.news a ha h1; rw [x.keep a o e hn (fun q => hown a q ha)] at this; cases this
  keep := fun b o e hn ho => y.keep b o (x.keep b o e hn ho) (x.notin e hn) ho
theorem Ext.toO (x : Ext ι ι' h h') : ExtO env ι ι' h h' := ⟨x.pre, x.news, fun b o e hn _ => x.keep b o e hn⟩

theorem FS.own (f : FS cx env sc ns σ ι H s) : ∀ a, Own env a → a ∉ ι := fun a ha => by
  rcases ha with rfl | ⟨n, hn⟩
  · exact f.E.notin
  · exact (f.cells n a hn).1
theorem FS.ownNot (f : FS cx env sc ns σ ι H s) : ∀ b o, Own env b → s.heap.get? b = some o → NotData o := fun b o hb ho => by
  rcases hb with rfl | ⟨n, hn⟩
  · obtain ⟨m, hm, _⟩ := f.E.nsm
    exact (Ns.notData hm o ho).1
  · obtain ⟨_, v, o', ho', hd⟩ := f.cells n b hn
    rw [ho] at ho'; cases ho'
    refine ⟨fun vs n q => ?_, .inl fun vs q => ?_⟩ <;> rw [hd] at q <;> cases q
theorem FrS.base (F : FrS cx env sc) : ∀ b, Own env b → cx.h₀.get? b = none := fun b hb => by
  rcases hb with rfl | ⟨n, hn⟩
  · exact F.l0
  · exact F.c0 n b hn
theorem FS.mono (f : FS cx env sc ns σ ι H s) (x : Ext ι ι' s.heap s'.heap) (S : St cx ι' H' s') : FS cx env sc ns σ ι' H' s' :=
  ⟨S, EnvR.stable _ _ _ _ f.E x, fun n c hc => let ⟨h1, v, o, ho, hd⟩ := f.cells n c hc; ⟨x.notin ho h1, v, o, x.keep _ o ho h1, hd⟩⟩

theorem Tn.monoO (x : ExtO env ι ι' h h') (hp : ∀ b o, Own env b → h.get? b = some o → NotData o) (hb : ∀ b, Own env b → cx.h₀.get? b = none) : Tn cx cx ι ι' h h' where
  same := ⟨rfl, rfl, rfl⟩
  tup := fun _ _ _ ht hn => ⟨x.keep _ _ ht hn fun q => (hp _ _ q ht).1 _ _ rfl, x.notin ht hn⟩
  lst := fun _ _ _ ht hn => ⟨x.keep _ _ ht hn.1 fun q => (hp _ _ q ht).1 _ _ rfl, x.notin ht hn.1, hn.2⟩
  loc := fun _ _ hl => prefix_get x.pre hl
  range := fun _ _ _ _ _ _ hr hn => ⟨x.keep _ _ hr hn (fun q => by rcases (hp _ _ q hr).2 with z | z; exact z _ rfl; exact z rfl), x.notin hr hn⟩
  dict := fun _ _ ho hn hsm => ⟨x.keep _ _ ho hn (fun q => by obtain ⟨o', z⟩ := hsm; rw [hb _ q] at z; cases z), x.notin ho hn⟩
theorem VR.monoO (x : ExtO env ι ι' h h') (hp : ∀ b o, Own env b → h.get? b = some o → NotData o) (hb : ∀ b, Own env b → cx.h₀.get? b = Option.none) {a : AV} {v : Value} (r : VR cx ι h a v) : VR cx ι' h' a v := r.gen (.monoO x hp hb)
theorem VRs.monoO (x : ExtO env ι ι' h h') (hp : ∀ b o, Own env b → h.get? b = some o → NotData o) (hb : ∀ b, Own env b → cx.h₀.get? b = Option.none) {xs : List AV} {vs : List Value} (r : VRs cx ι h xs vs) : VRs cx ι' h' xs vs := r.gen (.monoO x hp hb)

theorem ItR.monoO {it : Addr} {src : Src} {i : Nat} (j : ItR cx ι h it src i) (hi : it ∉ ι) (ho : ¬ Own env it) (x : ExtO env ι ι' h h') (hp : ∀ b o, Own env b → h.get? b = some o → NotData o) (hb : ∀ b, Own env b → cx.h₀.get? b = none) : ItR cx ι' h' it src i := by
  cases j with
  | list h1 h2 h3 h4 => exact .list (h1.at fun o e => x.keep _ o e hi ho) (x.keep _ _ h2 h3.1 fun q => (hp _ _ q h2).1 _ _ rfl) ⟨x.notin h2 h3.1, h3.2⟩ (h4.monoO x hp hb)
  | tup h1 h2 h3 h4 =>
    obtain ⟨o, e, r⟩ := h1
    exact .tup ⟨o, x.keep _ o e hi ho, r⟩ (x.keep _ _ h2 h3 fun q => (hp _ _ q h2).1 _ _ rfl) (x.notin h2 h3) (h4.monoO x hp hb)
  | range h1 => exact .range (x.keep _ _ h1 hi ho)
  | «at» h1 h2 => exact .at (h1.at fun o e => x.keep _ o e hi ho) (prefix_get x.pre h2)

theorem idx_inj {x y : Str} {i : Nat} (h1 : ns.idxOf? x = some i) (h2 : ns.idxOf? y = some i) : x = y := by
  rw [List.idxOf?, List.findIdx?_eq_some_iff_getElem] at h1 h2
  obtain ⟨a1, b1, _⟩ := h1
  obtain ⟨a2, b2, _⟩ := h2
  rw [← beq_iff_eq.mp b1, ← beq_iff_eq.mp b2]

theorem kindOf_eq (F : FrS cx env sc) (x : Str) : env.kindOf x = sc.names.lookup x := by rw [← F.scp]; rfl

/-- a private object that is none of the frame's own turns -/
theorem FS.priv (f : FS cx env sc ns σ ι H s) {c : Addr} {h' : Heap} {t : Nat} (hc : c ∉ ι) (hb : cx.h₀.get? c = none) (hL : env.locals ≠ c) (hp : ∀ o, s.heap.get? c = some o → NotData o ∧ (∀ v, o.data ≠ .cell v)) (hk : ∀ b o, b ≠ c → s.heap.get? b = some o → h'.get? b = some o) :
    FS cx env sc ns σ ι H { s with heap := h', toks := t } :=
  ⟨f.S.priv hc hb (fun o ho => (hp o ho).1) hk, f.E.priv hb hL hp hk, fun n d hd => let ⟨h1, v, o, ho, hd'⟩ := f.cells n d hd; ⟨h1, v, o, hk d o (fun q => by subst q; exact (hp o ho).2 _ hd') ho, hd'⟩⟩
theorem FS.tok (f : FS cx env sc ns σ ι H s) (t : Nat) : FS cx env sc ns σ ι H { s with toks := t } := ⟨f.S.tok t, f.E, f.cells⟩

theorem setN_some {x : Str} {a : AV} (h : setN ns x a σ H = some (σ', H')) : H' = H ∧ ∃ i, ns.idxOf? x = some i ∧ σ' = σ.set i (some a) := by
  unfold setN at h
  cases hi : ns.idxOf? x with
  | none => rw [hi] at h; cases h
  | some i =>
    rw [hi] at h
    obtain ⟨rfl, rfl⟩ := pure_some h
    exact ⟨rfl, i, rfl, rfl⟩

/-- a name of the frame's own is bound -/
theorem store_sound {x : Str} {p : Pos} {a : AV} {v : Value} {E : Value → Shared → Prop} {Q : Unit → Shared → Prop} (F : FrS cx env sc) (f : FS cx env sc ns σ ι H s) (hx : isLocal sc x = true) (r : VR cx ι s.heap a v) (h : setN ns x a σ H = some (σ', H'))
    (hQ : ∀ s', FS cx env sc ns σ' ι H' s' → ExtO env ι ι s.heap s'.heap → Q () s') : wpAny (model cx.prog cx.w) A (assign (.Name x p) env v) Q E s := by
  obtain ⟨rfl, i, hi, rfl⟩ := setN_some h
  have hget : ∀ y j b, ns.idxOf? y = some j → (σ.set i (some a))[j]? = some (some b) → (y = x ∧ b = a) ∨ (y ≠ x ∧ σ[j]? = some (some b)) := fun y j b h1 h2 => by
    by_cases hij : i = j
    · subst hij
      rw [List.getElem?_set] at h2
      simp only [if_true] at h2
      split at h2
      · cases h2; exact .inl ⟨idx_inj h1 hi, rfl⟩
      · cases h2
    · rw [List.getElem?_set_ne hij] at h2
      exact .inr ⟨fun q => by subst q; rw [hi] at h1; cases h1; exact hij rfl, h2⟩
  refine wpAny_assign_Name ?_
  rcases F.nofree x hx with hl | hl
  · -- in the frame's dict
    obtain ⟨m, hm, hv⟩ := f.E.nsm
    refine wpAny_storeName_local ((kindOf_eq F x).trans hl) hm (fun h' hn hs => hQ _ ?_ ?_) (by rw [f.E.kind]; rfl)
    · have hp : ∀ o, s.heap.get? env.locals = some o → NotData o := fun o ho => (Ns.notData hm o ho).1
      have hk := hs.extBut
      have hcell : ∀ d w, s.heap.IsCell d w → h'.IsCell d w := fun d w ⟨o, ho, hd⟩ => ⟨o, hk d o (fun q => by subst q; exact (Ns.notData hm o ho).2 _ hd) ho, hd⟩
      refine ⟨f.S.priv (t := s.toks + 1) f.E.notin F.l0 hp hk, ⟨f.E.kind, f.E.glob, f.E.blt, f.E.notin, F.l0, ⟨_, hn, ?_⟩, ?_, ?_, f.E.klocal, f.E.kcell, f.E.kglob⟩, ?_⟩
      · intro y j b h1 h2 h3
        rcases hget y j b h1 h2 with ⟨rfl, rfl⟩ | ⟨hne, h4⟩
        · exact ⟨v, by simp, r.but hp F.l0 hk⟩
        · obtain ⟨w, q1, q2⟩ := hv y j b h1 h4 h3
          exact ⟨w, by simp [hne, q1], q2.but hp F.l0 hk⟩
      · intro y j b h1 h2 h3
        rcases hget y j b h1 h2 with ⟨rfl, rfl⟩ | ⟨hne, h4⟩
        · rw [kindOf_eq F, hl] at h3; rcases h3 with h3 | h3 <;> cases h3
        · obtain ⟨c, w, q1, q2, q3, q4⟩ := f.E.cel y j b h1 h4 h3
          exact ⟨c, w, q1, hcell _ _ q2, q3, q4.but hp F.l0 hk⟩
      · intro y h1 h2
        obtain ⟨c, w, q1, q2, q3⟩ := f.E.has y h1 h2
        exact ⟨c, w, q1, hcell _ _ q2, q3⟩
      · intro n c hc
        obtain ⟨h1, w, h2⟩ := f.cells n c hc
        exact ⟨h1, w, hcell _ _ h2⟩
    · exact ⟨List.prefix_refl _, fun _ a b => absurd a b, fun b o e _ ho => hs.extBut b o (fun q => ho (.inl q)) e⟩
  · -- in a cell
    have hcon : ns.contains x = true := by
      have : x ∈ ns := by
        rw [List.idxOf?, List.findIdx?_eq_some_iff_getElem] at hi
        obtain ⟨a1, b1, _⟩ := hi
        rw [← beq_iff_eq.mp b1]; exact List.getElem_mem a1
      simpa using this
    obtain ⟨c, w0, hc, hc0, hci⟩ := f.E.has x hcon hl
    refine wpAny_storeName_cell f.E.kind ((kindOf_eq F x).trans hl) hc hc0 fun h' hcv hs => hQ _ ?_ ?_
    · have hpc : ∀ o, s.heap.get? c = some o → NotData o := fun o ho => by
        obtain ⟨o', ho', hd⟩ := hc0
        rw [ho] at ho'; cases ho'
        refine ⟨fun vs n q => ?_, .inl fun vs q => ?_⟩ <;> rw [hd] at q <;> cases q
      have hk := hs.extBut
      have hb := F.c0 x c hc
      obtain ⟨m, hm, hv⟩ := f.E.nsm
      have hLc : env.locals ≠ c := fun q => by
        obtain ⟨o', ho', hd⟩ := hc0
        exact (Ns.notData hm o' (q ▸ ho')).2 _ hd
      have hoth : ∀ y d w, env.cells.lookup y = some d → y ≠ x → s.heap.IsCell d w → h'.IsCell d w := fun y d w h1 h2 ⟨o, ho, hd⟩ => ⟨o, hk d o (fun q => h2 (F.inj y x c (q ▸ h1) hc)) ho, hd⟩
      refine ⟨f.S.priv (t := s.toks) hci hb hpc hk, ⟨f.E.kind, f.E.glob, f.E.blt, f.E.notin, F.l0, ⟨m, hm.at' fun o ho => hk _ o hLc ho, ?_⟩, ?_, ?_, f.E.klocal, f.E.kcell, f.E.kglob⟩, ?_⟩
      · intro y j b h1 h2 h3
        rcases hget y j b h1 h2 with ⟨rfl, rfl⟩ | ⟨hne, h4⟩
        · rw [kindOf_eq F, hl] at h3; cases h3
        · obtain ⟨w, q1, q2⟩ := hv y j b h1 h4 h3
          exact ⟨w, q1, q2.but hpc hb hk⟩
      · intro y j b h1 h2 h3
        rcases hget y j b h1 h2 with ⟨rfl, rfl⟩ | ⟨hne, h4⟩
        · exact ⟨c, v, hc, hcv, hci, r.but hpc hb hk⟩
        · obtain ⟨d, w, q1, q2, q3, q4⟩ := f.E.cel y j b h1 h4 h3
          exact ⟨d, w, q1, hoth y d _ q1 hne q2, q3, q4.but hpc hb hk⟩
      · intro y h1 h2
        obtain ⟨d, w, q1, q2, q3⟩ := f.E.has y h1 h2
        by_cases hyx : y = x
        · subst hyx; rw [hc] at q1; cases q1; exact ⟨c, _, hc, hcv, q3⟩
        · exact ⟨d, w, q1, hoth y d _ q1 hyx q2, q3⟩
      · intro n d hd
        obtain ⟨h1, w, h2⟩ := f.cells n d hd
        by_cases hyx : n = x
        · subst hyx; rw [hc] at hd; cases hd; exact ⟨h1, _, hcv⟩
        · exact ⟨h1, w, hoth n d _ hd hyx h2⟩
    · exact ⟨List.prefix_refl _, fun _ a b => absurd a b, fun b o e _ ho => hs.extBut b o (fun q => ho (.inr ⟨x, q ▸ hc⟩)) e⟩
end
end Mine


set_option autoImplicit false
set_option linter.unusedVariables false
namespace Mine
open PySem PyProof.Rows PySem.SeqAt

section
variable {cx : Cx} {A : Around} {ι ι' ι'' : List Addr} {H H' : AHeap} {s s' : Shared} {env : Env} {sc : Scope} {ns : List Str} {σ σ' : Loc} {P : Pg} {cf : Str → List AV → M AV}

def PostA (cx : Cx) (env : Env) (sc : Scope) (ns : List Str) (σ' : Loc) (ι : List Addr) (h : Heap) (H' : AHeap) : Unit → Shared → Prop := fun _ s' => ∃ ι', FS cx env sc ns σ' ι' H' s' ∧ ExtO env ι ι' h s'.heap

theorem assign_sound {n : Nat} {t : Expr} {a : AV} {v : Value} (hh : A.handled = none) (R : Room A) (G : Good cx P) (C : CallOK cx A cf) (F : FrS cx env sc) (f : FS cx env sc ns σ ι H s) (r : VR cx ι s.heap a v)
    (h : assignTo (fun σ e => den P cf n sc ns σ e) sc ns a σ t H = some (σ', H')) : wpAny (model cx.prog cx.w) A (assign t env v) (PostA cx env sc ns σ' ι s.heap H') noE s := by
  have hev := den_sound hh R n cx G C env sc ns σ
  cases t with
  | Name x p =>
    have h' : (if isLocal sc x then setN ns x a σ else stuck : M Loc) H = some (σ', H') := h
    split at h'
    · exact store_sound F f ‹_› r h' fun s' f' e => ⟨ι, f', e⟩
    · exact (stuck_some (H := H) h').elim
  | Subscript o i p =>
    obtain ⟨ov, H1, h1, h2⟩ := bind_some h
    obtain ⟨iv, H2, h3, h4⟩ := bind_some h2
    obtain ⟨u, H3, h5, h6⟩ := bind_some h4
    obtain ⟨rfl, rfl⟩ := pure_some h6
    rw [assign_Subscript]
    refine wpAny_bind (wpAny_holding (wpAny_mono (hev o ι H s _ _ f.S f.E h1) (fun w1 s₁ q₁ => ?_) fun _ _ x => x))
    obtain ⟨ι₁, e1, S₁, r1⟩ := q₁
    have f1 := f.mono e1 S₁
    refine wpAny_bind (wpAny_holding (wpAny_mono (hev i ι₁ H1 s₁ _ _ S₁ f1.E h3) (fun w2 s₂ q₂ => ?_) fun _ _ x => x))
    obtain ⟨ι₂, e2, S₂, r2⟩ := q₂
    have f2 := f1.mono e2 S₂
    refine wpAny_bind (wpAny_standAt (wpAny_bind (wpAny_holding (wpAny_mono (pStore_sound (E := noE) S₂ (r1.mono e2) r2 (r.mono (e1.trans e2)) h5) (fun w3 s₃ q₃ => ?_) fun _ _ x => x))))
    obtain ⟨ι₃, e3, S₃⟩ := q₃
    exact wpAny_release' ⟨ι₃, f2.mono e3 S₃, ((e1.trans e2).trans e3).toO⟩
  | Tuple es k p =>
    have h' : (match pairN es with | some (x, y) => assignP sc ns a σ x.1 y.1 | none => stuck : M Loc) H = some (σ', H') := h
    cases hp : pairN es with
    | none => simp only [hp] at h'; exact (stuck_some (H := H) h').elim
    | some xy =>
      obtain ⟨⟨x, px⟩, y, py⟩ := xy
      simp only [hp] at h'
      have hes := pairN_of hp
      subst hes
      cases r with
      | @tup ta vs n xs ht hn hz hs =>
        match xs, h', hs, hz with
        | [a1, a2], h', hs, hz =>
          have h2' : (if isLocal sc x && isLocal sc y then (do let σ ← setN ns x a1 σ; setN ns y a2 σ) else stuck : M Loc) H = some (σ', H') := h'
          split at h2'
          · rename_i hxy
            rw [Bool.and_eq_true] at hxy
            obtain ⟨σ1, H1, h1, h2⟩ := bind_some h2'
            obtain ⟨v1, v2, hvs, r1, r2⟩ := hs.inv2
            have hvs' : vs = #[v1, v2] := by rw [← Array.toList_inj, hvs]
            subst hvs'
            refine wpAny_assign_Tuple (items := #[v1, v2]) hh ⟨_, ht, rfl, n, rfl⟩ rfl rfl fun h' he => ?_
            have hk : ∀ b o, s.heap.get? b = some o → h'.get? b = some o := fun b o e => he b o (Nat.ne_of_lt (Heap.lt_size e)) e
            have e1 : Ext ι ι s.heap h' := Ext.keeps hk
            have f1 : FS cx env sc ns σ ι H { s with heap := h' } := f.mono e1 (f.S.keeps (t := s.toks) hk)
            show wpAny _ _ (assignInOrder [assign (.Name x px) env, assign (.Name y py) env] [v1, v2]) _ _ _
            refine assignInOrder_cons (store_sound F f1 hxy.1 (r1.mono e1) h1 fun s₂ f2 e2 => ?_)
            refine assignInOrder_cons (store_sound F f2 hxy.2 ((r2.mono e1).monoO e2 f1.ownNot F.base) h2 fun s₃ f3 e3 => ?_)
            exact assignInOrder_nil ⟨ι, f3, (e1.toO.trans e2 f2.own).trans e3 f3.own⟩
          · exact (stuck_some (H := H) h2').elim
        | [], h', hs, hz => exact (stuck_some (H := H) h').elim
        | [_], h', hs, hz => exact (stuck_some (H := H) h').elim
        | _ :: _ :: _ :: _, h', hs, hz => exact (stuck_some (H := H) h').elim
      | _ => exact (stuck_some (H := H) h').elim
  | _ => exact (stuck_some (H := H) h).elim
end
end Mine


set_option autoImplicit false
set_option linter.unusedVariables false
namespace Mine
open PySem PyProof.Rows PySem.SeqAt

noncomputable def PostS (cx : Cx) (env : Env) (sc : Scope) (ns : List Str) (ι : List Addr) (h : Heap) (r : Res) (H' : AHeap) : Flow → Shared → Prop := fun f s' =>
  ∃ ι', ExtO env ι ι' h s'.heap ∧ match r with
    | .next σ' => f = .next ∧ FS cx env sc ns σ' ι' H' s'
    | .ret a => ∃ v, f = .ret v ∧ St cx ι' H' s' ∧ (∀ b, Own env b → b ∉ ι') ∧ VR cx ι' s'.heap a v

section
variable {cx : Cx} {A : Around} {ι ι' ι'' ι₁ : List Addr} {H H' H1 : AHeap} {s s' : Shared} {env : Env} {sc : Scope} {ns : List Str} {σ σ' : Loc} {P : Pg} {cf : Str → List AV → M AV} {h₁ : Heap}

theorem PostS.trans {r : Res} {f : Flow} (e : ExtO env ι₁ ι h₁ s.heap) (p : PostS cx env sc ns ι s.heap r H' f s') : PostS cx env sc ns ι₁ h₁ r H' f s' := by
  obtain ⟨ι', e', q⟩ := p
  cases r with
  | next σ' => exact ⟨ι', e.trans e' q.2.own, q⟩
  | ret a => obtain ⟨v, q1, q2, q3, q4⟩ := q; exact ⟨ι', e.trans e' q3, v, q1, q2, q3, q4⟩

theorem execs_cons {st : Stmt} {rest : List Stmt} {Q : Flow → Shared → Prop} (h : wpAny (model cx.prog cx.w) A (exec st env) (fun f s₁ => match f with
      | .next => wpAny (model cx.prog cx.w) A (execs rest env) Q noE s₁
      | f => Q f s₁) noE s) : wpAny (model cx.prog cx.w) A (execs (st :: rest) env) Q noE s := by
  rw [arm_execs_cons]
  refine wpAny_bind (wpAny_mono h (fun f s₁ h₁ => ?_) fun _ _ x => x)
  cases f with
  | next => exact h₁
  | _ => exact wpAny_pure h₁

/-- the iterator of a for over names -/
theorem for_sound {x : Str} {px : Pos} {body : List Stmt} {it : Addr} {src : Src} {bm : AV → Loc → M Res} {r : Res} (hh : A.handled = none) (F : FrS cx env sc) (hio : ¬ Own env it) (hi0 : cx.h₀.get? it = none) (hi1 : h₁.get? it = none)
    (hb : ∀ (σ : Loc) (ι : List Addr) (H : AHeap) (s : Shared) (a : AV) (v : Value) (r : Res) (H' : AHeap), FS cx env sc ns σ ι H s → VR cx ι s.heap a v → bm a σ H = some (r, H') →
      wpAny (model cx.prog cx.w) A (assign (.Name x px) env v) (fun _ s₂ => wpAny (model cx.prog cx.w) A (execs body env) (PostS cx env sc ns ι s.heap r H') noE s₂) noE s)
    (k i : Nat) (f : FS cx env sc ns σ ι H s) (J : ItR cx ι s.heap it src i) (hi : it ∉ ι) (X : ExtO env ι₁ ι h₁ s.heap) (h : forLoop src bm k i σ H = some (r, H')) :
    codeAny (model cx.prog cx.w) A (.forLoop (.Name x px) (.ref it) body [] env) (fun res s' => ∃ f, res = .ok f ∧ PostS cx env sc ns ι₁ h₁ r H' f s') s := by
  refine codeAny_forLoop (fun k s => ∃ (ι : List Addr) (H : AHeap) (σ : Loc) (i : Nat), FS cx env sc ns σ ι H s ∧ ItR cx ι s.heap it src i ∧ it ∉ ι ∧ ExtO env ι₁ ι h₁ s.heap ∧ forLoop src bm k i σ H = some (r, H')) ?_ k ⟨ι, H, σ, i, f, J, hi, X, h⟩
  clear f J hi X h
  rintro k s ⟨ι, H, σ, i, f, J, hi, X, h⟩
  cases k with
  | zero => cases h
  | succ k =>
    unfold forLoop at h
    obtain ⟨o, H1, h1, h2⟩ := bind_some h
    obtain ⟨rfl, hn⟩ := next_sound (E := noE) hh f.S J hi0 h1
    refine wpAny_mono hn (fun q s₁ q₁ => ?_) fun _ _ x => x.elim
    obtain ⟨h', t, rfl, hk, hr⟩ := q₁
    obtain ⟨oi, hoi, g1, g2, g3⟩ := J.obj
    have hp : ∀ o, s.heap.get? it = some o → NotData o ∧ (∀ v, o.data ≠ .cell v) := fun o ho => by rw [hoi] at ho; cases ho; exact ⟨g1, g3⟩
    have hL : env.locals ≠ it := fun q => hio (.inl q.symm)
    have f1 := f.priv (t := t) hi hi0 hL hp hk
    have X1 : ExtO env ι₁ ι h₁ h' := ⟨X.pre, X.news, fun b o e hn ho => hk b o (fun q => by subst q; rw [hi1] at e; cases e) (X.keep b o e hn ho)⟩
    cases o with
    | none =>
      simp only at hr
      subst hr
      obtain ⟨rfl, rfl⟩ := pure_some h2
      exact wpAny_execs_nil ⟨_, rfl, ι, X1, rfl, f1⟩
    | some a =>
      simp only at hr
      obtain ⟨v, rfl, rv, J'⟩ := hr
      simp only
      obtain ⟨r1, H2, h3, h4⟩ := bind_some h2
      refine wpAny_mono (hb σ ι _ _ a v r1 H2 f1 rv h3) (fun _ s₂ q₂ => ?_) fun _ _ x => x.elim
      refine wpAny_mono q₂ (fun fl s₃ q₃ => ?_) fun _ _ x => x.elim
      have q₃' := q₃
      obtain ⟨ι₃, e3, q⟩ := q₃
      cases r1 with
      | next σ3 =>
        obtain ⟨rfl, f3⟩ := q
        have it3 : it ∉ ι₃ := by
          obtain ⟨oj, hoj, _⟩ := J'.obj
          exact e3.notin hoj hi
        exact ⟨k, Nat.lt_succ_self _, ι₃, H2, σ3, i + 1, f3, J'.monoO hi hio e3 f1.ownNot F.base, it3, X1.trans e3 f3.own, h4⟩
      | ret w =>
        obtain ⟨v', rfl, _⟩ := q
        obtain ⟨rfl, rfl⟩ := pure_some h4
        exact ⟨_, rfl, PostS.trans (s := { s with heap := h', toks := t }) X1 q₃'⟩

theorem while_sound {test : Expr} {body : List Stmt} {tm : Loc → M Bool} {bm : Loc → M Res} {r : Res} (F : FrS cx env sc)
    (ht : ∀ (σ : Loc) (ι : List Addr) (H : AHeap) (s : Shared) (b : Bool) (H' : AHeap), FS cx env sc ns σ ι H s → tm σ H = some (b, H') → wpAny (model cx.prog cx.w) A (PySem.isTrue test env (eval test env)) (PostB cx ι s.heap b H') noE s)
    (hb : ∀ (σ : Loc) (ι : List Addr) (H : AHeap) (s : Shared) (r : Res) (H' : AHeap), FS cx env sc ns σ ι H s → bm σ H = some (r, H') → wpAny (model cx.prog cx.w) A (execs body env) (PostS cx env sc ns ι s.heap r H') noE s)
    (k : Nat) (f : FS cx env sc ns σ ι H s) (X : ExtO env ι₁ ι h₁ s.heap) (h : whileLoop tm bm k σ H = some (r, H')) :
    codeAny (model cx.prog cx.w) A (.whileLoop test body [] env) (fun res s' => ∃ f, res = .ok f ∧ PostS cx env sc ns ι₁ h₁ r H' f s') s := by
  refine codeAny_whileLoop (fun k s => ∃ (ι : List Addr) (H : AHeap) (σ : Loc), FS cx env sc ns σ ι H s ∧ ExtO env ι₁ ι h₁ s.heap ∧ whileLoop tm bm k σ H = some (r, H')) ?_ k ⟨ι, H, σ, f, X, h⟩
  clear f X h
  rintro k s ⟨ι, H, σ, f, X, h⟩
  cases k with
  | zero => cases h
  | succ k =>
    unfold whileLoop at h
    obtain ⟨b, H1, h1, h2⟩ := bind_some h
    refine wpAny_mono (ht σ ι H s b H1 f h1) (fun c s₁ q₁ => ?_) fun _ _ x => x.elim
    obtain ⟨rfl, ι₂, e2, S₂⟩ := q₁
    have f2 := f.mono e2 S₂
    have X2 := X.trans (e2.toO (env := env)) f2.own
    cases c with
    | false =>
      obtain ⟨rfl, rfl⟩ := pure_some h2
      exact wpAny_execs_nil ⟨_, rfl, ι₂, X2, rfl, f2⟩
    | true =>
      obtain ⟨r1, H2, h3, h4⟩ := bind_some h2
      simp only [if_true]
      refine wpAny_mono (hb σ ι₂ H1 s₁ r1 H2 f2 h3) (fun fl s₃ q₃ => ?_) fun _ _ x => x.elim
      have q₃' := q₃
      obtain ⟨ι₃, e3, q⟩ := q₃
      cases r1 with
      | next σ3 =>
        obtain ⟨rfl, f3⟩ := q
        exact ⟨k, Nat.lt_succ_self _, ι₃, H2, σ3, f3, X2.trans e3 f3.own, h4⟩
      | ret w =>
        obtain ⟨v', rfl, _⟩ := q
        obtain ⟨rfl, rfl⟩ := pure_some h4
        exact ⟨_, rfl, q₃'.trans X2⟩

theorem drop_sound {e : Expr} {p : Pos} {v : Value} {Q : Flow → Shared → Prop} (h : Q .next s) : wpAny (model cx.prog cx.w) A (dropValue e p v) Q noE s := by
  unfold dropValue
  split
  · exact wpAny_pure h
  · exact wpAny_bind (wpAny_standAt (wpAny_bind (wpAny_runValue (codeAny_builtin entry_let_go (show wpAny _ _ (ret .none) _ _ s from wpAny_pure (wpAny_pure h))))))
  · exact wpAny_pure h

theorem expr_sound {e : Expr} {p : Pos} {ev : Expr → M AV} {a : AV} (hev : EvOK cx A env (EnvR cx env sc ns σ) ev) (f : FS cx env sc ns σ ι H s) (hn : noComp e = true) (hd : ∀ a b c d e', e ≠ .DictComp a b c d e') (hs : ∀ a b c d, e ≠ .SetComp a b c d) (h : ev e H = some (a, H')) :
    wpAny (model cx.prog cx.w) A (exec (.Expr e p) env) (PostS cx env sc ns ι s.heap (.next σ) H') noE s := by
  have hsw : swapsWith e none p.line env = pure false := by
    cases e <;> first | rfl | (cases hn; done) | exact absurd rfl (hd _ _ _ _ _) | exact absurd rfl (hs _ _ _ _)
  have hi : interactive env = false := by unfold interactive; rw [f.E.kind]; rfl
  rw [arm_exec_Expr, hi, hsw]
  refine wpAny_bind (wpAny_standAt ?_)
  simp only [Bool.false_eq_true, if_false, pure_bind]
  refine wpAny_bind (wpAny_mono (hev e ι H s a H' f.S f.E h) (fun v s₁ q₁ => ?_) fun _ _ x => x)
  obtain ⟨ι₁, e1, S₁, r1⟩ := q₁
  exact drop_sound ⟨ι₁, e1.toO, rfl, f.mono e1 S₁⟩
end
end Mine


set_option autoImplicit false
set_option linter.unusedVariables false
namespace Mine
open PySem PyProof.Rows PySem.SeqAt

section
variable {cx : Cx} {A : Around} {ι ι' ι'' ι₁ : List Addr} {H H' H1 : AHeap} {s s' : Shared} {env : Env} {sc : Scope} {ns : List Str} {σ σ' : Loc} {P : Pg} {cf : Str → List AV → M AV} {h₁ : Heap}

theorem exec_assign1 {t e : Expr} {p : Pos} (hs : swapsWith e (some t) p.line env = pure false) (hw : swappedStores [t] e env = pure none) (ht : ∀ x q, t ≠ .Starred x q) :
    exec (.Assign [t] e p) env = (do standAt p; let v ← eval e env; assign t env v; pure .next) := by
  rw [arm_exec_Assign]
  show (do standAt p; if ← swapsWith e (some t) p.line env then _ else _) = _
  rw [hs]
  simp only [pure_bind, Bool.false_eq_true, if_false, hw]
  have he : (assignEach [t] env).map (·.2) = [assign t env] := by
    cases t <;> first | rfl | exact absurd rfl (ht _ _)
  rw [he]
  rfl

theorem den_comp {n : Nat} {e : Expr} {a : AV} (h : den P cf n sc ns σ e H = some (a, H')) (elt : Expr) (gens : List Comprehension) (scope : Scope) (lp : Pos) (he : e = .ListComp elt gens scope lp) :
    ∃ m x px iter ifs, n = m + 1 ∧ gens = [⟨.Name x px, iter, ifs, 0⟩] ∧ compOk sc ns scope x = true ∧ noSet iter = false ∧ ∃ iv H1 src H2 ys H3, den P cf m sc ns σ iter H = some (iv, H1) ∧ srcOf iv H1 = some (src, H2) ∧
      compLoop src (compBody (fun v => denT (den P cf m scope (x :: ns) (some v :: σ)) m) (fun v => den P cf m scope (x :: ns) (some v :: σ)) ifs elt) FUEL 0 [] H2 = some (ys, H3) ∧ newL (P.mu lp) ys H3 = some (a, H') := by
  cases n with
  | zero => cases h
  | succ m =>
    subst he
    have h' : dComp (den P cf m sc ns σ) (fun x v => den P cf m scope (x :: ns) (some v :: σ)) m (P.mu lp) sc ns scope elt gens H = some (a, H') := h
    unfold dComp at h'
    cases hg : compGen gens with
    | none => simp only [hg] at h'; exact (stuck_some (H := H) h').elim
    | some q =>
      obtain ⟨x, iter, ifs⟩ := q
      simp only [hg] at h'
      obtain ⟨px, rfl⟩ := compGen_of hg
      split at h'
      · exact (stuck_some (H := H) h').elim
      · rename_i hok
        have hok' := Bool.eq_false_iff.mpr hok
        rw [Bool.or_eq_false_iff, Bool.not_eq_false'] at hok'
        obtain ⟨iv, H1, h1, h2⟩ := bind_some h'
        obtain ⟨src, H2, h3, h4⟩ := bind_some h2
        obtain ⟨ys, H3, h5, h6⟩ := bind_some h4
        exact ⟨m, _, _, _, _, rfl, rfl, hok'.1, hok'.2, iv, H1, src, H2, ys, H3, h1, h3, h5, h6⟩

theorem den_setcomp (n : Nat) (x : Expr) (g : List Comprehension) (c : Scope) (p : Pos) : den P cf n sc ns σ (.SetComp x g c p) H = none := by cases n <;> rfl
theorem den_dictcomp (n : Nat) (x y : Expr) (g : List Comprehension) (c : Scope) (p : Pos) : den P cf n sc ns σ (.DictComp x y g c p) H = none := by cases n <;> rfl

/-- the comprehension whose list is bound before its variable is let go -/
theorem swapped_sound {n : Nat} {elt : Expr} {gens : List Comprehension} {scope : Scope} {lp p yp : Pos} {y : Str} {a : AV} (hh : A.handled = none) (R : Room A) (G : Good cx P) (C : CallOK cx A cf) (F : FrS cx env sc) (f : FS cx env sc ns σ ι H s)
    (h : den P cf n sc ns σ (.ListComp elt gens scope lp) H = some (a, H1)) (hy : isLocal sc y = true) (h2 : setN ns y a σ H1 = some (σ', H')) :
    wpAny (model cx.prog cx.w) A (do standAt p; evalThenUse (.ListComp elt gens scope lp) env (assign (.Name y yp) env); return .next) (PostS cx env sc ns ι s.heap (.next σ') H') noE s := by
  obtain ⟨m, x, px, iter, ifs, rfl, rfl, hok, hset, iv, H2, src, H3, ys, H4, g1, g2, g3, g4⟩ := den_comp h elt gens scope lp rfl
  have hden := den_sound (P := P) (cf := cf) hh R m
  refine wpAny_bind (wpAny_standAt (wpAny_bind ?_))
  show wpAny _ A (do let _ ← comprehension (.ListComp elt [⟨.Name x px, iter, ifs, 0⟩] scope lp) scope env _ (newList []) false (eval iter env) (some (assign (.Name y yp) env))) _ _ s
  refine wpAny_bind ?_
  refine comp_sound (Q := fun _ s' => wpAny (model cx.prog cx.w) A (pure ()) (fun _ s₁ => wpAny (model cx.prog cx.w) A (pure Flow.next) (PostS cx env sc ns ι s.heap (.next σ') H') noE s₁) noE s') (te := fun v => denT (den P cf m scope (x :: ns) (some v :: σ)) m) (ev := fun v => den P cf m scope (x :: ns) (some v :: σ)) (use := some (assign (.Name y yp) env)) (mu := P.mu lp) hh (compOk_of hok) (noSet_pure hset)
    (fun D env' a => hden (cx.hide D) G.hide C env' scope (x :: ns) (some a :: σ))
    (fun D env' a => denT_sound R (den_set m _ _ _) (den_ifexp m _ _ _) EnvR.stable (hden (cx.hide D) G.hide C env' scope (x :: ns) (some a :: σ)) m)
    (hden cx G C env sc ns σ _ _ _ _ _ _ f.S f.E g1) f.E g2 g3 g4 fun D C' mm ι' s' e S' r I' hn hc hC hb => ?_
  have f' : FS cx env sc ns σ ι' H1 s' := ⟨S', I', (f.mono e S').cells⟩
  refine store_sound F f' hy r h2 fun s'' f'' e'' => ?_
  have hCo : ¬ Own env C' := fun q => by
    rcases q with q | ⟨nn, q⟩
    · obtain ⟨_, ⟨o, _, _, ho, _⟩, _⟩ := f.E.nsm
      rw [← q, hc] at ho; cases ho
    · obtain ⟨_, v, o, ho, _⟩ := f.cells nn C' q
      rw [hc] at ho; cases ho
  have hn'' : s''.heap.Ns C' mm := hn.at' fun o ho => e''.keep _ o ho hC hCo
  refine ⟨mm, hn'', fun h' hs' => wpAny_pure (wpAny_pure ⟨ι', ?_, rfl, ?_⟩)⟩
  · have e3 : ExtO env ι ι' s.heap s''.heap := (e.toO (env := env)).trans e'' f''.own
    exact ⟨e3.pre, e3.news, fun b o hb hn ho => hs'.extBut b o (fun q => by rw [q, hc] at hb; cases hb) (e3.keep b o hb hn ho)⟩
  · exact f''.priv (t := s''.toks) hC hb (fun q => hCo (.inl q.symm)) (Ns.notData hn'') hs'.extBut

theorem assignStmt_sound {n : Nat} {t e : Expr} {p : Pos} {a : AV} (hh : A.handled = none) (R : Room A) (G : Good cx P) (C : CallOK cx A cf) (F : FrS cx env sc) (f : FS cx env sc ns σ ι H s) (htt : isTupE t = true → isTupE e = false)
    (h1 : den P cf n sc ns σ e H = some (a, H1)) (h2 : assignTo (fun σ e => den P cf n sc ns σ e) sc ns a σ t H1 = some (σ', H')) :
    wpAny (model cx.prog cx.w) A (exec (.Assign [t] e p) env) (PostS cx env sc ns ι s.heap (.next σ') H') noE s := by
  have hstar : ∀ x q, t ≠ .Starred x q := fun x q w => by subst w; cases h2
  have hsw : swappedStores [t] e env = pure none := by
    cases t <;> first | rfl | (cases h2; done) | skip
    cases e <;> first | rfl | (cases htt rfl; done)
  have norm : swapsWith e (some t) p.line env = pure false → wpAny (model cx.prog cx.w) A (exec (.Assign [t] e p) env) (PostS cx env sc ns ι s.heap (.next σ') H') noE s := fun hs => by
    rw [exec_assign1 hs hsw hstar]
    refine wpAny_bind (wpAny_standAt (wpAny_bind (wpAny_mono (den_sound hh R n cx G C env sc ns σ e ι H s a H1 f.S f.E h1) (fun v s₁ q₁ => ?_) fun _ _ x => x)))
    obtain ⟨ι₁, e1, S₁, r1⟩ := q₁
    refine wpAny_bind (wpAny_mono (assign_sound hh R G C F (f.mono e1 S₁) r1 h2) (fun _ s₂ q₂ => ?_) fun _ _ x => x)
    obtain ⟨ι₂, f2, e2⟩ := q₂
    exact wpAny_pure ⟨ι₂, (e1.toO (env := env)).trans e2 f2.own, rfl, f2⟩
  cases e
  case ListComp elt gens scope lp =>
    cases t
    case Name y yp =>
      have hb : ∃ b, swapsWith (.ListComp elt gens scope lp) (some (.Name y yp)) p.line env = pure b := ⟨_, rfl⟩
      obtain ⟨b, hb⟩ := hb
      cases b with
      | false => exact norm hb
      | true =>
        have h2' : (if isLocal sc y = true then setN ns y a σ else stuck : M Loc) H1 = some (σ', H') := h2
        split at h2'
        · rw [exec_Assign_Name_used _ _ _ _ hb]
          exact swapped_sound hh R G C F f h1 ‹_› h2'
        · cases h2'
    all_goals exact norm rfl
  case SetComp => rw [den_setcomp] at h1; cases h1
  case DictComp => rw [den_dictcomp] at h1; cases h1
  all_goals exact norm rfl
end
end Mine


set_option autoImplicit false
set_option linter.unusedVariables false
namespace Mine
open PySem PyProof.Rows PySem.SeqAt

section
variable {cx : Cx} {A : Around} {ι ι' ι'' ι₁ : List Addr} {H H' H1 : AHeap} {s s' : Shared} {env : Env} {sc : Scope} {ns : List Str} {σ σ' : Loc} {P : Pg} {cf : Str → List AV → M AV} {h₁ : Heap}


/-- private objects turn: the frame's state stands -/
theorem FS.privs (f : FS cx env sc ns σ ι H s) {p : Addr → Prop} {h' : Heap} {t : Nat} (hp : ∀ b o, p b → s.heap.get? b = some o → NotData o ∧ (∀ v, o.data ≠ .cell v)) (hb : ∀ b, p b → cx.h₀.get? b = none) (hi : ∀ b, p b → b ∉ ι) (ho : ∀ b, p b → ¬ Own env b)
    (hk : ∀ b o, ¬ p b → s.heap.get? b = some o → h'.get? b = some o) : FS cx env sc ns σ ι H { s with heap := h', toks := t } := by
  have hp' : ∀ b o, p b → s.heap.get? b = some o → NotData o := fun b o h1 h2 => (hp b o h1 h2).1
  have hcell : ∀ n d, env.cells.lookup n = some d → ∀ v, s.heap.IsCell d v → h'.IsCell d v := fun n d hd v ⟨o, ho', hv⟩ => ⟨o, hk d o (fun q => ho d q (.inr ⟨n, hd⟩)) ho', hv⟩
  have hS : St cx ι H { s with heap := h', toks := t } := by
    refine ⟨fun b o e => hk b o (fun q => by rw [hb b q] at e; cases e) (f.S.base b o e), f.S.len, f.S.nodup, f.S.fresh, fun l a o e1 e2 => ?_, f.S.gens, f.S.os, f.S.sysm, fun a ha => ?_⟩
    · have hac : ¬ p a := fun q => hi a q (List.mem_of_getElem? e1)
      have r := f.S.own l a o e1 e2
      cases o with
      | list xs => obtain ⟨vs, n, hl, hz, hs⟩ := r; exact ⟨vs, n, hk a _ hac hl, hz, hs.buts hp' hb hk⟩
      | dict es => obtain ⟨kvs, hd, h1, h2, hs⟩ := r; exact ⟨kvs, DictOf.at' hd (fun o e => hk a o hac e), h1, h2, hs.buts hp' hb hk⟩
    · obtain ⟨h1, h2, vs, n, h3⟩ := f.S.hid a ha
      exact ⟨h1, h2, vs, n, hk a _ (fun q => (hp' _ _ q h3).1 _ _ rfl) h3⟩
  refine ⟨hS, ⟨f.E.kind, f.E.glob, f.E.blt, f.E.notin, f.E.fresh, ?_, ?_, ?_, f.E.klocal, f.E.kcell, f.E.kglob⟩, fun n d hd => ?_⟩
  · obtain ⟨m, hm, hv⟩ := f.E.nsm
    exact ⟨m, hm.at' fun o e => hk _ o (fun q => ho _ q (.inl rfl)) e, fun y i a h1 h2 h3 => by obtain ⟨v, q1, q2⟩ := hv y i a h1 h2 h3; exact ⟨v, q1, q2.buts hp' hb hk⟩⟩
  · intro y i a h1 h2 h3
    obtain ⟨d, v, q1, q2, q3, q4⟩ := f.E.cel y i a h1 h2 h3
    exact ⟨d, v, q1, hcell y d q1 _ q2, q3, q4.buts hp' hb hk⟩
  · intro y h1 h2
    obtain ⟨d, v, q1, q2, q3⟩ := f.E.has y h1 h2
    exact ⟨d, v, q1, hcell y d q1 _ q2, q3⟩
  · obtain ⟨h1, v, h2⟩ := f.cells n d hd
    exact ⟨h1, v, hcell n d hd _ h2⟩

/-- a list that is walked by its own iterator -/
inductive LiR (cx : Cx) (ι : List Addr) (h : Heap) (it : Addr) (i : Nat) (l : Addr) : Src → Prop
  | items {vs : Array Value} {n : Nat} {xs : List AV} : h.IsListIter it l i → IsL h l vs n → (l ∉ ι ∧ l ∉ cx.hid) → VRs cx ι h xs vs.toList → LiR cx ι h it i l (.items xs)
  | at {k : Nat} : h.IsListIter it l i → ι[k]? = some l → LiR cx ι h it i l (.at k)

theorem LiR.iter {h : Heap} {it l : Addr} {i : Nat} {src : Src} (x : LiR cx ι h it i l src) : h.IsListIter it l i := by cases x <;> assumption
theorem LiR.monoO {h h' : Heap} {it l : Addr} {i : Nat} {src : Src} (x : LiR cx ι h it i l src) (hi : it ∉ ι) (ho : ¬ Own env it) (e : ExtO env ι ι' h h') (hp : ∀ b o, Own env b → h.get? b = some o → NotData o) (hb : ∀ b, Own env b → cx.h₀.get? b = none) : LiR cx ι' h' it i l src := by
  cases x with
  | items h1 h2 h3 h4 => exact .items (h1.at fun o q => e.keep _ o q hi ho) (e.keep _ _ h2 h3.1 fun q => (hp _ _ q h2).1 _ _ rfl) ⟨e.notin h2 h3.1, h3.2⟩ (h4.monoO e hp hb)
  | «at» h1 h2 => exact .at (h1.at fun o q => e.keep _ o q hi ho) (prefix_get e.pre h2)

theorem IsListIter.notData {h : Heap} {it l : Addr} {i : Nat} (x : h.IsListIter it l i) : ∀ o, h.get? it = some o → NotData o ∧ (∀ v, o.data ≠ .cell v) := fun o ho => by
  obtain ⟨o', ho', hc, hd⟩ := x
  rw [ho] at ho'; cases ho'
  refine ⟨⟨fun vs n q => ?_, .inr fun q => ?_⟩, fun v q => ?_⟩
  · rw [hd] at q; cases q
  · rw [hc] at q; exact absurd q (by decide)
  · rw [hd] at q; cases q
theorem fields_notData {h : Heap} {a : Addr} {o : Obj} {vs : Array Value} {T : String} (x : h.get? a = some o) (hd : o.data = .fields vs) (hc : o.cls = .type T) (hT : T ≠ "range") : ∀ o, h.get? a = some o → NotData o ∧ (∀ v, o.data ≠ .cell v) := fun o' ho => by
  rw [x] at ho; cases ho
  refine ⟨⟨fun vs n q => ?_, .inr fun q => ?_⟩, fun v q => ?_⟩
  · rw [hd] at q; cases q
  · rw [hc] at q; injection q with q; exact hT q
  · rw [hd] at q; cases q

theorem LiR.list {it l : Addr} {i : Nat} {src : Src} {r : Option AV} (S : St cx ι H s) (x : LiR cx ι s.heap it i l src) (h : src.get i H = some (r, H')) : H' = H ∧ ∃ vs n xs, IsL s.heap l vs n ∧ VRs cx ι s.heap xs vs.toList ∧ r = xs[i]? := by
  cases x with
  | items h1 h2 h3 h4 => obtain ⟨rfl, rfl⟩ := pure_some h; exact ⟨rfl, _, _, _, h2, h4, rfl⟩
  | «at» h1 h2 =>
    simp only [Src.get] at h
    split at h
    · rename_i xs hH
      cases h
      obtain ⟨vs, n, hL, hz, h4⟩ := S.own _ _ _ h2 hH
      exact ⟨rfl, vs, n, xs, hL, h4, rfl⟩
    · cases h
theorem LiR.turn {h h' : Heap} {it l : Addr} {i j : Nat} {src : Src} {p : Addr → Prop} (x : LiR cx ι h it i l src) (hi : h'.IsListIter it l j) (hp : ∀ b o, p b → h.get? b = some o → NotData o) (hb : ∀ b, p b → cx.h₀.get? b = none) (hk : ∀ b o, ¬ p b → h.get? b = some o → h'.get? b = some o) : LiR cx ι h' it j l src := by
  cases x with
  | items h1 h2 h3 h4 => exact .items hi (hk _ _ (fun q => (hp _ _ q h2).1 _ _ rfl) h2) h3 (h4.buts hp hb hk)
  | «at» h1 h2 => exact .at hi h2

theorem LIM_two : 2 ≤ LIM := by decide

theorem enumLoop_sound {tx ty : Str} {px py tp : Pos} {tk : Nat} {body : List Stmt} {en it l : Addr} {src : Src} {bm : AV → Loc → M Res} {r : Res} (hh : A.handled = none) (F : FrS cx env sc) (hio : ¬ Own env it) (heo : ¬ Own env en) (hi0 : cx.h₀.get? it = none) (he0 : cx.h₀.get? en = none)
    (hi1 : h₁.get? it = none) (he1 : h₁.get? en = none) (hne : en ≠ it)
    (hb : ∀ (σ : Loc) (ι : List Addr) (H : AHeap) (s : Shared) (a : AV) (v : Value) (r : Res) (H' : AHeap), FS cx env sc ns σ ι H s → VR cx ι s.heap a v → bm a σ H = some (r, H') →
      wpAny (model cx.prog cx.w) A (assign (.Tuple [.Name tx px, .Name ty py] tk tp) env v) (fun _ s₂ => wpAny (model cx.prog cx.w) A (execs body env) (PostS cx env sc ns ι s.heap r H') noE s₂) noE s)
    (k i : Nat) {old : Value} (f : FS cx env sc ns σ ι H s) (N : IsEnum s.heap en it i old) (J : LiR cx ι s.heap it i l src) (hi : it ∉ ι) (he : en ∉ ι) (X : ExtO env ι₁ ι h₁ s.heap) (h : forLoop (.enum src) bm k i σ H = some (r, H')) :
    codeAny (model cx.prog cx.w) A (.forLoop (.Tuple [.Name tx px, .Name ty py] tk tp) (.ref en) body [] env) (fun res s' => ∃ f, res = .ok f ∧ PostS cx env sc ns ι₁ h₁ r H' f s') s := by
  refine codeAny_forLoop_any (fun k s => ∃ (ι : List Addr) (H : AHeap) (σ : Loc) (i : Nat) (old : Value), FS cx env sc ns σ ι H s ∧ IsEnum s.heap en it i old ∧ LiR cx ι s.heap it i l src ∧ it ∉ ι ∧ en ∉ ι ∧ ExtO env ι₁ ι h₁ s.heap ∧ forLoop (.enum src) bm k i σ H = some (r, H')) ?_ k ⟨ι, H, σ, i, old, f, N, J, hi, he, X, h⟩
  clear f J hi he X h N
  rintro k s ⟨ι, H, σ, i, old, f, N, J, hi, he, X, h⟩
  have hN : s.heap.get? en = some _ := N
  have hpI := IsListIter.notData J.iter
  have hpE : ∀ o, s.heap.get? en = some o → NotData o ∧ (∀ v, o.data ≠ .cell v) := fields_notData hN rfl rfl (by decide)
  have hp : ∀ b o, (b = en ∨ b = it) → s.heap.get? b = some o → NotData o ∧ (∀ v, o.data ≠ .cell v) := fun b o q ho => by
    rcases q with rfl | rfl
    · exact hpE o ho
    · exact hpI o ho
  have hb0 : ∀ b, (b = en ∨ b = it) → cx.h₀.get? b = none := fun b q => by rcases q with rfl | rfl; exact he0; exact hi0
  have hbι : ∀ b, (b = en ∨ b = it) → b ∉ ι := fun b q => by rcases q with rfl | rfl; exact he; exact hi
  have hbo : ∀ b, (b = en ∨ b = it) → ¬ Own env b := fun b q => by rcases q with rfl | rfl; exact heo; exact hio
  cases k with
  | zero => cases h
  | succ k =>
    unfold forLoop at h
    obtain ⟨o, H1, h1, h2⟩ := bind_some h
    obtain ⟨r0, H0, h3, h4⟩ := bind_some h1
    obtain ⟨rfl, rfl⟩ := pure_some h4
    obtain ⟨rfl, vs, n, xs, hL, hV, rfl⟩ := J.list f.S h3
    cases hx : xs[i]? with
    | none =>
      rw [hx] at h2
      obtain ⟨rfl, rfl⟩ := pure_some h2
      refine wpAny_pyNext_enum_end hh N J.iter hL.isList (by rw [Array.getElem?_eq_none_iff]; have := hV.size; rw [List.getElem?_eq_none_iff] at hx; omega) fun h' hext => ?_
      have f1 := f.priv (t := s.toks) hi hi0 (fun q => hio (.inl q.symm)) hpI hext
      exact wpAny_execs_nil ⟨_, rfl, ι, ⟨X.pre, X.news, fun b o e hn ho => hext b o (fun q => by subst q; rw [hi1] at e; cases e) (X.keep b o e hn ho)⟩, rfl, f1⟩
    | some a =>
      rw [hx] at h2
      obtain ⟨r1, H2, h5, h6⟩ := bind_some h2
      obtain ⟨v, hv, rv⟩ := hV.get hx
      refine wpAny_pyNext_enum_item (x := v) N J.iter hL.isList (by rw [← Array.getElem?_toList]; exact hv) hne fun h' hN' hI' hT hsz hk => ?_
      simp only
      refine wpAny_letOwnedTupleGo_enum hN' fun h'' hN'' hsb => ?_
      have hTen : s.heap.objs.size ≠ en := Ne.symm (Nat.ne_of_lt (Heap.lt_size hN))
      have hk2 : ∀ b o, ¬ (b = en ∨ b = it) → s.heap.get? b = some o → h''.get? b = some o := fun b o q e => hsb.extBut b o (fun z => q (.inl z)) (hk b o (fun z => q (.inl z)) (fun z => q (.inr z)) e)
      have hp' : ∀ b o, (b = en ∨ b = it) → s.heap.get? b = some o → NotData o := fun b o q e => (hp b o q e).1
      have f1 := f.privs (t := s.toks + 1) hp hb0 hbι hbo hk2
      have hI'' : h''.IsListIter it l (i + 1) := hI'.at fun o e => hsb.extBut _ o (Ne.symm hne) e
      have hT'' : h''.get? s.heap.objs.size = some { cls := .type "tuple", data := .seq #[.int i s.toks, v] } := hsb.extBut _ _ hTen hT
      have J1 : LiR cx ι h'' it (i + 1) l src := J.turn hI'' hp' hb0 hk2
      have rT : VR cx ι h'' (.tup [.int i, a]) (.ref s.heap.objs.size) := .tup (n := 0) hT'' (f.S.notin (get_size _)) (by have := LIM_two; simpa using this) (.cons (.int _ _) (.cons (rv.buts hp' hb0 hk2) .nil))
      have X1 : ExtO env ι₁ ι h₁ h'' := ⟨X.pre, X.news, fun b o e hn ho => hk2 b o (fun q => by rcases q with rfl | rfl; rw [he1] at e; cases e; rw [hi1] at e; cases e) (X.keep b o e hn ho)⟩
      refine wpAny_mono (hb σ ι _ _ _ _ r1 H2 f1 rT h5) (fun _ s₂ q₂ => ?_) fun _ _ x => x.elim
      refine wpAny_mono q₂ (fun fl s₃ q₃ => ?_) fun _ _ x => x.elim
      have q₃' := q₃
      obtain ⟨ι₃, e3, q⟩ := q₃
      cases r1 with
      | next σ3 =>
        obtain ⟨rfl, f3⟩ := q
        have it3 : it ∉ ι₃ := by
          obtain ⟨oj, hoj, _⟩ := hI''
          exact e3.notin hoj hi
        have en3 : en ∉ ι₃ := e3.notin hN'' he
        refine ⟨k, Nat.lt_succ_self _, ι₃, H2, σ3, i + 1, v, f3, ?_, J1.monoO hi hio e3 f1.ownNot F.base, it3, en3, X1.trans e3 f3.own, h6⟩
        have : IsEnum s₃.heap en it ((i : Int) + 1) v := e3.keep _ _ hN'' he heo
        rw [show ((i + 1 : Nat) : Int) = (i : Int) + 1 by omega]; exact this
      | ret w =>
        obtain ⟨v', rfl, _⟩ := q
        obtain ⟨rfl, rfl⟩ := pure_some h6
        exact ⟨_, rfl, PostS.trans (s := { s with heap := h'', toks := s.toks + 1 }) X1 q₃'⟩
end
end Mine


set_option autoImplicit false
set_option linter.unusedVariables false
namespace Mine
open PySem PyProof.Rows PySem.SeqAt

section
variable {cx : Cx} {A : Around} {ι ι' ι'' ι₁ : List Addr} {H H' H1 : AHeap} {s s' : Shared} {env : Env} {sc : Scope} {ns : List Str} {σ σ' : Loc} {P : Pg} {cf : Str → List AV → M AV} {h₁ : Heap}

theorem enumFor_sound {tx ty f : Str} {px py tp fp cp p : Pos} {tk : Nat} {e : Expr} {body : List Stmt} {bm : AV → Loc → M Res} {r : Res} {ev : Expr → M AV} (hh : A.handled = none) (G : Good cx P) (F : FrS cx env sc) (fs : FS cx env sc ns σ ι H s)
    (hev : EvOK cx A env (EnvR cx env sc ns σ) ev) (hne : ∀ x p, e ≠ .Starred x p) (hf : f = ("enumerate" : Str) ∧ isGlob sc f = true)
    (hb : ∀ (σ : Loc) (ι : List Addr) (H : AHeap) (s : Shared) (a : AV) (v : Value) (r : Res) (H' : AHeap), FS cx env sc ns σ ι H s → VR cx ι s.heap a v → bm a σ H = some (r, H') →
      wpAny (model cx.prog cx.w) A (assign (.Tuple [.Name tx px, .Name ty py] tk tp) env v) (fun _ s₂ => wpAny (model cx.prog cx.w) A (execs body env) (PostS cx env sc ns ι s.heap r H') noE s₂) noE s)
    (h : (do let v ← ev e; let _ ← listOf v; let src ← srcOf v; forLoop (.enum src) bm FUEL 0 σ : M Res) H = some (r, H')) :
    wpAny (model cx.prog cx.w) A (exec (.For (.Tuple [.Name tx px, .Name ty py] tk tp) (.Call (.Name f fp) [e] [] cp) body [] p) env) (PostS cx env sc ns ι s.heap r H') noE s := by
  obtain ⟨rfl, hg⟩ := hf
  obtain ⟨a, H1, h1, h2⟩ := bind_some h
  obtain ⟨xs, H2, h3, h4⟩ := bind_some h2
  obtain ⟨src, H3, h5, h6⟩ := bind_some h4
  have htr : backTo cp (starEach [e] env) = [(false, eval e env)] := by rw [starEach_cons hne]; rfl
  refine wpAny_For (Call_Name htr (load_bi G fs.S fs.E hg (by decide) G.enum ?_))
  refine PyProof.Rows.callWith_type rfl (Calls.evalArgs_plain (Calls.spliced_cons (wpAny_mono (hev e ι H s a H1 fs.S fs.E h1) (fun v s₁ q₁ => Calls.spliced_nil ?_) fun _ _ x => x)))
  obtain ⟨ι₁, e1, S₁, r1⟩ := q₁
  have f1 := fs.mono e1 S₁
  obtain ⟨rfl, l, vs, n, rfl, hL, hz, hV⟩ := listOf_sound S₁ h3 r1
  show wpAny _ _ (PySem.call (.type "enumerate") [.ref l]) _ _ _
  refine call_enumerate_list hL.isList fun h' hN hI hsz hk => ?_
  have hn1 : s₁.heap.get? s₁.heap.objs.size = none := get_size _
  have hn2 : s₁.heap.get? (s₁.heap.objs.size + 1) = none := Heap.get?_none_of_le (Nat.le_succ _)
  have e2 : Ext ι₁ ι₁ s₁.heap h' := Ext.keeps hk
  have S₂ : St cx ι₁ H2 { s₁ with heap := h' } := S₁.keeps (t := s₁.toks) hk
  have f2 := f1.mono (s' := { s₁ with heap := h' }) e2 S₂
  have hown : ∀ b, s₁.heap.get? b = none → ¬ Own env b := fun b hb q => by
    rcases q with q | ⟨nn, q⟩
    · obtain ⟨_, ⟨o, _, _, ho, _⟩, _⟩ := f1.E.nsm
      rw [← q, hb] at ho; cases ho
    · obtain ⟨_, v, o, ho, _⟩ := f1.cells nn b q
      rw [hb] at ho; cases ho
  have J : H3 = H2 ∧ LiR cx ι₁ h' s₁.heap.objs.size 0 l src := by
    cases r1 with
    | tup _ _ _ _ => cases h3
    | lst g1 g2 g3 g4 =>
      simp only [srcOf, Option.some.injEq, Prod.mk.injEq] at h5
      obtain ⟨rfl, rfl⟩ := h5
      exact ⟨rfl, .items hI (hk _ _ g1) g2 (g4.mono e2)⟩
    | loc hl =>
      simp only [srcOf] at h5
      split at h5
      · cases h5; exact ⟨rfl, .at hI hl⟩
      · cases h5
    | range _ _ => cases h3
    | cdict _ _ _ _ _ => cases h3
  obtain ⟨rfl, J⟩ := J
  refine wpAny_pyIter_enum hN ?_
  refine codeAny_mono (enumLoop_sound (ι₁ := ι₁) (h₁ := s₁.heap) hh F (hown _ hn1) (hown _ hn2) (S₁.base_none hn1) (S₁.base_none hn2) hn1 hn2 (Nat.succ_ne_self _) hb FUEL 0 f2 hN J (S₁.notin hn1) (S₁.notin hn2) e2.toO h6) fun res s' q => ?_
  obtain ⟨fl, rfl, q⟩ := q
  exact PostS.trans (s := s₁) e1.toO q

theorem seq_sound {st : Stmt} {rest : List Stmt} {m : Loc → M Res} {r r' : Res} (F : FrS cx env sc)
    (hst : wpAny (model cx.prog cx.w) A (exec st env) (PostS cx env sc ns ι s.heap r H1) noE s)
    (hm : ∀ (σ : Loc) (ι : List Addr) (H : AHeap) (s : Shared) (r : Res) (H' : AHeap), FS cx env sc ns σ ι H s → m σ H = some (r, H') → wpAny (model cx.prog cx.w) A (execs rest env) (PostS cx env sc ns ι s.heap r H') noE s)
    (h : goOn m r H1 = some (r', H')) : wpAny (model cx.prog cx.w) A (execs (st :: rest) env) (PostS cx env sc ns ι s.heap r' H') noE s := by
  refine execs_cons (wpAny_mono hst (fun fl s₁ q => ?_) fun _ _ x => x)
  have q0 := q
  obtain ⟨ι₁, e1, q1⟩ := q
  cases r with
  | next σ1 =>
    obtain ⟨rfl, f1⟩ := q1
    exact wpAny_mono (hm σ1 ι₁ H1 s₁ r' H' f1 h) (fun fl s₂ q₂ => q₂.trans e1) fun _ _ x => x
  | ret a =>
    obtain ⟨v, rfl, q2⟩ := q1
    obtain ⟨rfl, rfl⟩ := pure_some h
    exact q0

theorem enumArg_of {it e : Expr} (h : enumArg sc it = some e) : ∃ f fp cp, it = .Call (.Name f fp) [e] [] cp ∧ f = ("enumerate" : Str) ∧ isGlob sc f = true := by
  unfold enumArg at h
  cases hc : callOf it with
  | none => simp only [hc] at h; cases h
  | some q =>
    obtain ⟨f, as⟩ := q
    simp only [hc] at h
    obtain ⟨fp, p, rfl⟩ := callOf_of hc
    match as, h with
    | [x], h =>
      have h' : (if f = ("enumerate" : Str) ∧ isGlob sc f = true then some x else none) = some e := h
      split at h'
      · rename_i hf
        cases h'
        exact ⟨f, fp, p, rfl, hf.1, hf.2⟩
      · cases h'
    | [], h => cases h
    | _ :: _ :: _, h => cases h

section
variable {n : Nat} {r : Res} (hh : A.handled = none) (R : Room A) (G : Good cx P) (C : CallOK cx A cf) (F : FrS cx env sc)
include hh R G C F

theorem bAssign_sound {m : Loc → M Res} {rest : List Stmt} {e t : Expr} {p : Pos} (f : FS cx env sc ns σ ι H s)
    (hm : ∀ (σ : Loc) (ι : List Addr) (H : AHeap) (s : Shared) (r : Res) (H' : AHeap), FS cx env sc ns σ ι H s → m σ H = some (r, H') → wpAny (model cx.prog cx.w) A (execs rest env) (PostS cx env sc ns ι s.heap r H') noE s)
    (h : bAssign (den P cf n sc ns σ) sc ns m σ e t H = some (r, H')) : wpAny (model cx.prog cx.w) A (execs (.Assign [t] e p :: rest) env) (PostS cx env sc ns ι s.heap r H') noE s := by
  have one : ∀ {σ1 : Loc} {H1 : AHeap}, wpAny (model cx.prog cx.w) A (exec (.Assign [t] e p) env) (PostS cx env sc ns ι s.heap (.next σ1) H1) noE s → m σ1 H1 = some (r, H') → wpAny (model cx.prog cx.w) A (execs (.Assign [t] e p :: rest) env) (PostS cx env sc ns ι s.heap r H') noE s :=
    fun h1 h2 => seq_sound (m := m) F h1 hm h2
  cases t with
  | Name x q =>
    have h' : (if isLocal sc x then (do let v ← den P cf n sc ns σ e; let σ' ← setN ns x v σ; m σ') else stuck : M Res) H = some (r, H') := h
    split at h'
    · rename_i hx
      obtain ⟨a, H1, h1, h2⟩ := bind_some h'
      obtain ⟨σ1, H2, h3, h4⟩ := bind_some h2
      refine one (assignStmt_sound (n := n) hh R G C F f (fun q => by cases q) h1 ?_) h4
      show (if isLocal sc _ = true then setN ns _ a σ else stuck : M Loc) H1 = _
      rw [if_pos hx]; exact h3
    · exact (stuck_some (H := H) h').elim
  | Subscript o i q =>
    obtain ⟨a, H1, h1, h2⟩ := bind_some (show (do let v ← den P cf n sc ns σ e; let ov ← den P cf n sc ns σ o; let iv ← den P cf n sc ns σ i; pStore ov iv v; m σ : M Res) H = some (r, H') from h)
    obtain ⟨ov, H2, h3, h4⟩ := bind_some h2
    obtain ⟨iv, H3, h5, h6⟩ := bind_some h4
    obtain ⟨u, H4, h7, h8⟩ := bind_some h6
    exact one (assignStmt_sound (n := n) (σ' := σ) (H' := H4) hh R G C F f (fun q => by cases q) h1 (bind_of h3 (bind_of h5 (bind_of h7 rfl)))) h8
  | Tuple es k q =>
    have h' : (match pairN es with | some (x, y) => (if isTupE e || !isLocal sc x.1 || !isLocal sc y.1 then stuck else (do let v ← den P cf n sc ns σ e; let p ← pairOf v; let σ1 ← setN ns x.1 p.1 σ; let σ2 ← setN ns y.1 p.2 σ1; m σ2)) | none => stuck : M Res) H = some (r, H') := h
    cases hp : pairN es with
    | none => simp only [hp] at h'; exact (stuck_some (H := H) h').elim
    | some xy =>
      obtain ⟨⟨x, px⟩, y, py⟩ := xy
      simp only [hp] at h'
      split at h'
      · exact (stuck_some (H := H) h').elim
      · rename_i hc
        have hc := Bool.eq_false_iff.mpr hc
        simp only [Bool.or_eq_false_iff, Bool.not_eq_false'] at hc
        obtain ⟨a, H1, h1, h2⟩ := bind_some h'
        obtain ⟨pr, H2, h3, h4⟩ := bind_some h2
        obtain ⟨σ1, H3, h5, h6⟩ := bind_some h4
        obtain ⟨σ2, H4, h7, h8⟩ := bind_some h6
        have hes := pairN_of hp
        subst hes
        refine one (assignStmt_sound (n := n) hh R G C F f (fun _ => hc.1.1) h1 ?_) h8
        unfold pairOf at h3
        split at h3
        · obtain ⟨rfl, rfl⟩ := pure_some h3
          show (if (isLocal sc x && isLocal sc y) = true then (do let σ ← setN ns x _ σ; setN ns y _ σ) else stuck : M Loc) _ = _
          rw [if_pos (by rw [hc.1.2, hc.2]; rfl)]
          exact bind_of h5 h7
        · cases h3
  | _ => exact (stuck_some (H := H) h).elim

theorem bFor_sound {m : Loc → M Res} {bm : Loc → M Res} {rest body : List Stmt} {t it : Expr} {p : Pos} (f : FS cx env sc ns σ ι H s)
    (hb : ∀ (σ : Loc) (ι : List Addr) (H : AHeap) (s : Shared) (r : Res) (H' : AHeap), FS cx env sc ns σ ι H s → bm σ H = some (r, H') → wpAny (model cx.prog cx.w) A (execs body env) (PostS cx env sc ns ι s.heap r H') noE s)
    (hm : ∀ (σ : Loc) (ι : List Addr) (H : AHeap) (s : Shared) (r : Res) (H' : AHeap), FS cx env sc ns σ ι H s → m σ H = some (r, H') → wpAny (model cx.prog cx.w) A (execs rest env) (PostS cx env sc ns ι s.heap r H') noE s)
    (h : bFor (fun σ e => den P cf n sc ns σ e) sc ns bm m σ t it H = some (r, H')) : wpAny (model cx.prog cx.w) A (execs (.For t it body [] p :: rest) env) (PostS cx env sc ns ι s.heap r H') noE s := by
  have hden := fun σ => den_sound (P := P) (cf := cf) hh R n cx G C env sc ns σ
  have turn : ∀ (t : Expr) (σ : Loc) (ι : List Addr) (H : AHeap) (s : Shared) (a : AV) (v : Value) (r : Res) (H' : AHeap), FS cx env sc ns σ ι H s → VR cx ι s.heap a v → (do let σ' ← assignTo (fun σ e => den P cf n sc ns σ e) sc ns a σ t; bm σ' : M Res) H = some (r, H') →
      wpAny (model cx.prog cx.w) A (assign t env v) (fun _ s₂ => wpAny (model cx.prog cx.w) A (execs body env) (PostS cx env sc ns ι s.heap r H') noE s₂) noE s := by
    intro t σ ι H s a v r H' f rv h
    obtain ⟨σ1, H1, g1, g2⟩ := bind_some h
    refine wpAny_mono (assign_sound hh R G C F f rv g1) (fun _ s₂ q₂ => ?_) fun _ _ x => x
    obtain ⟨ι₂, f2, e2⟩ := q₂
    exact wpAny_mono (hb σ1 ι₂ H1 s₂ r H' f2 g2) (fun fl s₃ q₃ => q₃.trans e2) fun _ _ x => x
  cases t with
  | Name x px =>
    have h' : (if noSet it then stuck else (do let v ← den P cf n sc ns σ it; let src ← srcOf v; let r ← forLoop src (fun v σ => (do let σ' ← assignTo (fun σ e => den P cf n sc ns σ e) sc ns v σ (.Name x px); bm σ')) FUEL 0 σ; goOn m r) : M Res) H = some (r, H') := h
    split at h'
    · exact (stuck_some (H := H) h').elim
    · rename_i hset
      have hset := Bool.eq_false_iff.mpr hset
      obtain ⟨a, H1, h1, h2⟩ := bind_some h'
      obtain ⟨src, H2, h3, h4⟩ := bind_some h2
      obtain ⟨r1, H3, h5, h6⟩ := bind_some h4
      refine seq_sound (r := r1) (H1 := H3) (m := m) F ?_ hm h6
      refine wpAny_For (wpAny_mono (hden σ _ ι H s a _ f.S f.E h1) (fun v s₁ q₁ => ?_) fun _ _ x => x) (noSet_pure hset)
      obtain ⟨ι₁, e1, S₁, r1'⟩ := q₁
      have f1 := f.mono e1 S₁
      obtain ⟨rfl, hit⟩ := iter_sound (A := A) (E := noE) S₁ r1' h3
      refine wpAny_mono hit (fun w s₂ q₂ => ?_) fun _ _ x => x
      obtain ⟨ia, h2', rfl, rfl, hk2, hian, J2⟩ := q₂
      have e2 : Ext ι₁ ι₁ s₁.heap h2' := Ext.keeps hk2
      have f2 := f1.mono (s' := { s₁ with heap := h2' }) e2 (S₁.keeps (t := s₁.toks) hk2)
      have hown : ¬ Own env ia := fun q => by
        rcases q with q | ⟨nn, q⟩
        · obtain ⟨_, ⟨o, _, _, ho, _⟩, _⟩ := f1.E.nsm
          rw [← q, hian] at ho; cases ho
        · obtain ⟨_, v, o, ho, _⟩ := f1.cells nn ia q
          rw [hian] at ho; cases ho
      refine codeAny_mono (for_sound (ι₁ := ι₁) (h₁ := s₁.heap) hh F hown (S₁.base_none hian) hian (turn _) FUEL 0 f2 J2 (S₁.notin hian) e2.toO h5) fun res s' q => ?_
      obtain ⟨fl, rfl, q⟩ := q
      exact PostS.trans (s := s₁) e1.toO q
  | Tuple es k pt =>
    have h' : (match pairN es with | some (x, y) => (match enumArg sc it with | some e => (do let v ← den P cf n sc ns σ e; let _ ← listOf v; let src ← srcOf v; let r ← forLoop (.enum src) (fun v σ => (do let σ' ← assignTo (fun σ e => den P cf n sc ns σ e) sc ns v σ (.Tuple [.Name x.1 x.2, .Name y.1 y.2] k pt); bm σ')) FUEL 0 σ; goOn m r) | none => stuck) | none => stuck : M Res) H = some (r, H') := h
    cases hp : pairN es with
    | none => simp only [hp] at h'; exact (stuck_some (H := H) h').elim
    | some xy =>
      obtain ⟨⟨x, px⟩, y, py⟩ := xy
      simp only [hp] at h'
      cases he : enumArg sc it with
      | none => simp only [he] at h'; exact (stuck_some (H := H) h').elim
      | some e =>
        simp only [he] at h'
        have hes := pairN_of hp
        subst hes
        obtain ⟨fn, fp, cp, rfl, hf⟩ := enumArg_of he
        obtain ⟨a, H1, h1, h2⟩ := bind_some h'
        obtain ⟨xs, H2, h3, h4⟩ := bind_some h2
        obtain ⟨src, H3, h5, h6⟩ := bind_some h4
        obtain ⟨r1, H4, h7, h8⟩ := bind_some h6
        refine seq_sound (r := r1) (H1 := H4) (m := m) F ?_ hm h8
        exact enumFor_sound hh G F f (hden σ) (fun z q w => by subst w; rw [den_starred] at h1; cases h1) hf (turn _) (bind_of h1 (bind_of h3 (bind_of h5 h7)))
  | _ => exact (stuck_some (H := H) h).elim
end

theorem denB_sound (hh : A.handled = none) (R : Room A) (G : Good cx P) (C : CallOK cx A cf) (F : FrS cx env sc) : ∀ (n : Nat) (body : List Stmt) (σ : Loc) (ι : List Addr) (H : AHeap) (s : Shared) (r : Res) (H' : AHeap), FS cx env sc ns σ ι H s →
    denB P cf sc ns n body σ H = some (r, H') → wpAny (model cx.prog cx.w) A (execs body env) (PostS cx env sc ns ι s.heap r H') noE s
  | n, [], σ, ι, H, s, r, H', f, h => by
    have h' : (pure (.next σ) : M Res) H = some (r, H') := by cases n <;> exact h
    obtain ⟨rfl, rfl⟩ := pure_some h'
    exact wpAny_execs_nil ⟨ι, ExtO.refl, rfl, f⟩
  | 0, _ :: _, σ, ι, H, s, r, H', f, h => (stuck_some (H := H) h).elim
  | n + 1, st :: rest, σ, ι, H, s, r, H', f, h => by
    have ih := denB_sound hh R G C F n
    have hden := fun σ => den_sound (P := P) (cf := cf) hh R n cx G C env sc ns σ
    have ihr := fun σ ι H s r H' => ih rest σ ι H s r H'
    cases st with
    | Pass p => exact seq_sound (m := denB P cf sc ns n rest) (r := .next σ) F (wpAny_Pass ⟨ι, ExtO.refl, rfl, f⟩) ihr h
    | Return v p =>
      cases v with
      | none =>
        obtain ⟨rfl, rfl⟩ := pure_some (show (pure (.ret .none) : M Res) H = some (r, H') from h)
        exact execs_cons (wpAny_Return_none ⟨ι, ExtO.refl, _, rfl, f.S, f.own, .none⟩)
      | some e =>
        obtain ⟨a, H1, h1, h2⟩ := bind_some (show (do let v ← den P cf n sc ns σ e; pure (.ret v) : M Res) H = some (r, H') from h)
        obtain ⟨rfl, rfl⟩ := pure_some h2
        refine execs_cons (wpAny_Return_some (wpAny_mono (hden σ _ ι H s a _ f.S f.E h1) (fun v s₁ q₁ => ?_) fun _ _ x => x))
        obtain ⟨ι₁, e1, S₁, r1⟩ := q₁
        exact ⟨ι₁, e1.toO, v, rfl, S₁, (f.mono e1 S₁).own, r1⟩
    | Expr e p =>
      have h' : (if noComp e then (do let _ ← den P cf n sc ns σ e; denB P cf sc ns n rest σ) else stuck : M Res) H = some (r, H') := h
      split at h'
      · obtain ⟨a, H1, h1, h2⟩ := bind_some h'
        refine seq_sound (m := denB P cf sc ns n rest) (r := .next σ) F (expr_sound (hden σ) f ‹_› (fun a b c d e' q => ?_) (fun a b c d q => ?_) h1) ihr h2
        · subst q; rw [den_dictcomp] at h1; cases h1
        · subst q; rw [den_setcomp] at h1; cases h1
      · exact (stuck_some (H := H) h').elim
    | Assign ts e p =>
      match ts, h with
      | [t], h => exact bAssign_sound hh R G C F f ihr h
      | [], h => exact (stuck_some (H := H) h).elim
      | _ :: _ :: _, h => exact (stuck_some (H := H) h).elim
    | If t b o p =>
      obtain ⟨c, H1, h1, h2⟩ := bind_some (show (do let c ← denT (den P cf n sc ns σ) n t; match c with | true => (do let r ← denB P cf sc ns n b σ; goOn (denB P cf sc ns n rest) r) | false => (do let r ← denB P cf sc ns n o σ; goOn (denB P cf sc ns n rest) r) : M Res) H = some (r, H') from h)
      have hbr : ∃ r1 H2, denB P cf sc ns n (if c then b else o) σ H1 = some (r1, H2) ∧ goOn (denB P cf sc ns n rest) r1 H2 = some (r, H') := by
        cases c with
        | true => exact bind_some h2
        | false => exact bind_some h2
      obtain ⟨r1, H2, h3, h4⟩ := hbr
      refine seq_sound (r := r1) (H1 := H2) (m := denB P cf sc ns n rest) F ?_ ihr h4
      rw [arm_exec_If]
      refine wpAny_bind (wpAny_standAt (wpAny_bind (wpAny_mono (denT_sound R (den_set n _ _ _) (den_ifexp n _ _ _) EnvR.stable (hden σ) n _ ι H s c H1 f.S f.E h1) (fun c' s₁ q₁ => ?_) fun _ _ x => x)))
      obtain ⟨rfl, ι₁, e1, S₁⟩ := q₁
      cases c' with
      | true => exact wpAny_mono (ih _ σ ι₁ H1 s₁ r1 H2 (f.mono e1 S₁) h3) (fun fl s₂ q₂ => q₂.trans e1.toO) fun _ _ x => x
      | false => exact wpAny_mono (ih _ σ ι₁ H1 s₁ r1 H2 (f.mono e1 S₁) h3) (fun fl s₂ q₂ => q₂.trans e1.toO) fun _ _ x => x
    | For t it b o p =>
      cases o with
      | nil => exact bFor_sound hh R G C F f (fun σ ι H s r H' => ih b σ ι H s r H') ihr h
      | cons _ _ => exact (stuck_some (H := H) h).elim
    | While t b o p =>
      cases o with
      | nil =>
        obtain ⟨r1, H1, h1, h2⟩ := bind_some (show (do let r ← whileLoop (fun σ => denT (den P cf n sc ns σ) n t) (denB P cf sc ns n b) FUEL σ; goOn (denB P cf sc ns n rest) r : M Res) H = some (r, H') from h)
        refine seq_sound (r := r1) (H1 := H1) (m := denB P cf sc ns n rest) F ?_ ihr h2
        refine wpAny_While (codeAny_mono (while_sound (ι₁ := ι) (h₁ := s.heap) F ?_ ?_ FUEL f ExtO.refl h1) fun res s' q => ?_)
        · intro σ ι H s c H' f h
          exact denT_sound R (den_set n _ _ _) (den_ifexp n _ _ _) EnvR.stable (hden σ) n _ ι H s c H' f.S f.E h
        · intro σ ι H s r H' f h
          exact ih _ σ ι H s r H' f h
        · obtain ⟨fl, rfl, q⟩ := q
          exact q
      | cons _ _ => exact (stuck_some (H := H) h).elim
    | _ => exact (stuck_some (H := H) h).elim
end
end Mine


set_option autoImplicit false
set_option linter.unusedVariables false
namespace Mine
open PySem PyProof.Rows PySem.SeqAt

structure FnOK (cx : Cx) (f : Str) (fn : Fn) : Prop where
  nd : (f == ("__debug__" : Str)) = false
  chk : fnChk fn = true
  obj : ∃ fa o pm cd doc params, cx.mg f = some (.ref fa) ∧ cx.h₀.get? fa = some o ∧ o.data = .func (Calls.docDef f params fn.body fn.scope pm cd doc) ∧ cx.h₀.CodeRec cd f ∧
    (∀ vs : List Value, vs.length = fn.params.length → bindArgs (Calls.docDef f params fn.body fn.scope pm cd doc) ⟨vs, []⟩ = pure (fn.params.zip vs))

section
variable {cx : Cx} {A : Around} {ι ι' : List Addr} {H H' : AHeap} {s s' : Shared} {P : Pg}

theorem cellsFrom_acc {x : Str} : ∀ (names : List (Str × NameKind)) (n : Nat) (acc : List (Str × Addr)), (acc.lookup x).isSome = true → ((cellsFrom n names acc).lookup x).isSome = true
  | [], _, _, h => h
  | (y, k) :: r, n, acc, h => by
    unfold cellsFrom
    split
    · refine cellsFrom_acc r (n + 1) _ ?_
      rw [List.lookup_cons]
      cases hb : x == y with
      | true => rfl
      | false => exact h
    · exact cellsFrom_acc r n acc h
theorem cellsFrom_has {x : Str} : ∀ (names : List (Str × NameKind)) (n : Nat) (acc : List (Str × Addr)), names.lookup x = some .cell → ((cellsFrom n names acc).lookup x).isSome = true
  | [], _, _, h => by cases h
  | (y, k) :: r, n, acc, h => by
    rw [List.lookup_cons] at h
    unfold cellsFrom
    cases hb : x == y with
    | true =>
      rw [hb] at h
      cases h
      simp only [beq_self_eq_true, if_true]
      exact cellsFrom_acc r (n + 1) _ (by rw [List.lookup_cons, hb]; rfl)
    | false =>
      rw [hb] at h
      split
      · exact cellsFrom_has r (n + 1) _ h
      · exact cellsFrom_has r n acc h

theorem bindL_other {kd : Str → Option NameKind} {x : Str} : ∀ (b : List (Str × Value)) (m : Str → Option Value), x ∉ b.map (·.1) → bindL kd b m x = m x
  | [], _, _ => rfl
  | (y, v) :: r, m, h => by
    have h1 : x ≠ y := fun q => h (by rw [q]; exact List.mem_cons_self)
    have h2 : x ∉ r.map (·.1) := fun q => h (List.mem_cons_of_mem _ q)
    unfold bindL
    rw [bindL_other r _ h2]
    split
    · simp [h1]
    · rfl
theorem bindL_get {kd : Str → Option NameKind} {x : Str} {v : Value} (hk : kd x = some .local) : ∀ (b : List (Str × Value)) (m : Str → Option Value), (b.map (·.1)).Nodup → (x, v) ∈ b → bindL kd b m x = some v
  | [], _, _, h => by cases h
  | (y, w) :: r, m, hn, h => by
    rw [List.map_cons, List.nodup_cons] at hn
    unfold bindL
    rcases List.mem_cons.mp h with q | q
    · cases q
      rw [bindL_other r _ hn.1, if_pos hk]; simp
    · exact bindL_get hk r _ hn.2 q
theorem bindC_other {kd : Str → Option NameKind} {x : Str} : ∀ (b : List (Str × Value)) (m : Str → Option Value), x ∉ b.map (·.1) → bindC kd b m x = m x
  | [], _, _ => rfl
  | (y, v) :: r, m, h => by
    have h1 : x ≠ y := fun q => h (by rw [q]; exact List.mem_cons_self)
    have h2 : x ∉ r.map (·.1) := fun q => h (List.mem_cons_of_mem _ q)
    unfold bindC
    rw [bindC_other r _ h2]
    split
    · rfl
    · simp [h1]
theorem bindC_get {kd : Str → Option NameKind} {x : Str} {v : Value} (hk : ¬ kd x = some .local) : ∀ (b : List (Str × Value)) (m : Str → Option Value), (b.map (·.1)).Nodup → (x, v) ∈ b → bindC kd b m x = some v
  | [], _, _, h => by cases h
  | (y, w) :: r, m, hn, h => by
    rw [List.map_cons, List.nodup_cons] at hn
    unfold bindC
    rcases List.mem_cons.mp h with q | q
    · cases q
      rw [bindC_other r _ hn.1, if_neg hk]; simp
    · exact bindC_get hk r _ hn.2 q

theorem zip_fst {α β : Type} : ∀ {xs : List α} {ys : List β}, xs.length = ys.length → (xs.zip ys).map (·.1) = xs
  | [], [], _ => rfl
  | [], _ :: _, h => by cases h
  | _ :: _, [], h => by cases h
  | k :: ks, a :: as, h => by simp [zip_fst (by simpa using h : ks.length = as.length)]

/-- the names that hold arguments -/
theorem args_at {fn : Fn} {as : List AV} {vs : List Value} {h : Heap} {x : Str} {i : Nat} {a : AV} (ht : fn.names.take fn.params.length = fn.params) (hl : as.length = fn.params.length) (r : VRs cx ι h as vs) (h1 : fn.names.idxOf? x = some i)
    (h2 : (as.map some ++ List.replicate (fn.names.length - as.length) none : Loc)[i]? = some (some a)) : ∃ v, (x, v) ∈ fn.params.zip vs ∧ VR cx ι h a v := by
  have hi : i < as.length := by
    rcases Nat.lt_or_ge i as.length with q | q
    · exact q
    · rw [List.getElem?_append_right (by simpa using q)] at h2
      rw [List.getElem?_replicate] at h2
      split at h2 <;> cases h2
  rw [List.getElem?_append_left (by simpa using hi), List.getElem?_map] at h2
  have ha : as[i]? = some a := by
    cases q : as[i]? with
    | none => rw [q] at h2; cases h2
    | some b => rw [q] at h2; cases h2; rfl
  obtain ⟨v, hv, rv⟩ := r.get ha
  refine ⟨v, ?_, rv⟩
  have hx : fn.names[i]? = some x := by
    rw [List.idxOf?, List.findIdx?_eq_some_iff_getElem] at h1
    obtain ⟨a1, b1, _⟩ := h1
    rw [List.getElem?_eq_getElem a1, beq_iff_eq.mp b1]
  have hpx : fn.params[i]? = some x := by
    rw [← ht, List.getElem?_take, if_pos (by omega)]; exact hx
  have hz : (fn.params.zip vs)[i]? = some (x, v) := by
    rw [List.getElem?_zip_eq_some]; exact ⟨hpx, hv⟩
  exact List.mem_of_getElem? hz

theorem callP_sound (hP : ∀ f fn, P.fn f = some fn → FnOK cx f fn) (G : Good cx P) : ∀ (n : Nat) (A : Around), A.handled = none → A.units + 3 * n + 100 < cLine → A.depth + n < recursionLimit → CallOK cx A (callP P n)
  | 0, A, _, _, _ => fun hid f as H a H' h => by cases h
  | n + 1, A, hh, hu, hd => fun hid f as H a H' h => by
    unfold callP at h
    cases hf : P.fn f with
    | none => rw [hf] at h; cases h
    | some fn =>
      rw [hf] at h
      simp only at h
      obtain ⟨nd, chk, fa, o, pm, cd, doc, params, q1, q2, q3, q4, q5⟩ := hP f fn hf
      refine ⟨nd, fa, o, _, q1, q2, q3, fun ι s vs S r => ?_⟩
      split at h
      · rename_i hlen
        obtain ⟨res, H1, h1, h2⟩ := bind_some h
        unfold fnChk at chk
        simp only [Bool.and_eq_true, Bool.not_eq_true', beq_iff_eq, decide_eq_true_eq, List.all_eq_true, Bool.or_eq_true] at chk
        obtain ⟨⟨⟨⟨⟨⟨k1, k2⟩, k3⟩, k4⟩, k5⟩, k6⟩, k7⟩ := chk
        have hvl : vs.length = fn.params.length := by rw [← r.length]; exact hlen
        have hzf : (fn.params.zip vs).map (·.1) = fn.params := zip_fst hvl.symm
        have hmem : ∀ z ∈ fn.params.zip vs, z.1 ∈ fn.params := fun z hz => by rw [← hzf]; exact List.mem_map_of_mem hz
        refine wpAny_call ?_
        refine call_cells_ret (binds := fn.params.zip vs) (by omega) (S.base _ _ q2) q3 (G.nolim.keeps S.base) (q4.keeps S.base) (q5 vs hvl) (fun z hz => ?_) (fun h₁ tk Fr Cl => ?_) k2 k3 k1
        · rcases k7 z.1 (hmem z hz) with q | q
          · exact .inl q
          · exact .inr ⟨q, cellsFrom_has _ _ _ q⟩
        · generalize henv : envOfC f fn.scope s.heap.objs.size fa cd = env at Fr Cl ⊢
          have hloc : env.locals = s.heap.objs.size := by rw [← henv]; rfl
          have hcs : env.cells = cellsFrom (s.heap.objs.size + 1) fn.scope.names [] := by rw [← henv]; rfl
          have hscp : env.scope = fn.scope := by rw [← henv]; rfl
          have hkd : ∀ y, env.kindOf y = fn.scope.names.lookup y := fun y => by rw [← henv]; rfl
          have hfresh : ∀ b, s.heap.objs.size ≤ b → s.heap.get? b = none := fun b hb => Heap.get?_none_of_le hb
          have hkeep := Fr.keep
          have S1 : St { cx with hid := hid } ι H { s with heap := h₁, toks := tk } := S.keeps hkeep
          have e1 : Ext ι ι s.heap h₁ := Ext.keeps hkeep
          have hcN : ∀ nn c, env.cells.lookup nn = some c → s.heap.get? c = none := fun nn c hc => by
            rw [hcs] at hc
            exact hfresh c (Nat.le_of_lt (Cl.above nn c (mem_of_lookup hc)))
          have hlN : s.heap.get? env.locals = none := by rw [hloc]; exact hfresh _ (Nat.le_refl _)
          have F : FrS { cx with hid := hid } env fn.scope := ⟨hscp, S.base_none hlN, fun nn c hc => S.base_none (hcN nn c hc), fun nn n' c a1 a2 => by
              rw [hcs] at a1 a2; exact name_of_addr Cl.apart (mem_of_lookup a1) (mem_of_lookup a2), fun x hx => by
              unfold isLocal at hx
              cases hl : fn.scope.names.lookup x with
              | none => rw [hl] at hx; cases hx
              | some k =>
                have := k4 _ (lookup_mem hl)
                rcases this with (q | q) | q
                · simp only at q; subst q; exact .inl rfl
                · simp only at q; subst q; exact .inr rfl
                · simp only at q; subst q; rw [hl] at hx; cases hx⟩
          have G' : Good { cx with hid := hid } P := ⟨G.g, G.b, G.nolim, G.glob, G.bi, G.isi, G.ty, G.zip, G.enum⟩
          have E1 : EnvR { cx with hid := hid } env fn.scope fn.names (as.map some ++ List.replicate (fn.names.length - as.length) none) ι h₁ := by
            refine ⟨by rw [hscp]; exact k1, by rw [← henv]; rfl, by rw [← henv]; rfl, S.notin hlN, S.base_none hlN, ⟨_, by rw [hloc]; exact Fr.ns, ?_⟩, ?_, ?_, ?_, ?_, ?_⟩
            · intro x i a h1 h2 h3
              obtain ⟨v, m1, m2⟩ := args_at k6 hlen r h1 h2
              exact ⟨v, bindL_get h3 _ _ (by rw [hzf]; exact k5) m1, m2.mono e1⟩
            · intro x i a h1 h2 h3
              obtain ⟨v, m1, m2⟩ := args_at k6 hlen r h1 h2
              have hnl : ¬ env.kindOf x = some .local := fun q => by rcases h3 with h3 | h3 <;> rw [q] at h3 <;> cases h3
              have hc : env.kindOf x = some .cell := by
                rcases h3 with h3 | h3
                · exact h3
                · rw [hkd] at h3
                  have := k4 _ (lookup_mem h3)
                  simp at this
              rw [hkd] at hc
              obtain ⟨c, hc'⟩ := Option.isSome_iff_exists.mp (cellsFrom_has fn.scope.names (s.heap.objs.size + 1) [] hc)
              have hcell := Cl.cell x c hc'
              rw [bindC_get hnl _ _ (by rw [hzf]; exact k5) m1] at hcell
              exact ⟨c, v, by rw [hcs]; exact hc', hcell, S.notin (hcN x c (by rw [hcs]; exact hc')), m2.mono e1⟩
            · intro x h1 h2
              obtain ⟨c, hc'⟩ := Option.isSome_iff_exists.mp (cellsFrom_has fn.scope.names (s.heap.objs.size + 1) [] h2)
              exact ⟨c, _, by rw [hcs]; exact hc', Cl.cell x c hc', S.notin (hcN x c (by rw [hcs]; exact hc'))⟩
            · intro x hx
              rcases F.nofree x hx with q | q
              · exact .inl ((hkd x).trans q)
              · exact .inr (.inl ((hkd x).trans q))
            · intro x hx; exact (hkd x).trans hx
            · intro x hx
              rw [hkd]
              unfold isGlob at hx
              split at hx
              · assumption
              · cases hx
          have f1 : FS { cx with hid := hid } env fn.scope fn.names (as.map some ++ List.replicate (fn.names.length - as.length) none) ι H { s with heap := h₁, toks := tk } :=
            ⟨S1, E1, fun nn c hc => ⟨S.notin (hcN nn c hc), _, Cl.cell nn c (by rw [← hcs]; exact hc)⟩⟩
          have C' : CallOK { cx with hid := hid } (A.deeper env) (callP P n) := callP_sound hP G n (A.deeper env) hh (by show A.units + 3 + 3 * n + 100 < cLine; omega) (by show A.depth + 1 + n < recursionLimit; omega)
          have R' : Room (A.deeper env) := by unfold Room; show A.units + 3 + 100 < cLine; omega
          refine wpAny_mono (denB_sound (A := A.deeper env) hh R' G' C' F EFUEL fn.body _ ι H _ res H1 f1 h1) (fun fl s' q => ?_) fun _ _ x => x
          obtain ⟨ι', eo, q⟩ := q
          have hnow : ∀ b o, s.heap.get? b = some o → ¬ Own env b := fun b o hb q => by
            rcases q with q | ⟨nn, q⟩
            · rw [q, hlN] at hb; cases hb
            · rw [hcN nn b q] at hb; cases hb
          have e2 : Ext ι ι' s.heap s'.heap := ⟨eo.pre, (fun b hb hn => by
              have := eo.news b hb hn
              cases hg : s.heap.get? b with
              | none => rfl
              | some o => rw [hkeep b o hg] at this; cases this), fun b o hb hn => eo.keep b o (hkeep b o hb) hn (hnow b o hb)⟩
          cases res with
          | next σ' =>
            obtain ⟨rfl, f2⟩ := q
            obtain ⟨rfl, rfl⟩ := pure_some h2
            exact ⟨ι', e2, f2.S, .none⟩
          | ret w =>
            obtain ⟨v, rfl, S2, _, rv⟩ := q
            obtain ⟨rfl, rfl⟩ := pure_some h2
            exact ⟨ι', e2, S2, rv⟩
      · cases h
end
end Mine


set_option autoImplicit false
set_option linter.unusedVariables false
namespace Mine
open PySem PyProof.Rows PySem.SeqAt

theorem lookup_zip {ps : List Str} {vs : List Value} {x : Str} (hl : ps.length ≤ vs.length) (hx : x ∈ ps) : ((ps.zip vs).lookup x).isSome = true := by
  induction ps generalizing vs with
  | nil => cases hx
  | cons p ps ih =>
    cases vs with
    | nil => simp at hl
    | cons v vs =>
      rw [List.zip_cons_cons, List.lookup_cons]
      cases hb : x == p with
      | true => rfl
      | false =>
        rcases List.mem_cons.mp hx with q | q
        · rw [q] at hb; simp at hb
        · exact ih (by simpa using hl) q
theorem fm_congr {α β : Type} {f g : α → Option β} : ∀ {l : List α}, (∀ x ∈ l, f x = g x) → l.filterMap f = l.filterMap g
  | [], _ => rfl
  | x :: r, h => by rw [List.filterMap_cons, List.filterMap_cons, h x List.mem_cons_self, fm_congr fun y hy => h y (List.mem_cons_of_mem _ hy)]
theorem binds_zip {ps : List Str} {vs : List Value} (hl : ps.length = vs.length) (hn : ps.Nodup) : (ps.filterMap fun n => ((ps.zip vs).lookup n).map (n, ·)) = ps.zip vs := by
  induction ps generalizing vs with
  | nil => rfl
  | cons p ps ih =>
    cases vs with
    | nil => simp at hl
    | cons v vs =>
      rw [List.nodup_cons] at hn
      rw [List.zip_cons_cons, List.filterMap_cons]
      simp only [List.lookup_cons, beq_self_eq_true, Option.map_some]
      congr 1
      refine (fm_congr fun n hm => ?_).trans (ih (by simpa using hl) hn.2)
      have hne : (n == p) = false := by
        cases hb : n == p with
        | false => rfl
        | true => exact absurd (beq_iff_eq.mp hb ▸ hm) hn.1
      rw [hne]

theorem bindArgs_plain {name : Str} {params : Arguments} {body : List Stmt} {scope : Scope} {pm cd doc : Value} {ps : List Str} {vs : List Value} (h1 : params.posonlyargs = []) (h2 : params.args.map (·.arg) = ps) (h3 : params.vararg = none) (h4 : params.kwonlyargs = []) (h5 : params.kwarg = none)
    (hn : ps.Nodup) (hl : vs.length = ps.length) : bindArgs (Calls.docDef name params body scope pm cd doc) ⟨vs, []⟩ = pure (ps.zip vs) := by
  unfold bindArgs
  have hm : (List.filter (fun n => ((ps.zip vs).lookup n).isNone) ps).isEmpty = true := by
    rw [List.isEmpty_iff, List.filter_eq_nil_iff]
    intro x hx q
    have := lookup_zip (vs := vs) (by omega) hx
    cases hz : (ps.zip vs).lookup x with
    | none => rw [hz] at this; cases this
    | some v => rw [hz] at q; cases q
  have hs : seqItems? Value.none = pure none := rfl
  simp only [Calls.docDef, h1, h2, h3, h4, h5, List.map_nil, List.nil_append, List.forIn_nil, pure_bind, hs, Option.getD_none, Array.toList_empty, List.length_nil, Nat.zero_sub, List.drop_nil, Nat.sub_zero, List.take_length, List.drop_length, List.zip_nil_left, hl, Nat.lt_irrefl, gt_iff_lt, decide_false, Bool.false_and, Bool.false_eq_true, if_false, hm, Bool.not_true, List.isEmpty_nil, List.append_nil]
  rw [binds_zip (by omega) hn]
end Mine


set_option autoImplicit false
set_option linter.unusedVariables false
namespace Mine
open PySem PyProof.Rows PySem.SeqAt PySem.W


theorem items_ints : ∀ {xs : List WData} {R : WRecords}, WShape.hasItems R xs .int = true → ∃ ns : List Int, xs = ns.map .int
  | [], _, _ => ⟨[], rfl⟩
  | d :: r, R, h => by
    have h' : WShape.has R d .int = true ∧ WShape.hasItems R r .int = true := by simpa [WShape.hasItems] using h
    obtain ⟨i, rfl⟩ := hasW_int h'.1
    obtain ⟨ns, rfl⟩ := items_ints h'.2
    exact ⟨i :: ns, rfl⟩

theorem law_args {l : OpenLaw} {args : List WData} (hm : l.most = some 63) (hb : l.bound = none) (hpre : l.row.toRowW.claim.pre args = true) : ∃ ns : List Int, ns.length ≤ 63 ∧ args = [.list (ns.map .int)] := by
  obtain ⟨h1, h2⟩ := pre_splitW hpre
  have h1' : WShape.hasAll [] args [.list .int] = true := h1
  obtain ⟨d, r, rfl, hd, hr⟩ := hasAllW_cons h1'
  have := hasAllW_nil hr
  subst this
  obtain ⟨xs, rfl, hx⟩ := hasW_list hd
  obtain ⟨ns, rfl⟩ := items_ints hx
  refine ⟨ns, ?_, rfl⟩
  have h3 : l.pre.holds [] { args := [.list (ns.map .int)] } = true := h2
  unfold OpenLaw.pre at h3
  rw [hm, hb] at h3
  have h4 := (holds_andW h3).1
  simp [WTm.holds, WTm.value] at h4
  have h5 : less? (WData.int 63) (WData.int ns.length) = some (decide ((63 : Int) < ns.length)) := by simp [less?, Num.less?]
  rw [h5] at h4
  by_cases hc : (63 : Int) < ns.length
  · rw [decide_eq_true hc] at h4; cases h4
  · omega

theorem ints_read {R : WRecords} {cl : Str → Option Addr} {h : Heap} {cx : Cx} {ι : List Addr} : ∀ {ns : List Int} {vs : List Value} {as : List Addr}, ReadsAllW R cl h vs (ns.map .int) as → VRs cx ι h (ns.map .int) vs
  | [], vs, as, r => by cases r; exact .nil
  | n :: ns, vs, as, r => by
    cases r with
    | cons r1 r2 => cases r1; exact .cons (.int _ _) (ints_read r2)

/-- the built-in names that are used -/
noncomputable def usedNames : List Str := ["len", "list", "tuple", "dict", "int", "range", "min", "max", "any", "sorted", "isinstance", "bool", "str", "zip", "enumerate"]
noncomputable def freeOk (q : Program) (loose : List Str) : Bool := usedNames.all fun x => !startupNames.contains x && !(looseW q loose).contains x && !((recsOf q).map (·.name)).contains x && !((litsOf q).map (·.1)).contains x && !((clssOf q (looseW q loose)).map (·.name)).contains x

theorem free_of {q : Program} {loose : List Str} {mean : ExcName → Option Value} {mg mb : Str → Option Value} {h : Heap} (T : Top q (looseW q loose) mean mg mb h) (hf : freeOk q loose = true) {x : Str} (hx : x ∈ usedNames) : mg x = none := by
  have := List.all_eq_true.mp hf x hx
  simp only [Bool.and_eq_true, Bool.not_eq_true', List.contains_eq_mem, decide_eq_false_iff_not] at this
  obtain ⟨⟨⟨⟨a1, a2⟩, a3⟩, a4⟩, a5⟩ := this
  exact T.free x a1 a2 a3 a4 a5

theorem boot_bi : ∀ x b, biOf x = some b → x ∈ usedNames ∧ bootBuiltins x = some (biV b) ∧ x ≠ "__name__" := by
  intro x b h
  unfold biOf at h
  repeat' (split at h)
  all_goals first | (cases h; done) | skip
  all_goals (cases h; subst_vars; exact ⟨by decide, by decide +kernel, by decide⟩)
theorem boot_ty : ∀ x t, tyOf x = some t → x ∈ usedNames ∧ bootBuiltins x = some (.type (tyStr t)) ∧ x ≠ "__name__" := by
  intro x b h
  unfold tyOf at h
  repeat' (split at h)
  all_goals first | (cases h; done) | skip
  all_goals (cases h; subst_vars; exact ⟨by decide, by decide +kernel, by decide⟩)

structure DefIs (q : Program) (f : Str) (fn : Fn) : Prop where
  chk : fnChk fn = true
  nd : (f == ("__debug__" : Str)) = false
  dfn : ∃ d ∈ recsOf q, d.name = f ∧ d.body = fn.body ∧ d.scope = fn.scope ∧ d.params.posonlyargs = [] ∧ d.params.args.map (·.arg) = fn.params ∧ d.params.vararg = none ∧ d.params.kwonlyargs = [] ∧ d.params.kwarg = none

theorem walk_law {l : OpenLaw} {q : Program} {loose : List Str} {XP : (Str → Option Value) → Heap → Prop} {YP : World → Heap → Prop} {d : DefRec} {kwd : List (Str × Expr)} {P : Pg} {N : Nat}
    (hm : l.most = some 63) (hbd : l.bound = none) (hfree : freeOk q loose = true) (hfn : ∀ f fn, P.fn f = some fn → DefIs q f fn) (hdn : d.name = ("law" : Str)) (hN : N ≤ 200)
    (hgl : ∀ (w : World) (mean : ExcName → Option Value) (mg mb : Str → Option Value) (h : Heap) (os : OsState), XP mg h → YP w h → Top q (looseW q loose) mean mg mb h → ∀ x a, P.glob x = some a → ∃ v, mg x = some v ∧ VR ⟨l.prog, w, h, os, mg, mb, []⟩ [] h a v)
    (hrun : ∀ ns : List Int, ns.length ≤ 63 → ∃ H', callP P N ("law" : Str) [.lst (ns.map .int)] [] = some (.bool true, H')) :
    WalkO q loose XP YP l.row.toRowW d kwd fun f vs => PySem.call f vs := by
  intro w s₀ s₁ mg mb G Y fa o pm cd doc dV kV ho hod hcd hD hmg hgens args vals as hpre hlay hrd hwl hlo
  obtain ⟨ns, hlen, rfl⟩ := law_args hm hbd hpre
  have T := G.T
  let cx : Cx := ⟨l.prog, w, s₁.heap, s₁.os, mg, mb, []⟩
  have hG : Good cx P := by
    refine ⟨T.g, T.b, T.nolimit, fun x a hx => hgl w _ mg mb s₁.heap s₁.os G.X Y T x a hx, ?_, ?_, ?_, ?_, ?_⟩
    · intro x b hx
      obtain ⟨h1, h2, h3⟩ := boot_bi x b hx
      exact ⟨free_of T hfree h1, (T.builtins x h3).trans h2⟩
    · exact ⟨free_of T hfree (by decide), (T.builtins _ (by decide)).trans (by decide +kernel)⟩
    · intro x t hx
      obtain ⟨h1, h2, h3⟩ := boot_ty x t hx
      exact ⟨free_of T hfree h1, (T.builtins x h3).trans h2⟩
    · exact ⟨free_of T hfree (by decide), (T.builtins _ (by decide)).trans (by decide +kernel)⟩
    · exact ⟨free_of T hfree (by decide), (T.builtins _ (by decide)).trans (by decide +kernel)⟩
  have hF : ∀ f fn, P.fn f = some fn → FnOK cx f fn := fun f fn hf => by
    obtain ⟨c1, c2, d', hd', rfl, e1, e2, e3, e4, e5, e6, e7⟩ := hfn f fn hf
    obtain ⟨a', o', pm', cd', doc', g1, g2, g3, g4⟩ := T.fn d' hd'
    refine ⟨c2, c1, a', o', pm', cd', doc', d'.params, g1, g2, by rw [← e1, ← e2]; exact g3, g4, fun vs hvs => ?_⟩
    have hnd : fn.params.Nodup := by
      unfold fnChk at c1
      simp only [Bool.and_eq_true, decide_eq_true_eq] at c1
      exact c1.1.1.2
    exact bindArgs_plain e3 e4 e5 e6 e7 hnd hvs
  have hS : St cx [] [] s₁ := ⟨fun _ _ e => e, rfl, List.nodup_nil, fun _ h => (nomatch h), fun l a o h _ => by simp at h, hgens, rfl, by
      obtain ⟨_, ⟨o, _, _, ho, _⟩, _⟩ := T.nodigits
      exact ⟨o, ho⟩, fun _ h => (nomatch h)⟩
  have hC : CallOK cx callerA (callP P N) := callP_sound hF hG N callerA rfl (by show 4 + 3 * N + 100 < cLine; have : cLine = 9900 := rfl; omega) (by show 1 + claimMargin + N < recursionLimit; have : claimMargin = 300 := rfl; have : recursionLimit = 1000 := rfl; omega)
  obtain ⟨H', hr⟩ := hrun ns hlen
  obtain ⟨_, fa', o', fd', r1, r2, r3, r4⟩ := hC [] _ _ _ _ _ hr
  rw [hdn] at hmg
  have hfa : fa' = fa := by
    have : some (Value.ref fa') = some (.ref fa) := r1.symm.trans hmg
    injection this with this
    injection this
  subst hfa
  cases hrd with
  | cons rd1 rd2 =>
    cases rd2
    cases hwl with
    | cons w1 w2 =>
      cases w1 with
      | @list a vs xs hga hwa =>
        have hv : VRs cx [] s₁.heap [.lst (ns.map .int)] [.ref a] := by
          refine .cons (.lst (n := 0) hga ⟨by simp, by simp [cx]⟩ (by rw [List.length_map]; have := LIM_is; omega) ?_) .nil
          cases rd1 with
          | list q1 q2 q3 q4 =>
            rw [hga] at q1
            cases q1
            cases q3
            exact ints_read q4
        refine wpAny_mono (r4 [] s₁ [.ref a] hS hv) (fun v s' q => ?_) fun _ _ x => x.elim
        obtain ⟨ι', e, S', rv⟩ := q
        cases rv
        refine GoodW.toG ⟨.inl ⟨_, .bool true, [], rfl, fun _ => rfl, .bool true, ?_, fun _ => ⟨List.nodup_nil, fun _ h => (nomatch h)⟩⟩, S'.base, S'.os, S'.gens⟩
        exact postW_of (X := true) rfl (by show WTm.value [] (.eq .res (.lit (.bool true))) _ = _; simp [WTm.value, same_self]) rfl
end Mine


set_option autoImplicit false
set_option linter.unusedVariables false
namespace Mine
open PySem PyProof.Rows PySem.W

theorem defs_ok {p q : Program} (hr : recsOf q = recs p) (hc : (recs p).all defChk = true) : ∀ f fn, fnOf p f = some fn → DefIs q f fn := by
  intro f fn h
  unfold fnOf at h
  obtain ⟨st, hst, h1⟩ := List.exists_of_findSome?_eq_some h
  unfold fnSt at h1
  split at h1
  · rename_i n a b x1 x2 sc x3 x4 pos
    split at h1
    · rename_i hn
      subst hn
      cases h1
      have hd : (⟨n, a, b, sc, pos⟩ : DefRec) ∈ recs p := List.mem_filterMap.mpr ⟨_, hst, rfl⟩
      have hk := List.all_eq_true.mp hc _ hd
      unfold defChk at hk
      simp only [Bool.and_eq_true, bne_iff_ne, ne_eq, List.isEmpty_iff, Option.isNone_iff_eq_none] at hk
      obtain ⟨⟨⟨⟨⟨k1, k2⟩, k3⟩, k4⟩, k5⟩, k6⟩ := hk
      exact ⟨k1, beq_eq_false_iff_ne.mpr k2, _, hr ▸ hd, rfl, rfl, rfl, k3, rfl, k4, k5, k6⟩
    · cases h1
  · cases h1

end Mine


set_option autoImplicit false
set_option linter.unusedVariables false
namespace Mine
open PySem PyProof.Rows PySem.W

noncomputable def keepSt : Stmt → Bool
  | .Assign [.Name x _] _ _ => !(x == ("__name__" : Str))
  | _ => true
/-- the text but for the settings of __name__ -/
noncomputable def viewOf (p : Program) : Program := { p with main := { p.main with body := p.main.body.filter keepSt } }
noncomputable def noDef : DefRec × List (Str × Expr) := (⟨"", ⟨[], [], none, [], [], none, []⟩, [], default, default⟩, [])
noncomputable def lawDef (q : Program) : DefRec × List (Str × Expr) := (defOf q "law").getD noDef

/-- the text's own tables: a name, where it stands, and what stands there -/
abbrev Tbl := List (Str × Addr × (Params → Obj))
noncomputable def tblF (D : Tbl) (s : Shared) : List (Option Obj) := D.map fun d => s.heap.get? d.2.1
noncomputable def tblA (D : Tbl) (w : World) : List (Option Obj) := D.map fun d => some (d.2.2 w.params)
noncomputable def tblP (D : Tbl) (w : World) (h : Heap) : Prop := ∀ d ∈ D, h.get? d.2.1 = some (d.2.2 w.params)
noncomputable def isAt (a : Addr) : Option Value → Bool
  | some (.ref b) => Nat.beq b a
  | _ => false
noncomputable def tblX (D : Tbl) (s : Shared) : Bool := D.all fun d => isAt d.2.1 (s.heap.nsMap mainGlobals d.1)
noncomputable def tblXP (D : Tbl) (mg : Str → Option Value) : Prop := ∀ d ∈ D, mg d.1 = some (.ref d.2.1)
theorem isAt_of {a : Addr} {v : Option Value} (h : isAt a v = true) : v = some (.ref a) := by
  unfold isAt at h
  split at h
  · rw [Nat.eq_of_beq_eq_true h]
  · cases h

/-- a law holds: its top ends well, its text is well said, and its calls answer true -/
theorem head_law {l : OpenLaw} {q : Program} {loose : List Str} {D : Tbl} {N n : Nat} {P : Pg} (k : l.wellSaid = true)
    (hl : LeftO l.row.prog q loose (fun s => xlAt q [] s && recOk (RowW.records l.row.toRowW) s && tblX D s) (tblF D) (tblA D) N)
    (hdef : defOf q l.row.name = some (lawDef q)) (hp : l.row.prog.theDef l.row.name = some ((lawDef q).1.params, (lawDef q).1.body, (lawDef q).1.scope)) (hk : kwWritten? (lawDef q).1.params.kwonlyargs (lawDef q).1.params.kw_defaults = some (lawDef q).2)
    (hwr : (!l.row.writes || l.row.records.isEmpty) = true) (ok : (chainsOk q && opensWell l.row.prog && (frees l.row.toRowW && l.row.within.isEmpty)) = true) (hb : l.row.prog.bare) (hw : l.row.toRowW.promised)
    (hm : l.most = some 63) (hbd : l.bound = none) (hfree : freeOk q loose = true) (hfn : ∀ f fn, P.fn f = some fn → DefIs q f fn) (hdn : (lawDef q).1.name = ("law" : Str)) (hN : n ≤ 200)
    (hgl : ∀ (w : World) (mean : ExcName → Option Value) (mg mb : Str → Option Value) (h : Heap) (os : OsState), tblXP D mg → tblP D w h → Top q (looseW q loose) mean mg mb h → ∀ x a, P.glob x = some a → ∃ v, mg x = some v ∧ VR ⟨l.prog, w, h, os, mg, mb, []⟩ [] h a v)
    (hrun : ∀ ns : List Int, ns.length ≤ 63 → ∃ H', callP P n ("law" : Str) [.lst (ns.map .int)] [] = some (.bool true, H')) : l.Holds :=
  holds_law k fun said => holds_open (q := q) (loose := loose) (XP := fun mg h => XL q [] mg h ∧ tblXP D mg) (YP := tblP D) (N := N) hl (fun w s e d hd => (List.map_inj_left.mp e) d hd) (fun w h h' y hk d hd => hk _ _ (y d hd))
    (fun s e => ⟨xl_of s (Bool.and_eq_true_iff.mp (Bool.and_eq_true_iff.mp e).1).1, fun d hd => isAt_of (List.all_eq_true.mp (Bool.and_eq_true_iff.mp e).2 d hd)⟩) (fun mg h h' x hk => ⟨XL.keeps mg h h' x.1 hk, x.2⟩) hdef hp hk
    (fun s e => recFacts_of (Bool.and_eq_true_iff.mp (Bool.and_eq_true_iff.mp e).1).2) hwr said ok hb hw (walk_law hm hbd hfree hfn hdn hN (fun w mean mg mb h os x y T => hgl w mean mg mb h os x.2 y T) hrun)

/-- a table of texts by texts -/
noncomputable def dObj (es : List (Str × Tok × Str × Tok)) (n : Nat) (P : Params) : Obj := { cls := .type "dict", data := .dict (es.map fun e => (⟨PyData.keyHash P e.1, .str e.1 e.2.1, .str e.2.2.1 e.2.2.2⟩ : DictEntry)).toArray n }
noncomputable def tObj (es : List (Str × Tok)) (P : Params) : Obj := { cls := .type "tuple", data := .seq (es.map fun e => Value.str e.1 e.2).toArray }
theorem strs_vrs {cx : Cx} {ι : List Addr} {h : Heap} : ∀ es : List (Str × Tok), VRs cx ι h (es.map fun e => .str e.1) (es.map fun e => Value.str e.1 e.2)
  | [] => .nil
  | e :: r => .cons (.str _ _) (strs_vrs r)
theorem gl_tup {cx : Cx} {h : Heap} {w : World} {D : Tbl} {x : Str} {a : Addr} {es : List (Str × Tok)} (X : tblXP D cx.mg) (Y : tblP D w h) (hd : (x, a, tObj es) ∈ D) (hh : cx.hid = []) (hl : decide (es.length < 100) = true) : ∃ v, cx.mg x = some v ∧ VR cx [] h (.tup (es.map fun e => .str e.1)) v := by
  have hY : IsT h a (es.map fun e : Str × Tok => Value.str e.1 e.2).toArray 0 := Y _ hd
  refine ⟨.ref a, X _ hd, .tup hY (by simp) ?_ ?_⟩
  · have := of_decide_eq_true hl
    rw [List.length_map]; have := LIM_is; omega
  · rw [List.toList_toArray]; exact strs_vrs es
theorem gl_int {cx : Cx} {h : Heap} {q : Program} {loose : List Str} {mean : ExcName → Option Value} {x : Str} {i : Int} (T : Top q loose mean cx.mg cx.mb h) (hv : valOf q x = some (.int i)) : ∃ v, cx.mg x = some v ∧ VR cx [] h (.int i) v := by
  obtain ⟨v, h1, h2⟩ := T.const x _ hv
  have h3 := h2 h
  cases h3
  exact ⟨_, h1, .int _ _⟩
theorem pairs_str {prog : Program} {w : World} : ∀ es : List (Str × Tok × Str × Tok), Pairs (strKind prog w) (es.map fun e => (⟨PyData.keyHash w.params e.1, .str e.1 e.2.1, .str e.2.2.1 e.2.2.2⟩ : DictEntry)) (es.map fun e => (e.1, Value.str e.2.2.1 e.2.2.2))
  | [] => .nil
  | e :: r => .cons (strKind_is prog w e.1 e.2.1) rfl (pairs_str r)
theorem gl_dict {cx : Cx} {h : Heap} {D : Tbl} {x : Str} {a : Addr} {es : List (Str × Tok × Str × Tok)} {n : Nat} (X : tblXP D cx.mg) (Y : tblP D cx.w h) (hd : (x, a, dObj es n) ∈ D) (h₀ : cx.h₀ = h) (hs : (a == sysModules) = false) (hn : (es.map (·.1)).Nodup) :
    ∃ v, cx.mg x = some v ∧ VR cx [] h (.cdict (es.map fun e => (e.1, .str e.2.2.1))) v := by
  have hY := Y _ hd
  refine ⟨_, X _ hd, .cdict (kvs := es.map fun e => (e.1, Value.str e.2.2.1 e.2.2.2)) ⟨_, _, _, hY, ⟨rfl, rfl, rfl⟩, rfl, ?_, ?_, ?_⟩ (by simp) (by simp) ⟨hs, _, by rw [h₀]; exact hY⟩ ?_⟩
  · intro e he
    rw [List.mem_toArray, List.mem_map] at he
    obtain ⟨e', _, rfl⟩ := he
    exact ⟨e'.1, strKind_is _ _ _ _, rfl⟩
  · rw [List.toList_toArray]; exact pairs_str es
  · simpa [List.map_map, Function.comp_def] using hn
  · rw [List.map_map, List.map_map]
    clear hY hd hn
    induction es with
    | nil => exact .nil
    | cons e r ih => exact .cons (.str _ _) ih
end Mine


set_option autoImplicit false
set_option linter.unusedVariables false
namespace Mine
open PySem PyProof.Rows

/-- m runs from H and leaves what Q says -/
noncomputable def Rn {α : Type} (m : M α) (H : AHeap) (Q : α → AHeap → Prop) : Prop := ∃ a H', m H = some (a, H') ∧ Q a H'
noncomputable def Fl (I : Loc → AHeap → Prop) (Q : AV → AHeap → Prop) : Res → AHeap → Prop
  | .next σ, H => I σ H
  | .ret v, H => Q v H

section
variable {α β : Type} {m : M α} {f : α → M β} {H H1 : AHeap} {a : α} {Q : β → AHeap → Prop} {R R' : α → AHeap → Prop}
theorem Rn.bind (h : Rn m H fun a H1 => Rn (f a) H1 Q) : Rn (m >>= f) H Q := by
  obtain ⟨a, H1, h1, b, H2, h2, q⟩ := h
  exact ⟨b, H2, bind_of h1 h2, q⟩
theorem Rn.pure (h : R a H) : Rn (Pure.pure a : M α) H R := ⟨a, H, rfl, h⟩
theorem Rn.mono (h : Rn m H R) (k : ∀ a H', R a H' → R' a H') : Rn m H R' := let ⟨a, H', e, q⟩ := h; ⟨a, H', e, k _ _ q⟩
theorem Rn.eq (e : m = Pure.pure a) (h : R a H) : Rn m H R := by rw [e]; exact .pure h
theorem Rn.of (e : m H = some (a, H1)) (h : R a H1) : Rn m H R := ⟨a, H1, e, h⟩
theorem Rn.beq (e : m = Pure.pure a) (h : Rn (f a) H Q) : Rn (m >>= f) H Q := by rw [e]; exact h
theorem Rn.bof (e : m H = some (a, H1)) (h : Rn (f a) H1 Q) : Rn (m >>= f) H Q := .bind (.of e h)
theorem Rn.then (h : Rn m H R) (k : ∀ a H1, R a H1 → Rn (f a) H1 Q) : Rn (m >>= f) H Q := .bind (h.mono k)
end

theorem FUEL_is : FUEL = 100000 := rfl

theorem forR_go {src : Src} {body : AV → Loc → M Res} (g : Nat → Option AV) (N : Nat) (I : Nat → Loc → AHeap → Prop) {Q : Res → AHeap → Prop}
    (hN : g N = none) (hg : ∀ i σ H, i ≤ N → I i σ H → src.get i H = some (g i, H))
    (hs : ∀ i σ H, i < N → I i σ H → ∃ a, g i = some a ∧ Rn (body a σ) H (Fl (I (i + 1)) fun v H' => Q (.ret v) H')) (he : ∀ σ H, I N σ H → Q (.next σ) H) :
    ∀ (k fuel i : Nat) (σ : Loc) (H : AHeap), i + k = N → k < fuel → I i σ H → Rn (forLoop src body fuel i σ) H Q
  | 0, 0, i, σ, H, _, hf, _ => absurd hf (Nat.lt_irrefl _)
  | 0, f + 1, i, σ, H, hk, hf, h => by
    have : i = N := hk
    subst this
    unfold forLoop
    refine .bof (hg i σ H (Nat.le_refl _) h) ?_
    rw [hN]
    exact .pure (he _ _ h)
  | k + 1, 0, i, σ, H, _, hf, _ => absurd hf (Nat.not_lt_zero _)
  | k + 1, f + 1, i, σ, H, hk, hf, h => by
    unfold forLoop
    have hi : i < N := by omega
    refine .bof (hg i σ H (Nat.le_of_lt hi) h) ?_
    obtain ⟨a, ha, hr⟩ := hs i σ H hi h
    rw [ha]
    refine .then hr fun r H1 q => ?_
    cases r with
    | next σ' => exact forR_go g N I hN hg hs he k f (i + 1) σ' H1 (by omega) (by omega) q
    | ret v => exact .pure q

/-- a for over what g hands out, N turns -/
theorem forR {src : Src} {body : AV → Loc → M Res} {σ : Loc} {H : AHeap} (g : Nat → Option AV) (N : Nat) (I : Nat → Loc → AHeap → Prop) {Q : Res → AHeap → Prop} (hF : N < 100000)
    (hN : g N = none) (hg : ∀ i σ H, i ≤ N → I i σ H → src.get i H = some (g i, H)) (h0 : I 0 σ H)
    (hs : ∀ i σ H, i < N → I i σ H → ∃ a, g i = some a ∧ Rn (body a σ) H (Fl (I (i + 1)) fun v H' => Q (.ret v) H')) (he : ∀ σ H, I N σ H → Q (.next σ) H) :
    Rn (forLoop src body FUEL 0 σ) H Q := forR_go g N I hN hg hs he N FUEL 0 σ H (Nat.zero_add _) (by rw [FUEL_is]; exact hF) h0

/-- a for over a frozen list -/
theorem forI {xs : List AV} {body : AV → Loc → M Res} {σ : Loc} {H : AHeap} (I : Nat → Loc → AHeap → Prop) {Q : Res → AHeap → Prop} (hF : xs.length < 100000) (h0 : I 0 σ H)
    (hs : ∀ i a σ H, xs[i]? = some a → I i σ H → Rn (body a σ) H (Fl (I (i + 1)) fun v H' => Q (.ret v) H')) (he : ∀ σ H, I xs.length σ H → Q (.next σ) H) :
    Rn (forLoop (.items xs) body FUEL 0 σ) H Q :=
  forR (fun i => xs[i]?) xs.length I hF (List.getElem?_eq_none (Nat.le_refl _)) (fun _ _ _ _ _ => rfl) h0 (fun i σ H hi h => ⟨xs[i], List.getElem?_eq_getElem hi, hs i _ σ H (List.getElem?_eq_getElem hi) h⟩) he
/-- a for over a list of the heap, which no turn touches -/
theorem forA {l : Nat} {xs : List AV} {body : AV → Loc → M Res} {σ : Loc} {H : AHeap} (I : Nat → Loc → AHeap → Prop) {Q : Res → AHeap → Prop} (hF : xs.length < 100000) (h0 : I 0 σ H)
    (hl : ∀ i σ H, I i σ H → H[l]? = some (.list xs))
    (hs : ∀ i a σ H, xs[i]? = some a → I i σ H → Rn (body a σ) H (Fl (I (i + 1)) fun v H' => Q (.ret v) H')) (he : ∀ σ H, I xs.length σ H → Q (.next σ) H) :
    Rn (forLoop (.at l) body FUEL 0 σ) H Q :=
  forR (fun i => xs[i]?) xs.length I hF (List.getElem?_eq_none (Nat.le_refl _)) (fun i σ H _ h => by show (match H[l]? with | some (.list xs) => some (xs[i]?, H) | _ => none) = _; rw [hl i σ H h]) h0
    (fun i σ H hi h => ⟨xs[i], List.getElem?_eq_getElem hi, hs i _ σ H (List.getElem?_eq_getElem hi) h⟩) he
/-- for i, x in enumerate(a frozen list) -/
theorem forE {xs : List AV} {body : AV → Loc → M Res} {σ : Loc} {H : AHeap} (I : Nat → Loc → AHeap → Prop) {Q : Res → AHeap → Prop} (hF : xs.length < 100000) (h0 : I 0 σ H)
    (hs : ∀ i a σ H, xs[i]? = some a → I i σ H → Rn (body (.tup [.int i, a]) σ) H (Fl (I (i + 1)) fun v H' => Q (.ret v) H')) (he : ∀ σ H, I xs.length σ H → Q (.next σ) H) :
    Rn (forLoop (.enum (.items xs)) body FUEL 0 σ) H Q :=
  forR (fun i => (xs[i]?).map fun v => .tup [.int i, v]) xs.length I hF (by simp) (fun _ _ _ _ _ => rfl) h0
    (fun i σ H hi h => ⟨_, by rw [List.getElem?_eq_getElem hi]; rfl, hs i _ σ H (List.getElem?_eq_getElem hi) h⟩) he

theorem LIMis : LIM = 1048576 := by decide
/-- a comprehension over a frozen list whose body is pure -/
theorem compM_go {xs : List AV} {body : AV → M (Option AV)} {g : AV → AV} (h : ∀ a ∈ xs, body a = pure (some (g a))) :
    ∀ (k fuel i : Nat) (acc : List AV), i + k = xs.length → k < fuel → acc.length + k < LIM → compLoop (.items xs) body fuel i acc = pure (acc ++ (xs.drop i).map g)
  | 0, 0, i, acc, _, hf, _ => absurd hf (Nat.lt_irrefl _)
  | 0, f + 1, i, acc, hk, hf, _ => by
    unfold compLoop
    show (do let r ← (pure xs[i]? : M _); _) = _
    rw [List.getElem?_eq_none (by omega), pure_bind, List.drop_of_length_le (by omega)]
    simp
  | k + 1, 0, i, acc, _, hf, _ => absurd hf (Nat.not_lt_zero _)
  | k + 1, f + 1, i, acc, hk, hf, hL => by
    unfold compLoop
    have hi : i < xs.length := by omega
    show (do let r ← (pure xs[i]? : M _); _) = _
    rw [List.getElem?_eq_getElem hi, pure_bind]
    simp only [h _ (List.getElem_mem hi), pure_bind]
    rw [if_pos (by omega), compM_go h k f (i + 1) _ (by omega) (by omega) (by rw [List.length_append]; simp; omega), List.drop_eq_getElem_cons hi, List.map_cons, List.append_assoc]
    rfl
theorem compM {xs : List AV} {body : AV → M (Option AV)} (g : AV → AV) (hl : xs.length < 100000) (h : ∀ a ∈ xs, body a = pure (some (g a))) : compLoop (.items xs) body FUEL 0 [] = pure (xs.map g) := by
  have := compM_go h xs.length FUEL 0 [] (Nat.zero_add _) (by rw [FUEL_is]; exact hl) (by rw [LIMis]; simp; omega)
  simpa using this

theorem callRn {P : Pg} {n : Nat} {f : Str} {as : List AV} {σ : Loc} {H : AHeap} {Q : AV → AHeap → Prop} (hf : P.fn f = some (fnD P f)) (hl : as.length = (fnD P f).params.length) (hσ : as.map some ++ List.replicate ((fnD P f).names.length - as.length) none = σ)
    (h : Rn (tl P (callP P n) f [] 0 40 σ) H (Fl (fun _ H' => Q .none H') Q)) : Rn (callP P (n + 1) f as) H Q := by
  obtain ⟨r, H', h1, q⟩ := h
  cases r with
  | next σ' => exact ⟨_, _, callN hf hl hσ h1, q⟩
  | ret a => exact ⟨_, _, callR hf hl hσ h1, q⟩
/-- pure facts of the primitives -/
theorem srcOf_lst {xs : List AV} : srcOf (.lst xs) = pure (.items xs) := rfl
theorem listOf_lst {xs : List AV} : listOf (.lst xs) = pure xs := rfl
theorem small62_of {i : Int} (h : -1000000 ≤ i ∧ i ≤ 1000000) : small62 i = true := by unfold small62; simp; omega
theorem srcOf_range {a b : Int} (ha : -1000000 ≤ a ∧ a ≤ 1000000) (hb : -1000000 ≤ b ∧ b ≤ 1000000) : srcOf (.range a b) = pure (.items (rangeL a b)) := by
  funext H; show (if small62 a && small62 b then some (Src.items (rangeL a b), H) else none) = _
  rw [small62_of ha, small62_of hb]; rfl
theorem e_range1 {mu : Bool} {n : Int} : pBI mu .range [.int n] = pure (.range 0 n) := rfl
theorem e_range2 {mu : Bool} {a n : Int} : pBI mu .range [.int a, .int n] = pure (.range a n) := rfl
theorem rangeL_length (a b : Int) : (rangeL a b).length = (b - a).toNat := by unfold rangeL; simp
theorem rangeL_at {a b : Int} {i : Nat} {x : AV} (h : (rangeL a b)[i]? = some x) : x = .int (a + i) ∧ i < (b - a).toNat := by
  unfold rangeL at h
  rw [List.getElem?_map] at h
  cases h1 : (List.range (b - a).toNat)[i]? with
  | none => rw [h1] at h; cases h
  | some j =>
    rw [h1] at h; cases h
    have := List.getElem?_eq_some_iff.mp h1
    obtain ⟨h2, h3⟩ := this
    rw [List.length_range] at h2
    rw [List.getElem_range] at h3
    subst h3; exact ⟨rfl, h2⟩
theorem mem_rangeL {a b : Int} {x : AV} (h : x ∈ rangeL a b) : ∃ i : Nat, x = .int (a + i) ∧ i < (b - a).toNat := by
  obtain ⟨i, hi⟩ := List.mem_iff_getElem?.mp h
  exact ⟨i, rangeL_at hi⟩
theorem listOf_loc {H : AHeap} {l : Nat} {xs : List AV} (h : H[l]? = some (.list xs)) : listOf (.loc l) H = some (xs, H) := by
  show (match H[l]? with | some (.list xs) => some (xs, H) | _ => none) = _
  rw [h]
theorem seqOf_loc {H : AHeap} {l : Nat} {xs : List AV} (h : H[l]? = some (.list xs)) : seqOf (.loc l) H = some (xs, H) := by
  show (match H[l]? with | some (.list xs) => some (xs, H) | _ => none) = _
  rw [h]
theorem srcOf_loc {H : AHeap} {l : Nat} {xs : List AV} (h : H[l]? = some (.list xs)) : srcOf (.loc l) H = some (.at l, H) := by
  show (match H[l]? with | some (.list _) => some (Src.at l, H) | _ => none) = _
  rw [h]
theorem len_loc {mu : Bool} {H : AHeap} {l : Nat} {xs : List AV} (h : H[l]? = some (.list xs)) : pBI mu .len [.loc l] H = some (.int xs.length, H) :=
  bind_of (seqOf_loc h) rfl
theorem idx_nat {k n : Nat} (h : k < n) : idx (k : Int) n = some k := by
  unfold idx
  rw [if_pos (by omega), if_pos (by omega)]; simp
theorem e_itT {xs : List AV} {k : Int} {a : AV} (h : ((idx k xs.length).bind fun j => xs[j]?) = some a) : pItem (.tup xs) (.int k) = pure a := by
  funext H
  show (ofOpt ((idx k xs.length).bind fun j => xs[j]?) : M AV) H = _
  rw [h]; rfl
theorem item_loc {H : AHeap} {l k : Nat} {xs : List AV} {a : AV} (h : H[l]? = some (.list xs)) (hk : xs[k]? = some a) : pItem (.loc l) (.int k) H = some (a, H) := by
  refine bind_of (seqOf_loc h) ?_
  rw [idx_nat (List.getElem?_eq_some_iff.mp hk).1]
  show (ofOpt xs[k]? : M AV) H = _
  rw [hk]; rfl
theorem append_loc {H : AHeap} {l : Nat} {xs : List AV} {v : AV} (h : H[l]? = some (.list xs)) (hl : xs.length < LIM) : pMeth "append" (.loc l) [v] H = some (.none, H.set l (.list (xs ++ [v]))) := by
  unfold pMeth
  simp only [h, if_true, hl]
/-- an int below m -/
noncomputable def InR (m : Int) (x : AV) : Prop := ∃ i : Int, x = .int i ∧ 0 ≤ i ∧ i < m
theorem mapM_ok {α β : Type} {f : α → Option β} : ∀ {xs : List α}, (∀ x ∈ xs, ∃ y, f x = some y) → ∃ ys, xs.mapM f = some ys ∧ ys.length = xs.length
  | [], _ => ⟨[], by simp, rfl⟩
  | x :: r, h => by
    obtain ⟨y, hy⟩ := h x (List.mem_cons_self ..)
    obtain ⟨ys, h1, h2⟩ := mapM_ok (xs := r) fun z hz => h z (List.mem_cons_of_mem _ hz)
    exact ⟨y :: ys, by simp [hy, h1], by simp [h2]⟩
theorem eqv_nil (ds : List PyData) : PyData.eqv (.list ds) (.list []) = ds.isEmpty := by cases ds <;> rfl
theorem rd_nil {H : AHeap} {n : Nat} : rd H (n + 1) (.lst []) = some (.list []) := by simp [rd]
theorem eq_nil_loc {H : AHeap} {l : Nat} {xs : List AV} (h : H[l]? = some (.list xs)) (hx : ∀ x ∈ xs, ∃ d, rd H 7 x = some d) : pCmp .Eq (.loc l) (.lst []) H = some (xs.isEmpty, H) := by
  obtain ⟨ds, h1, h2⟩ := mapM_ok hx
  have e1 : rd H 8 (.loc l) = some (.list ds) := by unfold rd; simp only [h, h1, Option.map_some]
  show (match rd H 8 (.loc l), rd H 8 (.lst []) with | some x, some y => some (PyData.eqv x y, H) | _, _ => none) = _
  rw [e1, rd_nil]
  show some (PyData.eqv (.list ds) (.list []), H) = _
  rw [eqv_nil]
  have : ds.isEmpty = xs.isEmpty := by cases ds <;> cases xs <;> simp_all
  rw [this]
theorem rd_int {H : AHeap} {n : Nat} {i : Int} : rd H n (.int i) = some (.int i) := by unfold rd; rfl
theorem InR.rd {m : Int} {x : AV} (h : InR m x) (H : AHeap) (n : Nat) : ∃ d, rd H n x = some d := by obtain ⟨i, rfl, _⟩ := h; exact ⟨_, rd_int⟩
theorem newT {H : AHeap} {xs : List AV} (h : xs.length ≤ LIM) : newL true xs H = some (.loc H.length, H ++ [.list xs]) := by unfold newL; rw [if_pos h]
theorem Rn.each0 {H : AHeap} {Q : List AV → AHeap → Prop} (h : Q [] H) : Rn (eachM []) H Q := .pure h
theorem Rn.eachC {m : M AV} {r : List (M AV)} {H : AHeap} {Q : List AV → AHeap → Prop} (h : Rn m H fun a H1 => Rn (eachM r) H1 fun vs H2 => Q (a :: vs) H2) : Rn (eachM (m :: r)) H Q :=
  .bind (h.mono fun a H1 q => .bind (q.mono fun vs H2 q => .pure q))
theorem Rn.eachE {m : M AV} {r : List (M AV)} {H H1 : AHeap} {a : AV} {Q : List AV → AHeap → Prop} (e : m H = some (a, H1)) (h : Rn (eachM r) H1 fun vs H2 => Q (a :: vs) H2) : Rn (eachM (m :: r)) H Q := .eachC (.of e h)
theorem Rn.eachP {a : AV} {r : List (M AV)} {H : AHeap} {Q : List AV → AHeap → Prop} (h : Rn (eachM r) H fun vs H2 => Q (a :: vs) H2) : Rn (eachM (Pure.pure a :: r)) H Q := .eachC (.pure h)
/-- m answers a and leaves H as it is -/
theorem Rn.val {α : Type} {m : M α} {H : AHeap} {a : α} (h : Rn m H fun b H' => b = a ∧ H' = H) : m H = some (a, H) := by
  obtain ⟨b, H', e, rfl, rfl⟩ := h
  exact e
theorem m_tup {mu : Bool} {x y : AV} {xs ys : List AV} (h : (x :: xs).length + (y :: ys).length ≤ LIM) : pBin mu .Add (.tup (x :: xs)) (.tup (y :: ys)) = pure (.tup ((x :: xs) ++ (y :: ys))) := by
  show (if (x :: xs).isEmpty || (y :: ys).isEmpty || decide (LIM < (x :: xs).length + (y :: ys).length) then stuck else pure (.tup ((x :: xs) ++ (y :: ys))) : M AV) = _
  rw [decide_eq_false (Nat.not_lt.mpr h)]; rfl
theorem e_eqs {a b : Str} (ha : PyData.strOk a = true) (hb : PyData.strOk b = true) : pCmp .Eq (.str a) (.str b) = pure (decide (a = b)) := by
  funext H
  show (match rd H 8 (.str a), rd H 8 (.str b) with | some x, some y => some (PyData.eqv x y, H) | _, _ => none) = _
  unfold rd
  rw [if_pos ha, if_pos hb]
  show some (a == b, H) = some (decide (a = b), H)
  by_cases h : a = b
  · subst h; simp
  · have : (a == b) = false := by simpa using h
    rw [this, decide_eq_false h]
theorem pop_last {H : AHeap} {l : Nat} {xs : List AV} {v : AV} (h : H[l]? = some (.list (xs ++ [v]))) : pMeth "pop" (.loc l) [] H = some (v, H.set l (.list xs)) := by
  unfold pMeth
  simp only [h]
  rw [if_neg (by decide), if_pos trivial]
  have e : (xs ++ [v]).eraseIdx xs.length = xs := by rw [List.eraseIdx_append_of_length_le (Nat.le_refl _)]; simp
  simp [e]
theorem e_it0 {x : AV} {xs : List AV} : pItem (.tup (x :: xs)) (.int 0) = pure x := e_item_tup (k := 0) rfl
end Mine


set_option autoImplicit false
set_option linter.unusedVariables false
namespace Mine
open PySem PyProof.Rows

/-- the objects os stand at ls; H₀ is kept outside of ls -/
structure Fc (H₀ H : AHeap) (ls : List Nat) (os : List AO) : Prop where
  all : ∀ (j l : Nat) (o : AO), ls[j]? = some l → os[j]? = some o → H[l]? = some o
  nd : ls.Nodup
  len : H₀.length ≤ H.length
  out : ∀ l : Nat, l < H₀.length → l ∉ ls → H[l]? = H₀[l]?

theorem nd2 {l : List Nat} (h : l.Nodup) {a b : Nat} {i j : Nat} (ha : l[i]? = some a) (hb : l[j]? = some b) (hij : i ≠ j) : a ≠ b := by
  intro e
  subst e
  have h1 := (List.getElem?_eq_some_iff.mp ha)
  have h2 := (List.getElem?_eq_some_iff.mp hb)
  obtain ⟨p1, q1⟩ := h1
  obtain ⟨p2, q2⟩ := h2
  rcases Nat.lt_or_gt_of_ne hij with h' | h'
  · exact List.pairwise_iff_getElem.mp h i j p1 p2 h' (q1.trans q2.symm)
  · exact List.pairwise_iff_getElem.mp h j i p2 p1 h' (q2.trans q1.symm)

namespace Fc
variable {H₀ H : AHeap} {ls : List Nat} {os os' : List AO}
theorem upd (F : Fc H₀ H ls os) (j : Nat) {l : Nat} (x : AO) (hj : ls[j]? = some l) (hs : ∃ o, os[j]? = some o) (hx : os' = os.set j x) : Fc H₀ (H.set l x) ls os' where
  all := fun i m o hi ho => by
    subst hx
    by_cases hij : i = j
    · subst hij
      rw [hj] at hi; cases hi
      obtain ⟨o', ho'⟩ := hs
      have hl := (List.getElem?_eq_some_iff.mp (F.all i l o' hj ho')).1
      rw [List.getElem?_set_self (List.getElem?_eq_some_iff.mp ho').1] at ho
      rw [List.getElem?_set_self hl]; exact ho
    · rw [List.getElem?_set_ne (fun e => hij e.symm)] at ho
      rw [List.getElem?_set_ne (nd2 F.nd hj hi (fun e => hij e.symm))]
      exact F.all i m o hi ho
  nd := F.nd
  len := by rw [List.length_set]; exact F.len
  out := fun m h1 h2 => by
    have hne : l ≠ m := fun e => h2 (e ▸ List.mem_of_getElem? hj)
    rw [List.getElem?_set_ne hne]
    exact F.out m h1 h2
theorem lt (F : Fc H₀ H ls os) (hlen : ls.length = os.length) {l : Nat} (hl : l ∈ ls) : l < H.length := by
  obtain ⟨j, hj⟩ := List.mem_iff_getElem?.mp hl
  have h1 := (List.getElem?_eq_some_iff.mp hj).1
  have := F.all j l os[j] hj (List.getElem?_eq_getElem (by omega))
  exact (List.getElem?_eq_some_iff.mp this).1
/-- two new objects -/
theorem more2 (F : Fc H₀ H ls os) (hlen : ls.length = os.length) (a b : AO) : Fc H₀ (H ++ [a] ++ [b]) (ls ++ [H.length, H.length + 1]) (os ++ [a, b]) where
  all := fun j l o hj ho => by
    rw [List.append_assoc]
    by_cases hjl : j < ls.length
    · rw [List.getElem?_append_left hjl] at hj
      rw [List.getElem?_append_left (by omega)] at ho
      have := F.all j l o hj ho
      rw [List.getElem?_append_left (List.getElem?_eq_some_iff.mp this).1]; exact this
    · rw [List.getElem?_append_right (by omega)] at hj ho
      rw [← hlen] at ho
      match hk : j - ls.length, hj, ho with
      | 0, hj, ho => simp at hj ho; subst hj; subst ho; simp
      | 1, hj, ho => simp at hj ho; subst hj; subst ho; simp
      | k + 2, hj, ho => simp at hj
  nd := by
    rw [List.nodup_append]
    refine ⟨F.nd, by simp, fun x hx y hy => ?_⟩
    have := F.lt hlen hx
    simp at hy
    omega
  len := by have := F.len; simp; omega
  out := fun l h1 h2 => by
    have h3 : l < H.length := Nat.lt_of_lt_of_le h1 F.len
    rw [List.append_assoc, List.getElem?_append_left h3]
    exact F.out l h1 fun h => h2 (List.mem_append_left _ h)
theorem base (F : Fc H₀ H ls os) {H₁ : AHeap} (h1 : H₁.length ≤ H₀.length) (h2 : ∀ l, l < H₁.length → l ∉ ls → H₀[l]? = H₁[l]?) : Fc H₁ H ls os :=
  ⟨F.all, F.nd, Nat.le_trans h1 F.len, fun l a b => (F.out l (Nat.lt_of_lt_of_le a h1) b).trans (h2 l a b)⟩
end Fc

theorem dItem {H : AHeap} {l : Nat} {es : List (Str × AV)} {k : Str} {v : AV} (h : H[l]? = some (.dict es)) (hk : look es k = some v) : pItem (.loc l) (.str k) H = some (v, H) := by
  show (match H[l]? with | some (.dict es) => (look es k).map fun v => (v, H) | _ => none) = _
  rw [h]
  show (look es k).map (fun v => (v, H)) = _
  rw [hk]; rfl
theorem dStore {H : AHeap} {l : Nat} {es es' : List (Str × AV)} {k : Str} {v : AV} (h : H[l]? = some (.dict es)) (hl : decide (es.length < 100) = true) (hk : put es k v = es') : pStore (.loc l) (.str k) v H = some ((), H.set l (.dict es')) := by
  show (match H[l]? with | some (.dict es) => if es.length < LIM then some ((), H.set l (.dict (put es k v))) else none | _ => none) = _
  rw [h]
  show (if es.length < LIM then some ((), H.set l (.dict (put es k v))) else none) = _
  have hl := of_decide_eq_true hl
  rw [if_pos (by have := LIMis; omega), hk]
theorem lStore {H : AHeap} {l : Nat} {xs : List AV} {i : Nat} {v : AV} (h : H[l]? = some (.list xs)) (hi : i < xs.length) : pStore (.loc l) (.int i) v H = some ((), H.set l (.list (xs.set i v))) := by
  show (match H[l]? with | some (.list xs) => if 0 ≤ (i : Int) ∧ (i : Int) < xs.length then some ((), H.set l (.list (xs.set (i : Int).toNat v))) else none | _ => none) = _
  rw [h]
  show (if 0 ≤ (i : Int) ∧ (i : Int) < xs.length then some ((), H.set l (.list (xs.set (i : Int).toNat v))) else none) = _
  rw [if_pos (by omega)]; rfl
theorem newDT {H : AHeap} {es : List (Str × AV)} : newD es H = some (.loc H.length, H ++ [.dict es]) := rfl

/-- what stands in a tower's state, and at the hand that does the step -/
structure Cn where
  st : Nat
  lb : Nat
  lsp : Nat
  lh : Nat
  lr : Nat
  hd : Nat
  w : Nat
  kp : Nat
  kind : Str
  boxes : List AV
  head : AV
  mark : Int
  spare : List AV
  hs : List AV
  time : Int
  rows : List AV
  prog : List AV
  place : Int
  wv : AV
  deed : AV
  begun : Int
  next : Str
  own : AV
  seen : AV
  inside : AV
  walk : AV
  kept : List AV
  row : AV
namespace Cn
noncomputable def sD (c : Cn) : List (Str × AV) := [("kind", .str c.kind), ("boxes", .loc c.lb), ("head", c.head), ("mark", .int c.mark), ("spare", .loc c.lsp), ("hands", .loc c.lh), ("time", .int c.time), ("rows", .loc c.lr)]
noncomputable def hD (c : Cn) : List (Str × AV) := [("program", .tup c.prog), ("place", .int c.place), ("work", c.wv)]
noncomputable def wD (c : Cn) : List (Str × AV) := [("deed", c.deed), ("begun", .int c.begun), ("next", .str c.next), ("own", c.own), ("seen", c.seen), ("inside", c.inside), ("walk", c.walk), ("kept", .loc c.kp), ("row", c.row)]
noncomputable def ls (c : Cn) : List Nat := [c.st, c.lb, c.lsp, c.lh, c.lr, c.hd, c.kp, c.w]
noncomputable def os (c : Cn) : List AO := [.dict c.sD, .list c.boxes, .list c.spare, .list c.hs, .list c.rows, .dict c.hD, .list c.kept, .dict c.wD]
noncomputable def u_head (c : Cn) (v : AV) : Cn := { c with head := v }
noncomputable def u_mark (c : Cn) (v : Int) : Cn := { c with mark := v }
noncomputable def u_time (c : Cn) (v : Int) : Cn := { c with time := v }
noncomputable def u_place (c : Cn) (v : Int) : Cn := { c with place := v }
noncomputable def u_wv (c : Cn) (v : AV) : Cn := { c with wv := v }
noncomputable def u_next (c : Cn) (v : Str) : Cn := { c with next := v }
noncomputable def u_own (c : Cn) (v : AV) : Cn := { c with own := v }
noncomputable def u_seen (c : Cn) (v : AV) : Cn := { c with seen := v }
noncomputable def u_inside (c : Cn) (v : AV) : Cn := { c with inside := v }
noncomputable def u_walk (c : Cn) (v : AV) : Cn := { c with walk := v }
noncomputable def u_row (c : Cn) (v : AV) : Cn := { c with row := v }
noncomputable def u_boxes (c : Cn) (v : List AV) : Cn := { c with boxes := v }
noncomputable def u_spare (c : Cn) (v : List AV) : Cn := { c with spare := v }
noncomputable def u_rows (c : Cn) (v : List AV) : Cn := { c with rows := v }
noncomputable def u_kept (c : Cn) (v : List AV) : Cn := { c with kept := v }
end Cn
abbrev Foc (H₀ H : AHeap) (c : Cn) : Prop := Fc H₀ H c.ls c.os
namespace Foc
variable {H₀ H : AHeap} {c : Cn}
theorem s (F : Foc H₀ H c) : H[c.st]? = some (.dict c.sD) := F.all 0 _ _ rfl rfl
theorem b (F : Foc H₀ H c) : H[c.lb]? = some (.list c.boxes) := F.all 1 _ _ rfl rfl
theorem sp (F : Foc H₀ H c) : H[c.lsp]? = some (.list c.spare) := F.all 2 _ _ rfl rfl
theorem h (F : Foc H₀ H c) : H[c.lh]? = some (.list c.hs) := F.all 3 _ _ rfl rfl
theorem r (F : Foc H₀ H c) : H[c.lr]? = some (.list c.rows) := F.all 4 _ _ rfl rfl
theorem d (F : Foc H₀ H c) : H[c.hd]? = some (.dict c.hD) := F.all 5 _ _ rfl rfl
theorem w (F : Foc H₀ H c) : H[c.w]? = some (.dict c.wD) := F.all 7 _ _ rfl rfl
theorem k (F : Foc H₀ H c) : H[c.kp]? = some (.list c.kept) := F.all 6 _ _ rfl rfl
-- what is read
theorem gKind (F : Foc H₀ H c) : pItem (.loc c.st) (.str "kind") H = some (.str c.kind, H) := dItem F.s (by kernel_rfl)
theorem gBoxes (F : Foc H₀ H c) : pItem (.loc c.st) (.str "boxes") H = some (.loc c.lb, H) := dItem F.s (by kernel_rfl)
theorem gHead (F : Foc H₀ H c) : pItem (.loc c.st) (.str "head") H = some (c.head, H) := dItem F.s (by kernel_rfl)
theorem gMark (F : Foc H₀ H c) : pItem (.loc c.st) (.str "mark") H = some (.int c.mark, H) := dItem F.s (by kernel_rfl)
theorem gSpare (F : Foc H₀ H c) : pItem (.loc c.st) (.str "spare") H = some (.loc c.lsp, H) := dItem F.s (by kernel_rfl)
theorem gHands (F : Foc H₀ H c) : pItem (.loc c.st) (.str "hands") H = some (.loc c.lh, H) := dItem F.s (by kernel_rfl)
theorem gTime (F : Foc H₀ H c) : pItem (.loc c.st) (.str "time") H = some (.int c.time, H) := dItem F.s (by kernel_rfl)
theorem gRows (F : Foc H₀ H c) : pItem (.loc c.st) (.str "rows") H = some (.loc c.lr, H) := dItem F.s (by kernel_rfl)
theorem gProg (F : Foc H₀ H c) : pItem (.loc c.hd) (.str "program") H = some (.tup c.prog, H) := dItem F.d (by kernel_rfl)
theorem gPlace (F : Foc H₀ H c) : pItem (.loc c.hd) (.str "place") H = some (.int c.place, H) := dItem F.d (by kernel_rfl)
theorem gWork (F : Foc H₀ H c) : pItem (.loc c.hd) (.str "work") H = some (c.wv, H) := dItem F.d (by kernel_rfl)
theorem gDeed (F : Foc H₀ H c) : pItem (.loc c.w) (.str "deed") H = some (c.deed, H) := dItem F.w (by kernel_rfl)
theorem gBegun (F : Foc H₀ H c) : pItem (.loc c.w) (.str "begun") H = some (.int c.begun, H) := dItem F.w (by kernel_rfl)
theorem gNext (F : Foc H₀ H c) : pItem (.loc c.w) (.str "next") H = some (.str c.next, H) := dItem F.w (by kernel_rfl)
theorem gOwn (F : Foc H₀ H c) : pItem (.loc c.w) (.str "own") H = some (c.own, H) := dItem F.w (by kernel_rfl)
theorem gSeen (F : Foc H₀ H c) : pItem (.loc c.w) (.str "seen") H = some (c.seen, H) := dItem F.w (by kernel_rfl)
theorem gInside (F : Foc H₀ H c) : pItem (.loc c.w) (.str "inside") H = some (c.inside, H) := dItem F.w (by kernel_rfl)
theorem gWalk (F : Foc H₀ H c) : pItem (.loc c.w) (.str "walk") H = some (c.walk, H) := dItem F.w (by kernel_rfl)
theorem gKept (F : Foc H₀ H c) : pItem (.loc c.w) (.str "kept") H = some (.loc c.kp, H) := dItem F.w (by kernel_rfl)
theorem gRow (F : Foc H₀ H c) : pItem (.loc c.w) (.str "row") H = some (c.row, H) := dItem F.w (by kernel_rfl)
-- what is written
theorem wHead (F : Foc H₀ H c) (v : AV) : Rn (pStore (.loc c.st) (.str "head") v) H fun _ H' => Foc H₀ H' (c.u_head v) := .of (dStore F.s (by kernel_rfl) (by kernel_rfl)) (F.upd 0 (.dict (c.u_head v).sD) rfl ⟨_, rfl⟩ rfl)
theorem wMark (F : Foc H₀ H c) (v : Int) : Rn (pStore (.loc c.st) (.str "mark") (.int v)) H fun _ H' => Foc H₀ H' (c.u_mark v) := .of (dStore F.s (by kernel_rfl) (by kernel_rfl)) (F.upd 0 (.dict (c.u_mark v).sD) rfl ⟨_, rfl⟩ rfl)
theorem wTime (F : Foc H₀ H c) (v : Int) : Rn (pStore (.loc c.st) (.str "time") (.int v)) H fun _ H' => Foc H₀ H' (c.u_time v) := .of (dStore F.s (by kernel_rfl) (by kernel_rfl)) (F.upd 0 (.dict (c.u_time v).sD) rfl ⟨_, rfl⟩ rfl)
theorem wPlace (F : Foc H₀ H c) (v : Int) : Rn (pStore (.loc c.hd) (.str "place") (.int v)) H fun _ H' => Foc H₀ H' (c.u_place v) := .of (dStore F.d (by kernel_rfl) (by kernel_rfl)) (F.upd 5 (.dict (c.u_place v).hD) rfl ⟨_, rfl⟩ rfl)
theorem wWork (F : Foc H₀ H c) (v : AV) : Rn (pStore (.loc c.hd) (.str "work") v) H fun _ H' => Foc H₀ H' (c.u_wv v) := .of (dStore F.d (by kernel_rfl) (by kernel_rfl)) (F.upd 5 (.dict (c.u_wv v).hD) rfl ⟨_, rfl⟩ rfl)
theorem wNext (F : Foc H₀ H c) (v : Str) : Rn (pStore (.loc c.w) (.str "next") (.str v)) H fun _ H' => Foc H₀ H' (c.u_next v) := .of (dStore F.w (by kernel_rfl) (by kernel_rfl)) (F.upd 7 (.dict (c.u_next v).wD) rfl ⟨_, rfl⟩ rfl)
theorem wOwn (F : Foc H₀ H c) (v : AV) : Rn (pStore (.loc c.w) (.str "own") v) H fun _ H' => Foc H₀ H' (c.u_own v) := .of (dStore F.w (by kernel_rfl) (by kernel_rfl)) (F.upd 7 (.dict (c.u_own v).wD) rfl ⟨_, rfl⟩ rfl)
theorem wSeen (F : Foc H₀ H c) (v : AV) : Rn (pStore (.loc c.w) (.str "seen") v) H fun _ H' => Foc H₀ H' (c.u_seen v) := .of (dStore F.w (by kernel_rfl) (by kernel_rfl)) (F.upd 7 (.dict (c.u_seen v).wD) rfl ⟨_, rfl⟩ rfl)
theorem wInside (F : Foc H₀ H c) (v : AV) : Rn (pStore (.loc c.w) (.str "inside") v) H fun _ H' => Foc H₀ H' (c.u_inside v) := .of (dStore F.w (by kernel_rfl) (by kernel_rfl)) (F.upd 7 (.dict (c.u_inside v).wD) rfl ⟨_, rfl⟩ rfl)
theorem wWalk (F : Foc H₀ H c) (v : AV) : Rn (pStore (.loc c.w) (.str "walk") v) H fun _ H' => Foc H₀ H' (c.u_walk v) := .of (dStore F.w (by kernel_rfl) (by kernel_rfl)) (F.upd 7 (.dict (c.u_walk v).wD) rfl ⟨_, rfl⟩ rfl)
theorem wRow (F : Foc H₀ H c) (v : AV) : Rn (pStore (.loc c.w) (.str "row") v) H fun _ H' => Foc H₀ H' (c.u_row v) := .of (dStore F.w (by kernel_rfl) (by kernel_rfl)) (F.upd 7 (.dict (c.u_row v).wD) rfl ⟨_, rfl⟩ rfl)
theorem wBox (F : Foc H₀ H c) {i : Nat} (hi : i < c.boxes.length) (v : AV) : Rn (pStore (.loc c.lb) (.int i) v) H fun _ H' => Foc H₀ H' (c.u_boxes (c.boxes.set i v)) := .of (lStore F.b hi) (F.upd 1 (.list (c.boxes.set i v)) rfl ⟨_, rfl⟩ rfl)
theorem wRows (F : Foc H₀ H c) {i : Nat} (hi : i < c.rows.length) (v : AV) : Rn (pStore (.loc c.lr) (.int i) v) H fun _ H' => Foc H₀ H' (c.u_rows (c.rows.set i v)) := .of (lStore F.r hi) (F.upd 4 (.list (c.rows.set i v)) rfl ⟨_, rfl⟩ rfl)
theorem aBox (F : Foc H₀ H c) (hl : c.boxes.length < 100000) (v : AV) : Rn (pMeth "append" (.loc c.lb) [v]) H fun _ H' => Foc H₀ H' (c.u_boxes (c.boxes ++ [v])) := .of (append_loc F.b (by have := LIMis; omega)) (F.upd 1 (.list (c.boxes ++ [v])) rfl ⟨_, rfl⟩ rfl)
theorem aSpare (F : Foc H₀ H c) (hl : c.spare.length < 100000) (v : AV) : Rn (pMeth "append" (.loc c.lsp) [v]) H fun _ H' => Foc H₀ H' (c.u_spare (c.spare ++ [v])) := .of (append_loc F.sp (by have := LIMis; omega)) (F.upd 2 (.list (c.spare ++ [v])) rfl ⟨_, rfl⟩ rfl)
theorem aRows (F : Foc H₀ H c) (hl : c.rows.length < 100000) (v : AV) : Rn (pMeth "append" (.loc c.lr) [v]) H fun _ H' => Foc H₀ H' (c.u_rows (c.rows ++ [v])) := .of (append_loc F.r (by have := LIMis; omega)) (F.upd 4 (.list (c.rows ++ [v])) rfl ⟨_, rfl⟩ rfl)
theorem aKept (F : Foc H₀ H c) (hl : c.kept.length < 100000) (v : AV) : Rn (pMeth "append" (.loc c.kp) [v]) H fun _ H' => Foc H₀ H' (c.u_kept (c.kept ++ [v])) := .of (append_loc F.k (by have := LIMis; omega)) (F.upd 6 (.list (c.kept ++ [v])) rfl ⟨_, rfl⟩ rfl)
theorem pSpare (F : Foc H₀ H c) {xs : List AV} {v : AV} (hs : c.spare = xs ++ [v]) : Rn (pMeth "pop" (.loc c.lsp) []) H fun a H' => a = v ∧ Foc H₀ H' (c.u_spare xs) := by
  have h := F.sp
  rw [hs] at h
  exact .of (pop_last h) ⟨rfl, F.upd 2 (.list xs) rfl ⟨_, rfl⟩ rfl⟩
end Foc
namespace Cn
noncomputable def ls0 (c : Cn) : List Nat := [c.st, c.lb, c.lsp, c.lh, c.lr, c.hd]
noncomputable def os0 (c : Cn) : List AO := [.dict c.sD, .list c.boxes, .list c.spare, .list c.hs, .list c.rows, .dict c.hD]
/-- a deed is begun -/
noncomputable def beg (c : Cn) (k w : Nat) (d : AV) (nx : Str) : Cn := { c with kp := k, w := w, deed := d, begun := c.time, next := nx, own := .none, seen := .none, inside := .none, walk := .none, kept := [], row := .none }
end Cn
abbrev Foc0 (H₀ H : AHeap) (c : Cn) : Prop := Fc H₀ H c.ls0 c.os0
namespace Foc0
variable {H₀ H : AHeap} {c : Cn}
theorem s (F : Foc0 H₀ H c) : H[c.st]? = some (.dict c.sD) := F.all 0 _ _ rfl rfl
theorem h (F : Foc0 H₀ H c) : H[c.lh]? = some (.list c.hs) := F.all 3 _ _ rfl rfl
theorem d (F : Foc0 H₀ H c) : H[c.hd]? = some (.dict c.hD) := F.all 5 _ _ rfl rfl
theorem gHands (F : Foc0 H₀ H c) : pItem (.loc c.st) (.str "hands") H = some (.loc c.lh, H) := dItem F.s (by kernel_rfl)
theorem gTime (F : Foc0 H₀ H c) : pItem (.loc c.st) (.str "time") H = some (.int c.time, H) := dItem F.s (by kernel_rfl)
theorem gProg (F : Foc0 H₀ H c) : pItem (.loc c.hd) (.str "program") H = some (.tup c.prog, H) := dItem F.d (by kernel_rfl)
theorem gPlace (F : Foc0 H₀ H c) : pItem (.loc c.hd) (.str "place") H = some (.int c.place, H) := dItem F.d (by kernel_rfl)
theorem gWork (F : Foc0 H₀ H c) : pItem (.loc c.hd) (.str "work") H = some (c.wv, H) := dItem F.d (by kernel_rfl)
theorem wTime (F : Foc0 H₀ H c) (v : Int) : Rn (pStore (.loc c.st) (.str "time") (.int v)) H fun _ H' => Foc0 H₀ H' (c.u_time v) := .of (dStore F.s (by kernel_rfl) (by kernel_rfl)) (F.upd 0 (.dict (c.u_time v).sD) rfl ⟨_, rfl⟩ rfl)
theorem begun (F : Foc0 H₀ H c) (d : AV) (nx : Str) : Foc H₀ (H ++ [.list []] ++ [.dict (c.beg H.length (H.length + 1) d nx).wD]) (c.beg H.length (H.length + 1) d nx) := F.more2 rfl _ _
theorem of (F : Foc H₀ H c) (h1 : H₀.length ≤ c.kp) (h2 : H₀.length ≤ c.w) : Foc0 H₀ H c where
  all := fun j l o h1 h2 => by
    match j, h1, h2 with
    | 0, h1, h2 => exact F.all 0 l o h1 h2
    | 1, h1, h2 => exact F.all 1 l o h1 h2
    | 2, h1, h2 => exact F.all 2 l o h1 h2
    | 3, h1, h2 => exact F.all 3 l o h1 h2
    | 4, h1, h2 => exact F.all 4 l o h1 h2
    | 5, h1, h2 => exact F.all 5 l o h1 h2
    | j + 6, h1, h2 => exact absurd h1 (by simp [Cn.ls0])
  nd := (List.nodup_append.mp (show (c.ls0 ++ [c.kp, c.w]).Nodup from F.nd)).1
  len := F.len
  out := fun l a b => F.out l a fun h => by
    rcases List.mem_append.mp (show l ∈ c.ls0 ++ [c.kp, c.w] from h) with q | q
    · exact b q
    · simp at q; omega
end Foc0
end Mine


set_option autoImplicit false
set_option linter.unusedVariables false
set_option maxRecDepth 100000
namespace Mine
open PySem PyProof.Rows
noncomputable def g_KINDS : AV := .tup [.str "marks", .str "bare", .str "new"]
noncomputable def g_MOST_VALUES : AV := .int 60
noncomputable def g_MOST_PROGRAMS : AV := .int 20
noncomputable def g_MOST_DEEDS : AV := .int 60
noncomputable def g_FIRST : AV := .cdict [("push", .str "take"), ("swap", .str "take"), ("pop", .str "look"), ("top", .str "look"), ("clear", .str "look")]
noncomputable def g_BEHIND_LOOK : AV := .cdict [("push", .str "put"), ("swap", .str "see"), ("pop", .str "see"), ("top", .str "see"), ("clear", .str "put")]
noncomputable def g_BEHIND_SEE : AV := .cdict [("swap", .str "put"), ("pop", .str "put"), ("top", .str "check")]
noncomputable def g_MOST_STEPS : AV := .int 2000
noncomputable def P09 : Pg := ⟨fnOf PySem.Challenge.pw_uf020017_09, fun x => if x = ("KINDS" : Str) then some g_KINDS else if x = ("MOST_VALUES" : Str) then some g_MOST_VALUES else if x = ("MOST_PROGRAMS" : Str) then some g_MOST_PROGRAMS else if x = ("MOST_DEEDS" : Str) then some g_MOST_DEEDS else if x = ("FIRST" : Str) then some g_FIRST else if x = ("BEHIND_LOOK" : Str) then some g_BEHIND_LOOK else if x = ("BEHIND_SEE" : Str) then some g_BEHIND_SEE else if x = ("MOST_STEPS" : Str) then some g_MOST_STEPS else none, fun p => ([(46, 12, 14), (55, 12, 91), (56, 76, 78), (56, 115, 117), (158, 151, 153), (219, 20, 56), (219, 21, 23), (224, 19, 21), (228, 27, 116), (240, 16, 32)] : List (Nat × Nat × Nat)).contains (p.line, p.col, p.endCol)⟩
theorem c_is_whole_0 (cf : Str → List AV → M AV) (v_thing : AV) : tl P09 cf "is_whole" [] 0 40 [some v_thing] = (do let y9 ← (do let v1 ← (do let v7 ← pure v_thing; let b8 ← pIsi v7 .int; pure (.bool b8)); let t2 ← truth v1; match t2 with | false => pure v1 | true => (do let v3 ← (do let v5 ← pure v_thing; let b6 ← pIsi v5 .bool; pure (.bool b6)); let b4 ← truth v3; pure (.bool !b4))); pure (.ret y9)) := by kernel_rfl
theorem c_need_all_0 (cf : Str → List AV → M AV) (v_start v_programs v_kind : AV) : tl P09 cf "need_all" [] 0 40 [some v_start, some v_programs, some v_kind, none, none, none] = (do let c1 ← (do let t2 ← (do let b3 ← (do let v6 ← (do let v4 ← pure v_kind; let b5 ← pIsi v4 .str; pure (.bool b5)); truth v6); pure (!b3)); match t2 with | true => pure true | false => (do let t7 ← (pCmp .NotIn v_kind g_KINDS); match t7 with | true => pure true | false => pure false)); match c1 with | true => (do let r ← stuck; goOn (tl P09 cf "need_all" [] 1 39) r) | false => (do let r ← pure (.next [some v_start, some v_programs, some v_kind, none, none, none]); goOn (tl P09 cf "need_all" [] 1 39) r)) := by kernel_rfl
theorem c_need_all_t_1 (cf : Str → List AV → M AV) (v_start : AV) (o_programs o_kind o_value o_program o_deed : Option AV) : tl P09 cf "need_all" [] 1 39 [some v_start, o_programs, o_kind, o_value, o_program, o_deed] = (do let c1 ← (do let v2 ← (pBI false .len [v_start]); pCmp .Gt v2 g_MOST_VALUES); match c1 with | true => (do let r ← stuck; goOn (tl P09 cf "need_all" [] 2 38) r) | false => (do let r ← pure (.next [some v_start, o_programs, o_kind, o_value, o_program, o_deed]); goOn (tl P09 cf "need_all" [] 2 38) r)) := by kernel_rfl
theorem c_need_all_t_2 (cf : Str → List AV → M AV) (v_start : AV) (o_programs o_kind o_value o_program o_deed : Option AV) : tl P09 cf "need_all" [] 2 38 [some v_start, o_programs, o_kind, o_value, o_program, o_deed] = (do let it1 ← pure v_start; let src2 ← srcOf it1; let r ← forLoop src2 (forB P09 cf "need_all" [] 2 37) FUEL 0 [some v_start, o_programs, o_kind, o_value, o_program, o_deed]; goOn (tl P09 cf "need_all" [] 3 37) r) := by kernel_rfl
theorem c_need_all_t_3 (cf : Str → List AV → M AV) (v_programs : AV) (o_start o_kind o_value o_program o_deed : Option AV) : tl P09 cf "need_all" [] 3 37 [o_start, some v_programs, o_kind, o_value, o_program, o_deed] = (do let c1 ← (do let v2 ← (pBI false .len [v_programs]); pCmp .Gt v2 g_MOST_PROGRAMS); match c1 with | true => (do let r ← stuck; goOn (tl P09 cf "need_all" [] 4 36) r) | false => (do let r ← pure (.next [o_start, some v_programs, o_kind, o_value, o_program, o_deed]); goOn (tl P09 cf "need_all" [] 4 36) r)) := by kernel_rfl
theorem c_need_all_for_2 (cf : Str → List AV → M AV) (o_start o_programs o_kind o_value o_program o_deed : Option AV) (a : AV) : forB P09 cf "need_all" [] 2 37 a [o_start, o_programs, o_kind, o_value, o_program, o_deed] = (do let c1 ← (do let b2 ← (do let v3 ← (cf "is_whole" [a]); truth v3); pure (!b2)); match c1 with | true => (do let r ← stuck; goOn (fun σ => pure (.next σ)) r) | false => (do let r ← pure (.next [o_start, o_programs, o_kind, some a, o_program, o_deed]); goOn (fun σ => pure (.next σ)) r)) := by kernel_rfl
theorem c_need_all_t_4 (cf : Str → List AV → M AV) (v_programs : AV) (o_start o_kind o_value o_program o_deed : Option AV) : tl P09 cf "need_all" [] 4 36 [o_start, some v_programs, o_kind, o_value, o_program, o_deed] = (do let it1 ← pure v_programs; let src2 ← srcOf it1; let r ← forLoop src2 (forB P09 cf "need_all" [] 4 35) FUEL 0 [o_start, some v_programs, o_kind, o_value, o_program, o_deed]; goOn (fun σ => pure (.next σ)) r) := by kernel_rfl
theorem c_need_all_for_4 (cf : Str → List AV → M AV) (o_start o_programs o_kind o_value o_program o_deed : Option AV) (a : AV) : forB P09 cf "need_all" [] 4 35 a [o_start, o_programs, o_kind, o_value, o_program, o_deed] = (do let c1 ← (do let v2 ← (pBI false .len [a]); pCmp .Gt v2 g_MOST_DEEDS); match c1 with | true => (do let r ← stuck; goOn (tl P09 cf "need_all" [(4, 0)] 1 34) r) | false => (do let r ← pure (.next [o_start, o_programs, o_kind, o_value, some a, o_deed]); goOn (tl P09 cf "need_all" [(4, 0)] 1 34) r)) := by kernel_rfl
theorem c_need_all_t40_1 (cf : Str → List AV → M AV) (v_program : AV) (o_start o_programs o_kind o_value o_deed : Option AV) : tl P09 cf "need_all" [(4, 0)] 1 34 [o_start, o_programs, o_kind, o_value, some v_program, o_deed] = (do let it1 ← pure v_program; let src2 ← srcOf it1; let r ← forLoop src2 (forB P09 cf "need_all" [(4, 0)] 1 33) FUEL 0 [o_start, o_programs, o_kind, o_value, some v_program, o_deed]; goOn (fun σ => pure (.next σ)) r) := by kernel_rfl
theorem c_need_all_for40_1 (cf : Str → List AV → M AV) (o_start o_programs o_kind o_value o_program o_deed : Option AV) (a : AV) : forB P09 cf "need_all" [(4, 0)] 1 33 a [o_start, o_programs, o_kind, o_value, o_program, o_deed] = (do let c1 ← (do let b2 ← (do let v3 ← (cf "is_deed" [a]); truth v3); pure (!b2)); match c1 with | true => (do let r ← stuck; goOn (fun σ => pure (.next σ)) r) | false => (do let r ← pure (.next [o_start, o_programs, o_kind, o_value, o_program, some a]); goOn (fun σ => pure (.next σ)) r)) := by kernel_rfl
theorem c_tower_of_0 (cf : Str → List AV → M AV) (v_start v_programs v_kind : AV) : tl P09 cf "tower_of" [] 0 40 [some v_start, some v_programs, some v_kind, none, none, none, none, none, none] = (do let _ ← (cf "need_all" [v_start, v_programs, v_kind]); (do let boxes1 ← (newL true []); (do let it2 ← pure v_start; let _ ← listOf it2; let src3 ← srcOf it2; let r ← forLoop (.enum src3) (forB P09 cf "tower_of" [] 2 37) FUEL 0 [some v_start, some v_programs, some v_kind, some boxes1, none, none, none, none, none]; goOn (tl P09 cf "tower_of" [] 3 37) r))) := by kernel_rfl
theorem c_tower_of_t_3 (cf : Str → List AV → M AV) (v_start : AV) (o_programs o_kind o_boxes o_number o_value o_below o_head o_hands : Option AV) : tl P09 cf "tower_of" [] 3 37 [some v_start, o_programs, o_kind, o_boxes, o_number, o_value, o_below, o_head, o_hands] = (do let c1 ← (do let v2 ← (pBI false .len [v_start]); pCmp .Gt v2 (.int 0)); match c1 with | true => (do let r ← pure (.next [some v_start, o_programs, o_kind, o_boxes, o_number, o_value, o_below, some (.int 0), o_hands]); goOn (tl P09 cf "tower_of" [] 5 35) r) | false => (do let r ← pure (.next [some v_start, o_programs, o_kind, o_boxes, o_number, o_value, o_below, some (.none), o_hands]); goOn (tl P09 cf "tower_of" [] 5 35) r)) := by kernel_rfl
theorem c_tower_of_for_2 (cf : Str → List AV → M AV) (v_start : AV) (o_programs o_kind o_boxes o_number o_value o_below o_head o_hands : Option AV) (a b : AV) : forB P09 cf "tower_of" [] 2 37 (.tup [a, b]) [some v_start, o_programs, o_kind, o_boxes, o_number, o_value, o_below, o_head, o_hands] = (do let below1 ← (pBin false .Add a (.int 1)); (do let c2 ← ((do let c3 ← (pBI false .len [v_start]); pCmp .Eq below1 c3)); match c2 with | true => (do let r ← pure (.next [some v_start, o_programs, o_kind, o_boxes, some a, some b, some (.none), o_head, o_hands]); goOn (tl P09 cf "tower_of" [(2, 0)] 2 35) r) | false => (do let r ← pure (.next [some v_start, o_programs, o_kind, o_boxes, some a, some b, some below1, o_head, o_hands]); goOn (tl P09 cf "tower_of" [(2, 0)] 2 35) r))) := by kernel_rfl
theorem c_tower_of_t_5 (cf : Str → List AV → M AV) (v_programs v_kind v_boxes v_head : AV) (o_start o_number o_value o_below o_hands : Option AV) : tl P09 cf "tower_of" [] 5 35 [o_start, some v_programs, some v_kind, some v_boxes, o_number, o_value, o_below, some v_head, o_hands] = (do let hands8 ← (do let it5 ← pure v_programs; let src6 ← srcOf it5; let ys7 ← compLoop src6 (fun u1 => (do let y2 ← (do let vs3 ← eachM [(pBI false .tuple [u1]), pure (.int 0), pure (.none)]; newD (List.zip (["program", "place", "work"] : List Str) vs3)); pure (some y2))) FUEL 0 []; newL true ys7); (do let y10 ← (do let vs9 ← eachM [pure v_kind, pure v_boxes, pure v_head, pure (.int 0), (newL true []), pure hands8, pure (.int 0), (newL true [])]; newD (List.zip (["kind", "boxes", "head", "mark", "spare", "hands", "time", "rows"] : List Str) vs9)); pure (.ret y10))) := by kernel_rfl
theorem c_tower_of_t20_2 (cf : Str → List AV → M AV) (v_boxes v_value v_below : AV) (o_start o_programs o_kind o_number o_head o_hands : Option AV) : tl P09 cf "tower_of" [(2, 0)] 2 35 [o_start, o_programs, o_kind, some v_boxes, o_number, some v_value, some v_below, o_head, o_hands] = (do let _ ← (do let o1 ← pure v_boxes; let _ ← listOf o1; (pMeth "append" o1 [.tup [v_value, v_below]])); pure (.next [o_start, o_programs, o_kind, some v_boxes, o_number, some v_value, some v_below, o_head, o_hands])) := by kernel_rfl
theorem c_head_of_0 (cf : Str → List AV → M AV) (v_state : AV) : tl P09 cf "head_of" [] 0 40 [some v_state] = (do let y2 ← (do let vs1 ← eachM [(pItem v_state (.str "head")), (pItem v_state (.str "mark"))]; pure (.tup vs1)); pure (.ret y2)) := by kernel_rfl
theorem c_need_hand_0 (cf : Str → List AV → M AV) (v_state v_hand : AV) : tl P09 cf "need_hand" [] 0 40 [some v_state, some v_hand] = (do let c1 ← (do let t2 ← (do let b3 ← (do let v4 ← (cf "is_whole" [v_hand]); truth v4); pure (!b3)); match t2 with | true => pure true | false => (do let t5 ← (do let b6 ← ((do let t7 ← pCmp .LtE (.int 0) v_hand; match t7 with | true => (do let c9 ← (do let vs8 ← eachM [(pItem v_state (.str "hands"))]; pBI false .len vs8); pCmp .Lt v_hand c9) | false => pure false)); pure (!b6)); match t5 with | true => pure true | false => pure false)); match c1 with | true => (do let r ← stuck; goOn (fun σ => pure (.next σ)) r) | false => (do let r ← pure (.next [some v_state, some v_hand]); goOn (fun σ => pure (.next σ)) r)) := by kernel_rfl
theorem c_is_still_0 (cf : Str → List AV → M AV) (v_state v_work : AV) : tl P09 cf "is_still" [] 0 40 [some v_state, some v_work] = (do let c1 ← (do let v2 ← (pItem v_state (.str "head")); (do let c4 ← (do let x3 ← (pItem v_work (.str "seen")); pItem x3 (.int 0)); pCmp .NotEq v2 c4)); match c1 with | true => (do let r ← pure (.ret (.bool false)); goOn (tl P09 cf "is_still" [] 1 39) r) | false => (do let r ← pure (.next [some v_state, some v_work]); goOn (tl P09 cf "is_still" [] 1 39) r)) := by kernel_rfl
theorem c_is_still_t_1 (cf : Str → List AV → M AV) (v_state v_work : AV) : tl P09 cf "is_still" [] 1 39 [some v_state, some v_work] = (do let y9 ← (do let v1 ← (do let v8 ← (pItem v_state (.str "kind")); let b7 ← pCmp .NotEq v8 (.str "marks"); pure (.bool b7)); let t2 ← truth v1; match t2 with | true => pure v1 | false => (do let v4 ← (pItem v_state (.str "mark")); let b3 ← (do let c6 ← (do let x5 ← (pItem v_work (.str "seen")); pItem x5 (.int 1)); pCmp .Eq v4 c6); pure (.bool b3))); pure (.ret y9)) := by kernel_rfl
theorem c_put_below_0 (cf : Str → List AV → M AV) (v_state v_box v_below : AV) : tl P09 cf "put_below" [] 0 40 [some v_state, some v_box, some v_below] = (do let v4 ← (do let vs3 ← eachM [(do let x2 ← (do let x1 ← (pItem v_state (.str "boxes")); pItem x1 v_box); pItem x2 (.int 0)), pure v_below]; pure (.tup vs3)); let o5 ← (pItem v_state (.str "boxes")); pStore o5 v_box v4; pure (.next [some v_state, some v_box, some v_below])) := by kernel_rfl
theorem c_come_to_point_0 (cf : Str → List AV → M AV) (v_state v_number v_work : AV) : tl P09 cf "come_to_point" [] 0 40 [some v_state, some v_number, some v_work, none] = (do let hand2 ← (do let x1 ← (pItem v_state (.str "hands")); pItem x1 v_number); (do let v4 ← (do let vs3 ← eachM [(pItem v_state (.str "rows"))]; pBI false .len vs3); pStore v_work (.str "row") v4; (do let _ ← (do let o5 ← (pItem v_state (.str "rows")); let _ ← listOf o5; (do let vs7 ← eachM [(do let vs6 ← eachM [pure v_number, (pItem hand2 (.str "place")), (pItem v_work (.str "deed")), (pItem v_work (.str "begun")), (pItem v_state (.str "time")), pure (.none), pure (.none)]; pure (.tup vs6))]; pMeth "append" o5 vs7)); pure (.next [some v_state, some v_number, some v_work, some hand2])))) := by kernel_rfl
theorem c_end_0 (cf : Str → List AV → M AV) (v_state v_number v_work v_answer : AV) : tl P09 cf "end" [] 0 40 [some v_state, some v_number, some v_work, some v_answer, none] = (do let c1 ← (do let v2 ← (pItem v_work (.str "row")); pCmp .Is v2 (.none)); match c1 with | true => (do let r ← (do let _ ← (cf "come_to_point" [v_state, v_number, v_work]); pure (.next [some v_state, some v_number, some v_work, some v_answer, none])); goOn (tl P09 cf "end" [] 1 39) r) | false => (do let r ← pure (.next [some v_state, some v_number, some v_work, some v_answer, none]); goOn (tl P09 cf "end" [] 1 39) r)) := by kernel_rfl
theorem c_end_t_1 (cf : Str → List AV → M AV) (v_state v_number v_work v_answer : AV) (o_row : Option AV) : tl P09 cf "end" [] 1 39 [some v_state, some v_number, some v_work, some v_answer, o_row] = (do let row3 ← (do let x1 ← (pItem v_state (.str "rows")); let x2 ← (pItem v_work (.str "row")); pItem x1 x2); (do let v10 ← (do let x8 ← (do let o4 ← pure row3; let i5 ← pure none; let j6 ← pure (some 5); pSlice false o4 i5 j6); let x9 ← (do let vs7 ← eachM [(pItem v_state (.str "time")), pure v_answer]; pure (.tup vs7)); pBin false .Add x8 x9); let o11 ← (pItem v_state (.str "rows")); let o12 ← (pItem v_work (.str "row")); pStore o11 o12 v10; (do let v16 ← (do let x15 ← (do let x14 ← (do let x13 ← (pItem v_state (.str "hands")); pItem x13 v_number); pItem x14 (.str "place")); pBin false .Add x15 (.int 1)); let o18 ← (do let x17 ← (pItem v_state (.str "hands")); pItem x17 v_number); pStore o18 (.str "place") v16; (do let o20 ← (do let x19 ← (pItem v_state (.str "hands")); pItem x19 v_number); pStore o20 (.str "work") (.none); pure (.next [some v_state, some v_number, some v_work, some v_answer, some row3]))))) := by kernel_rfl
theorem c_take_0 (cf : Str → List AV → M AV) (v_state v_work : AV) : tl P09 cf "take" [] 0 40 [some v_state, some v_work, none] = (do let c1 ← (do let t7 ← (do let v8 ← (pItem v_state (.str "kind")); pCmp .Eq v8 (.str "new")); match t7 with | true => pure true | false => (do let t9 ← (do let v10 ← (pItem v_state (.str "spare")); (do let c11 ← (newL false []); pCmp .Eq v10 c11)); match t9 with | true => pure true | false => pure false)); match c1 with | true => (do let r ← (do let box3 ← (do let vs2 ← eachM [(pItem v_state (.str "boxes"))]; pBI false .len vs2); (do let _ ← (do let o4 ← (pItem v_state (.str "boxes")); let _ ← listOf o4; (pMeth "append" o4 [.none])); pure (.next [some v_state, some v_work, some box3]))); goOn (tl P09 cf "take" [] 1 39) r) | false => (do let r ← (do let box6 ← (do let o5 ← (pItem v_state (.str "spare")); let _ ← listOf o5; (pMeth "pop" o5 [])); pure (.next [some v_state, some v_work, some box6])); goOn (tl P09 cf "take" [] 1 39) r)) := by kernel_rfl
theorem c_take_t_1 (cf : Str → List AV → M AV) (v_state v_work v_box : AV) : tl P09 cf "take" [] 1 39 [some v_state, some v_work, some v_box] = (do let v3 ← (do let vs2 ← eachM [(do let x1 ← (pItem v_work (.str "deed")); pItem x1 (.int 1)), pure (.none)]; pure (.tup vs2)); let o4 ← (pItem v_state (.str "boxes")); pStore o4 v_box v3; (do pStore v_work (.str "own") v_box; (do pStore v_work (.str "next") (.str "look"); pure (.ret (.tup [.str "take", v_box]))))) := by kernel_rfl
theorem c_look_0 (cf : Str → List AV → M AV) (v_state v_number v_work : AV) : tl P09 cf "look" [] 0 40 [some v_state, some v_number, some v_work, none, none, none] = (do let word2 ← (do let x1 ← (pItem v_work (.str "deed")); pItem x1 (.int 0)); (do let v3 ← (cf "head_of" [v_state]); pStore v_work (.str "seen") v3; (do let v4 ← (pItem g_BEHIND_LOOK word2); pStore v_work (.str "next") v4; (do let told6 ← (do let vs5 ← eachM [pure (.str "look"), (pItem v_state (.str "head")), (pItem v_state (.str "mark"))]; pure (.tup vs5)); (do let c7 ← (pCmp .Eq word2 (.str "push")); match c7 with | true => (do let r ← (do let _ ← (do let vs8 ← eachM [pure v_state, (pItem v_work (.str "own")), (pItem v_state (.str "head"))]; cf "put_below" vs8); pure (.next [some v_state, some v_number, some v_work, some word2, some told6, none])); goOn (tl P09 cf "look" [] 5 35) r) | false => (do let r ← (do let c9 ← (do let v13 ← (pItem v_state (.str "head")); pCmp .Is v13 (.none)); match c9 with | true => (do let r ← (do let c10 ← (pCmp .Eq word2 (.str "swap")); match c10 with | true => (do let r ← (do let _ ← (do let o11 ← (pItem v_state (.str "spare")); let _ ← listOf o11; (do let vs12 ← eachM [(pItem v_work (.str "own"))]; pMeth "append" o11 vs12)); pure (.next [some v_state, some v_number, some v_work, some word2, some told6, none])); goOn (tl P09 cf "look" [(4, 1), (0, 0)] 1 33) r) | false => (do let r ← pure (.next [some v_state, some v_number, some v_work, some word2, some told6, none]); goOn (tl P09 cf "look" [(4, 1), (0, 0)] 1 33) r)); goOn (fun σ => pure (.next σ)) r) | false => (do let r ← pure (.next [some v_state, some v_number, some v_work, some word2, some told6, none]); goOn (fun σ => pure (.next σ)) r)); goOn (tl P09 cf "look" [] 5 35) r)))))) := by kernel_rfl
theorem c_look_t41_00_1 (cf : Str → List AV → M AV) (v_word : AV) (o_state o_number o_work o_told o_answer : Option AV) : tl P09 cf "look" [(4, 1), (0, 0)] 1 33 [o_state, o_number, o_work, some v_word, o_told, o_answer] = (do let c1 ← (pCmp .Eq v_word (.str "clear")); match c1 with | true => (do let r ← pure (.next [o_state, o_number, o_work, some v_word, o_told, some (.tup [])]); goOn (tl P09 cf "look" [(4, 1), (0, 0)] 3 31) r) | false => (do let r ← pure (.next [o_state, o_number, o_work, some v_word, o_told, some (.none)]); goOn (tl P09 cf "look" [(4, 1), (0, 0)] 3 31) r)) := by kernel_rfl
theorem c_look_t_5 (cf : Str → List AV → M AV) (v_told : AV) (o_state o_number o_work o_word o_answer : Option AV) : tl P09 cf "look" [] 5 35 [o_state, o_number, o_work, o_word, some v_told, o_answer] = pure (.ret v_told) := by kernel_rfl
theorem c_look_t41_00_3 (cf : Str → List AV → M AV) (v_state v_number v_work v_answer : AV) (o_word o_told : Option AV) : tl P09 cf "look" [(4, 1), (0, 0)] 3 31 [some v_state, some v_number, some v_work, o_word, o_told, some v_answer] = (do let _ ← (cf "end" [v_state, v_number, v_work, v_answer]); pure (.next [some v_state, some v_number, some v_work, o_word, o_told, some v_answer])) := by kernel_rfl
theorem c_see_0 (cf : Str → List AV → M AV) (v_state v_work : AV) : tl P09 cf "see" [] 0 40 [some v_state, some v_work, none, none] = (do let box2 ← (do let x1 ← (pItem v_work (.str "seen")); pItem x1 (.int 0)); (do let v4 ← (do let x3 ← (pItem v_state (.str "boxes")); pItem x3 box2); pStore v_work (.str "inside") v4; (do let v7 ← (do let x6 ← (do let x5 ← (pItem v_work (.str "deed")); pItem x5 (.int 0)); pItem g_BEHIND_SEE x6); pStore v_work (.str "next") v7; (do let told9 ← (do let x8 ← (pItem v_work (.str "inside")); pBin false .Add (.tup [.str "see", box2]) x8); (do let c10 ← (do let v14 ← (do let x13 ← (pItem v_work (.str "deed")); pItem x13 (.int 0)); pCmp .Eq v14 (.str "swap")); match c10 with | true => (do let r ← (do let _ ← (do let vs12 ← eachM [pure v_state, (pItem v_work (.str "own")), (do let x11 ← (pItem v_work (.str "inside")); pItem x11 (.int 1))]; cf "put_below" vs12); pure (.next [some v_state, some v_work, some box2, some told9])); goOn (tl P09 cf "see" [] 5 35) r) | false => (do let r ← pure (.next [some v_state, some v_work, some box2, some told9]); goOn (tl P09 cf "see" [] 5 35) r)))))) := by kernel_rfl
theorem c_see_t_5 (cf : Str → List AV → M AV) (v_told : AV) (o_state o_work o_box : Option AV) : tl P09 cf "see" [] 5 35 [o_state, o_work, o_box, some v_told] = pure (.ret v_told) := by kernel_rfl
theorem c_put_0 (cf : Str → List AV → M AV) (v_state v_number v_work : AV) : tl P09 cf "put" [] 0 40 [some v_state, some v_number, some v_work, none, none] = (do let c1 ← (do let b2 ← (do let v3 ← (cf "is_still" [v_state, v_work]); truth v3); pure (!b2)); match c1 with | true => (do let r ← (do pStore v_work (.str "next") (.str "look"); pure (.ret (.tup [.str "put", .bool false]))); goOn (tl P09 cf "put" [] 1 39) r) | false => (do let r ← pure (.next [some v_state, some v_number, some v_work, none, none]); goOn (tl P09 cf "put" [] 1 39) r)) := by kernel_rfl
theorem c_put_t_1 (cf : Str → List AV → M AV) (v_state v_number v_work : AV) (o_word o_ahead : Option AV) : tl P09 cf "put" [] 1 39 [some v_state, some v_number, some v_work, o_word, o_ahead] = (do let word2 ← (do let x1 ← (pItem v_work (.str "deed")); pItem x1 (.int 0)); (do let ahead3 ← (pItem v_state (.str "head")); (do let v5 ← (do let x4 ← (pItem v_state (.str "mark")); pBin false .Add x4 (.int 1)); pStore v_state (.str "mark") v5; (do let c6 ← (pCmp .Eq word2 (.str "clear")); match c6 with | true => (do let r ← (do pStore v_state (.str "head") (.none); (do let _ ← (cf "come_to_point" [v_state, v_number, v_work]); (do pStore v_work (.str "walk") ahead3; (do pStore v_work (.str "next") (.str "walk"); pure (.next [some v_state, some v_number, some v_work, some word2, some ahead3]))))); goOn (tl P09 cf "put" [] 5 35) r) | false => (do let r ← (do let c7 ← (pCmp .Eq word2 (.str "push")); match c7 with | true => (do let r ← (do let v8 ← (pItem v_work (.str "own")); pStore v_state (.str "head") v8; (do let _ ← (cf "end" [v_state, v_number, v_work, .none]); pure (.next [some v_state, some v_number, some v_work, some word2, some ahead3]))); goOn (fun σ => pure (.next σ)) r) | false => (do let r ← (do let v9 ← (pItem v_work (.str "own")); pStore v_state (.str "head") v9; (do let c10 ← (pCmp .Eq word2 (.str "pop")); match c10 with | true => (do let r ← (do let v12 ← (do let x11 ← (pItem v_work (.str "inside")); pItem x11 (.int 1)); pStore v_state (.str "head") v12; pure (.next [some v_state, some v_number, some v_work, some word2, some ahead3])); goOn (tl P09 cf "put" [(4, 1), (0, 1)] 2 32) r) | false => (do let r ← pure (.next [some v_state, some v_number, some v_work, some word2, some ahead3]); goOn (tl P09 cf "put" [(4, 1), (0, 1)] 2 32) r))); goOn (fun σ => pure (.next σ)) r)); goOn (tl P09 cf "put" [] 5 35) r))))) := by kernel_rfl
theorem c_put_t41_01_2 (cf : Str → List AV → M AV) (v_state v_number v_work v_ahead : AV) (o_word : Option AV) : tl P09 cf "put" [(4, 1), (0, 1)] 2 32 [some v_state, some v_number, some v_work, o_word, some v_ahead] = (do let _ ← (do let o1 ← (pItem v_state (.str "spare")); let _ ← listOf o1; (pMeth "append" o1 [v_ahead])); (do let _ ← (do let vs3 ← eachM [pure v_state, pure v_number, pure v_work, (do let x2 ← (pItem v_work (.str "inside")); pItem x2 (.int 0))]; cf "end" vs3); pure (.next [some v_state, some v_number, some v_work, o_word, some v_ahead]))) := by kernel_rfl
theorem c_put_t_5 (cf : Str → List AV → M AV) (o_state o_number o_work o_word o_ahead : Option AV) : tl P09 cf "put" [] 5 35 [o_state, o_number, o_work, o_word, o_ahead] = pure (.ret (.tup [.str "put", .bool true])) := by kernel_rfl
theorem c_check_0 (cf : Str → List AV → M AV) (v_state v_number v_work : AV) : tl P09 cf "check" [] 0 40 [some v_state, some v_number, some v_work, none] = (do let told2 ← (do let vs1 ← eachM [pure (.str "look"), (pItem v_state (.str "head")), (pItem v_state (.str "mark"))]; pure (.tup vs1)); (do let c3 ← (do let v6 ← (cf "is_still" [v_state, v_work]); truth v6); match c3 with | true => (do let r ← (do let _ ← (do let vs5 ← eachM [pure v_state, pure v_number, pure v_work, (do let x4 ← (pItem v_work (.str "inside")); pItem x4 (.int 0))]; cf "end" vs5); pure (.next [some v_state, some v_number, some v_work, some told2])); goOn (tl P09 cf "check" [] 2 38) r) | false => (do let r ← (do pStore v_work (.str "next") (.str "look"); pure (.next [some v_state, some v_number, some v_work, some told2])); goOn (tl P09 cf "check" [] 2 38) r))) := by kernel_rfl
theorem c_check_t_2 (cf : Str → List AV → M AV) (v_told : AV) (o_state o_number o_work : Option AV) : tl P09 cf "check" [] 2 38 [o_state, o_number, o_work, some v_told] = pure (.ret v_told) := by kernel_rfl
theorem c_walk_0 (cf : Str → List AV → M AV) (v_state v_number v_work : AV) : tl P09 cf "walk" [] 0 40 [some v_state, some v_number, some v_work, none, none, none] = (do let box1 ← (pItem v_work (.str "walk")); (do let v4 ← (do let x2 ← (pItem v_state (.str "boxes")); pItem x2 box1); let pr3 ← pairOf v4; (do let _ ← (do let o5 ← (pItem v_work (.str "kept")); let _ ← listOf o5; (pMeth "append" o5 [pr3.1])); (do let _ ← (do let o6 ← (pItem v_state (.str "spare")); let _ ← listOf o6; (pMeth "append" o6 [box1])); (do pStore v_work (.str "walk") pr3.2; (do let c7 ← (pCmp .Is pr3.2 (.none)); match c7 with | true => (do let r ← (do let _ ← (do let vs9 ← eachM [pure v_state, pure v_number, pure v_work, (do let vs8 ← eachM [(pItem v_work (.str "kept"))]; pBI false .tuple vs8)]; cf "end" vs9); pure (.next [some v_state, some v_number, some v_work, some box1, some pr3.1, some pr3.2])); goOn (tl P09 cf "walk" [] 6 34) r) | false => (do let r ← pure (.next [some v_state, some v_number, some v_work, some box1, some pr3.1, some pr3.2]); goOn (tl P09 cf "walk" [] 6 34) r))))))) := by kernel_rfl
theorem c_walk_t_6 (cf : Str → List AV → M AV) (v_box v_value v_below : AV) (o_state o_number o_work : Option AV) : tl P09 cf "walk" [] 6 34 [o_state, o_number, o_work, some v_box, some v_value, some v_below] = pure (.ret (.tup [.str "see", v_box, v_value, v_below])) := by kernel_rfl
theorem c_work_of_0 (cf : Str → List AV → M AV) (v_state v_number : AV) : tl P09 cf "work_of" [] 0 40 [some v_state, some v_number, none, none] = (do let hand2 ← (do let x1 ← (pItem v_state (.str "hands")); pItem x1 v_number); (do let c3 ← (do let v10 ← (pItem hand2 (.str "work")); pCmp .Is v10 (.none)); match c3 with | true => (do let r ← (do let deed6 ← (do let x4 ← (pItem hand2 (.str "program")); let x5 ← (pItem hand2 (.str "place")); pItem x4 x5); (do let v9 ← (do let vs8 ← eachM [pure deed6, (pItem v_state (.str "time")), (do let x7 ← (pItem deed6 (.int 0)); pItem g_FIRST x7), pure (.none), pure (.none), pure (.none), pure (.none), (newL true []), pure (.none)]; newD (List.zip (["deed", "begun", "next", "own", "seen", "inside", "walk", "kept", "row"] : List Str) vs8)); pStore hand2 (.str "work") v9; pure (.next [some v_state, some v_number, some hand2, some deed6]))); goOn (tl P09 cf "work_of" [] 2 38) r) | false => (do let r ← pure (.next [some v_state, some v_number, some hand2, none]); goOn (tl P09 cf "work_of" [] 2 38) r))) := by kernel_rfl
theorem c_work_of_t_2 (cf : Str → List AV → M AV) (v_hand : AV) (o_state o_number o_deed : Option AV) : tl P09 cf "work_of" [] 2 38 [o_state, o_number, some v_hand, o_deed] = (do let y1 ← (pItem v_hand (.str "work")); pure (.ret y1)) := by kernel_rfl
theorem c_go_0 (cf : Str → List AV → M AV) (v_state v_number : AV) : tl P09 cf "go" [] 0 40 [some v_state, some v_number, none, none, none] = (do let hand2 ← (do let x1 ← (pItem v_state (.str "hands")); pItem x1 v_number); (do let c3 ← (do let t21 ← (do let v22 ← (pItem hand2 (.str "work")); pCmp .Is v22 (.none)); match t21 with | false => pure false | true => (do let t23 ← (do let v24 ← (pItem hand2 (.str "place")); (do let c26 ← (do let vs25 ← eachM [(pItem hand2 (.str "program"))]; pBI false .len vs25); pCmp .Eq v24 c26)); match t23 with | false => pure false | true => pure true)); match c3 with | true => (do let r ← pure (.next [some v_state, some v_number, some hand2, some (.tup [.str "rest"]), none]); goOn (tl P09 cf "go" [] 2 38) r) | false => (do let r ← (do let work4 ← (cf "work_of" [v_state, v_number]); (do let c5 ← (do let v20 ← (pItem work4 (.str "next")); pCmp .Eq v20 (.str "take")); match c5 with | true => (do let r ← (do let told6 ← (cf "take" [v_state, work4]); pure (.next [some v_state, some v_number, some hand2, some told6, some work4])); goOn (fun σ => pure (.next σ)) r) | false => (do let r ← (do let c7 ← (do let v19 ← (pItem work4 (.str "next")); pCmp .Eq v19 (.str "look")); match c7 with | true => (do let r ← (do let told8 ← (cf "look" [v_state, v_number, work4]); pure (.next [some v_state, some v_number, some hand2, some told8, some work4])); goOn (fun σ => pure (.next σ)) r) | false => (do let r ← (do let c9 ← (do let v18 ← (pItem work4 (.str "next")); pCmp .Eq v18 (.str "see")); match c9 with | true => (do let r ← (do let told10 ← (cf "see" [v_state, work4]); pure (.next [some v_state, some v_number, some hand2, some told10, some work4])); goOn (fun σ => pure (.next σ)) r) | false => (do let r ← (do let c11 ← (do let v17 ← (pItem work4 (.str "next")); pCmp .Eq v17 (.str "put")); match c11 with | true => (do let r ← (do let told12 ← (cf "put" [v_state, v_number, work4]); pure (.next [some v_state, some v_number, some hand2, some told12, some work4])); goOn (fun σ => pure (.next σ)) r) | false => (do let r ← (do let c13 ← (do let v16 ← (pItem work4 (.str "next")); pCmp .Eq v16 (.str "check")); match c13 with | true => (do let r ← (do let told14 ← (cf "check" [v_state, v_number, work4]); pure (.next [some v_state, some v_number, some hand2, some told14, some work4])); goOn (fun σ => pure (.next σ)) r) | false => (do let r ← (do let told15 ← (cf "walk" [v_state, v_number, work4]); pure (.next [some v_state, some v_number, some hand2, some told15, some work4])); goOn (fun σ => pure (.next σ)) r)); goOn (fun σ => pure (.next σ)) r)); goOn (fun σ => pure (.next σ)) r)); goOn (fun σ => pure (.next σ)) r)); goOn (fun σ => pure (.next σ)) r))); goOn (tl P09 cf "go" [] 2 38) r))) := by kernel_rfl
theorem c_go_t_2 (cf : Str → List AV → M AV) (v_state v_told : AV) (o_number o_hand o_work : Option AV) : tl P09 cf "go" [] 2 38 [some v_state, o_number, o_hand, some v_told, o_work] = (do let v2 ← (do let x1 ← (pItem v_state (.str "time")); pBin false .Add x1 (.int 1)); pStore v_state (.str "time") v2; pure (.ret v_told)) := by kernel_rfl
theorem c_woven_0 (cf : Str → List AV → M AV) (v_start v_programs v_weaving v_kind : AV) : tl P09 cf "woven" [] 0 40 [some v_start, some v_programs, some v_weaving, some v_kind, none, none, none] = (do let state1 ← (cf "tower_of" [v_start, v_programs, v_kind]); (do let c2 ← (do let v3 ← (pBI false .len [v_weaving]); pCmp .Gt v3 g_MOST_STEPS); match c2 with | true => (do let r ← stuck; goOn (tl P09 cf "woven" [] 2 38) r) | false => (do let r ← pure (.next [some v_start, some v_programs, some v_weaving, some v_kind, some state1, none, none]); goOn (tl P09 cf "woven" [] 2 38) r))) := by kernel_rfl
theorem c_woven_t_2 (cf : Str → List AV → M AV) (v_weaving : AV) (o_start o_programs o_kind o_state o_hand o_steps : Option AV) : tl P09 cf "woven" [] 2 38 [o_start, o_programs, some v_weaving, o_kind, o_state, o_hand, o_steps] = (do let it1 ← pure v_weaving; let src2 ← srcOf it1; let r ← forLoop src2 (forB P09 cf "woven" [] 2 37) FUEL 0 [o_start, o_programs, some v_weaving, o_kind, o_state, o_hand, o_steps]; goOn (tl P09 cf "woven" [] 3 37) r) := by kernel_rfl
theorem c_woven_t_3 (cf : Str → List AV → M AV) (v_weaving v_state : AV) (o_start o_programs o_kind o_hand o_steps : Option AV) : tl P09 cf "woven" [] 3 37 [o_start, o_programs, some v_weaving, o_kind, some v_state, o_hand, o_steps] = (do let steps6 ← (do let it3 ← pure v_weaving; let src4 ← srcOf it3; let ys5 ← compLoop src4 (fun u1 => (do let y2 ← (cf "go" [v_state, u1]); pure (some y2))) FUEL 0 []; newL false ys5); pure (.ret (.tup [v_state, steps6]))) := by kernel_rfl
theorem c_woven_for_2 (cf : Str → List AV → M AV) (v_state : AV) (o_start o_programs o_weaving o_kind o_hand o_steps : Option AV) (a : AV) : forB P09 cf "woven" [] 2 37 a [o_start, o_programs, o_weaving, o_kind, some v_state, o_hand, o_steps] = (do let _ ← (cf "need_hand" [v_state, a]); pure (.next [o_start, o_programs, o_weaving, o_kind, some v_state, some a, o_steps])) := by kernel_rfl
theorem c_mixed_0 (cf : Str → List AV → M AV) (v_cell v_k : AV) : tl P09 cf "_law_mixed" [] 0 40 [some v_cell, some v_k, none] = (do let left4 ← (do let x3 ← (do let x2 ← (do let x1 ← (pBin false .Mult (.int 7919) v_k); pBin false .Add v_cell x1); pBin false .Mult x2 (.int 48271)); pBin false .Mod x3 (.int 2147483647)); (do let y6 ← (do let x5 ← (pBin false .Mult left4 left4); pBin false .Mod x5 (.int 2147483629)); pure (.ret y6))) := by kernel_rfl
theorem c_cell_at_0 (cf : Str → List AV → M AV) (v_script v_k : AV) : tl P09 cf "_law_cell_at" [] 0 40 [some v_script, some v_k] = (do let c1 ← ((do let c4 ← (pBI false .len [v_script]); pCmp .Lt v_k c4)); match c1 with | true => (do let r ← (do let y3 ← (do let vs2 ← eachM [(pItem v_script v_k), pure v_k]; cf "_law_mixed" vs2); pure (.ret y3)); goOn (tl P09 cf "_law_cell_at" [] 1 39) r) | false => (do let r ← pure (.next [some v_script, some v_k]); goOn (tl P09 cf "_law_cell_at" [] 1 39) r)) := by kernel_rfl
theorem c_cell_at_t_1 (cf : Str → List AV → M AV) (o_script o_k : Option AV) : tl P09 cf "_law_cell_at" [] 1 39 [o_script, o_k] = pure (.ret (.int 0)) := by kernel_rfl
theorem c_cells_0 (cf : Str → List AV → M AV) (v_script v_at v_end : AV) : tl P09 cf "_law_cells" [] 0 40 [some v_script, some v_at, some v_end] = (do let y10 ← (do let it5 ← (do let vs9 ← eachM [pure v_at, (do let vs8 ← eachM [pure v_end, (pBI false .len [v_script])]; pBI false .min vs8)]; pBI false .range vs9); let src6 ← srcOf it5; let ys7 ← compLoop src6 (fun u1 => (do let y2 ← (do let vs3 ← eachM [(pItem v_script u1), pure u1]; cf "_law_mixed" vs3); pure (some y2))) FUEL 0 []; newL false ys7); pure (.ret y10)) := by kernel_rfl
theorem c_value_by_0 (cf : Str → List AV → M AV) (v_cell : AV) : tl P09 cf "_law_value_by" [] 0 40 [some v_cell] = (do let c1 ← (do let v8 ← (pBin false .Mod v_cell (.int 4)); pCmp .Eq v8 (.int 0)); match c1 with | true => (do let r ← (do let y7 ← (do let x5 ← (do let x4 ← (do let x3 ← (do let x2 ← (pBin false .FloorDiv v_cell (.int 4)); pBin false .Mult x2 (.int 7919)); pBin false .Mult x3 (.int 7919)); pBin false .Mult x4 (.int 7919)); let x6 ← (pBin false .Pow (.int 10) (.int 20)); pBin false .Sub x5 x6); pure (.ret y7)); goOn (tl P09 cf "_law_value_by" [] 1 39) r) | false => (do let r ← pure (.next [some v_cell]); goOn (tl P09 cf "_law_value_by" [] 1 39) r)) := by kernel_rfl
theorem c_value_by_t_1 (cf : Str → List AV → M AV) (v_cell : AV) : tl P09 cf "_law_value_by" [] 1 39 [some v_cell] = (do let y3 ← (do let x2 ← (do let x1 ← (pBin false .FloorDiv v_cell (.int 4)); pBin false .Mod x1 (.int 5)); pBin false .Sub x2 (.int 1)); pure (.ret y3)) := by kernel_rfl
theorem c_deed_by_0 (cf : Str → List AV → M AV) (v_cell : AV) : tl P09 cf "_law_deed_by" [] 0 40 [some v_cell, none] = (do let name3 ← (do let x1 ← (newL false [.str "push", .str "push", .str "push", .str "push", .str "pop", .str "pop", .str "pop", .str "top", .str "top", .str "swap", .str "swap", .str "clear"]); let x2 ← (pBin false .Mod v_cell (.int 12)); pItem x1 x2); (do let c4 ← ((do let c8 ← (newL false [.str "push", .str "swap"]); pCmp .In name3 c8)); match c4 with | true => (do let r ← (do let y7 ← (do let vs6 ← eachM [pure name3, (do let vs5 ← eachM [(pBin false .FloorDiv v_cell (.int 12))]; cf "_law_value_by" vs5)]; pure (.tup vs6)); pure (.ret y7)); goOn (tl P09 cf "_law_deed_by" [] 2 38) r) | false => (do let r ← pure (.next [some v_cell, some name3]); goOn (tl P09 cf "_law_deed_by" [] 2 38) r))) := by kernel_rfl
theorem c_deed_by_t_2 (cf : Str → List AV → M AV) (v_name : AV) (o_cell : Option AV) : tl P09 cf "_law_deed_by" [] 2 38 [o_cell, some v_name] = pure (.ret (.tup [v_name])) := by kernel_rfl
theorem c_start_by_0 (cf : Str → List AV → M AV) (v_cell : AV) : tl P09 cf "_law_start_by" [] 0 40 [some v_cell, none] = (do let size1 ← (pBin false .Mod v_cell (.int 4)); (do let c2 ← (do let v6 ← (do let x5 ← (pBin false .FloorDiv v_cell (.int 4)); pBin false .Mod x5 (.int 8)); pCmp .Eq v6 (.int 1)); match c2 with | true => (do let r ← (do let size4 ← (do let x3 ← (pBin false .FloorDiv v_cell (.int 32)); pBin false .Mod x3 (.int 61)); pure (.next [some v_cell, some size4])); goOn (tl P09 cf "_law_start_by" [] 2 38) r) | false => (do let r ← pure (.next [some v_cell, some size1]); goOn (tl P09 cf "_law_start_by" [] 2 38) r))) := by kernel_rfl
theorem c_start_by_t_2 (cf : Str → List AV → M AV) (v_cell v_size : AV) : tl P09 cf "_law_start_by" [] 2 38 [some v_cell, some v_size] = (do let y10 ← (do let it7 ← (pBI false .range [v_size]); let src8 ← srcOf it7; let ys9 ← compLoop src8 (fun u1 => (do let y2 ← (do let vs4 ← eachM [(do let vs3 ← eachM [(pBin false .FloorDiv v_cell (.int 8)), pure u1]; cf "_law_mixed" vs3)]; cf "_law_value_by" vs4); pure (some y2))) FUEL 0 []; newL false ys9); pure (.ret y10)) := by kernel_rfl
theorem c_hands_by_0 (cf : Str → List AV → M AV) (v_cell : AV) : tl P09 cf "_law_hands_by" [] 0 40 [some v_cell] = (do let c1 ← (do let v6 ← (do let x5 ← (pBin false .FloorDiv v_cell (.int 4)); pBin false .Mod x5 (.int 8)); pCmp .Eq v6 (.int 1)); match c1 with | true => (do let r ← (do let y4 ← (do let x3 ← (do let x2 ← (pBin false .FloorDiv v_cell (.int 32)); pBin false .Mod x2 (.int 16)); pBin false .Add (.int 5) x3); pure (.ret y4)); goOn (tl P09 cf "_law_hands_by" [] 1 39) r) | false => (do let r ← pure (.next [some v_cell]); goOn (tl P09 cf "_law_hands_by" [] 1 39) r)) := by kernel_rfl
theorem c_hands_by_t_1 (cf : Str → List AV → M AV) (v_cell : AV) : tl P09 cf "_law_hands_by" [] 1 39 [some v_cell] = (do let y2 ← (do let x1 ← (pBin false .Mod v_cell (.int 4)); pBin false .Add (.int 1) x1); pure (.ret y2)) := by kernel_rfl
theorem c_programs_by_0 (cf : Str → List AV → M AV) (v_script v_hands : AV) : tl P09 cf "_law_programs_by" [] 0 40 [some v_script, some v_hands, none, none] = (do let programs6 ← (do let it3 ← (pBI false .range [v_hands]); let src4 ← srcOf it3; let ys5 ← compLoop src4 (fun u1 => (do let y2 ← (newL true []); pure (some y2))) FUEL 0 []; newL true ys5); (do let it7 ← (cf "_law_cells" [v_script, .int 3, .int 27]); let src8 ← srcOf it7; let r ← forLoop src8 (forB P09 cf "_law_programs_by" [] 1 38) FUEL 0 [some v_script, some v_hands, some programs6, none]; goOn (tl P09 cf "_law_programs_by" [] 2 38) r)) := by kernel_rfl
theorem c_programs_by_t_2 (cf : Str → List AV → M AV) (v_programs : AV) (o_script o_hands o_cell : Option AV) : tl P09 cf "_law_programs_by" [] 2 38 [o_script, o_hands, some v_programs, o_cell] = pure (.ret v_programs) := by kernel_rfl
theorem c_programs_by_for_1 (cf : Str → List AV → M AV) (v_hands v_programs : AV) (o_script o_cell : Option AV) (a : AV) : forB P09 cf "_law_programs_by" [] 1 38 a [o_script, some v_hands, some v_programs, o_cell] = (do let _ ← (do let o1 ← (do let x4 ← (pBin false .Mod a v_hands); pItem v_programs x4); let _ ← listOf o1; (do let vs3 ← eachM [(do let vs2 ← eachM [(pBin false .FloorDiv a (.int 4))]; cf "_law_deed_by" vs2)]; pMeth "append" o1 vs3)); pure (.next [o_script, some v_hands, some v_programs, some a])) := by kernel_rfl
theorem c_weaving_by_0 (cf : Str → List AV → M AV) (v_script v_hands : AV) : tl P09 cf "_law_weaving_by" [] 0 40 [some v_script, some v_hands, none, none, none, none] = (do let weaving1 ← (newL true []); (do let it2 ← (cf "_law_cells" [v_script, .int 27, .int 63]); let src3 ← srcOf it2; let r ← forLoop src3 (forB P09 cf "_law_weaving_by" [] 1 38) FUEL 0 [some v_script, some v_hands, some weaving1, none, none, none]; goOn (tl P09 cf "_law_weaving_by" [] 2 38) r)) := by kernel_rfl
theorem c_weaving_by_t_2 (cf : Str → List AV → M AV) (v_weaving : AV) (o_script o_hands o_cell o_rest o_k : Option AV) : tl P09 cf "_law_weaving_by" [] 2 38 [o_script, o_hands, some v_weaving, o_cell, o_rest, o_k] = pure (.ret v_weaving) := by kernel_rfl
theorem c_weaving_by_for_1 (cf : Str → List AV → M AV) (v_hands v_weaving : AV) (o_script o_cell o_rest o_k : Option AV) (a : AV) : forB P09 cf "_law_weaving_by" [] 1 38 a [o_script, some v_hands, some v_weaving, o_cell, o_rest, o_k] = (do let rest1 ← (pBin false .FloorDiv a (.int 36)); (do let c2 ← (do let v13 ← (pBin false .Mod a (.int 4)); pCmp .Gt v13 (.int 0)); match c2 with | true => (do let r ← (do let weaving10 ← (do let x9 ← (do let x7 ← (do let vs3 ← eachM [(pBin false .Mod rest1 v_hands)]; newL false vs3); let x8 ← (do let x5 ← (newL false [.int 1, .int 2, .int 2, .int 3, .int 3, .int 4, .int 6, .int 6, .int 7]); let x6 ← (do let x4 ← (pBin false .FloorDiv a (.int 4)); pBin false .Mod x4 (.int 9)); pItem x5 x6); pBin false .Mult x7 x8); pBin true .Add v_weaving x9); pure (.next [o_script, some v_hands, some weaving10, some a, some rest1, o_k])); goOn (fun σ => pure (.next σ)) r) | false => (do let r ← (do let it11 ← (pBI false .range [.int 7]); let src12 ← srcOf it11; let r ← forLoop src12 (forB P09 cf "_law_weaving_by" [(1, 0), (1, 1)] 0 35) FUEL 0 [o_script, some v_hands, some v_weaving, some a, some rest1, o_k]; goOn (fun σ => pure (.next σ)) r); goOn (fun σ => pure (.next σ)) r))) := by kernel_rfl
theorem c_weaving_by_for10_11_0 (cf : Str → List AV → M AV) (v_hands v_weaving v_rest : AV) (o_script o_cell o_k : Option AV) (a : AV) : forB P09 cf "_law_weaving_by" [(1, 0), (1, 1)] 0 35 a [o_script, some v_hands, some v_weaving, o_cell, some v_rest, o_k] = (do let _ ← (do let o1 ← pure v_weaving; let _ ← listOf o1; (do let vs2 ← eachM [(pBin false .Mod v_rest v_hands)]; pMeth "append" o1 vs2)); (do let rest3 ← (pBin false .FloorDiv v_rest v_hands); pure (.next [o_script, some v_hands, some v_weaving, o_cell, some rest3, some a]))) := by kernel_rfl
theorem c_law_0 (cf : Str → List AV → M AV) (v_script : AV) : tl P09 cf "law" [] 0 40 [some v_script, none, none, none, none, none, none, none, none] = (do let hands2 ← (do let vs1 ← eachM [(cf "_law_cell_at" [v_script, .int 2])]; cf "_law_hands_by" vs1); (do let start4 ← (do let vs3 ← eachM [(cf "_law_cell_at" [v_script, .int 0])]; cf "_law_start_by" vs3); (do let weaving5 ← (cf "_law_weaving_by" [v_script, hands2]); (do let found7 ← (do let vs6 ← eachM [pure start4, (cf "_law_programs_by" [v_script, hands2]), pure weaving5, pure (.str "marks")]; cf "woven" vs6); (do let seen9 ← (do let x8 ← (newL false [.int 0]); pBin true .Mult x8 hands2); (do let c10 ← (do let v12 ← (do let vs11 ← eachM [(pItem found7 (.int 1))]; pBI false .len vs11); (do let c13 ← (pBI false .len [weaving5]); pCmp .NotEq v12 c13)); match c10 with | true => (do let r ← pure (.ret (.bool false)); goOn (tl P09 cf "law" [] 7 33) r) | false => (do let r ← pure (.next [some v_script, some hands2, some start4, some weaving5, some found7, some (.int 0), some seen9, none, none]); goOn (tl P09 cf "law" [] 7 33) r))))))) := by kernel_rfl
theorem c_law_t_7 (cf : Str → List AV → M AV) (v_weaving : AV) (o_script o_hands o_start o_found o_went o_seen o_k o_step : Option AV) : tl P09 cf "law" [] 7 33 [o_script, o_hands, o_start, some v_weaving, o_found, o_went, o_seen, o_k, o_step] = (do let it1 ← (do let vs3 ← eachM [(pBI false .len [v_weaving])]; pBI false .range vs3); let src2 ← srcOf it1; let r ← forLoop src2 (forB P09 cf "law" [] 7 32) FUEL 0 [o_script, o_hands, o_start, some v_weaving, o_found, o_went, o_seen, o_k, o_step]; goOn (tl P09 cf "law" [] 8 32) r) := by kernel_rfl
theorem c_law_t_8 (cf : Str → List AV → M AV) (v_found v_went : AV) (o_script o_hands o_start o_weaving o_seen o_k o_step : Option AV) : tl P09 cf "law" [] 8 32 [o_script, o_hands, o_start, o_weaving, some v_found, some v_went, o_seen, o_k, o_step] = (do let y5 ← (do let v4 ← (do let x2 ← (do let vs1 ← eachM [(pItem v_found (.int 0))]; cf "head_of" vs1); pItem x2 (.int 1)); let b3 ← pCmp .Eq v4 v_went; pure (.bool b3)); pure (.ret y5)) := by kernel_rfl
theorem c_law_for_7 (cf : Str → List AV → M AV) (v_found v_went : AV) (o_script o_hands o_start o_weaving o_seen o_k o_step : Option AV) (a : AV) : forB P09 cf "law" [] 7 32 a [o_script, o_hands, o_start, o_weaving, some v_found, some v_went, o_seen, o_k, o_step] = (do let step2 ← (do let x1 ← (pItem v_found (.int 1)); pItem x1 a); (do let c3 ← (do let v6 ← (pItem step2 (.int 0)); pCmp .Eq v6 (.str "look")); match c3 with | true => (do let r ← (do let c4 ← (do let v5 ← (pItem step2 (.int 2)); pCmp .NotEq v5 v_went); match c4 with | true => (do let r ← pure (.ret (.bool false)); goOn (tl P09 cf "law" [(7, 0), (1, 0)] 1 29) r) | false => (do let r ← pure (.next [o_script, o_hands, o_start, o_weaving, some v_found, some v_went, o_seen, some a, some step2]); goOn (tl P09 cf "law" [(7, 0), (1, 0)] 1 29) r)); goOn (tl P09 cf "law" [(7, 0)] 2 30) r) | false => (do let r ← pure (.next [o_script, o_hands, o_start, o_weaving, some v_found, some v_went, o_seen, some a, some step2]); goOn (tl P09 cf "law" [(7, 0)] 2 30) r))) := by kernel_rfl
theorem c_law_t70_10_1 (cf : Str → List AV → M AV) (v_weaving v_went v_seen v_k : AV) (o_script o_hands o_start o_found o_step : Option AV) : tl P09 cf "law" [(7, 0), (1, 0)] 1 29 [o_script, o_hands, o_start, some v_weaving, o_found, some v_went, some v_seen, some v_k, o_step] = (do let o1 ← (pItem v_weaving v_k); pStore v_seen o1 v_went; pure (.next [o_script, o_hands, o_start, some v_weaving, o_found, some v_went, some v_seen, some v_k, o_step])) := by kernel_rfl
theorem c_law_t70_2 (cf : Str → List AV → M AV) (v_weaving v_went v_seen v_k v_step : AV) (o_script o_hands o_start o_found : Option AV) : tl P09 cf "law" [(7, 0)] 2 30 [o_script, o_hands, o_start, some v_weaving, o_found, some v_went, some v_seen, some v_k, some v_step] = (do let c1 ← (do let v14 ← (pItem v_step (.int 0)); pCmp .Eq v14 (.str "put")); match c1 with | true => (do let r ← (do let c2 ← (do let t3 ← (do let b4 ← (do let v7 ← (do let v5 ← (pItem v_step (.int 1)); let b6 ← pIsi v5 .bool; pure (.bool b6)); truth v7); pure (!b4)); match t3 with | true => pure true | false => (do let t8 ← (do let v9 ← (pItem v_step (.int 1)); (do let c13 ← (do let v12 ← (do let x10 ← (pItem v_weaving v_k); pItem v_seen x10); let b11 ← pCmp .Eq v12 v_went; pure (.bool b11)); pCmp .NotEq v9 c13)); match t8 with | true => pure true | false => pure false)); match c2 with | true => (do let r ← pure (.ret (.bool false)); goOn (tl P09 cf "law" [(7, 0), (2, 0)] 1 28) r) | false => (do let r ← pure (.next [o_script, o_hands, o_start, some v_weaving, o_found, some v_went, some v_seen, some v_k, some v_step]); goOn (tl P09 cf "law" [(7, 0), (2, 0)] 1 28) r)); goOn (fun σ => pure (.next σ)) r) | false => (do let r ← pure (.next [o_script, o_hands, o_start, some v_weaving, o_found, some v_went, some v_seen, some v_k, some v_step]); goOn (fun σ => pure (.next σ)) r)) := by kernel_rfl
theorem c_law_t70_20_1 (cf : Str → List AV → M AV) (v_went v_step : AV) (o_script o_hands o_start o_weaving o_found o_seen o_k : Option AV) : tl P09 cf "law" [(7, 0), (2, 0)] 1 28 [o_script, o_hands, o_start, o_weaving, o_found, some v_went, o_seen, o_k, some v_step] = (do let went3 ← (do let x2 ← (do let vs1 ← eachM [(pItem v_step (.int 1))]; pBI false .int vs1); pBin false .Add v_went x2); pure (.next [o_script, o_hands, o_start, o_weaving, o_found, some went3, o_seen, o_k, some v_step])) := by kernel_rfl
end Mine


set_option autoImplicit false
set_option linter.unusedVariables false
set_option maxRecDepth 100000
namespace Mine
open PySem PyProof.Rows
section
variable {H₀ H : AHeap} {c : Cn}

theorem s_head_of (n : Nat) (F : Foc H₀ H c) : callP P09 (n + 1) "head_of" [.loc c.st] H = some (.tup [c.head, .int c.mark], H) := by
  refine callR (σ := [some (.loc c.st)]) (by kernel_rfl) (by kernel_rfl) (by kernel_rfl) ?_
  rw [c_head_of_0]
  refine Rn.val (.bind (.bind ?_))
  exact .eachE F.gHead (.eachE F.gMark (.each0 (.pure (.pure ⟨rfl, rfl⟩))))

/-- no box, or a box's number -/
noncomputable def Ix (a : AV) : Prop := a = .none ∨ ∃ i : Nat, a = .int i
noncomputable def eqIx : AV → AV → Bool
  | .none, .none => true
  | .int i, .int j => decide (i = j)
  | _, _ => false
theorem eqIx_iff {a b : AV} (ha : Ix a) (hb : Ix b) : eqIx a b = true ↔ a = b := by
  obtain rfl | ⟨i, rfl⟩ := ha <;> obtain rfl | ⟨j, rfl⟩ := hb <;> simp [eqIx]
theorem ne_ix {a b : AV} (ha : Ix a) (hb : Ix b) : pCmp .NotEq a b = pure (!eqIx a b) := by
  obtain rfl | ⟨i, rfl⟩ := ha <;> obtain rfl | ⟨j, rfl⟩ := hb
  · rfl
  · rfl
  · rfl
  · show (do let r ← pCmp .Eq (.int i) (.int j); pure (!r)) = _
    rw [e_eqi]; rfl
noncomputable def Kd (k : Str) : Prop := k = "marks" ∨ k = "bare" ∨ k = "new"
theorem kd_marks {k : Str} (h : Kd k) : pCmp .NotEq (.str k) (.str "marks") = pure (decide (k ≠ "marks")) := by
  obtain rfl | rfl | rfl := h <;> kernel_rfl
theorem kd_new {k : Str} (h : Kd k) : pCmp .Eq (.str k) (.str "new") = pure (decide (k = "new")) := by
  obtain rfl | rfl | rfl := h <;> kernel_rfl
noncomputable def stillB (c : Cn) (x : AV) (m : Int) : Bool := eqIx c.head x && (decide (c.kind ≠ "marks") || decide (c.mark = m))

theorem s_is_still (n : Nat) (F : Foc H₀ H c) {x : AV} {m : Int} (hk : Kd c.kind) (hh : Ix c.head) (hx : Ix x) (hs : c.seen = .tup [x, .int m]) :
    callP P09 (n + 1) "is_still" [.loc c.st, .loc c.w] H = some (.bool (stillB c x m), H) := by
  refine callR (σ := [some (.loc c.st), some (.loc c.w)]) (by kernel_rfl) (by kernel_rfl) (by kernel_rfl) ?_
  have g := F.gSeen
  rw [hs] at g
  rw [c_is_still_0]
  refine Rn.val (.bind (.bof F.gHead (.bind (.bof g ?_))))
  rw [e_itT (k := 0) (a := x) rfl]
  refine .pure ?_
  rw [ne_ix hh hx]
  refine .pure ?_
  unfold stillB
  cases eqIx c.head x with
  | false => exact .pure ⟨rfl, rfl⟩
  | true =>
    show Rn (tl P09 _ "is_still" [] 1 39 _) H _
    rw [c_is_still_t_1]
    refine .bind (.bind (.bof F.gKind ?_))
    rw [kd_marks hk]
    refine .pure ?_
    rw [e_truth, pure_bind]
    cases decide (c.kind ≠ "marks") with
    | true => exact .pure (.pure ⟨rfl, rfl⟩)
    | false =>
      refine .bof F.gMark (.bind (.bind (.bof g ?_)))
      rw [e_itT (k := 1) (a := .int m) rfl]
      refine .pure ?_
      rw [e_eqi]
      exact .pure (.pure (.pure ⟨rfl, rfl⟩))

theorem s_put_below (n : Nat) (F : Foc H₀ H c) {i : Nat} {v u bel : AV} (hi : c.boxes[i]? = some (.tup [v, u])) :
    Rn (callP P09 (n + 1) "put_below" [.loc c.st, .int i, bel]) H fun a H' => Foc H₀ H' (c.u_boxes (c.boxes.set i (.tup [v, bel]))) := by
  refine callRn (σ := [some (.loc c.st), some (.int i), some bel]) (by kernel_rfl) (by kernel_rfl) (by kernel_rfl) ?_
  rw [c_put_below_0]
  refine .bind (.bind (.eachC (.bind (.bof F.gBoxes (.of (item_loc F.b hi) ?_)))))
  rw [e_itT (k := 0) (a := v) rfl]
  refine .pure (.eachP (.each0 (.pure (.bof F.gBoxes ?_))))
  exact .then (F.wBox (List.getElem?_eq_some_iff.mp hi).1 _) fun _ H1 F1 => .pure F1

noncomputable def row0 (c : Cn) (num : Nat) : AV := .tup [.int num, .int c.place, c.deed, .int c.begun, .int c.time, .none, .none]
theorem s_point (n : Nat) (F : Foc H₀ H c) {num : Nat} (hn : c.hs[num]? = some (.loc c.hd)) (hl : c.rows.length < 100000) :
    Rn (callP P09 (n + 1) "come_to_point" [.loc c.st, .int num, .loc c.w]) H fun a H' => Foc H₀ H' ((c.u_row (.int c.rows.length)).u_rows (c.rows ++ [row0 c num])) := by
  refine callRn (σ := [some (.loc c.st), some (.int num), some (.loc c.w), none]) (by kernel_rfl) (by kernel_rfl) (by kernel_rfl) ?_
  rw [c_come_to_point_0]
  refine .bind (.bof F.gHands (.of (item_loc F.h hn) ?_))
  refine .bind (.bind (.eachE F.gRows (.each0 (.of (len_loc F.r) ?_))))
  refine .then (F.wRow _) fun _ H1 F1 => ?_
  refine .bind (.bof F1.gRows (.bof (listOf_loc F1.r) ?_))
  refine .bind (.eachC (.bind (.eachP (.eachE F1.gPlace (.eachE F1.gDeed (.eachE F1.gBegun (.eachE F1.gTime (.eachP (.eachP (.each0 (.pure (.each0 ?_))))))))))))
  exact Rn.mono (F1.aRows hl (row0 c num)) fun _ H2 F2 => .pure F2

/-- a deed ends -/
theorem s_end_t (n : Nat) (F : Foc H₀ H c) {num k : Nat} {ans a1 a2 a3 a4 a5 a6 a7 : AV} {o : Option AV} (hn : c.hs[num]? = some (.loc c.hd)) (hr : c.row = .int k) (hk : c.rows[k]? = some (.tup [a1, a2, a3, a4, a5, a6, a7])) :
    Rn (tl P09 (callP P09 n) "end" [] 1 39 [some (.loc c.st), some (.int num), some (.loc c.w), some ans, o]) H fun r H' => (∃ σ, r = .next σ) ∧ Foc H₀ H' (((c.u_rows (c.rows.set k (.tup [a1, a2, a3, a4, a5, .int c.time, ans]))).u_place (c.place + 1)).u_wv .none) := by
  have g := F.gRow
  rw [hr] at g
  have L := LIMis
  rw [c_end_t_1]
  refine .bind (.bof F.gRows (.bof g (.of (item_loc F.r hk) ?_)))
  refine .bind (.bind ?_)
  simp only [pure_bind]
  rw [show pSlice false (.tup [a1, a2, a3, a4, a5, a6, a7]) none (some 5) = pure (.tup [a1, a2, a3, a4, a5]) from rfl]
  refine .pure (.bind (.bind (.eachE F.gTime (.eachP (.each0 (.pure ?_))))))
  rw [m_tup (by show 7 ≤ LIM; omega)]
  refine .pure (.bof F.gRows (.bof g ?_))
  refine .then (F.wRows (List.getElem?_eq_some_iff.mp hk).1 _) fun _ H1 F1 => ?_
  refine .bind (.bind (.bind (.bof F1.gHands (.of (item_loc F1.h hn) (.of F1.gPlace ?_)))))
  rw [m_add]
  refine .pure (.bind (.bof F1.gHands (.of (item_loc F1.h hn) ?_)))
  refine .then (F1.wPlace _) fun _ H2 F2 => ?_
  refine .bind (.bof F2.gHands (.of (item_loc F2.h hn) ?_))
  exact .then (F2.wWork _) fun _ H3 F3 => .pure ⟨⟨_, rfl⟩, F3⟩

theorem s_end_old (n : Nat) (F : Foc H₀ H c) {num k : Nat} {ans a1 a2 a3 a4 a5 a6 a7 : AV} (hn : c.hs[num]? = some (.loc c.hd)) (hr : c.row = .int k) (hk : c.rows[k]? = some (.tup [a1, a2, a3, a4, a5, a6, a7])) :
    Rn (callP P09 (n + 1) "end" [.loc c.st, .int num, .loc c.w, ans]) H fun a H' => Foc H₀ H' (((c.u_rows (c.rows.set k (.tup [a1, a2, a3, a4, a5, .int c.time, ans]))).u_place (c.place + 1)).u_wv .none) := by
  refine callRn (σ := [some (.loc c.st), some (.int num), some (.loc c.w), some ans, none]) (by kernel_rfl) (by kernel_rfl) (by kernel_rfl) ?_
  have g := F.gRow
  rw [hr] at g
  rw [c_end_0]
  refine .bind (.bof g ?_)
  rw [show pCmp .Is (.int (k : Int)) .none = pure false from rfl]
  refine .pure (.bind (.pure ?_))
  refine Rn.mono (s_end_t n F hn hr hk) ?_
  rintro r H' ⟨⟨σ, rfl⟩, F'⟩
  exact F'
theorem s_end_new (n : Nat) (F : Foc H₀ H c) {num : Nat} {ans : AV} (hn : c.hs[num]? = some (.loc c.hd)) (hr : c.row = .none) (hl : c.rows.length < 100000) :
    Rn (callP P09 (n + 2) "end" [.loc c.st, .int num, .loc c.w, ans]) H fun a H' => Foc H₀ H' ((((c.u_row (.int c.rows.length)).u_rows (c.rows ++ [.tup [.int num, .int c.place, c.deed, .int c.begun, .int c.time, .int c.time, ans]])).u_place (c.place + 1)).u_wv .none) := by
  refine callRn (σ := [some (.loc c.st), some (.int num), some (.loc c.w), some ans, none]) (by kernel_rfl) (by kernel_rfl) (by kernel_rfl) ?_
  have g := F.gRow
  rw [hr] at g
  rw [c_end_0]
  refine .bind (.bof g ?_)
  rw [show pCmp .Is AV.none .none = pure true from rfl]
  refine .pure (.bind (.then (s_point n F hn hl) fun _ H1 F1 => .pure ?_))
  refine Rn.mono (s_end_t (n + 1) F1 (k := c.rows.length) (a1 := .int num) (a2 := .int c.place) (a3 := c.deed) (a4 := .int c.begun) (a5 := .int c.time) (a6 := .none) (a7 := .none) hn rfl (by show (c.rows ++ [row0 c num])[c.rows.length]? = _; simp [row0])) ?_
  rintro r H' ⟨⟨σ, rfl⟩, F'⟩
  have e : (c.rows ++ [row0 c num]).set c.rows.length (.tup [.int num, .int c.place, c.deed, .int c.begun, .int c.time, .int c.time, ans]) = c.rows ++ [.tup [.int num, .int c.place, c.deed, .int c.begun, .int c.time, .int c.time, ans]] := by simp
  have F2 : Foc H₀ H' ((((c.u_row (.int c.rows.length)).u_rows ((c.rows ++ [row0 c num]).set c.rows.length (.tup [.int num, .int c.place, c.deed, .int c.begun, .int c.time, .int c.time, ans]))).u_place (c.place + 1)).u_wv .none) := F'
  rw [e] at F2
  exact F2
end
end Mine


set_option autoImplicit false
set_option linter.unusedVariables false
set_option maxRecDepth 100000
namespace Mine
open PySem PyProof.Rows
section
variable {H₀ H : AHeap} {c : Cn}

theorem s_take_t (n : Nat) (F : Foc H₀ H c) {w : Str} {v : AV} {i : Nat} (hd : c.deed = .tup [.str w, v]) (hi : i < c.boxes.length) :
    Rn (tl P09 (callP P09 n) "take" [] 1 39 [some (.loc c.st), some (.loc c.w), some (.int i)]) H fun r H' => r = .ret (.tup [.str "take", .int i]) ∧ Foc H₀ H' (((c.u_boxes (c.boxes.set i (.tup [v, .none]))).u_own (.int i)).u_next "look") := by
  have g := F.gDeed
  rw [hd] at g
  rw [c_take_t_1]
  refine .bind (.bind (.eachC (.bof g ?_)))
  rw [e_itT (k := 1) (a := v) rfl]
  refine .pure (.eachP (.each0 (.pure (.bof F.gBoxes ?_))))
  refine .then (F.wBox hi _) fun _ H1 F1 => ?_
  refine .then (F1.wOwn _) fun _ H2 F2 => ?_
  exact .then (F2.wNext _) fun _ H3 F3 => .pure ⟨rfl, F3⟩

noncomputable def SpOk (c : Cn) : Prop := ∀ x ∈ c.spare, ∃ i : Nat, x = .int i ∧ i < c.boxes.length
theorem SpOk.rd (h : SpOk c) (H : AHeap) : ∀ x ∈ c.spare, ∃ d, rd H 7 x = some d := fun x hx => by
  obtain ⟨i, rfl, _⟩ := h x hx
  exact ⟨_, rd_int⟩

theorem s_take_new (n : Nat) (F : Foc H₀ H c) {w : Str} {v : AV} (hk : Kd c.kind) (hs : SpOk c) (hd : c.deed = .tup [.str w, v]) (hl : c.boxes.length < 100000) (hn : c.kind = "new" ∨ c.spare = []) :
    Rn (callP P09 (n + 1) "take" [.loc c.st, .loc c.w]) H fun a H' => a = .tup [.str "take", .int c.boxes.length] ∧ Foc H₀ H' (((c.u_boxes (c.boxes ++ [.tup [v, .none]])).u_own (.int c.boxes.length)).u_next "look") := by
  refine callRn (σ := [some (.loc c.st), some (.loc c.w), none]) (by kernel_rfl) (by kernel_rfl) (by kernel_rfl) ?_
  have tail : Rn (do let r ← (do let box3 ← (do let vs2 ← eachM [(pItem (.loc c.st) (.str "boxes"))]; pBI false .len vs2); (do let _ ← (do let o4 ← (pItem (.loc c.st) (.str "boxes")); let _ ← listOf o4; (pMeth "append" o4 [.none])); pure (.next [some (.loc c.st), some (.loc c.w), some box3]))); goOn (tl P09 (callP P09 n) "take" [] 1 39) r) H
      (Fl (fun _ H' => AV.none = .tup [.str "take", .int c.boxes.length] ∧ Foc H₀ H' (((c.u_boxes (c.boxes ++ [.tup [v, .none]])).u_own (.int c.boxes.length)).u_next "look")) fun a H' => a = .tup [.str "take", .int c.boxes.length] ∧ Foc H₀ H' (((c.u_boxes (c.boxes ++ [.tup [v, .none]])).u_own (.int c.boxes.length)).u_next "look")) := by
    refine .bind (.bind (.bind (.eachE F.gBoxes (.each0 (.of (len_loc F.b) ?_)))))
    refine .bind (.bof F.gBoxes (.bof (listOf_loc F.b) ?_))
    refine Rn.mono (F.aBox hl .none) fun _ H1 F1 => .pure ?_
    refine Rn.mono (s_take_t n F1 (w := w) (v := v) (i := c.boxes.length) hd (by show _ < (c.boxes ++ [AV.none]).length; simp)) ?_
    rintro r H' ⟨rfl, F'⟩
    refine ⟨rfl, ?_⟩
    have e : (c.boxes ++ [AV.none]).set c.boxes.length (.tup [v, .none]) = c.boxes ++ [.tup [v, .none]] := by simp
    have F2 : Foc H₀ H' (((c.u_boxes ((c.boxes ++ [AV.none]).set c.boxes.length (.tup [v, .none]))).u_own (.int c.boxes.length)).u_next "look") := F'
    rw [e] at F2
    exact F2
  rw [c_take_0]
  refine .bind (.bind (.bof F.gKind ?_))
  rw [kd_new hk]
  refine .pure ?_
  by_cases hnew : c.kind = "new"
  · rw [decide_eq_true hnew]
    exact .pure tail
  · rw [decide_eq_false hnew]
    have hsp : c.spare = [] := hn.resolve_left hnew
    refine .bind (.bof F.gSpare ?_)
    rw [e_newL (by simp), pure_bind]
    refine .of (eq_nil_loc F.sp (hs.rd H)) ?_
    rw [hsp]
    exact .pure tail

theorem s_take_pop (n : Nat) (F : Foc H₀ H c) {w : Str} {v : AV} {i : Nat} {xs : List AV} (hk : Kd c.kind) (hs : SpOk c) (hd : c.deed = .tup [.str w, v]) (hn : c.kind ≠ "new") (hx : c.spare = xs ++ [.int i]) :
    Rn (callP P09 (n + 1) "take" [.loc c.st, .loc c.w]) H fun a H' => a = .tup [.str "take", .int i] ∧ Foc H₀ H' ((((c.u_spare xs).u_boxes (c.boxes.set i (.tup [v, .none]))).u_own (.int i)).u_next "look") := by
  refine callRn (σ := [some (.loc c.st), some (.loc c.w), none]) (by kernel_rfl) (by kernel_rfl) (by kernel_rfl) ?_
  rw [c_take_0]
  refine .bind (.bind (.bof F.gKind ?_))
  rw [kd_new hk]
  refine .pure ?_
  rw [decide_eq_false hn]
  refine .bind (.bof F.gSpare ?_)
  rw [e_newL (by simp), pure_bind]
  refine .of (eq_nil_loc F.sp (hs.rd H)) ?_
  rw [show c.spare.isEmpty = false from by rw [hx]; simp]
  refine .pure (.bind (.bind (.bof F.gSpare (.bof (listOf_loc F.sp) ?_))))
  refine Rn.mono (F.pSpare hx) ?_
  rintro a H1 ⟨rfl, F1⟩
  refine .pure ?_
  have hi : i < c.boxes.length := by
    obtain ⟨j, h1, h2⟩ := hs (.int i) (by rw [hx]; simp)
    cases h1
    exact h2
  refine Rn.mono (s_take_t n F1 (w := w) (v := v) (i := i) hd hi) ?_
  rintro r H' ⟨rfl, F'⟩
  exact ⟨rfl, F'⟩

noncomputable def Wd (w : Str) : Prop := w = "push" ∨ w = "swap" ∨ w = "pop" ∨ w = "top" ∨ w = "clear"
theorem Wd.ok {w : Str} (h : Wd w) : PyData.strOk w = true := by obtain rfl | rfl | rfl | rfl | rfl := h <;> kernel_rfl
noncomputable def blk (w : Str) : Str := if w = "push" ∨ w = "clear" then "put" else "see"
noncomputable def bse (w : Str) : Str := if w = "top" then "check" else "put"
noncomputable def fst (w : Str) : Str := if w = "push" ∨ w = "swap" then "take" else "look"
theorem g_look {w : Str} (h : Wd w) : pItem g_BEHIND_LOOK (.str w) = pure (.str (blk w)) := by obtain rfl | rfl | rfl | rfl | rfl := h <;> kernel_rfl
theorem g_first {w : Str} (h : Wd w) : pItem g_FIRST (.str w) = pure (.str (fst w)) := by obtain rfl | rfl | rfl | rfl | rfl := h <;> kernel_rfl
theorem g_see {w : Str} (h : w = "swap" ∨ w = "pop" ∨ w = "top") : pItem g_BEHIND_SEE (.str w) = pure (.str (bse w)) := by obtain rfl | rfl | rfl := h <;> kernel_rfl

noncomputable def tLook (c : Cn) : AV := .tup [.str "look", c.head, .int c.mark]
noncomputable def cLook (c : Cn) (w : Str) : Cn := (c.u_seen (.tup [c.head, .int c.mark])).u_next (blk w)

/-- look, up to its If -/
theorem s_look_go (n : Nat) (F : Foc H₀ H c) {num : Nat} {w : Str} {r : List AV} {Q : AV → AHeap → Prop} (hw : Wd w) (hd : c.deed = .tup (.str w :: r))
    (h : ∀ H', Foc H₀ H' (cLook c w) → Rn (match decide (w = "push") with
      | true => (do let r ← (do let _ ← (do let vs8 ← eachM [pure (.loc c.st), (pItem (.loc c.w) (.str "own")), (pItem (.loc c.st) (.str "head"))]; callP P09 (n + 1) "put_below" vs8); pure (.next [some (.loc c.st), some (.int num), some (.loc c.w), some (.str w), some (tLook c), none])); goOn (tl P09 (callP P09 (n + 1)) "look" [] 5 35) r)
      | false => (do let r ← (do let c9 ← (do let v13 ← (pItem (.loc c.st) (.str "head")); pCmp .Is v13 (.none)); match c9 with | true => (do let r ← (do let c10 ← (pCmp .Eq (.str w) (.str "swap")); match c10 with | true => (do let r ← (do let _ ← (do let o11 ← (pItem (.loc c.st) (.str "spare")); let _ ← listOf o11; (do let vs12 ← eachM [(pItem (.loc c.w) (.str "own"))]; pMeth "append" o11 vs12)); pure (.next [some (.loc c.st), some (.int num), some (.loc c.w), some (.str w), some (tLook c), none])); goOn (tl P09 (callP P09 (n + 1)) "look" [(4, 1), (0, 0)] 1 33) r) | false => (do let r ← pure (.next [some (.loc c.st), some (.int num), some (.loc c.w), some (.str w), some (tLook c), none]); goOn (tl P09 (callP P09 (n + 1)) "look" [(4, 1), (0, 0)] 1 33) r)); goOn (fun σ => pure (.next σ)) r) | false => (do let r ← pure (.next [some (.loc c.st), some (.int num), some (.loc c.w), some (.str w), some (tLook c), none]); goOn (fun σ => pure (.next σ)) r)); goOn (tl P09 (callP P09 (n + 1)) "look" [] 5 35) r)) H' (Fl (fun _ H' => Q .none H') Q)) :
    Rn (callP P09 (n + 2) "look" [.loc c.st, .int num, .loc c.w]) H Q := by
  refine callRn (σ := [some (.loc c.st), some (.int num), some (.loc c.w), none, none, none]) (by kernel_rfl) (by kernel_rfl) (by kernel_rfl) ?_
  have g := F.gDeed
  rw [hd] at g
  rw [c_look_0]
  refine .bind (.bof g ?_)
  rw [e_it0]
  refine .pure (.bof (s_head_of n F) ?_)
  refine .then (F.wSeen _) fun _ H1 F1 => ?_
  rw [g_look hw, pure_bind]
  refine .then (F1.wNext _) fun _ H2 F2 => ?_
  refine .bind (.bind (.eachP (.eachE F2.gHead (.eachE F2.gMark (.each0 (.pure ?_))))))
  rw [e_eqs hw.ok (by kernel_rfl), pure_bind]
  exact h H2 F2

theorem s_look_push (n : Nat) (F : Foc H₀ H c) {num o : Nat} {r : List AV} {v u : AV} (hd : c.deed = .tup (.str "push" :: r)) (ho : c.own = .int o) (hb : c.boxes[o]? = some (.tup [v, u])) :
    Rn (callP P09 (n + 2) "look" [.loc c.st, .int num, .loc c.w]) H fun a H' => a = tLook c ∧ Foc H₀ H' ((cLook c "push").u_boxes (c.boxes.set o (.tup [v, c.head]))) := by
  refine s_look_go n F (.inl rfl) hd fun H1 F1 => ?_
  rw [decide_eq_true rfl]
  have g := F1.gOwn
  rw [show (cLook c "push").own = .int o from ho] at g
  refine .bind (.bind (.bind (.eachP (.eachE g (.eachE F1.gHead (.each0 ?_))))))
  refine Rn.mono (s_put_below n F1 (i := o) (v := v) (u := u) hb) fun _ H2 F2 => .pure ?_
  show Rn (tl P09 _ "look" [] 5 35 _) _ _
  rw [c_look_t_5]
  exact .pure ⟨rfl, F2⟩

theorem s_look_some (n : Nat) (F : Foc H₀ H c) {num i : Nat} {w : Str} {r : List AV} (hw : Wd w) (hp : w ≠ "push") (hd : c.deed = .tup (.str w :: r)) (hh : c.head = .int i) :
    Rn (callP P09 (n + 2) "look" [.loc c.st, .int num, .loc c.w]) H fun a H' => a = tLook c ∧ Foc H₀ H' (cLook c w) := by
  refine s_look_go n F hw hd fun H1 F1 => ?_
  rw [decide_eq_false hp]
  have g := F1.gHead
  rw [show (cLook c w).head = .int i from hh] at g
  refine .bind (.bind (.bof g ?_))
  rw [show pCmp .Is (.int (i : Int)) .none = pure false from rfl]
  refine .pure (.pure ?_)
  show Rn (tl P09 _ "look" [] 5 35 _) _ _
  rw [c_look_t_5]
  exact .pure ⟨rfl, F1⟩

noncomputable def endNew (c : Cn) (num : Nat) (ans : AV) : Cn := ((((c.u_row (.int c.rows.length)).u_rows (c.rows ++ [.tup [.int num, .int c.place, c.deed, .int c.begun, .int c.time, .int c.time, ans]])).u_place (c.place + 1)).u_wv .none)
noncomputable def cLookN (c : Cn) (w : Str) : Cn := if w = "swap" then (cLook c w).u_spare (c.spare ++ [c.own]) else cLook c w
theorem s_look_none (n : Nat) (F : Foc H₀ H c) {num : Nat} {w : Str} {r : List AV} (hw : Wd w) (hp : w ≠ "push") (hd : c.deed = .tup (.str w :: r)) (hh : c.head = .none) (hn : c.hs[num]? = some (.loc c.hd)) (hr : c.row = .none) (hl : c.rows.length < 100000) (hl2 : c.spare.length < 100000) :
    Rn (callP P09 (n + 3) "look" [.loc c.st, .int num, .loc c.w]) H fun a H' => a = tLook c ∧ Foc H₀ H' (endNew (cLookN c w) num (if w = "clear" then .tup [] else .none)) := by
  refine s_look_go (n + 1) F hw hd fun H1 F1 => ?_
  rw [decide_eq_false hp]
  have g := F1.gHead
  rw [show (cLook c w).head = .none from hh] at g
  have tail : ∀ (H2 : AHeap), Foc H₀ H2 (cLookN c w) → Rn (tl P09 (callP P09 (n + 2)) "look" [(4, 1), (0, 0)] 1 33 [some (.loc c.st), some (.int num), some (.loc c.w), some (.str w), some (tLook c), none]) H2 fun r H' => (∃ o1 o2 o3 o4 o5, r = .next [o1, o2, o3, o4, some (tLook c), o5]) ∧ Foc H₀ H' (endNew (cLookN c w) num (if w = "clear" then .tup [] else .none)) := by
    intro H2 F2
    have e1 : (cLookN c w).hs[num]? = some (.loc (cLookN c w).hd) := by unfold cLookN; split <;> exact hn
    have e2 : (cLookN c w).row = .none := by unfold cLookN; split <;> exact hr
    have e3 : (cLookN c w).rows.length < 100000 := by unfold cLookN; split <;> exact hl
    have e4 : (cLookN c w).st = c.st := by unfold cLookN; split <;> rfl
    have e5 : (cLookN c w).w = c.w := by unfold cLookN; split <;> rfl
    have q := fun ans => s_end_new n F2 (num := num) (ans := ans) e1 e2 e3
    rw [e4, e5] at q
    rw [c_look_t41_00_1, e_eqs hw.ok (by kernel_rfl), pure_bind]
    by_cases hc : w = "clear"
    · rw [decide_eq_true hc, if_pos hc]
      refine .bind (.pure ?_)
      show Rn (tl P09 _ "look" [(4, 1), (0, 0)] 3 31 _) _ _
      rw [c_look_t41_00_3]
      exact .then (q _) fun _ H3 F3 => .pure ⟨⟨_, _, _, _, _, rfl⟩, F3⟩
    · rw [decide_eq_false hc, if_neg hc]
      refine .bind (.pure ?_)
      show Rn (tl P09 _ "look" [(4, 1), (0, 0)] 3 31 _) _ _
      rw [c_look_t41_00_3]
      exact .then (q _) fun _ H3 F3 => .pure ⟨⟨_, _, _, _, _, rfl⟩, F3⟩
  have fin : ∀ {r' : Res} {H' : AHeap}, (∃ o1 o2 o3 o4 o5, r' = .next [o1, o2, o3, o4, some (tLook c), o5]) ∧ Foc H₀ H' (endNew (cLookN c w) num (if w = "clear" then .tup [] else .none)) →
      Rn (goOn (fun σ => pure (.next σ)) r') H' fun a H1 => Rn (goOn (tl P09 (callP P09 (n + 2)) "look" [] 5 35) a) H1 (Fl (fun _ H' => AV.none = tLook c ∧ Foc H₀ H' (endNew (cLookN c w) num (if w = "clear" then .tup [] else .none))) fun a H' => a = tLook c ∧ Foc H₀ H' (endNew (cLookN c w) num (if w = "clear" then .tup [] else .none))) := by
    rintro r' H' ⟨⟨o1, o2, o3, o4, o5, rfl⟩, F'⟩
    refine .pure ?_
    show Rn (tl P09 _ "look" [] 5 35 _) _ _
    rw [c_look_t_5]
    exact .pure ⟨rfl, F'⟩
  refine .bind (.bind (.bof g ?_))
  rw [show pCmp .Is AV.none .none = pure true from rfl]
  refine .pure (.bind ?_)
  rw [e_eqs hw.ok (by kernel_rfl), pure_bind]
  by_cases hs : w = "swap"
  · rw [decide_eq_true hs]
    refine .bind (.bind (.bof F1.gSpare (.bof (listOf_loc F1.sp) (.bind (.eachE F1.gOwn (.each0 ?_))))))
    refine Rn.mono (F1.aSpare hl2 _) fun _ H2 F2 => .pure ?_
    refine Rn.mono (tail H2 ?_) fun r' H' q => fin q
    unfold cLookN
    rw [if_pos hs]
    exact F2
  · rw [decide_eq_false hs]
    refine .bind (.pure ?_)
    refine Rn.mono (tail H1 ?_) fun r' H' q => fin q
    unfold cLookN
    rw [if_neg hs]
    exact F1
end
end Mine


set_option autoImplicit false
set_option linter.unusedVariables false
set_option maxRecDepth 100000
namespace Mine
open PySem PyProof.Rows
section
variable {H₀ H : AHeap} {c : Cn}

noncomputable def cSee (c : Cn) (w : Str) (v b : AV) : Cn := (c.u_inside (.tup [v, b])).u_next (bse w)
theorem s_see_go (n : Nat) (F : Foc H₀ H c) {w : Str} {r : List AV} {i : Nat} {m v b : AV} {Q : AV → AHeap → Prop} (hw : w = "swap" ∨ w = "pop" ∨ w = "top") (hd : c.deed = .tup (.str w :: r)) (hs : c.seen = .tup [.int i, m]) (hb : c.boxes[i]? = some (.tup [v, b]))
    (h : ∀ H', Foc H₀ H' (cSee c w v b) → Rn (match decide (w = "swap") with
      | true => (do let r ← (do let _ ← (do let vs12 ← eachM [pure (.loc c.st), (pItem (.loc c.w) (.str "own")), (do let x11 ← (pItem (.loc c.w) (.str "inside")); pItem x11 (.int 1))]; callP P09 n "put_below" vs12); pure (.next [some (.loc c.st), some (.loc c.w), some (.int i), some (.tup [.str "see", .int i, v, b])])); goOn (tl P09 (callP P09 n) "see" [] 5 35) r)
      | false => (do let r ← pure (.next [some (.loc c.st), some (.loc c.w), some (.int i), some (.tup [.str "see", .int i, v, b])]); goOn (tl P09 (callP P09 n) "see" [] 5 35) r)) H' (Fl (fun _ H' => Q .none H') Q)) :
    Rn (callP P09 (n + 1) "see" [.loc c.st, .loc c.w]) H Q := by
  refine callRn (σ := [some (.loc c.st), some (.loc c.w), none, none]) (by kernel_rfl) (by kernel_rfl) (by kernel_rfl) ?_
  have g := F.gSeen
  rw [hs] at g
  have hok : PyData.strOk w = true := by obtain rfl | rfl | rfl := hw <;> kernel_rfl
  have L := LIMis
  rw [c_see_0]
  refine .bind (.bof g ?_)
  rw [e_it0]
  refine .pure (.bind (.bof F.gBoxes (.of (item_loc F.b hb) ?_)))
  refine .then (F.wInside _) fun _ H1 F1 => ?_
  have g1 := F1.gDeed
  rw [show (c.u_inside (.tup [v, b])).deed = .tup (.str w :: r) from hd] at g1
  refine .bind (.bind (.bof g1 ?_))
  rw [e_it0]
  refine .pure ?_
  rw [g_see hw]
  refine .pure ?_
  refine .then (F1.wNext _) fun _ H2 F2 => ?_
  refine .bind (.bof F2.gInside ?_)
  rw [show ((c.u_inside (.tup [v, b])).u_next (bse w)).inside = .tup [v, b] from rfl, m_tup (by show 4 ≤ LIM; omega)]
  refine .pure ?_
  have g2 := F2.gDeed
  rw [show ((c.u_inside (.tup [v, b])).u_next (bse w)).deed = .tup (.str w :: r) from hd] at g2
  refine .bind (.bind (.bof g2 ?_))
  rw [e_it0]
  refine .pure ?_
  rw [e_eqs hok (by kernel_rfl)]
  refine .pure ?_
  exact h H2 F2

theorem s_see_swap (n : Nat) (F : Foc H₀ H c) {r : List AV} {i o : Nat} {m v b v' b' : AV} (hd : c.deed = .tup (.str "swap" :: r)) (hs : c.seen = .tup [.int i, m]) (hb : c.boxes[i]? = some (.tup [v, b])) (ho : c.own = .int o) (hb' : c.boxes[o]? = some (.tup [v', b'])) :
    Rn (callP P09 (n + 2) "see" [.loc c.st, .loc c.w]) H fun a H' => a = .tup [.str "see", .int i, v, b] ∧ Foc H₀ H' ((cSee c "swap" v b).u_boxes (c.boxes.set o (.tup [v', b]))) := by
  refine s_see_go (n + 1) F (.inl rfl) hd hs hb fun H1 F1 => ?_
  rw [decide_eq_true rfl]
  have g := F1.gOwn
  rw [show (cSee c "swap" v b).own = .int o from ho] at g
  refine .bind (.bind (.bind (.eachP (.eachE g (.eachC (.bof F1.gInside ?_))))))
  rw [show (cSee c "swap" v b).inside = .tup [v, b] from rfl, e_itT (k := 1) (a := b) rfl]
  refine .pure (.each0 ?_)
  refine Rn.mono (s_put_below n F1 (i := o) (v := v') (u := b') hb') fun _ H2 F2 => .pure ?_
  show Rn (tl P09 _ "see" [] 5 35 _) _ _
  rw [c_see_t_5]
  exact .pure ⟨rfl, F2⟩
theorem s_see (n : Nat) (F : Foc H₀ H c) {w : Str} {r : List AV} {i : Nat} {m v b : AV} (hw : w = "pop" ∨ w = "top") (hd : c.deed = .tup (.str w :: r)) (hs : c.seen = .tup [.int i, m]) (hb : c.boxes[i]? = some (.tup [v, b])) :
    Rn (callP P09 (n + 1) "see" [.loc c.st, .loc c.w]) H fun a H' => a = .tup [.str "see", .int i, v, b] ∧ Foc H₀ H' (cSee c w v b) := by
  refine s_see_go n F (.inr hw) hd hs hb fun H1 F1 => ?_
  rw [decide_eq_false (by obtain rfl | rfl := hw <;> decide)]
  refine .bind (.pure ?_)
  show Rn (tl P09 _ "see" [] 5 35 _) _ _
  rw [c_see_t_5]
  exact .pure ⟨rfl, F1⟩

theorem s_put_no (n : Nat) (F : Foc H₀ H c) {num : Nat} {x : AV} {m : Int} (hk : Kd c.kind) (hh : Ix c.head) (hx : Ix x) (hs : c.seen = .tup [x, .int m]) (hb : stillB c x m = false) :
    Rn (callP P09 (n + 2) "put" [.loc c.st, .int num, .loc c.w]) H fun a H' => a = .tup [.str "put", .bool false] ∧ Foc H₀ H' (c.u_next "look") := by
  refine callRn (σ := [some (.loc c.st), some (.int num), some (.loc c.w), none, none]) (by kernel_rfl) (by kernel_rfl) (by kernel_rfl) ?_
  rw [c_put_0]
  refine .bind (.bind (.bof (s_is_still n F hk hh hx hs) ?_))
  rw [hb, e_truth]
  refine .pure (.pure ?_)
  refine .bind (.then (F.wNext _) fun _ H1 F1 => .pure ?_)
  exact .pure ⟨rfl, F1⟩

noncomputable def cPut (c : Cn) (w : Str) (num : Nat) (bi v : AV) : Cn :=
  if w = "clear" then ((((((c.u_mark (c.mark + 1)).u_head .none).u_row (.int c.rows.length)).u_rows (c.rows ++ [row0 c num])).u_walk c.head).u_next "walk")
  else if w = "push" then endNew ((c.u_mark (c.mark + 1)).u_head c.own) num .none
  else if w = "pop" then endNew ((((c.u_mark (c.mark + 1)).u_head c.own).u_head bi).u_spare (c.spare ++ [c.head])) num v
  else endNew (((c.u_mark (c.mark + 1)).u_head c.own).u_spare (c.spare ++ [c.head])) num v

theorem s_put_yes (n : Nat) (F : Foc H₀ H c) {num : Nat} {x v bi : AV} {m : Int} {w : Str} {r : List AV} (hw : w = "push" ∨ w = "clear" ∨ w = "swap" ∨ w = "pop") (hk : Kd c.kind) (hh : Ix c.head) (hx : Ix x) (hs : c.seen = .tup [x, .int m]) (hb : stillB c x m = true)
    (hd : c.deed = .tup (.str w :: r)) (hn : c.hs[num]? = some (.loc c.hd)) (hr : c.row = .none) (hl : c.rows.length < 100000) (hl2 : c.spare.length < 100000) (hi : (w = "swap" ∨ w = "pop") → c.inside = .tup [v, bi]) :
    Rn (callP P09 (n + 3) "put" [.loc c.st, .int num, .loc c.w]) H fun a H' => a = .tup [.str "put", .bool true] ∧ Foc H₀ H' (cPut c w num bi v) := by
  refine callRn (σ := [some (.loc c.st), some (.int num), some (.loc c.w), none, none]) (by kernel_rfl) (by kernel_rfl) (by kernel_rfl) ?_
  have hok : PyData.strOk w = true := by obtain rfl | rfl | rfl | rfl := hw <;> kernel_rfl
  rw [c_put_0]
  refine .bind (.bind (.bof (s_is_still (n + 1) F hk hh hx hs) ?_))
  rw [hb, e_truth]
  refine .pure (.pure (.bind (.pure ?_)))
  show Rn (tl P09 _ "put" [] 1 39 _) _ _
  have g := F.gDeed
  rw [hd] at g
  rw [c_put_t_1]
  refine .bind (.bof g ?_)
  rw [e_it0]
  refine .pure (.bof F.gHead (.bind (.bof F.gMark ?_)))
  rw [m_add]
  refine .pure ?_
  refine .then (F.wMark _) fun _ H1 F1 => ?_
  rw [e_eqs hok (by kernel_rfl), pure_bind]
  have fin : ∀ {o1 o2 o3 o4 o5 : Option AV} {H' : AHeap}, Foc H₀ H' (cPut c w num bi v) → Rn (goOn (tl P09 (callP P09 (n + 2)) "put" [] 5 35) (.next [o1, o2, o3, o4, o5])) H' (Fl (fun _ H' => AV.none = .tup [.str "put", .bool true] ∧ Foc H₀ H' (cPut c w num bi v)) fun a H' => a = .tup [.str "put", .bool true] ∧ Foc H₀ H' (cPut c w num bi v)) := by
    intro o1 o2 o3 o4 o5 H' F'
    show Rn (tl P09 _ "put" [] 5 35 _) _ _
    rw [c_put_t_5]
    exact .pure ⟨rfl, F'⟩
  by_cases h1 : w = "clear"
  · rw [decide_eq_true h1]
    have e : cPut c w num bi v = ((((((c.u_mark (c.mark + 1)).u_head .none).u_row (.int c.rows.length)).u_rows (c.rows ++ [row0 c num])).u_walk c.head).u_next "walk") := by unfold cPut; rw [if_pos h1]
    refine .bind (.then (F1.wHead _) fun _ H2 F2 => ?_)
    refine .then (s_point (n + 1) F2 (num := num) hn hl) fun _ H3 F3 => ?_
    refine .then (F3.wWalk c.head) fun _ H4 F4 => ?_
    refine .then (F4.wNext _) fun _ H5 F5 => .pure (fin ?_)
    rw [e]
    exact F5
  · rw [decide_eq_false h1]
    refine .bind ?_
    rw [e_eqs hok (by kernel_rfl), pure_bind]
    by_cases h2 : w = "push"
    · rw [decide_eq_true h2]
      have e : cPut c w num bi v = endNew ((c.u_mark (c.mark + 1)).u_head c.own) num .none := by unfold cPut; rw [if_neg h1, if_pos h2]
      refine .bind (.bof F1.gOwn (.then (F1.wHead _) fun _ H2 F2 => ?_))
      refine .then (s_end_new n F2 (num := num) (ans := .none) hn hr hl) fun _ H3 F3 => .pure (.pure (fin ?_))
      rw [e]
      exact F3
    · rw [decide_eq_false h2]
      have h3 : w = "swap" ∨ w = "pop" := by
        rcases hw with h | h | h | h
        · exact absurd h h2
        · exact absurd h h1
        · exact .inl h
        · exact .inr h
      have hin := hi h3
      refine .bind (.bof F1.gOwn (.then (F1.wHead _) fun _ H2 F2 => ?_))
      rw [e_eqs hok (by kernel_rfl), pure_bind]
      by_cases h4 : w = "pop"
      · rw [decide_eq_true h4]
        have e : cPut c w num bi v = endNew ((((c.u_mark (c.mark + 1)).u_head c.own).u_head bi).u_spare (c.spare ++ [c.head])) num v := by unfold cPut; rw [if_neg h1, if_neg h2, if_pos h4]
        have g2 := F2.gInside
        rw [show (Cn.u_head (c.u_mark (c.mark + 1)) (c.u_mark (c.mark + 1)).own).inside = .tup [v, bi] from hin] at g2
        refine .bind (.bind (.bof g2 ?_))
        rw [e_itT (k := 1) (a := bi) rfl]
        refine .pure (.then (F2.wHead _) fun _ H3 F3 => .pure ?_)
        show Rn (tl P09 _ "put" [(4, 1), (0, 1)] 2 32 _) _ _
        rw [c_put_t41_01_2]
        refine .bind (.bof F3.gSpare (.bof (listOf_loc F3.sp) ?_))
        refine Rn.mono (F3.aSpare hl2 c.head) fun _ H4 F4 => ?_
        have g4 := F4.gInside
        refine .bind (.bind (.eachP (.eachP (.eachP (.eachC (.bof g4 ?_))))))
        rw [show (Cn.u_spare (Cn.u_head (Cn.u_head (c.u_mark (c.mark + 1)) (c.u_mark (c.mark + 1)).own) bi) _).inside = .tup [v, bi] from hin, e_itT (k := 0) (a := v) rfl]
        refine .pure (.each0 ?_)
        refine Rn.mono (s_end_new n F4 (num := num) (ans := v) hn hr hl) fun _ H5 F5 => .pure (.pure (fin ?_))
        rw [e]
        exact F5
      · rw [decide_eq_false h4]
        have e : cPut c w num bi v = endNew (((c.u_mark (c.mark + 1)).u_head c.own).u_spare (c.spare ++ [c.head])) num v := by unfold cPut; rw [if_neg h1, if_neg h2, if_neg h4]
        refine .bind (.pure ?_)
        show Rn (tl P09 _ "put" [(4, 1), (0, 1)] 2 32 _) _ _
        rw [c_put_t41_01_2]
        refine .bind (.bof F2.gSpare (.bof (listOf_loc F2.sp) ?_))
        refine Rn.mono (F2.aSpare hl2 c.head) fun _ H4 F4 => ?_
        have g4 := F4.gInside
        refine .bind (.bind (.eachP (.eachP (.eachP (.eachC (.bof g4 ?_))))))
        rw [show (Cn.u_spare (Cn.u_head (c.u_mark (c.mark + 1)) (c.u_mark (c.mark + 1)).own) _).inside = .tup [v, bi] from hin, e_itT (k := 0) (a := v) rfl]
        refine .pure (.each0 ?_)
        refine Rn.mono (s_end_new n F4 (num := num) (ans := v) hn hr hl) fun _ H5 F5 => .pure (.pure (fin ?_))
        rw [e]
        exact F5

theorem s_check (n : Nat) (F : Foc H₀ H c) {num : Nat} {x v bi : AV} {m : Int} (hk : Kd c.kind) (hh : Ix c.head) (hx : Ix x) (hs : c.seen = .tup [x, .int m]) (hn : c.hs[num]? = some (.loc c.hd)) (hr : c.row = .none) (hl : c.rows.length < 100000) (hi : c.inside = .tup [v, bi]) :
    Rn (callP P09 (n + 3) "check" [.loc c.st, .int num, .loc c.w]) H fun a H' => a = tLook c ∧ Foc H₀ H' (if stillB c x m then endNew c num v else c.u_next "look") := by
  refine callRn (σ := [some (.loc c.st), some (.int num), some (.loc c.w), none]) (by kernel_rfl) (by kernel_rfl) (by kernel_rfl) ?_
  rw [c_check_0]
  refine .bind (.bind (.eachP (.eachE F.gHead (.eachE F.gMark (.each0 (.pure ?_))))))
  refine .bind (.bof (s_is_still (n + 1) F hk hh hx hs) ?_)
  rw [e_truth]
  refine .pure ?_
  cases hb : stillB c x m with
  | true =>
    have g4 := F.gInside
    rw [hi] at g4
    refine .bind (.bind (.bind (.eachP (.eachP (.eachP (.eachC (.bof g4 ?_)))))))
    rw [e_itT (k := 0) (a := v) rfl]
    refine .pure (.each0 ?_)
    refine Rn.mono (s_end_new n F (num := num) (ans := v) hn hr hl) fun _ H5 F5 => .pure ?_
    show Rn (tl P09 _ "check" [] 2 38 _) _ _
    rw [c_check_t_2]
    exact .pure ⟨rfl, F5⟩
  | false =>
    refine .bind (.then (F.wNext _) fun _ H1 F1 => .pure ?_)
    show Rn (tl P09 _ "check" [] 2 38 _) _ _
    rw [c_check_t_2]
    exact .pure ⟨rfl, F1⟩

noncomputable def cWalk (c : Cn) (i : Nat) (v b : AV) : Cn := ((c.u_kept (c.kept ++ [v])).u_spare (c.spare ++ [.int i])).u_walk b
noncomputable def cWalkE (c : Cn) (i k : Nat) (v b a1 a2 a3 a4 a5 : AV) : Cn := (((cWalk c i v b).u_rows (c.rows.set k (.tup [a1, a2, a3, a4, a5, .int c.time, .tup (c.kept ++ [v])]))).u_place (c.place + 1)).u_wv .none
theorem s_walk (n : Nat) (F : Foc H₀ H c) {num i k : Nat} {v b a1 a2 a3 a4 a5 a6 a7 : AV} (hw : c.walk = .int i) (hb : c.boxes[i]? = some (.tup [v, b])) (hx : Ix b) (hn : c.hs[num]? = some (.loc c.hd)) (hr : c.row = .int k) (hk : c.rows[k]? = some (.tup [a1, a2, a3, a4, a5, a6, a7])) (hl : c.kept.length < 100000) (hl2 : c.spare.length < 100000) :
    Rn (callP P09 (n + 3) "walk" [.loc c.st, .int num, .loc c.w]) H fun a H' => a = .tup [.str "see", .int i, v, b] ∧ Foc H₀ H' (if pIsNone b then cWalkE c i k v b a1 a2 a3 a4 a5 else cWalk c i v b) := by
  refine callRn (σ := [some (.loc c.st), some (.int num), some (.loc c.w), none, none, none]) (by kernel_rfl) (by kernel_rfl) (by kernel_rfl) ?_
  have g := F.gWalk
  rw [hw] at g
  rw [c_walk_0]
  refine .bof g (.bind (.bof F.gBoxes (.of (item_loc F.b hb) ?_)))
  rw [show pairOf (.tup [v, b]) = pure (v, b) from rfl, pure_bind]
  refine .bind (.bof F.gKept (.bof (listOf_loc F.k) ?_))
  refine Rn.mono (F.aKept hl _) fun _ H1 F1 => ?_
  refine .bind (.bof F1.gSpare (.bof (listOf_loc F1.sp) ?_))
  refine Rn.mono (F1.aSpare hl2 _) fun _ H2 F2 => ?_
  refine .then (F2.wWalk _) fun _ H3 F3 => ?_
  obtain rfl | ⟨j, rfl⟩ := hx
  · rw [show pCmp .Is AV.none .none = pure true from rfl, pure_bind]
    refine .bind (.bind (.bind (.eachP (.eachP (.eachP (.eachC (.bind (.eachE F3.gKept (.each0 ?_)))))))))
    refine .of (a := .tup (c.kept ++ [v])) (H1 := H3) ?_ ?_
    · exact bind_of (listOf_loc F3.k) rfl
    · refine .each0 ?_
      refine Rn.mono (s_end_old (n + 1) F3 (num := num) (k := k) (ans := .tup (c.kept ++ [v])) hn hr hk) fun _ H4 F4 => .pure ?_
      show Rn (tl P09 _ "walk" [] 6 34 _) _ _
      rw [c_walk_t_6, show pIsNone AV.none = true from rfl]
      exact .pure ⟨rfl, F4⟩
  · rw [show pCmp .Is (.int (j : Int)) .none = pure false from rfl, pure_bind]
    refine .bind (.pure ?_)
    show Rn (tl P09 _ "walk" [] 6 34 _) _ _
    rw [c_walk_t_6, show pIsNone (.int (j : Int)) = false from rfl]
    exact .pure ⟨rfl, F3⟩
end
end Mine


set_option autoImplicit false
set_option linter.unusedVariables false
set_option maxRecDepth 100000
namespace Mine
open PySem PyProof.Rows
section
variable {H₀ H : AHeap} {c : Cn}

theorem s_work_old (n : Nat) (F : Foc H₀ H c) {num : Nat} (hn : c.hs[num]? = some (.loc c.hd)) (hv : c.wv = .loc c.w) :
    callP P09 (n + 1) "work_of" [.loc c.st, .int num] H = some (.loc c.w, H) := by
  refine callR (σ := [some (.loc c.st), some (.int num), none, none]) (by kernel_rfl) (by kernel_rfl) (by kernel_rfl) ?_
  have g := F.gWork
  rw [hv] at g
  rw [c_work_of_0]
  refine Rn.val (.bind (.bof F.gHands (.of (item_loc F.h hn) (.bind (.bof g ?_)))))
  rw [show pCmp .Is (.loc c.w) .none = pure false from rfl]
  refine .pure (.bind (.pure ?_))
  show Rn (tl P09 _ "work_of" [] 2 38 _) _ _
  rw [c_work_of_t_2]
  exact .bof g (.pure ⟨rfl, rfl⟩)

theorem s_work_new (n : Nat) (F : Foc0 H₀ H c) {num p : Nat} {w : Str} {r : List AV} (hn : c.hs[num]? = some (.loc c.hd)) (hv : c.wv = .none) (hp : c.place = p) (hd : c.prog[p]? = some (.tup (.str w :: r))) (hw : Wd w) :
    Rn (callP P09 (n + 1) "work_of" [.loc c.st, .int num]) H fun a H' => a = .loc (H.length + 1) ∧ Foc H₀ H' ((c.beg H.length (H.length + 1) (.tup (.str w :: r)) (fst w)).u_wv (.loc (H.length + 1))) := by
  refine callRn (σ := [some (.loc c.st), some (.int num), none, none]) (by kernel_rfl) (by kernel_rfl) (by kernel_rfl) ?_
  have g := F.gWork
  rw [hv] at g
  have g2 := F.gPlace
  rw [hp] at g2
  have L := LIMis
  rw [c_work_of_0]
  refine .bind (.bof F.gHands (.of (item_loc F.h hn) (.bind (.bof g ?_))))
  rw [show pCmp .Is AV.none .none = pure true from rfl]
  refine .pure (.bind (.bind (.bof F.gProg (.bof g2 ?_))))
  rw [e_item_tup hd]
  refine .pure (.bind (.bind ?_))
  refine .eachP (.eachE F.gTime (.eachC ?_))
  rw [e_it0, pure_bind, g_first hw]
  refine .pure (.eachP (.eachP (.eachP (.eachP (.eachE (newT (by simp)) (.eachP (.each0 ?_)))))))
  have F1 := F.begun (.tup (.str w :: r)) (fst w)
  refine .of newDT ?_
  have e : (H ++ [AO.list []]).length = H.length + 1 := by simp
  rw [e]
  refine .then (F1.wWork (.loc (H.length + 1))) fun _ H2 F2 => .pure ?_
  show Rn (tl P09 _ "work_of" [] 2 38 _) _ _
  rw [c_work_of_t_2]
  exact .bof F2.gWork (.pure ⟨rfl, F2⟩)

/-- the step's own call -/
noncomputable def opCall (n : Nat) (c : Cn) (num : Nat) : M AV :=
  if c.next = "take" then callP P09 n "take" [.loc c.st, .loc c.w]
  else if c.next = "look" then callP P09 n "look" [.loc c.st, .int num, .loc c.w]
  else if c.next = "see" then callP P09 n "see" [.loc c.st, .loc c.w]
  else if c.next = "put" then callP P09 n "put" [.loc c.st, .int num, .loc c.w]
  else if c.next = "check" then callP P09 n "check" [.loc c.st, .int num, .loc c.w]
  else callP P09 n "walk" [.loc c.st, .int num, .loc c.w]

theorem s_go_t (n : Nat) (F : Foc H₀ H c) {o1 o2 o3 : Option AV} {told : AV} :
    Rn (tl P09 (callP P09 n) "go" [] 2 38 [some (.loc c.st), o1, o2, some told, o3]) H fun r H' => r = .ret told ∧ Foc H₀ H' (c.u_time (c.time + 1)) := by
  rw [c_go_t_2]
  refine .bind (.bof F.gTime ?_)
  rw [m_add]
  exact .pure (.then (F.wTime _) fun _ H1 F1 => .pure ⟨rfl, F1⟩)

theorem s_go (n : Nat) {num : Nat} {G : AV → Cn → Prop} {c : Cn} {H1 : AHeap} {hd : Nat} {hand : List (Str × AV)} {wv : AV} {place : Int} {prog : List AV}
    (g1 : pItem (.loc c.st) (.str "hands") H = some (.loc c.lh, H)) (g2 : pItem (.loc c.lh) (.int num) H = some (.loc hd, H)) (g3 : pItem (.loc hd) (.str "work") H = some (wv, H))
    (g4 : pItem (.loc hd) (.str "place") H = some (.int place, H)) (g5 : pItem (.loc hd) (.str "program") H = some (.tup prog, H)) (hc : pIsNone wv = false ∨ place ≠ prog.length) (hok : PyData.strOk c.next = true)
    (hw : callP P09 (n + 1) "work_of" [.loc c.st, .int num] H = some (.loc c.w, H1)) (F : Foc H₀ H1 c)
    (hop : Rn (opCall (n + 1) c num) H1 fun told H2 => ∃ c2, c2.st = c.st ∧ Foc H₀ H2 c2 ∧ G told c2) :
    Rn (callP P09 (n + 2) "go" [.loc c.st, .int num]) H fun told H' => ∃ c2, Foc H₀ H' (c2.u_time (c2.time + 1)) ∧ G told c2 := by
  refine callRn (σ := [some (.loc c.st), some (.int num), none, none, none]) (by kernel_rfl) (by kernel_rfl) (by kernel_rfl) ?_
  have fin : ∀ {told : AV} {H2 : AHeap} {o1 o2 o3 : Option AV}, (∃ c2, c2.st = c.st ∧ Foc H₀ H2 c2 ∧ G told c2) → Rn (tl P09 (callP P09 (n + 1)) "go" [] 2 38 [some (.loc c.st), o1, o2, some told, o3]) H2 (Fl (fun _ H' => ∃ c2, Foc H₀ H' (c2.u_time (c2.time + 1)) ∧ G .none c2) fun told H' => ∃ c2, Foc H₀ H' (c2.u_time (c2.time + 1)) ∧ G told c2) := by
    rintro told H2 o1 o2 o3 ⟨c2, e, F2, q⟩
    rw [← e]
    refine Rn.mono (s_go_t (n + 1) F2) ?_
    rintro r H' ⟨rfl, F'⟩
    exact ⟨c2, F', q⟩
  rw [c_go_0]
  refine .bind (.bof g1 (.of g2 ?_))
  refine .bind (.bind (.bof g3 ?_))
  rw [show pCmp .Is wv .none = pure (pIsNone wv) from rfl]
  refine .pure ?_
  refine Rn.mono (R := fun b H' => b = false ∧ H' = H) ?_ ?_
  · cases hx : pIsNone wv with
    | false => exact .pure ⟨rfl, rfl⟩
    | true =>
      have hpl : place ≠ prog.length := hc.resolve_left (by rw [hx]; decide)
      refine .bind (.bof g4 (.bind (.bind (.eachE g5 (.each0 ?_)))))
      rw [e_len_tup]
      refine .pure ?_
      rw [e_eqi, decide_eq_false hpl]
      exact .pure (.pure ⟨rfl, rfl⟩)
  rintro b H' ⟨rfl, rfl⟩
  refine .bind (.bof hw ?_)
  unfold opCall at hop
  have cmp : ∀ x : Str, PyData.strOk x = true → pCmp .Eq (.str c.next) (.str x) = pure (decide (c.next = x)) := fun x hx => e_eqs hok hx
  refine .bind (.bof F.gNext ?_)
  rw [cmp _ (by kernel_rfl)]
  refine .pure ?_
  by_cases h1 : c.next = "take"
  · rw [if_pos h1] at hop
    rw [decide_eq_true h1]
    exact .bind (.then hop fun told H2 q => .pure (.pure (fin q)))
  rw [if_neg h1] at hop
  rw [decide_eq_false h1]
  refine .bind (.bind (.bof F.gNext ?_))
  rw [cmp _ (by kernel_rfl)]
  refine .pure ?_
  by_cases h2 : c.next = "look"
  · rw [if_pos h2] at hop
    rw [decide_eq_true h2]
    exact .bind (.then hop fun told H2 q => .pure (.pure (.pure (fin q))))
  rw [if_neg h2] at hop
  rw [decide_eq_false h2]
  refine .bind (.bind (.bof F.gNext ?_))
  rw [cmp _ (by kernel_rfl)]
  refine .pure ?_
  by_cases h3 : c.next = "see"
  · rw [if_pos h3] at hop
    rw [decide_eq_true h3]
    exact .bind (.then hop fun told H2 q => .pure (.pure (.pure (.pure (fin q)))))
  rw [if_neg h3] at hop
  rw [decide_eq_false h3]
  refine .bind (.bind (.bof F.gNext ?_))
  rw [cmp _ (by kernel_rfl)]
  refine .pure ?_
  by_cases h4 : c.next = "put"
  · rw [if_pos h4] at hop
    rw [decide_eq_true h4]
    exact .bind (.then hop fun told H2 q => .pure (.pure (.pure (.pure (.pure (fin q))))))
  rw [if_neg h4] at hop
  rw [decide_eq_false h4]
  refine .bind (.bind (.bof F.gNext ?_))
  rw [cmp _ (by kernel_rfl)]
  refine .pure ?_
  by_cases h5 : c.next = "check"
  · rw [if_pos h5] at hop
    rw [decide_eq_true h5]
    exact .bind (.then hop fun told H2 q => .pure (.pure (.pure (.pure (.pure (.pure (fin q)))))))
  rw [if_neg h5] at hop
  rw [decide_eq_false h5]
  exact .bind (.then hop fun told H2 q => .pure (.pure (.pure (.pure (.pure (.pure (fin q)))))))

theorem s_go_rest (n : Nat) (F : Foc0 H₀ H c) {num : Nat} (hn : c.hs[num]? = some (.loc c.hd)) (hv : c.wv = .none) (hp : c.place = c.prog.length) :
    Rn (callP P09 (n + 1) "go" [.loc c.st, .int num]) H fun told H' => told = .tup [.str "rest"] ∧ Foc0 H₀ H' (c.u_time (c.time + 1)) := by
  refine callRn (σ := [some (.loc c.st), some (.int num), none, none, none]) (by kernel_rfl) (by kernel_rfl) (by kernel_rfl) ?_
  have g := F.gWork
  rw [hv] at g
  rw [c_go_0]
  refine .bind (.bof F.gHands (.of (item_loc F.h hn) ?_))
  refine .bind (.bind (.bof g ?_))
  rw [show pCmp .Is AV.none .none = pure true from rfl]
  refine .pure (.bind (.bof F.gPlace (.bind (.bind (.eachE F.gProg (.each0 ?_))))))
  rw [e_len_tup]
  refine .pure ?_
  rw [e_eqi, decide_eq_true hp]
  refine .pure (.pure (.bind (.pure ?_)))
  show Rn (tl P09 _ "go" [] 2 38 _) _ _
  rw [c_go_t_2]
  refine .bind (.bof F.gTime ?_)
  rw [m_add]
  exact .pure (.then (F.wTime _) fun _ H1 F1 => .pure ⟨rfl, F1⟩)
end
end Mine


set_option autoImplicit false
set_option linter.unusedVariables false
set_option maxRecDepth 100000
namespace Mine
open PySem PyProof.Rows

noncomputable def VIx (n : Nat) (b : AV) : Prop := b = .none ∨ ∃ i : Nat, b = .int i ∧ i < n
theorem VIx.mono {n m : Nat} {b : AV} (h : VIx n b) (hm : n ≤ m) : VIx m b := by
  obtain rfl | ⟨i, rfl, hi⟩ := h
  · exact .inl rfl
  · exact .inr ⟨i, rfl, by omega⟩
theorem VIx.ix {n : Nat} {b : AV} (h : VIx n b) : Ix b := by
  obtain rfl | ⟨i, rfl, hi⟩ := h
  · exact .inl rfl
  · exact .inr ⟨i, rfl⟩
/-- a box: a value and the one below -/
noncomputable def Bx (n : Nat) (x : AV) : Prop := ∃ v b, x = .tup [v, b] ∧ VIx n b
noncomputable def BxAll (bs : List AV) : Prop := ∀ x ∈ bs, Bx bs.length x
theorem BxAll.app {bs : List AV} (h : BxAll bs) {v b : AV} (hb : VIx bs.length b) : BxAll (bs ++ [.tup [v, b]]) := by
  intro x hx
  have e : (bs ++ [AV.tup [v, b]]).length = bs.length + 1 := by simp
  rw [e]
  rcases List.mem_append.mp hx with h1 | h1
  · obtain ⟨v, b, h2, h3⟩ := h x h1
    exact ⟨v, b, h2, h3.mono (by omega)⟩
  · rw [List.mem_singleton] at h1
    exact ⟨v, b, h1, hb.mono (by omega)⟩
theorem BxAll.set {bs : List AV} (h : BxAll bs) (i : Nat) {v b : AV} (hb : VIx bs.length b) : BxAll (bs.set i (.tup [v, b])) := by
  intro x hx
  rw [List.length_set]
  rcases List.mem_or_eq_of_mem_set hx with h1 | h1
  · exact h x h1
  · exact ⟨v, b, h1, hb⟩
theorem BxAll.at {bs : List AV} (h : BxAll bs) {i : Nat} (hi : i < bs.length) : ∃ v b, bs[i]? = some (.tup [v, b]) ∧ VIx bs.length b := by
  obtain ⟨v, b, h1, h2⟩ := h _ (List.getElem_mem hi)
  exact ⟨v, b, by rw [List.getElem?_eq_getElem hi, h1], h2⟩

/-- what is so of the state at step k -/
structure Gl (k : Nat) (c : Cn) : Prop where
  kind : c.kind = "marks"
  head : VIx c.boxes.length c.head
  boxes : BxAll c.boxes
  spare : SpOk c
  rows : ∀ x ∈ c.rows, ∃ a1 a2 a3 a4 a5 a6 a7, x = .tup [a1, a2, a3, a4, a5, a6, a7]
  lb : c.boxes.length ≤ 60 + k
  ls : c.spare.length ≤ k
  lr : c.rows.length ≤ k
theorem Gl.kd {k : Nat} {c : Cn} (G : Gl k c) : Kd c.kind := .inl G.kind

noncomputable def Ow (c : Cn) (w : Str) : Prop := (w = "push" ∨ w = "swap") → ∃ o : Nat, o < c.boxes.length ∧ c.own = .int o
noncomputable def Sn (c : Cn) (x : AV) (m s : Int) : Prop := s = m ∧ m ≤ c.mark ∧ (m = c.mark → c.head = x)
/-- where a hand's work stands -/
noncomputable def Sg (k : Nat) (c : Cn) (s : Int) : Prop := c.kept.length ≤ k ∧ ∃ w r, Wd w ∧ c.deed = .tup (.str w :: r) ∧ ((w = "push" ∨ w = "swap") → ∃ v, r = [v]) ∧ (
  (c.next = "take" ∧ c.row = .none ∧ (w = "push" ∨ w = "swap")) ∨
  (c.next = "look" ∧ c.row = .none ∧ Ow c w) ∨
  (c.next = "see" ∧ c.row = .none ∧ Ow c w ∧ (w = "swap" ∨ w = "pop" ∨ w = "top") ∧ ∃ (i : Nat) (m : Int), i < c.boxes.length ∧ c.seen = .tup [.int i, .int m] ∧ Sn c (.int i) m s) ∨
  (c.next = "put" ∧ c.row = .none ∧ Ow c w ∧ (w = "push" ∨ w = "clear" ∨ w = "swap" ∨ w = "pop") ∧ ∃ (x : AV) (m : Int), VIx c.boxes.length x ∧ c.seen = .tup [x, .int m] ∧ Sn c x m s ∧ (w ≠ "push" → x ≠ .none) ∧ ((w = "swap" ∨ w = "pop") → ∃ v b, c.inside = .tup [v, b] ∧ VIx c.boxes.length b)) ∨
  (c.next = "check" ∧ c.row = .none ∧ Ow c w ∧ (∃ (x : AV) (m : Int), VIx c.boxes.length x ∧ c.seen = .tup [x, .int m]) ∧ ∃ v b, c.inside = .tup [v, b]) ∨
  (c.next = "walk" ∧ (∃ i : Nat, i < c.boxes.length ∧ c.walk = .int i) ∧ ∃ j : Nat, j < c.rows.length ∧ c.row = .int j))

/-- how a step turns the state -/
structure Mon (c c2 : Cn) : Prop where
  st : c2.st = c.st
  lb : c2.lb = c.lb
  lsp : c2.lsp = c.lsp
  lh : c2.lh = c.lh
  lr : c2.lr = c.lr
  hd : c2.hd = c.hd
  w : c2.w = c.w
  kp : c2.kp = c.kp
  hs : c2.hs = c.hs
  prog : c2.prog = c.prog
  bl : c.boxes.length ≤ c2.boxes.length
  rl : c.rows.length ≤ c2.rows.length
  mh : (c2.mark = c.mark ∧ c2.head = c.head) ∨ c.mark < c2.mark
  pl : (c2.wv = .none ∧ c2.place = c.place + 1) ∨ (c2.wv = c.wv ∧ c2.place = c.place)

/-- what the law asks of a step's answer -/
noncomputable def LT (told : AV) (m m' s s' : Int) : Prop :=
  (∃ h, told = .tup [.str "look", h, .int m] ∧ m' = m ∧ s' = m) ∨
  (∃ b : Bool, told = .tup [.str "put", .bool b] ∧ b = decide (s = m) ∧ m' = m + (if b then 1 else 0) ∧ s' = s) ∨
  (∃ x r, told = .tup (.str x :: r) ∧ PyData.strOk x = true ∧ x ≠ "look" ∧ x ≠ "put" ∧ m' = m ∧ s' = s)
noncomputable def Nx (k : Nat) (c : Cn) (s : Int) (told : AV) (c2 : Cn) : Prop := Gl (k + 1) c2 ∧ Mon c c2 ∧ ∃ s', LT told c.mark c2.mark s s' ∧ (c2.wv = .none ∨ (c2.wv = c.wv ∧ Sg (k + 1) c2 s'))

section
variable {H₀ H : AHeap} {c : Cn} {k : Nat} {s : Int}

theorem Gl.up (G : Gl k c) {c2 : Cn} (h1 : c2.kind = c.kind) (h2 : VIx c2.boxes.length c2.head) (h3 : BxAll c2.boxes) (h4 : c2.spare = c.spare) (h4' : c.boxes.length ≤ c2.boxes.length) (h5 : c2.rows = c.rows) (h6 : c2.boxes.length ≤ c.boxes.length + 1) : Gl (k + 1) c2 where
  kind := h1.trans G.kind
  head := h2
  boxes := h3
  spare := fun x hx => by
    rw [h4] at hx
    obtain ⟨i, e, hi⟩ := G.spare x hx
    exact ⟨i, e, by omega⟩
  rows := by rw [h5]; exact G.rows
  lb := by have := G.lb; omega
  ls := by rw [h4]; have := G.ls; omega
  lr := by rw [h5]; have := G.lr; omega

theorem op_take (n : Nat) (F : Foc H₀ H c) (G : Gl k c) (hk : k < 3000) (hkp : c.kept.length ≤ k) {w : Str} {v : AV} (hw : w = "push" ∨ w = "swap") (hd : c.deed = .tup [.str w, v]) (hr : c.row = .none) :
    Rn (callP P09 (n + 1) "take" [.loc c.st, .loc c.w]) H fun told H2 => ∃ c2, c2.st = c.st ∧ Foc H₀ H2 c2 ∧ Nx k c s told c2 := by
  have hW : Wd w := by rcases hw with h | h; exact .inl h; exact .inr (.inl h)
  have lt : ∀ i : Nat, LT (.tup [.str "take", .int i]) c.mark c.mark s s := fun i => .inr (.inr ⟨"take", _, rfl, by kernel_rfl, by decide, by decide, rfl, rfl⟩)
  have hlb := G.lb
  by_cases hs : c.spare = []
  · refine Rn.mono (s_take_new n F (w := w) (v := v) G.kd G.spare hd (by omega) (.inr hs)) ?_
    rintro told H2 ⟨rfl, F2⟩
    have e : (c.boxes ++ [AV.tup [v, .none]]).length = c.boxes.length + 1 := by simp
    refine ⟨_, by exact rfl, F2, G.up rfl (G.head.mono (by show _ ≤ (c.boxes ++ [AV.tup [v, .none]]).length; omega)) (G.boxes.app (.inl rfl)) rfl (by show _ ≤ (c.boxes ++ [AV.tup [v, .none]]).length; omega) rfl (by show (c.boxes ++ [AV.tup [v, .none]]).length ≤ _; omega), ?_, s, lt _, .inr ⟨rfl, ?_⟩⟩
    · exact ⟨rfl, rfl, rfl, rfl, rfl, rfl, rfl, rfl, rfl, rfl, by show _ ≤ (c.boxes ++ [AV.tup [v, .none]]).length; omega, Nat.le_refl _, .inl ⟨rfl, rfl⟩, .inr ⟨rfl, rfl⟩⟩
    · exact ⟨by show c.kept.length ≤ k + 1; omega, w, [v], hW, hd, fun _ => ⟨v, rfl⟩, .inr (.inl ⟨rfl, hr, fun _ => ⟨c.boxes.length, by show _ < (c.boxes ++ [AV.tup [v, .none]]).length; omega, rfl⟩⟩)⟩
  · obtain ⟨xs, x, hx⟩ : ∃ xs x, c.spare = xs ++ [x] := by
      obtain ⟨xs, x, e⟩ := (List.eq_nil_or_concat c.spare).resolve_left hs
      exact ⟨xs, x, by rw [e, List.concat_eq_append]⟩
    obtain ⟨i, rfl, hi⟩ := G.spare x (by rw [hx]; simp)
    refine Rn.mono (s_take_pop n F (w := w) (v := v) G.kd G.spare hd (by rw [G.kind]; decide) hx) ?_
    rintro told H2 ⟨rfl, F2⟩
    have e : (c.boxes.set i (.tup [v, .none])).length = c.boxes.length := List.length_set ..
    refine ⟨_, by exact rfl, F2, ⟨G.kind, ?_, G.boxes.set i (.inl rfl), ?_, G.rows, ?_, ?_, ?_⟩, ?_, s, lt _, .inr ⟨rfl, ?_⟩⟩
    · show VIx (c.boxes.set i (.tup [v, .none])).length c.head
      rw [e]; exact G.head
    · intro y hy
      have hy' : y ∈ c.spare := by rw [hx]; exact List.mem_append_left _ hy
      obtain ⟨j, e1, hj⟩ := G.spare y hy'
      exact ⟨j, e1, by show j < (c.boxes.set i (.tup [v, .none])).length; omega⟩
    · show (c.boxes.set i (.tup [v, .none])).length ≤ _; omega
    · show xs.length ≤ _
      have := G.ls
      rw [hx, List.length_append] at this
      simp at this; omega
    · show c.rows.length ≤ _; have := G.lr; omega
    · exact ⟨rfl, rfl, rfl, rfl, rfl, rfl, rfl, rfl, rfl, rfl, by show _ ≤ (c.boxes.set i (.tup [v, .none])).length; omega, Nat.le_refl _, .inl ⟨rfl, rfl⟩, .inr ⟨rfl, rfl⟩⟩
    · exact ⟨by show c.kept.length ≤ k + 1; omega, w, [v], hW, hd, fun _ => ⟨v, rfl⟩, .inr (.inl ⟨rfl, hr, fun _ => ⟨i, by show _ < (c.boxes.set i (.tup [v, .none])).length; omega, rfl⟩⟩)⟩

/-- a deed ends with a new row -/
theorem end_ok {c1 : Cn} {num : Nat} {ans : AV} (h1 : c1.kind = "marks") (h2 : VIx c1.boxes.length c1.head) (h3 : BxAll c1.boxes) (h4 : SpOk c1) (h5 : ∀ x ∈ c1.rows, ∃ a1 a2 a3 a4 a5 a6 a7, x = .tup [a1, a2, a3, a4, a5, a6, a7])
    (h6 : c1.boxes.length ≤ 60 + (k + 1)) (h7 : c1.spare.length ≤ k + 1) (h8 : c1.rows.length ≤ k) : Gl (k + 1) (endNew c1 num ans) where
  kind := h1
  head := h2
  boxes := h3
  spare := h4
  rows := fun x hx => by
    have hx' : x ∈ c1.rows ++ [.tup [.int num, .int c1.place, c1.deed, .int c1.begun, .int c1.time, .int c1.time, ans]] := hx
    rcases List.mem_append.mp hx' with h | h
    · exact h5 x h
    · rw [List.mem_singleton] at h
      exact ⟨_, _, _, _, _, _, _, h⟩
  lb := h6
  ls := h7
  lr := by show (c1.rows ++ [_]).length ≤ _; rw [List.length_append]; simp; omega
theorem end_mon {c1 : Cn} {num : Nat} {ans : AV} (M : Mon c c1) (hp : c1.place = c.place) : Mon c (endNew c1 num ans) := by
  cases c1
  exact ⟨M.st, M.lb, M.lsp, M.lh, M.lr, M.hd, M.w, M.kp, M.hs, M.prog, M.bl, Nat.le_trans M.rl (by rw [endNew]; unfold Cn.u_row Cn.u_rows Cn.u_place Cn.u_wv; simp), M.mh, .inl ⟨rfl, congrArg (· + 1) hp⟩⟩

theorem lookN_mon (c : Cn) (w : Str) : Mon c (cLookN c w) ∧ (cLookN c w).place = c.place ∧ (cLookN c w).mark = c.mark := by
  unfold cLookN
  by_cases h : w = "swap"
  · rw [if_pos h]; exact ⟨⟨rfl, rfl, rfl, rfl, rfl, rfl, rfl, rfl, rfl, rfl, Nat.le_refl _, Nat.le_refl _, .inl ⟨rfl, rfl⟩, .inr ⟨rfl, rfl⟩⟩, rfl, rfl⟩
  · rw [if_neg h]; exact ⟨⟨rfl, rfl, rfl, rfl, rfl, rfl, rfl, rfl, rfl, rfl, Nat.le_refl _, Nat.le_refl _, .inl ⟨rfl, rfl⟩, .inr ⟨rfl, rfl⟩⟩, rfl, rfl⟩

theorem op_look_push (n : Nat) (F : Foc H₀ H c) (G : Gl k c) (hkp : c.kept.length ≤ k) {num : Nat} {r : List AV} (hd : c.deed = .tup (.str "push" :: r)) (hv : ∃ v, r = [v]) (hr : c.row = .none) (ho : Ow c "push") :
    Rn (callP P09 (n + 2) "look" [.loc c.st, .int num, .loc c.w]) H fun told H2 => ∃ c2, c2.st = c.st ∧ Foc H₀ H2 c2 ∧ Nx k c s told c2 := by
  have lt : LT (tLook c) c.mark c.mark s c.mark := .inl ⟨_, rfl, rfl, rfl⟩
  obtain ⟨o, ho1, ho2⟩ := ho (.inl rfl)
  obtain ⟨v, b, hb1, hb2⟩ := G.boxes.at ho1
  refine Rn.mono (s_look_push n F (num := num) hd ho2 hb1) ?_
  rintro told H2 ⟨rfl, F2⟩
  have e : (c.boxes.set o (.tup [v, c.head])).length = c.boxes.length := List.length_set ..
  have hh : VIx (c.boxes.set o (.tup [v, c.head])).length c.head := by rw [e]; exact G.head
  refine ⟨_, by exact rfl, F2, G.up rfl hh (G.boxes.set o G.head) rfl (Nat.le_of_eq e.symm) rfl (by show (c.boxes.set o _).length ≤ _; omega), ⟨rfl, rfl, rfl, rfl, rfl, rfl, rfl, rfl, rfl, rfl, Nat.le_of_eq e.symm, Nat.le_refl _, .inl ⟨rfl, rfl⟩, .inr ⟨rfl, rfl⟩⟩, c.mark, lt, .inr ⟨rfl, ?_⟩⟩
  exact ⟨Nat.le_succ_of_le hkp, "push", r, .inl rfl, hd, fun _ => hv, .inr (.inr (.inr (.inl ⟨by show blk "push" = _; unfold blk; rw [if_pos (.inl rfl)], hr, fun _ => ⟨o, Nat.lt_of_lt_of_eq ho1 e.symm, ho2⟩, .inl rfl, c.head, c.mark, hh, rfl, ⟨rfl, Int.le_refl _, fun _ => rfl⟩, fun h => absurd rfl h, fun h => by rcases h with h | h <;> exact absurd h (by decide)⟩)))⟩

theorem lookN_gl (G : Gl k c) {w : Str} (ho : Ow c w) : Gl (k + 1) (cLookN c w) ∧ (cLookN c w).rows = c.rows := by
  have hlb := G.lb
  have hlr := G.lr
  have hls := G.ls
  unfold cLookN
  by_cases hs : w = "swap"
  · rw [if_pos hs]
    obtain ⟨o, ho1, ho2⟩ := ho (.inr hs)
    refine ⟨⟨G.kind, G.head, G.boxes, ?_, G.rows, by show c.boxes.length ≤ _; omega, by show (c.spare ++ [c.own]).length ≤ _; rw [List.length_append]; simp; omega, by show c.rows.length ≤ _; omega⟩, rfl⟩
    intro x hx
    have hx' : x ∈ c.spare ++ [c.own] := hx
    rcases List.mem_append.mp hx' with h | h
    · exact G.spare x h
    · rw [List.mem_singleton] at h
      exact ⟨o, h.trans ho2, ho1⟩
  · rw [if_neg hs]
    exact ⟨⟨G.kind, G.head, G.boxes, G.spare, G.rows, by show c.boxes.length ≤ _; omega, by show c.spare.length ≤ _; omega, by show c.rows.length ≤ _; omega⟩, rfl⟩

theorem op_look_none (n : Nat) (F : Foc H₀ H c) (G : Gl k c) (hk : k < 3000) {num : Nat} {w : Str} {r : List AV} (hn : c.hs[num]? = some (.loc c.hd)) (hW : Wd w) (hp : w ≠ "push") (hd : c.deed = .tup (.str w :: r)) (hr : c.row = .none) (ho : Ow c w) (hh : c.head = .none) :
    Rn (callP P09 (n + 3) "look" [.loc c.st, .int num, .loc c.w]) H fun told H2 => ∃ c2, c2.st = c.st ∧ Foc H₀ H2 c2 ∧ Nx k c s told c2 := by
  have hlr := G.lr
  have hls := G.ls
  obtain ⟨M, hpl, hmk⟩ := lookN_mon c w
  obtain ⟨G1, hrw⟩ := lookN_gl G ho
  refine Rn.mono (s_look_none n F hW hp hd hh hn hr (by omega) (by omega)) ?_
  rintro told H2 ⟨rfl, F2⟩
  generalize (if w = "clear" then AV.tup [] else .none) = ans at F2
  generalize cLookN c w = c1 at F2 M hpl hmk G1 hrw
  have M2 := end_mon (num := num) (ans := ans) M hpl
  have G2 : Gl (k + 1) (endNew c1 num ans) := end_ok G1.kind G1.head G1.boxes G1.spare G1.rows G1.lb G1.ls (by rw [hrw]; exact hlr)
  have e : (endNew c1 num ans).mark = c.mark := by cases c1; exact hmk
  have e2 : (endNew c1 num ans).wv = .none := by cases c1; rfl
  generalize endNew c1 num ans = c2 at F2 M2 G2 e e2
  exact ⟨c2, M2.st, F2, G2, M2, c.mark, by rw [e]; exact .inl ⟨_, rfl, rfl, rfl⟩, .inl e2⟩

theorem op_look_some (n : Nat) (F : Foc H₀ H c) (G : Gl k c) (hkp : c.kept.length ≤ k) {num i : Nat} {w : Str} {r : List AV} (hW : Wd w) (hp : w ≠ "push") (hd : c.deed = .tup (.str w :: r)) (hv : (w = "push" ∨ w = "swap") → ∃ v, r = [v]) (hr : c.row = .none) (ho : Ow c w) (hh : c.head = .int i) (hi : i < c.boxes.length) :
    Rn (callP P09 (n + 2) "look" [.loc c.st, .int num, .loc c.w]) H fun told H2 => ∃ c2, c2.st = c.st ∧ Foc H₀ H2 c2 ∧ Nx k c s told c2 := by
  have lt : LT (tLook c) c.mark c.mark s c.mark := .inl ⟨_, rfl, rfl, rfl⟩
  refine Rn.mono (s_look_some n F (num := num) hW hp hd hh) ?_
  rintro told H2 ⟨rfl, F2⟩
  refine ⟨_, by exact rfl, F2, G.up rfl G.head G.boxes rfl (Nat.le_refl _) rfl (Nat.le_succ _), ⟨rfl, rfl, rfl, rfl, rfl, rfl, rfl, rfl, rfl, rfl, Nat.le_refl _, Nat.le_refl _, .inl ⟨rfl, rfl⟩, .inr ⟨rfl, rfl⟩⟩, c.mark, lt, .inr ⟨rfl, Nat.le_succ_of_le hkp, w, r, hW, hd, hv, ?_⟩⟩
  by_cases hc : w = "clear"
  · have e : blk w = "put" := by unfold blk; rw [if_pos (.inr hc)]
    refine .inr (.inr (.inr (.inl ⟨e, hr, ho, .inr (.inl hc), c.head, c.mark, G.head, rfl, ⟨rfl, Int.le_refl _, fun _ => rfl⟩, ?_, ?_⟩)))
    · intro _ h
      rw [hh] at h; cases h
    · intro h
      rw [hc] at h
      rcases h with h | h <;> exact absurd h (by decide)
  · have e : blk w = "see" := by unfold blk; rw [if_neg (by rintro (h | h); exact hp h; exact hc h)]
    have hsn : (AV.tup [c.head, .int c.mark]) = .tup [.int i, .int c.mark] := by rw [hh]
    refine .inr (.inr (.inl ⟨e, hr, ho, ?_, i, c.mark, hi, hsn, ⟨rfl, Int.le_refl _, fun _ => hh⟩⟩))
    rcases hW with h | h | h | h | h
    · exact absurd h hp
    · exact .inl h
    · exact .inr (.inl h)
    · exact .inr (.inr h)
    · exact absurd h hc
end
end Mine


set_option autoImplicit false
set_option linter.unusedVariables false
set_option maxRecDepth 100000
namespace Mine
open PySem PyProof.Rows
section
variable {H₀ H : AHeap} {c : Cn} {k : Nat} {s : Int}

theorem lt_see {r : List AV} {m s : Int} : LT (.tup (.str "see" :: r)) m m s s := .inr (.inr ⟨"see", r, rfl, by kernel_rfl, by decide, by decide, rfl, rfl⟩)
theorem bse_top : bse "top" = "check" := by unfold bse; rw [if_pos rfl]
theorem bse_pop : bse "pop" = "put" := by unfold bse; rw [if_neg (by decide)]
theorem bse_swap : bse "swap" = "put" := by unfold bse; rw [if_neg (by decide)]

theorem op_see (n : Nat) (F : Foc H₀ H c) (G : Gl k c) (hkp : c.kept.length ≤ k) {w : Str} {r : List AV} {i : Nat} {m : Int} (hw : w = "swap" ∨ w = "pop" ∨ w = "top") (hd : c.deed = .tup (.str w :: r)) (hv : (w = "push" ∨ w = "swap") → ∃ v, r = [v]) (hr : c.row = .none) (ho : Ow c w)
    (hi : i < c.boxes.length) (hs : c.seen = .tup [.int i, .int m]) (hS : Sn c (.int i) m s) :
    Rn (callP P09 (n + 2) "see" [.loc c.st, .loc c.w]) H fun told H2 => ∃ c2, c2.st = c.st ∧ Foc H₀ H2 c2 ∧ Nx k c s told c2 := by
  obtain ⟨v, b, hb1, hb2⟩ := G.boxes.at hi
  obtain rfl | hw := hw
  · obtain ⟨o, ho1, ho2⟩ := ho (.inr rfl)
    obtain ⟨v', b', hb3, hb4⟩ := G.boxes.at ho1
    refine Rn.mono (s_see_swap n F hd hs hb1 ho2 hb3) ?_
    rintro told H2 ⟨rfl, F2⟩
    have e : (c.boxes.set o (.tup [v', b])).length = c.boxes.length := List.length_set ..
    have hh : VIx (c.boxes.set o (.tup [v', b])).length c.head := by rw [e]; exact G.head
    refine ⟨_, by exact rfl, F2, G.up rfl hh (G.boxes.set o hb2) rfl (Nat.le_of_eq e.symm) rfl (by show (c.boxes.set o _).length ≤ _; omega), ⟨rfl, rfl, rfl, rfl, rfl, rfl, rfl, rfl, rfl, rfl, Nat.le_of_eq e.symm, Nat.le_refl _, .inl ⟨rfl, rfl⟩, .inr ⟨rfl, rfl⟩⟩, s, lt_see, .inr ⟨rfl, ?_⟩⟩
    exact ⟨Nat.le_succ_of_le hkp, "swap", r, .inr (.inl rfl), hd, hv, .inr (.inr (.inr (.inl ⟨bse_swap, hr, fun _ => ⟨o, Nat.lt_of_lt_of_eq ho1 e.symm, ho2⟩, .inr (.inr (.inl rfl)), .int i, m, .inr ⟨i, rfl, Nat.lt_of_lt_of_eq hi e.symm⟩, hs, hS, (fun _ h => by cases h), fun _ => ⟨v, b, rfl, hb2.mono (Nat.le_of_eq e.symm)⟩⟩)))⟩
  · refine Rn.mono (s_see (n + 1) F hw hd hs hb1) ?_
    rintro told H2 ⟨rfl, F2⟩
    refine ⟨_, by exact rfl, F2, G.up rfl G.head G.boxes rfl (Nat.le_refl _) rfl (Nat.le_succ _), ⟨rfl, rfl, rfl, rfl, rfl, rfl, rfl, rfl, rfl, rfl, Nat.le_refl _, Nat.le_refl _, .inl ⟨rfl, rfl⟩, .inr ⟨rfl, rfl⟩⟩, s, lt_see, .inr ⟨rfl, ?_⟩⟩
    obtain rfl | rfl := hw
    · exact ⟨Nat.le_succ_of_le hkp, "pop", r, .inr (.inr (.inl rfl)), hd, hv, .inr (.inr (.inr (.inl ⟨bse_pop, hr, ho, .inr (.inr (.inr rfl)), .int i, m, .inr ⟨i, rfl, hi⟩, hs, hS, (fun _ h => by cases h), fun _ => ⟨v, b, rfl, hb2⟩⟩)))⟩
    · exact ⟨Nat.le_succ_of_le hkp, "top", r, .inr (.inr (.inr (.inl rfl))), hd, hv, .inr (.inr (.inr (.inr (.inl ⟨bse_top, hr, ho, ⟨.int i, m, .inr ⟨i, rfl, hi⟩, hs⟩, v, b, rfl⟩))))⟩

theorem still_is (G : Gl k c) {x : AV} {m : Int} (hx : VIx c.boxes.length x) (hS : Sn c x m s) : stillB c x m = decide (s = c.mark) := by
  obtain ⟨h1, h2, h3⟩ := hS
  subst h1
  unfold stillB
  rw [G.kind, show decide (("marks" : Str) ≠ "marks") = false from by decide]
  by_cases h : s = c.mark
  · rw [(eqIx_iff G.head.ix hx.ix).mpr (h3 h), decide_eq_true h, decide_eq_true h.symm]; rfl
  · rw [decide_eq_false h, decide_eq_false (fun e => h e.symm)]
    cases eqIx c.head x <;> rfl

theorem row0_seven {c : Cn} {num : Nat} {rows : List AV} (h : ∀ x ∈ rows, ∃ a1 a2 a3 a4 a5 a6 a7, x = AV.tup [a1, a2, a3, a4, a5, a6, a7]) : ∀ x ∈ rows ++ [row0 c num], ∃ a1 a2 a3 a4 a5 a6 a7, x = AV.tup [a1, a2, a3, a4, a5, a6, a7] := by
  intro x hx
  rcases List.mem_append.mp hx with h1 | h1
  · exact h x h1
  · rw [List.mem_singleton] at h1
    exact ⟨_, _, _, _, _, _, _, h1⟩

theorem sp_app (G : Gl k c) {i : Nat} (hi : i < c.boxes.length) : ∀ x ∈ c.spare ++ [.int i], ∃ j : Nat, x = .int j ∧ j < c.boxes.length := by
  intro x hx
  rcases List.mem_append.mp hx with h | h
  · exact G.spare x h
  · rw [List.mem_singleton] at h
    exact ⟨i, h, hi⟩

theorem clear_flat (c : Cn) (rows : List AV) : ((((((c.u_mark (c.mark + 1)).u_head .none).u_row (.int c.rows.length)).u_rows rows).u_walk c.head).u_next "walk") = { c with mark := c.mark + 1, head := .none, row := .int c.rows.length, rows := rows, walk := c.head, next := "walk" } := by
  cases c; rfl
theorem walkE_flat (c : Cn) (i j : Nat) (v b a1 a2 a3 a4 a5 : AV) : cWalkE c i j v b a1 a2 a3 a4 a5 = { c with kept := c.kept ++ [v], spare := c.spare ++ [.int i], walk := b, rows := c.rows.set j (.tup [a1, a2, a3, a4, a5, .int c.time, .tup (c.kept ++ [v])]), place := c.place + 1, wv := .none } := by
  cases c; rfl
theorem put_ok (G : Gl k c) (hkp : c.kept.length ≤ k) {num : Nat} {w : Str} {r : List AV} {x v bi : AV} (hw : w = "push" ∨ w = "clear" ∨ w = "swap" ∨ w = "pop") (hd : c.deed = .tup (.str w :: r)) (hv : (w = "push" ∨ w = "swap") → ∃ v, r = [v]) (ho : Ow c w) (hx : VIx c.boxes.length x) (hh : c.head = x) (hne : w ≠ "push" → x ≠ .none) (hb : w = "pop" → VIx c.boxes.length bi) :
    Gl (k + 1) (cPut c w num bi v) ∧ Mon c (cPut c w num bi v) ∧ (cPut c w num bi v).mark = c.mark + 1 ∧ ((cPut c w num bi v).wv = .none ∨ ((cPut c w num bi v).wv = c.wv ∧ Sg (k + 1) (cPut c w num bi v) s)) := by
  have hlb := G.lb
  have hlr := G.lr
  have hls := G.ls
  have lt1 : c.mark < c.mark + 1 := by omega
  by_cases h1 : w = "clear"
  · have e : cPut c w num bi v = ((((((c.u_mark (c.mark + 1)).u_head .none).u_row (.int c.rows.length)).u_rows (c.rows ++ [row0 c num])).u_walk c.head).u_next "walk") := by unfold cPut; rw [if_pos h1]
    rw [e, clear_flat]
    have er : (c.rows ++ [row0 c num]).length = c.rows.length + 1 := by simp
    obtain hx0 | ⟨i, hxi, hi⟩ := hx
    · exact absurd hx0 (hne (by rw [h1]; decide))
    refine ⟨⟨G.kind, .inl rfl, G.boxes, G.spare, row0_seven G.rows, by show c.boxes.length ≤ _; omega, by show c.spare.length ≤ _; omega, by show (c.rows ++ [row0 c num]).length ≤ _; omega⟩, ⟨rfl, rfl, rfl, rfl, rfl, rfl, rfl, rfl, rfl, rfl, Nat.le_refl _, by show _ ≤ (c.rows ++ [row0 c num]).length; omega, .inr lt1, .inr ⟨rfl, rfl⟩⟩, rfl, .inr ⟨rfl, ?_⟩⟩
    exact ⟨Nat.le_succ_of_le hkp, w, r, .inr (.inr (.inr (.inr h1))), hd, hv, .inr (.inr (.inr (.inr (.inr ⟨rfl, ⟨i, hi, hh.trans hxi⟩, c.rows.length, by show _ < (c.rows ++ [row0 c num]).length; omega, rfl⟩))))⟩
  · by_cases h2 : w = "push"
    · have e : cPut c w num bi v = endNew ((c.u_mark (c.mark + 1)).u_head c.own) num .none := by unfold cPut; rw [if_neg h1, if_pos h2]
      rw [e]
      obtain ⟨o, ho1, ho2⟩ := ho (.inl h2)
      have M1 : Mon c ((c.u_mark (c.mark + 1)).u_head c.own) := ⟨rfl, rfl, rfl, rfl, rfl, rfl, rfl, rfl, rfl, rfl, Nat.le_refl _, Nat.le_refl _, .inr lt1, .inr ⟨rfl, rfl⟩⟩
      have G1 : VIx ((c.u_mark (c.mark + 1)).u_head c.own).boxes.length ((c.u_mark (c.mark + 1)).u_head c.own).head := .inr ⟨o, ho2, ho1⟩
      exact ⟨end_ok (c1 := (c.u_mark (c.mark + 1)).u_head c.own) G.kind G1 G.boxes G.spare G.rows (by show c.boxes.length ≤ _; omega) (by show c.spare.length ≤ _; omega) hlr, end_mon M1 rfl, rfl, .inl rfl⟩
    · obtain hx0 | ⟨i, hxi, hi⟩ := hx
      · exact absurd hx0 (hne h2)
      have hhd : c.head = .int i := hh.trans hxi
      have es : (c.spare ++ [c.head]).length = c.spare.length + 1 := by simp
      have hsp : ∀ y ∈ c.spare ++ [c.head], ∃ j : Nat, y = .int j ∧ j < c.boxes.length := by rw [hhd]; exact sp_app G hi
      by_cases h4 : w = "pop"
      · have e : cPut c w num bi v = endNew ((((c.u_mark (c.mark + 1)).u_head c.own).u_head bi).u_spare (c.spare ++ [c.head])) num v := by unfold cPut; rw [if_neg h1, if_neg h2, if_pos h4]
        rw [e]
        have M1 : Mon c ((((c.u_mark (c.mark + 1)).u_head c.own).u_head bi).u_spare (c.spare ++ [c.head])) := ⟨rfl, rfl, rfl, rfl, rfl, rfl, rfl, rfl, rfl, rfl, Nat.le_refl _, Nat.le_refl _, .inr lt1, .inr ⟨rfl, rfl⟩⟩
        exact ⟨end_ok (c1 := (((c.u_mark (c.mark + 1)).u_head c.own).u_head bi).u_spare (c.spare ++ [c.head])) G.kind (hb h4) G.boxes hsp G.rows (by show c.boxes.length ≤ _; omega) (by show (c.spare ++ [c.head]).length ≤ _; omega) hlr, end_mon M1 rfl, rfl, .inl rfl⟩
      · have e : cPut c w num bi v = endNew (((c.u_mark (c.mark + 1)).u_head c.own).u_spare (c.spare ++ [c.head])) num v := by unfold cPut; rw [if_neg h1, if_neg h2, if_neg h4]
        rw [e]
        have h5 : w = "swap" := by
          rcases hw with h | h | h | h
          · exact absurd h h2
          · exact absurd h h1
          · exact h
          · exact absurd h h4
        obtain ⟨o, ho1, ho2⟩ := ho (.inr h5)
        have M1 : Mon c (((c.u_mark (c.mark + 1)).u_head c.own).u_spare (c.spare ++ [c.head])) := ⟨rfl, rfl, rfl, rfl, rfl, rfl, rfl, rfl, rfl, rfl, Nat.le_refl _, Nat.le_refl _, .inr lt1, .inr ⟨rfl, rfl⟩⟩
        have G1 : VIx c.boxes.length c.own := .inr ⟨o, ho2, ho1⟩
        exact ⟨end_ok (c1 := ((c.u_mark (c.mark + 1)).u_head c.own).u_spare (c.spare ++ [c.head])) G.kind G1 G.boxes hsp G.rows (by show c.boxes.length ≤ _; omega) (by show (c.spare ++ [c.head]).length ≤ _; omega) hlr, end_mon M1 rfl, rfl, .inl rfl⟩

theorem op_put (n : Nat) (F : Foc H₀ H c) (G : Gl k c) (hk : k < 3000) (hkp : c.kept.length ≤ k) {num : Nat} {w : Str} {r : List AV} {x : AV} {m : Int} (hn : c.hs[num]? = some (.loc c.hd)) (hw : w = "push" ∨ w = "clear" ∨ w = "swap" ∨ w = "pop") (hd : c.deed = .tup (.str w :: r)) (hv : (w = "push" ∨ w = "swap") → ∃ v, r = [v]) (hr : c.row = .none) (ho : Ow c w)
    (hx : VIx c.boxes.length x) (hs : c.seen = .tup [x, .int m]) (hS : Sn c x m s) (hne : w ≠ "push" → x ≠ .none) (hi : (w = "swap" ∨ w = "pop") → ∃ v b, c.inside = .tup [v, b] ∧ VIx c.boxes.length b) :
    Rn (callP P09 (n + 3) "put" [.loc c.st, .int num, .loc c.w]) H fun told H2 => ∃ c2, c2.st = c.st ∧ Foc H₀ H2 c2 ∧ Nx k c s told c2 := by
  have hlr := G.lr
  have hls := G.ls
  have hst := still_is G hx hS
  have hW : Wd w := by
    rcases hw with h | h | h | h
    · exact .inl h
    · exact .inr (.inr (.inr (.inr h)))
    · exact .inr (.inl h)
    · exact .inr (.inr (.inl h))
  by_cases hb : s = c.mark
  · rw [decide_eq_true hb] at hst
    obtain ⟨v, bi, h1, h2⟩ : ∃ v bi, ((w = "swap" ∨ w = "pop") → c.inside = .tup [v, bi]) ∧ (w = "pop" → VIx c.boxes.length bi) := by
      by_cases h : w = "swap" ∨ w = "pop"
      · obtain ⟨v, b, e1, e2⟩ := hi h
        exact ⟨v, b, fun _ => e1, fun _ => e2⟩
      · exact ⟨.none, .none, fun q => absurd q h, fun q => absurd (.inr q) h⟩
    refine Rn.mono (s_put_yes n F (num := num) hw G.kd G.head.ix hx.ix hs hst hd hn hr (by omega) (by omega) h1) ?_
    rintro told H2 ⟨rfl, F2⟩
    obtain ⟨G2, M2, e2, W2⟩ := put_ok (s := s) (num := num) (v := v) G hkp hw hd hv ho hx (hS.2.2 (hS.1.symm.trans hb)) hne h2
    generalize cPut c w num bi v = c2 at F2 G2 M2 e2 W2
    refine ⟨c2, M2.st, F2, G2, M2, s, .inr (.inl ⟨true, rfl, (decide_eq_true hb).symm, by rw [e2]; rfl, rfl⟩), W2⟩
  · rw [decide_eq_false hb] at hst
    refine Rn.mono (s_put_no (n + 1) F (num := num) G.kd G.head.ix hx.ix hs hst) ?_
    rintro told H2 ⟨rfl, F2⟩
    refine ⟨_, by exact rfl, F2, G.up rfl G.head G.boxes rfl (Nat.le_refl _) rfl (Nat.le_succ _), ⟨rfl, rfl, rfl, rfl, rfl, rfl, rfl, rfl, rfl, rfl, Nat.le_refl _, Nat.le_refl _, .inl ⟨rfl, rfl⟩, .inr ⟨rfl, rfl⟩⟩, s, .inr (.inl ⟨false, rfl, (decide_eq_false hb).symm, (Int.add_zero _).symm, rfl⟩), .inr ⟨rfl, ?_⟩⟩
    exact ⟨Nat.le_succ_of_le hkp, w, r, hW, hd, hv, .inr (.inl ⟨rfl, hr, ho⟩)⟩

theorem op_check (n : Nat) (F : Foc H₀ H c) (G : Gl k c) (hk : k < 3000) (hkp : c.kept.length ≤ k) {num : Nat} {w : Str} {r : List AV} {x v b : AV} {m : Int} (hn : c.hs[num]? = some (.loc c.hd)) (hW : Wd w) (hd : c.deed = .tup (.str w :: r)) (hv : (w = "push" ∨ w = "swap") → ∃ v, r = [v]) (hr : c.row = .none) (ho : Ow c w)
    (hx : VIx c.boxes.length x) (hs : c.seen = .tup [x, .int m]) (hi : c.inside = .tup [v, b]) :
    Rn (callP P09 (n + 3) "check" [.loc c.st, .int num, .loc c.w]) H fun told H2 => ∃ c2, c2.st = c.st ∧ Foc H₀ H2 c2 ∧ Nx k c s told c2 := by
  have hlb := G.lb
  have hlr := G.lr
  have hls := G.ls
  have lt : LT (tLook c) c.mark c.mark s c.mark := .inl ⟨_, rfl, rfl, rfl⟩
  have M1 : Mon c c := ⟨rfl, rfl, rfl, rfl, rfl, rfl, rfl, rfl, rfl, rfl, Nat.le_refl _, Nat.le_refl _, .inl ⟨rfl, rfl⟩, .inr ⟨rfl, rfl⟩⟩
  refine Rn.mono (s_check n F (num := num) G.kd G.head.ix hx.ix hs hn hr (by omega) hi) ?_
  rintro told H2 ⟨rfl, F2⟩
  cases hb : stillB c x m with
  | true =>
    rw [hb] at F2
    have F3 : Foc H₀ H2 (endNew c num v) := F2
    exact ⟨_, by exact rfl, F3, end_ok G.kind G.head G.boxes G.spare G.rows (by omega) (by omega) hlr, end_mon M1 rfl, c.mark, lt, .inl rfl⟩
  | false =>
    rw [hb] at F2
    have F3 : Foc H₀ H2 (c.u_next "look") := F2
    refine ⟨_, by exact rfl, F3, G.up rfl G.head G.boxes rfl (Nat.le_refl _) rfl (Nat.le_succ _), ⟨rfl, rfl, rfl, rfl, rfl, rfl, rfl, rfl, rfl, rfl, Nat.le_refl _, Nat.le_refl _, .inl ⟨rfl, rfl⟩, .inr ⟨rfl, rfl⟩⟩, c.mark, lt, .inr ⟨rfl, ?_⟩⟩
    exact ⟨Nat.le_succ_of_le hkp, w, r, hW, hd, hv, .inr (.inl ⟨rfl, hr, ho⟩)⟩

theorem op_walk (n : Nat) (F : Foc H₀ H c) (G : Gl k c) (hk : k < 3000) (hkp : c.kept.length ≤ k) {num i j : Nat} {w : Str} {r : List AV} (hn : c.hs[num]? = some (.loc c.hd)) (hW : Wd w) (hd : c.deed = .tup (.str w :: r)) (hv : (w = "push" ∨ w = "swap") → ∃ v, r = [v]) (hnx : c.next = "walk")
    (hi : i < c.boxes.length) (hwk : c.walk = .int i) (hj : j < c.rows.length) (hr : c.row = .int j) :
    Rn (callP P09 (n + 3) "walk" [.loc c.st, .int num, .loc c.w]) H fun told H2 => ∃ c2, c2.st = c.st ∧ Foc H₀ H2 c2 ∧ Nx k c s told c2 := by
  have hlb := G.lb
  have hlr := G.lr
  have hls := G.ls
  obtain ⟨v, b, hb1, hb2⟩ := G.boxes.at hi
  obtain ⟨a1, a2, a3, a4, a5, a6, a7, hrow⟩ := G.rows _ (List.getElem_mem hj)
  have hrow' : c.rows[j]? = some (.tup [a1, a2, a3, a4, a5, a6, a7]) := by rw [List.getElem?_eq_getElem hj, hrow]
  have es : (c.spare ++ [AV.int i]).length = c.spare.length + 1 := by simp
  have ek : (c.kept ++ [v]).length = c.kept.length + 1 := by simp
  refine Rn.mono (s_walk n F (num := num) hwk hb1 hb2.ix hn hr hrow' (by omega) (by omega)) ?_
  rintro told H2 ⟨rfl, F2⟩
  obtain rfl | ⟨i', rfl, hi'⟩ := hb2
  · have F3 : Foc H₀ H2 (cWalkE c i j v .none a1 a2 a3 a4 a5) := F2
    rw [walkE_flat] at F3
    have er : (c.rows.set j (.tup [a1, a2, a3, a4, a5, .int c.time, .tup (c.kept ++ [v])])).length = c.rows.length := List.length_set ..
    refine ⟨_, by exact rfl, F3, ⟨G.kind, G.head, G.boxes, sp_app G hi, ?_, by show c.boxes.length ≤ _; omega, by show (c.spare ++ [AV.int i]).length ≤ _; omega, by show (c.rows.set j _).length ≤ _; omega⟩, ⟨rfl, rfl, rfl, rfl, rfl, rfl, rfl, rfl, rfl, rfl, Nat.le_refl _, Nat.le_of_eq er.symm, .inl ⟨rfl, rfl⟩, .inl ⟨rfl, rfl⟩⟩, s, lt_see, .inl rfl⟩
    intro y hy
    rcases List.mem_or_eq_of_mem_set (show y ∈ c.rows.set j _ from hy) with h | h
    · exact G.rows y h
    · exact ⟨_, _, _, _, _, _, _, h⟩
  · have F3 : Foc H₀ H2 (cWalk c i v (.int i')) := F2
    refine ⟨_, by exact rfl, F3, ⟨G.kind, G.head, G.boxes, sp_app G hi, G.rows, by show c.boxes.length ≤ _; omega, by show (c.spare ++ [AV.int i]).length ≤ _; omega, by show c.rows.length ≤ _; omega⟩, ⟨rfl, rfl, rfl, rfl, rfl, rfl, rfl, rfl, rfl, rfl, Nat.le_refl _, Nat.le_refl _, .inl ⟨rfl, rfl⟩, .inr ⟨rfl, rfl⟩⟩, s, lt_see, .inr ⟨rfl, ?_⟩⟩
    exact ⟨by show (c.kept ++ [v]).length ≤ _; omega, w, r, hW, hd, hv, .inr (.inr (.inr (.inr (.inr ⟨hnx, ⟨i', hi', rfl⟩, j, hj, hr⟩))))⟩

/-- the step of a hand at work -/
theorem op_ok (n : Nat) (F : Foc H₀ H c) (G : Gl k c) (hk : k < 3000) {num : Nat} (hn : c.hs[num]? = some (.loc c.hd)) (S : Sg k c s) :
    PyData.strOk c.next = true ∧ Rn (opCall (n + 3) c num) H fun told H2 => ∃ c2, c2.st = c.st ∧ Foc H₀ H2 c2 ∧ Nx k c s told c2 := by
  obtain ⟨hkp, w, r, hW, hd, hv, S⟩ := S
  unfold opCall
  rcases S with ⟨e, hr, hw⟩ | ⟨e, hr, ho⟩ | ⟨e, hr, ho, hw, i, m, hi, hs, hS⟩ | ⟨e, hr, ho, hw, x, m, hx, hs, hS, hne, hi⟩ | ⟨e, hr, ho, ⟨x, m, hx, hs⟩, v, b, hi⟩ | ⟨e, ⟨i, hi, hwk⟩, j, hj, hr⟩
  · rw [e, if_pos rfl]
    obtain ⟨v, rfl⟩ := hv hw
    exact ⟨by kernel_rfl, op_take (n + 2) F G hk hkp hw hd hr⟩
  · rw [e, if_neg (by decide), if_pos rfl]
    refine ⟨by kernel_rfl, ?_⟩
    by_cases hp : w = "push"
    · subst hp
      exact op_look_push (n + 1) F G hkp hd (hv (.inl rfl)) hr ho
    · obtain hh | ⟨i, hh, hi⟩ := G.head
      · exact op_look_none n F G hk hn hW hp hd hr ho hh
      · exact op_look_some (n + 1) F G hkp hW hp hd hv hr ho hh hi
  · rw [e, if_neg (by decide), if_neg (by decide), if_pos rfl]
    exact ⟨by kernel_rfl, op_see (n + 1) F G hkp hw hd hv hr ho hi hs hS⟩
  · rw [e, if_neg (by decide), if_neg (by decide), if_neg (by decide), if_pos rfl]
    exact ⟨by kernel_rfl, op_put n F G hk hkp hn hw hd hv hr ho hx hs hS hne hi⟩
  · rw [e, if_neg (by decide), if_neg (by decide), if_neg (by decide), if_neg (by decide), if_pos rfl]
    exact ⟨by kernel_rfl, op_check n F G hk hkp hn hW hd hv hr ho hx hs hi⟩
  · have e' := e
    rw [e, if_neg (by decide), if_neg (by decide), if_neg (by decide), if_neg (by decide), if_neg (by decide)]
    exact ⟨by kernel_rfl, op_walk n F G hk hkp hn hW hd hv e' hi hwk hj hr⟩
end
end Mine


set_option autoImplicit false
set_option linter.unusedVariables false
set_option maxRecDepth 100000
namespace Mine
open PySem PyProof.Rows

/-- the state of g with the hand h -/
noncomputable def mix (g h : Cn) : Cn := { h with st := g.st, lb := g.lb, lsp := g.lsp, lh := g.lh, lr := g.lr, kind := g.kind, boxes := g.boxes, head := g.head, mark := g.mark, spare := g.spare, hs := g.hs, time := g.time, rows := g.rows }
theorem mix_self (c : Cn) : mix c c = c := by cases c; rfl
noncomputable def gl5 (c : Cn) : List Nat := [c.st, c.lb, c.lsp, c.lh, c.lr]
noncomputable def hlocs (h : Cn) : List Nat := match h.wv with
  | .none => [h.hd]
  | _ => [h.hd, h.kp, h.w]
/-- one hand's part of the heap -/
noncomputable def One (H : AHeap) (c : Cn) : Prop := (c.wv = .none ∧ Foc0 H H c) ∨ (c.wv = .loc c.w ∧ Foc H H c)
structure Rep (H : AHeap) (g : Cn) (hs : List Cn) : Prop where
  hsv : g.hs = hs.map fun h => .loc h.hd
  one : ∀ (i : Nat) h, hs[i]? = some h → One H (mix g h)
  ow : ∃ ow : Nat → Nat, (∀ l ∈ gl5 g, ow l = 0) ∧ ∀ (i : Nat) h, hs[i]? = some h → ∀ l ∈ hlocs h, ow l = i + 1

theorem mem8 {c : Cn} {l : Nat} (h : l ∈ c.ls) : l ∈ gl5 c ∨ l = c.hd ∨ l = c.kp ∨ l = c.w := by
  rcases List.mem_append.mp (show l ∈ gl5 c ++ [c.hd, c.kp, c.w] from h) with q | q
  · exact .inl q
  · exact .inr ((List.mem_cons.mp q).imp id fun q => (List.mem_cons.mp q).imp id fun q => List.mem_singleton.mp q)
theorem mem6 {c : Cn} {l : Nat} (h : l ∈ c.ls0) : l ∈ gl5 c ∨ l = c.hd := by
  rcases List.mem_append.mp (show l ∈ gl5 c ++ [c.hd] from h) with q | q
  · exact .inl q
  · exact .inr (List.mem_singleton.mp q)
theorem hl_none {c : Cn} (h : c.wv = .none) : hlocs c = [c.hd] := by unfold hlocs; rw [h]
theorem hl_loc {c : Cn} {l : Nat} (h : c.wv = .loc l) : hlocs c = [c.hd, c.kp, c.w] := by unfold hlocs; rw [h]

/-- a hand's part is kept where the state's own objects turn to those of c' and its own locs do not -/
theorem one_keep {H H' : AHeap} {g h c' : Cn} {L : List Nat} (O : One H (mix g h)) (e : gl5 c' = gl5 g) (F : ∀ (j l : Nat) (o : AO), (gl5 c')[j]? = some l → (c'.os)[j]? = some o → H'[l]? = some o) (hl : H.length ≤ H'.length) (hout : ∀ l, l < H.length → l ∉ L → H'[l]? = H[l]?) (hL : ∀ l ∈ hlocs h, l ∉ L) : One H' (mix c' h) := by
  have e1 : c'.st = g.st := (List.cons.inj e).1
  have e2 := (List.cons.inj e).2
  have e3 : c'.lb = g.lb := (List.cons.inj e2).1
  have e4 := (List.cons.inj e2).2
  have e5 : c'.lsp = g.lsp := (List.cons.inj e4).1
  have e6 := (List.cons.inj e4).2
  have e7 : c'.lh = g.lh := (List.cons.inj e6).1
  have e8 := (List.cons.inj e6).2
  have e9 : c'.lr = g.lr := (List.cons.inj e8).1
  have ls : (mix c' h).ls = (mix g h).ls := by show [c'.st, c'.lb, c'.lsp, c'.lh, c'.lr, h.hd, h.kp, h.w] = [g.st, g.lb, g.lsp, g.lh, g.lr, h.hd, h.kp, h.w]; rw [e1, e3, e5, e7, e9]
  have ls0 : (mix c' h).ls0 = (mix g h).ls0 := by show [c'.st, c'.lb, c'.lsp, c'.lh, c'.lr, h.hd] = [g.st, g.lb, g.lsp, g.lh, g.lr, h.hd]; rw [e1, e3, e5, e7, e9]
  have kp : ∀ {l : Nat} {o : AO}, l ∈ hlocs h → H[l]? = some o → H'[l]? = some o := fun hm ho => by
    rw [hout _ (List.getElem?_eq_some_iff.mp ho).1 (hL _ hm)]; exact ho
  rcases O with ⟨hv, O⟩ | ⟨hv, O⟩
  · refine .inl ⟨hv, ⟨?_, by rw [ls0]; exact O.nd, Nat.le_refl _, fun _ _ _ => rfl⟩⟩
    have m1 : h.hd ∈ hlocs h := by rw [hl_none (c := h) hv]; simp
    intro j l o hj ho
    match j, hj, ho with
    | 0, hj, ho => exact F 0 l o hj ho
    | 1, hj, ho => exact F 1 l o hj ho
    | 2, hj, ho => exact F 2 l o hj ho
    | 3, hj, ho => exact F 3 l o hj ho
    | 4, hj, ho => exact F 4 l o hj ho
    | 5, hj, ho =>
      have hj' : h.hd = l := Option.some.inj hj
      subst hj'
      exact kp m1 (O.all 5 h.hd o rfl ho)
    | j + 6, hj, ho => exact absurd hj (by simp [Cn.ls0])
  · refine .inr ⟨hv, ⟨?_, by rw [ls]; exact O.nd, Nat.le_refl _, fun _ _ _ => rfl⟩⟩
    have m1 : h.hd ∈ hlocs h ∧ h.kp ∈ hlocs h ∧ h.w ∈ hlocs h := by rw [hl_loc (c := h) (l := h.w) hv]; simp
    intro j l o hj ho
    match j, hj, ho with
    | 0, hj, ho => exact F 0 l o hj ho
    | 1, hj, ho => exact F 1 l o hj ho
    | 2, hj, ho => exact F 2 l o hj ho
    | 3, hj, ho => exact F 3 l o hj ho
    | 4, hj, ho => exact F 4 l o hj ho
    | 5, hj, ho =>
      have hj' : h.hd = l := Option.some.inj hj
      subst hj'
      exact kp m1.1 (O.all 5 h.hd o rfl ho)
    | 6, hj, ho =>
      have hj' : h.kp = l := Option.some.inj hj
      subst hj'
      exact kp m1.2.1 (O.all 6 h.kp o rfl ho)
    | 7, hj, ho =>
      have hj' : h.w = l := Option.some.inj hj
      subst hj'
      exact kp m1.2.2 (O.all 7 h.w o rfl ho)
    | j + 8, hj, ho => exact absurd hj (by simp [Cn.ls])

theorem One.lt {H : AHeap} {g h : Cn} (O : One H (mix g h)) {l : Nat} (hl : l ∈ hlocs h) : l < H.length := by
  rcases O with ⟨hv, O⟩ | ⟨hv, O⟩
  · rw [hl_none (c := h) hv] at hl
    simp at hl
    subst hl
    exact (List.getElem?_eq_some_iff.mp (O.all 5 h.hd _ rfl rfl)).1
  · rw [hl_loc (c := h) (l := h.w) hv] at hl
    simp at hl
    rcases hl with rfl | rfl | rfl
    · exact (List.getElem?_eq_some_iff.mp (O.all 5 h.hd _ rfl rfl)).1
    · exact (List.getElem?_eq_some_iff.mp (O.all 6 h.kp _ rfl rfl)).1
    · exact (List.getElem?_eq_some_iff.mp (O.all 7 h.w _ rfl rfl)).1

theorem Rep.step {H H' : AHeap} {g h c' : Cn} {hs : List Cn} {i : Nat} {L : List Nat} (R : Rep H g hs) (hi : hs[i]? = some h) (O : One H' c') (e : gl5 c' = gl5 g) (ehs : c'.hs = g.hs) (ehd : c'.hd = h.hd)
    (F : ∀ (j l : Nat) (o : AO), (gl5 c')[j]? = some l → (c'.os)[j]? = some o → H'[l]? = some o) (hl : H.length ≤ H'.length) (hout : ∀ l, l < H.length → l ∉ L → H'[l]? = H[l]?)
    (hL : ∀ l ∈ L, l ∈ gl5 g ∨ l ∈ hlocs h ∨ H.length ≤ l) (hn : ∀ l ∈ hlocs c', l ∈ hlocs h ∨ H.length ≤ l) : Rep H' c' (hs.set i c') where
  hsv := by
    rw [ehs, R.hsv, List.map_set]
    have hil := (List.getElem?_eq_some_iff.mp hi).1
    apply List.ext_getElem?
    intro j
    by_cases hij : i = j
    · subst hij
      rw [List.getElem?_set_self (by rw [List.length_map]; exact hil), List.getElem?_map, hi, ehd]; rfl
    · rw [List.getElem?_set_ne hij]
  one := fun j hj hjj => by
    obtain ⟨ow, o1, o2⟩ := R.ow
    by_cases hij : i = j
    · subst hij
      rw [List.getElem?_set_self (List.getElem?_eq_some_iff.mp hi).1] at hjj
      cases hjj
      rw [mix_self]; exact O
    · rw [List.getElem?_set_ne hij] at hjj
      have Oj := R.one j hj hjj
      refine one_keep Oj e F hl hout fun l hlm hLm => ?_
      have q := o2 j hj hjj l hlm
      rcases hL l hLm with z | z | z
      · rw [o1 l z] at q; omega
      · rw [o2 i h hi l z] at q; omega
      · exact absurd (Oj.lt hlm) (by omega)
  ow := by
    obtain ⟨ow, o1, o2⟩ := R.ow
    refine ⟨fun l => if l < H.length then ow l else i + 1, fun l hm => ?_, fun j hj hjj l hm => ?_⟩
    · rw [e] at hm
      have hlt : l < H.length := by
        have Oi := R.one i h hi
        have : ∃ o, H[l]? = some o := by
          simp only [gl5, List.mem_cons, List.not_mem_nil, or_false] at hm
          rcases Oi with ⟨_, Oi⟩ | ⟨_, Oi⟩
          · rcases hm with rfl | rfl | rfl | rfl | rfl
            · exact ⟨_, Oi.all 0 g.st _ rfl rfl⟩
            · exact ⟨_, Oi.all 1 g.lb _ rfl rfl⟩
            · exact ⟨_, Oi.all 2 g.lsp _ rfl rfl⟩
            · exact ⟨_, Oi.all 3 g.lh _ rfl rfl⟩
            · exact ⟨_, Oi.all 4 g.lr _ rfl rfl⟩
          · rcases hm with rfl | rfl | rfl | rfl | rfl
            · exact ⟨_, Oi.all 0 g.st _ rfl rfl⟩
            · exact ⟨_, Oi.all 1 g.lb _ rfl rfl⟩
            · exact ⟨_, Oi.all 2 g.lsp _ rfl rfl⟩
            · exact ⟨_, Oi.all 3 g.lh _ rfl rfl⟩
            · exact ⟨_, Oi.all 4 g.lr _ rfl rfl⟩
        obtain ⟨o, ho⟩ := this
        exact (List.getElem?_eq_some_iff.mp ho).1
      simp only [hlt, if_true]
      exact o1 l hm
    · by_cases hij : i = j
      · subst hij
        rw [List.getElem?_set_self (List.getElem?_eq_some_iff.mp hi).1] at hjj
        cases hjj
        rcases hn l hm with z | z
        · have hlt := (R.one i h hi).lt z
          simp only [hlt, if_true]
          exact o2 i h hi l z
        · have hlt : ¬ l < H.length := by omega
          simp only [hlt, if_false]
      · rw [List.getElem?_set_ne hij] at hjj
        have hlt := (R.one j hj hjj).lt hm
        simp only [hlt, if_true]
        exact o2 j hj hjj l hm

/-- what stands of the state in a Foc -/
theorem foc_g {H₀ H : AHeap} {c : Cn} (F : Foc H₀ H c) : ∀ (j l : Nat) (o : AO), (gl5 c)[j]? = some l → (c.os)[j]? = some o → H[l]? = some o := fun j l o hj ho => by
  match j, hj, ho with
  | 0, hj, ho => exact F.all 0 l o hj ho
  | 1, hj, ho => exact F.all 1 l o hj ho
  | 2, hj, ho => exact F.all 2 l o hj ho
  | 3, hj, ho => exact F.all 3 l o hj ho
  | 4, hj, ho => exact F.all 4 l o hj ho
  | j + 5, hj, ho => exact absurd hj (by simp [gl5])
theorem foc0_g {H₀ H : AHeap} {c : Cn} (F : Foc0 H₀ H c) : ∀ (j l : Nat) (o : AO), (gl5 c)[j]? = some l → (c.os)[j]? = some o → H[l]? = some o := fun j l o hj ho => by
  match j, hj, ho with
  | 0, hj, ho => exact F.all 0 l o hj ho
  | 1, hj, ho => exact F.all 1 l o hj ho
  | 2, hj, ho => exact F.all 2 l o hj ho
  | 3, hj, ho => exact F.all 3 l o hj ho
  | 4, hj, ho => exact F.all 4 l o hj ho
  | j + 5, hj, ho => exact absurd hj (by simp [gl5])
theorem foc_one {H₀ H : AHeap} {c : Cn} (F : Foc H₀ H c) (h : c.wv = .none ∨ c.wv = .loc c.w) : One H c := by
  rcases h with h | h
  · refine .inl ⟨h, ⟨?_, (List.nodup_append.mp (show (c.ls0 ++ [c.kp, c.w]).Nodup from F.nd)).1, Nat.le_refl _, fun _ _ _ => rfl⟩⟩
    intro j l o hj ho
    match j, hj, ho with
    | 0, hj, ho => exact F.all 0 l o hj ho
    | 1, hj, ho => exact F.all 1 l o hj ho
    | 2, hj, ho => exact F.all 2 l o hj ho
    | 3, hj, ho => exact F.all 3 l o hj ho
    | 4, hj, ho => exact F.all 4 l o hj ho
    | 5, hj, ho => exact F.all 5 l o hj ho
    | j + 6, hj, ho => exact absurd hj (by simp [Cn.ls0])
  · exact .inr ⟨h, ⟨F.all, F.nd, Nat.le_refl _, fun _ _ _ => rfl⟩⟩
end Mine


set_option autoImplicit false
set_option linter.unusedVariables false
set_option maxRecDepth 100000
namespace Mine
open PySem PyProof.Rows

noncomputable def DOk (d : AV) : Prop := ∃ w r, Wd w ∧ d = .tup (.str w :: r) ∧ ((w = "push" ∨ w = "swap") → ∃ v, r = [v])
structure HOk (k : Nat) (g h : Cn) (s : Int) : Prop where
  prog : ∀ d ∈ h.prog, DOk d
  place : ∃ p : Nat, h.place = p ∧ p ≤ h.prog.length ∧ (h.wv ≠ .none → p < h.prog.length)
  work : h.wv = .none ∨ (h.wv = .loc h.w ∧ Sg k (mix g h) s)

theorem Sn.mono {g g' : Cn} {h : Cn} {x : AV} {m s : Int} (S : Sn (mix g h) x m s) (hm : (g'.mark = g.mark ∧ g'.head = g.head) ∨ g.mark < g'.mark) : Sn (mix g' h) x m s := by
  obtain ⟨h1, h2, h3⟩ := S
  have h2' : m ≤ g.mark := h2
  have h3' : m = g.mark → g.head = x := h3
  rcases hm with ⟨e1, e2⟩ | e
  · exact ⟨h1, by show m ≤ g'.mark; omega, fun q => by show g'.head = x; rw [e2]; exact h3' (by have q' : m = g'.mark := q; omega)⟩
  · exact ⟨h1, by show m ≤ g'.mark; omega, fun q => by have q' : m = g'.mark := q; omega⟩
theorem Ow.mono {g g' h : Cn} {w : Str} (S : Ow (mix g h) w) (hb : g.boxes.length ≤ g'.boxes.length) : Ow (mix g' h) w := fun q => by
  obtain ⟨o, h1, h2⟩ := S q
  exact ⟨o, Nat.lt_of_lt_of_le (show o < g.boxes.length from h1) hb, h2⟩
theorem Sg.mono {k : Nat} {g g' h : Cn} {s : Int} (S : Sg k (mix g h) s) (hb : g.boxes.length ≤ g'.boxes.length) (hr : g.rows.length ≤ g'.rows.length) (hm : (g'.mark = g.mark ∧ g'.head = g.head) ∨ g.mark < g'.mark) : Sg (k + 1) (mix g' h) s := by
  obtain ⟨hkp, w, r, hW, hd, hv, S⟩ := S
  refine ⟨Nat.le_succ_of_le hkp, w, r, hW, hd, hv, ?_⟩
  rcases S with ⟨e, hr, hw⟩ | ⟨e, hr, ho⟩ | ⟨e, hr, ho, hw, i, m, hi, hs, hS⟩ | ⟨e, hr, ho, hw, x, m, hx, hs, hS, hne, hi⟩ | ⟨e, hr, ho, ⟨x, m, hx, hs⟩, v, b, hi⟩ | ⟨e, ⟨i, hi, hwk⟩, j, hj, hrr⟩
  · exact .inl ⟨e, hr, hw⟩
  · exact .inr (.inl ⟨e, hr, ho.mono hb⟩)
  · exact .inr (.inr (.inl ⟨e, hr, ho.mono hb, hw, i, m, Nat.lt_of_lt_of_le hi hb, hs, hS.mono hm⟩))
  · refine .inr (.inr (.inr (.inl ⟨e, hr, ho.mono hb, hw, x, m, hx.mono hb, hs, hS.mono hm, hne, fun q => ?_⟩)))
    obtain ⟨v, b, h1, h2⟩ := hi q
    exact ⟨v, b, h1, h2.mono hb⟩
  · exact .inr (.inr (.inr (.inr (.inl ⟨e, hr, ho.mono hb, ⟨x, m, hx.mono hb, hs⟩, v, b, hi⟩))))
  · exact .inr (.inr (.inr (.inr (.inr ⟨e, ⟨i, Nat.lt_of_lt_of_le hi hb, hwk⟩, j, Nat.lt_of_lt_of_le hj hr, hrr⟩))))
theorem HOk.mono {k : Nat} {g g' h : Cn} {s : Int} (S : HOk k g h s) (hb : g.boxes.length ≤ g'.boxes.length) (hr : g.rows.length ≤ g'.rows.length) (hm : (g'.mark = g.mark ∧ g'.head = g.head) ∨ g.mark < g'.mark) : HOk (k + 1) g' h s :=
  ⟨S.prog, S.place, S.work.imp id fun q => ⟨q.1, q.2.mono hb hr hm⟩⟩
theorem Gl.time {k : Nat} {c : Cn} (G : Gl k c) (t : Int) : Gl k (c.u_time t) := ⟨G.kind, G.head, G.boxes, G.spare, G.rows, G.lb, G.ls, G.lr⟩
theorem Sg.time {k : Nat} {c : Cn} {s : Int} (S : Sg k c s) (t : Int) : Sg k (c.u_time t) s := S

/-- no object of the state's -/
noncomputable def Free (g : Cn) (hs : List Cn) (l : Nat) : Prop := l ∉ gl5 g ∧ ∀ (i : Nat) h, hs[i]? = some h → l ∉ hlocs h
theorem Free.step {g h c' : Cn} {hs : List Cn} {i l n : Nat} (f : Free g hs l) (hl : l < n) (hi : hs[i]? = some h) (e : gl5 c' = gl5 g) (hn : ∀ x ∈ hlocs c', x ∈ hlocs h ∨ n ≤ x) : Free c' (hs.set i c') l := by
  refine ⟨by rw [e]; exact f.1, fun j hj hjj hm => ?_⟩
  by_cases hij : i = j
  · subst hij
    rw [List.getElem?_set_self (List.getElem?_eq_some_iff.mp hi).1] at hjj
    cases hjj
    rcases hn l hm with z | z
    · exact f.2 i h hi z
    · omega
  · rw [List.getElem?_set_ne hij] at hjj
    exact f.2 j hj hjj hm
noncomputable def Fin (H : AHeap) (k : Nat) (g : Cn) (hs : List Cn) (seen : List Int) (i : Nat) (told : AV) (H' : AHeap) : Prop := ∃ g' hs' s', Rep H' g' hs' ∧ (H.length ≤ H'.length ∧ ∀ l, l < H.length → Free g hs l → H'[l]? = H[l]? ∧ Free g' hs' l) ∧ Gl (k + 1) g' ∧ g'.st = g.st ∧ hs'.length = hs.length ∧ (∀ (j : Nat) h s, hs'[j]? = some h → (seen.set i s')[j]? = some s → HOk (k + 1) g' h s) ∧ ∃ s, seen[i]? = some s ∧ LT told g.mark g'.mark s s'

section
variable {H : AHeap} {g h : Cn} {hs : List Cn} {seen : List Int} {i k : Nat} {s : Int}

/-- behind the step of a hand at work -/
theorem fin_work {H' : AHeap} {c c2 : Cn} {told : AV} {t : Int} (R : Rep H g hs) (I : ∀ (j : Nat) h s, hs[j]? = some h → seen[j]? = some s → HOk k g h s) (hi : hs[i]? = some h) (hsi : seen[i]? = some s)
    (F : Foc H H' (c2.u_time t)) (N : Nx k c s told c2) (eg : gl5 c = gl5 g) (e1 : c.hs = g.hs) (e2 : c.hd = h.hd) (e3 : c.prog = h.prog) (e4 : c.place = h.place) (e5 : c.boxes = g.boxes) (e6 : c.rows = g.rows) (e7 : c.mark = g.mark) (e8 : c.head = g.head) (hwv : c.wv = .loc c.w)
    (hpl : ∃ p : Nat, c.place = p ∧ p < c.prog.length) (hl : (c.kp ∈ hlocs h ∧ c.w ∈ hlocs h) ∨ (H.length ≤ c.kp ∧ H.length ≤ c.w)) (hpr : ∀ d ∈ c.prog, DOk d) : Fin H k g hs seen i told H' := by
  obtain ⟨G2, M, s', hLT, hW⟩ := N
  have eg2 : gl5 c2 = gl5 g := by
    rw [← eg]
    show [c2.st, c2.lb, c2.lsp, c2.lh, c2.lr] = [c.st, c.lb, c.lsp, c.lh, c.lr]
    rw [M.st, M.lb, M.lsp, M.lh, M.lr]
  have est : c2.st = g.st := (List.cons.inj eg2).1
  have hdm : h.hd ∈ hlocs h := by
    unfold hlocs
    split <;> simp
  have hwv2 : c2.wv = .none ∨ c2.wv = .loc c2.w := by
    rcases hW with q | q
    · exact .inl q
    · exact .inr (by rw [q.1, hwv, M.w])
  have sub : ∀ l, l = c2.hd ∨ l = c2.kp ∨ l = c2.w → l ∈ hlocs h ∨ H.length ≤ l := by
    intro l q
    rw [M.hd, M.kp, M.w] at q
    rcases q with rfl | rfl | rfl
    · rw [e2]; exact .inl hdm
    · rcases hl with z | z; exact .inl z.1; exact .inr z.1
    · rcases hl with z | z; exact .inl z.2; exact .inr z.2
  have hil := (List.getElem?_eq_some_iff.mp hi).1
  have hsl := (List.getElem?_eq_some_iff.mp hsi).1
  have sub2 : ∀ l ∈ hlocs (c2.u_time t), l ∈ hlocs h ∨ H.length ≤ l := by
    intro l hlm
    have : l = c2.hd ∨ l = c2.kp ∨ l = c2.w := by
      rcases hwv2 with q | q
      · rw [hl_none (c := c2.u_time t) q] at hlm
        simp at hlm
        exact .inl hlm
      · rw [hl_loc (c := c2.u_time t) (l := c2.w) q] at hlm
        simp at hlm
        exact hlm
    exact sub l this
  have sub3 : ∀ l ∈ (c2.u_time t).ls, l ∈ gl5 g ∨ l ∈ hlocs h ∨ H.length ≤ l := by
    intro l hlm
    rcases mem8 hlm with q | q
    · exact .inl (eg2 ▸ q)
    · exact .inr (sub l q)
  have frame : H.length ≤ H'.length ∧ ∀ l, l < H.length → Free g hs l → H'[l]? = H[l]? ∧ Free (c2.u_time t) (hs.set i (c2.u_time t)) l := by
    refine ⟨F.len, fun l hlt f => ⟨F.out l hlt fun hm => ?_, f.step hlt hi eg2 sub2⟩⟩
    rcases sub3 l hm with z | z | z
    · exact f.1 z
    · exact f.2 i h hi z
    · omega
  refine ⟨c2.u_time t, hs.set i (c2.u_time t), s', ?_, frame, G2.time t, est, by rw [List.length_set], ?_, s, hsi, ?_⟩
  · exact R.step (L := (c2.u_time t).ls) hi (foc_one F hwv2) eg2 (M.hs.trans e1) (M.hd.trans e2) (foc_g F) F.len (fun l a b => F.out l a b) sub3 sub2
  · intro j hj sj hjj hsj
    by_cases hij : i = j
    · subst hij
      rw [List.getElem?_set_self hil] at hjj
      rw [List.getElem?_set_self hsl] at hsj
      cases hjj
      cases hsj
      obtain ⟨p, hp1, hp2⟩ := hpl
      refine ⟨?_, ?_, ?_⟩
      · show ∀ d ∈ c2.prog, DOk d
        rw [M.prog]; exact hpr
      · show ∃ p : Nat, c2.place = p ∧ p ≤ c2.prog.length ∧ (c2.wv ≠ .none → p < c2.prog.length)
        rw [M.prog]
        rcases M.pl with ⟨q1, q2⟩ | ⟨q1, q2⟩
        · exact ⟨p + 1, by rw [q2, hp1]; rfl, hp2, fun q => absurd q1 q⟩
        · exact ⟨p, by rw [q2, hp1], Nat.le_of_lt hp2, fun _ => hp2⟩
      · rcases hW with q | q
        · exact .inl q
        · refine .inr ⟨by show c2.wv = .loc c2.w; rw [q.1, hwv, M.w], ?_⟩
          rw [mix_self]
          exact q.2.time t
    · rw [List.getElem?_set_ne hij] at hjj hsj
      refine (I j hj sj hjj hsj).mono ?_ ?_ ?_
      · show g.boxes.length ≤ c2.boxes.length
        rw [← e5]; exact M.bl
      · show g.rows.length ≤ c2.rows.length
        rw [← e6]; exact M.rl
      · show (c2.mark = g.mark ∧ c2.head = g.head) ∨ g.mark < c2.mark
        rw [← e7, ← e8]; exact M.mh
  · show LT told g.mark c2.mark s s'
    rw [← e7]; exact hLT

theorem go_step (n : Nat) (R : Rep H g hs) (G : Gl k g) (I : ∀ (j : Nat) h s, hs[j]? = some h → seen[j]? = some s → HOk k g h s) (hk : k < 3000) (hi : hs[i]? = some h) (hsi : seen[i]? = some s) :
    Rn (callP P09 (n + 5) "go" [.loc g.st, .int i]) H (Fin H k g hs seen i) := by
  have Ih := I i h s hi hsi
  obtain ⟨p, hp1, hp2, hp3⟩ := Ih.place
  have hn : g.hs[i]? = some (.loc h.hd) := by rw [R.hsv, List.getElem?_map, hi]; rfl
  have Gm : Gl k (mix g h) := ⟨G.kind, G.head, G.boxes, G.spare, G.rows, G.lb, G.ls, G.lr⟩
  rcases R.one i h hi with ⟨hv, F⟩ | ⟨hv, F⟩
  · have hv' : h.wv = .none := hv
    by_cases hpl : p = h.prog.length
    · -- at rest
      refine Rn.mono (s_go_rest (n + 4) F (num := i) hn hv (by show h.place = (h.prog.length : Int); rw [hp1, hpl])) ?_
      rintro told H' ⟨rfl, F'⟩
      have hil := (List.getElem?_eq_some_iff.mp hi).1
      have hsl := (List.getElem?_eq_some_iff.mp hsi).1
      have hdm : h.hd ∈ hlocs h := by rw [hl_none (c := h) hv']; simp
      have sub2 : ∀ l ∈ hlocs ((mix g h).u_time (g.time + 1)), l ∈ hlocs h ∨ H.length ≤ l := by
        intro l hlm
        rw [hl_none (c := (mix g h).u_time (g.time + 1)) hv] at hlm
        simp at hlm
        have q' : l = h.hd := hlm
        rw [q']; exact .inl hdm
      have sub3 : ∀ l ∈ ((mix g h).u_time (g.time + 1)).ls0, l ∈ gl5 g ∨ l ∈ hlocs h ∨ H.length ≤ l := by
        intro l hlm
        rcases mem6 hlm with q | q
        · exact .inl q
        · have q' : l = h.hd := q
          rw [q']; exact .inr (.inl hdm)
      have frame : H.length ≤ H'.length ∧ ∀ l, l < H.length → Free g hs l → H'[l]? = H[l]? ∧ Free ((mix g h).u_time (g.time + 1)) (hs.set i ((mix g h).u_time (g.time + 1))) l := by
        refine ⟨F'.len, fun l hlt f => ⟨F'.out l hlt fun hm => ?_, f.step hlt hi rfl sub2⟩⟩
        rcases sub3 l hm with z | z | z
        · exact f.1 z
        · exact f.2 i h hi z
        · omega
      refine ⟨(mix g h).u_time (g.time + 1), hs.set i ((mix g h).u_time (g.time + 1)), s, ?_, frame, (Gm.time _).up rfl Gm.head Gm.boxes rfl (Nat.le_refl _) rfl (Nat.le_succ _), rfl, by rw [List.length_set], ?_, s, hsi, .inr (.inr ⟨"rest", _, rfl, by kernel_rfl, by decide, by decide, rfl, rfl⟩)⟩
      · exact R.step (L := ((mix g h).u_time (g.time + 1)).ls0) hi (.inl ⟨hv, ⟨F'.all, F'.nd, Nat.le_refl _, fun _ _ _ => rfl⟩⟩) rfl rfl rfl (foc0_g F') F'.len (fun l a b => F'.out l a b) sub3 sub2
      · intro j hj sj hjj hsj
        by_cases hij : i = j
        · subst hij
          rw [List.getElem?_set_self hil] at hjj
          cases hjj
          exact ⟨Ih.prog, Ih.place, .inl hv⟩
        · rw [List.getElem?_set_ne hij] at hjj hsj
          exact (I j hj sj hjj hsj).mono (Nat.le_refl _) (Nat.le_refl _) (.inl ⟨rfl, rfl⟩)
    · -- a deed is begun
      have hplt : p < h.prog.length := by omega
      obtain ⟨w, r, hW, hd, hvv⟩ := Ih.prog _ (List.getElem_mem hplt)
      have hd' : (mix g h).prog[p]? = some (.tup (.str w :: r)) := by show h.prog[p]? = _; rw [List.getElem?_eq_getElem hplt, hd]
      obtain ⟨a, H1, hw1, rfl, F1⟩ := s_work_new (n + 3) F (num := i) hn hv hp1 hd' hW
      have hkl : ((mix g h).beg H.length (H.length + 1) (.tup (.str w :: r)) (fst w)).kept.length ≤ k := Nat.zero_le _
      have S1 : Sg k (((mix g h).beg H.length (H.length + 1) (.tup (.str w :: r)) (fst w)).u_wv (.loc (H.length + 1))) s := by
        refine ⟨Nat.zero_le _, w, r, hW, rfl, hvv, ?_⟩
        by_cases hps : w = "push" ∨ w = "swap"
        · exact .inl ⟨by show fst w = _; unfold fst; rw [if_pos hps], rfl, hps⟩
        · exact .inr (.inl ⟨by show fst w = _; unfold fst; rw [if_neg hps], rfl, fun q => absurd q hps⟩)
      have G1 : Gl k (((mix g h).beg H.length (H.length + 1) (.tup (.str w :: r)) (fst w)).u_wv (.loc (H.length + 1))) := ⟨G.kind, G.head, G.boxes, G.spare, G.rows, G.lb, G.ls, G.lr⟩
      obtain ⟨hok, hop⟩ := op_ok (n + 1) F1 G1 hk (num := i) hn S1
      refine Rn.mono (s_go (n + 3) (num := i) (hd := h.hd) (hand := []) (wv := .none) (place := p) (prog := h.prog) (c := ((mix g h).beg H.length (H.length + 1) (.tup (.str w :: r)) (fst w)).u_wv (.loc (H.length + 1))) F.gHands (item_loc F.h hn) (by have q := F.gWork; rw [hv] at q; exact q) (by have q := F.gPlace; rw [show (mix g h).place = (p : Int) from hp1] at q; exact q) F.gProg (.inr (by omega)) hok hw1 F1 hop) ?_
      rintro told H' ⟨c2, F2, N2⟩
      exact fin_work R I hi hsi F2 N2 rfl rfl rfl rfl rfl rfl rfl rfl rfl rfl ⟨p, hp1, hplt⟩ (.inr ⟨Nat.le_refl _, Nat.le_succ _⟩) Ih.prog
  · -- at work
    have hv' : h.wv = .loc h.w := hv
    have S1 : Sg k (mix g h) s := by
      rcases Ih.work with q | q
      · rw [q] at hv'; cases hv'
      · exact q.2
    have hplt : p < h.prog.length := hp3 (by rw [hv']; intro q; cases q)
    obtain ⟨hok, hop⟩ := op_ok (n + 1) F Gm hk (num := i) hn S1
    refine Rn.mono (s_go (n + 3) (num := i) (hd := h.hd) (hand := []) (wv := .loc h.w) (place := p) (prog := h.prog) (c := mix g h) F.gHands (item_loc F.h hn) (by have q := F.gWork; rw [hv] at q; exact q) (by have q := F.gPlace; rw [show (mix g h).place = (p : Int) from hp1] at q; exact q) F.gProg (.inl rfl) hok (s_work_old (n + 3) F hn hv) F hop) ?_
    rintro told H' ⟨c2, F2, N2⟩
    exact fin_work R I hi hsi F2 N2 rfl rfl rfl rfl rfl rfl rfl rfl rfl hv ⟨p, hp1, hplt⟩ (.inl (by rw [hl_loc (c := h) hv']; exact ⟨by show h.kp ∈ _; simp, by show h.w ∈ _; simp⟩)) Ih.prog
end
end Mine


set_option autoImplicit false
set_option linter.unusedVariables false
set_option maxRecDepth 100000
namespace Mine
open PySem PyProof.Rows

noncomputable def mixed (c k : Int) : Int := (((c + 7919 * k) * 48271).fmod 2147483647 * ((c + 7919 * k) * 48271).fmod 2147483647).fmod 2147483629
theorem mixed_ge (c k : Int) : 0 ≤ mixed c k := (fmod_lt _ (by decide)).1
noncomputable def cellAt (ns : List Int) (k : Nat) : Int := match ns[k]? with
  | some c => mixed c k
  | none => 0
noncomputable def valueBy (c : Int) : Int := if c.fmod 4 = 0 then c.fdiv 4 * 7919 * 7919 * 7919 - 100000000000000000000 else (c.fdiv 4).fmod 5 - 1

theorem s_mixed (n : Nat) (c k : Int) : callP P09 (n + 1) "_law_mixed" [.int c, .int k] = pure (.int (mixed c k)) := by
  refine callQ (σ := [some (.int c), some (.int k), none]) (by kernel_rfl) (by kernel_rfl) (by kernel_rfl) ?_
  have h := fmod_lt ((c + 7919 * k) * 48271) (b := 2147483647) (by decide)
  rw [c_mixed_0, m_mulL (by decide), pure_bind, m_add, pure_bind, m_mulR (by decide), pure_bind, m_mod (by decide), pure_bind, m_mulL (by omega), pure_bind, m_mod (by decide)]
  rfl

theorem s_cell_at (n : Nat) (ns : List Int) (k : Nat) : callP P09 (n + 2) "_law_cell_at" [.lst (ns.map .int), .int k] = pure (.int (cellAt ns k)) := by
  refine callQ (σ := [some (.lst (ns.map .int)), some (.int k)]) (by kernel_rfl) (by kernel_rfl) (by kernel_rfl) ?_
  rw [c_cell_at_0, e_len_lst, pure_bind, e_lt, pure_bind]
  unfold cellAt
  cases hk : ns[k]? with
  | none =>
    have : ¬ ((k : Int) < (((ns.map AV.int).length : Nat) : Int)) := by rw [List.length_map]; rw [List.getElem?_eq_none_iff] at hk; omega
    rw [decide_eq_false this]
    simp only [pure_bind, e_go_next, c_cell_at_t_1]
  | some c =>
    have hlt := (List.getElem?_eq_some_iff.mp hk).1
    have : ((k : Int) < (((ns.map AV.int).length : Nat) : Int)) := by rw [List.length_map]; omega
    rw [decide_eq_true this]
    have hit : (ns.map AV.int)[k]? = some (.int c) := by rw [List.getElem?_map, hk]; rfl
    simp only [e_item_lst hit, e_eachp, e_each0, pure_bind, s_mixed, e_go_ret]

theorem s_value_by (n : Nat) (c : Int) : callP P09 (n + 1) "_law_value_by" [.int c] = pure (.int (valueBy c)) := by
  refine callQ (σ := [some (.int c)]) (by kernel_rfl) (by kernel_rfl) (by kernel_rfl) ?_
  rw [c_value_by_0, m_mod (by decide), pure_bind, e_eqi, pure_bind]
  unfold valueBy
  by_cases h : c.fmod 4 = 0
  · rw [decide_eq_true h, if_pos h]
    simp only [m_div (i := c) (j := 4) ⟨by decide, by decide⟩, pure_bind, m_mulR (j := 7919) (by decide), e_go_ret]
    rfl
  · rw [decide_eq_false h, if_neg h]
    simp only [pure_bind, e_go_next, c_value_by_t_1, m_div (i := c) (j := 4) ⟨by decide, by decide⟩, m_mod (j := 5) (by decide), m_sub]
noncomputable def deedJ (j : Nat) (v : Int) : AV :=
  ([.tup [.str "push", .int v], .tup [.str "push", .int v], .tup [.str "push", .int v], .tup [.str "push", .int v], .tup [.str "pop"], .tup [.str "pop"], .tup [.str "pop"], .tup [.str "top"], .tup [.str "top"],
    .tup [.str "swap", .int v], .tup [.str "swap", .int v], .tup [.str "clear"]] : List AV).getD j .none
theorem deed_rest_true (n : Nat) (c : Int) (nm : Str) (h : pCmp .In (.str nm) (.lst [.str "push", .str "swap"]) = pure true) :
    (do let c4 ← ((do let c8 ← (newL false [.str "push", .str "swap"]); pCmp .In (.str nm) c8)); match c4 with | true => (do let r ← (do let y7 ← (do let vs6 ← eachM [pure (.str nm), (do let vs5 ← eachM [(pBin false .FloorDiv (.int c) (.int 12))]; callP P09 (n + 1) "_law_value_by" vs5)]; pure (.tup vs6)); pure (.ret y7)); goOn (tl P09 (callP P09 (n + 1)) "_law_deed_by" [] 2 38) r) | false => (do let r ← pure (.next [some (.int c), some (.str nm)]); goOn (tl P09 (callP P09 (n + 1)) "_law_deed_by" [] 2 38) r) : M Res)
      = pure (.ret (.tup [.str nm, .int (valueBy (c.fdiv 12))])) := by
  rw [e_newL (by decide), pure_bind, h, pure_bind]
  simp only [m_div (i := c) (j := 12) ⟨by decide, by decide⟩, e_eachp, e_each0, pure_bind, s_value_by, e_go_ret]
theorem deed_rest_false (n : Nat) (c : Int) (nm : Str) (h : pCmp .In (.str nm) (.lst [.str "push", .str "swap"]) = pure false) :
    (do let c4 ← ((do let c8 ← (newL false [.str "push", .str "swap"]); pCmp .In (.str nm) c8)); match c4 with | true => (do let r ← (do let y7 ← (do let vs6 ← eachM [pure (.str nm), (do let vs5 ← eachM [(pBin false .FloorDiv (.int c) (.int 12))]; callP P09 (n + 1) "_law_value_by" vs5)]; pure (.tup vs6)); pure (.ret y7)); goOn (tl P09 (callP P09 (n + 1)) "_law_deed_by" [] 2 38) r) | false => (do let r ← pure (.next [some (.int c), some (.str nm)]); goOn (tl P09 (callP P09 (n + 1)) "_law_deed_by" [] 2 38) r) : M Res)
      = pure (.ret (.tup [.str nm])) := by
  rw [e_newL (by decide), pure_bind, h, pure_bind]
  simp only [pure_bind, e_go_next, c_deed_by_t_2]

theorem s_deed_by (n : Nat) (c : Int) : ∃ j < 12, callP P09 (n + 2) "_law_deed_by" [.int c] = pure (deedJ j (valueBy (c.fdiv 12))) := by
  have h := fmod_lt c (b := 12) (by decide)
  obtain ⟨j, hm⟩ := Int.eq_ofNat_of_zero_le h.1
  have hj : j < 12 := by omega
  refine ⟨j, hj, callQ (σ := [some (.int c), none]) (by kernel_rfl) (by kernel_rfl) (by kernel_rfl) ?_⟩
  rw [c_deed_by_0, e_newL (by decide), pure_bind, m_mod (by decide), pure_bind, hm]
  match j, hj with
  | 0, _ => rw [e_item_lst (k := 0) (a := .str "push") rfl, pure_bind]; exact deed_rest_true n c _ (by kernel_rfl)
  | 1, _ => rw [e_item_lst (k := 1) (a := .str "push") rfl, pure_bind]; exact deed_rest_true n c _ (by kernel_rfl)
  | 2, _ => rw [e_item_lst (k := 2) (a := .str "push") rfl, pure_bind]; exact deed_rest_true n c _ (by kernel_rfl)
  | 3, _ => rw [e_item_lst (k := 3) (a := .str "push") rfl, pure_bind]; exact deed_rest_true n c _ (by kernel_rfl)
  | 4, _ => rw [e_item_lst (k := 4) (a := .str "pop") rfl, pure_bind]; exact deed_rest_false n c _ (by kernel_rfl)
  | 5, _ => rw [e_item_lst (k := 5) (a := .str "pop") rfl, pure_bind]; exact deed_rest_false n c _ (by kernel_rfl)
  | 6, _ => rw [e_item_lst (k := 6) (a := .str "pop") rfl, pure_bind]; exact deed_rest_false n c _ (by kernel_rfl)
  | 7, _ => rw [e_item_lst (k := 7) (a := .str "top") rfl, pure_bind]; exact deed_rest_false n c _ (by kernel_rfl)
  | 8, _ => rw [e_item_lst (k := 8) (a := .str "top") rfl, pure_bind]; exact deed_rest_false n c _ (by kernel_rfl)
  | 9, _ => rw [e_item_lst (k := 9) (a := .str "swap") rfl, pure_bind]; exact deed_rest_true n c _ (by kernel_rfl)
  | 10, _ => rw [e_item_lst (k := 10) (a := .str "swap") rfl, pure_bind]; exact deed_rest_true n c _ (by kernel_rfl)
  | 11, _ => rw [e_item_lst (k := 11) (a := .str "clear") rfl, pure_bind]; exact deed_rest_false n c _ (by kernel_rfl)

theorem deed_is (n j : Nat) (v : Int) (hj : j < 12) : callP P09 (n + 2) "is_deed" [deedJ j v] = pure (.bool true) := by
  match j, hj with
  | 0, _ => kernel_rfl
  | 1, _ => kernel_rfl
  | 2, _ => kernel_rfl
  | 3, _ => kernel_rfl
  | 4, _ => kernel_rfl
  | 5, _ => kernel_rfl
  | 6, _ => kernel_rfl
  | 7, _ => kernel_rfl
  | 8, _ => kernel_rfl
  | 9, _ => kernel_rfl
  | 10, _ => kernel_rfl
  | 11, _ => kernel_rfl

end Mine


set_option autoImplicit false
set_option linter.unusedVariables false
set_option maxRecDepth 100000
namespace Mine
open PySem PyProof.Rows

theorem compA_go {src : Src} {body : AV → M (Option AV)} (xs : List AV) (I : Nat → List AV → AHeap → Prop) (hl : xs.length < 100000)
    (hg : ∀ (i : Nat) acc H, I i acc H → src.get i H = some (xs[i]?, H))
    (hs : ∀ (i : Nat) a acc H, xs[i]? = some a → acc.length = i → I i acc H → Rn (body a) H fun o H' => ∃ y, o = some y ∧ I (i + 1) (acc ++ [y]) H') :
    ∀ (k fuel i : Nat) (acc : List AV) (H : AHeap), i + k = xs.length → acc.length = i → k < fuel → I i acc H → Rn (compLoop src body fuel i acc) H fun ys H' => I xs.length ys H' ∧ ys.length = xs.length
  | 0, 0, i, σ, H, _, _, hf, _ => absurd hf (Nat.lt_irrefl _)
  | 0, f + 1, i, acc, H, hk, ha, hf, h => by
    unfold compLoop
    refine .bof (hg i acc H h) ?_
    rw [List.getElem?_eq_none (by omega)]
    have : i = xs.length := by omega
    subst this
    exact .pure ⟨h, ha⟩
  | k + 1, 0, i, σ, H, _, _, hf, _ => absurd hf (Nat.not_lt_zero _)
  | k + 1, f + 1, i, acc, H, hk, hacc, hf, h => by
    unfold compLoop
    have hi : i < xs.length := by omega
    refine .bof (hg i acc H h) ?_
    have ha := List.getElem?_eq_getElem hi
    rw [ha]
    refine .then (hs i _ acc H ha hacc h) fun o H1 q => ?_
    obtain ⟨y, rfl, q⟩ := q
    have hL : acc.length < LIM := by have := LIMis; omega
    simp only [hL, if_true]
    exact compA_go xs I hl hg hs k f (i + 1) (acc ++ [y]) H1 (by omega) (by rw [List.length_append]; simp; omega) (by omega) q
/-- a comprehension without a test -/
theorem compA {src : Src} {body : AV → M (Option AV)} {H : AHeap} (xs : List AV) (I : Nat → List AV → AHeap → Prop) (hl : xs.length < 100000)
    (hg : ∀ (i : Nat) acc H, I i acc H → src.get i H = some (xs[i]?, H)) (h0 : I 0 [] H)
    (hs : ∀ (i : Nat) a acc H, xs[i]? = some a → acc.length = i → I i acc H → Rn (body a) H fun o H' => ∃ y, o = some y ∧ I (i + 1) (acc ++ [y]) H') :
    Rn (compLoop src body FUEL 0 []) H fun ys H' => I xs.length ys H' ∧ ys.length = xs.length :=
  compA_go xs I hl hg hs xs.length FUEL 0 [] H (Nat.zero_add _) rfl (by rw [FUEL_is]; exact hl) h0

noncomputable def AllI (L : List AV) : Prop := ∀ x ∈ L, ∃ v : Int, x = .int v
noncomputable def AllN (L : List AV) : Prop := ∀ x ∈ L, ∃ v : Int, x = .int v ∧ 0 ≤ v

theorem d4 : (4 : Int) ≠ 0 ∧ (4 : Int).natAbs < 1073741824 := ⟨by decide, by decide⟩
theorem d8 : (8 : Int) ≠ 0 ∧ (8 : Int).natAbs < 1073741824 := ⟨by decide, by decide⟩
theorem d32 : (32 : Int) ≠ 0 ∧ (32 : Int).natAbs < 1073741824 := ⟨by decide, by decide⟩
theorem d36 : (36 : Int) ≠ 0 ∧ (36 : Int).natAbs < 1073741824 := ⟨by decide, by decide⟩

theorem s_start_t (n : Nat) (c m : Int) (hm : 0 ≤ m ∧ m ≤ 60) : ∃ L : List AV, AllI L ∧ L.length ≤ 60 ∧ tl P09 (callP P09 (n + 1)) "_law_start_by" [] 2 38 [some (.int c), some (.int m)] = pure (.ret (.lst L)) := by
  have hb : ∀ a ∈ rangeL 0 m, (do let y2 ← (do let vs4 ← eachM [(do let vs3 ← eachM [(pBin false .FloorDiv (.int c) (.int 8)), pure a]; callP P09 (n + 1) "_law_mixed" vs3)]; callP P09 (n + 1) "_law_value_by" vs4); pure (some y2) : M (Option AV)) = pure (some ((fun a => match a with | .int i => AV.int (valueBy (mixed (c.fdiv 8) i)) | a => a) a)) := by
    intro a ha
    obtain ⟨i, rfl, hi⟩ := mem_rangeL ha
    simp only [m_div (i := c) d8, e_eachp, e_each0, pure_bind, s_mixed, s_value_by]
  refine ⟨(rangeL 0 m).map (fun a => match a with | .int i => AV.int (valueBy (mixed (c.fdiv 8) i)) | a => a), ?_, ?_, ?_⟩
  · intro x hx
    obtain ⟨a, ha, rfl⟩ := List.mem_map.mp hx
    obtain ⟨i, rfl, hi⟩ := mem_rangeL ha
    exact ⟨_, rfl⟩
  · rw [List.length_map, rangeL_length]; omega
  · rw [c_start_by_t_2, e_range1, pure_bind, srcOf_range (by omega) (by omega), pure_bind, compM _ (by rw [rangeL_length]; omega) hb, pure_bind, e_newL (by rw [List.length_map, rangeL_length]; have := LIMis; omega), pure_bind]
theorem s_start_by (n : Nat) (c : Int) : ∃ L : List AV, AllI L ∧ L.length ≤ 60 ∧ callP P09 (n + 2) "_law_start_by" [.int c] = pure (.lst L) := by
  have h4 := fmod_lt c (b := 4) (by decide)
  have h61 := fmod_lt (c.fdiv 32) (b := 61) (by decide)
  by_cases h : (c.fdiv 4).fmod 8 = 1
  · obtain ⟨L, h1, h2, h3⟩ := s_start_t n c ((c.fdiv 32).fmod 61) (by omega)
    refine ⟨L, h1, h2, callQ (σ := [some (.int c), none]) (by kernel_rfl) (by kernel_rfl) (by kernel_rfl) ?_⟩
    rw [c_start_by_0, m_mod (by decide), pure_bind, m_div d4, pure_bind, m_mod (by decide), pure_bind, e_eqi, pure_bind, decide_eq_true h]
    simp only [m_div (i := c) d32, pure_bind, m_mod (i := c.fdiv 32) (j := 61) (by decide), e_go_next, h3]
  · obtain ⟨L, h1, h2, h3⟩ := s_start_t n c (c.fmod 4) (by omega)
    refine ⟨L, h1, h2, callQ (σ := [some (.int c), none]) (by kernel_rfl) (by kernel_rfl) (by kernel_rfl) ?_⟩
    rw [c_start_by_0, m_mod (by decide), pure_bind, m_div d4, pure_bind, m_mod (by decide), pure_bind, e_eqi, pure_bind, decide_eq_false h]
    simp only [pure_bind, e_go_next, h3]
theorem s_hands_by (n : Nat) (c : Int) : ∃ m : Nat, 1 ≤ m ∧ m ≤ 20 ∧ callP P09 (n + 1) "_law_hands_by" [.int c] = pure (.int m) := by
  have h4 := fmod_lt c (b := 4) (by decide)
  have h16 := fmod_lt (c.fdiv 32) (b := 16) (by decide)
  by_cases h : (c.fdiv 4).fmod 8 = 1
  · refine ⟨(5 + (c.fdiv 32).fmod 16).toNat, by omega, by omega, callQ (σ := [some (.int c)]) (by kernel_rfl) (by kernel_rfl) (by kernel_rfl) ?_⟩
    rw [c_hands_by_0, m_div d4, pure_bind, m_mod (by decide), pure_bind, e_eqi, pure_bind, decide_eq_true h]
    simp only [m_div (i := c) d32, pure_bind, m_mod (i := c.fdiv 32) (j := 16) (by decide), m_add, e_go_ret]
    rw [Int.toNat_of_nonneg (by omega)]
  · refine ⟨(1 + c.fmod 4).toNat, by omega, by omega, callQ (σ := [some (.int c)]) (by kernel_rfl) (by kernel_rfl) (by kernel_rfl) ?_⟩
    rw [c_hands_by_0, m_div d4, pure_bind, m_mod (by decide), pure_bind, e_eqi, pure_bind, decide_eq_false h]
    simp only [pure_bind, e_go_next, c_hands_by_t_1, m_mod (i := c) (j := 4) (by decide), m_add]
    rw [Int.toNat_of_nonneg (by omega)]

theorem s_cells (n : Nat) (ns : List Int) (hns : ns.length ≤ 63) (a b : Nat) (hab : a ≤ b ∧ b ≤ 63) : ∃ L : List AV, AllN L ∧ L.length ≤ b - a ∧ callP P09 (n + 2) "_law_cells" [.lst (ns.map .int), .int a, .int b] = pure (.lst L) := by
  have hmin : (if ((ns.map AV.int).length : Int) < (b : Int) then ((ns.map AV.int).length : Int) else (b : Int)) ≤ b := by split <;> omega
  have hmin2 : (if ((ns.map AV.int).length : Int) < (b : Int) then ((ns.map AV.int).length : Int) else (b : Int)) ≤ ns.length := by rw [List.length_map]; split <;> omega
  have hmin3 : 0 ≤ (if ((ns.map AV.int).length : Int) < (b : Int) then ((ns.map AV.int).length : Int) else (b : Int)) := by split <;> omega
  obtain ⟨e, he⟩ : ∃ e, e = (if ((ns.map AV.int).length : Int) < (b : Int) then ((ns.map AV.int).length : Int) else (b : Int)) := ⟨_, rfl⟩
  rw [← he] at hmin hmin2 hmin3
  have hb : ∀ u ∈ rangeL a e, (do let y2 ← (do let vs3 ← eachM [(pItem (.lst (ns.map .int)) u), pure u]; callP P09 (n + 1) "_law_mixed" vs3); pure (some y2) : M (Option AV)) = pure (some ((fun u => match u with | .int i => AV.int (mixed (ns.getD i.toNat 0) i) | u => u) u)) := by
    intro u hu
    obtain ⟨i, rfl, hi⟩ := mem_rangeL hu
    have hlt : a + i < ns.length := by omega
    have hit : (ns.map AV.int)[a + i]? = some (.int ns[a + i]) := by rw [List.getElem?_map, List.getElem?_eq_getElem hlt]; rfl
    rw [show ((a : Int) + (i : Int)) = ((a + i : Nat) : Int) from by omega]
    simp only [e_item_lst hit, e_eachp, e_each0, pure_bind, s_mixed, Int.toNat_natCast]
    rw [List.getD_eq_getElem?_getD, List.getElem?_eq_getElem hlt]; rfl
  refine ⟨(rangeL a e).map (fun u => match u with | .int i => AV.int (mixed (ns.getD i.toNat 0) i) | u => u), ?_, ?_, callQ (σ := [some (.lst (ns.map .int)), some (.int a), some (.int b)]) (by kernel_rfl) (by kernel_rfl) (by kernel_rfl) ?_⟩
  · intro x hx
    obtain ⟨u, hu, rfl⟩ := List.mem_map.mp hx
    obtain ⟨i, rfl, hi⟩ := mem_rangeL hu
    exact ⟨_, rfl, mixed_ge _ _⟩
  · rw [List.length_map, rangeL_length]; omega
  · rw [c_cells_0, e_len_lst]
    simp only [e_eachp, e_each0, pure_bind]
    rw [show pBI false .min [.int b, .int ((ns.map AV.int).length : Nat)] = pure (.int e) from by rw [he]; rfl]
    simp only [e_eachp, e_each0, pure_bind]
    rw [e_range2, pure_bind, srcOf_range (by omega) (by omega), pure_bind, compM _ (by rw [rangeL_length]; omega) hb, pure_bind, e_newL (by rw [List.length_map, rangeL_length]; have := LIMis; omega), pure_bind]
end Mine


set_option autoImplicit false
set_option linter.unusedVariables false
set_option maxRecDepth 100000
namespace Mine
open PySem PyProof.Rows

theorem mod_nat {i : Int} {m : Nat} (hm : 1 ≤ m) : ∃ j : Nat, j < m ∧ pBin false .Mod (.int i) (.int m) = pure (.int j) := by
  have h := fmod_lt i (b := (m : Int)) (by omega)
  obtain ⟨j, hj⟩ := Int.eq_ofNat_of_zero_le h.1
  exact ⟨j, by omega, by rw [m_mod (by omega), hj]⟩
theorem set_at {H : AHeap} {l : Nat} {o x : AO} (h : H[l]? = some o) : (H.set l x)[l]? = some x := List.getElem?_set_self (List.getElem?_eq_some_iff.mp h).1
theorem app_at {H : AHeap} {o : AO} : (H ++ [o])[H.length]? = some o := by simp
theorem app_lt {H : AHeap} {o : AO} {l : Nat} (h : l < H.length) : (H ++ [o])[l]? = H[l]? := List.getElem?_append_left h
theorem m_cat_loc {H : AHeap} {l : Nat} {xs ys : List AV} (h : H[l]? = some (.list xs)) (hl : xs.length + ys.length ≤ LIM) : pBin true .Add (.loc l) (.lst ys) H = some (.loc H.length, H ++ [.list (xs ++ ys)]) := by
  show (do let xs ← listOf (.loc l); let ys ← listOf (.lst ys); newL true (xs ++ ys)) H = _
  exact bind_of (listOf_loc h) (newT (by rw [List.length_append]; exact hl))
theorem m_mul_lst {xs : List AV} {n : Nat} (h : n ≤ 100) (hx : xs.length ≤ 1) : pBin false .Mult (.lst xs) (.int n) = pure (.lst (List.replicate n xs).flatten) := by
  have L := LIMis
  have hm : n * xs.length ≤ 100 * 1 := Nat.mul_le_mul h hx
  show (do let xs ← (pure xs : M _); if (n : Int) < 0 ∨ 1048576 < (n : Int) ∨ LIM < (n : Int).toNat * xs.length then stuck else newL false (List.replicate (n : Int).toNat xs).flatten) = _
  rw [pure_bind, if_neg (by rw [Int.toNat_natCast]; omega), Int.toNat_natCast]
  rw [e_newL (by rw [List.length_flatten]; simp; omega)]

/-- a weaving: numbers below m -/
theorem s_weaving (n : Nat) (ns : List Int) (hns : ns.length ≤ 63) (m : Nat) (hm : 1 ≤ m ∧ m ≤ 20) (H : AHeap) :
    Rn (callP P09 (n + 3) "_law_weaving_by" [.lst (ns.map .int), .int m]) H fun a H' => ∃ l W, a = .loc l ∧ H'[l]? = some (.list W) ∧ (∀ x ∈ W, InR m x) ∧ W.length ≤ 252 := by
  have L := LIMis
  obtain ⟨cs, hc1, hc2, hc3⟩ := s_cells n ns hns 27 63 (by omega)
  refine callRn (σ := [some (.lst (ns.map .int)), some (.int m), none, none, none, none]) (by kernel_rfl) (by kernel_rfl) (by kernel_rfl) ?_
  rw [c_weaving_by_0]
  refine .bof (newT (by simp)) ?_
  rw [show (AV.int 27) = .int ((27 : Nat) : Int) from rfl, show (AV.int 63) = .int ((63 : Nat) : Int) from rfl, hc3, pure_bind, srcOf_lst, pure_bind]
  refine .then (forI (fun k σ H1 => ∃ l W o1 o2 o3 o4, σ = [o1, some (.int m), some (.loc l), o2, o3, o4] ∧ H1[l]? = some (.list W) ∧ (∀ x ∈ W, InR m x) ∧ W.length ≤ 7 * k)
    (Q := fun r H1 => ∃ l W o1 o2 o3 o4, r = .next [o1, some (.int m), some (.loc l), o2, o3, o4] ∧ H1[l]? = some (.list W) ∧ (∀ x ∈ W, InR m x) ∧ W.length ≤ 252) (by omega) ?_ ?_ ?_) ?_
  · exact ⟨_, [], _, _, _, _, rfl, app_at, (fun x hx => by cases hx), by simp⟩
  · rintro k a σ H1 ha ⟨l, W, o1, o2, o3, o4, rfl, hl, hW, hlen⟩
    obtain ⟨v, rfl, hv⟩ := hc1 a (List.mem_of_getElem? ha)
    have hk : k < cs.length := (List.getElem?_eq_some_iff.mp ha).1
    rw [c_weaving_by_for_1, m_div d36, pure_bind, m_mod (by decide), pure_bind, e_gt, pure_bind]
    cases decide (0 < v.fmod 4) with
    | true =>
      obtain ⟨j, hj, hje⟩ := mod_nat (i := v.fdiv 36) hm.1
      have h9 := fmod_lt (v.fdiv 4) (b := 9) (by decide)
      obtain ⟨q, hq⟩ := Int.eq_ofNat_of_zero_le h9.1
      have hq9 : q < 9 := by omega
      have hit : ∃ t : Nat, t ≤ 7 ∧ ([.int 1, .int 2, .int 2, .int 3, .int 3, .int 4, .int 6, .int 6, .int 7] : List AV)[q]? = some (.int t) := by
        match q, hq9 with
        | 0, _ => exact ⟨1, by omega, rfl⟩
        | 1, _ => exact ⟨2, by omega, rfl⟩
        | 2, _ => exact ⟨2, by omega, rfl⟩
        | 3, _ => exact ⟨3, by omega, rfl⟩
        | 4, _ => exact ⟨3, by omega, rfl⟩
        | 5, _ => exact ⟨4, by omega, rfl⟩
        | 6, _ => exact ⟨6, by omega, rfl⟩
        | 7, _ => exact ⟨6, by omega, rfl⟩
        | 8, _ => exact ⟨7, by omega, rfl⟩
      obtain ⟨t, ht, hit⟩ := hit
      refine .bind (.bind (.bind ?_))
      rw [hje, e_eachp, e_each0, pure_bind, pure_bind, e_newL (by simp; omega)]
      rw [pure_bind, e_newL (by simp; omega), pure_bind, m_div d4, pure_bind, m_mod (by decide), pure_bind, hq, e_item_lst hit, pure_bind, m_mul_lst (by omega) (by simp)]
      refine .pure ?_
      have hfl : (List.replicate t [AV.int j]).flatten.length = t := by rw [List.length_flatten]; simp
      refine .of (m_cat_loc hl (by omega)) ?_
      refine .pure (.pure ⟨_, _, _, _, _, _, rfl, app_at, fun x hx => ?_, by rw [List.length_append, hfl]; omega⟩)
      rcases List.mem_append.mp hx with h | h
      · exact hW x h
      · obtain ⟨l', h1, h2⟩ := List.mem_flatten.mp h
        rw [List.eq_of_mem_replicate h1, List.mem_singleton] at h2
        exact ⟨j, h2, by omega, by omega⟩
    | false =>
      rw [e_range1, pure_bind, srcOf_range (by omega) (by omega), pure_bind]
      refine .bind (.then (forI (fun t σ H2 => ∃ W o1 o2 o3 v, σ = [o1, some (.int m), some (.loc l), o2, some (.int v), o3] ∧ H2[l]? = some (.list W) ∧ (∀ x ∈ W, InR m x) ∧ W.length ≤ 7 * k + t)
        (Q := fun r H2 => ∃ W o1 o2 o3 o4, r = .next [o1, some (.int m), some (.loc l), o2, o3, o4] ∧ H2[l]? = some (.list W) ∧ (∀ x ∈ W, InR m x) ∧ W.length ≤ 7 * (k + 1)) (by rw [rangeL_length]; decide) ?_ ?_ ?_) ?_)
      · exact ⟨W, _, _, _, _, rfl, hl, hW, by omega⟩
      · rintro t a σ H2 ha ⟨W, o1, o2, o3, v, rfl, hl, hW, hlen⟩
        obtain ⟨rfl, ht⟩ := rangeL_at ha
        obtain ⟨j, hj, hje⟩ := mod_nat (i := v) hm.1
        rw [c_weaving_by_for10_11_0]
        refine .bind ?_
        rw [pure_bind]
        refine .bof (listOf_loc hl) ?_
        rw [hje, e_eachp, e_each0, pure_bind, pure_bind]
        refine .of (append_loc hl (by omega)) ?_
        rw [m_div ⟨by omega, by omega⟩, pure_bind]
        refine .pure ⟨_, _, _, _, _, rfl, set_at hl, fun x hx => ?_, by rw [List.length_append]; simp; omega⟩
        rcases List.mem_append.mp hx with h | h
        · exact hW x h
        · rw [List.mem_singleton] at h
          exact ⟨j, h, by omega, by omega⟩
      · rintro σ H2 ⟨W, o1, o2, o3, v, rfl, hl, hW, hlen⟩
        rw [rangeL_length] at hlen
        exact ⟨W, _, _, _, _, rfl, hl, hW, by omega⟩
      · rintro r H2 ⟨W, o1, o2, o3, o4, rfl, hl, hW, hlen⟩
        exact .pure (.pure ⟨_, W, _, _, _, _, rfl, hl, hW, hlen⟩)
  · rintro σ H1 ⟨l, W, o1, o2, o3, o4, rfl, hl, hW, hlen⟩
    exact ⟨l, W, _, _, _, _, rfl, hl, hW, by omega⟩
  · rintro r H1 ⟨l, W, o1, o2, o3, o4, rfl, hl, hW, hlen⟩
    rw [e_go_next, c_weaving_by_t_2]
    exact .pure ⟨l, W, rfl, hl, hW, hlen⟩

/-- one of the deeds that the law makes -/
noncomputable def DJ (d : AV) : Prop := ∃ (j : Nat) (v : Int), j < 12 ∧ d = deedJ j v
/-- programs on the heap: lp holds their places, each holds deeds -/
noncomputable def PrOk (H : AHeap) (lp : Nat) (PL : List Nat) (t : Nat) : Prop := H[lp]? = some (.list (PL.map .loc)) ∧ ∀ q ∈ PL, q ≠ lp ∧ ∃ ds, H[q]? = some (.list ds) ∧ (∀ d ∈ ds, DJ d) ∧ ds.length ≤ t

theorem s_programs (n : Nat) (ns : List Int) (hns : ns.length ≤ 63) (m : Nat) (hm : 1 ≤ m ∧ m ≤ 20) (H : AHeap) :
    Rn (callP P09 (n + 3) "_law_programs_by" [.lst (ns.map .int), .int m]) H fun a H' => ∃ lp PL, a = .loc lp ∧ PrOk H' lp PL 24 ∧ PL.length = m ∧ ∀ l, l < H.length → H'[l]? = H[l]? := by
  have L := LIMis
  obtain ⟨cs, hc1, hc2, hc3⟩ := s_cells n ns hns 3 27 (by omega)
  refine callRn (σ := [some (.lst (ns.map .int)), some (.int m), none, none]) (by kernel_rfl) (by kernel_rfl) (by kernel_rfl) ?_
  rw [c_programs_by_0, e_range1, pure_bind, srcOf_range (by omega) (by omega), pure_bind]
  refine .bind (.then (compA (rangeL 0 m) (fun i acc H1 => ∃ PL : List Nat, acc = PL.map .loc ∧ H.length ≤ H1.length ∧ (∀ l, l < H.length → H1[l]? = H[l]?) ∧ ∀ q ∈ PL, q < H1.length ∧ H.length ≤ q ∧ H1[q]? = some (.list [])) (by rw [rangeL_length]; omega) (fun _ _ _ _ => rfl) ⟨[], rfl, Nat.le_refl _, fun _ _ => rfl, fun q hq => by cases hq⟩ ?_) ?_)
  · rintro i a acc H1 ha hacc ⟨PL, rfl, h1, h2, h3⟩
    refine .bof (newT (by simp)) (.pure ⟨_, rfl, PL ++ [H1.length], by simp, by simp; omega, fun l hl => ?_, fun q hq => ?_⟩)
    · rw [app_lt (by omega)]; exact h2 l hl
    · rcases List.mem_append.mp hq with h | h
      · obtain ⟨q1, q2, q3⟩ := h3 q h
        exact ⟨by simp; omega, q2, by rw [app_lt q1]; exact q3⟩
      · rw [List.mem_singleton] at h
        subst h
        exact ⟨by simp, h1, app_at⟩
  · rintro acc H1 ⟨⟨PL, rfl, h1, h2, h3⟩, hlen⟩
    rw [rangeL_length, List.length_map] at hlen
    refine .of (newT (by rw [List.length_map]; omega)) ?_
    rw [show (AV.int 3) = .int ((3 : Nat) : Int) from rfl, show (AV.int 27) = .int ((27 : Nat) : Int) from rfl, hc3, pure_bind, srcOf_lst, pure_bind]
    refine .then (forI (fun k σ H2 => (∃ o1 o2, σ = [o1, some (.int m), some (.loc H1.length), o2]) ∧ PrOk H2 H1.length PL k ∧ H1.length < H2.length ∧ ∀ l, l < H.length → H2[l]? = H[l]?)
      (Q := fun r H2 => (∃ o1 o2, r = .next [o1, some (.int m), some (.loc H1.length), o2]) ∧ PrOk H2 H1.length PL 24 ∧ ∀ l, l < H.length → H2[l]? = H[l]?) (by omega) ?_ ?_ ?_) ?_
    · refine ⟨⟨_, _, rfl⟩, ⟨app_at, fun q hq => ?_⟩, by simp, fun l hl => by rw [app_lt (by omega)]; exact h2 l hl⟩
      obtain ⟨q1, q2, q3⟩ := h3 q hq
      exact ⟨by omega, [], by rw [app_lt q1]; exact q3, (fun d hd => by cases hd), by simp⟩
    · rintro k a σ H2 ha ⟨⟨o1, o2, rfl⟩, ⟨p1, p2⟩, p3, p4⟩
      obtain ⟨v, rfl, hv⟩ := hc1 a (List.mem_of_getElem? ha)
      have hk : k < cs.length := (List.getElem?_eq_some_iff.mp ha).1
      obtain ⟨j, hj, hje⟩ := mod_nat (i := v) hm.1
      have hjl : j < PL.length := by omega
      have hit : (PL.map AV.loc)[j]? = some (.loc PL[j]) := by rw [List.getElem?_map, List.getElem?_eq_getElem hjl]; rfl
      obtain ⟨hne, ds, hds, hdj, hdl⟩ := p2 _ (List.getElem_mem hjl)
      obtain ⟨jj, hjj, hdd⟩ := s_deed_by n (v.fdiv 4)
      rw [c_programs_by_for_1]
      refine .bind (.bind ?_)
      rw [hje, pure_bind]
      refine .of (item_loc p1 hit) ?_
      refine .bof (listOf_loc hds) ?_
      rw [m_div d4]
      simp only [e_eachp, e_each0, pure_bind]
      rw [hdd]
      simp only [e_eachp, e_each0, pure_bind]
      refine .of (append_loc hds (by omega)) ?_
      refine .pure ⟨⟨_, _, rfl⟩, ⟨?_, fun q hq => ?_⟩, by rw [List.length_set]; exact p3, fun l hl => ?_⟩
      · rw [List.getElem?_set_ne hne]; exact p1
      · obtain ⟨g1, ds', g2, g3, g4⟩ := p2 q hq
        refine ⟨g1, ?_⟩
        by_cases hqe : PL[j] = q
        · refine ⟨ds ++ [deedJ jj (valueBy ((v.fdiv 4).fdiv 12))], by rw [← hqe]; exact set_at hds, fun d hd => ?_, by rw [List.length_append]; simp; omega⟩
          rcases List.mem_append.mp hd with h | h
          · exact hdj d h
          · rw [List.mem_singleton] at h
            exact ⟨jj, _, hjj, h⟩
        · exact ⟨ds', by rw [List.getElem?_set_ne hqe]; exact g2, g3, by omega⟩
      · obtain ⟨q1, q2, q3⟩ := h3 _ (List.getElem_mem hjl)
        rw [List.getElem?_set_ne (by omega)]; exact p4 l hl
    · rintro σ H2 ⟨⟨o1, o2, rfl⟩, ⟨p1, p2⟩, p3, p4⟩
      refine ⟨⟨_, _, rfl⟩, ⟨p1, fun q hq => ?_⟩, p4⟩
      obtain ⟨g1, ds', g2, g3, g4⟩ := p2 q hq
      exact ⟨g1, ds', g2, g3, by omega⟩
    · rintro r H2 ⟨⟨o1, o2, rfl⟩, p, p4⟩
      rw [e_go_next, c_programs_by_t_2]
      exact .pure ⟨_, PL, rfl, p, by omega, p4⟩
end Mine


set_option autoImplicit false
set_option linter.unusedVariables false
set_option maxRecDepth 100000
namespace Mine
open PySem PyProof.Rows

theorem s_whole (n : Nat) (i : Int) : callP P09 (n + 1) "is_whole" [.int i] = pure (.bool true) := by
  refine callQ (σ := [some (.int i)]) (by kernel_rfl) (by kernel_rfl) (by kernel_rfl) ?_
  rw [c_is_whole_0]; rfl
theorem DJ.is (n : Nat) {d : AV} (h : DJ d) : callP P09 (n + 2) "is_deed" [d] = pure (.bool true) := by
  obtain ⟨j, v, hj, rfl⟩ := h
  exact deed_is n j v hj
theorem DJ.ok {d : AV} (h : DJ d) : DOk d := by
  obtain ⟨j, v, hj, rfl⟩ := h
  have w1 : Wd "push" := .inl rfl
  have w2 : Wd "swap" := .inr (.inl rfl)
  have w3 : Wd "pop" := .inr (.inr (.inl rfl))
  have w4 : Wd "top" := .inr (.inr (.inr (.inl rfl)))
  have w5 : Wd "clear" := .inr (.inr (.inr (.inr rfl)))
  have n3 : ¬ (("pop" : Str) = "push" ∨ ("pop" : Str) = "swap") := by decide
  have n4 : ¬ (("top" : Str) = "push" ∨ ("top" : Str) = "swap") := by decide
  have n5 : ¬ (("clear" : Str) = "push" ∨ ("clear" : Str) = "swap") := by decide
  match j, hj with
  | 0, _ => exact ⟨_, _, w1, rfl, fun _ => ⟨_, rfl⟩⟩
  | 1, _ => exact ⟨_, _, w1, rfl, fun _ => ⟨_, rfl⟩⟩
  | 2, _ => exact ⟨_, _, w1, rfl, fun _ => ⟨_, rfl⟩⟩
  | 3, _ => exact ⟨_, _, w1, rfl, fun _ => ⟨_, rfl⟩⟩
  | 4, _ => exact ⟨_, _, w3, rfl, fun h => absurd h n3⟩
  | 5, _ => exact ⟨_, _, w3, rfl, fun h => absurd h n3⟩
  | 6, _ => exact ⟨_, _, w3, rfl, fun h => absurd h n3⟩
  | 7, _ => exact ⟨_, _, w4, rfl, fun h => absurd h n4⟩
  | 8, _ => exact ⟨_, _, w4, rfl, fun h => absurd h n4⟩
  | 9, _ => exact ⟨_, _, w2, rfl, fun _ => ⟨_, rfl⟩⟩
  | 10, _ => exact ⟨_, _, w2, rfl, fun _ => ⟨_, rfl⟩⟩
  | 11, _ => exact ⟨_, _, w5, rfl, fun h => absurd h n5⟩

theorem s_need_all (n : Nat) {L : List AV} {H : AHeap} {lp : Nat} {PL : List Nat} (hL : AllI L) (hl : L.length ≤ 60) (hP : PrOk H lp PL 24) (hp : PL.length ≤ 20) :
    Rn (callP P09 (n + 3) "need_all" [.lst L, .loc lp, .str "marks"]) H fun _ H' => H' = H := by
  refine callRn (σ := [some (.lst L), some (.loc lp), some (.str "marks"), none, none, none]) (by kernel_rfl) (by kernel_rfl) (by kernel_rfl) ?_
  rw [c_need_all_0, show pCmp .NotIn (.str "marks") g_KINDS = pure false from by kernel_rfl]
  simp only [pure_bind]
  rw [show pIsi (.str "marks") .str = pure true from by kernel_rfl]
  simp only [pure_bind, e_truth, Bool.not_true]
  show Rn (tl P09 _ "need_all" [] 1 39 _) _ _
  rw [c_need_all_t_1, e_len_lst, pure_bind, g_MOST_VALUES, e_gt, pure_bind, decide_eq_false (by omega)]
  refine .bind (.pure ?_)
  show Rn (tl P09 _ "need_all" [] 2 38 _) _ _
  rw [c_need_all_t_2, pure_bind, srcOf_lst, pure_bind]
  refine .then (forI (fun k σ H1 => H1 = H ∧ ∃ o1 o2 o3 o4 o5, σ = [o1, some (.loc lp), o2, o3, o4, o5]) (Q := fun r H1 => H1 = H ∧ ∃ o1 o2 o3 o4 o5, r = .next [o1, some (.loc lp), o2, o3, o4, o5]) (by omega) ⟨rfl, _, _, _, _, _, rfl⟩ ?_ ?_) ?_
  · rintro k a σ H1 ha ⟨rfl, o1, o2, o3, o4, o5, rfl⟩
    obtain ⟨v, rfl⟩ := hL a (List.mem_of_getElem? ha)
    rw [c_need_all_for_2, s_whole (n + 1)]
    simp only [pure_bind, e_truth, Bool.not_true]
    exact .pure ⟨rfl, _, _, _, _, _, rfl⟩
  · rintro σ H1 ⟨rfl, o1, o2, o3, o4, o5, rfl⟩
    exact ⟨rfl, _, _, _, _, _, rfl⟩
  rintro r H1 ⟨rfl, o1, o2, o3, o4, o5, rfl⟩
  rw [e_go_next, c_need_all_t_3]
  refine .bind (.bof (len_loc hP.1) ?_)
  rw [g_MOST_PROGRAMS, e_gt, List.length_map, decide_eq_false (by omega)]
  refine .pure (.bind (.pure ?_))
  show Rn (tl P09 _ "need_all" [] 4 36 _) _ _
  rw [c_need_all_t_4, pure_bind]
  refine .bof (srcOf_loc hP.1) ?_
  refine .then (forA (xs := PL.map .loc) (fun k σ H2 => H2 = H1 ∧ ∃ o1 o2 o3 o4 o5 o6, σ = [o1, o2, o3, o4, o5, o6]) (Q := fun r H2 => H2 = H1 ∧ ∃ σ, r = .next σ) (by rw [List.length_map]; omega) ⟨rfl, _, _, _, _, _, _, rfl⟩ (fun i σ H2 q => by rw [q.1]; exact hP.1) ?_ ?_) ?_
  · rintro k a σ H2 ha ⟨rfl, o1, o2, o3, o4, o5, o6, rfl⟩
    obtain ⟨q, hq, rfl⟩ := List.mem_map.mp (List.mem_of_getElem? ha)
    obtain ⟨_, ds, hds, hdj, hdl⟩ := hP.2 q hq
    rw [c_need_all_for_4]
    refine .bind (.bof (len_loc hds) ?_)
    rw [g_MOST_DEEDS, e_gt, decide_eq_false (by omega)]
    refine .pure (.bind (.pure ?_))
    show Rn (tl P09 _ "need_all" [(4, 0)] 1 34 _) _ _
    rw [c_need_all_t40_1, pure_bind]
    refine .bof (srcOf_loc hds) ?_
    refine .then (forA (xs := ds) (fun k σ H3 => H3 = H2 ∧ ∃ o1 o2 o3 o4 o5 o6, σ = [o1, o2, o3, o4, o5, o6]) (Q := fun r H3 => H3 = H2 ∧ ∃ o1 o2 o3 o4 o5 o6, r = .next [o1, o2, o3, o4, o5, o6]) (by omega) ⟨rfl, _, _, _, _, _, _, rfl⟩ (fun i σ H3 q => by rw [q.1]; exact hds) ?_ ?_) ?_
    · rintro k a σ H3 ha ⟨rfl, o1, o2, o3, o4, o5, o6, rfl⟩
      rw [c_need_all_for40_1, (hdj a (List.mem_of_getElem? ha)).is n]
      simp only [pure_bind, e_truth, Bool.not_true]
      exact .pure ⟨rfl, _, _, _, _, _, _, rfl⟩
    · rintro σ H3 ⟨rfl, o1, o2, o3, o4, o5, o6, rfl⟩
      exact ⟨rfl, _, _, _, _, _, _, rfl⟩
    · rintro r H3 ⟨rfl, o1, o2, o3, o4, o5, o6, rfl⟩
      exact .pure ⟨rfl, _, _, _, _, _, _, rfl⟩
  · rintro σ H2 ⟨rfl, o1, o2, o3, o4, o5, o6, rfl⟩
    exact ⟨rfl, _, rfl⟩
  · rintro r H2 ⟨rfl, σ, rfl⟩
    exact .pure rfl

/-- the state that a tower begins with -/
noncomputable def g0 (b m : Nat) (B : List AV) (hd : AV) : Cn where
  st := b + 4 + m
  lb := b
  lsp := b + 2 + m
  lh := b + 1 + m
  lr := b + 3 + m
  hd := 0
  w := 0
  kp := 0
  kind := "marks"
  boxes := B
  head := hd
  mark := 0
  spare := []
  hs := (List.range m).map fun j => .loc (b + 1 + j)
  time := 0
  rows := []
  prog := []
  place := 0
  wv := .none
  deed := .none
  begun := 0
  next := "look"
  own := .none
  seen := .none
  inside := .none
  walk := .none
  kept := []
  row := .none
noncomputable def h0 (b j : Nat) (p : List AV) : Cn := { g0 b 0 [] .none with hd := b + 1 + j, prog := p }
noncomputable def handD (p : List AV) : AO := .dict [("program", .tup p), ("place", .int 0), ("work", .none)]

theorem tower_rep {H : AHeap} {B : List AV} {hd : AV} {ps : List (List AV)} :
    Rep (H ++ [.list B] ++ ps.map handD ++ [.list ((List.range ps.length).map fun j => .loc (H.length + 1 + j))] ++ [.list []] ++ [.list []] ++ [.dict (g0 H.length ps.length B hd).sD]) (g0 H.length ps.length B hd) (ps.mapIdx fun j p => h0 H.length j p)
    ∧ ∀ l, l < H.length → Free (g0 H.length ps.length B hd) (ps.mapIdx fun j p => h0 H.length j p) l := by
  have hs_at : ∀ (j : Nat) h, (ps.mapIdx fun j p => h0 H.length j p)[j]? = some h → ∃ p, ps[j]? = some p ∧ h = h0 H.length j p := by
    intro j h hj
    rw [List.getElem?_mapIdx] at hj
    cases hp : ps[j]? with
    | none => rw [hp] at hj; cases hj
    | some p => rw [hp] at hj; cases hj; exact ⟨p, rfl, rfl⟩
  refine ⟨⟨?_, ?_, ?_⟩, ?_⟩
  · show (List.range ps.length).map (fun j => AV.loc (H.length + 1 + j)) = (ps.mapIdx fun j p => h0 H.length j p).map fun h => .loc h.hd
    apply List.ext_getElem
    · simp
    · intro i h1 h2
      simp [h0]
  · intro j h hj
    obtain ⟨p, hp, rfl⟩ := hs_at j h hj
    have hjl := (List.getElem?_eq_some_iff.mp hp).1
    refine .inl ⟨rfl, ⟨?_, ?_, Nat.le_refl _, fun _ _ _ => rfl⟩⟩
    · intro i l o hi ho
      match i, hi, ho with
      | 0, hi, ho =>
        have e1 : H.length + 4 + ps.length = l := Option.some.inj hi
        have e2 : AO.dict (g0 H.length ps.length B hd).sD = o := Option.some.inj ho
        subst e1; subst e2
        rw [List.getElem?_append_right (by simp; omega)]
        simp only [List.length_append, List.length_map, List.length_singleton, List.length_cons, List.length_nil]
        rw [show H.length + 4 + ps.length - (H.length + (0 + 1) + ps.length + (0 + 1) + (0 + 1) + (0 + 1)) = 0 from by omega]; rfl
      | 1, hi, ho =>
        have e1 : H.length = l := Option.some.inj hi
        have e2 : AO.list B = o := Option.some.inj ho
        subst e1; subst e2
        simp only [List.append_assoc]
        rw [List.getElem?_append_right (Nat.le_refl _), Nat.sub_self]; rfl
      | 2, hi, ho =>
        have e1 : H.length + 2 + ps.length = l := Option.some.inj hi
        have e2 : AO.list [] = o := Option.some.inj ho
        subst e1; subst e2
        rw [List.getElem?_append_left (by simp; omega), List.getElem?_append_left (by simp; omega), List.getElem?_append_right (by simp; omega)]
        simp only [List.length_append, List.length_map, List.length_singleton, List.length_cons, List.length_nil]
        rw [show H.length + 2 + ps.length - (H.length + (0 + 1) + ps.length + (0 + 1)) = 0 from by omega]; rfl
      | 3, hi, ho =>
        have e1 : H.length + 1 + ps.length = l := Option.some.inj hi
        have e2 : AO.list ((List.range ps.length).map fun j => .loc (H.length + 1 + j)) = o := Option.some.inj ho
        subst e1; subst e2
        rw [List.getElem?_append_left (by simp; omega), List.getElem?_append_left (by simp; omega), List.getElem?_append_left (by simp; omega), List.getElem?_append_right (by simp; omega)]
        simp only [List.length_append, List.length_map, List.length_singleton, List.length_cons, List.length_nil]
        rw [show H.length + 1 + ps.length - (H.length + (0 + 1) + ps.length) = 0 from by omega]; rfl
      | 4, hi, ho =>
        have e1 : H.length + 3 + ps.length = l := Option.some.inj hi
        have e2 : AO.list [] = o := Option.some.inj ho
        subst e1; subst e2
        rw [List.getElem?_append_left (by simp; omega), List.getElem?_append_right (by simp; omega)]
        simp only [List.length_append, List.length_map, List.length_singleton, List.length_cons, List.length_nil]
        rw [show H.length + 3 + ps.length - (H.length + (0 + 1) + ps.length + (0 + 1) + (0 + 1)) = 0 from by omega]; rfl
      | 5, hi, ho =>
        have e1 : H.length + 1 + j = l := Option.some.inj hi
        have e2 : handD p = o := Option.some.inj ho
        subst e1; subst e2
        rw [List.getElem?_append_left (by simp; omega), List.getElem?_append_left (by simp; omega), List.getElem?_append_left (by simp; omega), List.getElem?_append_left (by simp; omega), List.getElem?_append_right (by simp)]
        simp only [List.length_append, List.length_singleton, List.length_cons, List.length_nil]
        rw [show H.length + 1 + j - (H.length + (0 + 1)) = j from by omega, List.getElem?_map, hp]; rfl
      | i + 6, hi, ho => exact absurd hi (by simp [Cn.ls0])
    · show [H.length + 4 + ps.length, H.length, H.length + 2 + ps.length, H.length + 1 + ps.length, H.length + 3 + ps.length, H.length + 1 + j].Nodup
      simp; omega
  · refine ⟨fun l => if H.length + 1 ≤ l ∧ l < H.length + 1 + ps.length then l - (H.length + 1) + 1 else 0, fun l hm => ?_, fun j h hj l hm => ?_⟩
    · have hm' : l ∈ [H.length + 4 + ps.length, H.length, H.length + 2 + ps.length, H.length + 1 + ps.length, H.length + 3 + ps.length] := hm
      simp only [List.mem_cons, List.not_mem_nil, or_false] at hm'
      have : ¬ (H.length + 1 ≤ l ∧ l < H.length + 1 + ps.length) := by omega
      simp only [this, if_false]
    · obtain ⟨p, hp, rfl⟩ := hs_at j h hj
      have hjl := (List.getElem?_eq_some_iff.mp hp).1
      rw [hl_none (c := h0 H.length j p) rfl, List.mem_singleton] at hm
      have hm' : l = H.length + 1 + j := hm
      have : H.length + 1 ≤ l ∧ l < H.length + 1 + ps.length := by omega
      simp only [this, and_self, if_true]
      omega
  · intro l hl
    refine ⟨fun hm => ?_, fun j h hj hm => ?_⟩
    · have hm' : l ∈ [H.length + 4 + ps.length, H.length, H.length + 2 + ps.length, H.length + 1 + ps.length, H.length + 3 + ps.length] := hm
      simp only [List.mem_cons, List.not_mem_nil, or_false] at hm'
      omega
    · obtain ⟨p, hp, rfl⟩ := hs_at j h hj
      rw [hl_none (c := h0 H.length j p) rfl, List.mem_singleton] at hm
      have hm' : l = H.length + 1 + j := hm
      omega
end Mine


set_option autoImplicit false
set_option linter.unusedVariables false
set_option maxRecDepth 100000
namespace Mine
open PySem PyProof.Rows

theorem mapIdx_at {ps : List (List AV)} {b j : Nat} {h : Cn} (hj : (ps.mapIdx fun j p => h0 b j p)[j]? = some h) : ∃ p, ps[j]? = some p ∧ h = h0 b j p := by
  rw [List.getElem?_mapIdx] at hj
  cases hp : ps[j]? with
  | none => rw [hp] at hj; cases hj
  | some p => rw [hp] at hj; cases hj; exact ⟨p, rfl, rfl⟩

theorem s_tower (n : Nat) {L : List AV} {H : AHeap} {lp : Nat} {PL : List Nat} (hL : AllI L) (hl : L.length ≤ 60) (hP : PrOk H lp PL 24) (hp : PL.length ≤ 20) :
    Rn (callP P09 (n + 4) "tower_of" [.lst L, .loc lp, .str "marks"]) H fun a H' => ∃ g hs, a = .loc g.st ∧ Rep H' g hs ∧ Gl 0 g ∧ g.mark = 0 ∧ hs.length = PL.length ∧ (∀ (j : Nat) h s, hs[j]? = some h → HOk 0 g h s) ∧ ∀ l, l < H.length → H'[l]? = H[l]? ∧ Free g hs l := by
  have hLIM := LIMis
  refine callRn (σ := [some (.lst L), some (.loc lp), some (.str "marks"), none, none, none, none, none, none]) (by kernel_rfl) (by kernel_rfl) (by kernel_rfl) ?_
  rw [c_tower_of_0]
  refine .then (s_need_all n hL hl hP hp) ?_
  rintro _ H1 rfl
  refine .bof (newT (by simp)) ?_
  rw [pure_bind, listOf_lst, pure_bind, srcOf_lst, pure_bind]
  refine .then (forE (fun k σ H2 => ∃ B o1 o2 o3 o4 o5, σ = [some (.lst L), some (.loc lp), some (.str "marks"), some (.loc H1.length), o1, o2, o3, o4, o5] ∧ H2 = H1 ++ [.list B] ∧ B.length = k ∧ ∀ x ∈ B, Bx L.length x)
    (Q := fun r H2 => ∃ B o1 o2 o3 o4 o5, r = .next [some (.lst L), some (.loc lp), some (.str "marks"), some (.loc H1.length), o1, o2, o3, o4, o5] ∧ H2 = H1 ++ [.list B] ∧ B.length = L.length ∧ ∀ x ∈ B, Bx L.length x) (by omega) ?_ ?_ ?_) ?_
  · exact ⟨[], _, _, _, _, _, rfl, rfl, rfl, fun x hx => by cases hx⟩
  · rintro k a σ H2 ha ⟨B, o1, o2, o3, o4, o5, rfl, rfl, hB, hx⟩
    have hk : k < L.length := (List.getElem?_eq_some_iff.mp ha).1
    have tail : ∀ (bl : AV), VIx L.length bl → Rn (tl P09 (callP P09 (n + 3)) "tower_of" [(2, 0)] 2 35 [some (.lst L), some (.loc lp), some (.str "marks"), some (.loc H1.length), some (.int k), some a, some bl, o4, o5]) (H1 ++ [.list B])
        (Fl (fun σ H2 => ∃ B o1 o2 o3 o4 o5, σ = [some (.lst L), some (.loc lp), some (.str "marks"), some (.loc H1.length), o1, o2, o3, o4, o5] ∧ H2 = H1 ++ [.list B] ∧ B.length = k + 1 ∧ ∀ x ∈ B, Bx L.length x)
          fun v H' => ∃ B o1 o2 o3 o4 o5, Res.ret v = .next [some (.lst L), some (.loc lp), some (.str "marks"), some (.loc H1.length), o1, o2, o3, o4, o5] ∧ H' = H1 ++ [.list B] ∧ B.length = L.length ∧ ∀ x ∈ B, Bx L.length x) := by
      intro bl hbl
      rw [c_tower_of_t20_2]
      refine .bind ?_
      rw [pure_bind]
      refine .bof (listOf_loc app_at) (.of (append_loc app_at (by omega)) ?_)
      refine .pure ⟨B ++ [.tup [a, bl]], _, _, _, _, _, rfl, by simp, by simp [hB], fun x hxx => ?_⟩
      rcases List.mem_append.mp hxx with h | h
      · exact hx x h
      · rw [List.mem_singleton] at h
        exact ⟨a, bl, h, hbl⟩
    rw [c_tower_of_for_2, m_add, pure_bind, e_len_lst, pure_bind, e_eqi, pure_bind]
    by_cases he : (k : Int) + 1 = L.length
    · rw [decide_eq_true he]
      exact .bind (.pure (tail .none (.inl rfl)))
    · rw [decide_eq_false he]
      exact .bind (.pure (tail (.int ((k : Int) + 1)) (.inr ⟨k + 1, rfl, by omega⟩)))
  · rintro σ H2 ⟨B, o1, o2, o3, o4, o5, rfl, rfl, hB, hx⟩
    exact ⟨B, _, _, _, _, _, rfl, rfl, hB, hx⟩
  rintro r H2 ⟨B, o1, o2, o3, o4, o5, rfl, rfl, hB, hx⟩
  have tail : ∀ (hd : AV), VIx L.length hd → Rn (tl P09 (callP P09 (n + 3)) "tower_of" [] 5 35 [some (.lst L), some (.loc lp), some (.str "marks"), some (.loc H1.length), o1, o2, o3, some hd, o5]) (H1 ++ [.list B])
      (Fl (fun _ H' => ∃ g hs, AV.none = .loc g.st ∧ Rep H' g hs ∧ Gl 0 g ∧ g.mark = 0 ∧ hs.length = PL.length ∧ (∀ (j : Nat) h s, hs[j]? = some h → HOk 0 g h s) ∧ ∀ l, l < H1.length → H'[l]? = H1[l]? ∧ Free g hs l)
        fun a H' => ∃ g hs, a = .loc g.st ∧ Rep H' g hs ∧ Gl 0 g ∧ g.mark = 0 ∧ hs.length = PL.length ∧ (∀ (j : Nat) h s, hs[j]? = some h → HOk 0 g h s) ∧ ∀ l, l < H1.length → H'[l]? = H1[l]? ∧ Free g hs l) := by
    intro hd hhd
    have hlp : lp < H1.length := (List.getElem?_eq_some_iff.mp hP.1).1
    rw [c_tower_of_t_5, pure_bind]
    refine .bind (.bof (srcOf_loc (l := lp) (xs := PL.map .loc) (by rw [app_lt hlp]; exact hP.1)) ?_)
    refine .then (compA (PL.map .loc) (fun i acc H3 => ∃ ps : List (List AV), H3 = H1 ++ [.list B] ++ ps.map handD ∧ ps.length = i ∧ acc = (List.range i).map (fun j => .loc (H1.length + 1 + j)) ∧ ∀ p ∈ ps, ∀ d ∈ p, DJ d) (by rw [List.length_map]; omega) ?_ ?_ ?_) ?_
    · rintro i acc H3 ⟨ps, rfl, _⟩
      show (match (H1 ++ [AO.list B] ++ ps.map handD)[lp]? with | some (.list xs) => some (xs[i]?, H1 ++ [AO.list B] ++ ps.map handD) | _ => none) = _
      rw [List.getElem?_append_left (by simp; omega), app_lt hlp, hP.1]
    · exact ⟨[], by simp, rfl, rfl, fun p hp => by cases hp⟩
    · rintro i a acc H3 ha hacc ⟨ps, rfl, hi, rfl, hps⟩
      obtain ⟨q, hq, rfl⟩ := List.mem_map.mp (List.mem_of_getElem? ha)
      obtain ⟨_, ds, hds, hdj, hdl⟩ := hP.2 q hq
      have hql : q < H1.length := (List.getElem?_eq_some_iff.mp hds).1
      have hds' : (H1 ++ [AO.list B] ++ ps.map handD)[q]? = some (.list ds) := by rw [List.getElem?_append_left (by simp; omega), app_lt hql]; exact hds
      refine .bind (.bind ?_)
      refine .eachE (a := .tup ds) (bind_of (listOf_loc hds') rfl) (.eachP (.eachP (.each0 (.of newDT (.pure ⟨_, rfl, ps ++ [ds], ?_, ?_, ?_, ?_⟩)))))
      · simp; rfl
      · simp [hi]
      · rw [List.range_succ, List.map_append]
        simp [hi]; omega
      · intro p hp
        rcases List.mem_append.mp hp with h | h
        · exact hps p h
        · rw [List.mem_singleton] at h
          rw [h]; exact hdj
    · rintro acc H3 ⟨⟨ps, rfl, hi, rfl, hps⟩, hlen⟩
      rw [List.length_map] at hi
      refine .of (newT (by rw [List.length_map, List.length_range, List.length_map]; omega)) ?_
      refine .bind (.bind (.eachP (.eachP (.eachP (.eachP (.eachE (newT (by simp)) (.eachP (.eachP (.eachE (newT (by simp)) (.each0 (.of newDT (.pure ?_))))))))))))
      rw [← hB] at hhd hx
      have R := tower_rep (H := H1) (B := B) (hd := hd) (ps := ps)
      refine ⟨g0 H1.length ps.length B hd, ps.mapIdx fun j p => h0 H1.length j p, ?_, ?_, ?_, rfl, by simp [hi], ?_, fun l hl => ⟨?_, R.2 l hl⟩⟩
      · show AV.loc _ = AV.loc (H1.length + 4 + ps.length)
        congr 1
        simp; omega
      · have e := R.1
        rw [List.length_map, ← hi]
        have e3 : (H1 ++ [AO.list B] ++ ps.map handD).length = H1.length + 1 + ps.length := by simp; omega
        have e4 : (H1 ++ [AO.list B] ++ ps.map handD ++ [AO.list ((List.range ps.length).map fun j => .loc (H1.length + 1 + j))]).length = H1.length + 2 + ps.length := by simp; omega
        have e5 : (H1 ++ [AO.list B] ++ ps.map handD ++ [AO.list ((List.range ps.length).map fun j => .loc (H1.length + 1 + j))] ++ [AO.list []]).length = H1.length + 3 + ps.length := by simp; omega
        rw [e3, e4, e5]
        exact e
      · exact ⟨rfl, hhd, hx, (fun x hx => by cases hx), (fun x hx => by cases hx), by show B.length ≤ 60 + 0; omega, Nat.le_refl _, Nat.le_refl _⟩
      · intro j h s hj
        obtain ⟨p, hp, rfl⟩ := mapIdx_at hj
        refine ⟨fun d hd => (hps p (List.mem_of_getElem? hp) d hd).ok, ⟨0, rfl, Nat.zero_le _, fun q => absurd rfl q⟩, .inl rfl⟩
      · simp only [List.append_assoc]
        exact List.getElem?_append_left hl
  rw [e_go_next, c_tower_of_t_3, e_len_lst, pure_bind, e_gt, pure_bind]
  by_cases h0' : (0 : Int) < L.length
  · rw [decide_eq_true h0']
    exact .bind (.pure (tail (.int 0) (.inr ⟨0, rfl, by omega⟩)))
  · rw [decide_eq_false h0']
    exact .bind (.pure (tail .none (.inl rfl)))
end Mine


set_option autoImplicit false
set_option linter.unusedVariables false
set_option maxRecDepth 100000
namespace Mine
open PySem PyProof.Rows

theorem Rep.reads {H : AHeap} {g h : Cn} {hs : List Cn} {i : Nat} (R : Rep H g hs) (hi : hs[i]? = some h) : H[g.st]? = some (.dict g.sD) ∧ H[g.lh]? = some (.list g.hs) := by
  rcases R.one i h hi with ⟨_, F⟩ | ⟨_, F⟩
  · exact ⟨F.s, F.h⟩
  · exact ⟨F.s, F.h⟩
theorem head_of_g (n : Nat) {H : AHeap} {c : Cn} (h : H[c.st]? = some (.dict c.sD)) : callP P09 (n + 1) "head_of" [.loc c.st] H = some (.tup [c.head, .int c.mark], H) := by
  refine callR (σ := [some (.loc c.st)]) (by kernel_rfl) (by kernel_rfl) (by kernel_rfl) ?_
  rw [c_head_of_0]
  refine Rn.val (.bind (.bind ?_))
  exact .eachE (dItem h (by kernel_rfl)) (.eachE (dItem h (by kernel_rfl)) (.each0 (.pure (.pure ⟨rfl, rfl⟩))))
theorem s_need_hand (n : Nat) {H : AHeap} {g : Cn} {i : Nat} (h1 : H[g.st]? = some (.dict g.sD)) (h2 : H[g.lh]? = some (.list g.hs)) (hi : i < g.hs.length) :
    callP P09 (n + 2) "need_hand" [.loc g.st, .int i] H = some (.none, H) := by
  refine callN (σ := [some (.loc g.st), some (.int i)]) (σ' := [some (.loc g.st), some (.int i)]) (by kernel_rfl) (by kernel_rfl) (by kernel_rfl) ?_
  rw [c_need_hand_0, s_whole n]
  simp only [pure_bind, e_truth, Bool.not_true]
  rw [e_le, decide_eq_true (by omega)]
  simp only [pure_bind]
  refine Rn.val (.bind (.bind (.bind (.bind (.bind (.eachE (dItem (v := .loc g.lh) h1 (by kernel_rfl)) (.each0 (.of (len_loc h2) ?_))))))))
  rw [e_lt, decide_eq_true (by omega)]
  exact .pure (.pure (.pure (.pure ⟨rfl, rfl⟩)))

/-- what the steps told, seen by the law: ms the marks, ss what each hand saw -/
noncomputable def Tr (W acc : List AV) (n : Nat) (ms : Nat → Int) (ss : Nat → List Int) : Prop :=
  ∀ j, j < n → ∃ (i : Nat) (s s' : Int) (told : AV), W[j]? = some (.int i) ∧ acc[j]? = some told ∧ (ss j)[i]? = some s ∧ LT told (ms j) (ms (j + 1)) s s' ∧ ss (j + 1) = (ss j).set i s'

theorem s_woven (n : Nat) {L W : List AV} {H : AHeap} {lp lw m : Nat} {PL : List Nat} (hL : AllI L) (hl : L.length ≤ 60) (hP : PrOk H lp PL 24) (hp : PL.length = m) (hm : 1 ≤ m ∧ m ≤ 20) (hw : H[lw]? = some (.list W)) (hW : ∀ x ∈ W, InR m x) (hWl : W.length ≤ 252) :
    Rn (callP P09 (n + 6) "woven" [.lst L, .loc lp, .loc lw, .str "marks"]) H fun a H' => ∃ (g : Cn) (steps : List AV) (ms : Nat → Int) (ss : Nat → List Int), a = .tup [.loc g.st, .lst steps] ∧ H'[g.st]? = some (.dict g.sD) ∧ H'[lw]? = some (.list W) ∧ g.mark = ms W.length ∧ steps.length = W.length ∧ ms 0 = 0 ∧ ss 0 = List.replicate m 0 ∧ Tr W steps W.length ms ss := by
  have hLIM := LIMis
  refine callRn (σ := [some (.lst L), some (.loc lp), some (.loc lw), some (.str "marks"), none, none, none]) (by kernel_rfl) (by kernel_rfl) (by kernel_rfl) ?_
  rw [c_woven_0]
  refine .then (s_tower (n + 1) hL hl hP (by omega)) ?_
  rintro a H1 ⟨g, hs, rfl, R, G, hmk, hhs, hok, hfr⟩
  have hlw : lw < H.length := (List.getElem?_eq_some_iff.mp hw).1
  have hw1 : H1[lw]? = some (.list W) := by rw [(hfr lw hlw).1]; exact hw
  have h00 : 0 < hs.length := by omega
  have rd := R.reads (List.getElem?_eq_getElem h00)
  have hghs : g.hs.length = m := by rw [R.hsv, List.length_map]; omega
  refine .bind (.bof (len_loc hw1) ?_)
  rw [g_MOST_STEPS, e_gt, decide_eq_false (by omega)]
  refine .pure (.bind (.pure ?_))
  show Rn (tl P09 _ "woven" [] 2 38 _) _ _
  rw [c_woven_t_2, pure_bind]
  refine .bof (srcOf_loc hw1) ?_
  refine .then (forA (xs := W) (fun k σ H2 => H2 = H1 ∧ ∃ o1 o2 o3 o4 o5, σ = [o1, o2, some (.loc lw), o3, some (.loc g.st), o4, o5]) (Q := fun r H2 => H2 = H1 ∧ ∃ o1 o2 o3 o4 o5, r = .next [o1, o2, some (.loc lw), o3, some (.loc g.st), o4, o5]) (by omega) ⟨rfl, _, _, _, _, _, rfl⟩ (fun i σ H3 q => by rw [q.1]; exact hw1) ?_ ?_) ?_
  · rintro k a σ H2 ha ⟨rfl, o1, o2, o3, o4, o5, rfl⟩
    obtain ⟨i, rfl, h1, h2⟩ := hW a (List.mem_of_getElem? ha)
    obtain ⟨i, rfl⟩ := Int.eq_ofNat_of_zero_le h1
    rw [c_woven_for_2]
    exact .bof (s_need_hand (n + 3) rd.1 rd.2 (by omega)) (.pure ⟨rfl, _, _, _, _, _, rfl⟩)
  · rintro σ H2 ⟨rfl, o1, o2, o3, o4, o5, rfl⟩
    exact ⟨rfl, _, _, _, _, _, rfl⟩
  rintro r H2 ⟨rfl, o1, o2, o3, o4, o5, rfl⟩
  rw [e_go_next, c_woven_t_3, pure_bind]
  refine .bind (.bof (srcOf_loc hw1) ?_)
  refine .then (compA W (fun i acc H3 => ∃ (g' : Cn) (hs' : List Cn) (ms : Nat → Int) (ss : Nat → List Int), g'.st = g.st ∧ Rep H3 g' hs' ∧ Gl i g' ∧ hs'.length = m ∧ g'.mark = ms i ∧ (ss i).length = m ∧ (∀ (j : Nat) h s, hs'[j]? = some h → (ss i)[j]? = some s → HOk i g' h s) ∧ ms 0 = 0 ∧ ss 0 = List.replicate m 0 ∧ (lw < H3.length ∧ H3[lw]? = some (.list W) ∧ Free g' hs' lw) ∧ Tr W acc i ms ss) (by omega) ?_ ?_ ?_) ?_
  · rintro i acc H3 ⟨g', hs', ms, ss, _, _, _, _, _, _, _, _, _, ⟨_, q, _⟩, _⟩
    show (match H3[lw]? with | some (.list xs) => some (xs[i]?, H3) | _ => none) = _
    rw [q]
  · exact ⟨g, hs, fun _ => 0, fun _ => List.replicate m 0, rfl, R, G, by omega, hmk, by simp, fun j h s hj _ => hok j h s hj, rfl, rfl, ⟨(List.getElem?_eq_some_iff.mp hw1).1, hw1, (hfr lw hlw).2⟩, fun j hj => absurd hj (Nat.not_lt_zero _)⟩
  · rintro i a acc H3 ha hacc ⟨g', hs', ms, ss, e1, R', G', e2, e3, e4, e5, e6, e7, ⟨e8, e9, e10⟩, e11⟩
    have hi : i < W.length := (List.getElem?_eq_some_iff.mp ha).1
    obtain ⟨x, rfl, h1, h2⟩ := hW a (List.mem_of_getElem? ha)
    obtain ⟨x, rfl⟩ := Int.eq_ofNat_of_zero_le h1
    have hx1 : x < hs'.length := by omega
    have hx2 : x < (ss i).length := by omega
    rw [← e1]
    refine .then (go_step n R' G' e5 (by omega) (List.getElem?_eq_getElem hx1) (List.getElem?_eq_getElem hx2)) ?_
    rintro told H4 ⟨g2, hs2, s', R2, ⟨f1, f2⟩, G2, k1, k2, k3, s, k4, k5⟩
    refine .pure ⟨told, rfl, g2, hs2, fun j => if j = i + 1 then g2.mark else ms j, fun j => if j = i + 1 then (ss i).set x s' else ss j, k1, R2, G2, by omega, by simp, by simp [e4], ?_, by simp [e6], by simp [e7], ⟨by omega, by rw [(f2 lw e8 e10).1]; exact e9, (f2 lw e8 e10).2⟩, ?_⟩
    · intro j h sj hj hsj
      simp only [if_true] at hsj
      exact k3 j h sj hj hsj
    · intro j hj
      by_cases hji : j = i
      · subst hji
        refine ⟨x, s, s', told, ha, by rw [List.getElem?_append_right (by omega), hacc]; simp, ?_, ?_, ?_⟩
        · have : ¬ j = j + 1 := by omega
          simp only [this, if_false]; exact k4
        · have : ¬ j = j + 1 := by omega
          simp only [this, if_false, if_true]
          rw [← e3]; exact k5
        · have : ¬ j = j + 1 := by omega
          simp only [this, if_false, if_true]
      · obtain ⟨i', q1, q2, q3, z1, z2, z3, z4, z5⟩ := e11 j (by omega)
        have n1 : ¬ j = i + 1 := by omega
        have n2 : ¬ j + 1 = i + 1 := by omega
        refine ⟨i', q1, q2, q3, z1, by rw [List.getElem?_append_left (by omega)]; exact z2, ?_, ?_, ?_⟩
        · simp only [n1, if_false]; exact z3
        · simp only [n1, n2, if_false]; exact z4
        · simp only [n1, n2, if_false]; exact z5
  · rintro steps H3 ⟨⟨g', hs', ms, ss, e1, R', G', e2, e3, e4, e5, e6, e7, ⟨e8, e9, e10⟩, e11⟩, hlen⟩
    rw [e_newL (by omega)]
    refine .pure (.pure ⟨g', steps, ms, ss, by rw [e1], (R'.reads (i := 0) (List.getElem?_eq_getElem (by omega))).1, e9, e3, hlen, e6, e7, e11⟩)
end Mine


set_option autoImplicit false
set_option linter.unusedVariables false
set_option maxRecDepth 100000
namespace Mine
open PySem PyProof.Rows

theorem ne_int {i : Int} : pCmp .NotEq (.int i) (.int i) = pure false := by
  show (do let r ← pCmp .Eq (.int i) (.int i); pure (!r)) = _
  rw [e_eqi, decide_eq_true rfl, pure_bind]; rfl
theorem ne_bool {b : Bool} : pCmp .NotEq (.bool b) (.bool b) = pure false := by cases b <;> kernel_rfl
theorem set_last {H : AHeap} {a x : AO} : (H ++ [a]).set H.length x = H ++ [x] := by simp
theorem mul_ten {H : AHeap} {m : Nat} (hm : m ≤ 20) : pBin true .Mult (.lst [.int 0]) (.int m) H = some (.loc H.length, H ++ [.list (List.replicate m (.int 0))]) := by
  have L := LIMis
  show (do let xs ← (pure [AV.int 0] : M _); if (m : Int) < 0 ∨ 1048576 < (m : Int) ∨ LIM < (m : Int).toNat * xs.length then stuck else newL true (List.replicate (m : Int).toNat xs).flatten) H = _
  rw [pure_bind, if_neg (by rw [Int.toNat_natCast]; simp; omega), Int.toNat_natCast]
  have e : (List.replicate m [AV.int 0]).flatten = List.replicate m (.int 0) := by
    induction m with
    | zero => rfl
    | succ k ih => rw [List.replicate_succ, List.flatten_cons, ih (by omega), List.replicate_succ]; rfl
  rw [e]
  exact newT (by simp; omega)

/-- a turn of the law's loop -/
theorem s_turn (n : Nat) {W steps : List AV} {HW : AHeap} {lw k i : Nat} {st : Nat} {m m' s s' : Int} {S : List Int} {told : AV} {o1 o2 o3 o4 o5 : Option AV}
    (hw : HW[lw]? = some (.list W)) (hWk : W[k]? = some (.int i)) (hk : steps[k]? = some told) (hs : S[i]? = some s) (hT : LT told m m' s s') :
    Rn (forB P09 (callP P09 n) "law" [] 7 32 (.int k) [o1, o2, o3, some (.loc lw), some (.tup [.loc st, .lst steps]), some (.int m), some (.loc HW.length), o4, o5]) (HW ++ [.list (S.map .int)])
      (Fl (fun σ H' => (∃ o1 o2 o3 o4 o5, σ = [o1, o2, o3, some (.loc lw), some (.tup [.loc st, .lst steps]), some (.int m'), some (.loc HW.length), o4, o5]) ∧ H' = HW ++ [.list ((S.set i s').map .int)]) fun _ _ => False) := by
  have hlw : lw < HW.length := (List.getElem?_eq_some_iff.mp hw).1
  have hil : i < S.length := (List.getElem?_eq_some_iff.mp hs).1
  have hwx : ∀ x : AO, (HW ++ [x])[lw]? = some (.list W) := fun x => by rw [app_lt hlw]; exact hw
  have hsx : (S.map AV.int)[i]? = some (.int s) := by rw [List.getElem?_map, hs]; rfl
  have hset : ∀ v : Int, (S.map AV.int).set i (.int v) = (S.set i v).map .int := fun v => by rw [List.map_set]
  have hself : S.set i s = S := by
    apply List.ext_getElem?
    intro j
    by_cases hij : i = j
    · subst hij; rw [List.getElem?_set_self hil, hs]
    · rw [List.getElem?_set_ne hij]
  rw [c_law_for_7, e_itT (k := 1) (a := .lst steps) rfl, pure_bind, e_item_lst hk, pure_bind]
  rcases hT with ⟨h, rfl, rfl, rfl⟩ | ⟨b, rfl, rfl, rfl, rfl⟩ | ⟨x, r, rfl, hx, hx1, hx2, rfl, rfl⟩
  · rw [e_it0, pure_bind, e_eqs (by kernel_rfl) (by kernel_rfl), decide_eq_true rfl, pure_bind, e_itT (k := 2) (a := .int s') rfl]
    simp only [pure_bind]
    rw [ne_int]
    simp only [pure_bind, e_go_next]
    rw [c_law_t70_10_1]
    refine .bind (.bof (item_loc (hwx _) hWk) ?_)
    refine .bof (lStore app_at (by rw [List.length_map]; exact hil)) ?_
    rw [set_last, hset]
    refine .pure ?_
    show Rn (tl P09 _ "law" [(7, 0)] 2 30 _) _ _
    rw [c_law_t70_2, e_it0, pure_bind, e_eqs (by kernel_rfl) (by kernel_rfl), decide_eq_false (by decide), pure_bind]
    exact .pure ⟨⟨_, _, _, _, _, rfl⟩, rfl⟩
  · rw [e_it0, pure_bind, e_eqs (by kernel_rfl) (by kernel_rfl), decide_eq_false (by decide), pure_bind]
    refine .bind (.pure ?_)
    show Rn (tl P09 _ "law" [(7, 0)] 2 30 _) _ _
    rw [c_law_t70_2, e_it0, pure_bind, e_eqs (by kernel_rfl) (by kernel_rfl), decide_eq_true rfl, pure_bind, e_itT (k := 1) (a := .bool (decide (s' = m))) rfl]
    simp only [pure_bind]
    rw [show pIsi (.bool (decide (s' = m))) .bool = pure true from rfl]
    simp only [pure_bind, e_truth, Bool.not_true]
    refine .bind (.bind ?_)
    refine .bind (.bind (.bind (.bof (item_loc (hwx _) hWk) (.of (item_loc app_at hsx) ?_))))
    rw [e_eqi, pure_bind]
    refine .pure ?_
    rw [ne_bool]
    refine .pure (.pure ?_)
    show Rn (tl P09 _ "law" [(7, 0), (2, 0)] 1 28 _) _ _
    rw [c_law_t70_20_1, e_itT (k := 1) (a := .bool (decide (s' = m))) rfl, e_eachp, e_each0, pure_bind, pure_bind]
    rw [show pBI false .int [.bool (decide (s' = m))] = pure (.int (if decide (s' = m) then 1 else 0)) from rfl, pure_bind, m_add, pure_bind]
    exact .pure (.pure ⟨⟨_, _, _, _, _, rfl⟩, by rw [hself]⟩)
  · rw [e_it0, pure_bind, e_eqs hx (by kernel_rfl), decide_eq_false hx1, pure_bind]
    refine .bind (.pure ?_)
    show Rn (tl P09 _ "law" [(7, 0)] 2 30 _) _ _
    rw [c_law_t70_2, e_it0, pure_bind, e_eqs hx (by kernel_rfl), decide_eq_false hx2, pure_bind]
    exact .pure ⟨⟨_, _, _, _, _, rfl⟩, by rw [hself]⟩

theorem s_law (ns : List Int) (hl : ns.length ≤ 63) : Rn (callP P09 8 "law" [.lst (ns.map .int)]) [] fun a _ => a = .bool true := by
  refine callRn (σ := [some (.lst (ns.map .int)), none, none, none, none, none, none, none, none]) (by kernel_rfl) (by kernel_rfl) (by kernel_rfl) ?_
  have LL := LIMis
  obtain ⟨m, hm1, hm2, hm3⟩ := s_hands_by 6 (cellAt ns 2)
  obtain ⟨L, hL1, hL2, hL3⟩ := s_start_by 5 (cellAt ns 0)
  rw [c_law_0, show (AV.int 2) = .int ((2 : Nat) : Int) from rfl, show (AV.int 0) = .int ((0 : Nat) : Int) from rfl, s_cell_at 5, s_cell_at 5]
  refine .bind (.bind (.eachP (.each0 ?_)))
  rw [hm3]
  refine .pure (.bind (.bind (.eachP (.each0 ?_))))
  rw [hL3]
  refine .pure ?_
  refine .then (s_weaving 4 ns hl m ⟨hm1, hm2⟩ []) ?_
  rintro a H1 ⟨lw, W, rfl, hw, hW, hWl⟩
  refine .bind (.bind (.eachP (.eachC ?_)))
  refine Rn.mono (s_programs 4 ns hl m ⟨hm1, hm2⟩ H1) ?_
  rintro a H2 ⟨lp, PL, rfl, hP, hPl, hfr⟩
  have hlw : lw < H1.length := (List.getElem?_eq_some_iff.mp hw).1
  refine .eachP (.eachP (.each0 ?_))
  refine Rn.mono (s_woven 1 (W := W) (lw := lw) (m := m) hL1 hL2 hP hPl ⟨hm1, hm2⟩ (by rw [hfr lw hlw]; exact hw) hW hWl) ?_
  rintro a HW ⟨g, steps, ms, ss, rfl, hg, hw3, hmk, hsl, hms, hss, hTr⟩
  have hlw3 : lw < HW.length := (List.getElem?_eq_some_iff.mp hw3).1
  rw [e_newL (by simp; omega), pure_bind]
  refine Rn.bof (a := .loc HW.length) (H1 := HW ++ [.list (List.replicate m (.int 0))]) (mul_ten hm2) ?_
  have hw4 : ∀ x : AO, (HW ++ [x])[lw]? = some (.list W) := fun x => by rw [app_lt hlw3]; exact hw3
  rw [e_itT (k := 1) (a := .lst steps) rfl]
  simp only [e_eachp, e_each0, pure_bind]
  rw [e_len_lst]
  simp only [pure_bind]
  refine .bind (.bof (len_loc (hw4 _)) ?_)
  rw [hsl, ne_int]
  refine .pure ?_
  show Rn (tl P09 _ "law" [] 7 33 _) _ _
  rw [c_law_t_7]
  refine .bind (.bind (.eachE (len_loc (hw4 _)) (.each0 ?_)))
  rw [e_range1]
  refine .pure ?_
  rw [srcOf_range (by omega) (by omega), pure_bind]
  refine .then (forI (fun k σ H => (∃ o1 o2 o3 o4 o5, σ = [o1, o2, o3, some (.loc lw), some (.tup [.loc g.st, .lst steps]), some (.int (ms k)), some (.loc HW.length), o4, o5]) ∧ H = HW ++ [.list ((ss k).map .int)])
    (Q := fun r H => (∃ o1 o2 o3 o4 o5, r = .next [o1, o2, o3, some (.loc lw), some (.tup [.loc g.st, .lst steps]), some (.int (ms W.length)), some (.loc HW.length), o4, o5]) ∧ H = HW ++ [.list ((ss W.length).map .int)]) (by rw [rangeL_length]; omega) ?_ ?_ ?_) ?_
  · exact ⟨⟨_, _, _, _, _, by rw [hms]; rfl⟩, by rw [hss, List.map_replicate]⟩
  · rintro k a σ H ha ⟨⟨o1, o2, o3, o4, o5, rfl⟩, rfl⟩
    obtain ⟨rfl, hk⟩ := rangeL_at ha
    obtain ⟨i, s, s', told, t1, t2, t3, t4, t5⟩ := hTr k (by omega)
    rw [show (0 : Int) + (k : Int) = (k : Int) from by omega]
    refine Rn.mono (s_turn 7 (o1 := o1) (o2 := o2) (o3 := o3) (o4 := o4) (o5 := o5) hw3 t1 t2 t3 t4) ?_
    rintro r H' q
    cases r with
    | next σ' =>
      obtain ⟨⟨o1, o2, o3, o4, o5, rfl⟩, rfl⟩ := q
      exact ⟨⟨_, _, _, _, _, rfl⟩, by rw [t5]⟩
    | ret v => exact q.elim
  · rintro σ H ⟨⟨o1, o2, o3, o4, o5, rfl⟩, rfl⟩
    rw [rangeL_length, show ((W.length : Int) - 0).toNat = W.length from by omega]
    exact ⟨⟨_, _, _, _, _, rfl⟩, rfl⟩
  · rintro r H ⟨⟨o1, o2, o3, o4, o5, rfl⟩, rfl⟩
    rw [e_go_next, c_law_t_8, e_it0]
    simp only [e_eachp, e_each0, pure_bind]
    have hg' : ∀ x : AO, (HW ++ [x])[g.st]? = some (.dict g.sD) := fun x => by rw [app_lt (List.getElem?_eq_some_iff.mp hg).1]; exact hg
    refine .bind (.bind (.bof (head_of_g 6 (hg' _)) ?_))
    rw [e_itT (k := 1) (a := .int g.mark) rfl]
    refine .pure ?_
    rw [e_eqi, decide_eq_true hmk]
    exact .pure (.pure rfl)
end Mine


open PySem PySem.W PyProof.Rows
set_option Elab.async false
set_option maxRecDepth 100000
set_option maxHeartbeats 8000000
namespace Mine
noncomputable def kinds09 : List (Str × Tok) := [("marks", 305), ("bare", 306), ("new", 307)]
noncomputable def first09 : List (Str × Tok × Str × Tok) := [("push", 342, "take", 343), ("swap", 344, "take", 345), ("pop", 346, "look", 347), ("top", 348, "look", 349), ("clear", 350, "look", 351)]
noncomputable def look09 : List (Str × Tok × Str × Tok) := [("push", 358, "put", 359), ("swap", 360, "see", 361), ("pop", 362, "see", 363), ("top", 364, "see", 365), ("clear", 366, "put", 367)]
noncomputable def see09 : List (Str × Tok × Str × Tok) := [("swap", 374, "put", 375), ("pop", 376, "put", 377), ("top", 378, "check", 379)]
noncomputable def D09 : Tbl := [("KINDS", 102, tObj kinds09), ("FIRST", 122, dObj first09 5), ("BEHIND_LOOK", 123, dObj look09 5), ("BEHIND_SEE", 124, dObj see09 3)]
noncomputable def q09 : Program := viewOf PySem.Challenge.pw_uf020017_09
noncomputable def loose09 : List Str := ["FIRST", "BEHIND_LOOK", "BEHIND_SEE"]
noncomputable def top09 (w : World) : Prop := (openEnds treeTable PySem.Challenge.pw_uf020017_09 w 6000).map (fun s => (openSeen q09 loose09 (importedModules PySem.Challenge.pw_uf020017_09.main.body) (fun s => xlAt q09 [] s && recOk (RowW.records PySem.Challenge.rw_uf020017_09.row.toRowW) s && tblX D09 s) true s, tblF D09 s)) = some (openGood q09 loose09, tblA D09 w)
theorem left09a (w : World) : top09 (w.withFollow "special-get-raises" false) := by
  unfold top09 openEnds fencedOpening topFrom
  rw [PySem.W.Fast.te10274390034422433532, PySem.W.Fast.te14082659384304107361, PySem.W.Fast.te4187177175401517315, PySem.W.Fast.te14364793385576792824, PySem.W.Fast.te1435165496053646825, PySem.W.Fast.te14289696077712309145, PySem.W.Fast.te5923862056798008813]
  kernel_rfl
theorem left09b (w : World) : top09 (w.withFollow "special-get-raises" true) := by
  unfold top09 openEnds fencedOpening topFrom
  rw [PySem.W.Fast.te10274390034422433532, PySem.W.Fast.te14082659384304107361, PySem.W.Fast.te4187177175401517315, PySem.W.Fast.te14364793385576792824, PySem.W.Fast.te1435165496053646825, PySem.W.Fast.te14289696077712309145, PySem.W.Fast.te5923862056798008813]
  kernel_rfl
theorem left09 : LeftO PySem.Challenge.rw_uf020017_09.row.prog q09 loose09 (fun s => xlAt q09 [] s && recOk (RowW.records PySem.Challenge.rw_uf020017_09.row.toRowW) s && tblX D09 s) (tblF D09) (tblA D09) 6000 :=
  byRow2 (P := top09) "special-get-raises" left09a left09b
theorem said09 : PySem.Challenge.rw_uf020017_09.wellSaid = true := by
  rw [PySem.W.Fast.te9446332074065402090]
  kernel_rfl
theorem promised09 : PySem.Challenge.rw_uf020017_09.row.toRowW.promised := by
  w_witness2
theorem glob09 (w : World) (mean : ExcName → Option Value) (mg mb : Str → Option Value) (h : Heap) (os : OsState) (X : tblXP D09 mg) (Y : tblP D09 w h) (T : Top q09 (looseW q09 loose09) mean mg mb h) (x : Str) (a : AV) (hg : P09.glob x = some a) :
    ∃ v, mg x = some v ∧ VR ⟨PySem.Challenge.rw_uf020017_09.prog, w, h, os, mg, mb, []⟩ [] h a v := by
  unfold P09 at hg
  simp only at hg
  split at hg
  · subst_vars; cases hg
    exact gl_tup (cx := ⟨PySem.Challenge.rw_uf020017_09.prog, w, h, os, mg, mb, []⟩) X Y (es := kinds09) (a := 102) (.head _) rfl (by kernel_rfl)
  split at hg
  · subst_vars; cases hg
    exact gl_int (cx := ⟨PySem.Challenge.rw_uf020017_09.prog, w, h, os, mg, mb, []⟩) T (i := 60) (by kernel_rfl)
  split at hg
  · subst_vars; cases hg
    exact gl_int (cx := ⟨PySem.Challenge.rw_uf020017_09.prog, w, h, os, mg, mb, []⟩) T (i := 20) (by kernel_rfl)
  split at hg
  · subst_vars; cases hg
    exact gl_int (cx := ⟨PySem.Challenge.rw_uf020017_09.prog, w, h, os, mg, mb, []⟩) T (i := 60) (by kernel_rfl)
  split at hg
  · subst_vars; cases hg
    exact gl_dict (cx := ⟨PySem.Challenge.rw_uf020017_09.prog, w, h, os, mg, mb, []⟩) X Y (es := first09) (a := 122) (n := 5) (.tail _ (.head _)) rfl (by kernel_rfl) (by decide)
  split at hg
  · subst_vars; cases hg
    exact gl_dict (cx := ⟨PySem.Challenge.rw_uf020017_09.prog, w, h, os, mg, mb, []⟩) X Y (es := look09) (a := 123) (n := 5) (.tail _ (.tail _ (.head _))) rfl (by kernel_rfl) (by decide)
  split at hg
  · subst_vars; cases hg
    exact gl_dict (cx := ⟨PySem.Challenge.rw_uf020017_09.prog, w, h, os, mg, mb, []⟩) X Y (es := see09) (a := 124) (n := 3) (.tail _ (.tail _ (.tail _ (.head _)))) rfl (by kernel_rfl) (by decide)
  split at hg
  · subst_vars; cases hg
    exact gl_int (cx := ⟨PySem.Challenge.rw_uf020017_09.prog, w, h, os, mg, mb, []⟩) T (i := 2000) (by kernel_rfl)
  cases hg
end Mine
theorem PySem.Challenge.cw_uf020017_09_holds : PySem.Challenge.rw_uf020017_09.Holds := by
  refine Mine.head_law (q := Mine.q09) (loose := Mine.loose09) (D := Mine.D09) (P := Mine.P09) (n := 8) Mine.said09 Mine.left09 (by kernel_rfl) (by kernel_rfl) (by kernel_rfl) (by kernel_rfl) (by kernel_rfl) ⟨rfl, rfl, rfl, rfl, rfl, by decide +kernel⟩ Mine.promised09 rfl rfl (by kernel_rfl) (Mine.defs_ok (by kernel_rfl) (by kernel_rfl)) (by kernel_rfl) (by decide)
    Mine.glob09 (fun ns hl => ?_)
  obtain ⟨a, H', h, rfl⟩ := Mine.s_law ns hl
  exact ⟨H', h⟩

