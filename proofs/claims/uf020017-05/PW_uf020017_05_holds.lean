import PyProof.Rows.All
import PyProof.P3Statements
import PyProof.Claim2
import PyProof.TableCode
import PyProof.Defs
import PyProof.Rows.Top
import PyProof.Rows.CellsFrame
import PyProof.ListOps
import PyProof.TupleOps
import PyProof.P3In
import PyProof.DictTable
import PyProof.RangeFor
import PyProof.SliceMore
import PyProof.Rows.RuleB_mul
import PyProof.Rows.RuleB_floordiv
import PyProof.Rows.RuleB_mod
import PyProof.Rows.RuleB_sub
import PyProof.Rows.RuleB_small
import PyProof.Rows.RuleU_int
import PyProof.Rows.IntRules
import PyProof.Rows.ListMul
import PyProof.Rows.ListMulArg
import PyProof.NeData
import PyProof.IsiPairs
import PyProof.IsiNone
import PyProof.IsiSeqPairs
import PyProof.IsiTupleAll
import PyProof.IsiTupleOf
import PyProof.ListIndexNeg
import PyProof.DictRoads
import PyProof.ListRange
import PyProof.TupleOfSeq
import PyProof.ListCopy
import PyProof.Rows.IntOr
import PyProof.Rows.RuleC_int
import PyProof.DictStraight
import PyProof.WalkInts
import PyProof.ConsumeWalk
import PyProof.Conv_int_bool
import PyProof.Rows.TupMore
import PyProof.DictCopy
import PyProof.LetGo
import KE.KRevSl
import KE.KDictOf
import PyProof.SeqI3
import PyProof.Rows.SortShell
import PyProof.Rows.Chain
import PyProof.CompFree
import PyProof.TupleIter
import PyProof.EnumMake
import PyProof.EnumStmt
import PyProof.Rows.TupSub
import PyProof.Rows.SeqSlice
import PyProof.Rows.Exc
import PyProof.ZipIter
import PyProof.CollectWalk
import PyProof.ListNew
import PyProof.Rows.ZipGen
import Wide.All
import OpenK.AllK
import Wide.FinOn
import PySem.Challenge.RW_uf020017_05
set_option Elab.async false
set_option autoImplicit false
set_option linter.unusedVariables false
namespace Mine
open PySem PyProof.Rows

/-- abstract values: what a Python value is, with lists either frozen (lst) or on the abstract heap (loc) -/
inductive AV where
  | none
  | bool (b : Bool)
  | int (i : Int)
  | str (s : Str)
  | tup (xs : List AV)
  | lst (xs : List AV)
  | loc (l : Nat)
  | range (a b : Int)
  | cdict (es : List (Str × AV))

inductive AO where
  | list (xs : List AV)
  | dict (es : List (Str × AV))

abbrev AHeap := List AO

/-- the most items a list may have here -/
noncomputable def LIM : Nat := 2 ^ 20

abbrev M := StateT AHeap Option
noncomputable def stuck {α : Type} : M α := fun _ => none

/-- turns that a loop may do here -/
noncomputable def FUEL : Nat := 100000

/-- the pure datum that a value reads as, with n levels -/
noncomputable def rd (H : AHeap) : Nat → AV → Option PyData
  | _, .none => some .none
  | _, .bool b => some (.bool b)
  | _, .int i => some (.int i)
  | _, .str x => if PyData.strOk x then some (.str x) else none
  | n + 1, .tup xs => (xs.mapM (rd H n)).map .tuple
  | n + 1, .lst xs => (xs.mapM (rd H n)).map .list
  | n + 1, .loc l => match H[l]? with
    | some (.list xs) => (xs.mapM (rd H n)).map .list
    | _ => none
  | _, _ => none

noncomputable def seqOf (v : AV) : M (List AV) := fun H => match v with
  | .tup xs => some (xs, H)
  | .lst xs => some (xs, H)
  | .loc l => match H[l]? with
    | some (.list xs) => some (xs, H)
    | _ => none
  | _ => none
noncomputable def listOf (v : AV) : M (List AV) := fun H => match v with
  | .lst xs => some (xs, H)
  | .loc l => match H[l]? with
    | some (.list xs) => some (xs, H)
    | _ => none
  | _ => none

noncomputable def newL (mu : Bool) (xs : List AV) : M AV := fun H =>
  if xs.length ≤ LIM then (match mu with
    | true => some (.loc H.length, H ++ [.list xs])
    | false => some (.lst xs, H)) else none
noncomputable def newD (es : List (Str × AV)) : M AV := fun H => some (.loc H.length, H ++ [.dict es])

noncomputable def truth : AV → M Bool
  | .bool b => pure b
  | _ => stuck

noncomputable def isTp : AV → Bool
  | .tup _ => true
  | _ => false

noncomputable def asI (v : AV) : Option Int := match v with
  | .int i => some i
  | _ => none
noncomputable def int2 (a b : AV) (f : Int → Int → M AV) : M AV := match asI a with
  | some i => match asI b with
    | some j => f i j
    | none => stuck
  | none => stuck
noncomputable def addTup (xs : List AV) (b : AV) : M AV := match b with
  | .tup ys => if xs.isEmpty || ys.isEmpty || decide (LIM < xs.length + ys.length) then stuck else pure (.tup (xs ++ ys))
  | _ => stuck
noncomputable def addSeq (mu : Bool) (a b : AV) : M AV := match a with
  | .tup xs => addTup xs b
  | a => do
    let xs ← listOf a
    let ys ← listOf b
    newL mu (xs ++ ys)
noncomputable def bAdd (mu : Bool) (a b : AV) : M AV := match asI a with
  | some i => match asI b with
    | some j => pure (.int (i + j))
    | none => stuck
  | none => addSeq mu a b
noncomputable def bMul (mu : Bool) (a b : AV) : M AV := match asI b with
  | some n => match asI a with
    | some i => if n.natAbs < 2 ^ 64 ∨ i.natAbs < 2 ^ 64 then pure (.int (i * n)) else stuck
    | none => do
      let xs ← listOf a
      if n < 0 ∨ 1048576 < n ∨ LIM < n.toNat * xs.length then stuck else newL mu (List.replicate n.toNat xs).flatten
  | none => stuck
noncomputable def pBin (mu : Bool) (op : Operator) (a b : AV) : M AV := match op with
  | .Add => bAdd mu a b
  | .Sub => int2 a b fun i j => pure (.int (i - j))
  | .Mult => bMul mu a b
  | .FloorDiv => int2 a b fun i j => if j = 0 ∨ 1073741824 ≤ j.natAbs then stuck else pure (.int (i.fdiv j))
  | .Mod => int2 a b fun i j => if j = 0 then stuck else pure (.int (i.fmod j))
  | .Pow => int2 a b fun i j => if i = 10 ∧ j = 20 then pure (.int 100000000000000000000) else stuck
  | _ => stuck

noncomputable def pNeg : AV → M AV
  | .int i => pure (.int (-i))
  | _ => stuck

noncomputable def cmpI (op : CmpOp) (i j : Int) : M Bool := match op with
  | .Lt => pure (decide (i < j))
  | .LtE => pure (decide (i ≤ j))
  | .Gt => pure (decide (j < i))
  | .GtE => pure (decide (j ≤ i))
  | _ => stuck
noncomputable def pEq (a b : AV) : M Bool := fun H => match rd H 8 a, rd H 8 b with
  | some x, some y => some (PyData.eqv x y, H)
  | _, _ => none
noncomputable def pIn (a b : AV) : M Bool := fun H => match rd H 8 a, rd H 8 b with
  | some x, some (.list ys) => some (ys.any fun y => PyData.eqv y x, H)
  | some x, some (.tuple ys) => some (ys.any fun y => PyData.eqv y x, H)
  | _, _ => none
noncomputable def pIsNone : AV → Bool
  | .none => true
  | _ => false
noncomputable def pCmp (op : CmpOp) (a b : AV) : M Bool := match op with
  | .Eq => pEq a b
  | .NotEq => do let r ← pEq a b; pure (!r)
  | .In => pIn a b
  | .NotIn => do let r ← pIn a b; pure (!r)
  | .Is => match b with
    | .none => pure (pIsNone a)
    | _ => stuck
  | .IsNot => match b with
    | .none => pure (!pIsNone a)
    | _ => stuck
  | op => match asI a with
    | some i => match asI b with
      | some j => cmpI op i j
      | none => stuck
    | none => stuck

/-- the place of an index, from the end if it is below nought -/
noncomputable def idx (k : Int) (n : Nat) : Option Nat := if 0 ≤ k then (if k < n then some k.toNat else none) else (if -k ≤ n then some (k + n).toNat else none)

noncomputable def look (es : List (Str × AV)) (k : Str) : Option AV := (es.find? fun e => e.1 = k).map (·.2)
noncomputable def put (es : List (Str × AV)) (k : Str) (v : AV) : List (Str × AV) :=
  if es.any (fun e => e.1 = k) then es.map (fun e => if e.1 = k then (e.1, v) else e) else es ++ [(k, v)]

noncomputable def ofOpt {α : Type} : Option α → M α
  | some a => pure a
  | none => stuck

noncomputable def pItem (o i : AV) : M AV := match i with
  | .str k => match o with
    | .cdict es => ofOpt (look es k)
    | .loc l => fun H => match H[l]? with
      | some (.dict es) => (look es k).map fun v => (v, H)
      | _ => none
    | _ => stuck
  | .int k => do
    let xs ← seqOf o
    ofOpt ((idx k xs.length).bind fun j => xs[j]?)
  | _ => stuck

/-- where an end of a slice falls, in a list of n -/
noncomputable def clipA (n : Nat) (i : Int) : Nat := (max 0 (min (if i < 0 then i + n else i) n)).toNat

/-- xs[lo:hi] -/
noncomputable def cut (xs : List AV) (lo hi : Option Int) : List AV :=
  let n := xs.length
  let a := lo.elim 0 (clipA n)
  let b := hi.elim n (clipA n)
  (xs.drop a).take (b - a)

noncomputable def pSlice (mu : Bool) (o : AV) (lo hi : Option Int) : M AV := match o with
  | .tup xs => match lo, hi with
    | none, some b => if 0 ≤ b ∧ b < xs.length then pure (.tup (xs.take b.toNat)) else stuck
    | _, _ => stuck
  | o => do
    let xs ← listOf o
    newL mu (cut xs lo hi)
noncomputable def pRev (mu : Bool) (o : AV) : M AV := do
  let xs ← listOf o
  newL mu xs.reverse

noncomputable def pStore (o i v : AV) : M Unit := match o, i with
  | .loc l, .str k => fun H => match H[l]? with
    | some (.dict es) => if es.length < LIM then some ((), H.set l (.dict (put es k v))) else none
    | _ => none
  | .loc l, .int k => fun H => match H[l]? with
    | some (.list xs) => if 0 ≤ k ∧ k < xs.length then some ((), H.set l (.list (xs.set k.toNat v))) else none
    | _ => none
  | _, _ => stuck

/-- the types that isinstance is asked of -/
inductive Ty where
  | int | bool | str | tuple | list
  deriving DecidableEq
noncomputable def tyOf (x : Str) : Option Ty :=
  if x = ("int" : Str) then some .int else if x = ("bool" : Str) then some .bool else if x = ("str" : Str) then some .str
  else if x = ("tuple" : Str) then some .tuple else if x = ("list" : Str) then some .list else none

noncomputable def pIs1 (H : AHeap) (v : AV) (t : Ty) : Option Bool := match v, t with
  | .none, _ => some false
  | .bool _, .int | .bool _, .bool => some true
  | .bool _, _ => some false
  | .int _, .int => some true
  | .int _, _ => some false
  | .str _, .str => some true
  | .str _, _ => some false
  | .tup _, .tuple => some true
  | .tup _, _ => some false
  | .lst _, .list => some true
  | .lst _, _ => some false
  | .loc l, t => match H[l]?, t with
    | some (.list _), .list => some true
    | some (.list _), _ => some false
    | _, _ => none
  | _, _ => none
noncomputable def pIsi (v : AV) (t : Ty) : M Bool := fun H => (pIs1 H v t).map fun b => (b, H)

inductive BI where
  | len | list | tuple | dict | int | range | min | max | any | sorted
  deriving DecidableEq
noncomputable def biOf (x : Str) : Option BI :=
  if x = ("len" : Str) then some .len else if x = ("list" : Str) then some .list else if x = ("tuple" : Str) then some .tuple
  else if x = ("dict" : Str) then some .dict else if x = ("int" : Str) then some .int else if x = ("range" : Str) then some .range
  else if x = ("min" : Str) then some .min else if x = ("max" : Str) then some .max else if x = ("any" : Str) then some .any
  else if x = ("sorted" : Str) then some .sorted else none

noncomputable def rangeL (a b : Int) : List AV := (List.range (b - a).toNat).map fun (k : Nat) => .int (a + (k : Int))
noncomputable def small62 (i : Int) : Bool := decide (-(2 ^ 62) ≤ i) && decide (i < 2 ^ 62)
noncomputable def intsOf : List AV → Option (List Int)
  | [] => some []
  | .int i :: r => (intsOf r).map (i :: ·)
  | _ => none
noncomputable def boolsOf : List AV → Option (List Bool)
  | [] => some []
  | .bool i :: r => (boolsOf r).map (i :: ·)
  | _ => none
noncomputable def maxI : List Int → Option Int
  | [] => none
  | x :: r => some (r.foldl (fun m y => if m < y then y else m) x)
noncomputable def sortI (l : List Int) : List Int := l.mergeSort (fun a b => decide (a ≤ b))


noncomputable def one (vs : List AV) (f : AV → M AV) : M AV := match vs with
  | [v] => f v
  | _ => stuck
noncomputable def bList (mu : Bool) (v : AV) : M AV := match v with
  | .range a b => if small62 a && small62 b then newL mu (rangeL a b) else stuck
  | v => do let xs ← seqOf v; newL mu xs
noncomputable def bDict (v : AV) : M AV := match v with
  | .loc l => fun H => match H[l]? with
    | some (.dict es) => some (.loc H.length, H ++ [.dict es])
    | _ => none
  | _ => stuck
noncomputable def bInt (v : AV) : M AV := match v with
  | .bool b => pure (.int (if b then 1 else 0))
  | _ => stuck
noncomputable def bRange (vs : List AV) : M AV := match vs with
  | [v] => match asI v with
    | some n => pure (.range 0 n)
    | none => stuck
  | [v, w] => match asI v with
    | some a => match asI w with
      | some b => pure (.range a b)
      | none => stuck
    | none => stuck
  | _ => stuck
noncomputable def bMin (vs : List AV) : M AV := match vs with
  | [v, w] => match asI v with
    | some a => match asI w with
      | some b => pure (.int (if b < a then b else a))
      | none => stuck
    | none => stuck
  | _ => stuck
noncomputable def pBI (mu : Bool) (b : BI) (vs : List AV) : M AV := match b with
  | .len => one vs fun v => do let xs ← seqOf v; pure (.int xs.length)
  | .list => one vs (bList mu)
  | .tuple => one vs fun v => do let xs ← listOf v; pure (.tup xs)
  | .dict => one vs bDict
  | .int => one vs bInt
  | .range => bRange vs
  | .min => bMin vs
  | .max => one vs fun v => do let xs ← listOf v; let is ← ofOpt (intsOf xs); let m ← ofOpt (maxI is); pure (.int m)
  | .any => one vs fun v => do let xs ← listOf v; let bs ← ofOpt (boolsOf xs); pure (.bool (bs.any id))
  | .sorted => one vs fun v => do let xs ← listOf v; let is ← ofOpt (intsOf xs); if is.length < 64 then newL mu ((sortI is).map .int) else stuck

noncomputable def pZip (mu : Bool) (a b : AV) : M AV := do
  let xs ← seqOf a
  let ys ← seqOf b
  if (isTp a == isTp b) && decide (xs.length = ys.length) then newL mu (List.zipWith (fun x y => .tup [x, y]) xs ys) else stuck

noncomputable def pMeth (m : Str) (o : AV) (vs : List AV) : M AV := match o with
  | .loc l => fun H => match H[l]? with
    | some (.list xs) =>
      if m = ("append" : Str) then (match vs with
        | [v] => if xs.length < LIM then some (.none, H.set l (.list (xs ++ [v]))) else none
        | _ => none)
      else if m = ("pop" : Str) then (match vs with
        | [] => (match xs[xs.length - 1]? with
          | some v => some (v, H.set l (.list (xs.eraseIdx (xs.length - 1))))
          | none => none)
        | [.int k] => if 0 ≤ k ∧ k < xs.length then (match xs[k.toNat]? with
          | some v => some (v, H.set l (.list (xs.eraseIdx k.toNat)))
          | none => none) else none
        | _ => none)
      else if m = ("clear" : Str) then (match vs with
        | [] => some (.none, H.set l (.list []))
        | _ => none)
      else if m = ("count" : Str) then (match vs with
        | [v] => (match xs.mapM (rd H 7), rd H 8 v with
          | some ys, some y => some (.int (ys.countP fun z => PyData.eqv z y : Nat), H)
          | _, _ => none)
        | _ => none)
      else none
    | _ => none
  | .lst xs =>
      if m = ("count" : Str) then (match vs with
        | [v] => fun H => (match xs.mapM (rd H 7), rd H 8 v with
          | some ys, some y => some (.int (ys.countP fun z => PyData.eqv z y : Nat), H)
          | _, _ => none)
        | _ => stuck)
      else stuck
  | _ => stuck

/-- what is iterated -/
inductive Src where
  | items (xs : List AV)
  | at (l : Nat)
  | enum (s : Src)
noncomputable def Src.get : Src → Nat → M (Option AV)
  | .items xs, i => pure xs[i]?
  | .at l, i => fun H => match H[l]? with
    | some (.list xs) => some (xs[i]?, H)
    | _ => none
  | .enum s, i => do
    let r ← s.get i
    pure (r.map fun v => .tup [.int i, v])

noncomputable def srcOf (v : AV) : M Src := fun H => match v with
  | .tup xs => some (.items xs, H)
  | .lst xs => some (.items xs, H)
  | .range a b => if small62 a && small62 b then some (.items (rangeL a b), H) else none
  | .loc l => match H[l]? with
    | some (.list _) => some (.at l, H)
    | _ => none
  | _ => none

noncomputable def evEach (ev : Expr → M AV) : List Expr → M (List AV)
  | [] => pure []
  | e :: r => do
    let v ← ev e
    let vs ← evEach ev r
    pure (v :: vs)

noncomputable def bOp (ev : Expr → M AV) (op : BoolOp) : List Expr → M AV
  | [] => stuck
  | [e] => ev e
  | e :: r => do
    let v ← ev e
    let t ← truth v
    match op with
    | .And => (match t with
      | false => pure v
      | true => bOp ev .And r)
    | .Or => (match t with
      | true => pure v
      | false => bOp ev .Or r)

/-- a chain of comparisons; r hands on the last one's answer -/
noncomputable def chain (ev : Expr → M AV) (a : AV) : List CmpOp → List Expr → M Bool
  | [op], [e] => do
    let b ← ev e
    pCmp op a b
  | op :: op' :: ops, e :: e' :: es => do
    let b ← ev e
    let t ← pCmp op a b
    match t with
    | true => chain ev b (op' :: ops) (e' :: es)
    | false => pure false
  | _, _ => stuck

noncomputable def tests (te : Expr → M Bool) (op : BoolOp) : List Expr → M Bool
  | [] => pure (op == .And)
  | e :: r => do
    let t ← te e
    match op with
    | .And => (match t with
      | false => pure false
      | true => tests te .And r)
    | .Or => (match t with
      | true => pure true
      | false => tests te .Or r)

noncomputable def plainT (ev : Expr → M AV) (e : Expr) : M Bool := do let v ← ev e; truth v
noncomputable def denT (ev : Expr → M AV) : Nat → Expr → M Bool
  | 0, _ => stuck
  | n + 1, e => match e with
    | .UnaryOp op x p => match op with
      | .Not => do let b ← denT ev n x; pure (!b)
      | op => plainT ev (.UnaryOp op x p)
    | .BoolOp op vs _ => tests (denT ev n) op vs
    | .Compare l ops cs _ => do let a ← ev l; chain ev a ops cs
    | e => plainT ev e

structure Fn where
  params : List Str
  names : List Str
  body : List Stmt
  scope : Scope

structure Pg where
  fn : Str → Option Fn
  glob : Str → Option AV
  mu : Pos → Bool

abbrev Loc := List (Option AV)

noncomputable def nameV (ns : List Str) (x : Str) (σ : Loc) : M AV := match ns.idxOf? x with
  | some i => match σ[i]? with
    | some (some v) => pure v
    | _ => stuck
  | none => stuck

noncomputable def isLocal (sc : Scope) (x : Str) : Bool := match sc.names.lookup x with
  | some .local | some .cell | some .free => true
  | _ => false
noncomputable def isGlob (sc : Scope) (x : Str) : Bool := match sc.names.lookup x with
  | some .globalImplicit => true
  | _ => false

noncomputable def constV : Const → M AV
  | .none => pure .none
  | .bool b => pure (.bool b)
  | .int i => pure (.int i)
  | .str s => pure (.str s)
  | _ => stuck

noncomputable def compLoop (src : Src) (body : AV → M (Option AV)) : Nat → Nat → List AV → M (List AV)
  | 0, _, _ => stuck
  | f + 1, i, acc => do
    match ← src.get i with
    | none => pure acc
    | some v => do
      match ← body v with
      | none => compLoop src body f (i + 1) acc
      | some y => if acc.length < LIM then compLoop src body f (i + 1) (acc ++ [y]) else stuck

noncomputable def ifs1 (te : Expr → M Bool) : List Expr → M Bool
  | [] => pure true
  | [e] => te e
  | _ => stuck

noncomputable def strKeys : List (Option Expr) → Option (List Str)
  | [] => some []
  | some (.Constant (.str k) _ _) :: r => (strKeys r).map (k :: ·)
  | _ => none

noncomputable def sliceEnd (ev : Expr → M AV) : Option Expr → M (Option Int)
  | none => pure none
  | some e => do
    match ← ev e with
    | .int i => pure (some i)
    | _ => stuck

/-- what is asked of a comprehension's scope: its own name is local, what is free lies in a cell around -/
noncomputable def compOk (sc : Scope) (ns : List Str) (scope : Scope) (x : Str) : Bool :=
  scope.kind == .function && scope.names.lookup x == some .local && !(ns.contains (".0" : Str)) &&
  scope.names.all fun (y, k) => match k with
    | .local => (y == x || y == (".0" : Str)) && scope.names.lookup y == some .local
    | .free => sc.names.lookup y == some .cell && ns.contains y
    | .globalImplicit => true
    | _ => false
noncomputable def noSet : Expr → Bool
  | .Set _ _ _ => true
  | _ => false

noncomputable def plainBase : Expr → Bool
  | .Name _ _ => true
  | .Subscript _ _ _ => true
  | _ => false

noncomputable def isTL (t u : Str) : Bool := decide (t = ("tuple" : Str)) && decide (u = ("list" : Str))
noncomputable def pIsiTL (v : AV) : M Bool := do
  let b ← pIsi v .tuple
  let c ← pIsi v .list
  pure (b || c)

noncomputable def dName (P : Pg) (sc : Scope) (ns : List Str) (σ : Loc) (x : Str) : M AV :=
  if x == ("__debug__" : Str) || x == ("__classdict__" : Str) then stuck else if isLocal sc x then nameV ns x σ else if isGlob sc x then ofOpt (P.glob x) else stuck
noncomputable def dUn (ev : Expr → M AV) (op : UnaryOp) (x : Expr) : M AV := match op with
  | .USub => do let v ← ev x; pNeg v
  | .Not => do let v ← ev x; let b ← truth v; pure (.bool !b)
  | _ => stuck
noncomputable def dDict (ev : Expr → M AV) (keys : List (Option Expr)) (vals : List Expr) : M AV := match strKeys keys with
  | some ks => if ks.length = vals.length ∧ ks.length ≤ 15 ∧ ks ≠ [] ∧ ks.Nodup then do
      let vs ← evEach ev vals
      newD (ks.zip vs)
    else stuck
  | none => stuck
noncomputable def isOne : Const → Bool
  | .int i => decide (i = 1)
  | _ => false
noncomputable def isC1 : Expr → Bool
  | .Constant c _ _ => isOne c
  | _ => false
noncomputable def isNegOp : UnaryOp → Bool
  | .USub => true
  | _ => false
/-- the written -1 -/
noncomputable def isM1 : Expr → Bool
  | .UnaryOp op x _ => isNegOp op && isC1 x
  | _ => false
noncomputable def dSlice (ev : Expr → M AV) (mu : Bool) (o : Expr) (lo hi st : Option Expr) : M AV := match st with
  | none => do
    let ov ← ev o
    let a ← sliceEnd ev lo
    let b ← sliceEnd ev hi
    pSlice mu ov a b
  | some e => if isM1 e && lo.isNone && hi.isNone then do
      let ov ← ev o
      pRev mu ov
    else stuck
noncomputable def dSub (ev : Expr → M AV) (mu : Bool) (o i : Expr) : M AV := match i with
  | .Slice lo hi st _ => dSlice ev mu o lo hi st
  | i => do
    let ov ← ev o
    let iv ← ev i
    pItem ov iv
noncomputable def nameOf1 : Expr → Option (Str × Pos)
  | .Name x p => some (x, p)
  | _ => none
noncomputable def compGen : List Comprehension → Option (Str × Expr × List Expr)
  | [g] => if g.is_async = 0 then (nameOf1 g.target).map fun x => (x.1, g.iter, g.ifs) else none
  | _ => none
noncomputable def pairN : List Expr → Option ((Str × Pos) × Str × Pos)
  | [a, b] => match nameOf1 a with
    | some x => (nameOf1 b).map fun y => (x, y)
    | none => none
  | _ => none
/-- f(..) with no keyword -/
noncomputable def callOf : Expr → Option (Str × List Expr)
  | .Call f args kws _ => match kws with
    | [] => (nameOf1 f).map fun x => (x.1, args)
    | _ => none
  | _ => none
noncomputable def isZip (sc : Scope) (args : List Expr) : Option (Expr × Expr) := match args with
  | [e] => match callOf e with
    | some (z, [x, y]) => if z = ("zip" : Str) ∧ isGlob sc z then some (x, y) else none
    | _ => none
  | _ => none
noncomputable def dIsi1 (ev : Expr → M AV) (sc : Scope) (e : Expr) (t : Expr) : M AV := match t with
  | .Name t _ => if isGlob sc t then (match tyOf t with
    | some t => do
      let v ← ev e
      let b ← pIsi v t
      pure (.bool b)
    | none => stuck) else stuck
  | .Tuple es _ _ => match pairN es with
    | some (t, u) => if isTL t.1 u.1 && isGlob sc t.1 && isGlob sc u.1 then do
        let v ← ev e
        let b ← pIsiTL v
        pure (.bool b)
      else stuck
    | none => stuck
  | _ => stuck
noncomputable def dIsi (ev : Expr → M AV) (sc : Scope) (args : List Expr) : M AV := match args with
  | [e, t] => dIsi1 ev sc e t
  | _ => stuck
noncomputable def dBI (ev : Expr → M AV) (mu : Bool) (sc : Scope) (b : BI) (args : List Expr) : M AV := match (if b = .list then isZip sc args else none) with
  | some (x, y) => do
    let a ← ev x
    let b ← ev y
    pZip mu a b
  | none => do
    let vs ← evEach ev args
    pBI mu b vs
noncomputable def dCallN (ev : Expr → M AV) (cf : Str → List AV → M AV) (mu : Bool) (sc : Scope) (f : Str) (args : List Expr) : M AV :=
  if isGlob sc f then (if f = ("isinstance" : Str) then dIsi ev sc args else match biOf f with
    | some b => dBI ev mu sc b args
    | none => do
      let vs ← evEach ev args
      cf f vs) else stuck
noncomputable def dCall (ev : Expr → M AV) (cf : Str → List AV → M AV) (mu : Bool) (sc : Scope) (f : Expr) (args : List Expr) (p : Pos) : M AV := match f with
  | .Attribute o m ap => if plainBase o && ap.endLine == p.line && decide (args.length ≤ 2) then do
      let ov ← ev o
      let _ ← listOf ov
      let vs ← evEach ev args
      pMeth m ov vs
    else stuck
  | .Name f _ => dCallN ev cf mu sc f args
  | _ => stuck

noncomputable def dComp (ev : Expr → M AV) (ec : Str → AV → Expr → M AV) (n : Nat) (mu : Bool) (sc : Scope) (ns : List Str) (scope : Scope) (elt : Expr) (gens : List Comprehension) : M AV := match compGen gens with
  | some (x, iter, ifs) => if !compOk sc ns scope x || noSet iter then stuck else do
    let iv ← ev iter
    let src ← srcOf iv
    let ys ← compLoop src (fun v => do
      let t ← ifs1 (denT (ec x v) n) ifs
      if t then do
        let y ← ec x v elt
        pure (some y)
      else pure none) FUEL 0 []
    newL mu ys
  | none => stuck

noncomputable def den (P : Pg) (cf : Str → List AV → M AV) : Nat → Scope → List Str → Loc → Expr → M AV
  | 0, _, _, _, _ => stuck
  | n + 1, sc, ns, σ, e => match e with
    | .Constant c _ _ => constV c
    | .Name x _ => dName P sc ns σ x
    | .BoolOp op vs _ => bOp (den P cf n sc ns σ) op vs
    | .BinOp l op r p => do
      let a ← den P cf n sc ns σ l
      let b ← den P cf n sc ns σ r
      pBin (P.mu p) op a b
    | .UnaryOp op x _ => dUn (den P cf n sc ns σ) op x
    | .Compare l ops cs _ => do
      let a ← den P cf n sc ns σ l
      let b ← chain (den P cf n sc ns σ) a ops cs
      pure (.bool b)
    | .Tuple es _ _ => if es.length ≤ 100 then do let vs ← evEach (den P cf n sc ns σ) es; pure (.tup vs) else stuck
    | .List es p => do let vs ← evEach (den P cf n sc ns σ) es; newL (P.mu p) vs
    | .Dict ks vs _ => dDict (den P cf n sc ns σ) ks vs
    | .Subscript o i p => dSub (den P cf n sc ns σ) (P.mu p) o i
    | .ListComp elt gens scope p => dComp (den P cf n sc ns σ) (fun x v => den P cf n scope (x :: ns) (some v :: σ)) n (P.mu p) sc ns scope elt gens
    | .Call f args kws p => match kws with
      | [] => dCall (den P cf n sc ns σ) cf (P.mu p) sc f args p
      | _ => stuck
    | _ => stuck

inductive Res where
  | next (σ : Loc)
  | ret (v : AV)

noncomputable def setN (ns : List Str) (x : Str) (v : AV) (σ : Loc) : M Loc := match ns.idxOf? x with
  | some i => pure (σ.set i (some v))
  | none => stuck

noncomputable def assignP (sc : Scope) (ns : List Str) (v : AV) (σ : Loc) (x y : Str) : M Loc := match v with
  | .tup vs => match vs with
    | [a, b] => if isLocal sc x && isLocal sc y then do
        let σ ← setN ns x a σ
        setN ns y b σ
      else stuck
    | _ => stuck
  | _ => stuck
noncomputable def assignTo (ev : Loc → Expr → M AV) (sc : Scope) (ns : List Str) (v : AV) (σ : Loc) : Expr → M Loc
  | .Name x _ => if isLocal sc x then setN ns x v σ else stuck
  | .Subscript o i _ => do
    let ov ← ev σ o
    let iv ← ev σ i
    pStore ov iv v
    pure σ
  | .Tuple es _ _ => match pairN es with
    | some (x, y) => assignP sc ns v σ x.1 y.1
    | none => stuck
  | _ => stuck

noncomputable def forLoop (src : Src) (body : AV → Loc → M Res) : Nat → Nat → Loc → M Res
  | 0, _, _ => stuck
  | f + 1, i, σ => do
    match ← src.get i with
    | none => pure (.next σ)
    | some v => do
      match ← body v σ with
      | .next σ' => forLoop src body f (i + 1) σ'
      | .ret w => pure (.ret w)

noncomputable def whileLoop (test : Loc → M Bool) (body : Loc → M Res) : Nat → Loc → M Res
  | 0, _ => stuck
  | f + 1, σ => do
    match ← test σ with
    | false => pure (.next σ)
    | true => do
      match ← body σ with
      | .next σ' => whileLoop test body f σ'
      | .ret w => pure (.ret w)

noncomputable def noComp : Expr → Bool
  | .ListComp _ _ _ _ => false
  | _ => true
noncomputable def isTupE : Expr → Bool
  | .Tuple _ _ _ => true
  | _ => false
noncomputable def pairOf : AV → M (AV × AV)
  | .tup [a, b] => pure (a, b)
  | _ => stuck

/-- e in enumerate(e) -/
noncomputable def enumArg (sc : Scope) (it : Expr) : Option Expr := match callOf it with
  | some (f, [e]) => if f = ("enumerate" : Str) ∧ isGlob sc f = true then some e else none
  | _ => none
/-- what is left of a block, behind one statement's answer -/
noncomputable def goOn (m : Loc → M Res) : Res → M Res
  | .next σ' => m σ'
  | .ret v => pure (.ret v)
noncomputable def bAssign (ev : Expr → M AV) (sc : Scope) (ns : List Str) (m : Loc → M Res) (σ : Loc) (e : Expr) (t : Expr) : M Res := match t with
  | .Name x _ => if isLocal sc x then do
      let v ← ev e
      let σ' ← setN ns x v σ
      m σ'
    else stuck
  | .Subscript o i _ => do
    let v ← ev e
    let ov ← ev o
    let iv ← ev i
    pStore ov iv v
    m σ
  | .Tuple es _ _ => match pairN es with
    | some (x, y) => if isTupE e || !isLocal sc x.1 || !isLocal sc y.1 then stuck else do
      let v ← ev e
      let p ← pairOf v
      let σ1 ← setN ns x.1 p.1 σ
      let σ2 ← setN ns y.1 p.2 σ1
      m σ2
    | none => stuck
  | _ => stuck
noncomputable def bFor (ev : Loc → Expr → M AV) (sc : Scope) (ns : List Str) (body : Loc → M Res) (m : Loc → M Res) (σ : Loc) (t it : Expr) : M Res := match t with
  | .Name x px => if noSet it then stuck else do
      let v ← ev σ it
      let src ← srcOf v
      let r ← forLoop src (fun v σ => do
        let σ' ← assignTo ev sc ns v σ (.Name x px)
        body σ') FUEL 0 σ
      goOn m r
  | .Tuple es k pt => match pairN es with
    | some (x, y) => match enumArg sc it with
      | some e => do
        let v ← ev σ e
        let _ ← listOf v
        let src ← srcOf v
        let r ← forLoop (.enum src) (fun v σ => do
          let σ' ← assignTo ev sc ns v σ (.Tuple [.Name x.1 x.2, .Name y.1 y.2] k pt)
          body σ') FUEL 0 σ
        goOn m r
      | none => stuck
    | none => stuck
  | _ => stuck

noncomputable def denB (P : Pg) (cf : Str → List AV → M AV) (sc : Scope) (ns : List Str) : Nat → List Stmt → Loc → M Res
  | _, [], σ => pure (.next σ)
  | 0, _ :: _, _ => stuck
  | n + 1, s :: rest, σ => match s with
    | .Pass _ => denB P cf sc ns n rest σ
    | .Return v _ => match v with
      | none => pure (.ret .none)
      | some e => do let v ← den P cf n sc ns σ e; pure (.ret v)
    | .Expr e _ => if noComp e then do
        let _ ← den P cf n sc ns σ e
        denB P cf sc ns n rest σ
      else stuck
    | .Assign ts e _ => match ts with
      | [t] => bAssign (den P cf n sc ns σ) sc ns (denB P cf sc ns n rest) σ e t
      | _ => stuck
    | .If t b o _ => do
      let c ← denT (den P cf n sc ns σ) n t
      match c with
      | true => do
        let r ← denB P cf sc ns n b σ
        goOn (denB P cf sc ns n rest) r
      | false => do
        let r ← denB P cf sc ns n o σ
        goOn (denB P cf sc ns n rest) r
    | .For t it b o _ => match o with
      | [] => bFor (fun σ e => den P cf n sc ns σ e) sc ns (denB P cf sc ns n b) (denB P cf sc ns n rest) σ t it
      | _ => stuck
    | .While t b o _ => match o with
      | [] => do
        let r ← whileLoop (fun σ => denT (den P cf n sc ns σ) n t) (denB P cf sc ns n b) FUEL σ
        goOn (denB P cf sc ns n rest) r
      | _ => stuck
    | _ => stuck

noncomputable def EFUEL : Nat := 40

/-- a call of one of the text's own defs, n calls deep at most -/
noncomputable def callP (P : Pg) : Nat → Str → List AV → M AV
  | 0, _, _ => stuck
  | n + 1, f, args => match P.fn f with
    | none => stuck
    | some fn =>
      if args.length = fn.params.length then do
        match ← denB P (callP P n) fn.scope fn.names EFUEL fn.body (args.map some ++ List.replicate (fn.names.length - args.length) none) with
        | .ret v => pure v
        | .next _ => pure .none
      else stuck

theorem bind_of {α β : Type} {m : M α} {f : α → M β} {H H1 : AHeap} {a : α} {r : β × AHeap} (h1 : m H = some (a, H1)) (h2 : f a H1 = some r) : (m >>= f) H = some r := by
  show (m H).bind _ = some r
  rw [h1]; exact h2

noncomputable def fnChk (fn : Fn) : Bool :=
  fn.scope.kind == .function && !fn.scope.isCoroutine && !fn.scope.isGenerator &&
  (fn.scope.names.all fun (_, k) => k == .local || k == .cell || k == .globalImplicit) &&
  decide (fn.params.Nodup) && fn.names.take fn.params.length == fn.params &&
  fn.params.all fun x => fn.scope.names.lookup x == some .local || fn.scope.names.lookup x == some .cell

end Mine


set_option autoImplicit false
set_option linter.unusedVariables false
namespace Mine
open PySem PyProof.Rows


noncomputable def mkFn (a : Arguments) (b : List Stmt) (sc : Scope) : Fn :=
  let ps := a.args.map (·.arg)
  ⟨ps, ps ++ (sc.names.filterMap fun (x, k) => if (k == .local || k == .cell) && !ps.contains x then some x else none), b, sc⟩
noncomputable def fnSt (f : Str) : Stmt → Option Fn
  | .FunctionDef n a b [] _ _ sc _ _ _ => if n = f then some (mkFn a b sc) else none
  | _ => none
noncomputable def fnOf (p : Program) (f : Str) : Option Fn := p.main.body.findSome? (fnSt f)
noncomputable def recSt : Stmt → Option DefRec
  | .FunctionDef n a b [] _ _ sc _ _ pos => some ⟨n, a, b, sc, pos⟩
  | _ => none
noncomputable def recs (p : Program) : List DefRec := p.main.body.filterMap recSt
noncomputable def defChk (d : DefRec) : Bool := fnChk (mkFn d.params d.body d.scope) && d.name != ("__debug__" : Str) && d.params.posonlyargs.isEmpty && d.params.vararg.isNone && d.params.kwonlyargs.isEmpty && d.params.kwarg.isNone

/-- the block at a path: the statement's number, then body (0) or orelse (1) -/
noncomputable def subB : Stmt → Nat → List Stmt
  | .If _ b _ _, 0 => b
  | .If _ _ o _, _ => o
  | .For _ _ b _ _, _ => b
  | .While _ b _ _, _ => b
  | _, _ => []
noncomputable def bAt : List Stmt → List (Nat × Nat) → List Stmt
  | b, [] => b
  | b, (i, k) :: r => match b[i]? with
    | some s => bAt (subB s k) r
    | none => []

noncomputable def eachM : List (M AV) → M (List AV)
  | [] => pure []
  | m :: r => do
    let v ← m
    let vs ← eachM r
    pure (v :: vs)
noncomputable def fnD (P : Pg) (f : Str) : Fn := (P.fn f).getD ⟨[], [], [], default⟩
/-- what is left of a block of f, from its i-th statement on, with fuel n -/
noncomputable def tl (P : Pg) (cf : Str → List AV → M AV) (f : Str) (path : List (Nat × Nat)) (i n : Nat) (σ : Loc) : M Res := denB P cf (fnD P f).scope (fnD P f).names n ((bAt (fnD P f).body path).drop i) σ
/-- a turn of the for that stands at path, i -/
noncomputable def forB (P : Pg) (cf : Str → List AV → M AV) (f : Str) (path : List (Nat × Nat)) (i n : Nat) (v : AV) (σ : Loc) : M Res := match (bAt (fnD P f).body path)[i]? with
  | some (.For t _ b _ _) => do
    let σ' ← assignTo (fun σ e => den P cf n (fnD P f).scope (fnD P f).names σ e) (fnD P f).scope (fnD P f).names v σ t
    denB P cf (fnD P f).scope (fnD P f).names n b σ'
  | _ => stuck
noncomputable def whileT (P : Pg) (cf : Str → List AV → M AV) (f : Str) (path : List (Nat × Nat)) (i n : Nat) (σ : Loc) : M Bool := match (bAt (fnD P f).body path)[i]? with
  | some (.While t _ _ _) => denT (den P cf n (fnD P f).scope (fnD P f).names σ) n t
  | _ => stuck
noncomputable def whileB (P : Pg) (cf : Str → List AV → M AV) (f : Str) (path : List (Nat × Nat)) (i n : Nat) (σ : Loc) : M Res := match (bAt (fnD P f).body path)[i]? with
  | some (.While _ b _ _) => denB P cf (fnD P f).scope (fnD P f).names n b σ
  | _ => stuck

theorem b_some {α β : Type} {m : M α} {f : α → M β} {H H1 : AHeap} {a : α} (h1 : m H = some (a, H1)) : (m >>= f) H = f a H1 := by
  show (m H).bind _ = _
  rw [h1]; rfl

theorem callR {P : Pg} {n : Nat} {f : Str} {as : List AV} {σ : Loc} (hf : P.fn f = some (fnD P f)) (hl : as.length = (fnD P f).params.length) (hσ : as.map some ++ List.replicate ((fnD P f).names.length - as.length) none = σ) {a : AV} {H H' : AHeap}
    (h : tl P (callP P n) f [] 0 40 σ H = some (.ret a, H')) : callP P (n + 1) f as H = some (a, H') := by
  unfold callP
  rw [hf]
  simp only [hl, if_true]
  rw [hl] at hσ
  rw [hσ]
  exact b_some h
theorem callN {P : Pg} {n : Nat} {f : Str} {as : List AV} {σ : Loc} (hf : P.fn f = some (fnD P f)) (hl : as.length = (fnD P f).params.length) (hσ : as.map some ++ List.replicate ((fnD P f).names.length - as.length) none = σ) {σ' : Loc} {H H' : AHeap}
    (h : tl P (callP P n) f [] 0 40 σ H = some (.next σ', H')) : callP P (n + 1) f as H = some (.none, H') := by
  unfold callP
  rw [hf]
  simp only [hl, if_true]
  rw [hl] at hσ
  rw [hσ]
  exact b_some h

theorem callQ {P : Pg} {n : Nat} {f : Str} {as : List AV} {σ : Loc} (hf : P.fn f = some (fnD P f)) (hl : as.length = (fnD P f).params.length) (hσ : as.map some ++ List.replicate ((fnD P f).names.length - as.length) none = σ) {a : AV}
    (h : tl P (callP P n) f [] 0 40 σ = pure (.ret a)) : callP P (n + 1) f as = pure a := by
  funext H
  exact callR hf hl hσ (by rw [h]; rfl)

theorem e_each0 : eachM [] = pure [] := rfl
theorem e_eachp {a : AV} {r : List (M AV)} : eachM (pure a :: r) = (do let vs ← eachM r; pure (a :: vs)) := rfl
theorem e_go_next {m : Loc → M Res} {σ : Loc} : goOn m (.next σ) = m σ := rfl
theorem e_go_ret {m : Loc → M Res} {a : AV} : goOn m (.ret a) = pure (.ret a) := rfl
theorem e_truth {b : Bool} : truth (.bool b) = pure b := rfl
theorem e_lt {i j : Int} : pCmp .Lt (.int i) (.int j) = pure (decide (i < j)) := rfl
theorem e_gt {i j : Int} : pCmp .Gt (.int i) (.int j) = pure (decide (j < i)) := rfl
theorem e_eqi {i j : Int} : pCmp .Eq (.int i) (.int j) = pure (decide (i = j)) := by
  funext H
  show some ((i == j), H) = some (decide (i = j), H)
  have : (i == j) = decide (i = j) := by by_cases h : i = j <;> simp [h]
  rw [this]
theorem e_len_lst {mu : Bool} {xs : List AV} : pBI mu .len [.lst xs] = pure (.int xs.length) := rfl
theorem e_item_lst {xs : List AV} {k : Nat} {a : AV} (h : xs[k]? = some a) : pItem (.lst xs) (.int k) = pure a := by
  have hk : k < xs.length := (List.getElem?_eq_some_iff.mp h).1
  have hi : idx (k : Int) xs.length = some k := by
    unfold idx
    rw [if_pos (by omega), if_pos (by omega)]; simp
  funext H
  show (ofOpt ((idx (k : Int) xs.length).bind fun j => xs[j]?) : M AV) H = _
  rw [hi]
  show (ofOpt xs[k]? : M AV) H = _
  rw [h]; rfl
theorem e_item_tup {xs : List AV} {k : Nat} {a : AV} (h : xs[k]? = some a) : pItem (.tup xs) (.int k) = pure a := by
  have hk : k < xs.length := (List.getElem?_eq_some_iff.mp h).1
  have hi : idx (k : Int) xs.length = some k := by
    unfold idx
    rw [if_pos (by omega), if_pos (by omega)]; simp
  funext H
  show (ofOpt ((idx (k : Int) xs.length).bind fun j => xs[j]?) : M AV) H = _
  rw [hi]
  show (ofOpt xs[k]? : M AV) H = _
  rw [h]; rfl
theorem e_newL {xs : List AV} (h : xs.length ≤ LIM) : newL false xs = pure (.lst xs) := by
  funext H; unfold newL; rw [if_pos h]; rfl
theorem m_add {mu : Bool} {i j : Int} : pBin mu .Add (.int i) (.int j) = pure (.int (i + j)) := rfl
theorem m_sub {mu : Bool} {i j : Int} : pBin mu .Sub (.int i) (.int j) = pure (.int (i - j)) := rfl
theorem m_mulL {mu : Bool} {i j : Int} (h : i.natAbs < 2 ^ 64) : pBin mu .Mult (.int i) (.int j) = pure (.int (i * j)) := if_pos (.inr h)
theorem m_mulR {mu : Bool} {i j : Int} (h : j.natAbs < 2 ^ 64) : pBin mu .Mult (.int i) (.int j) = pure (.int (i * j)) := if_pos (.inl h)
theorem m_mod {mu : Bool} {i j : Int} (h : j ≠ 0) : pBin mu .Mod (.int i) (.int j) = pure (.int (i.fmod j)) := if_neg h
theorem m_div {mu : Bool} {i j : Int} (h : j ≠ 0 ∧ j.natAbs < 1073741824) : pBin mu .FloorDiv (.int i) (.int j) = pure (.int (i.fdiv j)) := if_neg (by omega)
theorem fmod_lt (a : Int) {b : Int} (h : 0 < b) : 0 ≤ a.fmod b ∧ a.fmod b < b := ⟨Int.fmod_nonneg_of_pos a h, Int.fmod_lt_of_pos a h⟩
end Mine


set_option autoImplicit false
set_option linter.unusedVariables false
namespace Mine
open PySem PyProof.Rows

/-- the fixed part of a run: program, world, the heap ahead of the law's call -/
structure Cx where
  prog : Program
  w : World
  h₀ : Heap
  os₀ : OsState
  mg : Str → Option Value
  mb : Str → Option Value
  /-- lists that are being made: no value speaks of them yet -/
  hid : List Addr

mutual
inductive VR (cx : Cx) (ι : List Addr) (h : Heap) : AV → Value → Prop
  | none : VR cx ι h .none .none
  | bool (b : Bool) : VR cx ι h (.bool b) (.bool b)
  | int (i : Int) (t : Tok) : VR cx ι h (.int i) (.int i t)
  | str (x : Str) (t : Tok) : VR cx ι h (.str x) (.str x t)
  | tup {a : Addr} {vs : Array Value} {n : Nat} {xs : List AV} : IsT h a vs n → a ∉ ι → xs.length ≤ LIM → VRs cx ι h xs vs.toList → VR cx ι h (.tup xs) (.ref a)
  | lst {a : Addr} {vs : Array Value} {n : Nat} {xs : List AV} : IsL h a vs n → (a ∉ ι ∧ a ∉ cx.hid) → xs.length ≤ LIM → VRs cx ι h xs vs.toList → VR cx ι h (.lst xs) (.ref a)
  | loc {l : Nat} {a : Addr} : ι[l]? = some a → VR cx ι h (.loc l) (.ref a)
  | range {r : Addr} {a b : Int} {t u v : Tok} : IsRange h r a b 1 t u v → r ∉ ι → VR cx ι h (.range a b) (.ref r)
  | cdict {d : Addr} {kvs : List (Str × Value)} {es : List (Str × AV)} : h.DictOf (strKind cx.prog cx.w) d kvs → d ∉ ι → kvs.map (·.1) = es.map (·.1) → ((d == sysModules) = false ∧ ∃ o, cx.h₀.get? d = some o) →
      VRs cx ι h (es.map (·.2)) (kvs.map (·.2)) → VR cx ι h (.cdict es) (.ref d)
inductive VRs (cx : Cx) (ι : List Addr) (h : Heap) : List AV → List Value → Prop
  | nil : VRs cx ι h [] []
  | cons {a : AV} {v : Value} {xs : List AV} {vs : List Value} : VR cx ι h a v → VRs cx ι h xs vs → VRs cx ι h (a :: xs) (v :: vs)
end

/-- a mutable object of the abstract heap, at its address -/
noncomputable def OR (cx : Cx) (ι : List Addr) (h : Heap) (a : Addr) : AO → Prop
  | .list xs => ∃ vs n, IsL h a vs n ∧ xs.length ≤ LIM ∧ VRs cx ι h xs vs.toList
  | .dict es => ∃ kvs, h.DictOf (strKind cx.prog cx.w) a kvs ∧ ((a == sysModules) = false ∧ es.length ≤ LIM) ∧ kvs.map (·.1) = es.map (·.1) ∧ VRs cx ι h (es.map (·.2)) (kvs.map (·.2))

/-- how a step may turn the heap: the addresses of ι may change, all else is kept; new mutable ones are fresh -/
structure Ext (ι ι' : List Addr) (h h' : Heap) : Prop where
  pre : ι <+: ι'
  news : ∀ a ∈ ι', a ∉ ι → h.get? a = none
  keep : ∀ b o, h.get? b = some o → b ∉ ι → h'.get? b = some o

structure St (cx : Cx) (ι : List Addr) (H : AHeap) (s : Shared) : Prop where
  base : ∀ b o, cx.h₀.get? b = some o → s.heap.get? b = some o
  len : ι.length = H.length
  nodup : ι.Nodup
  fresh : ∀ a ∈ ι, cx.h₀.get? a = none
  own : ∀ (l : Nat) (a : Addr) (o : AO), ι[l]? = some a → H[l]? = some o → OR cx ι s.heap a o
  gens : s.gens = #[]
  os : s.os = cx.os₀
  sysm : ∃ o, cx.h₀.get? cStatics = some o
  hid : ∀ a ∈ cx.hid, a ∉ ι ∧ cx.h₀.get? a = none ∧ ∃ vs n, IsL s.heap a vs n

theorem DictOf.at' {cx : Cx} {h h' : Heap} {d : Addr} {kvs : List (Str × Value)} (x : h.DictOf (strKind cx.prog cx.w) d kvs) (e : ∀ o, h.get? d = some o → h'.get? d = some o) :
    h'.DictOf (strKind cx.prog cx.w) d kvs := let ⟨o, es, ep, ho, r⟩ := x; ⟨o, es, ep, e o ho, r⟩
theorem DictOf.lt {cx : Cx} {h : Heap} {d : Addr} {kvs : List (Str × Value)} (x : h.DictOf (strKind cx.prog cx.w) d kvs) : d < h.objs.size := let ⟨_, _, _, ho, _⟩ := x; Heap.lt_size ho

theorem Ext.refl (ι : List Addr) (h : Heap) : Ext ι ι h h := ⟨List.prefix_refl _, fun _ a b => absurd a b, fun _ _ e _ => e⟩
theorem Ext.notin {ι ι' : List Addr} {h h' : Heap} (x : Ext ι ι' h h') {b : Addr} {o : Obj} (hb : h.get? b = some o) (hn : b ∉ ι) : b ∉ ι' := fun hm => by rw [x.news b hm hn] at hb; cases hb
theorem Ext.trans {ι ι' ι'' : List Addr} {h h' h'' : Heap} (x : Ext ι ι' h h') (y : Ext ι' ι'' h' h'') : Ext ι ι'' h h'' where
  pre := x.pre.trans y.pre
  news := fun a ha hn => by
    by_cases h1 : a ∈ ι'
    · exact x.news a h1 hn
    · cases e : h.get? a with
      | none => rfl
      | some o => have := y.news a ha h1; rw [x.keep a o e hn] at this; cases this
  keep := fun b o e hn => y.keep b o (x.keep b o e hn) (x.notin e hn)

theorem prefix_get {α : Type} {l l' : List α} (h : l <+: l') {i : Nat} {a : α} (e : l[i]? = some a) : l'[i]? = some a := by
  obtain ⟨t, rfl⟩ := h
  rw [List.getElem?_append_left (by rw [List.getElem?_eq_some_iff] at e; exact e.1)]; exact e

/-- a turn under which the values' relation stands -/
structure Tn (cx cx' : Cx) (ι ι' : List Addr) (h h' : Heap) : Prop where
  same : cx'.prog = cx.prog ∧ cx'.w = cx.w ∧ cx'.h₀ = cx.h₀
  tup : ∀ a vs n, IsT h a vs n → a ∉ ι → IsT h' a vs n ∧ a ∉ ι'
  lst : ∀ a vs n, IsL h a vs n → (a ∉ ι ∧ a ∉ cx.hid) → IsL h' a vs n ∧ (a ∉ ι' ∧ a ∉ cx'.hid)
  loc : ∀ (l : Nat) a, ι[l]? = some a → ι'[l]? = some a
  range : ∀ r a b t u v, IsRange h r a b 1 t u v → r ∉ ι → IsRange h' r a b 1 t u v ∧ r ∉ ι'
  dict : ∀ d o, h.get? d = some o → d ∉ ι → (∃ o, cx.h₀.get? d = some o) → h'.get? d = some o ∧ d ∉ ι'
mutual
theorem VR.gen {cx cx' : Cx} {ι ι' : List Addr} {h h' : Heap} (x : Tn cx cx' ι ι' h h') : ∀ {a : AV} {v : Value}, VR cx ι h a v → VR cx' ι' h' a v
  | _, _, .none => .none
  | _, _, .bool b => .bool b
  | _, _, .int i t => .int i t
  | _, _, .str s t => .str s t
  | _, _, .tup ht hn hz hs => .tup (x.tup _ _ _ ht hn).1 (x.tup _ _ _ ht hn).2 hz (VRs.gen x hs)
  | _, _, .lst ht hn hz hs => .lst (x.lst _ _ _ ht hn).1 (x.lst _ _ _ ht hn).2 hz (VRs.gen x hs)
  | _, _, .loc hl => .loc (x.loc _ _ hl)
  | _, _, .range hr hn => .range (x.range _ _ _ _ _ _ hr hn).1 (x.range _ _ _ _ _ _ hr hn).2
  | _, _, .cdict hd hn hk hsm hs => .cdict (by rw [x.same.1, x.same.2.1]; exact DictOf.at' hd fun o e => (x.dict _ o e hn hsm.2).1) (let ⟨_, _, _, ho, _⟩ := hd; (x.dict _ _ ho hn hsm.2).2) hk (by rw [x.same.2.2]; exact hsm) (VRs.gen x hs)
theorem VRs.gen {cx cx' : Cx} {ι ι' : List Addr} {h h' : Heap} (x : Tn cx cx' ι ι' h h') : ∀ {xs : List AV} {vs : List Value}, VRs cx ι h xs vs → VRs cx' ι' h' xs vs
  | _, _, .nil => .nil
  | _, _, .cons a as => .cons (VR.gen x a) (VRs.gen x as)
end
theorem Ext.tn {cx : Cx} {ι ι' : List Addr} {h h' : Heap} (x : Ext ι ι' h h') : Tn cx cx ι ι' h h' where
  same := ⟨rfl, rfl, rfl⟩
  tup := fun _ _ _ ht hn => ⟨x.keep _ _ ht hn, x.notin ht hn⟩
  lst := fun _ _ _ ht hn => ⟨x.keep _ _ ht hn.1, x.notin ht hn.1, hn.2⟩
  loc := fun _ _ hl => prefix_get x.pre hl
  range := fun _ _ _ _ _ _ hr hn => ⟨x.keep _ _ hr hn, x.notin hr hn⟩
  dict := fun _ _ ho hn _ => ⟨x.keep _ _ ho hn, x.notin ho hn⟩
theorem VR.mono {cx : Cx} {ι ι' : List Addr} {h h' : Heap} (x : Ext ι ι' h h') {a : AV} {v : Value} (r : VR cx ι h a v) : VR cx ι' h' a v := r.gen x.tn
theorem VRs.mono {cx : Cx} {ι ι' : List Addr} {h h' : Heap} (x : Ext ι ι' h h') {xs : List AV} {vs : List Value} (r : VRs cx ι h xs vs) : VRs cx ι' h' xs vs := r.gen x.tn

namespace VRs
variable {cx : Cx} {ι : List Addr} {h : Heap}
theorem length : ∀ {xs : List AV} {vs : List Value}, VRs cx ι h xs vs → xs.length = vs.length
  | _, _, .nil => rfl
  | _, _, .cons _ r => by rw [List.length_cons, List.length_cons, r.length]
theorem get : ∀ {xs : List AV} {vs : List Value}, VRs cx ι h xs vs → ∀ {i : Nat} {a : AV}, xs[i]? = some a → ∃ v, vs[i]? = some v ∧ VR cx ι h a v
  | _, _, .nil, i, a, e => by simp at e
  | _, _, .cons x r, 0, a, e => by simp at e; subst e; exact ⟨_, rfl, x⟩
  | _, _, .cons x r, i + 1, a, e => by simp at e; simpa using r.get e
theorem append : ∀ {xs ys : List AV} {vs ws : List Value}, VRs cx ι h xs vs → VRs cx ι h ys ws → VRs cx ι h (xs ++ ys) (vs ++ ws)
  | _, _, _, _, .nil, y => y
  | _, _, _, _, .cons x r, y => .cons x (r.append y)
theorem drop : ∀ {xs : List AV} {vs : List Value} (n : Nat), VRs cx ι h xs vs → VRs cx ι h (xs.drop n) (vs.drop n)
  | _, _, 0, x => x
  | _, _, _ + 1, .nil => .nil
  | _, _, n + 1, .cons _ r => r.drop n
theorem take : ∀ {xs : List AV} {vs : List Value} (n : Nat), VRs cx ι h xs vs → VRs cx ι h (xs.take n) (vs.take n)
  | _, _, 0, _ => .nil
  | _, _, _ + 1, .nil => .nil
  | _, _, n + 1, .cons x r => .cons x (r.take n)
theorem set : ∀ {xs : List AV} {vs : List Value} (n : Nat) {a : AV} {v : Value}, VRs cx ι h xs vs → VR cx ι h a v → VRs cx ι h (xs.set n a) (vs.set n v)
  | _, _, _, _, _, .nil, _ => .nil
  | _, _, 0, _, _, .cons _ r, y => .cons y r
  | _, _, n + 1, _, _, .cons x r, y => .cons x (r.set n y)
theorem eraseIdx : ∀ {xs : List AV} {vs : List Value} (n : Nat), VRs cx ι h xs vs → VRs cx ι h (xs.eraseIdx n) (vs.eraseIdx n)
  | _, _, _, .nil => .nil
  | _, _, 0, .cons _ r => r
  | _, _, n + 1, .cons x r => .cons x (r.eraseIdx n)
theorem reverse {xs : List AV} {vs : List Value} (x : VRs cx ι h xs vs) : VRs cx ι h xs.reverse vs.reverse := by
  induction xs generalizing vs with
  | nil => cases x; exact .nil
  | cons a xs ih => cases x with | cons y r => rw [List.reverse_cons, List.reverse_cons]; exact (ih r).append (.cons y .nil)
theorem one {a : AV} {v : Value} (x : VR cx ι h a v) : VRs cx ι h [a] [v] := .cons x .nil
end VRs

/-- OR is kept where only other addresses turn -/
theorem OR.keep {cx : Cx} {ι ι' : List Addr} {h h' : Heap} (x : Ext ι ι' h h') {a : Addr} {o : AO} (e : ∀ q, h.get? a = some q → h'.get? a = some q) (r : OR cx ι h a o) : OR cx ι' h' a o := by
  cases o with
  | list xs => obtain ⟨vs, n, hl, hz, hs⟩ := r; exact ⟨vs, n, e _ hl, hz, hs.mono x⟩
  | dict es => obtain ⟨kvs, hd, h1, h2, hs⟩ := r; exact ⟨kvs, DictOf.at' hd e, h1, h2, hs.mono x⟩
theorem OR.lt {cx : Cx} {ι : List Addr} {h : Heap} {a : Addr} {o : AO} (r : OR cx ι h a o) : a < h.objs.size := by
  cases o with
  | list xs => obtain ⟨vs, n, hl, hs⟩ := r; exact Heap.lt_size hl
  | dict es => obtain ⟨kvs, hd, _⟩ := r; exact DictOf.lt hd

namespace St
variable {cx : Cx} {ι : List Addr} {H : AHeap} {s : Shared}
theorem lt (S : St cx ι H s) {a : Addr} (ha : a ∈ ι) : a < s.heap.objs.size := by
  obtain ⟨l, hl, e⟩ := List.mem_iff_getElem.mp ha
  have hl' : l < H.length := S.len ▸ hl
  exact (S.own l a H[l] (by rw [List.getElem?_eq_getElem hl, e]) (List.getElem?_eq_getElem hl')).lt
theorem tok (S : St cx ι H s) (t : Nat) : St cx ι H { s with toks := t } := ⟨S.base, S.len, S.nodup, S.fresh, S.own, S.gens, S.os, S.sysm, S.hid⟩
/-- a heap in which every old object stays -/
theorem keeps (S : St cx ι H s) {h' : Heap} {t : Nat} (hk : ∀ b o, s.heap.get? b = some o → h'.get? b = some o) : St cx ι H { s with heap := h', toks := t } where
  base := fun b o e => hk b o (S.base b o e)
  len := S.len
  nodup := S.nodup
  fresh := S.fresh
  own := fun l a o e1 e2 => (S.own l a o e1 e2).keep ⟨List.prefix_refl _, fun _ a b => absurd a b, fun b o e _ => hk b o e⟩ (hk a)
  gens := S.gens
  os := S.os
  sysm := S.sysm
  hid := fun a ha => let ⟨h1, h2, vs, n, h3⟩ := S.hid a ha; ⟨h1, h2, vs, n, hk _ _ h3⟩
theorem push (S : St cx ι H s) (o : Obj) : St cx ι H { s with heap := s.heap.push o } := S.keeps (t := s.toks) (fun _ _ e => Heap.get?_push_of_some _ e)
end St

/-- the step that keeps every old object -/
theorem Ext.keeps {ι : List Addr} {h h' : Heap} (hk : ∀ b o, h.get? b = some o → h'.get? b = some o) : Ext ι ι h h' :=
  ⟨List.prefix_refl _, fun _ a b => absurd a b, fun b o e _ => hk b o e⟩
theorem Ext.push {ι : List Addr} {h : Heap} (o : Obj) : Ext ι ι h (h.push o) := Ext.keeps (fun _ _ e => Heap.get?_push_of_some _ e)

end Mine


set_option autoImplicit false
set_option linter.unusedVariables false
namespace Mine
open PySem PyProof.Rows

def PostV (cx : Cx) (ι : List Addr) (h : Heap) (a : AV) (H' : AHeap) : Value → Shared → Prop :=
  fun v s' => ∃ ι', Ext ι ι' h s'.heap ∧ St cx ι' H' s' ∧ VR cx ι' s'.heap a v
abbrev noE : Value → Shared → Prop := fun _ _ => False

theorem PostV.trans {cx : Cx} {ι ι₁ : List Addr} {h h₁ : Heap} {a : AV} {H' : AHeap} {v : Value} {s' : Shared} (x : Ext ι ι₁ h h₁) (p : PostV cx ι₁ h₁ a H' v s') : PostV cx ι h a H' v s' := by
  obtain ⟨ι', e, r⟩ := p; exact ⟨ι', x.trans e, r⟩
/-- the state stands, the value is by itself -/
theorem PostV.same {cx : Cx} {ι : List Addr} {H : AHeap} {s : Shared} {a : AV} {v : Value} (S : St cx ι H s) (t : Nat) (r : VR cx ι s.heap a v) : PostV cx ι s.heap a H v { s with toks := t } := ⟨ι, Ext.refl _ _, S.tok t, r⟩
theorem PostV.here {cx : Cx} {ι : List Addr} {H : AHeap} {s : Shared} {a : AV} {v : Value} (S : St cx ι H s) (r : VR cx ι s.heap a v) : PostV cx ι s.heap a H v s := ⟨ι, Ext.refl _ _, S, r⟩

theorem bind_some {α β : Type} {m : M α} {f : α → M β} {H : AHeap} {b : β} {H'' : AHeap} (h : (m >>= f) H = some (b, H'')) : ∃ a H', m H = some (a, H') ∧ f a H' = some (b, H'') := by
  change (m H).bind (fun x => f x.1 x.2) = some (b, H'') at h
  cases hm : m H with
  | none => rw [hm] at h; cases h
  | some x => rw [hm] at h; exact ⟨x.1, x.2, rfl, h⟩
theorem pure_some {α : Type} {a b : α} {H H' : AHeap} (h : (pure a : M α) H = some (b, H')) : b = a ∧ H' = H := by
  change some (a, H) = some (b, H') at h; cases h; exact ⟨rfl, rfl⟩
theorem stuck_some {α : Type} {H : AHeap} {r : α × AHeap} (h : (stuck : M α) H = some r) : False := by cases h
theorem ofOpt_some {α : Type} {o : Option α} {a : α} {H H' : AHeap} (h : ofOpt o H = some (a, H')) : o = some a ∧ H' = H := by
  cases o with
  | none => cases h
  | some b => obtain ⟨rfl, rfl⟩ := pure_some h; exact ⟨rfl, rfl⟩

section
variable {cx : Cx} {A : Around} {ι : List Addr} {H H' : AHeap} {s : Shared}

theorem fresh_notin (S : St cx ι H s) : s.heap.objs.size ∉ ι := fun h => Nat.lt_irrefl _ (S.lt h)
theorem get_size (h : Heap) : h.get? h.objs.size = none := by
  cases e : h.get? h.objs.size with
  | none => rfl
  | some o => exact absurd (Heap.lt_size e) (Nat.lt_irrefl _)
theorem St.notin (S : St cx ι H s) {a : Addr} (ha : s.heap.get? a = none) : a ∉ ι := fun hm => by
  obtain ⟨l, hl, e⟩ := List.mem_iff_getElem.mp hm
  have hl' : l < H.length := S.len ▸ hl
  have r := S.own l a H[l] (by rw [List.getElem?_eq_getElem hl, e]) (List.getElem?_eq_getElem hl')
  cases ho : H[l] with
  | list xs => rw [ho] at r; obtain ⟨_, _, q, _⟩ := r; rw [q] at ha; cases ha
  | dict es => rw [ho] at r; obtain ⟨_, ⟨_, _, _, q, _⟩, _⟩ := r; rw [q] at ha; cases ha
theorem St.not_sys (S : St cx ι H s) (_ : s.heap.get? s.heap.objs.size = none) : (s.heap.objs.size == sysModules) = false := by
  obtain ⟨o, e⟩ := S.sysm
  have h1 := Heap.lt_size (S.base _ _ e)
  have h2 : sysModules < s.heap.objs.size := Nat.lt_trans (by decide) h1
  exact beq_eq_false_iff_ne.mpr (Nat.ne_of_gt h2)
theorem St.nothid (S : St cx ι H s) {a : Addr} (ha : s.heap.get? a = none) : a ∉ cx.hid := fun hm => by
  obtain ⟨_, _, vs, n, h3⟩ := S.hid a hm
  rw [h3] at ha; cases ha
theorem St.base_none (S : St cx ι H s) {a : Addr} (ha : s.heap.get? a = none) : cx.h₀.get? a = none := by
  cases e : cx.h₀.get? a with
  | none => rfl
  | some o => rw [S.base a o e] at ha; cases ha

/-- a fresh object onto the abstract heap -/
theorem St.alloc (S : St cx ι H s) {h' : Heap} {t : Nat} {a : Addr} {o : AO} (hk : ∀ b q, s.heap.get? b = some q → h'.get? b = some q)
    (ha : s.heap.get? a = none) (r : Ext ι (ι ++ [a]) s.heap h' → OR cx (ι ++ [a]) h' a o) : Ext ι (ι ++ [a]) s.heap h' ∧ St cx (ι ++ [a]) (H ++ [o]) { s with heap := h', toks := t } := by
  have hna : a ∉ ι := S.notin ha
  have e1 : Ext ι (ι ++ [a]) s.heap h' := ⟨List.prefix_append _ _, fun b hb hn => by
      rcases List.mem_append.mp hb with h1 | h1
      · exact absurd h1 hn
      · rw [List.mem_singleton.mp h1]; exact ha, fun b q e _ => hk b q e⟩
  refine ⟨e1, ⟨fun b q e => hk b q (S.base b q e), by simp [S.len], ?_, ?_, ?_, S.gens, S.os, S.sysm, ?_⟩⟩
  · rw [List.nodup_append]
    exact ⟨S.nodup, by simp, fun x hx y hy => by rw [List.mem_singleton.mp hy]; exact fun e => hna (e ▸ hx)⟩
  · intro b hb
    rcases List.mem_append.mp hb with h1 | h1
    · exact S.fresh b h1
    · rw [List.mem_singleton.mp h1]; exact S.base_none ha
  · intro l b q e1' e2
    by_cases hl : l < ι.length
    · rw [List.getElem?_append_left hl] at e1'
      rw [List.getElem?_append_left (S.len ▸ hl)] at e2
      exact (S.own l b q e1' e2).keep e1 (hk b)
    · rw [List.getElem?_append_right (by omega)] at e1'
      rw [List.getElem?_append_right (by rw [← S.len]; omega), ← S.len] at e2
      have hl0 : l - ι.length = 0 := by
        rcases Nat.eq_zero_or_pos (l - ι.length) with h0 | h0
        · exact h0
        · rw [List.getElem?_eq_none (by simp; omega)] at e1'; cases e1'
      rw [hl0] at e1' e2
      simp at e1' e2
      subst e1'; subst e2
      exact r e1
  · intro b hb
    obtain ⟨h1, h2, vs, n, h3⟩ := S.hid b hb
    refine ⟨fun hm => ?_, h2, vs, n, hk _ _ h3⟩
    rcases List.mem_append.mp hm with hm | hm
    · exact h1 hm
    · have hba := List.mem_singleton.mp hm; subst hba; have h4 : s.heap.get? b = some _ := h3; rw [ha] at h4; cases h4

/-- one mutable object is turned, all else stays -/
theorem St.turn (S : St cx ι H s) {l : Nat} {a : Addr} {h' : Heap} {t : Nat} {o : AO} (hl : ι[l]? = some a) (hk : ∀ b q, b ≠ a → s.heap.get? b = some q → h'.get? b = some q)
    (r : Ext ι ι s.heap h' → OR cx ι h' a o) : Ext ι ι s.heap h' ∧ St cx ι (H.set l o) { s with heap := h', toks := t } := by
  have hm : a ∈ ι := List.mem_of_getElem? hl
  have e1 : Ext ι ι s.heap h' := ⟨List.prefix_refl _, fun _ x y => absurd x y, fun b q e hn => hk b q (fun z => hn (z ▸ hm)) e⟩
  refine ⟨e1, ⟨fun b q e => hk b q (fun z => ?_) (S.base b q e), by simp [S.len], S.nodup, S.fresh, ?_, S.gens, S.os, S.sysm, fun b hb => let ⟨h1, h2, vs, n, h3⟩ := S.hid b hb; ⟨h1, h2, vs, n, hk b _ (fun z => h1 (z ▸ hm)) h3⟩⟩⟩
  · subst z; rw [S.fresh _ hm] at e; cases e
  · intro l' b q e1' e2
    rw [List.getElem?_set] at e2
    by_cases hll : l = l'
    · subst hll
      rw [hl] at e1'; cases e1'
      simp only [if_true] at e2
      split at e2
      · cases e2; exact r e1
      · cases e2
    · rw [if_neg hll] at e2
      have hba : b ≠ a := fun z => hll (by
        subst z
        have h1 : l < ι.length := (List.getElem?_eq_some_iff.mp hl).1
        have h2 : l' < ι.length := (List.getElem?_eq_some_iff.mp e1').1
        have q1 : ι[l] = b := (List.getElem?_eq_some_iff.mp hl).2
        have q2 : ι[l'] = b := (List.getElem?_eq_some_iff.mp e1').2
        exact (List.getElem_inj S.nodup).mp (q1.trans q2.symm))
      exact (S.own l' b q e1' e2).keep e1 (fun q' e => hk b q' hba e)

theorem VRs.size {xs : List AV} {vs : Array Value} {h : Heap} (x : VRs cx ι h xs vs.toList) : vs.size = xs.length := by rw [x.length]; simp

/-- a list that is made new, frozen or on the abstract heap -/
theorem newL_post (S : St cx ι H s) {mu : Bool} {xs : List AV} {vs : Array Value} {a : AV} {h' : Heap} {t : Nat} {d : Addr} {n : Nat} (he : newL mu xs H = some (a, H'))
    (hk : ∀ b q, s.heap.get? b = some q → h'.get? b = some q) (hd : s.heap.get? d = none) (hL : IsL h' d vs n) (r : VRs cx ι s.heap xs vs.toList) :
    PostV cx ι s.heap a H' (.ref d) { s with heap := h', toks := t } := by
  unfold newL at he
  split at he
  · cases mu with
    | true =>
      simp only [Option.some.injEq, Prod.mk.injEq] at he
      obtain ⟨rfl, rfl⟩ := he
      obtain ⟨e1, S1⟩ := S.alloc (t := t) hk hd (o := .list xs) (fun e1 => ⟨vs, n, hL, by assumption, r.mono e1⟩)
      exact ⟨_, e1, S1, .loc (by rw [List.getElem?_append_right (by rw [S.len]; exact Nat.le_refl _)]; simp [S.len])⟩
    | false =>
      simp only [Option.some.injEq, Prod.mk.injEq] at he
      obtain ⟨rfl, rfl⟩ := he
      have e1 : Ext ι ι s.heap h' := Ext.keeps hk
      exact ⟨ι, e1, S.keeps hk, .lst hL ⟨S.notin hd, S.nothid hd⟩ (by assumption) (r.mono e1)⟩
  · cases he
theorem newL_len {mu : Bool} {xs : List AV} {a : AV} (he : newL mu xs H = some (a, H')) : xs.length ≤ LIM := by
  unfold newL at he
  split at he
  · assumption
  · cases he
theorem LIM_le : LIM ≤ sizeLine := by decide
theorem sizeLine_is : sizeLine = 16777216 := by decide
theorem LIM_is : LIM = 1048576 := by decide

theorem newList_sound {mu : Bool} {xs : List AV} {vs : List Value} {a : AV} {E : Value → Shared → Prop} (S : St cx ι H s) (he : newL mu xs H = some (a, H')) (r : VRs cx ι s.heap xs vs) :
    wpAny (model cx.prog cx.w) A (newList vs) (PostV cx ι s.heap a H') E s := by
  have hl := newL_len he
  refine wpAny_newObj_type (newL_post S he (t := s.toks) (fun b q e => Heap.get?_push_of_some _ e) (get_size _) (IsL.new _ _) (by simpa using r)) ?_
  show vs.toArray.size ≤ sizeLine
  have := r.length; have := LIM_le
  simp only [List.size_toArray]; omega
theorem newTuple_sound {xs : List AV} {vs : List Value} {E : Value → Shared → Prop} (S : St cx ι H s) (hl : xs.length ≤ LIM) (r : VRs cx ι s.heap xs vs) :
    wpAny (model cx.prog cx.w) A (newTuple vs) (PostV cx ι s.heap (.tup xs) H) E s := by
  refine wpAny_newObj_type ⟨ι, Ext.push _, S.push _, .tup (IsT.new _ _) (fresh_notin S) hl (by simpa using r.mono (Ext.push _))⟩ ?_
  show vs.toArray.size ≤ sizeLine
  have := r.length; have := LIM_le
  simp only [List.size_toArray]; omega

/-- what listOf, seqOf read -/
theorem listOf_sound (S : St cx ι H s) {a : AV} {v : Value} {xs : List AV} (h : listOf a H = some (xs, H')) (r : VR cx ι s.heap a v) : H' = H ∧ ∃ l vs n, v = .ref l ∧ IsL s.heap l vs n ∧ xs.length ≤ LIM ∧ VRs cx ι s.heap xs vs.toList := by
  cases r with
  | lst hl hn hz hs => simp only [listOf, Option.some.injEq, Prod.mk.injEq] at h; obtain ⟨rfl, rfl⟩ := h; exact ⟨rfl, _, _, _, rfl, hl, hz, hs⟩
  | loc hl =>
    simp only [listOf] at h
    split at h
    · rename_i ys hH
      cases h
      obtain ⟨vs, n, h1, hz, h2⟩ := S.own _ _ _ hl hH
      exact ⟨rfl, _, vs, n, rfl, h1, hz, h2⟩
    · cases h
  | _ => cases h
inductive IsSeq (h : Heap) (l : Addr) (vs : Array Value) (n : Nat) : Prop
  | list (x : IsL h l vs n)
  | tuple (x : IsT h l vs n)
theorem seqOf_sound (S : St cx ι H s) {a : AV} {v : Value} {xs : List AV} (h : seqOf a H = some (xs, H')) (r : VR cx ι s.heap a v) : H' = H ∧ ∃ l vs n, v = .ref l ∧ IsSeq s.heap l vs n ∧ xs.length ≤ LIM ∧ VRs cx ι s.heap xs vs.toList := by
  cases r with
  | tup hl hn hz hs => simp only [seqOf, Option.some.injEq, Prod.mk.injEq] at h; obtain ⟨rfl, rfl⟩ := h; exact ⟨rfl, _, _, _, rfl, .tuple hl, hz, hs⟩
  | lst hl hn hz hs => simp only [seqOf, Option.some.injEq, Prod.mk.injEq] at h; obtain ⟨rfl, rfl⟩ := h; exact ⟨rfl, _, _, _, rfl, .list hl, hz, hs⟩
  | loc hl =>
    simp only [seqOf] at h
    split at h
    · rename_i ys hH
      cases h
      obtain ⟨vs, n, h1, hz, h2⟩ := S.own _ _ _ hl hH
      exact ⟨rfl, _, vs, n, rfl, .list h1, hz, h2⟩
    · cases h
  | _ => cases h

theorem mul_fits_of {i j : Int} (h : j.natAbs < 2 ^ 64 ∨ i.natAbs < 2 ^ 64) : IntMulOk i j := by
  rcases h with h | h
  · exact .of_right (intBits_le_64 (by omega) (by omega))
  · exact .of_left (intBits_le_64 (by omega) (by omega))

theorem addLists_sound {mu : Bool} {a b c : AV} {v w : Value} {E : Value → Shared → Prop} (S : St cx ι H s) (ra : VR cx ι s.heap a v) (rb : VR cx ι s.heap b w)
    (h : (do let xs ← listOf a; let ys ← listOf b; newL mu (xs ++ ys) : M AV) H = some (c, H')) : wpAny (model cx.prog cx.w) A (binaryOp .Add v w) (PostV cx ι s.heap c H') E s := by
  obtain ⟨xs, H1, h1, h3⟩ := bind_some h
  obtain ⟨ys, H2, h2, h4⟩ := bind_some h3
  obtain ⟨rfl, l, vs, n, rfl, hl, hz, hvs⟩ := listOf_sound S h1 ra
  obtain ⟨rfl, l2, ws, n2, rfl, hl2, hz2, hws⟩ := listOf_sound S h2 rb
  have hlen := newL_len h4
  refine P.add_list hl hl2 (newL_post S h4 (t := s.toks) (fun b q e => Heap.get?_push_of_some _ e) (get_size _) (IsL.new _ _) (by simpa using hvs.append hws)) ?_
  have := hvs.size; have := hws.size; have := LIM_le; rw [List.length_append] at hlen; omega

theorem VRs.rep {xs : List AV} {vs : List Value} {h : Heap} (x : VRs cx ι h xs vs) : ∀ k : Nat, VRs cx ι h (List.replicate k xs).flatten (List.replicate k vs).flatten
  | 0 => .nil
  | k + 1 => by simp only [List.replicate_succ, List.flatten_cons]; exact x.append (VRs.rep x k)

theorem mulList_sound {mu : Bool} {a c : AV} {v : Value} {n : Int} {t : Tok} {E : Value → Shared → Prop} (S : St cx ι H s) (ra : VR cx ι s.heap a v)
    (h : (do let xs ← listOf a; if n < 0 ∨ 1048576 < n ∨ LIM < n.toNat * xs.length then stuck else newL mu (List.replicate n.toNat xs).flatten : M AV) H = some (c, H')) :
    wpAny (model cx.prog cx.w) A (binaryOp .Mult v (.int n t)) (PostV cx ι s.heap c H') E s := by
  obtain ⟨xs, H1, h1, h3⟩ := bind_some h
  obtain ⟨e0, l, vs, k, rfl, hl, hz, hvs⟩ := listOf_sound S h1 ra
  subst e0
  by_cases hc : n < 0 ∨ 1048576 < n ∨ LIM < n.toNat * xs.length
  · rw [if_pos hc] at h3; cases h3
  · rw [if_neg hc] at h3
    have hsz := hvs.size
    have h2 : vs.size * n.toNat ≤ 2 ^ 24 := by
      rw [hsz, Nat.mul_comm]; have := LIM_is; omega
    have hbig : n < 2 ^ 63 := by omega
    · refine wpAny_binaryOp_repeat_ref (T := "list") (U := "int") (by decide) ⟨_, hl, rfl⟩ (fun s' => typeIs_int s' n t) noFill_list_mul F.fills_int_mul F.slot_int_rmul repeat_list F.slot_int_index.lookup
        (call_meets F.slot_int_rmul (typeIs_int s n t) F.entry_int_rmul (F.args_int_rmul_2 _ _) (int___rmul___int_list n t l vs k)
          ⟨hl, rfl, ⟨_, hl, rfl⟩, call_meets F.slot_list_mul ⟨_, hl, rfl⟩ F.entry_list_mul (F.args_list_mul_2 _ _)
            (AutoListH.list___mul___list_int_3 l vs k n t (by simp [Builtin.List.listFitsIndex]; omega) (by omega) (by simp [Builtin.List.listTooLong, sizeLine]; omega))
            ⟨hl, ?_⟩⟩)
      refine newL_post S h3 (t := s.toks) (fun b q e => Heap.get?_push_of_some _ e) (get_size _) (IsL.new _ _) ?_
      rw [listMul_foldl_if]
      simpa using hvs.rep n.toNat

theorem asI_some {v : AV} {i : Int} (h : asI v = some i) : v = .int i := by
  cases v with
  | int j => cases h; rfl
  | _ => exact (nomatch (show (none : Option Int) = some i from h))
theorem int2_some {a b : AV} {f : Int → Int → M AV} {H : AHeap} {r : AV × AHeap} (h : int2 a b f H = some r) : ∃ i j, a = .int i ∧ b = .int j ∧ f i j H = some r := by
  unfold int2 at h
  cases ha : asI a with
  | none => simp only [ha] at h; exact (stuck_some (H := H) h).elim
  | some i =>
    cases hb : asI b with
    | none => simp only [ha, hb] at h; exact (stuck_some (H := H) h).elim
    | some j => simp only [ha, hb] at h; exact ⟨i, j, asI_some ha, asI_some hb, h⟩

theorem pBin_sound {mu : Bool} {op : Operator} {a b c : AV} {v w : Value} {E : Value → Shared → Prop} (S : St cx ι H s) (ra : VR cx ι s.heap a v) (rb : VR cx ι s.heap b w) (h : pBin mu op a b H = some (c, H')) :
    wpAny (model cx.prog cx.w) A (binaryOp op v w) (PostV cx ι s.heap c H') E s := by
  cases op with
  | Add =>
    have h' : bAdd mu a b H = some (c, H') := h
    unfold bAdd at h'
    cases ha : asI a with
    | some i =>
      cases hb : asI b with
      | none => simp only [ha, hb] at h'; exact (stuck_some (H := H) h').elim
      | some j =>
        simp only [ha, hb] at h'
        have e1 := asI_some ha
        have e2 := asI_some hb
        subst e1; subst e2
        cases ra; cases rb; obtain ⟨rfl, rfl⟩ := pure_some h'; exact add_int (PostV.same S _ (.int _ _))
    | none =>
      simp only [ha] at h'
      cases a with
      | tup xs =>
        cases b with
        | tup ys =>
          have h2 : (if xs.isEmpty || ys.isEmpty || decide (LIM < xs.length + ys.length) then stuck else pure (.tup (xs ++ ys)) : M AV) H = some (c, H') := h'
          split at h2
          · exact (stuck_some (H := H) h2).elim
          · rename_i hc
            have hc := Bool.eq_false_iff.mpr hc
            rw [Bool.or_eq_false_iff, Bool.or_eq_false_iff, List.isEmpty_eq_false_iff, List.isEmpty_eq_false_iff, decide_eq_false_iff_not] at hc
            obtain ⟨⟨hx, hy⟩, hlen⟩ := hc
            obtain ⟨rfl, rfl⟩ := pure_some h2
            cases ra with | tup ha hna hza hsa => cases rb with | tup hb hnb hzb hsb =>
            have e1 := hsa.size; have e2 := hsb.size
            have x1 := List.length_pos_iff.mpr hx
            have x2 := List.length_pos_iff.mpr hy
            refine P.add_tuple ha hb (by intro z; rw [Array.isEmpty_iff_size_eq_zero] at z; omega) (by intro z; rw [Array.isEmpty_iff_size_eq_zero] at z; omega) ?_ ?_
            · exact ⟨ι, Ext.push _, S.push _, .tup (IsT.new _ _) (fresh_notin S) (by rw [List.length_append]; omega) (by simpa using (hsa.append hsb).mono (Ext.push _))⟩
            · have := LIM_le; omega
        | _ => exact (stuck_some (H := H) h').elim
      | _ => exact addLists_sound S ra rb h'
  | Sub =>
    replace h := int2_some h
    obtain ⟨i, j, rfl, rfl, h⟩ := h
    cases ra; cases rb; obtain ⟨rfl, rfl⟩ := pure_some h; exact sub_int' (PostV.same S _ (.int _ _))
  | Mult =>
    have h' : bMul mu a b H = some (c, H') := h
    unfold bMul at h'
    cases hb : asI b with
    | none => simp only [hb] at h'; exact (stuck_some (H := H) h').elim
    | some n =>
      have e2 := asI_some hb
      subst e2
      simp only [hb] at h'
      cases ha : asI a with
      | some i =>
        have e1 := asI_some ha
        subst e1
        simp only [ha] at h'
        cases ra; cases rb
        split at h'
        · rename_i hc; obtain ⟨rfl, rfl⟩ := pure_some h'; exact mul_int (PostV.same S _ (.int _ _)) (mul_fits_of hc)
        · exact (stuck_some (H := H) h').elim
      | none =>
        simp only [ha] at h'
        cases rb; exact mulList_sound S ra h'
  | FloorDiv =>
    replace h := int2_some h
    obtain ⟨i, j, rfl, rfl, h⟩ := h
    cases ra; cases rb
    split at h
    · exact (stuck_some (H := H) h).elim
    · rename_i hc; obtain ⟨rfl, rfl⟩ := pure_some h; exact floordiv_int (fun z => hc (.inl z)) (PostV.same S _ (.int _ _)) (.inl (PyProof.noPylong_small (by omega)))
  | Mod =>
    replace h := int2_some h
    obtain ⟨i, j, rfl, rfl, h⟩ := h
    cases ra; cases rb
    split at h
    · exact (stuck_some (H := H) h).elim
    · rename_i hc; obtain ⟨rfl, rfl⟩ := pure_some h; exact mod_int' hc (PostV.same S _ (.int _ _))
  | Pow =>
    replace h := int2_some h
    obtain ⟨i, j, rfl, rfl, h⟩ := h
    cases ra; cases rb
    split at h
    · rename_i hc; obtain ⟨rfl, rfl⟩ := pure_some h; obtain ⟨rfl, rfl⟩ := hc
      exact pow_int_small (by decide) (by decide) (by decide) (PostV.same S _ (.int _ _))
    · exact (stuck_some (H := H) h).elim
  | _ => exact (stuck_some (H := H) h).elim
end
end Mine


set_option autoImplicit false
set_option linter.unusedVariables false
namespace Mine
open PySem PyProof.Rows PySem.SeqAt

section
variable {cx : Cx} {A : Around} {ι : List Addr} {H H' : AHeap} {s : Shared}

theorem pNeg_sound {a c : AV} {v : Value} {E : Value → Shared → Prop} (S : St cx ι H s) (ra : VR cx ι s.heap a v) (h : pNeg a H = some (c, H')) :
    wpAny (model cx.prog cx.w) A (unaryOp .USub v) (PostV cx ι s.heap c H') E s := by
  cases ra <;> first | (cases h; done) | skip
  obtain ⟨rfl, rfl⟩ := pure_some h
  exact neg_int (PostV.same S _ (.int _ _))

/-- what rd reads is what the heap holds -/
theorem mapM_cons_some {α β : Type} {f : α → Option β} {x : α} {xs : List α} {r : List β} (h : (x :: xs).mapM f = some r) : ∃ y ys, f x = some y ∧ xs.mapM f = some ys ∧ r = y :: ys := by
  rw [List.mapM_cons] at h
  cases hx : f x with
  | none => rw [hx] at h; cases h
  | some y =>
    rw [hx] at h
    cases hy : xs.mapM f with
    | none => rw [hy] at h; cases h
    | some ys => rw [hy] at h; cases h; exact ⟨y, ys, rfl, rfl, rfl⟩

theorem rds_sound (n : Nat) (ih : ∀ {a : AV} {v : Value} {d : PyData}, VR cx ι s.heap a v → rd H n a = some d → ∃ as, Reads s.heap v d as ∧ d.canLay0 = true ∧ d.depth ≤ n) :
    ∀ {xs : List AV} {vs : List Value} {ds : List PyData}, VRs cx ι s.heap xs vs → xs.mapM (rd H n) = some ds → ∃ as, ReadsAll s.heap vs ds as ∧ PyData.canLayAll0 ds = true ∧ PyData.depthAll ds ≤ n
  | _, _, _, .nil, h => by cases h; exact ⟨[], .nil, rfl, Nat.zero_le _⟩
  | _, _, _, .cons r rs, h => by
    obtain ⟨y, ys, h1, h2, rfl⟩ := mapM_cons_some h
    obtain ⟨as, q1, q2, q3⟩ := ih r h1
    obtain ⟨bs, p1, p2, p3⟩ := rds_sound n ih rs h2
    exact ⟨as ++ bs, .cons q1 p1, by simp [PyData.canLayAll0, q2, p2], by simp only [PyData.depthAll]; exact Nat.max_le.mpr ⟨q3, p3⟩⟩

theorem rd_sound (S : St cx ι H s) : ∀ (n : Nat) {a : AV} {v : Value} {d : PyData}, VR cx ι s.heap a v → rd H n a = some d → ∃ as, Reads s.heap v d as ∧ d.canLay0 = true ∧ d.depth ≤ n
  | n, a, v, d, r, h => by
    cases r with
    | none => cases n <;> (cases h; exact ⟨[], .none, rfl, Nat.zero_le _⟩)
    | bool b => cases n <;> (cases h; exact ⟨[], .bool b, rfl, Nat.zero_le _⟩)
    | int i t => cases n <;> (cases h; exact ⟨[], .int i t, rfl, Nat.zero_le _⟩)
    | str x t =>
      have h' : (if PyData.strOk x then some (PyData.str x) else none) = some d := by cases n <;> exact h
      split at h'
      · rename_i ho; cases h'; exact ⟨[], .str x t, by simpa [PyData.canLay0] using ho, Nat.zero_le _⟩
      · cases h'
    | tup ht hn hz hs =>
      cases n with
      | zero => cases h
      | succ n =>
        simp only [rd] at h
        rename_i xs
        cases hm : xs.mapM (rd H n) with
        | none => rw [hm] at h; cases h
        | some ds =>
          rw [hm] at h; cases h
          obtain ⟨as, p1, p2, p3⟩ := rds_sound n (fun r h => rd_sound S n r h) hs hm
          exact ⟨as, .tuple ht rfl rfl p1, by simpa [PyData.canLay0] using p2, by simp only [PyData.depth]; omega⟩
    | lst ht hn hz hs =>
      cases n with
      | zero => cases h
      | succ n =>
        simp only [rd] at h
        rename_i xs
        cases hm : xs.mapM (rd H n) with
        | none => rw [hm] at h; cases h
        | some ds =>
          rw [hm] at h; cases h
          obtain ⟨as, p1, p2, p3⟩ := rds_sound n (fun r h => rd_sound S n r h) hs hm
          exact ⟨_, .list ht rfl rfl p1, by simpa [PyData.canLay0] using p2, by simp only [PyData.depth]; omega⟩
    | loc hl =>
      cases n with
      | zero => cases h
      | succ n =>
        simp only [rd] at h
        split at h
        · rename_i xs hH
          obtain ⟨vs, k, hL, hz, hs⟩ := S.own _ _ _ hl hH
          cases hm : xs.mapM (rd H n) with
          | none => rw [hm] at h; cases h
          | some ds =>
            rw [hm] at h; cases h
            obtain ⟨as, p1, p2, p3⟩ := rds_sound n (fun r h => rd_sound S n r h) hs hm
            exact ⟨_, .list hL rfl rfl p1, by simpa [PyData.canLay0] using p2, by simp only [PyData.depth]; omega⟩
        · cases h
    | range hr hn => cases n <;> cases h
    | cdict hd hn hk hsm hs => cases n <;> cases h

/-- room for a handful of the machine's own calls -/
abbrev Room (A : Around) : Prop := A.units + 100 < cLine

theorem room_min {A : Around} (R : Room A) {da db : PyData} (h : da.depth ≤ 8) : A.units + min da.depth db.depth < cLine := by have : min da.depth db.depth ≤ 8 := Nat.le_trans (Nat.min_le_left _ _) h; unfold Room at R; omega

theorem pEq_some {a b : AV} {r : Bool} (h : pEq a b H = some (r, H')) : H' = H ∧ ∃ x y, rd H 8 a = some x ∧ rd H 8 b = some y ∧ r = PyData.eqv x y := by
  unfold pEq at h
  split at h
  · rename_i x y hx hy; cases h; exact ⟨rfl, x, y, hx, hy, rfl⟩
  · cases h
theorem pIn_some {a b : AV} {r : Bool} (h : pIn a b H = some (r, H')) : H' = H ∧ ∃ x ys, rd H 8 a = some x ∧ (rd H 8 b = some (.list ys) ∨ rd H 8 b = some (.tuple ys)) ∧ r = ys.any fun y => PyData.eqv y x := by
  unfold pIn at h
  split at h
  · rename_i x ys hx hy; cases h; exact ⟨rfl, x, ys, hx, .inl hy, rfl⟩
  · rename_i x ys hx hy; cases h; exact ⟨rfl, x, ys, hx, .inr hy, rfl⟩
  · cases h

theorem isNone_of {a : AV} {v : Value} {h : Heap} (r : VR cx ι h a v) : (v == .none) = pIsNone a := by cases r <;> rfl

theorem is_not_none {v : Value} {M : Model} {E : Value → Shared → Prop} {Q : Value → Shared → Prop} (h : Q (.bool (!(v == .none))) s) : wpAny M A (compareOp .IsNot v .none) Q E s := by
  show wpAny M A (do return .bool !(← isSame v .none)) Q E s
  rw [isSame_none]
  exact wpAny_bind (wpAny_pure (wpAny_pure h))

theorem pCmp_sound {op : CmpOp} {a b : AV} {r : Bool} {v w : Value} {E : Value → Shared → Prop} (R : Room A) (S : St cx ι H s) (ra : VR cx ι s.heap a v) (rb : VR cx ι s.heap b w) (h : pCmp op a b H = some (r, H')) :
    wpAny (model cx.prog cx.w) A (compareOp op v w) (fun x s' => x = .bool r ∧ PostV cx ι s.heap (.bool r) H' x s') E s := by
  have fin : ∀ t : Nat, H' = H → (Value.bool r = .bool r ∧ PostV cx ι s.heap (.bool r) H' (.bool r) { s with toks := t }) := fun t e => ⟨rfl, e ▸ PostV.same S t (.bool r)⟩
  have fin0 : H' = H → (Value.bool r = .bool r ∧ PostV cx ι s.heap (.bool r) H' (.bool r) s) := fun e => fin s.toks e
  have twoI : ∀ (q : CmpOp), (match asI a with | some i => (match asI b with | some j => cmpI q i j | none => stuck) | none => stuck : M Bool) H = some (r, H') → ∃ i j, a = .int i ∧ b = .int j ∧ cmpI q i j H = some (r, H') := by
    intro q h
    cases ha : asI a with
    | none => simp only [ha] at h; exact (stuck_some (H := H) h).elim
    | some i =>
      cases hb : asI b with
      | none => simp only [ha, hb] at h; exact (stuck_some (H := H) h).elim
      | some j => simp only [ha, hb] at h; exact ⟨i, j, asI_some ha, asI_some hb, h⟩
  cases op with
  | Eq =>
    obtain ⟨e, x, y, hx, hy, rfl⟩ := pEq_some h
    obtain ⟨as, p1, p2, p3⟩ := rd_sound S 8 ra hx
    obtain ⟨bs, q1, q2, q3⟩ := rd_sound S 8 rb hy
    exact compareEq_reads p1 q1 p2 q2 (room_min R p3) (fin0 e)
  | NotEq =>
    obtain ⟨r', H1, h1, h2⟩ := bind_some h
    obtain ⟨e, x, y, hx, hy, rfl⟩ := pEq_some h1
    obtain ⟨rfl, rfl⟩ := pure_some h2
    obtain ⟨as, p1, p2, p3⟩ := rd_sound S 8 ra hx
    obtain ⟨bs, q1, q2, q3⟩ := rd_sound S 8 rb hy
    exact compareNe_reads p1 q1 p2 q2 (room_min R p3) (fin0 e)
  | In =>
    obtain ⟨e, x, ys, hx, hy, rfl⟩ := pIn_some h
    obtain ⟨as, p1, p2, p3⟩ := rd_sound S 8 ra hx
    rcases hy with hy | hy
    · obtain ⟨bs, q1, q2, q3⟩ := rd_sound S 8 rb hy
      exact in_list_reads q1 p1 (by simpa [PyData.canLay0] using q2) p2 (by have := Nat.min_le_right (PyData.depthAll ys) x.depth; unfold Room at R; omega) (fin0 e)
    · obtain ⟨bs, q1, q2, q3⟩ := rd_sound S 8 rb hy
      exact in_tuple_reads q1 p1 (by simpa [PyData.canLay0] using q2) p2 (by have := Nat.min_le_right (PyData.depthAll ys) x.depth; unfold Room at R; omega) (fin0 e)
  | NotIn =>
    obtain ⟨r', H1, h1, h2⟩ := bind_some h
    obtain ⟨e, x, ys, hx, hy, rfl⟩ := pIn_some h1
    obtain ⟨rfl, rfl⟩ := pure_some h2
    obtain ⟨as, p1, p2, p3⟩ := rd_sound S 8 ra hx
    rcases hy with hy | hy
    · obtain ⟨bs, q1, q2, q3⟩ := rd_sound S 8 rb hy
      exact notIn_list_reads q1 p1 (by simpa [PyData.canLay0] using q2) p2 (by have := Nat.min_le_right (PyData.depthAll ys) x.depth; unfold Room at R; omega) (fin0 e)
    · obtain ⟨bs, q1, q2, q3⟩ := rd_sound S 8 rb hy
      exact notIn_tuple_reads q1 p1 (by simpa [PyData.canLay0] using q2) p2 (by have := Nat.min_le_right (PyData.depthAll ys) x.depth; unfold Room at R; omega) (fin0 e)
  | Is =>
    cases rb with
    | none =>
      obtain ⟨rfl, rfl⟩ := pure_some h
      exact is_none (by rw [isNone_of ra]; exact fin0 rfl)
    | _ => exact (stuck_some (H := H) h).elim
  | IsNot =>
    cases rb with
    | none =>
      obtain ⟨rfl, rfl⟩ := pure_some h
      exact is_not_none (by rw [isNone_of ra]; exact fin0 rfl)
    | _ => exact (stuck_some (H := H) h).elim
  | Lt =>
    replace h := twoI .Lt h
    obtain ⟨i, j, rfl, rfl, h⟩ := h
    cases ra; cases rb
    obtain ⟨rfl, rfl⟩ := pure_some h
    exact wpAny_lt_int (fin0 rfl)
  | LtE =>
    replace h := twoI .LtE h
    obtain ⟨i, j, rfl, rfl, h⟩ := h
    cases ra; cases rb
    obtain ⟨rfl, rfl⟩ := pure_some h
    exact le_int (fin0 rfl)
  | Gt =>
    replace h := twoI .Gt h
    obtain ⟨i, j, rfl, rfl, h⟩ := h
    cases ra; cases rb
    obtain ⟨rfl, rfl⟩ := pure_some h
    exact PyProof.Rows.gt_int (fin0 rfl)
  | GtE =>
    replace h := twoI .GtE h
    obtain ⟨i, j, rfl, rfl, h⟩ := h
    cases ra; cases rb
    obtain ⟨rfl, rfl⟩ := pure_some h
    exact ge_int (fin0 rfl)

theorem IsSeq.has {h : Heap} {l : Addr} {vs : Array Value} {n : Nat} (x : IsSeq h l vs n) : ∃ o, h.get? l = some o ∧ o.data = .seq vs n ∧ (o.cls = .type "list" ∨ o.cls = .type "tuple") := by
  cases x with
  | list x => exact ⟨_, x, rfl, .inl rfl⟩
  | tuple x => exact ⟨_, x, rfl, .inr rfl⟩

theorem idx_some {k : Int} {n j : Nat} (h : idx k n = some j) : j < n ∧ ((0 ≤ k ∧ k < n ∧ j = k.toNat) ∨ (k < 0 ∧ -k ≤ n ∧ j = (k + n).toNat)) := by
  unfold idx at h
  split at h
  · split at h
    · cases h; exact ⟨by omega, .inl ⟨by assumption, by assumption, rfl⟩⟩
    · cases h
  · split at h
    · cases h; exact ⟨by omega, .inr ⟨by omega, by assumption, rfl⟩⟩
    · cases h

theorem getItem_seq {l : Addr} {vs : Array Value} {n : Nat} {k : Int} {t : Tok} {j : Nat} {y : Value} {Q : Value → Shared → Prop} {E : Value → Shared → Prop} (hs : IsSeq s.heap l vs n) (hj : idx k vs.size = some j) (hy : vs[j]? = some y)
    (hb : vs.size < 2 ^ 62) (h : Q y s) : wpAny (model cx.prog cx.w) A (getItem (.ref l) (.int k t)) Q E s := by
  obtain ⟨hlt, hc⟩ := idx_some hj
  cases hs with
  | list hl =>
    rcases hc with ⟨h0, h1, rfl⟩ | ⟨h0, h1, rfl⟩
    · exact wpAny_getItem_list hl.isList h0 (by omega) hy h
    · exact wpAny_getItem_list_neg hl.isList h0 (by omega) (by omega) hy h
  | tuple hl =>
    refine P.getItem_tuple hl (by omega) (by omega) (k := j) ?_ hy h
    rcases hc with ⟨h0, h1, rfl⟩ | ⟨h0, h1, rfl⟩
    · exact seqIndex_of h0 h1
    · exact PySem.seqIndex_neg h0 (by omega)

theorem look_valueAt : ∀ {es : List (Str × AV)} {kvs : List (Str × Value)} {h : Heap} {k : Str} {a : AV}, kvs.map (·.1) = es.map (·.1) → VRs cx ι h (es.map (·.2)) (kvs.map (·.2)) → look es k = some a →
    ∃ v, valueAt kvs k = some v ∧ VR cx ι h a v
  | [], kvs, h, k, a, e, r, hl => by cases hl
  | e :: es, [], h, k, a, he, r, hl => by cases he
  | e :: es, kv :: kvs, h, k, a, he, r, hl => by
    simp only [List.map_cons, List.cons.injEq] at he
    cases r with | cons r1 r2 =>
    unfold look at hl
    unfold valueAt
    rw [List.find?_cons] at hl ⊢
    by_cases hk : e.1 = k
    · have hk' : kv.1 = k := he.1.trans hk
      simp only [hk, decide_true] at hl
      simp only [hk', decide_true]
      simp at hl; subst hl
      exact ⟨_, rfl, r1⟩
    · have hk' : ¬ kv.1 = k := fun q => hk (he.1.symm.trans q)
      simp only [hk, decide_false] at hl
      simp only [hk', decide_false]
      exact look_valueAt he.2 r2 hl

theorem getItem_dict {d : Addr} {kvs : List (Str × Value)} {k : Str} {t : Tok} {v : Value} {Q : Value → Shared → Prop} {E : Value → Shared → Prop} (hd : s.heap.DictOf (strKind cx.prog cx.w) d kvs) (hv : valueAt kvs k = some v)
    (h : Q v { s with toks := s.toks + 1 }) : wpAny (model cx.prog cx.w) A (getItem (.ref d) (.str k t)) Q E s :=
  wpAny_getItem_of (strKind_is _ _ k t) hd.mapOf hv h

/-- whose items are asked for is a list, a tuple or a dict -/
def Subs (s : Shared) (v : Value) : Prop := ∃ T id, s.TypeIs v T ∧ typeLookup (.type T) "__getitem__" = pure (some (.builtin id))
theorem Subs.list {l : Addr} {vs : Array Value} {n : Nat} (hl : IsL s.heap l vs n) : Subs s (.ref l) := ⟨"list", _, ⟨_, hl, rfl⟩, list_getitem_lookup⟩
theorem Subs.tuple {l : Addr} {vs : Array Value} {n : Nat} (hl : IsT s.heap l vs n) : Subs s (.ref l) := ⟨"tuple", _, ⟨_, hl, rfl⟩, F.slot_tuple_getitem.lookup⟩
theorem Subs.seq {l : Addr} {vs : Array Value} {n : Nat} (hl : IsSeq s.heap l vs n) : Subs s (.ref l) := by cases hl with | list x => exact .list x | tuple x => exact .tuple x
theorem Subs.dict {d : Addr} {kvs : List (Str × Value)} (hd : s.heap.DictOf (strKind cx.prog cx.w) d kvs) : Subs s (.ref d) := ⟨"dict", _, hd.mapOf.typeIs, slot_dict_getitem.lookup⟩

theorem pItem_sound {o i c : AV} {v w : Value} {E : Value → Shared → Prop} (S : St cx ι H s) (ro : VR cx ι s.heap o v) (ri : VR cx ι s.heap i w) (h : pItem o i H = some (c, H')) :
    Subs s v ∧ wpAny (model cx.prog cx.w) A (getItem v w) (PostV cx ι s.heap c H') E s := by
  unfold pItem at h
  split at h
  · cases ri
    split at h
    · obtain ⟨h1, rfl⟩ := ofOpt_some h
      cases ro with | cdict hd hn hk hsm hs =>
      obtain ⟨v, hv, rv⟩ := look_valueAt hk hs h1
      exact ⟨.dict hd, getItem_dict hd hv (PostV.same S _ rv)⟩
    · split at h
      · rename_i es hH
        cases ro with | loc hl =>
        obtain ⟨kvs, hd, h1, h2, hs⟩ := S.own _ _ _ hl hH
        cases hk : look es _ with
        | none => rw [hk] at h; cases h
        | some a =>
          rw [hk] at h; cases h
          obtain ⟨v, hv, rv⟩ := look_valueAt h2 hs hk
          exact ⟨.dict hd, getItem_dict hd hv (PostV.same S _ rv)⟩
      · cases h
    · cases h
  · cases ri
    obtain ⟨xs, H1, h1, h2⟩ := bind_some h
    obtain ⟨h3, rfl⟩ := ofOpt_some h2
    obtain ⟨e0, l, vs, n, rfl, hl, hz, hvs⟩ := seqOf_sound S h1 ro
    subst e0
    cases hj : idx _ xs.length with
    | none => rw [hj] at h3; cases h3
    | some j =>
      rw [hj] at h3
      obtain ⟨y, hy, ry⟩ := hvs.get (i := j) h3
      refine ⟨.seq hl, getItem_seq hl (j := j) (by rw [hvs.size]; exact hj) (by rw [← Array.getElem?_toList]; exact hy) (by rw [hvs.size]; have := LIM_is; omega) (PostV.here S ry)⟩
  · cases h
end
end Mine


set_option autoImplicit false
set_option linter.unusedVariables false
namespace Mine
open PySem PyProof.Rows PySem.SeqAt

section
variable {cx : Cx} {A : Around} {ι : List Addr} {H H' : AHeap} {s : Shared}

theorem cut_sound {xs : List AV} {vs : Array Value} {h : Heap} (r : VRs cx ι h xs vs.toList) (lo hi : Option Int) : VRs cx ι h (cut xs lo hi) (slicePick vs lo hi none).toList := by
  rw [slicePick_plain]
  simp only [cut, r.size]
  exact (r.drop _).take _

theorem Subs.push {v : Value} (h : Subs s v) (o : Obj) : Subs { s with heap := s.heap.push o } v := by
  obtain ⟨T, id, hT, r⟩ := h
  refine ⟨T, id, ?_, r⟩
  cases v with
  | ref a => obtain ⟨o', h1, h2⟩ := hT; exact ⟨o', Heap.get?_push_of_some _ h1, h2⟩
  | _ => exact hT

/-- t[:b] of a tuple -/
theorem sliceApplied_upto {sl : Addr} {b n : Nat} {u : Tok} {M' : Model} {E : Value → Shared → Prop} {Q : Int × Int × Nat → Shared → Prop} (hs : s.heap.IsSliceOf sl .none (.int b u) .none) (hb : b ≤ n) (h : Q (0, 1, b) s) :
    wpAny (model cx.prog cx.w) A (Builtin.Slice.sliceApplied (.ref sl) (pure (n : Int))) Q E s := by
  obtain ⟨os, hos, hcs, hds⟩ := id hs
  unfold Builtin.Slice.sliceApplied Builtin.Slice.sliceFields
  refine wpAny_bind (wpAny_bind (wpAny_field hos hds (x := .none) rfl (wpAny_bind (wpAny_field hos hds (x := .int b u) rfl (wpAny_bind (wpAny_field hos hds (x := .none) rfl (wpAny_pure ?_)))))))
  refine wpAny_bind (slicePart_none ?_)
  show wpAny _ _ (if ((1 : Int) == 0) = true then _ else _) _ _ s
  rw [if_neg (by decide)]
  refine wpAny_bind (slicePart_none (wpAny_bind (slicePart_int (wpAny_bind (wpAny_pure ?_)))))
  have e1 : Builtin.Slice.sliceAdjust none (some (b : Int)) 1 (n : Int) = (0, (b : Int)) := by
    unfold Builtin.Slice.sliceAdjust
    have h2 : ¬ ((b : Int) < 0) := by omega
    have h1 : ¬ ((1 : Int) < 0) := by omega
    simp only [h1, h2, if_false]
    congr 1
    omega
  have e2 : Builtin.Slice.slicePlaces 0 (b : Int) 1 = b := by
    unfold Builtin.Slice.slicePlaces
    have h1 : (1 : Int) > 0 := by omega
    simp only [h1, if_true, Int.ediv_one]
    split <;> omega
  show wpAny _ _ (match Builtin.Slice.sliceAdjust none (some (b : Int)) 1 (n : Int) with | (lo, hi) => pure (lo, (1 : Int), Builtin.Slice.slicePlaces lo hi 1)) _ _ s
  rw [e1]
  show wpAny _ _ (pure (0, (1 : Int), Builtin.Slice.slicePlaces 0 (b : Int) 1)) _ _ s
  rw [e2]
  exact wpAny_pure h

theorem pick_upto (xs : Array Value) (b : Nat) : ((List.range b).filterMap fun (k : Nat) => xs[((0 : Int) + (k : Int) * 1).toNat]?).toArray = (xs.toList.take b).toArray := by
  have e : (fun (k : Nat) => xs[((0 : Int) + (k : Int) * 1).toNat]?) = fun k => xs[0 + k]? := by
    funext k
    have : ((0 : Int) + (k : Int) * 1).toNat = 0 + k := by omega
    rw [this]
  rw [e]
  have := pick_run xs 0 b
  rw [List.filterMap_map] at this
  have e2 : ((fun x => xs[x]?) ∘ fun x => 0 + x) = fun k => xs[0 + k]? := rfl
  rw [e2] at this
  rw [this, List.drop_zero]

theorem getItem_tuple_upto {t sl : Addr} {items : Array Value} {b n : Nat} {u : Tok} {E : Value → Shared → Prop} {Q : Value → Shared → Prop} (ht : IsT s.heap t items n) (hs : s.heap.IsSliceOf sl .none (.int b u) .none) (hb : b < items.size)
    (h : Q (.ref s.heap.objs.size) { s with heap := s.heap.push { cls := .type "tuple", data := .seq (items.toList.take b).toArray } })
    (hsz : items.size ≤ sizeLine) : wpAny (model cx.prog cx.w) A (getItem (.ref t) (.ref sl)) Q E s := by
  have hdrop : sizeOk (.seq (items.toList.take b).toArray) := by
    show (items.toList.take b).toArray.size ≤ sizeLine
    rw [List.size_toArray, List.length_take, Array.length_toList]
    omega
  have hT : s.TypeIs (.ref t) "tuple" := ⟨_, ht, rfl⟩
  obtain ⟨os, hos, hcs, hds⟩ := id hs
  have hTs : s.TypeIs (.ref sl) "slice" := ⟨os, hos, hcs⟩
  unfold getItem
  try with_reducible refine wpAny_holding ?_
  first | refine wpAny_bind (wpAny_pure ?_) | skip
  refine wpAny_bind (wpAny_sequenceKey hT (by decide) ?_)
  refine wpAny_bind (wpAny_callSpecial?_slot (name := Str.ofString "__getitem__") hT slot_tuple_getitem
    (wpAny_call_entry slot_tuple_getitem hT entry_tuple_getitem ?_ (args_tuple_getitem _ _)))
  show wpAny _ _ (Builtin.Tuple.tupleItemsOf (.ref t) >>= _) _ _ s
  refine wpAny_bind (tupleItemsOf_ ⟨_, ht, rfl, n, rfl⟩ ?_)
  refine wpAny_bind (wpAny_typeOf hTs ?_)
  rw [if_pos (by decide)]
  refine wpAny_bind (sliceApplied_upto (M' := model cx.prog cx.w) hs (Nat.le_of_lt hb) ?_)
  have hno : ¬ (((0 : Int) == 0 && (1 : Int) == 1 && b == items.size) = true) := by
    have : (b == items.size) = false := by rw [beq_eq_false_iff_ne]; omega
    rw [this]; simp
  show wpAny _ _ (if ((0 : Int) == 0 && (1 : Int) == 1 && b == items.size) = true then _ else _) _ _ s
  rw [if_neg hno, pick_upto items b]
  first
    | exact wpAny_bind (m := Builtin.Tuple.tupleExact _) (wpAny_newObj_type (wpAny_pure ⟨_, rfl, wpAny_pure h⟩) hdrop)
    | exact wpAny_bind (m := Builtin.Tuple.tupleExact _) (wpAny_newObj_type (wpAny_bind (wpAny_pure (wpAny_pure ⟨_, rfl, wpAny_pure h⟩))) hdrop)
    | exact wpAny_bind (wpAny_bind (m := Builtin.Tuple.tupleExact _) (wpAny_newObj_type (wpAny_pure (wpAny_pure ⟨_, rfl, wpAny_pure h⟩)) hdrop))
    | exact wpAny_bind (wpAny_bind (m := Builtin.Tuple.tupleExact _) (wpAny_newObj_type (wpAny_pure ⟨_, rfl, wpAny_pure h⟩) hdrop))

/-- the slice object lies fresh at sl -/
theorem pSlice_sound {mu : Bool} {o c : AV} {v vl vu : Value} {lo hi : Option Int} {E : Value → Shared → Prop} (S : St cx ι H s) (ro : VR cx ι s.heap o v) (pl : IsPart vl lo) (pu : IsPart vu hi) (h : pSlice mu o lo hi H = some (c, H')) :
    let s₁ : Shared := { s with heap := s.heap.push { cls := .type "slice", data := .fields #[vl, vu, .none] } }
    Subs s₁ v ∧ wpAny (model cx.prog cx.w) A (getItem v (.ref s.heap.objs.size)) (PostV cx ι s.heap c H') E s₁ := by
  intro s₁
  have S₁ : St cx ι H s₁ := S.push _
  have e1 : Ext ι ι s.heap s₁.heap := Ext.push _
  unfold pSlice at h
  split at h
  · split at h
    · split at h
      · rename_i xs b hb
        obtain ⟨rfl, rfl⟩ := pure_some h
        cases ro with | tup ht hn hz hs =>
        cases pl
        cases pu with | int _ u =>
        have hsz := hs.size
        have ht₁ : IsT s₁.heap _ _ _ := Heap.get?_push_of_some _ ht
        obtain ⟨k, rfl⟩ := Int.eq_ofNat_of_zero_le hb.1
        refine ⟨.tuple ht₁, getItem_tuple_upto ht₁ (Heap.IsSliceOf.new s.heap .none (.int (k : Int) u) .none) (by rw [hsz]; omega) ?_ (by rw [hsz]; have := LIM_le; omega)⟩
        refine ⟨ι, e1.trans (Ext.push _), S₁.push _, .tup (IsT.new _ _) (fresh_notin S₁) (by rw [List.length_take]; omega) ?_⟩
        simpa using ((hs.mono e1).take k).mono (Ext.push _)
      · cases h
    · cases h
  · obtain ⟨xs, H1, h1, h2⟩ := bind_some h
    obtain ⟨e0, l, vs, n, rfl, hl, hz, hvs⟩ := listOf_sound S h1 ro
    subst e0
    have hl₁ : IsL s₁.heap l vs n := Heap.get?_push_of_some _ hl
    refine ⟨.list hl₁, wpAny_getItem_list_slice hl₁.isList (Heap.IsSliceOf.new ..) pl pu .none (by simp) ?_ (by rw [hvs.size]; have := LIM_le; omega)⟩
    refine PostV.trans e1 (newL_post S₁ h2 (t := s.toks) (fun b q e => Heap.get?_push_of_some _ e) (get_size _) (IsL.new _ _) (cut_sound (hvs.mono e1) lo hi))

theorem rev_pick (items : Array Value) : slicePick items none none (some (-1)) = items.toList.reverse.toArray := PySem.W.krv_pick items

theorem pRev_sound {mu : Bool} {o c : AV} {v : Value} {t : Tok} {E : Value → Shared → Prop} (S : St cx ι H s) (ro : VR cx ι s.heap o v) (h : pRev mu o H = some (c, H')) :
    let s₁ : Shared := { s with heap := s.heap.push { cls := .type "slice", data := .fields #[.none, .none, .int (-1) t] } }
    Subs s₁ v ∧ wpAny (model cx.prog cx.w) A (getItem v (.ref s.heap.objs.size)) (PostV cx ι s.heap c H') E s₁ := by
  intro s₁
  have S₁ : St cx ι H s₁ := S.push _
  have e1 : Ext ι ι s.heap s₁.heap := Ext.push _
  obtain ⟨xs, H1, h1, h2⟩ := bind_some h
  obtain ⟨e0, l, vs, n, rfl, hl, hz, hvs⟩ := listOf_sound S h1 ro
  subst e0
  have hl₁ : IsL s₁.heap l vs n := Heap.get?_push_of_some _ hl
  refine ⟨.list hl₁, wpAny_getItem_list_slice hl₁.isList (Heap.IsSliceOf.new ..) .none .none (.int (-1) t) (by simp) ?_ (by rw [hvs.size]; have := LIM_le; omega)⟩
  refine PostV.trans e1 (newL_post S₁ h2 (t := s.toks) (fun b q e => Heap.get?_push_of_some _ e) (get_size _) (IsL.new _ _) ?_)
  rw [rev_pick]
  simpa using (hvs.mono e1).reverse

/-- a store into a list or a dict -/
theorem stored_put : ∀ {es : List (Str × AV)} {kvs : List (Str × Value)} {h : Heap} {k : Str} {a : AV} {v : Value}, kvs.map (·.1) = es.map (·.1) → VRs cx ι h (es.map (·.2)) (kvs.map (·.2)) → VR cx ι h a v →
    (stored kvs k v).map (·.1) = (put es k a).map (·.1) ∧ VRs cx ι h ((put es k a).map (·.2)) ((stored kvs k v).map (·.2)) := by
  intro es kvs h k a v he r ra
  have hany : kvs.any (fun kv => kv.1 = k) = es.any (fun e => e.1 = k) := by
    have : (kvs.map (·.1)).any (fun x => x = k) = (es.map (·.1)).any (fun x => x = k) := by rw [he]
    rw [List.any_map, List.any_map] at this; exact this
  unfold stored put
  rw [hany]
  split
  · rename_i hc
    clear hc hany
    induction es generalizing kvs with
    | nil => cases kvs with | nil => exact ⟨rfl, .nil⟩ | cons _ _ => cases he
    | cons e es ih =>
      cases kvs with
      | nil => cases he
      | cons kv kvs =>
        simp only [List.map_cons, List.cons.injEq] at he
        cases r with | cons r1 r2 =>
        obtain ⟨i1, i2⟩ := ih he.2 r2
        by_cases hk : e.1 = k
        · have hk' : kv.1 = k := he.1.trans hk
          simp only [List.map_cons, hk, hk', if_true]
          exact ⟨by rw [i1], .cons ra i2⟩
        · have hk' : ¬ kv.1 = k := fun q => hk (he.1.symm.trans q)
          simp only [List.map_cons, hk, hk', if_false]
          exact ⟨by rw [he.1, i1], .cons r1 i2⟩
  · simp only [List.map_append, List.map_cons, List.map_nil]
    exact ⟨by rw [he], r.append (.one ra)⟩

noncomputable def PostU (cx : Cx) (ι : List Addr) (h : Heap) (H' : AHeap) : Unit → Shared → Prop := fun _ s' => ∃ ι', Ext ι ι' h s'.heap ∧ St cx ι' H' s'

theorem put_length (es : List (Str × AV)) (k : Str) (v : AV) : (put es k v).length ≤ es.length + 1 := by
  unfold put; split <;> simp

theorem setItem_isL {l : Addr} {items : Array Value} {n : Nat} {k : Int} {t : Tok} {v : Value} {E : Value → Shared → Prop} {Q : Unit → Shared → Prop} (hl : IsL s.heap l items n)
    (h0 : 0 ≤ k) (hfit : k < 2 ^ 63) (hn : k < items.size) (hQ : ∀ h' n', IsL h' l (items.setIfInBounds k.toNat v) n' → Heap.SameBut l s.heap h' → Q () { s with heap := h' }) :
    wpAny (model cx.prog cx.w) A (setItem (.ref l) (.int k t) v) Q E s := by
  unfold setItem
  try with_reducible refine wpAny_holding ?_
  first | refine wpAny_bind (wpAny_pure ?_) | skip
  refine wpAny_bind (wpAny_sequenceKey hl.isList.typeIs (by decide) ?_)
  refine wpAny_bind (wpAny_callSpecial?_slot (name := Str.ofString "__setitem__") hl.isList.typeIs slot_list_setitem
    (wpAny_call_entry slot_list_setitem hl.isList.typeIs entry_list_setitem ?_ (args_list_setitem _ _ _)))
  show wpAny _ _ (Builtin.List.listSubscript? (.int k t) >>= _) _ _ s
  refine wpAny_bind (wpAny_listSubscript_int (fitsIndex_of h0 hfit) ?_)
  clear hfit
  obtain ⟨j, rfl⟩ := Int.eq_ofNat_of_zero_le h0
  have hj : j < items.size := by omega
  have hx' : items[j]? = some items[j] := Array.getElem?_eq_getElem hj
  show wpAny _ _ ((seqItemAt l j >>= fun r => pure (r.map (j, ·))) >>= _) _ _ s
  refine wpAny_bind (wpAny_bind (wpAny_seqItemAt hl rfl (wpAny_pure ?_)))
  rw [hx']
  show wpAny _ _ (setSeqItemAt l j v >>= _) _ _ s
  refine wpAny_bind (wpAny_setSeqItemAt hl rfl ?_)
  first
    | exact wpAny_bind (wpAny_pure (wpAny_pure ⟨.none, rfl, wpAny_pure (hQ _ _ (IsL.update hl _) (Heap.SameBut.update ..))⟩))
    | exact wpAny_pure ⟨.none, rfl, wpAny_pure (hQ _ _ (IsL.update hl _) (Heap.SameBut.update ..))⟩

theorem pStore_sound {o i a : AV} {v w x : Value} {E : Value → Shared → Prop} (S : St cx ι H s) (ro : VR cx ι s.heap o v) (ri : VR cx ι s.heap i w) (ra : VR cx ι s.heap a x) (h : pStore o i a H = some ((), H')) :
    wpAny (model cx.prog cx.w) A (setItem v w x) (PostU cx ι s.heap H') E s := by
  unfold pStore at h
  split at h
  · rename_i kk
    cases ro with | loc hl =>
    cases ri
    split at h
    · rename_i es hH
      split at h
      · rename_i hlen
        cases h
        obtain ⟨kvs, hd, h1, h2, hs⟩ := S.own _ _ _ hl hH
        refine wpAny_setItem_pairs (strKind_is _ _ _ _) hd (fun h' hd' hsb => ?_) ?_
        · obtain ⟨e, S'⟩ := S.turn (t := s.toks + 1) (o := .dict (put es _ a)) hl (fun b q hb e => (hsb.2 b hb).trans e) (fun e => by
            obtain ⟨q1, q2⟩ := stored_put (k := _) h2 hs ra
            exact ⟨_, hd', ⟨h1.1, by have := put_length es kk a; omega⟩, q1, q2.mono e⟩)
          exact ⟨ι, e, S'⟩
        · have := congrArg List.length h2; simp only [List.length_map] at this; have := LIM_le; omega
      · cases h
    · cases h
  · rename_i kk
    cases ro with | loc hl =>
    cases ri
    split at h
    · rename_i xs hH
      split at h
      · rename_i hk
        cases h
        obtain ⟨vs, n, hL, hz, hs⟩ := S.own _ _ _ hl hH
        have hsz := hs.size
        have hz' := LIM_is
        refine setItem_isL hL hk.1 (by omega) (by omega) fun h' n' hL' hsb => ?_
        obtain ⟨e, S'⟩ := S.turn (t := s.toks) (o := .list (xs.set kk.toNat a)) hl (fun b q hb e => (hsb.2 b hb).trans e) (fun e => by
          refine ⟨_, n', hL', by rw [List.length_set]; exact hz, ?_⟩
          rw [Array.toList_setIfInBounds]
          exact (hs.set _ ra).mono e)
        exact ⟨ι, e, S'⟩
      · cases h
    · cases h
  · cases h

/-- isinstance -/
noncomputable def tyStr : Ty → String
  | .int => "int"
  | .bool => "bool"
  | .str => "str"
  | .tuple => "tuple"
  | .list => "list"

theorem pIsi_some {v : AV} {t : Ty} {b : Bool} (h : pIsi v t H = some (b, H')) : H' = H ∧ pIs1 H v t = some b := by
  unfold pIsi at h
  cases e : pIs1 H v t with
  | none => rw [e] at h; cases h
  | some c => rw [e] at h; cases h; exact ⟨rfl, rfl⟩

theorem pIsi_sound {a : AV} {t : Ty} {b : Bool} {v : Value} {E : Value → Shared → Prop} (S : St cx ι H s) (ra : VR cx ι s.heap a v) (h : pIsi a t H = some (b, H')) :
    wpAny (model cx.prog cx.w) A (call (.builtin "isinstance") [v, .type (tyStr t)]) (PostV cx ι s.heap (.bool b) H') E s := by
  obtain ⟨rfl, h1⟩ := pIsi_some h
  have f0 : ∀ t : Nat, PostV cx ι s.heap (.bool b) H' (.bool b) { s with toks := t } := fun t => PostV.same S t (.bool b)
  have f1 : PostV cx ι s.heap (.bool b) H' (.bool b) s := f0 s.toks
  cases ra with
  | none =>
    cases t <;> cases h1
    · exact IsiPair.NoneType_int (f0 _)
    · exact IsiPair.NoneType_bool (f0 _)
    · exact IsiPair.NoneType_str (f0 _)
    · exact IsiPair.NoneType_tuple (f0 _)
    · exact IsiPair.NoneType_list (f0 _)
  | bool c =>
    cases t <;> cases h1
    · exact IsiPair.bool_int f1
    · exact IsiPair.bool_bool f1
    · exact IsiPair.bool_str (f0 _)
    · exact IsiPair.bool_tuple (f0 _)
    · exact IsiPair.bool_list (f0 _)
  | int i u =>
    cases t <;> cases h1
    · exact IsiPair.int_int f1
    · exact IsiPair.int_bool (f0 _)
    · exact IsiPair.int_str (f0 _)
    · exact IsiPair.int_tuple (f0 _)
    · exact IsiPair.int_list (f0 _)
  | str x u =>
    cases t <;> cases h1
    · exact IsiPair.str_int (f0 _)
    · exact IsiPair.str_bool (f0 _)
    · exact IsiPair.str_str f1
    · exact IsiPair.str_tuple (f0 _)
    · exact IsiPair.str_list (f0 _)
  | tup hl hn hz hs =>
    have hL : s.heap.IsTuple _ _ := ⟨_, hl, rfl, _, rfl⟩
    cases t <;> cases h1
    · exact IsiPair.isTuple_int hL (fun _ _ e => e) (f0 _)
    · exact IsiPair.isTuple_bool hL (fun _ _ e => e) (f0 _)
    · exact IsiPair.isTuple_str hL (fun _ _ e => e) (f0 _)
    · exact IsiPair.isTuple_tuple hL (fun _ _ e => e) f1
    · exact IsiPair.isTuple_list hL (fun _ _ e => e) (f0 _)
  | lst hl hn hz hs =>
    have hL := hl.isList
    cases t <;> cases h1
    · exact IsiPair.isList_int hL (fun _ _ e => e) (f0 _)
    · exact IsiPair.isList_bool hL (fun _ _ e => e) (f0 _)
    · exact IsiPair.isList_str hL (fun _ _ e => e) (f0 _)
    · exact IsiPair.isList_tuple hL (fun _ _ e => e) (f0 _)
    · exact IsiPair.isList_list hL (fun _ _ e => e) f1
  | @loc l0 a0 hl =>
    cases hH : H'[l0]? with
    | none => simp only [pIs1, hH] at h1; cases t <;> cases h1
    | some o =>
      cases o with
      | dict es => simp only [pIs1, hH] at h1; cases t <;> cases h1
      | list xs =>
        obtain ⟨vs, n, hL', _⟩ := S.own _ _ _ hl hH
        have hL := IsL.isList hL'
        cases t <;> (simp only [pIs1, hH, Option.some.injEq] at h1; subst h1)
        · exact IsiPair.isList_int hL (fun _ _ e => e) (f0 _)
        · exact IsiPair.isList_bool hL (fun _ _ e => e) (f0 _)
        · exact IsiPair.isList_str hL (fun _ _ e => e) (f0 _)
        · exact IsiPair.isList_tuple hL (fun _ _ e => e) (f0 _)
        · exact IsiPair.isList_list hL (fun _ _ e => e) f1
  | range hr hn => cases t <;> cases h1
  | cdict hd hn hk hsm hs => cases t <;> cases h1
end
end Mine


set_option autoImplicit false
set_option linter.unusedVariables false
namespace Mine
open PySem PyProof.Rows PySem.SeqAt

section
variable {cx : Cx} {A : Around} {ι : List Addr} {H H' : AHeap} {s : Shared}

theorem VRs.inv1 {a : AV} {vs : List Value} {h : Heap} (x : VRs cx ι h [a] vs) : ∃ v, vs = [v] ∧ VR cx ι h a v := by
  cases x with
  | cons r r0 => cases r0; exact ⟨_, rfl, r⟩
theorem VRs.inv2 {a b : AV} {vs : List Value} {h : Heap} (x : VRs cx ι h [a, b] vs) : ∃ v w, vs = [v, w] ∧ VR cx ι h a v ∧ VR cx ι h b w := by
  cases x with
  | cons r r0 => obtain ⟨w, rfl, r1⟩ := r0.inv1; exact ⟨_, _, rfl, r, r1⟩

noncomputable def biV : BI → Value
  | .len => .builtin "len"
  | .list => .type "list"
  | .tuple => .type "tuple"
  | .dict => .type "dict"
  | .int => .type "int"
  | .range => .type "range"
  | .min => .builtin "min"
  | .max => .builtin "max"
  | .any => .builtin "any"
  | .sorted => .builtin "sorted"

theorem small_of {a b : Int} (h : (small62 a && small62 b) = true) : Builtin.Range.small a b 1 = true ∧ (-(2 ^ 62) ≤ a ∧ a < 2 ^ 62) ∧ (-(2 ^ 62) ≤ b ∧ b < 2 ^ 62) := by
  simp only [small62, Bool.and_eq_true, decide_eq_true_eq] at h
  exact ⟨small_one h.1.1 h.1.2 h.2.1 h.2.2, h.1, h.2⟩
theorem range_count (a b : Int) : Builtin.Range.rangeSize a b 1 = ((b - a).toNat : Nat) := by
  rw [rangeSize_one]; split <;> omega

theorem VRs.of_items {n : Nat} {f : Nat → AV} {acc : Array Value} {h : Heap} (hi : ItemsOf (fun i v => VR cx ι h (f i) v) acc n) : VRs cx ι h ((List.range n).map f) acc.toList := by
  obtain ⟨h1, h2⟩ := hi
  subst h1
  have : ∀ (l : List Value) (k : Nat), (∀ j v, l[j]? = some v → VR cx ι h (f (k + j)) v) → VRs cx ι h ((List.range' k l.length).map f) l := by
    intro l
    induction l with
    | nil => intro k _; exact .nil
    | cons x r ih =>
      intro k hk
      rw [List.length_cons, List.range'_succ, List.map_cons]
      refine .cons (by simpa using hk 0 x rfl) (ih (k + 1) fun j v hj => ?_)
      have := hk (j + 1) v (by simpa using hj)
      rwa [show k + (j + 1) = k + 1 + j by omega] at this
  have := this acc.toList 0 (fun j v hj => by rw [Nat.zero_add]; exact h2 j v (by simpa using hj))
  simpa [List.range_eq_range'] using this

theorem ints_items : ∀ {xs : List AV} {vs : List Value} {is : List Int} {h : Heap}, VRs cx ι h xs vs → intsOf xs = some is → ∃ ps : List (Int × Tok), vs = ps.map (fun p => .int p.1 p.2) ∧ ps.map (·.1) = is
  | _, _, _, _, .nil, e => by cases e; exact ⟨[], rfl, rfl⟩
  | _, _, _, _, .cons r rs, e => by
    cases r <;> first | (cases e; done) | skip
    rename_i i t
    simp only [intsOf] at e
    cases hr : intsOf _ with
    | none => rw [hr] at e; cases e
    | some js =>
      rw [hr] at e; cases e
      obtain ⟨ps, rfl, rfl⟩ := ints_items rs hr
      exact ⟨(i, t) :: ps, rfl, rfl⟩
theorem bools_items : ∀ {xs : List AV} {vs : List Value} {bs : List Bool} {h : Heap}, VRs cx ι h xs vs → boolsOf xs = some bs → vs = bs.map .bool
  | _, _, _, _, .nil, e => by cases e; rfl
  | _, _, _, _, .cons r rs, e => by
    cases r <;> first | (cases e; done) | skip
    simp only [boolsOf] at e
    cases hr : boolsOf _ with
    | none => rw [hr] at e; cases e
    | some js => rw [hr] at e; cases e; rw [List.map_cons, bools_items rs hr]

theorem foldl_max (r : List Int) : ∀ x : Int, (r.foldl (fun m y => if m < y then y else m) x ∈ x :: r) ∧ ∀ y ∈ x :: r, y ≤ r.foldl (fun m y => if m < y then y else m) x := by
  induction r with
  | nil => intro x; simp
  | cons z r ih =>
    intro x
    rw [List.foldl_cons]
    obtain ⟨h1, h2⟩ := ih (if x < z then z else x)
    refine ⟨?_, fun y hy => ?_⟩
    · rcases List.mem_cons.mp h1 with h | h
      · rw [h]; split <;> simp
      · simp [h]
    · have hm := h2 (if x < z then z else x) List.mem_cons_self
      have hx : x ≤ (if x < z then z else x) ∧ z ≤ (if x < z then z else x) := by split <;> omega
      rcases List.mem_cons.mp hy with rfl | hy
      · exact Int.le_trans hx.1 hm
      · rcases List.mem_cons.mp hy with rfl | hy
        · exact Int.le_trans hx.2 hm
        · exact h2 y (List.mem_cons_of_mem _ hy)

theorem intsAre_pairs : ∀ ps : List (Int × Tok), IntsAre (ps.map fun p => .int p.1 p.2) (ps.map (·.1))
  | [] => .nil
  | p :: r => .cons _ _ (intsAre_pairs r)
theorem vrs_ints : ∀ {vs : List Value} {ns : List Int} {h : Heap}, IntsAre vs ns → VRs cx ι h (ns.map .int) vs
  | _, _, _, .nil => .nil
  | _, _, _, .cons _ _ r => .cons (.int _ _) (vrs_ints r)
theorem perm_sorted {l l' : List Int} (hp : l.Perm l') (h : l.Pairwise (· ≤ ·)) (h' : l'.Pairwise (· ≤ ·)) : l = l' :=
  hp.eq_of_pairwise (le := (· ≤ ·)) (fun a b _ _ h1 h2 => Int.le_antisymm h1 h2) h h'

theorem one_some {vs : List AV} {f : AV → M AV} {H : AHeap} {r : AV × AHeap} (h : one vs f H = some r) : ∃ v, vs = [v] ∧ f v H = some r := by
  match vs, h with
  | [v], h => exact ⟨v, rfl, h⟩
  | [], h => exact (stuck_some (H := H) h).elim
  | _ :: _ :: _, h => exact (stuck_some (H := H) h).elim
theorem bList_some {mu : Bool} {v : AV} {H : AHeap} {r : AV × AHeap} (h : bList mu v H = some r) : (∃ a b, v = .range a b ∧ (if small62 a && small62 b then newL mu (rangeL a b) else stuck : M AV) H = some r) ∨ (do let xs ← seqOf v; newL mu xs : M AV) H = some r := by
  cases v with
  | range a b => exact .inl ⟨a, b, rfl, h⟩
  | _ => exact .inr h
theorem bRange_some {vs : List AV} {H : AHeap} {r : AV × AHeap} (h : bRange vs H = some r) : (∃ n, vs = [.int n] ∧ r = (.range 0 n, H)) ∨ ∃ a b, vs = [.int a, .int b] ∧ r = (.range a b, H) := by
  match vs, h with
  | [v], h =>
    have h' : (match asI v with | some n => pure (.range 0 n) | none => stuck : M AV) H = some r := h
    cases hv : asI v with
    | none => simp only [hv] at h'; exact (stuck_some (H := H) h').elim
    | some n => simp only [hv] at h'; cases h'; exact .inl ⟨n, by rw [asI_some hv], rfl⟩
  | [v, w], h =>
    have h' : (match asI v with | some a => (match asI w with | some b => pure (.range a b) | none => stuck) | none => stuck : M AV) H = some r := h
    cases hv : asI v with
    | none => simp only [hv] at h'; exact (stuck_some (H := H) h').elim
    | some a =>
      cases hw : asI w with
      | none => simp only [hv, hw] at h'; exact (stuck_some (H := H) h').elim
      | some b => simp only [hv, hw] at h'; cases h'; exact .inr ⟨a, b, by rw [asI_some hv, asI_some hw], rfl⟩
  | [], h => exact (stuck_some (H := H) h).elim
  | _ :: _ :: _ :: _, h => exact (stuck_some (H := H) h).elim
theorem bMin_some {vs : List AV} {H : AHeap} {r : AV × AHeap} (h : bMin vs H = some r) : ∃ a b, vs = [.int a, .int b] ∧ r = (.int (if b < a then b else a), H) := by
  match vs, h with
  | [v, w], h =>
    have h' : (match asI v with | some a => (match asI w with | some b => pure (.int (if b < a then b else a)) | none => stuck) | none => stuck : M AV) H = some r := h
    cases hv : asI v with
    | none => simp only [hv] at h'; exact (stuck_some (H := H) h').elim
    | some a =>
      cases hw : asI w with
      | none => simp only [hv, hw] at h'; exact (stuck_some (H := H) h').elim
      | some b => simp only [hv, hw] at h'; cases h'; exact ⟨a, b, by rw [asI_some hv, asI_some hw], rfl⟩
  | [], h => exact (stuck_some (H := H) h).elim
  | [_], h => exact (stuck_some (H := H) h).elim
  | _ :: _ :: _ :: _, h => exact (stuck_some (H := H) h).elim

theorem pBI_sound {mu : Bool} {b : BI} {as : List AV} {c : AV} {vs : List Value} {E : Value → Shared → Prop} (hh : A.handled = none) (S : St cx ι H s) (rs : VRs cx ι s.heap as vs) (h : pBI mu b as H = some (c, H')) :
    wpAny (model cx.prog cx.w) A (PySem.call (biV b) vs) (PostV cx ι s.heap c H') E s := by
  have hLIM := LIM_is
  have hSL := LIM_le
  cases b with
  | len =>
    replace h := one_some h
    obtain ⟨w0, rfl, h⟩ := h
    obtain ⟨v0, rfl, r⟩ := rs.inv1
    obtain ⟨xs, H1, h1, h2⟩ := bind_some h
    obtain ⟨rfl, rfl⟩ := pure_some h2
    obtain ⟨e0, l, ws, n, rfl, hl, hz, hvs⟩ := seqOf_sound S h1 r
    subst e0
    have hsz := hvs.size
    cases hl with
    | list hl => exact PySem.Calls.call_len_list hl.isList (by omega) (by rw [hsz]; exact PostV.same S _ (.int _ _))
    | tuple hl => exact P.len_tuple hl (by omega) (by rw [hsz]; exact PostV.same S _ (.int _ _))
  | list =>
    replace h := one_some h
    obtain ⟨w0, rfl, h⟩ := h
    replace h := bList_some h
    rcases h with ⟨ra, rb, rfl, h⟩ | h
    · obtain ⟨v0, rfl, r⟩ := rs.inv1
      cases r with | range hr hn =>
      split at h
      · rename_i hsm
        obtain ⟨q1, q2, q3⟩ := small_of hsm
        have hlen := newL_len h
        rw [rangeL, List.length_map, List.length_range] at hlen
        refine call_list_range hh hr q1 (range_count _ _) (by omega) fun h' tk acc' c' hk hL hit => ?_
        refine newL_post S h hk (get_size _) hL ?_
        refine VRs.of_items (f := fun (k : Nat) => .int (ra + (k : Int))) ⟨hit.1, fun j v hj => ?_⟩
        obtain ⟨t, rfl⟩ := hit.2 j v hj
        rw [Int.mul_one]; exact .int _ _
      · cases h
    · obtain ⟨v0, rfl, r⟩ := rs.inv1
      obtain ⟨xs, H1, h1, h2⟩ := bind_some h
      obtain ⟨e0, l, ws, n, rfl, hl, hz, hvs⟩ := seqOf_sound S h1 r
      subst e0
      have hsz := hvs.size
      obtain ⟨o, ho, hd, hc⟩ := hl.has
      rcases hc with hc | hc
      · exact call_list_seq l (.inl rfl) ho hc hd (fun h' c' hk hL => newL_post S h2 (t := s.toks) hk (get_size _) hL hvs) (by omega)
      · exact call_list_seq l (.inr rfl) ho hc hd (fun h' c' hk hL => newL_post S h2 (t := s.toks) hk (get_size _) hL hvs) (by omega)
  | tuple =>
    replace h := one_some h
    obtain ⟨w0, rfl, h⟩ := h
    obtain ⟨v0, rfl, r⟩ := rs.inv1
    obtain ⟨xs, H1, h1, h2⟩ := bind_some h
    obtain ⟨rfl, rfl⟩ := pure_some h2
    obtain ⟨e0, l, ws, n, rfl, hl, hz, hvs⟩ := listOf_sound S h1 r
    subst e0
    have hsz := hvs.size
    refine call_tuple_list hl.isList (fun h' hk => ?_) (by omega)
    have S₁ : St cx ι H' { s with heap := h' } := S.keeps (t := s.toks) hk
    exact ⟨ι, (Ext.keeps hk).trans (Ext.push _), S₁.push _, .tup (IsT.new _ _) (fresh_notin S₁) hz ((hvs.mono (Ext.keeps hk)).mono (Ext.push _))⟩
  | dict =>
    replace h := one_some h
    obtain ⟨w0, rfl, h⟩ := h
    obtain ⟨v0, rfl, r⟩ := rs.inv1
    cases r with
    | @loc l la hl =>
      have h' : (match H[l]? with | some (.dict es) => some (AV.loc H.length, H ++ [.dict es]) | _ => none) = some (c, H') := h
      split at h'
      · rename_i es hH
        cases h'
        obtain ⟨kvs, hd, h1, h2, hs⟩ := S.own _ _ _ hl hH
        have hln := congrArg List.length h2
        simp only [List.length_map] at hln
        refine kt_call_dict h1.1 hd (by omega) fun h' hd' hsb => ?_
        have hk : ∀ b q, s.heap.get? b = some q → h'.get? b = some q := fun b q e => (hsb.2 b (Nat.ne_of_lt (Heap.lt_size e))).trans (Heap.get?_push_of_some _ e)
        obtain ⟨e, S'⟩ := S.alloc (t := s.toks) (o := .dict es) hk (get_size _) (fun e => ⟨kvs, hd', ⟨S.not_sys (get_size _), h1.2⟩, h2, hs.mono e⟩)
        exact ⟨_, e, S', .loc (by rw [List.getElem?_append_right (by rw [S.len]; exact Nat.le_refl _)]; simp [S.len])⟩
      · cases h'
    | _ => exact (stuck_some (H := H) h).elim
  | int =>
    replace h := one_some h
    obtain ⟨w0, rfl, h⟩ := h
    obtain ⟨v0, rfl, r⟩ := rs.inv1
    cases r with
    | bool b0 =>
      obtain ⟨rfl, rfl⟩ := pure_some h
      exact call_int_bool (PostV.same S _ (.int _ _))
    | _ => exact (stuck_some (H := H) h).elim
  | range =>
    replace h := bRange_some h
    rcases h with ⟨n0, rfl, e⟩ | ⟨a0, b0, rfl, e⟩
    · cases e
      obtain ⟨v0, rfl, r⟩ := rs.inv1
      cases r
      exact call_range_1 ⟨ι, Ext.push _, (S.push _).tok _, .range (IsRange.new ..) (fresh_notin S)⟩
    · cases e
      obtain ⟨v0, v1, rfl, r, r1⟩ := rs.inv2
      cases r; cases r1
      exact call_range_2 ⟨ι, Ext.push _, (S.push _).tok _, .range (IsRange.new ..) (fresh_notin S)⟩
  | min =>
    replace h := bMin_some h
    obtain ⟨a0, b0, rfl, e⟩ := h
    cases e
    obtain ⟨v0, v1, rfl, r, r1⟩ := rs.inv2
    cases r; cases r1
    refine min_two_ints hh fun h' tk hk => ?_
    refine ⟨ι, Ext.keeps hk, S.keeps hk, ?_⟩
    split <;> exact .int _ _
  | max =>
    replace h := one_some h
    obtain ⟨w0, rfl, h⟩ := h
    obtain ⟨v0, rfl, r⟩ := rs.inv1
    obtain ⟨xs, H1, h1, h2⟩ := bind_some h
    obtain ⟨is, H2, h3, h4⟩ := bind_some h2
    obtain ⟨m, H3, h5, h6⟩ := bind_some h4
    obtain ⟨rfl, rfl⟩ := pure_some h6
    obtain ⟨h7, rfl⟩ := ofOpt_some h5
    obtain ⟨h8, rfl⟩ := ofOpt_some h3
    obtain ⟨e0, l, ws, n, rfl, hl, hz, hvs⟩ := listOf_sound S h1 r
    subst e0
    obtain ⟨ps, hps, his⟩ := ints_items hvs h8
    have hws : ws = intItems ps.toArray := by
      apply Array.ext'
      rw [hps]; simp [intItems]
    rw [hws] at hl
    cases is with
    | nil => cases h7
    | cons i0 is =>
      have hne : 0 < ps.toArray.size := by
        have := congrArg List.length his; simp at this; simp; omega
      refine max_intList hh hl.isList hne fun v h' tk hv hk => ?_
      obtain ⟨t, rfl⟩ := intItems_at hv
      obtain ⟨q1, q2⟩ := argBest_gt (numAt ps.toArray) (ps.toArray.size - 1)
      simp only [maxI, Option.some.injEq] at h7
      obtain ⟨m1, m2⟩ := foldl_max is i0
      rw [h7] at m1 m2
      have hget : ∀ j, j < ps.length → numAt ps.toArray j ∈ i0 :: is := fun j hj => by
        rw [numAt_eq, ← his]
        simp only [List.toList_toArray]
        rw [List.getD_eq_getElem?_getD, List.getElem?_eq_getElem (by simpa using hj), Option.getD_some]
        exact List.getElem_mem _
      have hm : numAt ps.toArray (argBest (fun i j => decide (numAt ps.toArray i > numAt ps.toArray j)) (ps.toArray.size - 1)) = m := by
        apply Int.le_antisymm
        · exact m2 _ (hget _ (by simp at q1 hne ⊢; omega))
        · rw [← his] at m1
          obtain ⟨j, hj, e⟩ := List.mem_iff_getElem.mp m1
          have hj' : j < ps.length := by simpa using hj
          have := q2 j (by simp; omega)
          rw [numAt_eq] at this
          simp only [List.toList_toArray] at this
          rw [List.getD_eq_getElem?_getD, List.getElem?_eq_getElem hj, e] at this
          exact this
      rw [hm]
      exact ⟨ι, Ext.keeps hk, S.keeps hk, .int _ _⟩
  | any =>
    replace h := one_some h
    obtain ⟨w0, rfl, h⟩ := h
    obtain ⟨v0, rfl, r⟩ := rs.inv1
    obtain ⟨xs, H1, h1, h2⟩ := bind_some h
    obtain ⟨bs, H2, h3, h4⟩ := bind_some h2
    obtain ⟨rfl, rfl⟩ := pure_some h4
    obtain ⟨h8, rfl⟩ := ofOpt_some h3
    obtain ⟨e0, l, ws, n, rfl, hl, hz, hvs⟩ := listOf_sound S h1 r
    subst e0
    have hb := bools_items hvs h8
    have hlt : l < s.heap.objs.size := Heap.lt_size hl
    refine call_any_walk (wpAny_pyIter_list hl.isList ?_)
    refine ⟨s.heap.objs.size, [s.heap.objs.size, l], [s.heap.objs.size], ws.size, _, _, fun i => (bs[i]?).getD false, rfl, Walks.list (A := A.in1) hh _ l (Nat.ne_of_lt hlt) ws,
      ⟨⟨_, Heap.get?_push_size _ rfl, rfl, rfl⟩, hl.isList.push _⟩, fun i v s' Q' E' hP hQ => ?_, fun h' tk hk => ?_⟩
    · have hP' : ws.toList[i]? = some v := by rw [Array.getElem?_toList]; exact hP
      rw [hb, List.getElem?_map] at hP'
      cases hbi : bs[i]? with
      | none => rw [hbi] at hP'; cases hP'
      | some q =>
        rw [hbi] at hP'
        dsimp only at hQ
        rw [hbi] at hQ
        cases hP'
        exact wpAny_truthy_bool hQ
    · have hk' : ∀ b q, s.heap.get? b = some q → h'.get? b = some q := fun b q e => hk b q (by
        intro hm; rw [List.mem_singleton.mp hm] at e; exact Nat.lt_irrefl _ (Heap.lt_size e)) (Heap.get?_push_of_some _ e)
      have e : ((List.range ws.size).any fun i => (bs[i]?).getD false) = bs.any id := by
        have hl' : ws.size = bs.length := by have := congrArg List.length hb; simpa using this
        rw [hl', Bool.eq_iff_iff, List.any_eq_true, List.any_eq_true]
        constructor
        · rintro ⟨i, hi, hx⟩
          have hi' := List.mem_range.mp hi
          rw [List.getElem?_eq_getElem hi'] at hx
          exact ⟨bs[i], List.getElem_mem hi', hx⟩
        · rintro ⟨q, hq, hx⟩
          obtain ⟨i, hi, rfl⟩ := List.mem_iff_getElem.mp hq
          exact ⟨i, List.mem_range.mpr hi, by rw [List.getElem?_eq_getElem hi]; exact hx⟩
      rw [e]
      exact ⟨ι, Ext.keeps hk', S.keeps hk', .bool _⟩
  | sorted =>
    replace h := one_some h
    obtain ⟨w0, rfl, h⟩ := h
    obtain ⟨v0, rfl, r⟩ := rs.inv1
    obtain ⟨xs, H1, h1, h2⟩ := bind_some h
    obtain ⟨is, H2, h3, h4⟩ := bind_some h2
    obtain ⟨h8, rfl⟩ := ofOpt_some h3
    obtain ⟨e0, l, ws, n, rfl, hl, hz, hvs⟩ := listOf_sound S h1 r
    subst e0
    split at h4
    · rename_i h64
      obtain ⟨ps, hps, his⟩ := ints_items hvs h8
      have hI : IntsAre ws.toList is := by
        rw [hps, ← his]; exact intsAre_pairs ps
      have hl' : s.heap.IsList l ws.toList.toArray := by simpa using hl.isList
      refine sorted_ints hl' hI (by rw [hps, List.length_map]; have := congrArg List.length his; rw [List.length_map] at this; omega) fun out ns' a1 a2 a3 => ?_
      obtain ⟨e, he⟩ := sortedAll_at s.heap ws.toList out
      have hns : ns' = sortI is := perm_sorted (a2.trans (List.mergeSort_perm _ _).symm) a3 (by
        have := List.pairwise_mergeSort (le := fun (a b : Int) => decide (a ≤ b)) (by intro a b c; simp; omega) (by intro a b; simp; omega) is
        simpa [sortI] using this)
      have hget : s.heap.get? (s.heap.objs.size + 1) = none := by
        cases e : s.heap.get? (s.heap.objs.size + 1) with
        | none => rfl
        | some o => exact absurd (Heap.lt_size e) (Nat.not_lt.mpr (Nat.le_succ _))
      refine newL_post S h4 (t := s.toks) (fun b q => sortedAll_old) hget (vs := out) (n := e) he ?_
      rw [← hns]
      exact vrs_ints a1
    · cases h4
end
end Mine


set_option autoImplicit false
set_option linter.unusedVariables false
namespace Mine
open PySem PyProof.Rows PySem.SeqAt

def EvOK (cx : Cx) (A : Around) (env : Env) (I : List Addr → Heap → Prop) (ev : Expr → M AV) : Prop :=
  ∀ (e : Expr) (ι : List Addr) (H : AHeap) (s : Shared) (a : AV) (H' : AHeap), St cx ι H s → I ι s.heap → ev e H = some (a, H') → wpAny (model cx.prog cx.w) A (eval e env) (PostV cx ι s.heap a H') noE s
def Stable (I : List Addr → Heap → Prop) : Prop := ∀ ι ι' h h', I ι h → Ext ι ι' h h' → I ι' h'

section
variable {cx : Cx} {A : Around} {ι : List Addr} {H H' : AHeap} {s : Shared} {env : Env} {I : List Addr → Heap → Prop} {ev : Expr → M AV}

def PostVs (cx : Cx) (ι : List Addr) (h : Heap) (as : List AV) (H' : AHeap) : List Value → Shared → Prop :=
  fun vs s' => ∃ ι', Ext ι ι' h s'.heap ∧ St cx ι' H' s' ∧ VRs cx ι' s'.heap as vs

theorem starEach_cons {e : Expr} {r : List Expr} (h : ∀ x p, e ≠ .Starred x p) : starEach (e :: r) env = (false, eval e env) :: starEach r env := by
  cases e <;> first | rfl | exact absurd rfl (h _ _)

theorem each_sound (hS : ∀ x p H, ev (.Starred x p) H = none) (hst : Stable I) (hev : EvOK cx A env I ev) (pos : Pos) : ∀ (es : List Expr) {ι : List Addr} {H H' : AHeap} {s : Shared} {as : List AV}, St cx ι H s → I ι s.heap → evEach ev es H = some (as, H') →
    wpAny (model cx.prog cx.w) A (spliced (backTo pos (starEach es env))) (PostVs cx ι s.heap as H') noE s
  | [], ι, H, H', s, as, S, i, h => by
    obtain ⟨rfl, rfl⟩ := pure_some h
    exact Calls.spliced_nil ⟨ι, Ext.refl _ _, S, .nil⟩
  | e :: r, ι, H, H', s, as, S, i, h => by
    obtain ⟨a, H1, h1, h2⟩ := bind_some h
    obtain ⟨bs, H2, h3, h4⟩ := bind_some h2
    obtain ⟨rfl, rfl⟩ := pure_some h4
    have hne : ∀ x p, e ≠ .Starred x p := fun x p q => by subst q; rw [hS] at h1; cases h1
    rw [starEach_cons hne]
    show wpAny _ _ (spliced ((false, eval e env) :: backTo pos (starEach r env))) _ _ _
    refine Calls.spliced_cons (wpAny_mono (hev e ι H s a H1 S i h1) (fun v s₁ h₁ => ?_) fun _ _ x => x)
    obtain ⟨ι₁, e1, S₁, r1⟩ := h₁
    refine wpAny_mono (each_sound hS hst hev pos r S₁ (hst _ _ _ _ i e1) h3) (fun vs s₂ h₂ => ?_) fun _ _ x => x
    obtain ⟨ι₂, e2, S₂, r2⟩ := h₂
    exact ⟨ι₂, e1.trans e2, S₂, .cons (r1.mono e2) r2⟩

theorem truth_some {a : AV} {b : Bool} (h : truth a H = some (b, H')) : a = .bool b ∧ H' = H := by
  cases a <;> first | (cases h; done) | skip
  obtain ⟨rfl, rfl⟩ := pure_some h
  exact ⟨rfl, rfl⟩

theorem bOp_sound (hst : Stable I) (hev : EvOK cx A env I ev) (pos : Pos) (op : BoolOp) : ∀ (es : List Expr) {ι : List Addr} {H H' : AHeap} {s : Shared} {a : AV}, St cx ι H s → I ι s.heap → bOp ev op es H = some (a, H') →
    wpAny (model cx.prog cx.w) A (boolOp pos op (evalEach es env)) (PostV cx ι s.heap a H') noE s
  | [], ι, H, H', s, a, S, i, h => by cases h
  | [e], ι, H, H', s, a, S, i, h => hev e ι H s a H' S i h
  | e :: e2 :: r, ι, H, H', s, a, S, i, h => by
    obtain ⟨v, H1, h1, h2⟩ := bind_some h
    obtain ⟨t, H2, h3, h4⟩ := bind_some h2
    obtain ⟨rfl, rfl⟩ := truth_some h3
    show wpAny _ _ (boolOp pos op (eval e env :: eval e2 env :: evalEach r env)) _ _ _
    rw [boolOp]
    refine wpAny_bind (wpAny_mono (hev e ι H s _ _ S i h1) (fun v s₁ h₁ => ?_) fun _ _ x => x)
    · obtain ⟨ι₁, e1, S₁, r1⟩ := h₁
      cases r1
      refine wpAny_bind (wpAny_standAt (wpAny_bind (wpAny_holding (wpAny_truthy_bool ?_))))
      have hrec : bOp ev op (e2 :: r) H2 = some (a, H') → wpAny (model cx.prog cx.w) A (boolOp pos op (evalEach (e2 :: r) env)) (PostV cx ι s.heap a H') noE s₁ := fun hq =>
        wpAny_mono (bOp_sound hst hev pos op (e2 :: r) S₁ (hst _ _ _ _ i e1) hq) (fun v s₂ h₂ => h₂.trans e1) fun _ _ x => x
      cases op <;> cases t
      · obtain ⟨rfl, rfl⟩ := pure_some h4; exact wpAny_pure ⟨ι₁, e1, S₁, .bool _⟩
      · exact hrec h4
      · exact hrec h4
      · obtain ⟨rfl, rfl⟩ := pure_some h4; exact wpAny_pure ⟨ι₁, e1, S₁, .bool _⟩
    · intro hx; cases hx

theorem markedBehind {op : CmpOp} {e : Expr} {t : Sem Value} (h : ∀ es k p, e ≠ .Set es k p) : markedBehindIn op e t = t := by
  unfold markedBehindIn
  cases e <;> first | rfl | exact absurd rfl (h _ _ _)
theorem marked_cons {op op' : CmpOp} {ops : List CmpOp} {e e' : Expr} {es : List Expr} : markedEach (op :: op' :: ops) (e :: e' :: es) (evalEach (e :: e' :: es) env) = eval e env :: markedEach (op' :: ops) (e' :: es) (evalEach (e' :: es) env) := rfl

def PostB (cx : Cx) (ι : List Addr) (h : Heap) (b : Bool) (H' : AHeap) : Bool → Shared → Prop := fun c s' => c = b ∧ ∃ ι', Ext ι ι' h s'.heap ∧ St cx ι' H' s'


theorem compareChain_two {pos : Pos} {v : Value} {op op' : CmpOp} {ops : List CmpOp} {x : Sem Value} {T : List (Sem Value)} : compareChain pos v (op :: op' :: ops) (x :: T) = (do
    let rv ← holding [v] x
    standAt pos
    let c ← holding [v, rv] (compareOp op v rv)
    release [v, rv] [c]
    if ← holding [c, rv] (truthy c) then compareChain pos rv (op' :: ops) T else pure c) := by
  rw [compareChain]
  intro q
  cases q
theorem testChain_two {pos : Pos} {v : Value} {op op' : CmpOp} {ops : List CmpOp} {x : Sem Value} {T : List (Sem Value)} : testChain pos v (op :: op' :: ops) (x :: T) = (do
    let rv ← holding [v] x
    standAt pos
    let c ← holding [v, rv] (compareOp op v rv)
    release [v, rv] [c]
    if ← holding [c, rv] (truthy c) then testChain pos rv (op' :: ops) T else pure false) := by
  rw [testChain]
  intro q
  cases q

theorem chain_sound (R : Room A) (hSet : ∀ es k p H, ev (.Set es k p) H = none) (hst : Stable I) (hev : EvOK cx A env I ev) (pos : Pos) : ∀ (ops : List CmpOp) (es : List Expr) {ι : List Addr} {H H' : AHeap} {s : Shared} {a : AV} {v : Value} {b : Bool},
    St cx ι H s → I ι s.heap → VR cx ι s.heap a v → chain ev a ops es H = some (b, H') →
    wpAny (model cx.prog cx.w) A (compareChain pos v ops (markedEach ops es (evalEach es env))) (PostV cx ι s.heap (.bool b) H') noE s
  | [], _, ι, H, H', s, a, v, b, S, i, r, h => by cases h
  | [op], [], ι, H, H', s, a, v, b, S, i, r, h => by cases h
  | [op], _ :: _ :: _, ι, H, H', s, a, v, b, S, i, r, h => by cases h
  | _ :: _ :: _, [], ι, H, H', s, a, v, b, S, i, r, h => by cases h
  | op :: op' :: ops, [e], ι, H, H', s, a, v, b, S, i, r, h => by cases h
  | [op], [e], ι, H, H', s, a, v, b, S, i, r, h => by
    obtain ⟨w, H1, h1, h2⟩ := bind_some h
    have hne : ∀ es k p, e ≠ .Set es k p := fun es k p q => by subst q; rw [hSet] at h1; cases h1
    show wpAny _ _ (compareChain pos v [op] [markedBehindIn op e (eval e env)]) _ _ _
    rw [markedBehind hne, compareChain]
    refine wpAny_bind (wpAny_holding (wpAny_mono (hev e ι H s _ _ S i h1) (fun w' s₁ h₁ => ?_) fun _ _ x => x))
    obtain ⟨ι₁, e1, S₁, r1⟩ := h₁
    refine wpAny_bind (wpAny_standAt (wpAny_operating ?_))
    exact wpAny_mono (pCmp_sound R S₁ (r.mono e1) r1 h2) (fun x s₂ h₂ => h₂.2.trans e1) fun _ _ x => x
  | op :: op' :: ops, e :: e' :: es, ι, H, H', s, a, v, b, S, i, r, h => by
    obtain ⟨w, H1, h1, h2⟩ := bind_some h
    obtain ⟨t, H2, h3, h4⟩ := bind_some h2
    rw [marked_cons]
    generalize hT : markedEach (op' :: ops) (e' :: es) (evalEach (e' :: es) env) = T
    rw [compareChain_two]
    refine wpAny_bind (wpAny_holding (wpAny_mono (hev e ι H s _ _ S i h1) (fun w' s₁ h₁ => ?_) fun _ _ x => x))
    obtain ⟨ι₁, e1, S₁, r1⟩ := h₁
    refine wpAny_bind (wpAny_standAt (wpAny_bind (wpAny_holding (wpAny_mono (pCmp_sound R S₁ (r.mono e1) r1 h3) (fun x s₂ h₂ => ?_) fun _ _ x => x))))
    obtain ⟨rfl, ι₂, e2, S₂, r2⟩ := h₂
    refine wpAny_bind (wpAny_release' (wpAny_bind (wpAny_holding (wpAny_truthy_bool ?_))))
    cases t with
    | true =>
      simp only [if_true]
      rw [← hT]
      exact wpAny_mono (chain_sound R hSet hst hev pos (op' :: ops) (e' :: es) S₂ (hst _ _ _ _ i (e1.trans e2)) (r1.mono e2) h4) (fun x s₃ h₃ => h₃.trans (e1.trans e2)) fun _ _ x => x
    | false =>
      obtain ⟨rfl, rfl⟩ := pure_some h4
      simp only [Bool.false_eq_true, if_false]
      exact wpAny_pure ⟨ι₂, e1.trans e2, S₂, .bool _⟩

theorem testChain_sound (R : Room A) (hSet : ∀ es k p H, ev (.Set es k p) H = none) (hst : Stable I) (hev : EvOK cx A env I ev) (pos : Pos) : ∀ (ops : List CmpOp) (es : List Expr) {ι : List Addr} {H H' : AHeap} {s : Shared} {a : AV} {v : Value} {b : Bool},
    St cx ι H s → I ι s.heap → VR cx ι s.heap a v → chain ev a ops es H = some (b, H') →
    wpAny (model cx.prog cx.w) A (testChain pos v ops (markedEach ops es (evalEach es env))) (PostB cx ι s.heap b H') noE s
  | [], _, ι, H, H', s, a, v, b, S, i, r, h => by cases h
  | [op], [], ι, H, H', s, a, v, b, S, i, r, h => by cases h
  | [op], _ :: _ :: _, ι, H, H', s, a, v, b, S, i, r, h => by cases h
  | _ :: _ :: _, [], ι, H, H', s, a, v, b, S, i, r, h => by cases h
  | op :: op' :: ops, [e], ι, H, H', s, a, v, b, S, i, r, h => by cases h
  | [op], [e], ι, H, H', s, a, v, b, S, i, r, h => by
    obtain ⟨w, H1, h1, h2⟩ := bind_some h
    have hne : ∀ es k p, e ≠ .Set es k p := fun es k p q => by subst q; rw [hSet] at h1; cases h1
    show wpAny _ _ (testChain pos v [op] [markedBehindIn op e (eval e env)]) _ _ _
    rw [markedBehind hne, testChain]
    refine wpAny_bind (wpAny_holding (wpAny_mono (hev e ι H s _ _ S i h1) (fun w' s₁ h₁ => ?_) fun _ _ x => x))
    obtain ⟨ι₁, e1, S₁, r1⟩ := h₁
    refine wpAny_bind (wpAny_standAt (wpAny_bind (wpAny_operating ?_)))
    refine wpAny_mono (pCmp_sound R S₁ (r.mono e1) r1 h2) (fun x s₂ h₂ => ?_) fun _ _ x => x
    obtain ⟨rfl, ι₂, e2, S₂, r2⟩ := h₂
    exact wpAny_holding (wpAny_truthy_bool ⟨rfl, ι₂, e1.trans e2, S₂⟩)
  | op :: op' :: ops, e :: e' :: es, ι, H, H', s, a, v, b, S, i, r, h => by
    obtain ⟨w, H1, h1, h2⟩ := bind_some h
    obtain ⟨t, H2, h3, h4⟩ := bind_some h2
    rw [marked_cons]
    generalize hT : markedEach (op' :: ops) (e' :: es) (evalEach (e' :: es) env) = T
    rw [testChain_two]
    refine wpAny_bind (wpAny_holding (wpAny_mono (hev e ι H s _ _ S i h1) (fun w' s₁ h₁ => ?_) fun _ _ x => x))
    obtain ⟨ι₁, e1, S₁, r1⟩ := h₁
    refine wpAny_bind (wpAny_standAt (wpAny_bind (wpAny_holding (wpAny_mono (pCmp_sound R S₁ (r.mono e1) r1 h3) (fun x s₂ h₂ => ?_) fun _ _ x => x))))
    obtain ⟨rfl, ι₂, e2, S₂, r2⟩ := h₂
    refine wpAny_bind (wpAny_release' (wpAny_bind (wpAny_holding (wpAny_truthy_bool ?_))))
    cases t with
    | true =>
      simp only [if_true]
      rw [← hT]
      refine wpAny_mono (testChain_sound R hSet hst hev pos (op' :: ops) (e' :: es) S₂ (hst _ _ _ _ i (e1.trans e2)) (r1.mono e2) h4) (fun x s₃ h₃ => ?_) fun _ _ x => x
      obtain ⟨rfl, ι₃, e3, S₃⟩ := h₃
      exact ⟨rfl, ι₃, (e1.trans e2).trans e3, S₃⟩
    | false =>
      obtain ⟨rfl, rfl⟩ := pure_some h4
      simp only [Bool.false_eq_true, if_false]
      exact wpAny_pure ⟨rfl, ι₂, e1.trans e2, S₂⟩

/-- a test, as if, while and comprehensions ask it -/
def TeOK (cx : Cx) (A : Around) (env : Env) (I : List Addr → Heap → Prop) (te : Expr → M Bool) : Prop :=
  ∀ (e : Expr) (ι : List Addr) (H : AHeap) (s : Shared) (b : Bool) (H' : AHeap), St cx ι H s → I ι s.heap → te e H = some (b, H') → wpAny (model cx.prog cx.w) A (isTrue e env (eval e env)) (PostB cx ι s.heap b H') noE s

theorem tests_sound {te : Expr → M Bool} (hst : Stable I) (hte : TeOK cx A env I te) (op : BoolOp) : ∀ (es : List Expr) {ι : List Addr} {H H' : AHeap} {s : Shared} {b : Bool}, St cx ι H s → I ι s.heap → tests te op es H = some (b, H') →
    wpAny (model cx.prog cx.w) A (allTrue op es env) (PostB cx ι s.heap b H') noE s
  | [], ι, H, H', s, b, S, i, h => by
    obtain ⟨rfl, rfl⟩ := pure_some h
    rw [allTrue]
    exact wpAny_pure ⟨rfl, ι, Ext.refl _ _, S⟩
  | e :: r, ι, H, H', s, b, S, i, h => by
    obtain ⟨t, H1, h1, h2⟩ := bind_some h
    rw [allTrue]
    refine wpAny_bind (wpAny_mono (hte e ι H s _ _ S i h1) (fun c s₁ h₁ => ?_) fun _ _ x => x)
    obtain ⟨rfl, ι₁, e1, S₁⟩ := h₁
    have hrec : tests te op r H1 = some (b, H') → wpAny (model cx.prog cx.w) A (allTrue op r env) (PostB cx ι s.heap b H') noE s₁ := fun hq =>
      wpAny_mono (tests_sound hst hte op r S₁ (hst _ _ _ _ i e1) hq) (fun c s₂ h₂ => by obtain ⟨rfl, ι₂, e2, S₂⟩ := h₂; exact ⟨rfl, ι₂, e1.trans e2, S₂⟩) fun _ _ x => x
    cases op <;> cases c
    · obtain ⟨rfl, rfl⟩ := pure_some h2; exact wpAny_pure ⟨rfl, ι₁, e1, S₁⟩
    · exact hrec h2
    · exact hrec h2
    · obtain ⟨rfl, rfl⟩ := pure_some h2; exact wpAny_pure ⟨rfl, ι₁, e1, S₁⟩

theorem denT_sound (R : Room A) (hSet : ∀ es k p H, ev (.Set es k p) H = none) (hIf : ∀ t b o p H, ev (.IfExp t b o p) H = none) (hst : Stable I) (hev : EvOK cx A env I ev) : ∀ n : Nat, TeOK cx A env I (denT ev n)
  | 0 => fun e ι H s b H' S i h => (stuck_some (H := H) h).elim
  | n + 1 => fun e ι H s b H' S i h => by
    have ih := denT_sound R hSet hIf hst hev n
    have hfin : plainT ev e H = some (b, H') → wpAny (model cx.prog cx.w) A (do let v ← eval e env; standAt e.pos; holding [v] (truthy v)) (PostB cx ι s.heap b H') noE s := fun h => by
      obtain ⟨a, H1, h1, h2⟩ := bind_some h
      obtain ⟨rfl, rfl⟩ := truth_some h2
      refine wpAny_bind (wpAny_mono (hev e ι H s _ _ S i h1) (fun v s₁ h₁ => ?_) fun _ _ x => x)
      obtain ⟨ι₁, e1, S₁, r1⟩ := h₁
      cases r1
      exact wpAny_bind (wpAny_standAt (wpAny_holding (wpAny_truthy_bool ⟨rfl, ι₁, e1, S₁⟩)))
    cases e with
    | UnaryOp op x p =>
      cases op with
      | Not =>
        obtain ⟨c, H1, h1, h2⟩ := bind_some (show (do let b ← denT ev n x; pure (!b) : M Bool) H = some (b, H') from h)
        obtain ⟨rfl, rfl⟩ := pure_some h2
        refine isTrue_not (wpAny_mono (ih _ ι H s _ _ S i h1) (fun c s₁ h₁ => ?_) fun _ _ x => x)
        obtain ⟨rfl, r⟩ := h₁
        exact ⟨rfl, r⟩
      | _ => exact hfin h
    | BoolOp op vs p => exact wpAny_isTrue_BoolOp (tests_sound hst ih _ _ S i h)
    | Compare l ops cs p =>
      obtain ⟨a, H1, h1, h2⟩ := bind_some (show (do let a ← ev l; chain ev a ops cs : M Bool) H = some (b, H') from h)
      rw [arm_isTrue_Compare]
      refine wpAny_bind (wpAny_mono (hev _ ι H s _ _ S i h1) (fun v s₁ h₁ => ?_) fun _ _ x => x)
      obtain ⟨ι₁, e1, S₁, r1⟩ := h₁
      refine wpAny_mono (testChain_sound R hSet hst hev _ _ _ S₁ (hst _ _ _ _ i e1) r1 h2) (fun c s₂ h₂ => ?_) fun _ _ x => x
      obtain ⟨rfl, ι₂, e2, S₂⟩ := h₂
      exact ⟨rfl, ι₂, e1.trans e2, S₂⟩
    | IfExp t b o p =>
      obtain ⟨a, H1, h1, h2⟩ := bind_some (show plainT ev (.IfExp t b o p) H = _ from h)
      rw [hIf] at h1; cases h1
    | _ => exact hfin h
end
end Mine


set_option autoImplicit false
set_option linter.unusedVariables false
namespace Mine
open PySem PyProof.Rows PySem.SeqAt

section
variable {cx : Cx} {A : Around} {ι : List Addr} {H H' : AHeap} {s : Shared}

/-- the methods of lists that are called here -/
inductive LM : Str → String → Prop
  | append : LM "append" "list.append"
  | pop : LM "pop" "list.pop"
  | clear : LM "clear" "list.clear"
  | count : LM "count" "list.count"

theorem listOf_list (S : St cx ι H s) {a : AV} {v : Value} {xs : List AV} (h : listOf a H = some (xs, H')) (r : VR cx ι s.heap a v) : H' = H ∧ ∃ l vs n, v = .ref l ∧ IsL s.heap l vs n := by
  obtain ⟨e, l, vs, n, e2, hl, _⟩ := listOf_sound S h r
  exact ⟨e, l, vs, n, e2, hl⟩

theorem toList_eraseIdx (vs : Array Value) (k : Nat) (hk : k < vs.size) : (vs.eraseIdxIfInBounds k).toList = vs.toList.eraseIdx k := by
  rw [Array.eraseIdxIfInBounds, dif_pos hk]; simp

theorem mapM_reads (S : St cx ι H s) {xs : List AV} {vs : List Value} {ds : List PyData} {n : Nat} (r : VRs cx ι s.heap xs vs) (h : xs.mapM (rd H n) = some ds) : ∃ as, ReadsAll s.heap vs ds as ∧ PyData.canLayAll0 ds = true ∧ PyData.depthAll ds ≤ n :=
  rds_sound n (fun r h => rd_sound S n r h) r h

theorem count_by {h : Heap} {vs : Array Value} {ds : List PyData} {as : List Addr} {d : PyData} (rs : ReadsAll h vs.toList ds as) (hc : PyData.canLayAll0 ds = true) :
    vs.toList.countP (fun y => PyData.eqv (readOf h y) d) = ds.countP (fun y => PyData.eqv y d) := by
  rw [← readsAll_map ds _ _ hc rs, List.countP_map]; rfl

theorem St.listTurn (S : St cx ι H s) {l0 : Nat} {a : Addr} {ws : Array Value} {n : Nat} {xs' : List AV} (f : Array Value → Array Value) (hl : ι[l0]? = some a) (hL : IsL s.heap a ws n) (hz : xs'.length ≤ LIM) (hs : VRs cx ι s.heap xs' (f ws).toList) :
    Ext ι ι s.heap (s.heap.update a (Obj.mapSeq f)) ∧ St cx ι (H.set l0 (.list xs')) { s with heap := s.heap.update a (Obj.mapSeq f) } :=
  S.turn (t := s.toks) (o := .list xs') hl (fun b q hb e => (Heap.get?_update_other _ _ (Ne.symm hb)).trans e) (fun e => ⟨_, _, IsL.update hL f, hz, hs.mono e⟩)

theorem call_count {l : Addr} {vs : Array Value} {n : Nat} {xs : List AV} {x : Value} {a : AV} {ys : List PyData} {y : PyData} {E : Value → Shared → Prop} {Q : Value → Shared → Prop} (R : Room A) (S : St cx ι H s) (hl : IsL s.heap l vs n)
    (rs : VRs cx ι s.heap xs vs.toList) (ra : VR cx ι s.heap a x) (h1 : xs.mapM (rd H 7) = some ys) (h2 : rd H 8 a = some y) (h : Q (.int (ys.countP fun z => PyData.eqv z y : Nat) s.toks) { s with toks := s.toks + 1 }) :
    wpAny (model cx.prog cx.w) A (PySem.call (.builtin "list.count") [.ref l, x]) Q E s := by
  obtain ⟨as, q1, q2, q3⟩ := mapM_reads S rs h1
  obtain ⟨bs, p1, p2, p3⟩ := rd_sound S 8 ra h2
  refine call_meets F.slot_list_count ⟨_, hl, rfl⟩ F.entry_list_count (F.args_list_count_2 _ _) (list_countAt l vs n none #[] x (fun y' => PyData.eqv (readOf s.heap y') y)) ⟨hl, ?_, ?_⟩
  · exact items_eqAt q1 p1 q2 p2 (by have := Nat.min_le_right (PyData.depthAll ys) y.depth; unfold Room at R; omega)
  · rw [count_by q1 q2]; exact h

theorem pMeth_sound {m : Str} {o c : AV} {as : List AV} {v : Value} {vs : List Value} {E : Value → Shared → Prop} (R : Room A) (S : St cx ι H s) (ro : VR cx ι s.heap o v) (rs : VRs cx ι s.heap as vs) (h : pMeth m o as H = some (c, H')) :
    ∃ id, LM m id ∧ wpAny (model cx.prog cx.w) A (PySem.call (.builtin id) (v :: vs)) (PostV cx ι s.heap c H') E s := by
  have hLIM := LIM_is
  have hSL := LIM_le
  unfold pMeth at h
  split at h
  · rename_i l0
    split at h
    · rename_i xs hH
      cases ro with | loc hl =>
      obtain ⟨ws, n, hL, hz, hs⟩ := S.own _ _ _ hl hH
      have hsz := hs.size
      split at h
      · -- append
        rename_i hm; subst hm
        split at h
        · split at h
          · rename_i a hlen
            cases h
            obtain ⟨x, rfl, ra⟩ := rs.inv1
            refine ⟨_, .append, call_meets F.slot_list_append ⟨_, hL, rfl⟩ F.entry_list_append (F.args_list_append_2 _ _) (list_append _ ws n x (by omega)) ⟨hL, ?_⟩⟩
            obtain ⟨e, S'⟩ := S.listTurn (xs' := xs ++ [a]) (fun x1 => x1.push x) hl hL (by rw [List.length_append]; simp; omega) (by rw [Array.toList_push]; exact hs.append (.one ra))
            exact ⟨ι, e, S', .none⟩
          · cases h
        · cases h
      · split at h
        · -- pop
          rename_i hm; subst hm
          split at h
          · split at h
            · rename_i y hy
              cases h
              cases rs
              obtain ⟨yv, hyv, ry⟩ := hs.get hy
              have hlt : xs.length - 1 < xs.length := (List.getElem?_eq_some_iff.mp hy).1
              refine ⟨_, .pop, call_meets F.slot_list_pop ⟨_, hL, rfl⟩ F.entry_list_pop (F.args_list_pop_1 _) (MeetsSeq.list_pop_last _ ws n yv (by rw [← Array.getElem?_toList, hsz]; exact hyv) (by omega)) ⟨hL, ?_⟩⟩
              obtain ⟨e, S'⟩ := S.listTurn (xs' := xs.eraseIdx (xs.length - 1)) (fun x1 => x1.eraseIdxIfInBounds (ws.size - 1)) hl hL (by have := List.length_eraseIdx_le xs (xs.length - 1); omega)
                (by rw [toList_eraseIdx _ _ (by omega), hsz]; exact hs.eraseIdx _)
              exact ⟨ι, e, S', ry.mono e⟩
            · cases h
          · split at h
            · rename_i k hk
              split at h
              · rename_i y hy
                cases h
                obtain ⟨x, rfl, ra⟩ := rs.inv1
                cases ra
                obtain ⟨yv, hyv, ry⟩ := hs.get hy
                refine ⟨_, .pop, call_meets F.slot_list_pop ⟨_, hL, rfl⟩ F.entry_list_pop (F.args_list_pop_2 _ _)
                  (MeetsSeq.list_pop_at _ ws n k _ k.toNat yv (fitsIndex_of hk.1 (by omega)) (seqIndex_of hk.1 (by omega)) (by rw [← Array.getElem?_toList]; exact hyv) (by omega)) ⟨hL, ?_⟩⟩
                obtain ⟨e, S'⟩ := S.listTurn (xs' := xs.eraseIdx k.toNat) (fun x1 => x1.eraseIdxIfInBounds k.toNat) hl hL (by have := List.length_eraseIdx_le xs k.toNat; omega)
                  (by rw [toList_eraseIdx _ _ (by omega)]; exact hs.eraseIdx _)
                exact ⟨ι, e, S', ry.mono e⟩
              · cases h
            · cases h
          · cases h
        · split at h
          · -- clear
            rename_i hm; subst hm
            split at h
            · cases h
              cases rs
              refine ⟨_, .clear, call_meets F.slot_list_clear ⟨_, hL, rfl⟩ F.entry_list_clear (F.args_list_clear_1 _) (AutoSeq1.list_clear_list_0 _ ws n (by omega)) ⟨hL, ?_⟩⟩
              obtain ⟨e, S'⟩ := S.listTurn (xs' := []) (fun _ => #[]) hl hL (Nat.zero_le _) .nil
              exact ⟨ι, e, S', .none⟩
            · cases h
          · split at h
            · -- count
              rename_i hm; subst hm
              split at h
              · split at h
                · rename_i ys y h1 h2
                  cases h
                  obtain ⟨x, rfl, ra⟩ := rs.inv1
                  exact ⟨_, .count, call_count R S hL hs ra h1 h2 (PostV.same S _ (.int _ _))⟩
                · cases h
              · cases h
            · cases h
    · cases h
  · split at h
    · rename_i hm; subst hm
      split at h
      · split at h
        · rename_i ys y h1 h2
          cases h
          cases ro with | lst hL hn hz hs =>
          obtain ⟨x, rfl, ra⟩ := rs.inv1
          exact ⟨_, .count, call_count R S hL hs ra h1 h2 (PostV.same S _ (.int _ _))⟩
        · cases h
      · cases h
    · cases h
  · cases h
end
end Mine


set_option autoImplicit false
set_option linter.unusedVariables false
namespace Mine
open PySem PyProof.Rows PySem.SeqAt

/-- an object that no abstract value reads -/
def NotData (o : Obj) : Prop := (∀ vs n, o.data ≠ .seq vs n) ∧ ((∀ vs, o.data ≠ .fields vs) ∨ o.cls ≠ .type "range")

section
variable {cx : Cx} {A : Around} {ι : List Addr} {H H' : AHeap} {s : Shared}

/-- what is kept but for the private objects p -/
theorem Tn.buts {h h' : Heap} {p : Addr → Prop} (hp : ∀ b o, p b → h.get? b = some o → NotData o) (hb : ∀ b, p b → cx.h₀.get? b = none) (hk : ∀ b o, ¬ p b → h.get? b = some o → h'.get? b = some o) : Tn cx cx ι ι h h' where
  same := ⟨rfl, rfl, rfl⟩
  tup := fun _ _ _ ht hn => ⟨hk _ _ (fun e => (hp _ _ e ht).1 _ _ rfl) ht, hn⟩
  lst := fun _ _ _ ht hn => ⟨hk _ _ (fun e => (hp _ _ e ht).1 _ _ rfl) ht, hn⟩
  loc := fun _ _ hl => hl
  range := fun _ _ _ _ _ _ hr hn => ⟨hk _ _ (fun e => by rcases (hp _ _ e hr).2 with q | q; exact q _ rfl; exact q rfl) hr, hn⟩
  dict := fun _ _ ho hn hsm => ⟨hk _ _ (fun e' => by obtain ⟨o', q⟩ := hsm; rw [hb _ e'] at q; cases q) ho, hn⟩
theorem Tn.but {h h' : Heap} {c : Addr} (hp : ∀ o, h.get? c = some o → NotData o) (hb : cx.h₀.get? c = none) (hk : ∀ b o, b ≠ c → h.get? b = some o → h'.get? b = some o) : Tn cx cx ι ι h h' :=
  .buts (p := fun b => b = c) (fun b o e => e ▸ hp o) (fun b e => e ▸ hb) hk
theorem VR.but {h h' : Heap} {c : Addr} (hp : ∀ o, h.get? c = some o → NotData o) (hb : cx.h₀.get? c = Option.none) (hk : ∀ b o, b ≠ c → h.get? b = some o → h'.get? b = some o) {a : AV} {v : Value} (r : VR cx ι h a v) : VR cx ι h' a v := r.gen (.but hp hb hk)
theorem VRs.but {h h' : Heap} {c : Addr} (hp : ∀ o, h.get? c = some o → NotData o) (hb : cx.h₀.get? c = Option.none) (hk : ∀ b o, b ≠ c → h.get? b = some o → h'.get? b = some o) {xs : List AV} {vs : List Value} (r : VRs cx ι h xs vs) : VRs cx ι h' xs vs := r.gen (.but hp hb hk)
theorem VR.buts {h h' : Heap} {p : Addr → Prop} (hp : ∀ b o, p b → h.get? b = some o → NotData o) (hb : ∀ b, p b → cx.h₀.get? b = Option.none) (hk : ∀ b o, ¬ p b → h.get? b = some o → h'.get? b = some o) {a : AV} {v : Value} (r : VR cx ι h a v) : VR cx ι h' a v := r.gen (.buts hp hb hk)
theorem VRs.buts {h h' : Heap} {p : Addr → Prop} (hp : ∀ b o, p b → h.get? b = some o → NotData o) (hb : ∀ b, p b → cx.h₀.get? b = Option.none) (hk : ∀ b o, ¬ p b → h.get? b = some o → h'.get? b = some o) {xs : List AV} {vs : List Value} (r : VRs cx ι h xs vs) : VRs cx ι h' xs vs := r.gen (.buts hp hb hk)

/-- a private object turns: the abstract state stands -/
theorem St.priv (S : St cx ι H s) {c : Addr} {h' : Heap} {t : Nat} (hc : c ∉ ι) (hb : cx.h₀.get? c = none) (hp : ∀ o, s.heap.get? c = some o → NotData o) (hk : ∀ b o, b ≠ c → s.heap.get? b = some o → h'.get? b = some o) : St cx ι H { s with heap := h', toks := t } where
  base := fun b o e => hk b o (fun z => by rw [z, hb] at e; cases e) (S.base b o e)
  len := S.len
  nodup := S.nodup
  fresh := S.fresh
  own := fun l a o e1 e2 => by
    have hac : a ≠ c := fun q => hc (q ▸ List.mem_of_getElem? e1)
    have r := S.own l a o e1 e2
    cases o with
    | list xs => obtain ⟨vs, n, hl, hz, hs⟩ := r; exact ⟨vs, n, hk a _ hac hl, hz, hs.but hp hb hk⟩
    | dict es => obtain ⟨kvs, hd, h1, h2, hs⟩ := r; exact ⟨kvs, DictOf.at' hd (fun o e => hk a o hac e), h1, h2, hs.but hp hb hk⟩
  gens := S.gens
  os := S.os
  sysm := S.sysm
  hid := fun a ha => let ⟨h1, h2, vs, n, h3⟩ := S.hid a ha; ⟨h1, h2, vs, n, hk a _ (fun z => by subst z; exact (hp _ h3).1 _ _ rfl) h3⟩

structure EnvR (cx : Cx) (env : Env) (sc : Scope) (ns : List Str) (σ : Loc) (ι : List Addr) (h : Heap) : Prop where
  kind : env.scope.kind = .function
  glob : env.globals = mainGlobals
  blt : env.builtins = builtinsNs
  notin : env.locals ∉ ι
  fresh : cx.h₀.get? env.locals = none
  nsm : ∃ m, h.Ns env.locals m ∧ ∀ (x : Str) (i : Nat) (a : AV), ns.idxOf? x = some i → σ[i]? = some (some a) → env.kindOf x = some .local → ∃ v, m x = some v ∧ VR cx ι h a v
  cel : ∀ (x : Str) (i : Nat) (a : AV), ns.idxOf? x = some i → σ[i]? = some (some a) → (env.kindOf x = some .cell ∨ env.kindOf x = some .free) → ∃ c v, env.cells.lookup x = some c ∧ h.IsCell c (some v) ∧ c ∉ ι ∧ VR cx ι h a v
  has : ∀ x, ns.contains x = true → sc.names.lookup x = some .cell → ∃ c v, env.cells.lookup x = some c ∧ h.IsCell c v ∧ c ∉ ι
  klocal : ∀ x, isLocal sc x = true → env.kindOf x = some .local ∨ env.kindOf x = some .cell ∨ env.kindOf x = some .free
  kcell : ∀ x, sc.names.lookup x = some .cell → env.kindOf x = some .cell
  kglob : ∀ x, isGlob sc x = true → env.kindOf x = some .globalImplicit

theorem EnvR.stable {env : Env} {sc : Scope} {ns : List Str} {σ : Loc} : Stable (EnvR cx env sc ns σ) := fun ι ι' h h' e x => by
  have hL : ∃ o, h.get? env.locals = some o := let ⟨_, ⟨o, _, _, ho, _⟩, _⟩ := e.nsm; ⟨o, ho⟩
  obtain ⟨oL, hoL⟩ := hL
  refine ⟨e.kind, e.glob, e.blt, x.notin hoL e.notin, e.fresh, ?_, ?_, ?_, e.klocal, e.kcell, e.kglob⟩
  · obtain ⟨m, hm, hv⟩ := e.nsm
    exact ⟨m, hm.at' fun o ho => x.keep _ o ho e.notin, fun y i a h1 h2 h3 => by obtain ⟨v, q1, q2⟩ := hv y i a h1 h2 h3; exact ⟨v, q1, q2.mono x⟩⟩
  · intro y i a h1 h2 h3
    obtain ⟨c, v, q1, ⟨o, ho, hd⟩, q3, q4⟩ := e.cel y i a h1 h2 h3
    exact ⟨c, v, q1, ⟨o, x.keep _ o ho q3, hd⟩, x.notin ho q3, q4.mono x⟩
  · intro y h1 h2
    obtain ⟨c, v, q1, ⟨o, ho, hd⟩, q3⟩ := e.has y h1 h2
    exact ⟨c, v, q1, ⟨o, x.keep _ o ho q3, hd⟩, x.notin ho q3⟩

/-- a private object that is neither the frame's dict nor a cell turns -/
theorem EnvR.priv {env : Env} {sc : Scope} {ns : List Str} {σ : Loc} {h h' : Heap} {c : Addr} (e : EnvR cx env sc ns σ ι h) (hb : cx.h₀.get? c = none) (hLc : env.locals ≠ c) (hp : ∀ o, h.get? c = some o → NotData o ∧ (∀ v, o.data ≠ .cell v))
    (hk : ∀ b o, b ≠ c → h.get? b = some o → h'.get? b = some o) : EnvR cx env sc ns σ ι h' := by
  have hp' : ∀ o, h.get? c = some o → NotData o := fun o ho => (hp o ho).1
  have hcell : ∀ d v, h.IsCell d v → h'.IsCell d v := fun d v ⟨o, ho, hd⟩ => ⟨o, hk d o (fun q => by subst q; exact (hp o ho).2 _ hd) ho, hd⟩
  refine ⟨e.kind, e.glob, e.blt, e.notin, e.fresh, ?_, ?_, ?_, e.klocal, e.kcell, e.kglob⟩
  · obtain ⟨m, hm, hv⟩ := e.nsm
    exact ⟨m, hm.at' fun o ho => hk _ o hLc ho, fun y i a h1 h2 h3 => by obtain ⟨v, q1, q2⟩ := hv y i a h1 h2 h3; exact ⟨v, q1, q2.but hp' hb hk⟩⟩
  · intro y i a h1 h2 h3
    obtain ⟨d, v, q1, q2, q3, q4⟩ := e.cel y i a h1 h2 h3
    exact ⟨d, v, q1, hcell _ _ q2, q3, q4.but hp' hb hk⟩
  · intro y h1 h2
    obtain ⟨d, v, q1, q2, q3⟩ := e.has y h1 h2
    exact ⟨d, v, q1, hcell _ _ q2, q3⟩

structure Good (cx : Cx) (P : Pg) : Prop where
  g : cx.h₀.Ns mainGlobals cx.mg
  b : cx.h₀.Ns builtinsNs cx.mb
  nolim : cx.h₀.NoLimit
  glob : ∀ x a, P.glob x = some a → ∃ v, cx.mg x = some v ∧ VR { cx with hid := [] } [] cx.h₀ a v
  bi : ∀ x b, biOf x = some b → cx.mg x = none ∧ cx.mb x = some (biV b)
  isi : cx.mg "isinstance" = none ∧ cx.mb "isinstance" = some (.builtin "isinstance")
  ty : ∀ x t, tyOf x = some t → cx.mg x = none ∧ cx.mb x = some (.type (tyStr t))
  zip : cx.mg "zip" = none ∧ cx.mb "zip" = some (.type "zip")
  enum : cx.mg "enumerate" = none ∧ cx.mb "enumerate" = some (.type "enumerate")

theorem St.ext₀ (S : St cx ι H s) : Ext [] ι cx.h₀ s.heap := ⟨List.nil_prefix, fun a ha _ => S.fresh a ha, fun b o e _ => S.base b o e⟩
theorem St.g {P : Pg} (S : St cx ι H s) (G : Good cx P) : s.heap.Ns mainGlobals cx.mg := G.g.keeps S.base
theorem St.b {P : Pg} (S : St cx ι H s) (G : Good cx P) : s.heap.Ns builtinsNs cx.mb := G.b.keeps S.base

/-- a name of the text's top, or a built-in one -/
theorem load_glob {P : Pg} {env : Env} {sc : Scope} {ns : List Str} {σ : Loc} {x : Str} {pos : Pos} {v : Value} {E : Value → Shared → Prop} {Q : Value → Shared → Prop} (G : Good cx P) (S : St cx ι H s) (I : EnvR cx env sc ns σ ι s.heap) (hx : isGlob sc x = true)
    (hd : (x == ("__debug__" : Str)) = false) (hv : cx.mg x = some v) (h : Q v s) : wpAny (model cx.prog cx.w) A (eval (.Name x pos) env) Q E s :=
  Calls.Name_function_global I.kind (I.kglob x hx) (Calls.loadGlobal_global (by rw [I.glob]; exact S.g G) hv h) hd
theorem load_bi {P : Pg} {env : Env} {sc : Scope} {ns : List Str} {σ : Loc} {x : Str} {pos : Pos} {v : Value} {E : Value → Shared → Prop} {Q : Value → Shared → Prop} (G : Good cx P) (S : St cx ι H s) (I : EnvR cx env sc ns σ ι s.heap) (hx : isGlob sc x = true)
    (hd : (x == ("__debug__" : Str)) = false) (hv : cx.mg x = none ∧ cx.mb x = some v) (h : Q v s) : wpAny (model cx.prog cx.w) A (eval (.Name x pos) env) Q E s :=
  Calls.Name_function_global I.kind (I.kglob x hx) (Calls.loadGlobal_builtin (by rw [I.glob]; exact S.g G) hv.1 (by rw [I.blt]; exact S.b G) hv.2 h) hd

theorem name_sound {P : Pg} {env : Env} {sc : Scope} {ns : List Str} {σ : Loc} {x : Str} {pos : Pos} {a : AV} {E : Value → Shared → Prop} (G : Good cx P) (S : St cx ι H s) (I : EnvR cx env sc ns σ ι s.heap) (hl : isLocal sc x = true)
    (hd : (x == ("__debug__" : Str) || x == ("__classdict__" : Str)) = false) (h : nameV ns x σ H = some (a, H')) : wpAny (model cx.prog cx.w) A (eval (.Name x pos) env) (PostV cx ι s.heap a H') E s := by
  simp only [Bool.or_eq_false_iff] at hd
  unfold nameV at h
  cases hi : ns.idxOf? x with
  | none => rw [hi] at h; cases h
  | some i =>
    rw [hi] at h
    cases hv : σ[i]? with
    | none => simp only [hv] at h; cases h
    | some ov =>
      cases ov with
      | none => simp only [hv] at h; cases h
      | some v =>
        simp only [hv] at h
        obtain ⟨rfl, rfl⟩ := pure_some h
        refine wpAny_Name ?_ hd.1
        rcases I.klocal x hl with k | k | k
        · obtain ⟨m, hm, hmv⟩ := I.nsm
          obtain ⟨w, q1, q2⟩ := hmv x i a hi hv k
          exact wpAny_loadName_local I.kind k hm q1 (PostV.here S q2)
        · obtain ⟨c, w, q1, q2, q3, q4⟩ := I.cel x i a hi hv (.inl k)
          exact wpAny_loadName_cell I.kind k q1 q2 (PostV.here S q4)
        · obtain ⟨c, w, q1, q2, q3, q4⟩ := I.cel x i a hi hv (.inr k)
          exact wpAny_loadName_free I.kind k q1 q2 (PostV.here S q4) hd.2
end
end Mine


set_option autoImplicit false
set_option linter.unusedVariables false
namespace Mine
open PySem PyProof.Rows PySem.SeqAt

section
variable {cx : Cx} {A : Around} {ι : List Addr} {H H' : AHeap} {s : Shared}

inductive ItR (cx : Cx) (ι : List Addr) (h : Heap) (it : Addr) : Src → Nat → Prop
  | list {l : Addr} {vs : Array Value} {n : Nat} {xs : List AV} {i : Nat} : h.IsListIter it l i → IsL h l vs n → (l ∉ ι ∧ l ∉ cx.hid) → VRs cx ι h xs vs.toList → ItR cx ι h it (.items xs) i
  | tup {l : Addr} {vs : Array Value} {n : Nat} {xs : List AV} {i : Nat} : h.IsTupleIter it l i → IsT h l vs n → l ∉ ι → VRs cx ι h xs vs.toList → ItR cx ι h it (.items xs) i
  | range {a b : Int} {i : Nat} : IsRangeIter h it (a + i) (((b - a).toNat : Int) - i) 1 → ItR cx ι h it (.items (rangeL a b)) i
  | at {l : Nat} {a : Addr} {i : Nat} : h.IsListIter it a i → ι[l]? = some a → ItR cx ι h it (.at l) i

theorem ItR.obj {h : Heap} {it : Addr} {src : Src} {i : Nat} (x : ItR cx ι h it src i) : ∃ o, h.get? it = some o ∧ NotData o ∧ (∀ es n, o.data ≠ .dict es n) ∧ (∀ v, o.data ≠ .cell v) := by
  have key : ∀ (o : Obj) (vs : Array Value) (c : Value), o.data = .fields vs → o.cls = c → c ≠ .type "range" → NotData o ∧ (∀ es n, o.data ≠ .dict es n) ∧ (∀ v, o.data ≠ .cell v) := fun o vs c h1 h2 h3 => by
    refine ⟨⟨?_, .inr (by rw [h2]; exact h3)⟩, ?_, ?_⟩
    · intro vs n q; rw [h1] at q; cases q
    · intro vs n q; rw [h1] at q; cases q
    · intro v q; rw [h1] at q; cases q
  cases x with
  | list h1 _ _ _ => obtain ⟨o, ho, hc, hd⟩ := h1; exact ⟨o, ho, key o _ _ hd hc (by decide)⟩
  | tup h1 _ _ _ => obtain ⟨o, ho, hc, hd⟩ := h1; exact ⟨o, ho, key o _ _ hd hc (by decide)⟩
  | range h1 => exact ⟨_, h1, key _ _ (.type "range_iterator") rfl rfl (by decide)⟩
  | «at» h1 _ => obtain ⟨o, ho, hc, hd⟩ := h1; exact ⟨o, ho, key o _ _ hd hc (by decide)⟩

theorem ItR.mono {ι' : List Addr} {h h' : Heap} {it : Addr} {src : Src} {i : Nat} (x : ItR cx ι h it src i) (hn : it ∉ ι) (e : Ext ι ι' h h') : ItR cx ι' h' it src i := by
  cases x with
  | list h1 h2 h3 h4 => exact .list (h1.at fun o ho => e.keep _ o ho hn) (e.keep _ _ h2 h3.1) ⟨e.notin h2 h3.1, h3.2⟩ (h4.mono e)
  | tup h1 h2 h3 h4 =>
    obtain ⟨o, ho, r⟩ := h1
    exact .tup ⟨o, e.keep _ o ho hn, r⟩ (e.keep _ _ h2 h3) (e.notin h2 h3) (h4.mono e)
  | range h1 => exact .range (e.keep _ _ h1 hn)
  | «at» h1 h2 => exact .at (h1.at fun o ho => e.keep _ o ho hn) (prefix_get e.pre h2)
/-- another private object turns -/
theorem ItR.priv {h h' : Heap} {it c : Addr} {src : Src} {i : Nat} (x : ItR cx ι h it src i) (hc : it ≠ c) (hci : c ∉ ι) (hb : cx.h₀.get? c = none) (hp : ∀ o, h.get? c = some o → NotData o) (hk : ∀ b o, b ≠ c → h.get? b = some o → h'.get? b = some o) : ItR cx ι h' it src i := by
  cases x with
  | list h1 h2 h3 h4 => exact .list (h1.at fun o ho => hk _ o hc ho) (hk _ _ (fun q => by subst q; exact (hp _ h2).1 _ _ rfl) h2) h3 (h4.but hp hb hk)
  | tup h1 h2 h3 h4 =>
    obtain ⟨o, ho, r⟩ := h1
    exact .tup ⟨o, hk _ o hc ho, r⟩ (hk _ _ (fun q => by subst q; exact (hp _ h2).1 _ _ rfl) h2) h3 (h4.but hp hb hk)
  | range h1 => exact .range (hk _ _ hc h1)
  | «at» h1 h2 => exact .at (h1.at fun o ho => hk _ o hc ho) h2

/-- what a turn of the iterator gives -/
def NextPost (cx : Cx) (ι : List Addr) (s : Shared) (it : Addr) (src : Src) (i : Nat) (r : Option AV) : Option Value → Shared → Prop := fun o s' =>
  ∃ h' t, s' = { s with heap := h', toks := t } ∧ (∀ b q, b ≠ it → s.heap.get? b = some q → h'.get? b = some q) ∧
    match r with
    | none => o = none
    | some a => ∃ v, o = some v ∧ VR cx ι h' a v ∧ ItR cx ι h' it src (i + 1)

theorem rangeL_get {a b : Int} {i : Nat} : (rangeL a b)[i]? = if i < (b - a).toNat then some (.int (a + i)) else none := by
  unfold rangeL
  rw [List.getElem?_map]
  by_cases h : i < (b - a).toNat
  · rw [List.getElem?_range h, if_pos h]; rfl
  · rw [List.getElem?_eq_none (by simpa using h), if_neg h]; rfl

theorem next_sound {it : Addr} {src : Src} {i : Nat} {r : Option AV} {E : Value → Shared → Prop} (hh : A.handled = none) (S : St cx ι H s) (x : ItR cx ι s.heap it src i) (hb : cx.h₀.get? it = none) (h : src.get i H = some (r, H')) :
    H' = H ∧ wpAny (model cx.prog cx.w) A (pyNext (.ref it)) (NextPost cx ι s it src i r) E s := by
  have hobj := x.obj
  obtain ⟨oi, hoi, hnd, _, _⟩ := hobj
  have hp : ∀ o, s.heap.get? it = some o → NotData o := fun o ho => by rw [hoi] at ho; cases ho; exact hnd
  cases x with
  | list h1 h2 h3 h4 =>
    obtain ⟨rfl, rfl⟩ := pure_some h
    refine ⟨rfl, ?_⟩
    rename_i l vs n xs
    cases hx : xs[i]? with
    | none =>
      refine wpAny_pyNext_list_end hh h1 h2.isList (by
        rw [Array.getElem?_eq_none_iff]; have := h4.size; rw [List.getElem?_eq_none_iff] at hx; omega) fun h' he => ⟨h', s.toks, rfl, fun b q hbq e => he b q hbq e, rfl⟩
    | some a =>
      obtain ⟨v, hv, rv⟩ := h4.get hx
      refine wpAny_pyNext_list_item h1 h2.isList (x := v) (by rw [← Array.getElem?_toList]; exact hv) fun h' hit hs => ?_
      have hk : ∀ b q, b ≠ it → s.heap.get? b = some q → h'.get? b = some q := fun b q hbq e => hs.extBut b q hbq e
      exact ⟨h', s.toks, rfl, hk, v, rfl, rv.but hp hb hk, .list hit (hk _ _ (fun q => by subst q; exact (hp _ h2).1 _ _ rfl) h2) h3 (h4.but hp hb hk)⟩
  | tup h1 h2 h3 h4 =>
    obtain ⟨rfl, rfl⟩ := pure_some h
    refine ⟨rfl, ?_⟩
    rename_i l vs n xs
    have hT : s.heap.IsTuple l vs := ⟨_, h2, rfl, n, rfl⟩
    cases hx : xs[i]? with
    | none =>
      refine wpAny_pyNext_tuple_end hh h1 hT (by
        rw [Array.getElem?_eq_none_iff]; have := h4.size; rw [List.getElem?_eq_none_iff] at hx; omega) fun h' he => ⟨h', s.toks, rfl, fun b q hbq e => he b q hbq e, rfl⟩
    | some a =>
      obtain ⟨v, hv, rv⟩ := h4.get hx
      refine wpAny_pyNext_tuple_item h1 hT (x := v) (by rw [← Array.getElem?_toList]; exact hv) fun h' hit hs => ?_
      have hk : ∀ b q, b ≠ it → s.heap.get? b = some q → h'.get? b = some q := fun b q hbq e => hs.extBut b q hbq e
      exact ⟨h', s.toks, rfl, hk, v, rfl, rv.but hp hb hk, .tup hit (hk _ _ (fun q => by subst q; exact (hp _ h2).1 _ _ rfl) h2) h3 (h4.but hp hb hk)⟩
  | range h1 =>
    rename_i a b
    obtain ⟨rfl, rfl⟩ := pure_some h
    refine ⟨rfl, ?_⟩
    rw [rangeL_get]
    split
    · refine wpAny_pyNext_range_item h1 (by omega) fun h' hit hs => ?_
      refine ⟨h', s.toks + 1, rfl, fun b q hbq e => hs.extBut b q hbq e, _, rfl, .int _ _, .range ?_⟩
      have e1 : a + ((i + 1 : Nat) : Int) = a + i + 1 := by omega
      have e2 : ((b - a).toNat : Int) - ((i + 1 : Nat) : Int) = ((b - a).toNat : Int) - i - 1 := by omega
      rw [e1, e2]; exact hit
    · exact wpAny_pyNext_range_end hh h1 (by omega) fun h' he => ⟨h', s.toks, rfl, fun b q hbq e => he b q hbq e, rfl⟩
  | «at» h1 h2 =>
    rename_i l a
    simp only [Src.get] at h
    split at h
    · rename_i xs hH
      cases h
      refine ⟨rfl, ?_⟩
      obtain ⟨vs, n, hL, hz, h4⟩ := S.own _ _ _ h2 hH
      cases hx : xs[i]? with
      | none =>
        refine wpAny_pyNext_list_end hh h1 (IsL.isList hL) (by
          rw [Array.getElem?_eq_none_iff]; have := h4.size; rw [List.getElem?_eq_none_iff] at hx; omega) fun h' he => ⟨h', s.toks, rfl, fun b q hbq e => he b q hbq e, rfl⟩
      | some a =>
        obtain ⟨v, hv, rv⟩ := h4.get hx
        refine wpAny_pyNext_list_item h1 (IsL.isList hL) (x := v) (by rw [← Array.getElem?_toList]; exact hv) fun h' hit hs => ?_
        have hk : ∀ b q, b ≠ it → s.heap.get? b = some q → h'.get? b = some q := fun b q hbq e => hs.extBut b q hbq e
        exact ⟨h', s.toks, rfl, hk, v, rfl, rv.but hp hb hk, .at hit h2⟩
    · cases h

theorem iter_sound {a : AV} {v : Value} {src : Src} {E : Value → Shared → Prop} (S : St cx ι H s) (r : VR cx ι s.heap a v) (h : srcOf a H = some (src, H')) :
    H' = H ∧ wpAny (model cx.prog cx.w) A (pyIter v) (fun w s' => ∃ it h', w = .ref it ∧ s' = { s with heap := h' } ∧ (∀ b q, s.heap.get? b = some q → h'.get? b = some q) ∧ s.heap.get? it = none ∧ ItR cx ι h' it src 0) E s := by
  cases r with
  | tup h1 h2 h3 h4 =>
    simp only [srcOf, Option.some.injEq, Prod.mk.injEq] at h
    obtain ⟨rfl, rfl⟩ := h
    refine ⟨rfl, wpAny_pyIter_tuple ⟨_, h1, rfl, _, rfl⟩ ⟨_, _, rfl, rfl, fun b q e => Heap.get?_push_of_some _ e, get_size _, .tup ⟨_, Heap.get?_push_size _ rfl, rfl, rfl⟩ (Heap.get?_push_of_some _ h1) h2 (h4.mono (Ext.push _))⟩⟩
  | lst h1 h2 h3 h4 =>
    simp only [srcOf, Option.some.injEq, Prod.mk.injEq] at h
    obtain ⟨rfl, rfl⟩ := h
    refine ⟨rfl, wpAny_pyIter_list h1.isList ⟨_, _, rfl, rfl, fun b q e => Heap.get?_push_of_some _ e, get_size _, .list ⟨_, Heap.get?_push_size _ rfl, rfl, rfl⟩ (Heap.get?_push_of_some _ h1) h2 (h4.mono (Ext.push _))⟩⟩
  | range h1 h2 =>
    simp only [srcOf] at h
    split at h
    · rename_i hsm
      cases h
      obtain ⟨q1, _, _⟩ := small_of hsm
      refine ⟨rfl, wpAny_pyIter_range h1 q1 ⟨_, _, rfl, rfl, fun b q e => Heap.get?_push_of_some _ e, get_size _, .range ?_⟩⟩
      rw [range_count, show ((0 : Nat) : Int) = 0 from rfl, Int.add_zero, Int.sub_zero]
      exact Heap.get?_push_size _ rfl
    · cases h
  | loc hl =>
    simp only [srcOf] at h
    split at h
    · rename_i xs hH
      cases h
      obtain ⟨vs, n, hL, hz, h4⟩ := S.own _ _ _ hl hH
      exact ⟨rfl, wpAny_pyIter_list (IsL.isList hL) ⟨_, _, rfl, rfl, fun b q e => Heap.get?_push_of_some _ e, get_size _, .at ⟨_, Heap.get?_push_size _ rfl, rfl, rfl⟩ hl⟩⟩
    · cases h
  | _ => cases h

/-- an iterator is its own iterator -/
theorem self_sound {it : Addr} {src : Src} {i : Nat} {Q : Value → Shared → Prop} {E : Value → Shared → Prop} (x : ItR cx ι s.heap it src i) (h : Q (.ref it) s) : wpAny (model cx.prog cx.w) A (pyIter (.ref it)) Q E s := by
  cases x with
  | list h1 _ _ _ => exact wpAny_pyIter_listiter h1 h
  | tup h1 _ _ _ => exact wpAny_pyIter_tupleiter h1 h
  | range h1 => exact wpAny_pyIter_rangeiter h1 h
  | «at» h1 _ => exact wpAny_pyIter_listiter h1 h
end
end Mine


set_option autoImplicit false
set_option linter.unusedVariables false
namespace Mine
open PySem PyProof.Rows PySem.SeqAt

abbrev Cx.hide (cx : Cx) (D : Addr) : Cx := { cx with hid := D :: cx.hid }

section
variable {cx : Cx} {A : Around} {ι : List Addr} {H H' : AHeap} {s : Shared}

theorem tl_absurd {h : Heap} {a : Addr} {vs ws : Array Value} {n k : Nat} (x : IsT h a vs n) (y : IsL h a ws k) : False := by
  have z := (show h.get? a = some _ from x).symm.trans (show h.get? a = some _ from y)
  simp at z
theorem rl_absurd {h : Heap} {r : Addr} {a b c : Int} {t u v : Tok} {ws : Array Value} {k : Nat} (x : IsRange h r a b c t u v) (y : IsL h r ws k) : False := by
  have z := (show h.get? r = some _ from x).symm.trans (show h.get? r = some _ from y)
  simp at z
theorem Tn.hide {h : Heap} {D : Addr} (hD : h.get? D = none) : Tn cx (cx.hide D) ι ι h h where
  same := ⟨rfl, rfl, rfl⟩
  tup := fun _ _ _ ht hn => ⟨ht, hn⟩
  lst := fun _ _ _ ht hn => ⟨ht, hn.1, fun hm => by
      rcases List.mem_cons.mp hm with q | q
      · subst q; have h4 : h.get? _ = some _ := ht; rw [hD] at h4; cases h4
      · exact hn.2 q⟩
  loc := fun _ _ hl => hl
  range := fun _ _ _ _ _ _ hr hn => ⟨hr, hn⟩
  dict := fun _ _ ho hn _ => ⟨ho, hn⟩
theorem VR.hide {h : Heap} {D : Addr} (hD : h.get? D = Option.none) {a : AV} {v : Value} (r : VR cx ι h a v) : VR (cx.hide D) ι h a v := r.gen (.hide hD)
theorem VRs.hide {h : Heap} {D : Addr} (hD : h.get? D = Option.none) {xs : List AV} {vs : List Value} (r : VRs cx ι h xs vs) : VRs (cx.hide D) ι h xs vs := r.gen (.hide hD)
theorem Tn.unhide {h : Heap} {D : Addr} : Tn (cx.hide D) cx ι ι h h where
  same := ⟨rfl, rfl, rfl⟩
  tup := fun _ _ _ ht hn => ⟨ht, hn⟩
  lst := fun _ _ _ ht hn => ⟨ht, hn.1, fun hm => hn.2 (List.mem_cons_of_mem _ hm)⟩
  loc := fun _ _ hl => hl
  range := fun _ _ _ _ _ _ hr hn => ⟨hr, hn⟩
  dict := fun _ _ ho hn _ => ⟨ho, hn⟩
theorem VR.unhide {h : Heap} {D : Addr} {a : AV} {v : Value} (r : VR (cx.hide D) ι h a v) : VR cx ι h a v := r.gen .unhide
theorem VRs.unhide {h : Heap} {D : Addr} {xs : List AV} {vs : List Value} (r : VRs (cx.hide D) ι h xs vs) : VRs cx ι h xs vs := r.gen .unhide
/-- the hidden list becomes one of the abstract heap's own -/
theorem Tn.adopt {h : Heap} {D : Addr} {ws : Array Value} {k : Nat} (hD : IsL h D ws k) (hb : cx.h₀.get? D = none) : Tn (cx.hide D) cx ι (ι ++ [D]) h h where
  same := ⟨rfl, rfl, rfl⟩
  tup := fun _ _ _ ht hn => ⟨ht, fun hm => by
      rcases List.mem_append.mp hm with q | q
      · exact hn q
      · have q' := List.mem_singleton.mp q; subst q'; exact tl_absurd ht hD⟩
  lst := fun _ _ _ ht hn => ⟨ht, fun hm => by
      rcases List.mem_append.mp hm with q | q
      · exact hn.1 q
      · have q' := List.mem_singleton.mp q; exact hn.2 (q' ▸ List.mem_cons_self), fun hm => hn.2 (List.mem_cons_of_mem _ hm)⟩
  loc := fun _ _ hl => prefix_get (List.prefix_append _ _) hl
  range := fun _ _ _ _ _ _ hr hn => ⟨hr, fun hm => by
      rcases List.mem_append.mp hm with q | q
      · exact hn q
      · have q' := List.mem_singleton.mp q; subst q'; exact rl_absurd hr hD⟩
  dict := fun _ _ ho hn hsm => ⟨ho, fun hm => by
      rcases List.mem_append.mp hm with q | q
      · exact hn q
      · have q' := List.mem_singleton.mp q; subst q'; obtain ⟨o, ho⟩ := hsm; have h4 : cx.h₀.get? _ = some o := ho; rw [hb] at h4; cases h4⟩
theorem VR.adopt {h : Heap} {D : Addr} {ws : Array Value} {k : Nat} (hD : IsL h D ws k) (hb : cx.h₀.get? D = Option.none) {a : AV} {v : Value} (r : VR (cx.hide D) ι h a v) : VR cx (ι ++ [D]) h a v := r.gen (.adopt hD hb)
theorem VRs.adopt {h : Heap} {D : Addr} {ws : Array Value} {k : Nat} (hD : IsL h D ws k) (hb : cx.h₀.get? D = Option.none) {xs : List AV} {vs : List Value} (r : VRs (cx.hide D) ι h xs vs) : VRs cx (ι ++ [D]) h xs vs := r.gen (.adopt hD hb)
/-- a hidden list turns -/
theorem Tn.hturn {h h' : Heap} {D : Addr} {ws : Array Value} {k : Nat} (hD : IsL h D ws k) (hm : D ∈ cx.hid) (hb : cx.h₀.get? D = none) (hk : ∀ b o, b ≠ D → h.get? b = some o → h'.get? b = some o) : Tn cx cx ι ι h h' where
  same := ⟨rfl, rfl, rfl⟩
  tup := fun _ _ _ ht hn => ⟨hk _ _ (fun q => by subst q; exact tl_absurd ht hD) ht, hn⟩
  lst := fun _ _ _ ht hn => ⟨hk _ _ (fun q => hn.2 (q ▸ hm)) ht, hn⟩
  loc := fun _ _ hl => hl
  range := fun _ _ _ _ _ _ hr hn => ⟨hk _ _ (fun q => by subst q; exact rl_absurd hr hD) hr, hn⟩
  dict := fun _ _ ho hn hsm => ⟨hk _ _ (fun q => by subst q; obtain ⟨o', ho⟩ := hsm; rw [hb] at ho; cases ho) ho, hn⟩
theorem VR.hturn {h h' : Heap} {D : Addr} {ws : Array Value} {k : Nat} (hD : IsL h D ws k) (hm : D ∈ cx.hid) (hb : cx.h₀.get? D = Option.none) (hk : ∀ b o, b ≠ D → h.get? b = some o → h'.get? b = some o) {a : AV} {v : Value} (r : VR cx ι h a v) : VR cx ι h' a v := r.gen (.hturn hD hm hb hk)
theorem VRs.hturn {h h' : Heap} {D : Addr} {ws : Array Value} {k : Nat} (hD : IsL h D ws k) (hm : D ∈ cx.hid) (hb : cx.h₀.get? D = Option.none) (hk : ∀ b o, b ≠ D → h.get? b = some o → h'.get? b = some o) {xs : List AV} {vs : List Value} (r : VRs cx ι h xs vs) : VRs cx ι h' xs vs := r.gen (.hturn hD hm hb hk)

theorem OR.hide {h : Heap} {D a : Addr} {o : AO} (hD : h.get? D = none) (r : OR cx ι h a o) : OR (cx.hide D) ι h a o := by
  cases o with
  | list xs => obtain ⟨vs, n, hl, hz, hs⟩ := r; exact ⟨vs, n, hl, hz, hs.hide hD⟩
  | dict es => obtain ⟨kvs, hd, h1, h2, hs⟩ := r; exact ⟨kvs, hd, h1, h2, hs.hide hD⟩
theorem OR.unhide {h : Heap} {D a : Addr} {o : AO} (r : OR (cx.hide D) ι h a o) : OR cx ι h a o := by
  cases o with
  | list xs => obtain ⟨vs, n, hl, hz, hs⟩ := r; exact ⟨vs, n, hl, hz, hs.unhide⟩
  | dict es => obtain ⟨kvs, hd, h1, h2, hs⟩ := r; exact ⟨kvs, hd, h1, h2, hs.unhide⟩

theorem St.hide (S : St cx ι H s) {D : Addr} {h' : Heap} {t n : Nat} {ws : Array Value} (hD : s.heap.get? D = none) (hk : ∀ b q, s.heap.get? b = some q → h'.get? b = some q) (hL : IsL h' D ws n) : St (cx.hide D) ι H { s with heap := h', toks := t } where
  base := fun b o e => hk b o (S.base b o e)
  len := S.len
  nodup := S.nodup
  fresh := S.fresh
  own := fun l a o e1 e2 => ((S.own l a o e1 e2).hide hD).keep (Ext.keeps hk) (hk a)
  gens := S.gens
  os := S.os
  sysm := S.sysm
  hid := fun a ha => by
    rcases List.mem_cons.mp ha with rfl | ha
    · exact ⟨S.notin hD, S.base_none hD, ws, n, hL⟩
    · obtain ⟨h1, h2, vs, m, h3⟩ := S.hid a ha
      exact ⟨h1, h2, vs, m, hk _ _ h3⟩
theorem St.unhide {D : Addr} (S : St (cx.hide D) ι H s) : St cx ι H s :=
  ⟨S.base, S.len, S.nodup, S.fresh, fun l a o e1 e2 => (S.own l a o e1 e2).unhide, S.gens, S.os, S.sysm, fun a ha => S.hid a (List.mem_cons_of_mem _ ha)⟩
theorem St.hturn (S : St cx ι H s) {D : Addr} {ws : Array Value} {k : Nat} (hm : D ∈ cx.hid) (hD : IsL s.heap D ws k) (f : Array Value → Array Value) : St cx ι H { s with heap := s.heap.update D (Obj.mapSeq f) } := by
  obtain ⟨hDi, hb, _⟩ := S.hid D hm
  have hk : ∀ b o, b ≠ D → s.heap.get? b = some o → (s.heap.update D (Obj.mapSeq f)).get? b = some o := fun b o hb e => (Heap.get?_update_other _ _ (Ne.symm hb)).trans e
  refine ⟨fun b o e => hk b o (fun z => by rw [z, hb] at e; cases e) (S.base b o e), S.len, S.nodup, S.fresh, fun l a o e1 e2 => ?_, S.gens, S.os, S.sysm, fun a ha => ?_⟩
  · have hac : a ≠ D := fun q => hDi (q ▸ List.mem_of_getElem? e1)
    have r := S.own l a o e1 e2
    cases o with
    | list xs => obtain ⟨vs, n, hl, hz, hs⟩ := r; exact ⟨vs, n, hk a _ hac hl, hz, hs.hturn hD hm hb hk⟩
    | dict es => obtain ⟨kvs, hd, h1, h2, hs⟩ := r; exact ⟨kvs, DictOf.at' hd (fun o e => hk a o hac e), h1, h2, hs.hturn hD hm hb hk⟩
  · obtain ⟨h1, h2, vs, n, h3⟩ := S.hid a ha
    by_cases haD : a = D
    · subst haD; exact ⟨h1, h2, _, _, IsL.update hD f⟩
    · exact ⟨h1, h2, vs, n, hk a _ haD h3⟩
theorem St.adopt {D : Addr} {ws : Array Value} {k : Nat} {xs : List AV} (S : St (cx.hide D) ι H s) (hD : IsL s.heap D ws k) (hz : xs.length ≤ LIM) (hs : VRs (cx.hide D) ι s.heap xs ws.toList) (hnd : D ∉ cx.hid) : St cx (ι ++ [D]) (H ++ [.list xs]) s := by
  obtain ⟨hDi, hb, _⟩ := S.hid D List.mem_cons_self
  refine ⟨S.base, by simp [S.len], ?_, ?_, ?_, S.gens, S.os, S.sysm, ?_⟩
  · rw [List.nodup_append]
    exact ⟨S.nodup, by simp, fun x hx y hy => by rw [List.mem_singleton.mp hy]; exact fun e => hDi (e ▸ hx)⟩
  · intro b hbm
    rcases List.mem_append.mp hbm with h1 | h1
    · exact S.fresh b h1
    · rw [List.mem_singleton.mp h1]; exact hb
  · intro l b q e1' e2
    by_cases hl : l < ι.length
    · rw [List.getElem?_append_left hl] at e1'
      rw [List.getElem?_append_left (S.len ▸ hl)] at e2
      have r := S.own l b q e1' e2
      cases q with
      | list ys => obtain ⟨vs, n, hl, hz, hs⟩ := r; exact ⟨vs, n, hl, hz, hs.adopt (cx := cx) hD hb⟩
      | dict es => obtain ⟨kvs, hd, h1, h2, hs⟩ := r; exact ⟨kvs, hd, h1, h2, hs.adopt (cx := cx) hD hb⟩
    · rw [List.getElem?_append_right (by omega)] at e1'
      rw [List.getElem?_append_right (by rw [← S.len]; omega), ← S.len] at e2
      have hl0 : l - ι.length = 0 := by
        rcases Nat.eq_zero_or_pos (l - ι.length) with h0 | h0
        · exact h0
        · rw [List.getElem?_eq_none (by simp; omega)] at e1'; cases e1'
      rw [hl0] at e1' e2
      simp at e1' e2
      subst e1'; subst e2
      exact ⟨ws, k, hD, hz, hs.adopt (cx := cx) hD hb⟩
  · intro a ha
    obtain ⟨h1, h2, vs, n, h3⟩ := S.hid a (List.mem_cons_of_mem _ ha)
    refine ⟨fun hm => ?_, h2, vs, n, h3⟩
    rcases List.mem_append.mp hm with hm | hm
    · exact h1 hm
    · exact hnd (List.mem_singleton.mp hm ▸ ha)

theorem EnvR.hide {env : Env} {sc : Scope} {ns : List Str} {σ : Loc} {h : Heap} {D : Addr} (e : EnvR cx env sc ns σ ι h) (hD : h.get? D = none) : EnvR (cx.hide D) env sc ns σ ι h := by
  refine ⟨e.kind, e.glob, e.blt, e.notin, e.fresh, ?_, ?_, e.has, e.klocal, e.kcell, e.kglob⟩
  · obtain ⟨m, hm, hv⟩ := e.nsm
    exact ⟨m, hm, fun y i a h1 h2 h3 => by obtain ⟨v, q1, q2⟩ := hv y i a h1 h2 h3; exact ⟨v, q1, q2.hide hD⟩⟩
  · intro y i a h1 h2 h3
    obtain ⟨d, v, q1, q2, q3, q4⟩ := e.cel y i a h1 h2 h3
    exact ⟨d, v, q1, q2, q3, q4.hide hD⟩
theorem EnvR.unhide {env : Env} {sc : Scope} {ns : List Str} {σ : Loc} {h : Heap} {D : Addr} (e : EnvR (cx.hide D) env sc ns σ ι h) : EnvR cx env sc ns σ ι h := by
  refine ⟨e.kind, e.glob, e.blt, e.notin, e.fresh, ?_, ?_, e.has, e.klocal, e.kcell, e.kglob⟩
  · obtain ⟨m, hm, hv⟩ := e.nsm
    exact ⟨m, hm, fun y i a h1 h2 h3 => by obtain ⟨v, q1, q2⟩ := hv y i a h1 h2 h3; exact ⟨v, q1, q2.unhide⟩⟩
  · intro y i a h1 h2 h3
    obtain ⟨d, v, q1, q2, q3, q4⟩ := e.cel y i a h1 h2 h3
    exact ⟨d, v, q1, q2, q3, q4.unhide⟩
theorem EnvR.hturn {env : Env} {sc : Scope} {ns : List Str} {σ : Loc} {h h' : Heap} {D : Addr} {ws : Array Value} {k : Nat} (e : EnvR cx env sc ns σ ι h) (hD : IsL h D ws k) (hm : D ∈ cx.hid) (hb : cx.h₀.get? D = none) (hk : ∀ b o, b ≠ D → h.get? b = some o → h'.get? b = some o) : EnvR cx env sc ns σ ι h' := by
  have hD' : h.get? D = some _ := hD
  have hcell : ∀ d v, h.IsCell d v → h'.IsCell d v := fun d v ⟨o, ho, hd⟩ => ⟨o, hk d o (fun q => by subst q; rw [hD'] at ho; cases ho; cases hd) ho, hd⟩
  refine ⟨e.kind, e.glob, e.blt, e.notin, e.fresh, ?_, ?_, ?_, e.klocal, e.kcell, e.kglob⟩
  · obtain ⟨m, hmm, hv⟩ := e.nsm
    have hLc : env.locals ≠ D := fun q => by
      obtain ⟨o, es, ep, ho, hd, _⟩ := hmm
      rw [q, hD'] at ho; cases ho; cases hd
    exact ⟨m, hmm.at' fun o ho => hk _ o hLc ho, fun y i a h1 h2 h3 => by obtain ⟨v, q1, q2⟩ := hv y i a h1 h2 h3; exact ⟨v, q1, q2.hturn hD hm hb hk⟩⟩
  · intro y i a h1 h2 h3
    obtain ⟨d, v, q1, q2, q3, q4⟩ := e.cel y i a h1 h2 h3
    exact ⟨d, v, q1, hcell _ _ q2, q3, q4.hturn hD hm hb hk⟩
  · intro y h1 h2
    obtain ⟨d, v, q1, q2, q3⟩ := e.has y h1 h2
    exact ⟨d, v, q1, hcell _ _ q2, q3⟩
theorem ItR.hide {h : Heap} {it D : Addr} {src : Src} {i : Nat} (x : ItR cx ι h it src i) (hD : h.get? D = none) : ItR (cx.hide D) ι h it src i := by
  cases x with
  | list h1 h2 h3 h4 =>
    exact .list h1 h2 ⟨h3.1, fun hm => by
      rcases List.mem_cons.mp hm with q | q
      · subst q; have h5 : h.get? _ = some _ := h2; rw [hD] at h5; cases h5
      · exact h3.2 q⟩ (h4.hide hD)
  | tup h1 h2 h3 h4 => exact .tup h1 h2 h3 (h4.hide hD)
  | range h1 => exact .range h1
  | «at» h1 h2 => exact .at h1 h2
theorem ItR.hturn {h h' : Heap} {it D : Addr} {src : Src} {i : Nat} {ws : Array Value} {k : Nat} (x : ItR cx ι h it src i) (hD : IsL h D ws k) (hm : D ∈ cx.hid) (hDi : D ∉ ι) (hb : cx.h₀.get? D = none) (hk : ∀ b o, b ≠ D → h.get? b = some o → h'.get? b = some o) : ItR cx ι h' it src i := by
  have hD' : h.get? D = some _ := hD
  have hit : it ≠ D := fun q => by
    obtain ⟨o, ho, hn, _⟩ := x.obj
    rw [q, hD'] at ho; cases ho; exact hn.1 _ _ rfl
  cases x with
  | list h1 h2 h3 h4 => exact .list (h1.at fun o ho => hk _ o hit ho) (hk _ _ (fun q => h3.2 (q ▸ hm)) h2) h3 (h4.hturn hD hm hb hk)
  | tup h1 h2 h3 h4 =>
    obtain ⟨o, ho, r⟩ := h1
    exact .tup ⟨o, hk _ o hit ho, r⟩ (hk _ _ (fun q => by subst q; exact tl_absurd h2 hD) h2) h3 (h4.hturn hD hm hb hk)
  | range h1 => exact .range (hk _ _ hit h1)
  | «at» h1 h2 => exact .at (h1.at fun o ho => hk _ o hit ho) h2

/-- what stands at the top is hidden from no one -/
theorem VR.top {h : Heap} (hb : ∀ a ∈ cx.hid, h.get? a = Option.none) {a : AV} {v : Value} (r : VR { cx with hid := [] } ι h a v) : VR cx ι h a v :=
  VR.gen (cx := { cx with hid := [] }) (cx' := cx) ⟨⟨rfl, rfl, rfl⟩, fun _ _ _ ht hn => ⟨ht, hn⟩, fun _ _ _ ht hn => ⟨ht, hn.1, fun hm => by have h4 : h.get? _ = some _ := ht; rw [hb _ hm] at h4; cases h4⟩, fun _ _ hl => hl, fun _ _ _ _ _ _ hr hn => ⟨hr, hn⟩, fun _ _ ho hn _ => ⟨ho, hn⟩⟩ r
theorem VR.ofBase (S : St cx ι H s) {a : AV} {v : Value} (r : VR { cx with hid := [] } [] cx.h₀ a v) : VR cx ι s.heap a v :=
  (VR.top (fun a ha => (S.hid a ha).2.1) r).mono S.ext₀

theorem Good.hide {P : Pg} {D : Addr} (G : Good cx P) : Good (cx.hide D) P := ⟨G.g, G.b, G.nolim, G.glob, G.bi, G.isi, G.ty, G.zip, G.enum⟩
end
end Mine


set_option autoImplicit false
set_option linter.unusedVariables false
namespace Mine
open PySem PyProof.Rows PySem.SeqAt

section
variable {cx : Cx} {A : Around} {ι : List Addr} {H H' : AHeap} {s : Shared}

theorem closureFor_some {env : Env} {scope : Scope} (h : ∀ y, (y, NameKind.free) ∈ scope.names → ∃ c, env.cells.lookup y = some c) :
    ∃ cl, closureFor scope env = pure cl ∧ ∀ y, (y, NameKind.free) ∈ scope.names → cl.lookup y = env.cells.lookup y := by
  have go : ∀ (names : List (Str × NameKind)) (acc : List (Str × Addr)), (∀ y, (y, NameKind.free) ∈ names → ∃ c, env.cells.lookup y = some c) →
      (∀ y c, acc.lookup y = some c → env.cells.lookup y = some c) →
      ∃ cl, (forIn (m := Sem) names acc fun x r => if (x.2 == NameKind.free) = true then (do let c ← cellOf env x.1; pure (ForInStep.yield ((x.1, c) :: r))) else pure (ForInStep.yield r)) = pure cl ∧
        (∀ y c, cl.lookup y = some c → env.cells.lookup y = some c) ∧ (∀ y, (y, NameKind.free) ∈ names → ∃ c, cl.lookup y = some c) ∧ (∀ y c, acc.lookup y = some c → ∃ c', cl.lookup y = some c') := by
    intro names
    induction names with
    | nil => intro acc _ ha; exact ⟨acc, rfl, ha, fun y hy => (nomatch hy), fun y c hc => ⟨c, hc⟩⟩
    | cons x r ih =>
      intro acc hn ha
      rw [List.forIn_cons]
      by_cases hx : x.2 = .free
      · obtain ⟨c, hc⟩ := hn x.1 (by rw [← hx]; exact List.mem_cons_self)
        have hcell : cellOf env x.1 = pure c := by unfold cellOf; rw [hc]
        simp only [hx, beq_self_eq_true, if_true, hcell, pure_bind]
        have ha' : ∀ y c', ((x.1, c) :: acc).lookup y = some c' → env.cells.lookup y = some c' := fun y c' h' => by
          rw [List.lookup_cons] at h'
          cases hb : y == x.1 with
          | true => rw [hb] at h'; cases h'; rw [beq_iff_eq.mp hb]; exact hc
          | false => rw [hb] at h'; exact ha y c' h'
        obtain ⟨cl, e1, e2, e3, e4⟩ := ih ((x.1, c) :: acc) (fun y hy => hn y (List.mem_cons_of_mem _ hy)) ha'
        refine ⟨cl, e1, e2, fun y hy => ?_, fun y c' h' => ?_⟩
        · rcases List.mem_cons.mp hy with q | q
          · exact e4 y c (by rw [← q]; simp [List.lookup_cons])
          · exact e3 y q
        · cases hb : y == x.1 with
          | true => exact e4 y c (by rw [List.lookup_cons, hb])
          | false => exact e4 y c' (by rw [List.lookup_cons, hb]; exact h')
      · have hb : (x.2 == NameKind.free) = false := by simpa using hx
        simp only [hb, Bool.false_eq_true, if_false, pure_bind]
        obtain ⟨cl, e1, e2, e3, e4⟩ := ih acc (fun y hy => hn y (List.mem_cons_of_mem _ hy)) ha
        refine ⟨cl, e1, e2, fun y hy => ?_, e4⟩
        rcases List.mem_cons.mp hy with q | q
        · exact absurd (by rw [← q]) hx
        · exact e3 y q
  obtain ⟨cl, e1, e2, e3, _⟩ := go scope.names [] h (fun y c hc => by cases hc)
  refine ⟨cl, ?_, fun y hy => ?_⟩
  · have e0 : closureFor scope env = ((forIn (m := Sem) scope.names ([] : List (Str × Addr)) fun x r => if (x.2 == NameKind.free) = true then (do let c ← cellOf env x.1; pure (ForInStep.yield ((x.1, c) :: r))) else pure (ForInStep.yield r)) >>= fun cs => pure cs) := by
      unfold closureFor
      congr 1
    rw [e0, e1]; rfl
  · obtain ⟨c, hc⟩ := e3 y hy
    rw [hc, e2 y c hc]
end
end Mine


set_option autoImplicit false
set_option linter.unusedVariables false
namespace Mine
open PySem PyProof.Rows PySem.SeqAt

section
variable {cx : Cx} {A : Around} {ι : List Addr} {H H' : AHeap} {s : Shared}

theorem relabel_lookup {env : Env} (y : Str) : ∀ (names : List (Str × NameKind)),
    (names.map fun (n, k) => if (k == NameKind.free && env.scope.kind == .function && env.kindOf n == some .cell) then (n, NameKind.cell) else (n, k)).lookup y =
      (names.lookup y).map (fun k => if (k == NameKind.free && env.scope.kind == .function && env.kindOf y == some .cell) then NameKind.cell else k)
  | [] => rfl
  | (n, k) :: r => by
    have ih := relabel_lookup (env := env) y r
    show List.lookup y ((if (k == NameKind.free && env.scope.kind == .function && env.kindOf n == some .cell) = true then (n, NameKind.cell) else (n, k)) :: _) = _
    cases hx : y == n with
    | true =>
      have hyn : y = n := beq_iff_eq.mp hx
      subst hyn
      by_cases hc : (k == NameKind.free && env.scope.kind == .function && env.kindOf y == some .cell) = true
      · rw [if_pos hc]; simp only [List.lookup_cons, hx, Option.map_some, hc, if_true]
      · rw [if_neg hc]; simp only [List.lookup_cons, hx, Option.map_some, hc]; rfl
    | false =>
      simp only [List.lookup_cons, hx]
      by_cases hc : (k == NameKind.free && env.scope.kind == .function && env.kindOf n == some .cell) = true
      · rw [if_pos hc]; simp only [List.lookup_cons, hx]; exact ih
      · rw [if_neg hc]; simp only [List.lookup_cons, hx]; exact ih

theorem lookup_mem {names : List (Str × NameKind)} {y : Str} {k : NameKind} (h : names.lookup y = some k) : (y, k) ∈ names := by
  induction names with
  | nil => cases h
  | cons p r ih =>
    rw [List.lookup_cons] at h
    cases hb : y == p.1 with
    | true => rw [hb] at h; cases h; rw [beq_iff_eq.mp hb]; exact List.mem_cons_self
    | false => rw [hb] at h; exact List.mem_cons_of_mem _ (ih h)

structure CompOK (sc : Scope) (ns : List Str) (scope : Scope) (x : Str) : Prop where
  kind : scope.kind = .function
  own : scope.names.lookup x = some .local
  no0 : (".0" : Str) ∉ ns
  loc : ∀ y, (y, NameKind.local) ∈ scope.names → (y = x ∨ y = (".0" : Str)) ∧ scope.names.lookup y = some .local
  free : ∀ y, (y, NameKind.free) ∈ scope.names → sc.names.lookup y = some .cell ∧ ns.contains y = true
  kinds : ∀ y k, (y, k) ∈ scope.names → k = .local ∨ k = .free ∨ k = .globalImplicit

theorem compOk_of {sc : Scope} {ns : List Str} {scope : Scope} {x : Str} (h : compOk sc ns scope x = true) : CompOK sc ns scope x := by
  unfold compOk at h
  rw [Bool.and_eq_true, Bool.and_eq_true, Bool.and_eq_true, List.all_eq_true] at h
  obtain ⟨⟨⟨h1, h2⟩, h3⟩, h4⟩ := h
  refine ⟨by simpa using h1, by simpa using h2, by simpa using h3, fun y hy => ?_, fun y hy => ?_, fun y k hy => ?_⟩
  · have := h4 _ hy
    simpa using this
  · have := h4 _ hy
    simpa using this
  · have := h4 _ hy
    cases k <;> simp_all

theorem idxOf_cons_self {x : Str} {ns : List Str} : (x :: ns).idxOf? x = some 0 := by simp [List.idxOf?_cons]
theorem idxOf_cons_ne {x y : Str} {ns : List Str} (h : y ≠ x) : (x :: ns).idxOf? y = (ns.idxOf? y).map (· + 1) := by
  rw [List.idxOf?_cons, if_neg (by simpa using Ne.symm h)]
theorem idxOf_none {y : Str} {ns : List Str} (h : y ∉ ns) : ns.idxOf? y = none := by
  rw [List.idxOf?_eq_none_iff]; exact h

theorem EnvR.comp {env : Env} {sc : Scope} {ns : List Str} {σ : Loc} {h : Heap} {scope : Scope} {x : Str} {cl : List (Str × Addr)} {C : Addr} {m : Str → Option Value} {a : AV} {v : Value}
    (e : EnvR cx env sc ns σ ι h) (ok : CompOK sc ns scope x) (hcl : ∀ y, (y, NameKind.free) ∈ scope.names → cl.lookup y = env.cells.lookup y)
    (hC : C ∉ ι) (hb : cx.h₀.get? C = none) (hn : h.Ns C m) (hx : m x = some v) (r : VR cx ι h a v) : EnvR cx (compEnvC scope cl C env) scope (x :: ns) (some a :: σ) ι h := by
  have hk : ∀ y, (compEnvC scope cl C env).kindOf y = (scope.names.lookup y).map (fun k => if (k == NameKind.free && env.scope.kind == .function && env.kindOf y == some .cell) then NameKind.cell else k) := fun y => relabel_lookup (env := env) y scope.names
  have hlook : ∀ y k, scope.names.lookup y = some k → k = .local ∨ k = .free ∨ k = .globalImplicit := fun y k q => ok.kinds y k (lookup_mem q)
  refine ⟨?_, e.glob, e.blt, hC, hb, ⟨m, hn, ?_⟩, ?_, ?_, ?_, ?_, ?_⟩
  · simp [compEnvC, relabel, ok.kind]
  · intro y i b h1 h2 h3
    rw [hk] at h3
    cases hl : scope.names.lookup y with
    | none => rw [hl] at h3; cases h3
    | some k =>
      rw [hl] at h3
      rcases hlook y k hl with q | q | q
      · subst q
        have hy := (ok.loc y (lookup_mem hl)).1
        by_cases hyx : y = x
        · subst hyx
          rw [idxOf_cons_self] at h1
          cases h1
          simp only [List.getElem?_cons_zero, Option.some.injEq] at h2
          subst h2
          exact ⟨v, hx, r⟩
        · rcases hy with hy | hy
          · exact absurd hy hyx
          · rw [idxOf_cons_ne hyx, idxOf_none (by rw [hy]; exact ok.no0)] at h1; cases h1
      · subst q
        simp only [Option.map_some] at h3
        split at h3 <;> cases h3
      · subst q; simp at h3
  · intro y i b h1 h2 h3
    rw [hk] at h3
    cases hl : scope.names.lookup y with
    | none => rw [hl] at h3; rcases h3 with h3 | h3 <;> cases h3
    | some k =>
      rw [hl] at h3
      rcases hlook y k hl with q | q | q
      · subst q; simp at h3
      · subst q
        obtain ⟨f1, f2⟩ := ok.free y (lookup_mem hl)
        have hyx : y ≠ x := fun q => by subst q; rw [ok.own] at hl; cases hl
        rw [idxOf_cons_ne hyx] at h1
        cases hi : ns.idxOf? y with
        | none => rw [hi] at h1; cases h1
        | some j =>
          rw [hi] at h1
          cases h1
          simp only [List.getElem?_cons_succ] at h2
          obtain ⟨c, w, q1, q2, q3, q4⟩ := e.cel y j b hi h2 (.inl (e.kcell y f1))
          exact ⟨c, w, (hcl y (lookup_mem hl)).trans q1, q2, q3, q4⟩
      · subst q; simp at h3
  · intro y h1 h2
    rcases hlook y _ h2 with q | q | q <;> cases q
  · intro y hy
    rw [hk]
    unfold isLocal at hy
    cases hl : scope.names.lookup y with
    | none => rw [hl] at hy; cases hy
    | some k =>
      rcases hlook y k hl with q | q | q
      · subst q; exact .inl rfl
      · subst q
        simp only [Option.map_some]
        split
        · exact .inr (.inl rfl)
        · exact .inr (.inr rfl)
      · subst q; rw [hl] at hy; cases hy
  · intro y h2
    rcases hlook y _ h2 with q | q | q <;> cases q
  · intro y hy
    rw [hk]
    unfold isGlob at hy
    cases hl : scope.names.lookup y with
    | none => rw [hl] at hy; cases hy
    | some k =>
      rcases hlook y k hl with q | q | q
      · subst q; rw [hl] at hy; cases hy
      · subst q; rw [hl] at hy; cases hy
      · subst q; rfl

theorem Ext.priv {ι ι' : List Addr} {h h' h'' : Heap} {c : Addr} (e : Ext ι ι' h h') (hc : h.get? c = none) (hk : ∀ b o, b ≠ c → h'.get? b = some o → h''.get? b = some o) : Ext ι ι' h h'' :=
  ⟨e.pre, e.news, fun b o hb hn => hk b o (fun q => by rw [q, hc] at hb; cases hb) (e.keep b o hb hn)⟩
theorem Ext.fresh {ι ι' : List Addr} {h h' : Heap} (e : Ext ι ι' h h') {b : Addr} (h1 : b ∉ ι) (h2 : ∃ o, h.get? b = some o) : b ∉ ι' := let ⟨_, ho⟩ := h2; e.notin ho h1

theorem Ns.notData {h : Heap} {C : Addr} {m : Str → Option Value} (hn : h.Ns C m) : ∀ o, h.get? C = some o → NotData o ∧ (∀ v, o.data ≠ .cell v) := fun o ho => by
  obtain ⟨o', es, ep, ho', hd, _⟩ := hn
  rw [ho] at ho'; cases ho'
  refine ⟨⟨fun vs n q => ?_, .inl fun vs q => ?_⟩, fun v q => ?_⟩ <;> rw [hd] at q <;> cases q
end
end Mine


set_option autoImplicit false
set_option linter.unusedVariables false
namespace Mine
open PySem PyProof.Rows PySem.SeqAt

/-- what holds at each turn of a comprehension -/
structure CL (cx : Cx) (env : Env) (sc : Scope) (ns : List Str) (σ : Loc) (ι₁ : List Addr) (h₁ : Heap) (it C D : Addr) (src : Src) (i : Nat) (acc : List AV) (ι : List Addr) (H : AHeap) (s : Shared) : Prop where
  S : St cx ι H s
  X : Ext ι₁ ι h₁ s.heap
  E : EnvR cx env sc ns σ ι s.heap
  J : ItR cx ι s.heap it src i
  L : ∃ vs n, IsL s.heap D vs n ∧ VRs cx ι s.heap acc vs.toList
  N : ∃ m, s.heap.Ns C m
  hit : it ∉ ι
  hC : C ∉ ι

structure CLs (cx : Cx) (env : Env) (h₁ : Heap) (it C D : Addr) : Prop where
  hD : D ∈ cx.hid
  iN : h₁.get? it = none
  cN : h₁.get? C = none
  dN : h₁.get? D = none
  i0 : cx.h₀.get? it = none
  c0 : cx.h₀.get? C = none
  d0 : cx.h₀.get? D = none
  iC : it ≠ C
  lC : env.locals ≠ C
  lI : env.locals ≠ it

section
variable {cx : Cx} {A : Around} {ι ι' : List Addr} {H H' : AHeap} {s s' : Shared} {env : Env} {sc : Scope} {ns : List Str} {σ : Loc} {ι₁ : List Addr} {h₁ : Heap} {it C D : Addr} {src : Src} {i : Nat} {acc : List AV}

theorem CL.mono (c : CL cx env sc ns σ ι₁ h₁ it C D src i acc ι H s) (K : CLs cx env h₁ it C D) (x : Ext ι ι' s.heap s'.heap) (S : St cx ι' H' s') : CL cx env sc ns σ ι₁ h₁ it C D src i acc ι' H' s' := by
  obtain ⟨vs, n, l1, l2⟩ := c.L
  obtain ⟨m, hm⟩ := c.N
  have hDi : D ∉ ι := (c.S.hid D K.hD).1
  obtain ⟨oi, hoi, _⟩ := c.J.obj
  obtain ⟨oc, _, _, hoc, _⟩ := id hm
  exact ⟨S, c.X.trans x, c.E.stable _ _ _ _ x, c.J.mono c.hit x, ⟨vs, n, x.keep _ _ l1 hDi, l2.mono x⟩, ⟨m, hm.at' fun o ho => x.keep _ o ho c.hC⟩, x.notin hoi c.hit, x.notin hoc c.hC⟩

/-- the comprehension's own dict turns -/
theorem CL.turnC (c : CL cx env sc ns σ ι₁ h₁ it C D src i acc ι H s) (K : CLs cx env h₁ it C D) {h' : Heap} {t : Nat} {m' : Str → Option Value} (hk : ∀ b o, b ≠ C → s.heap.get? b = some o → h'.get? b = some o) (hn : h'.Ns C m') :
    CL cx env sc ns σ ι₁ h₁ it C D src i acc ι H { s with heap := h', toks := t } := by
  obtain ⟨vs, n, l1, l2⟩ := c.L
  obtain ⟨m, hm⟩ := c.N
  have hp := Ns.notData hm
  have hp' : ∀ o, s.heap.get? C = some o → NotData o := fun o ho => (hp o ho).1
  have hDC : D ≠ C := fun q => by subst q; exact (hp' _ l1).1 _ _ rfl
  exact ⟨c.S.priv c.hC K.c0 hp' hk, c.X.priv K.cN hk, c.E.priv K.c0 K.lC hp hk, c.J.priv K.iC c.hC K.c0 hp' hk, ⟨vs, n, hk _ _ hDC l1, l2.but hp' K.c0 hk⟩, ⟨m', hn⟩, c.hit, c.hC⟩

/-- the iterator turns -/
theorem CL.turnI (c : CL cx env sc ns σ ι₁ h₁ it C D src i acc ι H s) (K : CLs cx env h₁ it C D) {h' : Heap} {t : Nat} {j : Nat} (hk : ∀ b o, b ≠ it → s.heap.get? b = some o → h'.get? b = some o) (hn : ItR cx ι h' it src j) :
    CL cx env sc ns σ ι₁ h₁ it C D src j acc ι H { s with heap := h', toks := t } := by
  obtain ⟨vs, n, l1, l2⟩ := c.L
  obtain ⟨m, hm⟩ := c.N
  obtain ⟨oi, hoi, q1, q2, q3⟩ := c.J.obj
  have hp : ∀ o, s.heap.get? it = some o → NotData o ∧ (∀ v, o.data ≠ .cell v) := fun o ho => by rw [hoi] at ho; cases ho; exact ⟨q1, q3⟩
  have hp' : ∀ o, s.heap.get? it = some o → NotData o := fun o ho => (hp o ho).1
  have hDI : D ≠ it := fun q => by subst q; exact (hp' _ l1).1 _ _ rfl
  exact ⟨c.S.priv c.hit K.i0 hp' hk, c.X.priv K.iN hk, c.E.priv K.i0 K.lI hp hk, hn, ⟨vs, n, hk _ _ hDI l1, l2.but hp' K.i0 hk⟩, ⟨m, hm.at' fun o ho => hk _ o (Ne.symm K.iC) ho⟩, c.hit, c.hC⟩

/-- an item is added -/
theorem CL.add (c : CL cx env sc ns σ ι₁ h₁ it C D src i acc ι H s) (K : CLs cx env h₁ it C D) {a : AV} {v : Value} {Q : Value → Shared → Prop} {E : Value → Shared → Prop} (r : VR cx ι s.heap a v) (hz : acc.length < LIM)
    (hQ : ∀ w s', CL cx env sc ns σ ι₁ h₁ it C D src i (acc ++ [a]) ι H s' → Q w s') : wpAny (model cx.prog cx.w) A (PySem.call (.builtin "list.append") [.ref D, v]) Q E s := by
  obtain ⟨vs, n, l1, l2⟩ := c.L
  obtain ⟨m, hm⟩ := c.N
  have hsz := l2.size
  have hL := LIM_is
  have hSL := sizeLine_is
  refine call_meets F.slot_list_append ⟨_, l1, rfl⟩ F.entry_list_append (F.args_list_append_2 _ _) (list_append _ vs n v (by omega)) ⟨l1, hQ _ _ ?_⟩
  have hDi : D ∉ ι := (c.S.hid D K.hD).1
  have hk : ∀ b o, b ≠ D → s.heap.get? b = some o → (s.heap.update D (Obj.mapSeq (·.push v))).get? b = some o := fun b o hb e => (Heap.get?_update_other _ _ (Ne.symm hb)).trans e
  have hCD : C ≠ D := fun q => by subst q; exact ((Ns.notData hm) _ l1).1.1 _ _ rfl
  refine ⟨c.S.hturn K.hD l1 _, c.X.priv K.dN hk, c.E.hturn l1 K.hD K.d0 hk, c.J.hturn l1 K.hD hDi K.d0 hk, ⟨_, _, IsL.update l1 _, ?_⟩, ⟨m, hm.at' fun o ho => hk _ o hCD ho⟩, c.hit, c.hC⟩
  rw [Array.toList_push]
  exact (l2.append (.one r)).hturn l1 K.hD K.d0 hk
end
end Mine


set_option autoImplicit false
set_option linter.unusedVariables false
namespace Mine
open PySem PyProof.Rows PySem.SeqAt

noncomputable def compBody (te : AV → Expr → M Bool) (ev : AV → Expr → M AV) (ifs : List Expr) (elt : Expr) (v : AV) : M (Option AV) := do
  let t ← ifs1 (te v) ifs
  if t then do
    let y ← ev v elt
    pure (some y)
  else pure none

section
variable {cx : Cx} {A : Around} {ι : List Addr} {H H' H1 H2 H3 H4 : AHeap} {s : Shared} {env : Env} {sc : Scope} {ns : List Str} {σ : Loc} {src : Src} {acc : List AV}

theorem ifs_sound {te : Expr → M Bool} {I : List Addr → Heap → Prop} {env' : Env} {E : Value → Shared → Prop} (hte : TeOK cx A env' I te) (S : St cx ι H s) (i : I ι s.heap) {ifs : List Expr} {b : Bool} (h : ifs1 te ifs H = some (b, H')) :
    wpAny (model cx.prog cx.w) A (forIn ifs true fun c r => if r = true then do let ok ← PySem.isTrue c env' (eval c env'); pure (ForInStep.yield ok) else pure (ForInStep.yield r)) (PostB cx ι s.heap b H') E s := by
  unfold ifs1 at h
  split at h
  · obtain ⟨rfl, rfl⟩ := pure_some h
    exact wpAny_tests_nil ⟨rfl, ι, Ext.refl _ _, S⟩
  · exact wpAny_tests_one (wpAny_mono (hte _ ι H s _ _ S i h) (fun _ _ x => x) fun _ _ x => x.elim)
  · cases h

theorem compLoop_sound {elt iter : Expr} {x : Str} {px pos : Pos} {ifs : List Expr} {scope : Scope} {cl : List (Str × Addr)} {ι₁ : List Addr} {h₁ : Heap} {it C D : Addr} {ys : List AV} {te : AV → Expr → M Bool} {ev : AV → Expr → M AV} {R : Result → Shared → Prop}
    (hh : A.handled = none) (ok : CompOK sc ns scope x) (hcl : ∀ y, (y, NameKind.free) ∈ scope.names → cl.lookup y = env.cells.lookup y) (K : CLs cx env h₁ it C D)
    (hev : ∀ env' a, EvOK cx A env' (EnvR cx env' scope (x :: ns) (some a :: σ)) (ev a)) (hte : ∀ env' a, TeOK cx A env' (EnvR cx env' scope (x :: ns) (some a :: σ)) (te a))
    (hR : ∀ ι' s' h' t, (∃ i, CL cx env sc ns σ ι₁ h₁ it C D src i ys ι' H3 s') → (∀ b o, b ≠ it → s'.heap.get? b = some o → h'.get? b = some o) → R (.ok .next) { s' with heap := h', toks := t })
    (f : Nat) (i : Nat) (hc : CL cx env sc ns σ ι₁ h₁ it C D src i acc ι H s) (hl : compLoop src (compBody te ev ifs elt) f i acc H = some (ys, H3)) :
    codeAny (model cx.prog cx.w) A (.compLoop (.ListComp elt [⟨.Name x px, iter, ifs, 0⟩] scope pos) 0 (.ref it) (.ref D) (compEnvC scope cl C env)) R s := by
  refine codeAny_compLoop_tests (fun k s' => ∃ ι' H' i acc, CL cx env sc ns σ ι₁ h₁ it C D src i acc ι' H' s' ∧ compLoop src (compBody te ev ifs elt) k i acc H' = some (ys, H3)) ?_ f ⟨ι, H, i, acc, hc, hl⟩
  clear hc hl
  rintro k s ⟨ι, H, i, acc, c, hl⟩
  cases k with
  | zero => cases hl
  | succ k =>
    unfold compLoop at hl
    obtain ⟨r, H', h1, h2⟩ := bind_some hl
    obtain ⟨rfl, hn⟩ := next_sound (E := noE) hh c.S c.J K.i0 h1
    refine wpAny_mono hn (fun o s₁ h₁' => ?_) fun _ _ x => x.elim
    obtain ⟨h', t, rfl, hk, hr⟩ := h₁'
    cases r with
    | none =>
      simp only at hr
      subst hr
      obtain ⟨rfl, rfl⟩ := pure_some h2
      exact hR ι s h' t ⟨i, c⟩ hk
    | some a =>
      simp only at hr
      obtain ⟨v, rfl, rv, J'⟩ := hr
      have c1 := c.turnI K hk J' (t := t)
      obtain ⟨m, hm⟩ := c1.N
      simp only
      obtain ⟨b, H2, h3, h4⟩ := bind_some h2
      refine wpAny_assign_Name (wpAny_storeName_local (env := compEnvC scope cl C env) (lookup_relabel_local ok.own) hm (fun h'' hn'' hs'' => ?_) (by simp [compEnvC, relabel, ok.kind]))
      have c2 := c1.turnC K (t := t + 1) hs''.extBut hn''
      have hv2 : VR cx ι h'' a v := rv.but (fun o ho => (Ns.notData hm o ho).1) K.c0 hs''.extBut
      have I2 : EnvR cx (compEnvC scope cl C env) scope (x :: ns) (some a :: σ) ι h'' := c2.E.comp ok hcl c2.hC K.c0 hn'' (by simp) hv2
      unfold compBody at h3
      obtain ⟨b1, H3', h5, h6⟩ := bind_some h3
      refine wpAny_mono (ifs_sound (hte _ a) c2.S I2 h5) (fun ok' s₃ h₃ => ?_) fun _ _ x => x
      obtain ⟨rfl, ι₃, e3, S₃⟩ := h₃
      have c3 := c2.mono K e3 S₃
      cases ok' with
      | false =>
        obtain ⟨rfl, rfl⟩ := pure_some h6
        exact ⟨k, Nat.lt_succ_self _, ι₃, _, _, _, c3, h4⟩
      | true =>
        simp only [if_true] at h6 ⊢
        obtain ⟨y, H5, h7, h8⟩ := bind_some h6
        obtain ⟨rfl, rfl⟩ := pure_some h8
        simp only at h4
        split at h4
        · rename_i hlt
          refine wpAny_mono (hev _ a elt ι₃ _ s₃ _ _ S₃ (EnvR.stable _ _ _ _ I2 e3) h7) (fun w s₄ h₄ => ?_) fun _ _ x => x.elim
          obtain ⟨ι₄, e4, S₄, r4⟩ := h₄
          have c4 := c3.mono K e4 S₄
          exact c4.add K r4 hlt fun _ s' c5 => ⟨k, Nat.lt_succ_self _, ι₄, _, _, _, c5, h4⟩
        · cases h4

theorem comp_sound {elt iter : Expr} {x : Str} {px pos pos' : Pos} {ifs : List Expr} {scope : Scope} {mu : Bool} {iv a : AV} {ys : List AV} {te : AV → Expr → M Bool} {ev : AV → Expr → M AV} {use : Option (Value → Sem Unit)} {Q : Value → Shared → Prop}
    (hh : A.handled = none) (ok : CompOK sc ns scope x) (hset : ∀ v, foldedSetIterable iter env v = pure v)
    (hev : ∀ D env' a, EvOK (cx.hide D) A env' (EnvR (cx.hide D) env' scope (x :: ns) (some a :: σ)) (ev a)) (hte : ∀ D env' a, TeOK (cx.hide D) A env' (EnvR (cx.hide D) env' scope (x :: ns) (some a :: σ)) (te a))
    (hi : wpAny (model cx.prog cx.w) A (eval iter env) (PostV cx ι s.heap iv H1) noE s) (I : EnvR cx env sc ns σ ι s.heap)
    (hsrc : srcOf iv H1 = some (src, H2)) (hloop : compLoop src (compBody te ev ifs elt) FUEL 0 [] H2 = some (ys, H3)) (hnew : newL mu ys H3 = some (a, H4))
    (hfin : ∀ D C m ι' s', Ext ι ι' s.heap s'.heap → St cx ι' H4 s' → VR cx ι' s'.heap a (.ref D) → EnvR cx env sc ns σ ι' s'.heap → s'.heap.Ns C m → s.heap.get? C = none → C ∉ ι' → cx.h₀.get? C = none →
      compPost (model cx.prog cx.w) A noE use Q (.ref D) C (.ok .next) s') :
    wpAny (model cx.prog cx.w) A (comprehension (.ListComp elt [⟨.Name x px, iter, ifs, 0⟩] scope pos) scope env pos' (newList []) false (eval iter env) use) Q noE s := by
  obtain ⟨cl, hclos, hcl⟩ := closureFor_some (env := env) (scope := scope) (fun y hy => by
    obtain ⟨f1, f2⟩ := ok.free y hy
    obtain ⟨c, v, q, _⟩ := I.has y f2 f1
    exact ⟨c, q⟩)
  refine wpAny_comprehension_free (use := use) rfl hset hclos ok.kind (fun z hz hl => (ok.loc z.1 (by rw [← hl]; exact hz)).2) (wpAny_mono hi (fun xv s₁ h₁ => ?_) fun _ _ x => x)
  obtain ⟨ι₁, e1, S₁, r1⟩ := h₁
  obtain ⟨rfl, hit⟩ := iter_sound (A := A) (E := noE) S₁ r1 hsrc
  refine wpAny_mono hit (fun w s₂ h₂ => ?_) fun _ _ x => x
  obtain ⟨it, h2, rfl, rfl, hk2, hitn, J2⟩ := h₂
  have S₂ := S₁.keeps (t := s₁.toks) hk2
  refine wpAny_newObj_type (wpAny_newFunctionEnv (fun z hz => by rcases ok.kinds z.1 z.2 hz with q | q | q <;> rw [q] <;> simp) (by intro y hy; simp at hy) (fun h3 hns hsb => ?_) ok.kind)
  dsimp only at hns hsb ⊢
  generalize hH : h2.push { cls := .type "list", dict := none, data := .seq ([] : List Value).toArray } = G at hns hsb ⊢
  have hCs : G.objs.size = h2.objs.size + 1 := by rw [← hH, Heap.size_push]
  have hDn : h2.get? h2.objs.size = none := get_size _
  have hDG : h2.objs.size ≠ G.objs.size := by rw [hCs]; exact Nat.ne_of_lt (Nat.lt_succ_self _)
  have below : ∀ b, b < h2.objs.size → b ≠ G.objs.size := fun b hb => by rw [hCs]; exact Nat.ne_of_lt (Nat.lt_succ_of_lt hb)
  have hGle : h2.objs.size ≤ G.objs.size := by rw [hCs]; exact Nat.le_succ _
  have hk3 : ∀ b o, h2.get? b = some o → h3.get? b = some o := fun b o e => hsb.extBut b o (below b (Heap.lt_size e)) (Heap.get?_push_of_some _ (hH ▸ Heap.get?_push_of_some _ e))
  have hL3 : IsL h3 h2.objs.size #[] 0 := hsb.extBut _ _ hDG (Heap.get?_push_of_some _ (hH ▸ Heap.get?_push_size _ rfl))
  have hold : ∀ b, h2.objs.size ≤ b → s₁.heap.get? b = none := fun b hb => by
    cases e : s₁.heap.get? b with
    | none => rfl
    | some o => exact absurd (Heap.lt_size (hk2 b o e)) (Nat.not_lt.mpr hb)
  have hDn1 : s₁.heap.get? h2.objs.size = none := hold _ (Nat.le_refl _)
  have hCn1 : s₁.heap.get? G.objs.size = none := hold _ hGle
  have hDc : h2.objs.size ∉ cx.hid := S₁.nothid hDn1
  have I1 := EnvR.stable _ _ _ _ I e1
  have I3 : EnvR (cx.hide h2.objs.size) env sc ns σ ι₁ h3 := (((EnvR.stable _ _ _ _ I1 (Ext.keeps hk2)).hide hDn).stable _ _ _ _ (Ext.keeps hk3))
  have hlt : ∃ o, s₁.heap.get? env.locals = some o := let ⟨_, ⟨o, _, _, ho, _⟩, _⟩ := I1.nsm; ⟨o, ho⟩
  obtain ⟨oL, hoL⟩ := hlt
  obtain ⟨oi, hoi, _⟩ := J2.obj
  have hitlt : it < h2.objs.size := Heap.lt_size hoi
  have K : CLs (cx.hide h2.objs.size) env s₁.heap it G.objs.size h2.objs.size :=
    ⟨List.mem_cons_self, hitn, hCn1, hDn1, S₁.base_none hitn, S₁.base_none hCn1, S₁.base_none hDn1, below it hitlt, (fun q => by rw [q, hCn1] at hoL; cases hoL), (fun q => by rw [q, hitn] at hoL; cases hoL)⟩
  have c0 : CL (cx.hide h2.objs.size) env sc ns σ ι₁ s₁.heap it G.objs.size h2.objs.size src 0 [] ι₁ H2 { s₁ with heap := h3, toks := s₁.toks + 0 } :=
    ⟨S₂.hide hDn hk3 hL3, Ext.keeps fun b o e => hk3 b o (hk2 b o e), I3, (J2.hide hDn).mono (S₁.notin hitn) (Ext.keeps hk3), ⟨#[], 0, hL3, .nil⟩, ⟨_, hns⟩, S₁.notin hitn, S₁.notin hCn1⟩
  have loop : codeAny (model cx.prog cx.w) A (.compLoop (.ListComp elt [⟨.Name x px, iter, ifs, 0⟩] scope pos) 0 (.ref it) (.ref h2.objs.size) (compEnvC scope cl G.objs.size env)) (compPost (model cx.prog cx.w) A noE use Q (.ref h2.objs.size) G.objs.size) { s₁ with heap := h3, toks := s₁.toks + 0 } := by
    refine compLoop_sound (cx := cx.hide h2.objs.size) hh ok hcl K (fun env' a => hev _ env' a) (fun env' a => hte _ env' a) ?_ FUEL 0 c0 hloop
    rintro ι' s' h' t ⟨i, c⟩ hk
    obtain ⟨oi', hoi', q1, q2, q3⟩ := c.J.obj
    have hp : ∀ o, s'.heap.get? it = some o → NotData o ∧ (∀ v, o.data ≠ .cell v) := fun o ho => by rw [hoi'] at ho; cases ho; exact ⟨q1, q3⟩
    have hp' : ∀ o, s'.heap.get? it = some o → NotData o := fun o ho => (hp o ho).1
    obtain ⟨vs, n, l1, l2⟩ := c.L
    obtain ⟨m, hm⟩ := c.N
    have hDI : h2.objs.size ≠ it := Ne.symm (Nat.ne_of_lt hitlt)
    have S' := c.S.priv (t := t) c.hit K.i0 hp' hk
    have X' := c.X.priv K.iN hk
    have E' := c.E.priv K.i0 K.lI hp hk
    have L' : IsL h' h2.objs.size vs n := hk _ _ hDI l1
    have V' := l2.but hp' K.i0 hk
    have N' : h'.Ns G.objs.size m := hm.at' fun o ho => hk _ o (Ne.symm K.iC) ho
    have hz := newL_len hnew
    have hDi : h2.objs.size ∉ ι' := (c.S.hid _ K.hD).1
    have hCn : s.heap.get? G.objs.size = none := by
      cases e : s.heap.get? G.objs.size with
      | none => rfl
      | some o =>
        by_cases hm : G.objs.size ∈ ι
        · have := S₁.lt (e1.pre.subset hm)
          have := (hk2)
          have h9 := hold G.objs.size hGle
          exact absurd (e1.pre.subset hm) (S₁.notin h9)
        · have := e1.keep _ _ e hm; rw [hCn1] at this; cases this
    unfold newL at hnew
    rw [if_pos hz] at hnew
    cases mu with
    | false =>
      cases hnew
      exact hfin _ _ m ι' _ (e1.trans X') S'.unhide (.lst (cx := cx) L' ⟨hDi, hDc⟩ hz V'.unhide) E'.unhide N' hCn c.hC K.c0
    | true =>
      cases hnew
      have S'' : St cx (ι' ++ [h2.objs.size]) (H3 ++ [.list ys]) { s' with heap := h', toks := t } := St.adopt S' L' hz V' hDc
      have hX : Ext ι₁ (ι' ++ [h2.objs.size]) s₁.heap h' := ⟨X'.pre.trans (List.prefix_append _ _), fun b hb hn => by
        rcases List.mem_append.mp hb with q | q
        · exact X'.news b q hn
        · rw [List.mem_singleton.mp q]; exact hDn1, X'.keep⟩
      refine hfin _ _ m _ _ (e1.trans hX) S'' (.loc ?_) (EnvR.stable _ _ _ _ I1 hX) N' hCn ?_ K.c0
      · rw [← S'.len, List.getElem?_append_right (Nat.le_refl _)]; simp
      · intro hm'
        rcases List.mem_append.mp hm' with q | q
        · exact c.hC q
        · exact hDG (List.mem_singleton.mp q).symm
  exact codeAny_compStart_list loop (self_sound (cx := cx.hide h2.objs.size) c0.J loop)
end
end Mine


set_option autoImplicit false
set_option linter.unusedVariables false
namespace Mine
open PySem PyProof.Rows PySem.SeqAt

section
variable {cx : Cx} {A : Around} {ι : List Addr} {H H' : AHeap} {s : Shared} {env : Env} {I : List Addr → Heap → Prop} {ev : Expr → M AV}

theorem const_sound {c : Const} {k : Nat} {p : Pos} {a : AV} (S : St cx ι H s) (h : constV c H = some (a, H')) : wpAny (model cx.prog cx.w) A (eval (.Constant c k p) env) (PostV cx ι s.heap a H') noE s := by
  cases c <;> first | (cases h; done) | skip
  · obtain ⟨rfl, rfl⟩ := pure_some h; exact wpAny_Constant_none (PostV.here S .none)
  · obtain ⟨rfl, rfl⟩ := pure_some h; exact wpAny_Constant_bool (PostV.here S (.bool _))
  · obtain ⟨rfl, rfl⟩ := pure_some h; exact wpAny_Constant_int (PostV.same S _ (.int _ _))
  · obtain ⟨rfl, rfl⟩ := pure_some h; exact wpAny_Constant_str (PostV.same S _ (.str _ _))

theorem bin_sound {l r : Expr} {op : Operator} {p : Pos} {mu : Bool} {c : AV} (hst : Stable I) (hev : EvOK cx A env I ev) (S : St cx ι H s) (i : I ι s.heap)
    (h : (do let a ← ev l; let b ← ev r; pBin mu op a b : M AV) H = some (c, H')) : wpAny (model cx.prog cx.w) A (eval (.BinOp l op r p) env) (PostV cx ι s.heap c H') noE s := by
  obtain ⟨a, H1, h1, h2⟩ := bind_some h
  obtain ⟨b, H2, h3, h4⟩ := bind_some h2
  refine wpAny_BinOp (wpAny_mono (hev _ _ _ _ _ _ S i h1) (fun v s₁ q₁ => ?_) fun _ _ x => x)
  obtain ⟨ι₁, e1, S₁, r1⟩ := q₁
  refine wpAny_mono (hev _ _ _ _ _ _ S₁ (hst _ _ _ _ i e1) h3) (fun w s₂ q₂ => ?_) fun _ _ x => x
  obtain ⟨ι₂, e2, S₂, r2⟩ := q₂
  exact wpAny_mono (pBin_sound S₂ (r1.mono e2) r2 h4) (fun x s₃ q₃ => q₃.trans (e1.trans e2)) fun _ _ x => x

theorem neg_sound {x : Expr} {p : Pos} {c : AV} (hev : EvOK cx A env I ev) (S : St cx ι H s) (i : I ι s.heap) (h : (do let v ← ev x; pNeg v : M AV) H = some (c, H')) :
    wpAny (model cx.prog cx.w) A (eval (.UnaryOp .USub x p) env) (PostV cx ι s.heap c H') noE s := by
  obtain ⟨a, H1, h1, h2⟩ := bind_some h
  refine wpAny_UnaryOp (wpAny_mono (hev _ _ _ _ _ _ S i h1) (fun v s₁ q₁ => ?_) fun _ _ x => x)
  obtain ⟨ι₁, e1, S₁, r1⟩ := q₁
  exact wpAny_mono (pNeg_sound S₁ r1 h2) (fun x s₃ q₃ => q₃.trans e1) fun _ _ x => x

theorem not_sound {x : Expr} {p : Pos} {c : AV} (hev : EvOK cx A env I ev) (S : St cx ι H s) (i : I ι s.heap) (h : (do let v ← ev x; let b ← truth v; pure (.bool !b) : M AV) H = some (c, H')) :
    wpAny (model cx.prog cx.w) A (eval (.UnaryOp .Not x p) env) (PostV cx ι s.heap c H') noE s := by
  obtain ⟨a, H1, h1, h2⟩ := bind_some h
  obtain ⟨b, H2, h3, h4⟩ := bind_some h2
  obtain ⟨rfl, rfl⟩ := truth_some h3
  obtain ⟨rfl, rfl⟩ := pure_some h4
  refine wpAny_UnaryOp (wpAny_mono (hev _ _ _ _ _ _ S i h1) (fun v s₁ q₁ => ?_) fun _ _ x => x)
  obtain ⟨ι₁, e1, S₁, r1⟩ := q₁
  cases r1
  exact not_value (wpAny_truthy_bool ⟨ι₁, e1, S₁, .bool _⟩)

theorem compare_sound {l : Expr} {ops : List CmpOp} {cs : List Expr} {p : Pos} {c : AV} (R : Room A) (hSet : ∀ es k p H, ev (.Set es k p) H = none) (hst : Stable I) (hev : EvOK cx A env I ev) (S : St cx ι H s) (i : I ι s.heap)
    (h : (do let a ← ev l; let b ← chain ev a ops cs; pure (.bool b) : M AV) H = some (c, H')) : wpAny (model cx.prog cx.w) A (eval (.Compare l ops cs p) env) (PostV cx ι s.heap c H') noE s := by
  obtain ⟨a, H1, h1, h2⟩ := bind_some h
  obtain ⟨b, H2, h3, h4⟩ := bind_some h2
  obtain ⟨rfl, rfl⟩ := pure_some h4
  rw [arm_eval_Compare]
  refine wpAny_bind (wpAny_mono (hev _ _ _ _ _ _ S i h1) (fun v s₁ q₁ => ?_) fun _ _ x => x)
  obtain ⟨ι₁, e1, S₁, r1⟩ := q₁
  exact wpAny_mono (chain_sound R hSet hst hev _ _ _ S₁ (hst _ _ _ _ i e1) r1 h3) (fun x s₃ q₃ => q₃.trans e1) fun _ _ x => x

theorem evEach_len : ∀ {es : List Expr} {H H' : AHeap} {as : List AV}, evEach ev es H = some (as, H') → as.length = es.length
  | [], _, _, _, h => by obtain ⟨rfl, rfl⟩ := pure_some h; rfl
  | e :: r, _, _, _, h => by
    obtain ⟨a, H1, h1, h2⟩ := bind_some h
    obtain ⟨bs, H2, h3, h4⟩ := bind_some h2
    obtain ⟨rfl, rfl⟩ := pure_some h4
    simp [evEach_len h3]

theorem tuple_sound {es : List Expr} {k : Nat} {p : Pos} {c : AV} (hS : ∀ x p H, ev (.Starred x p) H = none) (hst : Stable I) (hev : EvOK cx A env I ev) (S : St cx ι H s) (i : I ι s.heap)
    (h : (if es.length ≤ 100 then (do let vs ← evEach ev es; pure (.tup vs) : M AV) else stuck) H = some (c, H')) : wpAny (model cx.prog cx.w) A (eval (.Tuple es k p) env) (PostV cx ι s.heap c H') noE s := by
  split at h
  · rename_i hl
    obtain ⟨as, H1, h1, h2⟩ := bind_some h
    obtain ⟨rfl, rfl⟩ := pure_some h2
    refine Tuple_ (wpAny_mono (each_sound hS hst hev p es S i h1) (fun vs s₁ q₁ => ?_) fun _ _ x => x)
    obtain ⟨ι₁, e1, S₁, r1⟩ := q₁
    refine wpAny_mono (newTuple_sound (E := noE) S₁ (by have := evEach_len h1; have := LIM_is; omega) r1) (fun x s₃ q₃ => q₃.trans e1) fun _ _ x => x
  · cases h
theorem list_sound {es : List Expr} {p : Pos} {mu : Bool} {c : AV} (hS : ∀ x p H, ev (.Starred x p) H = none) (hst : Stable I) (hev : EvOK cx A env I ev) (S : St cx ι H s) (i : I ι s.heap)
    (h : (do let vs ← evEach ev es; newL mu vs : M AV) H = some (c, H')) : wpAny (model cx.prog cx.w) A (eval (.List es p) env) (PostV cx ι s.heap c H') noE s := by
  obtain ⟨as, H1, h1, h2⟩ := bind_some h
  refine List_ (wpAny_mono (each_sound hS hst hev p es S i h1) (fun vs s₁ q₁ => ?_) fun _ _ x => x)
  obtain ⟨ι₁, e1, S₁, r1⟩ := q₁
  exact wpAny_mono (newList_sound (E := noE) S₁ h2 r1) (fun x s₃ q₃ => q₃.trans e1) fun _ _ x => x

/-- the read of an item, once object and index are there -/
theorem sub_tail {value slice : Expr} {o i : Value} {Q : Value → Shared → Prop} (hsl : ∀ b, b = false → subscripted slice b o i = operate [o, i] (getItem o i) ∨ subscripted slice b o i = operate [i, o] (getItem o i)) (hs : Subs s o) (h : wpAny (model cx.prog cx.w) A (getItem o i) Q noE s) :
    wpAny (model cx.prog cx.w) A (do let r ← subscripted slice (← getitemInPython o) o i; letTemporaryGo value o r; pure r) Q noE s := by
  obtain ⟨T, id, hT, hl⟩ := hs
  rw [getitemInPython_of_ne hT.not_modules]
  have fin : wpAny (model cx.prog cx.w) A (subscripted slice false o i) (fun r s₃ => wpAny (model cx.prog cx.w) A (letTemporaryGo value o r >>= fun _ => pure r) Q noE s₃) noE s := by
    have hg : wpAny (model cx.prog cx.w) A (getItem o i) (fun r s₃ => wpAny (model cx.prog cx.w) A (letTemporaryGo value o r >>= fun _ => pure r) Q noE s₃) noE s :=
      wpAny_mono h (fun r s₃ h₃ => wpAny_bind (wpAny_letTemporaryGo (wpAny_pure h₃))) fun _ _ x => x
    rcases hsl false rfl with q | q <;> rw [q] <;> exact wpAny_operating hg
  refine wpAny_bind (wpAny_bind (wpAny_specialOf hT hl ?_))
  exact wpAny_pure (wpAny_bind fin)

theorem sub_eval {value slice : Expr} {p : Pos} {Q : Value → Shared → Prop} (hsl : ∀ b o i, b = false → subscripted slice b o i = operate [o, i] (getItem o i) ∨ subscripted slice b o i = operate [i, o] (getItem o i))
    (h : wpAny (model cx.prog cx.w) A (eval value env) (fun o s₁ => wpAny (model cx.prog cx.w) A (eval slice env) (fun i s₂ => Subs s₂ o ∧ wpAny (model cx.prog cx.w) A (getItem o i) Q noE s₂) noE s₁) noE s) :
    wpAny (model cx.prog cx.w) A (eval (.Subscript value slice p) env) Q noE s := by
  rw [eval_Subscript]
  refine wpAny_bind (wpAny_mono h (fun o s₁ h₁ => wpAny_bind (wpAny_holding (wpAny_mono h₁ (fun i s₂ h₂ => wpAny_bind (wpAny_standAt (sub_tail (fun b hb => hsl b o i hb) h₂.1 h₂.2))) fun _ _ x => x))) fun _ _ x => x)

theorem subscripted_or (slice : Expr) (b : Bool) (o i : Value) (hb : b = false) : subscripted slice b o i = operate [o, i] (getItem o i) ∨ subscripted slice b o i = operate [i, o] (getItem o i) := by
  subst hb
  cases slice
  case Slice lo hi st p => cases st; exact .inr rfl; exact .inl rfl
  all_goals exact .inl rfl

theorem item_sound {o i : Expr} {p : Pos} {c : AV} (hst : Stable I) (hev : EvOK cx A env I ev) (S : St cx ι H s) (j : I ι s.heap) (h : (do let ov ← ev o; let iv ← ev i; pItem ov iv : M AV) H = some (c, H')) :
    wpAny (model cx.prog cx.w) A (eval (.Subscript o i p) env) (PostV cx ι s.heap c H') noE s := by
  obtain ⟨a, H1, h1, h2⟩ := bind_some h
  obtain ⟨b, H2, h3, h4⟩ := bind_some h2
  refine sub_eval (fun b o i hb => subscripted_or _ b o i hb) (wpAny_mono (hev _ _ _ _ _ _ S j h1) (fun v s₁ q₁ => ?_) fun _ _ x => x)
  obtain ⟨ι₁, e1, S₁, r1⟩ := q₁
  refine wpAny_mono (hev _ _ _ _ _ _ S₁ (hst _ _ _ _ j e1) h3) (fun w s₂ q₂ => ?_) fun _ _ x => x
  obtain ⟨ι₂, e2, S₂, r2⟩ := q₂
  obtain ⟨f1, f2⟩ := pItem_sound (A := A) (E := noE) S₂ (r1.mono e2) r2 h4
  exact ⟨f1, wpAny_mono f2 (fun x s₃ q₃ => q₃.trans (e1.trans e2)) fun _ _ x => x⟩

theorem sliceEnd_sound {e : Option Expr} {k : Option Int} (hev : EvOK cx A env I ev) (S : St cx ι H s) (j : I ι s.heap) (h : sliceEnd ev e H = some (k, H')) :
    wpAny (model cx.prog cx.w) A (evalPart e env) (fun v s' => IsPart v k ∧ ∃ ι', Ext ι ι' s.heap s'.heap ∧ St cx ι' H' s') noE s := by
  cases e with
  | none =>
    obtain ⟨rfl, rfl⟩ := pure_some h
    rw [evalPart_none]
    exact wpAny_pure ⟨.none, ι, Ext.refl _ _, S⟩
  | some e =>
    obtain ⟨a, H1, h1, h2⟩ := bind_some h
    rw [evalPart_some]
    refine wpAny_mono (hev _ _ _ _ _ _ S j h1) (fun v s₁ q₁ => ?_) fun _ _ x => x
    obtain ⟨ι₁, e1, S₁, r1⟩ := q₁
    cases r1 <;> first | (cases h2; done) | skip
    obtain ⟨rfl, rfl⟩ := pure_some h2
    exact ⟨.int _ _, ι₁, e1, S₁⟩

theorem slice_sound {o : Expr} {lo hi : Option Expr} {sp p : Pos} {mu : Bool} {c : AV} (hst : Stable I) (hev : EvOK cx A env I ev) (S : St cx ι H s) (j : I ι s.heap)
    (h : (do let ov ← ev o; let a ← sliceEnd ev lo; let b ← sliceEnd ev hi; pSlice mu ov a b : M AV) H = some (c, H')) :
    wpAny (model cx.prog cx.w) A (eval (.Subscript o (.Slice lo hi none sp) p) env) (PostV cx ι s.heap c H') noE s := by
  obtain ⟨a, H1, h1, h2⟩ := bind_some h
  obtain ⟨k, H2, h3, h4⟩ := bind_some h2
  obtain ⟨m, H3, h5, h6⟩ := bind_some h4
  refine sub_eval (fun b o i hb => subscripted_or _ b o i hb) (wpAny_mono (hev _ _ _ _ _ _ S j h1) (fun v s₁ q₁ => ?_) fun _ _ x => x)
  obtain ⟨ι₁, e1, S₁, r1⟩ := q₁
  refine wpAny_Slice (wpAny_mono (sliceEnd_sound hev S₁ (hst _ _ _ _ j e1) h3) (fun w s₂ q₂ => ?_) fun _ _ x => x)
  obtain ⟨p2, ι₂, e2, S₂⟩ := q₂
  refine wpAny_mono (sliceEnd_sound hev S₂ (hst _ _ _ _ j (e1.trans e2)) h5) (fun w' s₃ q₃ => ?_) fun _ _ x => x
  obtain ⟨p3, ι₃, e3, S₃⟩ := q₃
  rw [evalPart_none]
  refine wpAny_pure ?_
  obtain ⟨f1, f2⟩ := pSlice_sound (A := A) (E := noE) S₃ (r1.mono (e2.trans e3)) p2 p3 h6
  exact ⟨f1, wpAny_mono f2 (fun x s₃ q₃ => q₃.trans ((e1.trans e2).trans e3)) fun _ _ x => x⟩

theorem rev_sound {o : Expr} {sp p p1 p2 : Pos} {k : Nat} {mu : Bool} {c : AV} (hev : EvOK cx A env I ev) (S : St cx ι H s) (j : I ι s.heap)
    (h : (do let ov ← ev o; pRev mu ov : M AV) H = some (c, H')) :
    wpAny (model cx.prog cx.w) A (eval (.Subscript o (.Slice none none (some (.UnaryOp .USub (.Constant (.int 1) k p1) p2)) sp) p) env) (PostV cx ι s.heap c H') noE s := by
  obtain ⟨a, H1, h1, h2⟩ := bind_some h
  refine sub_eval (fun b o i hb => subscripted_or _ b o i hb) (wpAny_mono (hev _ _ _ _ _ _ S j h1) (fun v s₁ q₁ => ?_) fun _ _ x => x)
  obtain ⟨ι₁, e1, S₁, r1⟩ := q₁
  refine wpAny_Slice ?_
  rw [evalPart_none]
  refine wpAny_pure (wpAny_pure ?_)
  rw [evalPart_some]
  refine wpAny_UnaryOp (wpAny_Constant_int (neg_int ?_))
  obtain ⟨f1, f2⟩ := pRev_sound (A := A) (E := noE) (t := s₁.toks + 1) (S₁.tok (s₁.toks + 1 + 1)) r1 h2
  exact ⟨f1, wpAny_mono f2 (fun x s₃ q₃ => q₃.trans e1) fun _ _ x => x⟩
end
end Mine


set_option autoImplicit false
set_option linter.unusedVariables false
namespace Mine
open PySem PyProof.Rows PySem.SeqAt

section
variable {cx : Cx} {A : Around} {ι : List Addr} {H H' : AHeap} {s : Shared} {env : Env} {I : List Addr → Heap → Prop} {ev : Expr → M AV}

/-- an object that no value reads is taken among the mutable ones -/
theorem Tn.own {h : Heap} {d : Addr} (hp : ∀ o, h.get? d = some o → NotData o) (hb : cx.h₀.get? d = none) : Tn cx cx ι (ι ++ [d]) h h := by
  have key : ∀ {a : Addr}, a ∉ ι → a ≠ d → a ∉ ι ++ [d] := fun h1 h2 hm => by
    rcases List.mem_append.mp hm with q | q
    · exact h1 q
    · exact h2 (List.mem_singleton.mp q)
  exact ⟨⟨rfl, rfl, rfl⟩, fun _ _ _ ht hn => ⟨ht, key hn fun q => by subst q; exact (hp _ ht).1 _ _ rfl⟩, fun _ _ _ ht hn => ⟨ht, key hn.1 fun q => by subst q; exact (hp _ ht).1 _ _ rfl, hn.2⟩,
    fun _ _ hl => prefix_get (List.prefix_append _ _) hl, fun _ _ _ _ _ _ hr hn => ⟨hr, key hn fun q => by subst q; rcases (hp _ hr).2 with z | z; exact z _ rfl; exact z rfl⟩,
    fun _ _ ho hn hsm => ⟨ho, key hn fun q => by subst q; obtain ⟨o, ho⟩ := hsm; rw [hb] at ho; cases ho⟩⟩
theorem VR.own {h : Heap} {d : Addr} (hp : ∀ o, h.get? d = some o → NotData o) (hb : cx.h₀.get? d = Option.none) {a : AV} {v : Value} (r : VR cx ι h a v) : VR cx (ι ++ [d]) h a v := r.gen (.own hp hb)
theorem VRs.own {h : Heap} {d : Addr} (hp : ∀ o, h.get? d = some o → NotData o) (hb : cx.h₀.get? d = Option.none) {xs : List AV} {vs : List Value} (r : VRs cx ι h xs vs) : VRs cx (ι ++ [d]) h xs vs := r.gen (.own hp hb)

theorem St.take (S : St cx ι H s) {d : Addr} {h' : Heap} {t : Nat} {o : AO} (hd : d ∉ ι) (hb : cx.h₀.get? d = none) (hp : ∀ o, s.heap.get? d = some o → NotData o) (hk : ∀ b o, b ≠ d → s.heap.get? b = some o → h'.get? b = some o)
    (hp' : ∀ o, h'.get? d = some o → NotData o) (r : OR cx (ι ++ [d]) h' d o) : St cx (ι ++ [d]) (H ++ [o]) { s with heap := h', toks := t } := by
  have S' := S.priv (t := t) hd hb hp hk
  refine ⟨S'.base, by simp [S'.len], ?_, ?_, ?_, S'.gens, S'.os, S'.sysm, ?_⟩
  · rw [List.nodup_append]
    exact ⟨S.nodup, by simp, fun x hx y hy => by rw [List.mem_singleton.mp hy]; exact fun e => hd (e ▸ hx)⟩
  · intro b hbm
    rcases List.mem_append.mp hbm with h1 | h1
    · exact S.fresh b h1
    · rw [List.mem_singleton.mp h1]; exact hb
  · intro l b q e1' e2
    by_cases hl : l < ι.length
    · rw [List.getElem?_append_left hl] at e1'
      rw [List.getElem?_append_left (S.len ▸ hl)] at e2
      have r := S'.own l b q e1' e2
      cases q with
      | list ys => obtain ⟨vs, n, hl, hz, hs⟩ := r; exact ⟨vs, n, hl, hz, hs.own hp' hb⟩
      | dict es => obtain ⟨kvs, hd, h1, h2, hs⟩ := r; exact ⟨kvs, hd, h1, h2, hs.own hp' hb⟩
    · rw [List.getElem?_append_right (by omega)] at e1'
      rw [List.getElem?_append_right (by rw [← S.len]; omega), ← S.len] at e2
      have hl0 : l - ι.length = 0 := by
        rcases Nat.eq_zero_or_pos (l - ι.length) with h0 | h0
        · exact h0
        · rw [List.getElem?_eq_none (by simp; omega)] at e1'; cases e1'
      rw [hl0] at e1' e2
      simp at e1' e2
      subst e1'; subst e2
      exact r
  · intro a ha
    obtain ⟨h1, h2, vs, n, h3⟩ := S'.hid a ha
    refine ⟨fun hm => ?_, h2, vs, n, h3⟩
    rcases List.mem_append.mp hm with hm | hm
    · exact h1 hm
    · have q' := List.mem_singleton.mp hm; subst q'; exact (hp' _ h3).1 _ _ rfl

theorem dict_notData {h : Heap} {d : Addr} {kvs : List (Str × Value)} (x : h.DictOf (strKind cx.prog cx.w) d kvs) : ∀ o, h.get? d = some o → NotData o := fun o ho => by
  obtain ⟨o', es, ep, ho', _, hd, _⟩ := x
  rw [ho] at ho'; cases ho'
  refine ⟨fun vs n q => ?_, .inl fun vs q => ?_⟩ <;> rw [hd] at q <;> cases q

theorem pairs_sound (hS : ∀ x p H, ev (.Starred x p) H = none) (hst : Stable I) (hev : EvOK cx A env I ev) (pos : Pos) : ∀ (keys : List (Option Expr)) (values : List Expr) {ks : List Str} {ι : List Addr} {H H' : AHeap} {s : Shared} {as : List AV}, St cx ι H s → I ι s.heap →
    strKeys keys = some ks → ks.length = values.length → evEach ev values H = some (as, H') →
    wpAny (model cx.prog cx.w) A (evalPairs (pairTrees keys values env pos)) (fun vs s' => allStrKeys vs = true ∧ (strPairs vs).map (·.1) = ks ∧ PostVs cx ι s.heap as H' ((strPairs vs).map (·.2)) s') noE s
  | [], [], ks, ι, H, H', s, as, S, i, hk, hl, h => by
    cases hk
    obtain ⟨rfl, rfl⟩ := pure_some h
    exact pairTrees_nil_walk ⟨rfl, rfl, ι, Ext.refl _ _, S, .nil⟩
  | [], _ :: _, ks, ι, H, H', s, as, S, i, hk, hl, h => by cases hk; cases hl
  | k :: keys, values, ks, ι, H, H', s, as, S, i, hk, hl, h => by
    unfold strKeys at hk
    split at hk
    · cases ‹k :: keys = []›
    · rename_i k0 kd kp keys0 q
      cases q
      cases hk1 : strKeys keys with
      | none => rw [hk1] at hk; cases hk
      | some ks1 =>
        rw [hk1] at hk
        cases hk
        cases values with
        | nil => cases hl
        | cons e values =>
          obtain ⟨a, H1, h1, h2⟩ := bind_some h
          obtain ⟨bs, H2, h3, h4⟩ := bind_some h2
          obtain ⟨rfl, rfl⟩ := pure_some h4
          refine pairTrees_cons_walk (wpAny_Constant_str (wpAny_mono (hev e ι H _ a H1 (S.tok _) i h1) (fun v s₁ q₁ => ?_) fun _ _ x => x))
          obtain ⟨ι₁, e1, S₁, r1⟩ := q₁
          refine wpAny_mono (pairs_sound hS hst hev pos keys values S₁ (hst _ _ _ _ i e1) hk1 (by simpa using hl) h3) (fun vs s₂ q₂ => ?_) fun _ _ x => x
          obtain ⟨q3, q4, ι₂, e2, S₂, r2⟩ := q₂
          refine ⟨q3, ?_, ι₂, e1.trans e2, S₂, ?_⟩
          · show k0 :: (strPairs vs).map (·.1) = _; rw [q4]
          · exact .cons (r1.mono e2) r2
    · cases hk

theorem map_zip_fst : ∀ {ks : List Str} {as : List AV}, ks.length = as.length → (ks.zip as).map (·.1) = ks
  | [], [], _ => rfl
  | [], _ :: _, h => by cases h
  | _ :: _, [], h => by cases h
  | k :: ks, a :: as, h => by simp [map_zip_fst (by simpa using h : ks.length = as.length)]
theorem map_zip_snd : ∀ {ks : List Str} {as : List AV}, ks.length = as.length → (ks.zip as).map (·.2) = as
  | [], [], _ => rfl
  | [], _ :: _, h => by cases h
  | _ :: _, [], h => by cases h
  | k :: ks, a :: as, h => by simp [map_zip_snd (by simpa using h : ks.length = as.length)]

theorem strKeys_all : ∀ {keys : List (Option Expr)} {ks : List Str}, strKeys keys = some ks → keys.all (·.isSome) = true ∧ keys.length = ks.length
  | [], _, h => by cases h; exact ⟨rfl, rfl⟩
  | k :: keys, ks, h => by
    unfold strKeys at h
    split at h
    · cases ‹k :: keys = []›
    · rename_i k0 kd kp keys0 q
      cases q
      cases hk1 : strKeys keys with
      | none => rw [hk1] at h; cases h
      | some ks1 =>
        rw [hk1] at h
        cases h
        obtain ⟨q1, q2⟩ := strKeys_all hk1
        exact ⟨by simpa using q1, by simp [q2]⟩
    · cases h

theorem dict_sound {keys : List (Option Expr)} {values : List Expr} {p : Pos} {ks : List Str} {c : AV} (hS : ∀ x p H, ev (.Starred x p) H = none) (hst : Stable I) (hev : EvOK cx A env I ev) (S : St cx ι H s) (i : I ι s.heap) (hk : strKeys keys = some ks)
    (hl : ks.length = values.length ∧ ks.length ≤ 15 ∧ ks ≠ [] ∧ ks.Nodup)
    (h : (do let vs ← evEach ev values; newD (ks.zip vs) : M AV) H = some (c, H')) : wpAny (model cx.prog cx.w) A (eval (.Dict keys values p) env) (PostV cx ι s.heap c H') noE s := by
  obtain ⟨hl1, hl2, hl3, hl4⟩ := hl
  obtain ⟨k1, k2⟩ := strKeys_all hk
  obtain ⟨as, H1, h1, h2⟩ := bind_some h
  cases h2
  have hlen := evEach_len h1
  have S0 := S.push { cls := .type "dict", data := .dict #[] }
  have i0 := hst _ _ _ _ i (Ext.push (ι := ι) (h := s.heap) { cls := .type "dict", data := .dict #[] })
  have hdn : s.heap.get? s.heap.objs.size = none := get_size _
  have hD0 : (s.heap.push { cls := .type "dict", data := .dict #[] }).DictOf (strKind cx.prog cx.w) s.heap.objs.size [] := Heap.DictOf.new _
  refine wpAny_Dict_walk (knd := strKind cx.prog cx.w) k1 (by omega) (fun q => by subst q; cases hk; exact hl3 rfl) (by omega) (wpAny_mono (pairs_sound hS hst hev p keys values S0 i0 hk hl1 h1) (fun vs s₁ q₁ => ?_) fun _ _ x => x)
  obtain ⟨q1, q2, ι₁, e1, S₁, r1⟩ := q₁
  have hdi : s.heap.objs.size ∉ ι₁ := e1.notin (Heap.get?_push_size _ rfl) (S.notin hdn)
  have hD1 : s₁.heap.DictOf (strKind cx.prog cx.w) s.heap.objs.size [] := DictOf.at' hD0 fun o ho => e1.keep _ o ho (S.notin hdn)
  refine display_done_str q1 (by rw [q2]; exact hl4) hD1 fun h' hd' hs' => ?_
  have hb := S.base_none hdn
  have hp := dict_notData hD1
  have hp' := dict_notData hd'
  have hlz : (ks.zip as).length ≤ LIM := by rw [List.length_zip]; have := LIM_is; omega
  refine ⟨ι₁ ++ [s.heap.objs.size], ?_, S₁.take (o := .dict (ks.zip as)) hdi hb hp hs'.extBut hp' ⟨strPairs vs, hd', ⟨S.not_sys hdn, hlz⟩, ?_, ?_⟩, ?_⟩
  · refine ⟨e1.pre.trans (List.prefix_append _ _), fun b hb hn => ?_, fun b o ho hn => ?_⟩
    · rcases List.mem_append.mp hb with q | q
      · have := e1.news b q hn
        cases hg : s.heap.get? b with
        | none => rfl
        | some o => rw [Heap.get?_push_of_some _ hg] at this; cases this
      · rw [List.mem_singleton.mp q]; exact hdn
    · exact hs'.extBut b o (fun q => by rw [q, hdn] at ho; cases ho) (e1.keep b o (Heap.get?_push_of_some _ ho) hn)
  · rw [q2, map_zip_fst (by omega)]
  · rw [map_zip_snd (by omega)]
    exact (r1.but hp hb hs'.extBut).own hp' hb
  · rw [← S₁.len]; exact .loc (by rw [List.getElem?_append_right (Nat.le_refl _)]; simp)
end
end Mine


set_option autoImplicit false
set_option linter.unusedVariables false
namespace Mine
open PySem PyProof.Rows PySem.SeqAt

section
variable {cx : Cx} {A : Around} {ι : List Addr} {H H' : AHeap} {s : Shared} {env : Env} {I : List Addr → Heap → Prop} {ev : Expr → M AV}

theorem plain_trees (hS : ∀ x p H, ev (.Starred x p) H = none) (pos : Pos) : ∀ {es : List Expr} {H H' : AHeap} {as : List AV}, evEach ev es H = some (as, H') → backTo pos (starEach es env) = es.map fun e => (false, eval e env)
  | [], _, _, _, _ => rfl
  | e :: r, H, H', as, h => by
    obtain ⟨a, H1, h1, h2⟩ := bind_some h
    obtain ⟨bs, H2, h3, h4⟩ := bind_some h2
    have hne : ∀ x p, e ≠ .Starred x p := fun x p q => by subst q; rw [hS] at h1; cases h1
    rw [starEach_cons hne, List.map_cons, ← plain_trees hS pos h3]
    rfl
theorem plain_any (es : List Expr) : (es.map fun e => (false, eval e env)).any (·.1) = false := by
  induction es with
  | nil => rfl
  | cons e r ih => simpa using ih
theorem plain_all (es : List Expr) : (es.map fun e => (false, eval e env)).all (fun x => !x.1) = true := by
  induction es with
  | nil => rfl
  | cons e r ih => simpa using ih

/-- the arguments of a call -/
theorem args_sound {f : Value} {pos : Pos} {Q : Args → Shared → Prop} (hS : ∀ x p H, ev (.Starred x p) H = none) (hst : Stable I) (hev : EvOK cx A env I ev) {es : List Expr} {as : List AV} (S : St cx ι H s) (i : I ι s.heap) (h : evEach ev es H = some (as, H'))
    (hQ : ∀ vs s', PostVs cx ι s.heap as H' vs s' → Q ⟨vs, []⟩ s') : wpAny (model cx.prog cx.w) A (evalArgs f true (backTo pos (starEach es env)) []) Q noE s := by
  have hs := each_sound hS hst hev pos es S i h
  cases es with
  | nil =>
    obtain ⟨rfl, rfl⟩ := pure_some h
    exact evalArgs_nil3 (hQ _ _ ⟨ι, Ext.refl _ _, S, .nil⟩)
  | cons e r =>
    rw [plain_trees hS pos h] at hs ⊢
    rw [List.map_cons] at hs ⊢
    exact Calls.evalArgs_plain (wpAny_mono hs (fun vs s' q => hQ vs s' q) fun _ _ x => x)

theorem callBuiltin_sound {id : String} {pos : Pos} {first : List Value} {Q : Value → Shared → Prop} (hS : ∀ x p H, ev (.Starred x p) H = none) (hst : Stable I) (hev : EvOK cx A env I ev) {es : List Expr} {as : List AV} (S : St cx ι H s) (i : I ι s.heap) (h : evEach ev es H = some (as, H'))
    (hQ : ∀ vs s', PostVs cx ι s.heap as H' vs s' → wpAny (model cx.prog cx.w) A (PySem.call (.builtin id) (first ++ vs)) Q noE s') : wpAny (model cx.prog cx.w) A (callWith pos (.builtin id) first (backTo pos (starEach es env)) []) Q noE s :=
  Calls.callWith_builtin (by rw [plain_trees hS pos h]; exact plain_any es) (args_sound hS hst hev S i h hQ)
theorem callType_sound {T : String} {pos : Pos} {Q : Value → Shared → Prop} (hS : ∀ x p H, ev (.Starred x p) H = none) (hst : Stable I) (hev : EvOK cx A env I ev) {es : List Expr} {as : List AV} (S : St cx ι H s) (i : I ι s.heap) (h : evEach ev es H = some (as, H'))
    (hQ : ∀ vs s', PostVs cx ι s.heap as H' vs s' → wpAny (model cx.prog cx.w) A (PySem.call (.type T) vs) Q noE s') : wpAny (model cx.prog cx.w) A (callWith pos (.type T) [] (backTo pos (starEach es env)) []) Q noE s :=
  PyProof.Rows.callWith_type (by rw [plain_trees hS pos h]; exact plain_any es) (args_sound hS hst hev S i h hQ)
theorem callFn_sound {a : Addr} {o : Obj} {fd : FuncData} {pos : Pos} {Q : Value → Shared → Prop} (hS : ∀ x p H, ev (.Starred x p) H = none) (hst : Stable I) (hev : EvOK cx A env I ev) {es : List Expr} {as : List AV} (S : St cx ι H s) (i : I ι s.heap) (h : evEach ev es H = some (as, H'))
    (hQ : ∀ vs s', PostVs cx ι s.heap as H' vs s' → (s'.heap.get? a = some o ∧ o.data = .func fd) ∧ wpAny (model cx.prog cx.w) A (PySem.call (.ref a) vs) Q noE s') : wpAny (model cx.prog cx.w) A (callWith pos (.ref a) [] (backTo pos (starEach es env)) []) Q noE s :=
  Calls.callWith_function (args_sound hS hst hev S i h hQ)

/-- a method of a list -/
theorem LM.slot {m : Str} {id : String} (x : LM m id) : Slot "list" m id ∧ typeOf (.builtin id) = pure (.type "method_descriptor") := by
  cases x
  · exact ⟨F.slot_list_append, by kernel_rfl⟩
  · exact ⟨F.slot_list_pop, by kernel_rfl⟩
  · exact ⟨F.slot_list_clear, by kernel_rfl⟩
  · exact ⟨F.slot_list_count, by kernel_rfl⟩
theorem LM.one {m : Str} {id id' : String} (x : LM m id) (y : LM m id') : id' = id := by
  generalize hm : m = m' at y
  cases x <;> cases y <;> first | rfl | (exact absurd hm (by decide))
theorem pMeth_lm {m : Str} {o : AV} {as : List AV} {r : AV × AHeap} (h : pMeth m o as H = some r) : ∃ id, LM m id := by
  unfold pMeth at h
  split at h
  · split at h
    · split at h
      · subst_vars; exact ⟨_, .append⟩
      · split at h
        · subst_vars; exact ⟨_, .pop⟩
        · split at h
          · subst_vars; exact ⟨_, .clear⟩
          · split at h
            · subst_vars; exact ⟨_, .count⟩
            · cases h
    · cases h
  · split at h
    · subst_vars; exact ⟨_, .count⟩
    · cases h
  · cases h

theorem plainBase_attr {o : Expr} {m : Str} (h : plainBase o = true) : attributeBase o m env (eval o env) = eval o env := by
  cases o <;> first | (cases h; done) | rfl

theorem meth_sound {o : Expr} {m : Str} {ap p : Pos} {args : List Expr} {c : AV} (R : Room A) (hS : ∀ x p H, ev (.Starred x p) H = none) (hst : Stable I) (hev : EvOK cx A env I ev) (S : St cx ι H s) (i : I ι s.heap)
    (hb : (plainBase o && ap.endLine == p.line && decide (args.length ≤ 2)) = true)
    (h : (do let ov ← ev o; let _ ← listOf ov; let vs ← evEach ev args; pMeth m ov vs : M AV) H = some (c, H')) :
    wpAny (model cx.prog cx.w) A (eval (.Call (.Attribute o m ap) args [] p) env) (PostV cx ι s.heap c H') noE s := by
  rw [Bool.and_eq_true, Bool.and_eq_true] at hb
  obtain ⟨⟨hb1, hb2⟩, hb3⟩ := hb
  have hb3 := of_decide_eq_true hb3
  obtain ⟨a, H1, h1, h2⟩ := bind_some h
  obtain ⟨xs, H2, h3, h4⟩ := bind_some h2
  obtain ⟨as, H3, h5, h6⟩ := bind_some h4
  obtain ⟨id, hid⟩ := pMeth_lm h6
  refine wpAny_Call_method_late (trees := backTo p (starEach args env)) (plainBase_attr hb1) ?_ hb2 rfl (wpAny_mono (hev _ _ _ _ _ _ S i h1) (fun v s₁ q₁ => ?_) fun _ _ x => x)
  · rw [plain_trees hS p h5, plain_all]
    simp only [List.length_nil, Bool.true_and]
    show (true && decide _) = true
    simp; omega
  · obtain ⟨ι₁, e1, S₁, r1⟩ := q₁
    obtain ⟨rfl, l, vs, n, rfl, hL⟩ := listOf_list S₁ h3 r1
    refine ⟨"list", id, F.plainAttrs_list, hid.slot.1, hid.slot.2, ⟨_, hL, rfl⟩, fun a' q => by cases q; exact ⟨_, hL, rfl⟩, ?_⟩
    refine callBuiltin_sound hS hst hev S₁ (hst _ _ _ _ i e1) h5 fun ws s₂ q₂ => ?_
    obtain ⟨ι₂, e2, S₂, r2⟩ := q₂
    obtain ⟨id', hid', hw⟩ := pMeth_sound (A := A) (E := noE) R S₂ (r1.mono e2) r2 h6
    rw [hid.one hid'] at hw
    exact wpAny_mono hw (fun x s₃ q₃ => q₃.trans (e1.trans e2)) fun _ _ x => x

theorem biOf_name {x : Str} {b : BI} (h : biOf x = some b) : (x == ("__debug__" : Str)) = false := by
  cases hx : x == ("__debug__" : Str) with
  | false => rfl
  | true => rw [beq_iff_eq.mp hx, show biOf ("__debug__" : Str) = none by decide] at h; cases h
theorem tyOf_name {x : Str} {b : Ty} (h : tyOf x = some b) : (x == ("__debug__" : Str)) = false := by
  cases hx : x == ("__debug__" : Str) with
  | false => rfl
  | true => rw [beq_iff_eq.mp hx, show tyOf ("__debug__" : Str) = none by decide] at h; cases h
end

section
variable {cx : Cx} {A : Around} {ι : List Addr} {H H' : AHeap} {s : Shared} {env : Env} {sc : Scope} {ns : List Str} {σ : Loc} {ev : Expr → M AV} {P : Pg}

theorem bi_sound {f : Str} {fp p : Pos} {args : List Expr} {b : BI} {c : AV} {mu : Bool} (hh : A.handled = none) (G : Good cx P) (hS : ∀ x p H, ev (.Starred x p) H = none) (hev : EvOK cx A env (EnvR cx env sc ns σ) ev) (S : St cx ι H s) (i : EnvR cx env sc ns σ ι s.heap)
    (hg : isGlob sc f = true) (hb : biOf f = some b) (h : (do let vs ← evEach ev args; pBI mu b vs : M AV) H = some (c, H')) :
    wpAny (model cx.prog cx.w) A (eval (.Call (.Name f fp) args [] p) env) (PostV cx ι s.heap c H') noE s := by
  obtain ⟨as, H1, h1, h2⟩ := bind_some h
  refine Call_Name rfl (load_bi G S i hg (biOf_name hb) (G.bi f b hb) ?_)
  have fin : ∀ vs s', PostVs cx ι s.heap as H1 vs s' → wpAny (model cx.prog cx.w) A (PySem.call (biV b) vs) (PostV cx ι s.heap c H') noE s' := fun vs s' q => by
    obtain ⟨ι₁, e1, S₁, r1⟩ := q
    exact wpAny_mono (pBI_sound hh S₁ r1 h2) (fun x s₃ q₃ => q₃.trans e1) fun _ _ x => x
  cases b with
  | len => exact callBuiltin_sound (id := "len") (first := []) hS EnvR.stable hev S i h1 fin
  | list => exact callType_sound (T := "list") hS EnvR.stable hev S i h1 fin
  | tuple => exact callType_sound (T := "tuple") hS EnvR.stable hev S i h1 fin
  | dict => exact callType_sound (T := "dict") hS EnvR.stable hev S i h1 fin
  | int => exact callType_sound (T := "int") hS EnvR.stable hev S i h1 fin
  | range => exact callType_sound (T := "range") hS EnvR.stable hev S i h1 fin
  | min => exact callBuiltin_sound (id := "min") (first := []) hS EnvR.stable hev S i h1 fin
  | max => exact callBuiltin_sound (id := "max") (first := []) hS EnvR.stable hev S i h1 fin
  | any => exact callBuiltin_sound (id := "any") (first := []) hS EnvR.stable hev S i h1 fin
  | sorted => exact callBuiltin_sound (id := "sorted") (first := []) hS EnvR.stable hev S i h1 fin

theorem isi_sound {fp p tp : Pos} {e : Expr} {x : Str} {t : Ty} {c : AV} (G : Good cx P) (hne : ∀ x p, e ≠ .Starred x p) (hev : EvOK cx A env (EnvR cx env sc ns σ) ev) (S : St cx ι H s) (i : EnvR cx env sc ns σ ι s.heap)
    (hg : isGlob sc ("isinstance" : Str) = true) (hx : isGlob sc x = true) (ht : tyOf x = some t) (h : (do let v ← ev e; let b ← pIsi v t; pure (.bool b) : M AV) H = some (c, H')) :
    wpAny (model cx.prog cx.w) A (eval (.Call (.Name ("isinstance" : Str) fp) [e, .Name x tp] [] p) env) (PostV cx ι s.heap c H') noE s := by
  obtain ⟨a, H1, h1, h2⟩ := bind_some h
  obtain ⟨b, H2, h3, h4⟩ := bind_some h2
  obtain ⟨rfl, rfl⟩ := pure_some h4
  have htr : backTo p (starEach [e, .Name x tp] env) = [(false, eval e env), (false, eval (.Name x tp) env)] := by
    rw [starEach_cons hne]; rfl
  refine Call_Name htr (load_bi G S i hg (by decide) G.isi ?_)
  refine Calls.callWith_builtin rfl (Calls.evalArgs_plain (Calls.spliced_cons (wpAny_mono (hev _ _ _ _ _ _ S i h1) (fun v s₁ q₁ => ?_) fun _ _ x => x)))
  obtain ⟨ι₁, e1, S₁, r1⟩ := q₁
  have i1 := EnvR.stable _ _ _ _ i e1
  refine Calls.spliced_cons (load_bi G S₁ i1 hx (tyOf_name ht) (G.ty x t ht) (Calls.spliced_nil ?_))
  exact wpAny_mono (pIsi_sound S₁ r1 h3) (fun x s₃ q₃ => q₃.trans e1) fun _ _ x => x

theorem pIsiTL_sound {a : AV} {b : Bool} {v : Value} {tp : Addr} {E : Value → Shared → Prop} (S : St cx ι H s) (ra : VR cx ι s.heap a v) (ht : s.heap.get? tp = some { cls := .type "tuple", data := .seq #[.type "tuple", .type "list"] }) (h : pIsiTL a H = some (b, H')) :
    wpAny (model cx.prog cx.w) A (PySem.call (.builtin "isinstance") [v, .ref tp]) (PostV cx ι s.heap (.bool b) H') E s := by
  obtain ⟨b1, H1, h1, h2⟩ := bind_some h
  obtain ⟨b2, H2, h3, h4⟩ := bind_some h2
  obtain ⟨rfl, rfl⟩ := pure_some h4
  obtain ⟨rfl, g1⟩ := pIsi_some h1
  obtain ⟨rfl, g2⟩ := pIsi_some h3
  have f0 : ∀ (c : Bool) (t : Nat), PostV cx ι s.heap (.bool c) H' (.bool c) { s with toks := t } := fun c t => PostV.same S t (.bool c)
  cases ra with
  | none =>
    cases g1; cases g2
    exact IsiPair.tupleOfB (Tx := "NoneType") (vs := [false, false]) (.cons (.of_false_none (by decide +kernel) F.isi_meta_tuple F.sub_NoneType_tuple) (.cons (.of_false_none (by decide +kernel) F.isi_meta_list F.sub_NoneType_list) .nil)) rfl ht rfl (f0 false)
  | bool c =>
    cases g1; cases g2
    exact IsiPair.tupleOfB (Tx := "bool") (vs := [false, false]) (.cons (.of_false_bool (by decide +kernel) F.isi_meta_tuple F.sub_bool_tuple) (.cons (.of_false_bool (by decide +kernel) F.isi_meta_list F.sub_bool_list) .nil)) rfl ht rfl (f0 false)
  | int i u =>
    cases g1; cases g2
    exact IsiPair.tupleOfB (Tx := "int") (vs := [false, false]) (.cons (.of_false_int (by decide +kernel) F.isi_meta_tuple F.sub_int_tuple) (.cons (.of_false_int (by decide +kernel) F.isi_meta_list F.sub_int_list) .nil)) rfl ht rfl (f0 false)
  | str x u =>
    cases g1; cases g2
    exact IsiPair.tupleOfB (Tx := "str") (vs := [false, false]) (.cons (.of_false_str (by decide +kernel) F.isi_meta_tuple F.sub_str_tuple) (.cons (.of_false_str (by decide +kernel) F.isi_meta_list F.sub_str_list) .nil)) rfl ht rfl (f0 false)
  | tup hl hn hz hs =>
    cases g1; cases g2
    exact IsiPair.tupleOfB (Tx := "tuple") (vs := [true, false]) (.cons (.of_true F.isi_meta_tuple F.sub_tuple_tuple) (.cons (.of_false_tuple (by decide +kernel) F.isi_meta_list F.sub_tuple_list) .nil)) ⟨_, hl, rfl⟩ ht rfl (f0 true)
  | lst hl hn hz hs =>
    cases g1; cases g2
    exact IsiPair.tupleOfB (Tx := "list") (vs := [false, true]) (.cons (.of_false_list (by decide +kernel) F.isi_meta_tuple F.sub_list_tuple) (.cons (.of_true F.isi_meta_list F.sub_list_list) .nil)) ⟨_, hl, rfl⟩ ht rfl (f0 true)
  | @loc l0 a0 hl =>
    cases hH : H'[l0]? with
    | none => simp only [pIs1, hH] at g1; cases g1
    | some o =>
      cases o with
      | dict es => simp only [pIs1, hH] at g1; cases g1
      | list xs =>
        obtain ⟨vs, n, hL', _⟩ := S.own _ _ _ hl hH
        simp only [pIs1, hH, Option.some.injEq] at g1 g2
        subst g1; subst g2
        exact IsiPair.tupleOfB (Tx := "list") (vs := [false, true]) (.cons (.of_false_list (by decide +kernel) F.isi_meta_tuple F.sub_list_tuple) (.cons (.of_true F.isi_meta_list F.sub_list_list) .nil)) ⟨_, hL', rfl⟩ ht rfl (f0 true)
  | range hr hn => cases g1
  | cdict hd hn hk hsm hs => cases g1

theorem isiTL_sound {fp p tp1 tp2 tp3 : Pos} {k : Nat} {e : Expr} {x y : Str} {c : AV} (G : Good cx P) (hne : ∀ x p, e ≠ .Starred x p) (hev : EvOK cx A env (EnvR cx env sc ns σ) ev) (S : St cx ι H s) (i : EnvR cx env sc ns σ ι s.heap)
    (hg : isGlob sc ("isinstance" : Str) = true) (hx : isGlob sc x = true) (hy : isGlob sc y = true) (ht : isTL x y = true) (h : (do let v ← ev e; let b ← pIsiTL v; pure (.bool b) : M AV) H = some (c, H')) :
    wpAny (model cx.prog cx.w) A (eval (.Call (.Name ("isinstance" : Str) fp) [e, .Tuple [.Name x tp1, .Name y tp2] k tp3] [] p) env) (PostV cx ι s.heap c H') noE s := by
  simp only [isTL, Bool.and_eq_true, decide_eq_true_eq] at ht
  obtain ⟨rfl, rfl⟩ := ht
  obtain ⟨a, H1, h1, h2⟩ := bind_some h
  obtain ⟨b, H2, h3, h4⟩ := bind_some h2
  obtain ⟨rfl, rfl⟩ := pure_some h4
  have htr : backTo p (starEach [e, .Tuple [.Name ("tuple" : Str) tp1, .Name ("list" : Str) tp2] k tp3] env) = [(false, eval e env), (false, eval (.Tuple [.Name ("tuple" : Str) tp1, .Name ("list" : Str) tp2] k tp3) env)] := by
    rw [starEach_cons hne]; rfl
  refine Call_Name htr (load_bi G S i hg (by decide) G.isi ?_)
  refine Calls.callWith_builtin rfl (Calls.evalArgs_plain (Calls.spliced_cons (wpAny_mono (hev _ _ _ _ _ _ S i h1) (fun v s₁ q₁ => ?_) fun _ _ x => x)))
  obtain ⟨ι₁, e1, S₁, r1⟩ := q₁
  have i1 := EnvR.stable _ _ _ _ i e1
  refine Calls.spliced_cons (Tuple_ ?_)
  show wpAny _ _ (spliced [(false, eval (.Name ("tuple" : Str) tp1) env), (false, eval (.Name ("list" : Str) tp2) env)]) _ _ _
  refine Calls.spliced_cons (load_bi G S₁ i1 hx (by decide) (G.ty _ .tuple (by decide)) ?_)
  refine Calls.spliced_cons (load_bi G S₁ i1 hy (by decide) (G.ty _ .list (by decide)) (Calls.spliced_nil ?_))
  refine wpAny_newObj_type (Calls.spliced_nil ?_) (by size_fits)
  have S₂ := S₁.push { cls := .type "tuple", data := .seq #[.type "tuple", .type "list"] }
  have e2 : Ext ι₁ ι₁ s₁.heap (s₁.heap.push { cls := .type "tuple", data := .seq #[.type "tuple", .type "list"] }) := Ext.push _
  exact wpAny_mono (pIsiTL_sound S₂ (r1.mono e2) (Heap.get?_push_size _ rfl) h3) (fun x s₃ q₃ => q₃.trans (e1.trans e2)) fun _ _ x => x

/-- what is asked of the calls of the text's own defs -/
def CallOK (cx : Cx) (A : Around) (cf : Str → List AV → M AV) : Prop :=
  ∀ (hid : List Addr) (f : Str) (as : List AV) (H : AHeap) (a : AV) (H' : AHeap), cf f as H = some (a, H') → (f == ("__debug__" : Str)) = false ∧ ∃ fa o fd, cx.mg f = some (.ref fa) ∧ cx.h₀.get? fa = some o ∧ o.data = .func fd ∧
    ∀ (ι : List Addr) (s : Shared) (vs : List Value), St { cx with hid := hid } ι H s → VRs { cx with hid := hid } ι s.heap as vs → wpAny (model cx.prog cx.w) A (PySem.call (.ref fa) vs) (PostV { cx with hid := hid } ι s.heap a H') noE s

theorem fn_sound {f : Str} {fp p : Pos} {args : List Expr} {c : AV} {cf : Str → List AV → M AV} (G : Good cx P) (C : CallOK cx A cf) (hS : ∀ x p H, ev (.Starred x p) H = none) (hev : EvOK cx A env (EnvR cx env sc ns σ) ev) (S : St cx ι H s) (i : EnvR cx env sc ns σ ι s.heap)
    (hg : isGlob sc f = true) (h : (do let vs ← evEach ev args; cf f vs : M AV) H = some (c, H')) :
    wpAny (model cx.prog cx.w) A (eval (.Call (.Name f fp) args [] p) env) (PostV cx ι s.heap c H') noE s := by
  obtain ⟨as, H1, h1, h2⟩ := bind_some h
  obtain ⟨hd, fa, o, fd, q1, q2, q3, q4⟩ := C cx.hid f as H1 c H' h2
  refine Call_Name rfl (load_glob G S i hg hd q1 ?_)
  refine callFn_sound (o := o) (fd := fd) hS EnvR.stable hev S i h1 fun vs s' q => ?_
  obtain ⟨ι₁, e1, S₁, r1⟩ := q
  exact ⟨⟨S₁.base _ _ q2, q3⟩, wpAny_mono (q4 ι₁ s' vs S₁ r1) (fun x s₃ q₃ => q₃.trans e1) fun _ _ x => x⟩
end
end Mine


set_option autoImplicit false
set_option linter.unusedVariables false
set_option maxRecDepth 100000
namespace Mine
open PySem PyProof.Rows

/-- an iterator over a list or a tuple -/
inductive SIt (h : Heap) (it a : Addr) (xs : Array Value) (i : Nat) : Prop
  | list : h.IsListIter it a i → h.IsList a xs → SIt h it a xs i
  | tup : h.IsTupleIter it a i → h.IsTuple a xs → SIt h it a xs i
theorem SIt.keep {h h' : Heap} {it a : Addr} {xs : Array Value} {i : Nat} (x : SIt h it a xs i) (h1 : ∀ o, h.get? it = some o → h'.get? it = some o) (h2 : ∀ o, h.get? a = some o → h'.get? a = some o) : SIt h' it a xs i := by
  cases x with
  | list p q => exact .list (p.at h1) (q.at h2)
  | tup p q =>
    obtain ⟨o, e, r⟩ := p
    obtain ⟨o', e', r'⟩ := q
    exact .tup ⟨o, h1 o e, r⟩ ⟨o', h2 o' e', r'⟩
theorem SIt.lt {h : Heap} {it a : Addr} {xs : Array Value} {i : Nat} (x : SIt h it a xs i) : it < h.objs.size ∧ a < h.objs.size := by
  cases x with
  | list p q => obtain ⟨o, e, _⟩ := p; obtain ⟨o', e', _⟩ := q; exact ⟨Heap.lt_size e, Heap.lt_size e'⟩
  | tup p q => obtain ⟨o, e, _⟩ := p; obtain ⟨o', e', _⟩ := q; exact ⟨Heap.lt_size e, Heap.lt_size e'⟩

section
variable {prog : Program} {w : World} {A : Around} {E : Value → Shared → Prop} {s : Shared}

theorem nextOf_tuple_item {it t : Addr} {i : Nat} {items : Array Value} {x : Value} {Q : Value → Shared → Prop} (hit : s.heap.IsTupleIter it t i) (ht : s.heap.IsTuple t items) (hx : items[i]? = some x)
    (hQ : ∀ h', h'.IsTupleIter it t (i + 1) → Heap.SameBut it s.heap h' → Q x { s with heap := h' }) : wpAny (model prog w) A (Builtin.SmallTypes.nextOf (.ref it)) Q E s := by
  obtain ⟨o, ho, hc, hd⟩ := id hit
  obtain ⟨ol, hol, _, nl, hdl⟩ := ht
  unfold Builtin.SmallTypes.nextOf
  refine wpAny_bind (wpAny_callSpecial?_slot (name := Str.ofString "__next__") hit.typeIs F.slot_tuple_iterator_next (wpAny_call_entry F.slot_tuple_iterator_next hit.typeIs F.entry_tuple_iterator_next ?_ (F.args_tuple_iterator_next_1 _)))
  show wpAny _ _ (field (.ref it) 0 >>= _) _ _ s
  refine wpAny_bind (wpAny_field ho hd (x := .ref t) rfl ?_)
  show wpAny _ _ (if (Value.ref t == Value.none) = true then _ else _) _ _ s
  rw [if_neg (show ¬ ((Value.ref t == Value.none) = true) from Bool.false_ne_true)]
  show wpAny _ _ (field (.ref it) 1 >>= _) _ _ s
  refine wpAny_bind (wpAny_field ho hd (x := .int i 0) rfl ?_)
  show wpAny _ _ (seqItems? (.ref t) >>= _) _ _ s
  refine wpAny_bind (wpAny_seqItems hol hdl ?_)
  simp only [Int.toNat_natCast, hx]
  refine wpAny_bind (wpAny_setField ho hd (by simp) (wpAny_pure ⟨x, rfl, wpAny_pure (hQ _ ?_ (Heap.SameBut.update ..))⟩))
  exact ⟨_, Heap.get?_update_self _ ho (Obj.isFreed_of_fields (Obj.data_mapFields hd _)), (Obj.cls_mapFields ..).trans hc, by rw [Obj.data_mapFields hd]; simp [rawInt]⟩

theorem nextOf_tuple_end {it t : Addr} {i : Nat} {items : Array Value} {Q : Value → Shared → Prop} (hh : A.handled = none) (hit : s.heap.IsTupleIter it t i) (ht : s.heap.IsTuple t items) (hx : items[i]? = none)
    (hE : ∀ h' e, Heap.ExtBut it s.heap h' → (∃ o, h'.get? e = some o ∧ o.cls = .type "StopIteration") → E (.ref e) { s with heap := h' }) : wpAny (model prog w) A (Builtin.SmallTypes.nextOf (.ref it)) Q E s := by
  obtain ⟨o, ho, hc, hd⟩ := id hit
  obtain ⟨ol, hol, _, nl, hdl⟩ := ht
  unfold Builtin.SmallTypes.nextOf
  refine wpAny_bind (wpAny_callSpecial?_slot (name := Str.ofString "__next__") hit.typeIs F.slot_tuple_iterator_next (wpAny_call_entry F.slot_tuple_iterator_next hit.typeIs F.entry_tuple_iterator_next ?_ (F.args_tuple_iterator_next_1 _)))
  show wpAny _ _ (field (.ref it) 0 >>= _) _ _ s
  refine wpAny_bind (wpAny_field ho hd (x := .ref t) rfl ?_)
  show wpAny _ _ (if (Value.ref t == Value.none) = true then _ else _) _ _ s
  rw [if_neg (show ¬ ((Value.ref t == Value.none) = true) from Bool.false_ne_true)]
  show wpAny _ _ (field (.ref it) 1 >>= _) _ _ s
  refine wpAny_bind (wpAny_field ho hd (x := .int i 0) rfl ?_)
  show wpAny _ _ (seqItems? (.ref t) >>= _) _ _ s
  refine wpAny_bind (wpAny_seqItems hol hdl ?_)
  simp only [Int.toNat_natCast, hx]
  refine wpAny_bind (wpAny_rule (wpAny_bind (wpAny_setField ho hd (by simp) ?_)))
  show wpAny _ _ (newExc (.type "StopIteration") [] >>= _) _ _ _
  refine wpAny_bind ?_
  simp only [newExc, newTuple]
  refine wpAny_bind (wpAny_newObj_type ?_ (by size_fits))
  refine wpAny_bind (m := firstArgMember _ _) (wpAny_of_eq (a := Value.none) (by first | rfl | (simp only [firstArgMember]; rfl)) ?_)
  refine wpAny_newObj_type ?_ (by size_fits)
  simp only [raiseNew]
  refine wpAny_bind (wpAny_handled ?_)
  first | rw [show A.in1.handled = none from hh] | rw [hh]
  refine wpAny_bind (wpAny_pure (wpAny_throw ?_))
  exact hE _ _ (((Heap.SameBut.update ..).extBut.push _).push _) ⟨_, Heap.get?_push_size _ rfl, rfl⟩

theorem nextOf_item {it a : Addr} {xs : Array Value} {i : Nat} {x : Value} {Q : Value → Shared → Prop} (hit : SIt s.heap it a xs i) (hne : a ≠ it) (hx : xs[i]? = some x)
    (hQ : ∀ h', SIt h' it a xs (i + 1) → Heap.SameBut it s.heap h' → Q x { s with heap := h' }) : wpAny (model prog w) A (Builtin.SmallTypes.nextOf (.ref it)) Q E s := by
  cases hit with
  | list p q => exact wpAny_nextOf_list_item p q hx fun h' p' hs => hQ h' (.list p' (q.extBut hs.extBut hne)) hs
  | tup p q => exact nextOf_tuple_item p q hx fun h' p' hs => hQ h' (.tup p' (q.extBut hs.extBut hne)) hs
theorem nextOf_end {it a : Addr} {xs : Array Value} {i : Nat} {Q : Value → Shared → Prop} (hh : A.handled = none) (hit : SIt s.heap it a xs i) (hx : xs[i]? = none)
    (hE : ∀ h' e, Heap.ExtBut it s.heap h' → (∃ o, h'.get? e = some o ∧ o.cls = .type "StopIteration") → E (.ref e) { s with heap := h' }) : wpAny (model prog w) A (Builtin.SmallTypes.nextOf (.ref it)) Q E s := by
  cases hit with
  | list p q => exact wpAny_nextOf_list_end hh p q hx hE
  | tup p q => exact nextOf_tuple_end hh p q hx hE

/-- a zip object, with its marks on its own tuple -/
abbrev IsZ (h : Heap) (z TI TO : Addr) (f0 f1 : Value) : Prop :=
  h.get? z = some { cls := .type "zip", dict := none, data := .fields #[f0, f1, .bool false, .ref TI, .ref TO], slots := #[] }
structure ZA (z TI TO i1 i2 a1 a2 : Addr) : Prop where
  TIz : TI ≠ z
  TOz : TO ≠ z
  i1z : i1 ≠ z
  i2z : i2 ≠ z
  TITO : TI ≠ TO
  TIi1 : TI ≠ i1
  TIi2 : TI ≠ i2
  TOi1 : TO ≠ i1
  TOi2 : TO ≠ i2
  i12 : i1 ≠ i2
  a1z : a1 ≠ z
  a1TO : a1 ≠ TO
  a1i1 : a1 ≠ i1
  a1i2 : a1 ≠ i2
  a2z : a2 ≠ z
  a2TO : a2 ≠ TO
  a2i1 : a2 ≠ i1
  a2i2 : a2 ≠ i2
end
end Mine


set_option autoImplicit false
set_option linter.unusedVariables false
set_option maxRecDepth 100000
namespace Mine
open PySem PyProof.Rows
section
variable {prog : Program} {w : World} {A : Around} {E : Value → Shared → Prop} {s : Shared}

theorem wpAny_alive {M : Model} {a : Addr} {Q : Option Obj → Shared → Prop} (h : Q (s.heap.get? a) s) : wpAny M A (loadIfAlive a) Q E s := fun Γ p _ => by
  unfold loadIfAlive
  rw [Sem.wp_loadIfAlive]
  exact (Sem.wp_pure ..).mpr h

/-- zip's next, its own tuple handed out and alive -/
theorem zipB_item {z TI TO i1 i2 a1 a2 T : Addr} {k : Nat} {xs ys : Array Value} {x y f1 : Value} {o : Obj} {Q : Value → Shared → Prop} (D : ZA z TI TO i1 i2 a1 a2)
    (hz : IsZ s.heap z TI TO (rawInt T) f1) (hf : f1 = .bool false ∨ f1 = .bool true) (hT : s.heap.get? T = some o) (hTI : IsPair s.heap TI (.ref i1) (.ref i2))
    (h1 : SIt s.heap i1 a1 xs k) (h2 : SIt s.heap i2 a2 ys k) (hx : xs[k]? = some x) (hy : ys[k]? = some y)
    (hQ : ∀ h', IsZ h' z TI TO (rawInt T) (.bool true) → SIt h' i1 a1 xs (k + 1) → SIt h' i2 a2 ys (k + 1) → IsPair h' s.heap.objs.size x y →
      (∀ c o, c ≠ z → c ≠ i1 → c ≠ i2 → s.heap.get? c = some o → h'.get? c = some o) → Q (.ref s.heap.objs.size) { s with heap := h' }) :
    wpAny (model prog w) A (Builtin.«zip.__next__» ⟨[.ref z], []⟩) (fun fin s' => ∃ v, fin = .done (.ret v) ∧ Q v s') E s := by
  show wpAny _ _ (field (.ref z) 2 >>= _) _ _ _
  refine wpAny_bind (wpAny_field hz rfl (x := .bool false) rfl ?_)
  show wpAny _ _ (field (.ref z) 3 >>= _) _ _ _
  refine wpAny_bind (wpAny_field hz rfl (x := .ref TI) rfl ?_)
  refine wpAny_bind (wpAny_seqItems hTI rfl ?_)
  show wpAny _ _ (Builtin.SmallTypes.ownedTupleIsFree (.ref z) >>= _) _ _ _
  refine wpAny_bind ?_
  have free : ∀ Q' : Bool → Shared → Prop, (∀ h', IsZ h' z TI TO (rawInt T) (.bool true) → Heap.SameBut z s.heap h' → Q' false { s with heap := h' }) → wpAny (model prog w) A (Builtin.SmallTypes.ownedTupleIsFree (.ref z)) Q' E s := by
    intro Q' hq
    unfold Builtin.SmallTypes.ownedTupleIsFree
    refine wpAny_bind (wpAny_field hz rfl (x := rawInt T) rfl ?_)
    show wpAny _ _ (loadIfAlive ((T : Int)).toNat >>= _) _ _ _
    rw [Int.toNat_natCast]
    refine wpAny_bind (wpAny_alive ?_)
    rw [hT]
    show wpAny _ _ (field (.ref z) 1 >>= _) _ _ _
    refine wpAny_bind (wpAny_field hz rfl (x := f1) rfl ?_)
    rcases hf with rfl | rfl
    · show wpAny _ _ (setField (.ref z) 1 (.bool true) >>= _) _ _ _
      refine wpAny_bind (wpAny_setField_rec hz (by simp) fun h' hz' hs' => wpAny_pure (hq h' hz' hs'))
    · refine wpAny_pure (hq s.heap hz ⟨rfl, fun _ _ => rfl⟩)
  refine free _ fun h₁ hz₁ hs₁ => ?_
  simp only [Bool.false_eq_true, if_false]
  rw [← Array.forIn_toList]
  simp only [List.forIn_cons, List.forIn_nil]
  refine wpAny_bind (wpAny_bind (wpAny_bind (wpAny_holding ?_)))
  show wpAny _ _ (Builtin.SmallTypes.nextOf (.ref i1) >>= _) _ _ _
  refine wpAny_bind (nextOf_item (h1.keep (fun o e => hs₁.extBut _ _ D.i1z e) (fun o e => hs₁.extBut _ _ D.a1z e)) D.a1i1 hx fun h₂ h1₂ hs₂ => wpAny_pure ?_)
  refine wpAny_pure ?_
  refine wpAny_bind (wpAny_bind (wpAny_holding ?_))
  show wpAny _ _ (Builtin.SmallTypes.nextOf (.ref i2) >>= _) _ _ _
  have h2₂ : SIt h₂ i2 a2 ys k := (h2.keep (fun o e => hs₁.extBut _ _ D.i2z e) (fun o e => hs₁.extBut _ _ D.a2z e)).keep (fun o e => hs₂.extBut _ _ D.i12.symm e) (fun o e => hs₂.extBut _ _ D.a2i1 e)
  refine wpAny_bind (nextOf_item h2₂ D.a2i2 hy fun h₃ h2₃ hs₃ => wpAny_pure ?_)
  refine wpAny_pure ?_
  refine wpAny_pure ?_
  refine wpAny_bind (wpAny_newTuple (hsz := by show 2 ≤ sizeLine; decide) ?_)
  have hsz : h₃.objs.size = s.heap.objs.size := by rw [hs₃.1, hs₂.1, hs₁.1]
  have h1₃ : SIt h₃ i1 a1 xs (k + 1) := h1₂.keep (fun o e => hs₃.extBut _ _ D.i12 e) (fun o e => hs₃.extBut _ _ D.a1i2 e)
  have hz₃ : IsZ h₃ z TI TO (rawInt T) (.bool true) := hs₃.extBut _ _ D.i2z.symm (hs₂.extBut _ _ D.i1z.symm hz₁)
  refine wpAny_pure ⟨_, rfl, ?_⟩
  show Q (.ref h₃.objs.size) _
  rw [hsz]
  refine hQ _ (Heap.get?_push_of_some _ hz₃) (h1₃.keep (fun o e => Heap.get?_push_of_some _ e) (fun o e => Heap.get?_push_of_some _ e)) (h2₃.keep (fun o e => Heap.get?_push_of_some _ e) (fun o e => Heap.get?_push_of_some _ e)) ?_ fun c o c1 c2 c3 e => Heap.get?_push_of_some _ (hs₃.extBut _ _ c3 (hs₂.extBut _ _ c2 (hs₁.extBut _ _ c1 e)))
  rw [← hsz]
  exact Heap.get?_push_size _ rfl
theorem zipB_end {z TI TO i1 i2 a1 a2 T : Addr} {k : Nat} {xs ys : Array Value} {f1 : Value} {o : Obj} {Q : Fin → Shared → Prop} (hh : A.handled = none) (D : ZA z TI TO i1 i2 a1 a2)
    (hz : IsZ s.heap z TI TO (rawInt T) f1) (hf : f1 = .bool false ∨ f1 = .bool true) (hT : s.heap.get? T = some o) (hTI : IsPair s.heap TI (.ref i1) (.ref i2))
    (h1 : SIt s.heap i1 a1 xs k) (hx : xs[k]? = none)
    (hE : ∀ h' e, (∀ c o, c ≠ z → c ≠ i1 → s.heap.get? c = some o → h'.get? c = some o) → (∃ o, h'.get? e = some o ∧ o.cls = .type "StopIteration") → E (.ref e) { s with heap := h' }) :
    wpAny (model prog w) A (Builtin.«zip.__next__» ⟨[.ref z], []⟩) Q E s := by
  show wpAny _ _ (field (.ref z) 2 >>= _) _ _ _
  refine wpAny_bind (wpAny_field hz rfl (x := .bool false) rfl ?_)
  show wpAny _ _ (field (.ref z) 3 >>= _) _ _ _
  refine wpAny_bind (wpAny_field hz rfl (x := .ref TI) rfl ?_)
  refine wpAny_bind (wpAny_seqItems hTI rfl ?_)
  show wpAny _ _ (Builtin.SmallTypes.ownedTupleIsFree (.ref z) >>= _) _ _ _
  refine wpAny_bind ?_
  have free : ∀ Q' : Bool → Shared → Prop, (∀ h', IsZ h' z TI TO (rawInt T) (.bool true) → Heap.SameBut z s.heap h' → Q' false { s with heap := h' }) → wpAny (model prog w) A (Builtin.SmallTypes.ownedTupleIsFree (.ref z)) Q' E s := by
    intro Q' hq
    unfold Builtin.SmallTypes.ownedTupleIsFree
    refine wpAny_bind (wpAny_field hz rfl (x := rawInt T) rfl ?_)
    show wpAny _ _ (loadIfAlive ((T : Int)).toNat >>= _) _ _ _
    rw [Int.toNat_natCast]
    refine wpAny_bind (wpAny_alive ?_)
    rw [hT]
    show wpAny _ _ (field (.ref z) 1 >>= _) _ _ _
    refine wpAny_bind (wpAny_field hz rfl (x := f1) rfl ?_)
    rcases hf with rfl | rfl
    · show wpAny _ _ (setField (.ref z) 1 (.bool true) >>= _) _ _ _
      refine wpAny_bind (wpAny_setField_rec hz (by simp) fun h' hz' hs' => wpAny_pure (hq h' hz' hs'))
    · refine wpAny_pure (hq s.heap hz ⟨rfl, fun _ _ => rfl⟩)
  refine free _ fun h₁ hz₁ hs₁ => ?_
  simp only [Bool.false_eq_true, if_false]
  rw [← Array.forIn_toList]
  simp only [List.forIn_cons, List.forIn_nil]
  refine wpAny_bind (wpAny_bind (wpAny_bind (wpAny_holding ?_)))
  show wpAny _ _ (Builtin.SmallTypes.nextOf (.ref i1) >>= _) _ _ _
  refine wpAny_bind (nextOf_end hh (h1.keep (fun o e => hs₁.extBut _ _ D.i1z e) (fun o e => hs₁.extBut _ _ D.a1z e)) hx fun h₂ e hs₂ he => ?_)
  exact hE h₂ e (fun c o c1 c2 x => hs₂ _ _ c2 (hs₁.extBut _ _ c1 x)) he

/-- zip's next, its own tuple free -/
theorem zipA_item {z TI TO i1 i2 a1 a2 : Addr} {k : Nat} {xs ys : Array Value} {x y a b : Value} {Q : Value → Shared → Prop} (D : ZA z TI TO i1 i2 a1 a2)
    (hz : IsZ s.heap z TI TO .none (.bool false)) (hTI : IsPair s.heap TI (.ref i1) (.ref i2)) (hTO : IsPair s.heap TO a b)
    (h1 : SIt s.heap i1 a1 xs k) (h2 : SIt s.heap i2 a2 ys k) (hx : xs[k]? = some x) (hy : ys[k]? = some y)
    (hQ : ∀ h', IsZ h' z TI TO (rawInt s.heap.objs.size) (.bool false) → IsPair h' TO x y → SIt h' i1 a1 xs (k + 1) → SIt h' i2 a2 ys (k + 1) → IsPair h' s.heap.objs.size x y →
      (∀ c o, c ≠ z → c ≠ TO → c ≠ i1 → c ≠ i2 → s.heap.get? c = some o → h'.get? c = some o) → Q (.ref s.heap.objs.size) { s with heap := h' }) :
    wpAny (model prog w) A (Builtin.«zip.__next__» ⟨[.ref z], []⟩) (fun fin s' => ∃ v, fin = .done (.ret v) ∧ Q v s') E s := by
  show wpAny _ _ (field (.ref z) 2 >>= _) _ _ _
  refine wpAny_bind (wpAny_field hz rfl (x := .bool false) rfl ?_)
  show wpAny _ _ (field (.ref z) 3 >>= _) _ _ _
  refine wpAny_bind (wpAny_field hz rfl (x := .ref TI) rfl ?_)
  refine wpAny_bind (wpAny_seqItems hTI rfl ?_)
  show wpAny _ _ (Builtin.SmallTypes.ownedTupleIsFree (.ref z) >>= _) _ _ _
  refine wpAny_bind ?_
  unfold Builtin.SmallTypes.ownedTupleIsFree
  refine wpAny_bind (wpAny_field hz rfl (x := .none) rfl (wpAny_pure ?_))
  simp only [if_true]
  refine wpAny_bind (wpAny_rule ?_)
  refine wpAny_bind (wpAny_field hz rfl (x := .ref TO) rfl ?_)
  refine wpAny_bind (wpAny_setField_rec hz (by simp) fun h₁ hz₁ hs₁ => ?_)
  replace hz₁ : IsZ h₁ z TI TO .ellipsis (.bool false) := hz₁
  refine wpAny_bind ?_
  simp only [List.zipIdx_cons, List.zipIdx_nil, List.forIn_cons, List.forIn_nil]
  refine wpAny_bind (wpAny_bind (wpAny_onRaise ?_))
  show wpAny _ _ (Builtin.SmallTypes.nextOf (.ref i1) >>= _) _ _ _
  refine wpAny_bind (nextOf_item (h1.keep (fun o e => hs₁.extBut _ _ D.i1z e) (fun o e => hs₁.extBut _ _ D.a1z e)) D.a1i1 hx fun h₂ h1₂ hs₂ => wpAny_pure ?_)
  have hTO₂ : IsPair h₂ TO a b := hs₂.extBut _ _ D.TOi1 (hs₁.extBut _ _ D.TOz hTO)
  refine wpAny_bind (wpAny_seqItems hTO₂ rfl ?_)
  refine wpAny_bind (wpAny_updateSeq_pair hTO₂ fun h₃ hTO₃ hs₃ => ?_)
  replace hTO₃ : IsPair h₃ TO x b := hTO₃
  refine wpAny_bind (wpAny_letGo (wpAny_pure ?_))
  refine wpAny_bind (wpAny_bind (wpAny_onRaise ?_))
  show wpAny _ _ (Builtin.SmallTypes.nextOf (.ref i2) >>= _) _ _ _
  have h2₃ : SIt h₃ i2 a2 ys k := ((h2.keep (fun o e => hs₁.extBut _ _ D.i2z e) (fun o e => hs₁.extBut _ _ D.a2z e)).keep (fun o e => hs₂.extBut _ _ D.i12.symm e) (fun o e => hs₂.extBut _ _ D.a2i1 e)).keep (fun o e => hs₃.extBut _ _ D.TOi2.symm e) (fun o e => hs₃.extBut _ _ D.a2TO e)
  refine wpAny_bind (nextOf_item h2₃ D.a2i2 hy fun h₄ h2₄ hs₄ => wpAny_pure ?_)
  have hTO₄ : IsPair h₄ TO x b := hs₄.extBut _ _ D.TOi2 hTO₃
  refine wpAny_bind (wpAny_seqItems hTO₄ rfl ?_)
  refine wpAny_bind (wpAny_updateSeq_pair hTO₄ fun h₅ hTO₅ hs₅ => ?_)
  replace hTO₅ : IsPair h₅ TO x y := hTO₅
  refine wpAny_bind (wpAny_letGo (wpAny_pure (wpAny_pure ?_)))
  refine wpAny_bind (wpAny_seqItems hTO₅ rfl ?_)
  refine wpAny_bind (wpAny_newTuple ?_)
  have hsz : h₅.objs.size = s.heap.objs.size := by rw [hs₅.1, hs₄.1, hs₃.1, hs₂.1, hs₁.1]
  have hz₅ : IsZ h₅ z TI TO .ellipsis (.bool false) := hs₅.extBut _ _ D.TOz.symm (hs₄.extBut _ _ D.i2z.symm (hs₃.extBut _ _ D.TOz.symm (hs₂.extBut _ _ D.i1z.symm hz₁)))
  have hk₅ : ∀ c o, c ≠ z → c ≠ TO → c ≠ i1 → c ≠ i2 → s.heap.get? c = some o → h₅.get? c = some o := fun c o c1 c2 c3 c4 e =>
    hs₅.extBut _ _ c2 (hs₄.extBut _ _ c4 (hs₃.extBut _ _ c2 (hs₂.extBut _ _ c3 (hs₁.extBut _ _ c1 e))))
  have h1₅ : SIt h₅ i1 a1 xs (k + 1) := ((h1₂.keep (fun o e => hs₃.extBut _ _ D.TOi1.symm e) (fun o e => hs₃.extBut _ _ D.a1TO e)).keep (fun o e => hs₄.extBut _ _ D.i12 e) (fun o e => hs₄.extBut _ _ D.a1i2 e)).keep (fun o e => hs₅.extBut _ _ D.TOi1.symm e) (fun o e => hs₅.extBut _ _ D.a1TO e)
  have h2₅ : SIt h₅ i2 a2 ys (k + 1) := h2₄.keep (fun o e => hs₅.extBut _ _ D.TOi2.symm e) (fun o e => hs₅.extBut _ _ D.a2TO e)
  have hzlt : z < h₅.objs.size := Heap.lt_size hz₅
  show wpAny _ _ (Builtin.SmallTypes.ownedTupleHandOut (.ref z) (.ref h₅.objs.size) >>= _) _ _ _
  refine wpAny_bind ?_
  unfold Builtin.SmallTypes.ownedTupleHandOut
  have hz₆ : IsZ (h₅.push { cls := .type "tuple", data := .seq #[x, y] }) z TI TO .ellipsis (.bool false) := Heap.get?_push_of_some _ hz₅
  refine wpAny_bind (wpAny_setField_rec hz₆ (by simp) fun h₇ hz₇ hs₇ => ?_)
  replace hz₇ : IsZ h₇ z TI TO (rawInt h₅.objs.size) (.bool false) := hz₇
  refine wpAny_setField_rec hz₇ (by simp) fun h₈ hz₈ hs₈ => ?_
  replace hz₈ : IsZ h₈ z TI TO (rawInt h₅.objs.size) (.bool false) := hz₈
  have up : ∀ c o, c ≠ z → h₅.get? c = some o → h₈.get? c = some o := fun c o c1 e => hs₈.extBut _ _ c1 (hs₇.extBut _ _ c1 (Heap.get?_push_of_some _ e))
  have hT₈ : IsPair h₈ h₅.objs.size x y := hs₈.extBut _ _ (Nat.ne_of_gt hzlt) (hs₇.extBut _ _ (Nat.ne_of_gt hzlt) (Heap.get?_push_size _ rfl))
  rw [hsz] at hz₈ hT₈
  refine wpAny_pure ⟨_, rfl, ?_⟩
  show Q (.ref h₅.objs.size) _
  rw [hsz]
  exact hQ h₈ hz₈ (up _ _ D.TOz hTO₅) (h1₅.keep (fun o e => up _ o D.i1z e) (fun o e => up _ o D.a1z e)) (h2₅.keep (fun o e => up _ o D.i2z e) (fun o e => up _ o D.a2z e)) hT₈ fun c o c1 c2 c3 c4 e => up c o c1 (hk₅ c o c1 c2 c3 c4 e)

theorem zipA_end {z TI TO i1 i2 a1 a2 : Addr} {k : Nat} {xs : Array Value} {a b : Value} {Q : Fin → Shared → Prop} (hh : A.handled = none) (D : ZA z TI TO i1 i2 a1 a2)
    (hz : IsZ s.heap z TI TO .none (.bool false)) (hTI : IsPair s.heap TI (.ref i1) (.ref i2)) (hTO : IsPair s.heap TO a b) (h1 : SIt s.heap i1 a1 xs k) (hx : xs[k]? = none)
    (hE : ∀ h' e, (∀ c o, c ≠ z → c ≠ i1 → s.heap.get? c = some o → h'.get? c = some o) → (∃ o, h'.get? e = some o ∧ o.cls = .type "StopIteration") → E (.ref e) { s with heap := h' }) :
    wpAny (model prog w) A (Builtin.«zip.__next__» ⟨[.ref z], []⟩) Q E s := by
  show wpAny _ _ (field (.ref z) 2 >>= _) _ _ _
  refine wpAny_bind (wpAny_field hz rfl (x := .bool false) rfl ?_)
  show wpAny _ _ (field (.ref z) 3 >>= _) _ _ _
  refine wpAny_bind (wpAny_field hz rfl (x := .ref TI) rfl ?_)
  refine wpAny_bind (wpAny_seqItems hTI rfl ?_)
  show wpAny _ _ (Builtin.SmallTypes.ownedTupleIsFree (.ref z) >>= _) _ _ _
  refine wpAny_bind ?_
  unfold Builtin.SmallTypes.ownedTupleIsFree
  refine wpAny_bind (wpAny_field hz rfl (x := .none) rfl (wpAny_pure ?_))
  simp only [if_true]
  refine wpAny_bind (wpAny_rule ?_)
  refine wpAny_bind (wpAny_field hz rfl (x := .ref TO) rfl ?_)
  refine wpAny_bind (wpAny_setField_rec hz (by simp) fun h₁ hz₁ hs₁ => ?_)
  replace hz₁ : IsZ h₁ z TI TO .ellipsis (.bool false) := hz₁
  refine wpAny_bind ?_
  simp only [List.zipIdx_cons, List.zipIdx_nil, List.forIn_cons, List.forIn_nil]
  refine wpAny_bind (wpAny_bind (wpAny_onRaise ?_))
  show wpAny _ _ (Builtin.SmallTypes.nextOf (.ref i1) >>= _) _ _ _
  refine wpAny_bind (nextOf_end hh (h1.keep (fun o e => hs₁.extBut _ _ D.i1z e) (fun o e => hs₁.extBut _ _ D.a1z e)) hx fun h₂ e hs₂ he => ?_)
  obtain ⟨oe, hoe, hce⟩ := he
  have hz₂ : IsZ h₂ z TI TO .ellipsis (.bool false) := hs₂ _ _ D.i1z.symm hz₁
  have hez : e ≠ z := fun x => by subst x; rw [hz₂] at hoe; cases hoe; simp at hce
  refine wpAny_setField_rec hz₂ (by simp) fun h₃ _ hs₃ => hE h₃ e (fun c o c1 c3 x => hs₃.extBut _ _ c1 (hs₂ _ _ c3 (hs₁.extBut _ _ c1 x))) ⟨oe, hs₃.extBut _ _ hez hoe, hce⟩
end
end Mine


set_option autoImplicit false
set_option linter.unusedVariables false
set_option maxRecDepth 100000
namespace Mine
open PySem PyProof.Rows

theorem zip_no_len : typeLookup (.type "zip") "__len__" = pure none := by rw [typeLookup_type, builtinLookup_eq_fast]; kernel_rfl
theorem zip_no_hint : typeLookup (.type "zip") "__length_hint__" = pure none := by rw [typeLookup_type, builtinLookup_eq_fast]; kernel_rfl

/-- a zip over two sequences, i items drawn -/
structure Zs (h : Heap) (z TI TO i1 i2 a1 a2 : Addr) (xs ys : Array Value) (i : Nat) : Prop where
  ti : IsPair h TI (.ref i1) (.ref i2)
  s1 : SIt h i1 a1 xs i
  s2 : SIt h i2 a2 ys i
  to : ∃ o, h.get? TO = some o
  zz : (IsZ h z TI TO .none (.bool false) ∧ ∃ a b, IsPair h TO a b) ∨ ∃ T f1 x y, IsZ h z TI TO (rawInt (T : Nat)) f1 ∧ (f1 = .bool false ∨ f1 = .bool true) ∧ IsPair h T x y

theorem SIt.notpair {h : Heap} {it a T : Addr} {xs : Array Value} {i : Nat} {x y : Value} (p : SIt h it a xs i) (q : IsPair h T x y) : T ≠ it := by
  rintro rfl
  cases p with
  | list p _ => obtain ⟨o, e, c, _⟩ := p; rw [q] at e; cases e; simp at c
  | tup p _ => obtain ⟨o, e, c, _⟩ := p; rw [q] at e; cases e; simp at c
theorem IsZ.notpair {h : Heap} {z TI TO T : Addr} {f0 f1 x y : Value} (p : IsZ h z TI TO f0 f1) (q : IsPair h T x y) : T ≠ z := by
  rintro rfl
  have e := Option.some.inj ((show h.get? T = _ from q).symm.trans p)
  exact absurd (congrArg Obj.cls e) (by simp)
theorem pair_ne_list {h : Heap} {T S : Addr} {x y : Value} {acc : Array Value} {c : Nat} (q : IsPair h T x y) (p : h.get? S = some { cls := .type "list", dict := none, data := .seq acc c, slots := #[] }) : T ≠ S := by
  rintro rfl
  have e := Option.some.inj ((show h.get? T = _ from q).symm.trans p)
  exact absurd (congrArg Obj.cls e) (by simp)

theorem Zs.type {s : Shared} {z TI TO i1 i2 a1 a2 : Addr} {xs ys : Array Value} {i : Nat} (Z : Zs s.heap z TI TO i1 i2 a1 a2 xs ys i) : s.TypeIs (.ref z) "zip" := by
  rcases Z.zz with ⟨h, _⟩ | ⟨T, f1, x, y, h, _⟩
  · exact ⟨_, h, rfl⟩
  · exact ⟨_, h, rfl⟩
theorem Zs.keep {h h' : Heap} {z TI TO i1 i2 a1 a2 : Addr} {xs ys : Array Value} {i : Nat} (Z : Zs h z TI TO i1 i2 a1 a2 xs ys i) (hk : ∀ c ∈ [z, TI, TO, i1, i2, a1, a2], ∀ o, h.get? c = some o → h'.get? c = some o) (hp : ∀ T x y, IsPair h T x y → IsPair h' T x y) : Zs h' z TI TO i1 i2 a1 a2 xs ys i where
  ti := hp _ _ _ Z.ti
  s1 := Z.s1.keep (hk _ (by simp)) (hk _ (by simp))
  s2 := Z.s2.keep (hk _ (by simp)) (hk _ (by simp))
  to := let ⟨o, e⟩ := Z.to; ⟨o, hk TO (by simp) o e⟩
  zz := by
    rcases Z.zz with ⟨h, a, b, q⟩ | ⟨T, f1, x, y, h, e, q⟩
    · exact .inl ⟨hk z (by simp) _ h, a, b, hp _ _ _ q⟩
    · exact .inr ⟨T, f1, x, y, hk z (by simp) _ h, e, hp _ _ _ q⟩

section
variable {prog : Program} {w : World} {A : Around} {E : Value → Shared → Prop} {s : Shared} {z TI TO i1 i2 a1 a2 : Addr} {xs ys : Array Value} {i : Nat}

theorem zs_next {x y : Value} {Q : Option Value → Shared → Prop} (D : ZA z TI TO i1 i2 a1 a2) (Z : Zs s.heap z TI TO i1 i2 a1 a2 xs ys i) (hx : xs[i]? = some x) (hy : ys[i]? = some y)
    (hQ : ∀ h', Zs h' z TI TO i1 i2 a1 a2 xs ys (i + 1) → IsPair h' s.heap.objs.size x y → (∀ c o, c ≠ z → c ≠ TO → c ≠ i1 → c ≠ i2 → s.heap.get? c = some o → h'.get? c = some o) → Q (some (.ref s.heap.objs.size)) { s with heap := h' }) :
    wpAny (model prog w) A (pyNext (.ref z)) Q E s := by
  have hT := Z.type
  unfold pyNext
  refine wpAny_bind (wpAny_attempt (wpAny_callSpecial?_slot (name := Str.ofString "__next__") hT F.slot_zip_next (wpAny_call_entry F.slot_zip_next hT F.entry_zip_next ?_ (F.args_zip_next_1 _))))
  rcases Z.zz with ⟨hz, a, b, q⟩ | ⟨T, f1, x0, y0, hz, hf, q⟩
  · refine zipA_item D hz Z.ti q Z.s1 Z.s2 hx hy fun h' g1 g0 g2 g3 g4 g5 => wpAny_pure (hQ h' ⟨g5 _ _ D.TIz D.TITO D.TIi1 D.TIi2 Z.ti, g2, g3, ⟨_, g0⟩, .inr ⟨_, _, x, y, g1, .inl rfl, g4⟩⟩ g4 g5)
  · refine zipB_item D hz hf q Z.ti Z.s1 Z.s2 hx hy fun h' g1 g2 g3 g4 g5 => wpAny_pure (hQ h' ⟨g5 _ _ D.TIz D.TIi1 D.TIi2 Z.ti, g2, g3, (let ⟨o, e⟩ := Z.to; ⟨o, g5 _ _ D.TOz D.TOi1 D.TOi2 e⟩), .inr ⟨T, _, x0, y0, g1, .inr rfl, g5 _ _ (hz.notpair q) (Z.s1.notpair q) (Z.s2.notpair q) q⟩⟩ g4 fun c o c1 _ c3 c4 e => g5 c o c1 c3 c4 e)
theorem zs_done {Q : Option Value → Shared → Prop} (hh : A.handled = none) (D : ZA z TI TO i1 i2 a1 a2) (Z : Zs s.heap z TI TO i1 i2 a1 a2 xs ys i) (hx : xs[i]? = none)
    (hQ : ∀ h', (∀ c o, c ≠ z → c ≠ i1 → s.heap.get? c = some o → h'.get? c = some o) → Q none { s with heap := h' }) :
    wpAny (model prog w) A (pyNext (.ref z)) Q E s := by
  have hT := Z.type
  unfold pyNext
  rcases Z.zz with ⟨hz, a, b, q⟩ | ⟨T, f1, x0, y0, hz, hf, q⟩
  · refine wpAny_bind (wpAny_attempt (wpAny_callSpecial?_slot (name := Str.ofString "__next__") hT F.slot_zip_next (wpAny_call_entry F.slot_zip_next hT F.entry_zip_next (zipA_end hh D hz Z.ti q Z.s1 hx fun h' e hk he => ?_) (F.args_zip_next_1 _))))
    obtain ⟨o, ho, hc⟩ := he
    refine wpAny_bind (wpAny_isInstance (T := "StopIteration") (b := true) ⟨o, ho, hc⟩ isSubtype_stop ?_)
    exact wpAny_pure (hQ _ hk)
  · refine wpAny_bind (wpAny_attempt (wpAny_callSpecial?_slot (name := Str.ofString "__next__") hT F.slot_zip_next (wpAny_call_entry F.slot_zip_next hT F.entry_zip_next (zipB_end (ys := ys) hh D hz hf q Z.ti Z.s1 hx fun h' e hk he => ?_) (F.args_zip_next_1 _))))
    obtain ⟨o, ho, hc⟩ := he
    refine wpAny_bind (wpAny_isInstance (T := "StopIteration") (b := true) ⟨o, ho, hc⟩ isSubtype_stop ?_)
    exact wpAny_pure (hQ _ hk)

/-- what has been put into the list so far -/
structure Pr (h : Heap) (no : List Addr) (xs ys acc : Array Value) (i : Nat) : Prop where
  size : acc.size = i
  at_ : ∀ j, j < i → ∃ T x y, acc[j]? = some (.ref T) ∧ xs[j]? = some x ∧ ys[j]? = some y ∧ IsPair h T x y ∧ T ∉ no
theorem Pr.keep {h h' : Heap} {no : List Addr} {acc : Array Value} (p : Pr h no xs ys acc i) (hk : ∀ b o, b ∉ no → h.get? b = some o → h'.get? b = some o) : Pr h' no xs ys acc i :=
  ⟨p.size, fun j hj => let ⟨T, x, y, e1, e2, e3, e4, e5⟩ := p.at_ j hj; ⟨T, x, y, e1, e2, e3, hk _ _ e5 e4, e5⟩⟩
theorem Pr.push {h : Heap} {no : List Addr} {acc : Array Value} {T : Addr} {x y : Value} (p : Pr h no xs ys acc i) (hx : xs[i]? = some x) (hy : ys[i]? = some y) (hT : IsPair h T x y) (hn : T ∉ no) : Pr h no xs ys (acc.push (.ref T)) (i + 1) := by
  refine ⟨by rw [Array.size_push, p.size], fun j hj => ?_⟩
  by_cases hji : j < i
  · obtain ⟨T', x', y', e1, e2, e3, e4, e5⟩ := p.at_ j hji
    exact ⟨T', x', y', by rw [Array.getElem?_push_lt (by rw [p.size]; exact hji)]; rw [← e1]; exact (Array.getElem?_eq_getElem _).symm, e2, e3, e4, e5⟩
  · have : j = i := by omega
    subst this
    exact ⟨T, x, y, by rw [← p.size]; exact Array.getElem?_push_size, hx, hy, hT, hn⟩

theorem zip_loop {R : Result → Shared → Prop} {S : Addr} {res : Value} (hh : A.handled = none) (D : ZA z TI TO i1 i2 a1 a2) (hl : ys.size = xs.size) (hn : xs.size ≤ sizeLine) (hS : S ∉ [z, TI, TO, i1, i2, a1, a2]) :
    ∀ (k i : Nat) (s : Shared) (acc : Array Value) (c : Nat), xs.size - i = k → i ≤ xs.size → Zs s.heap z TI TO i1 i2 a1 a2 xs ys i → s.heap.get? S = some { cls := .type "list", dict := none, data := .seq acc c, slots := #[] } → Pr s.heap [S, z, TO, i1, i2] xs ys acc i →
    (∀ h' acc' c', (∀ b o, b ∉ [S, z, TO, i1, i2] → s.heap.get? b = some o → h'.get? b = some o) → h'.get? S = some { cls := .type "list", dict := none, data := .seq acc' c', slots := #[] } → Pr h' [S, z, TO, i1, i2] xs ys acc' xs.size → R (.ok (.ret res)) { s with heap := h' }) →
    codeAny (model prog w) A (.builtin "list.extend.loop" ⟨[.ref S, .ref z, res], []⟩) R s := by
  simp only [List.mem_cons, List.not_mem_nil, or_false, not_or] at hS
  obtain ⟨n1, n2, n3, n4, n5, n6, n7⟩ := hS
  intro k
  induction k with
  | zero =>
    intro i s acc c hk hi Z hSl hP hR
    have hin : i = xs.size := by omega
    subst hin
    refine codeAny_builtin F.entry_extend_loop ?_
    rw [Around.under_plainId F.plain_extend_loop _]
    show wpAny _ A.in1 (pyNext (.ref z) >>= _) _ _ s
    refine wpAny_bind (zs_done hh D Z (Array.getElem?_eq_none (Nat.le_refl _)) fun h' hk' => ?_)
    have hk2 : ∀ b o, b ∉ [S, z, TO, i1, i2] → s.heap.get? b = some o → h'.get? b = some o := fun b o hb e => hk' b o (fun q => hb (by simp [q])) (fun q => hb (by simp [q])) e
    exact wpAny_pure (hR h' acc c hk2 (hk' S _ n1 n4 hSl) (hP.keep hk2))
  | succ k ih =>
    intro i s acc c hk hi Z hSl hP hR
    have hlt : i < xs.size := by omega
    refine codeAny_builtin F.entry_extend_loop ?_
    rw [Around.under_plainId F.plain_extend_loop _]
    show wpAny _ A.in1 (pyNext (.ref z) >>= _) _ _ s
    have hx := Array.getElem?_eq_getElem hlt
    have hy := Array.getElem?_eq_getElem (xs := ys) (i := i) (by omega)
    refine wpAny_bind (zs_next D Z hx hy fun h' Z' hT hk' => ?_)
    have hS' := hk' S _ n1 n3 n4 n5 hSl
    have hlS := Heap.lt_size hSl
    have hlz : z < s.heap.objs.size := by rcases Z.zz with ⟨q, _⟩ | ⟨_, _, _, _, q, _⟩ <;> exact Heap.lt_size q
    have hl1 := Z.s1.lt.1
    have hl2 := Z.s2.lt.1
    have hlT : TO < s.heap.objs.size := let ⟨_, e⟩ := Z.to; Heap.lt_size e
    have hTn : s.heap.objs.size ∉ [S, z, TO, i1, i2] := fun hm => by
      simp only [List.mem_cons, List.not_mem_nil, or_false] at hm
      rcases hm with q | q | q | q | q
      · exact absurd q (Nat.ne_of_gt hlS)
      · exact absurd q (Nat.ne_of_gt hlz)
      · exact absurd q (Nat.ne_of_gt hlT)
      · exact absurd q (Nat.ne_of_gt hl1)
      · exact absurd q (Nat.ne_of_gt hl2)
    have hk2 : ∀ b o, b ∉ [S, z, TO, i1, i2] → s.heap.get? b = some o → h'.get? b = some o := fun b o hb e => hk' b o (fun q => hb (by simp [q])) (fun q => hb (by simp [q])) (fun q => hb (by simp [q])) (fun q => hb (by simp [q])) e
    show wpAny _ A.in1 (updateSeq S (·.push (.ref s.heap.objs.size)) >>= _) _ _ _
    refine wpAny_bind ?_
    have hP' := (hP.keep hk2).push hx hy hT hTn
    have hu : ∀ b o, b ≠ S → h'.get? b = some o → (h'.update S (Obj.mapSeq (·.push (.ref s.heap.objs.size)))).get? b = some o := fun b o hb e => (Heap.get?_update_other _ _ (Ne.symm hb)).trans e
    have hpair : ∀ T x y, IsPair h' T x y → IsPair (h'.update S (Obj.mapSeq (·.push (.ref s.heap.objs.size)))) T x y := fun T x y q => hu T _ (pair_ne_list q hS') q
    refine wpAny_updateSeq hS' rfl (wpAny_pure ⟨plainId_quiet F.plain_extend_loop _, ih (i + 1) _ (acc.push (.ref s.heap.objs.size)) _ (by omega) hlt (Z'.keep (fun b hb o e => hu b o (fun q => ?_) e) hpair) (Heap.get?_update_self _ hS' rfl) (hP'.keep fun b o hb e => hu b o (fun q => hb (by simp [q])) e) fun h'' acc' c' hm hS'' hacc' => ?_⟩)
      (by rw [hP.size]; omega) (by show (acc.push _).size ≤ sizeLine + 1; rw [Array.size_push, hP.size]; omega)
    · subst q
      simp only [List.mem_cons, List.not_mem_nil, or_false] at hb
      rcases hb with q | q | q | q | q | q | q
      · exact n1 q
      · exact n2 q
      · exact n3 q
      · exact n4 q
      · exact n5 q
      · exact n6 q
      · exact n7 q
    · exact hR h'' acc' c' (fun b o hb e => hm b o hb (hu b o (fun q => hb (by simp [q])) (hk2 b o hb e))) hS'' hacc'
end
end Mine


set_option autoImplicit false
set_option linter.unusedVariables false
set_option maxRecDepth 100000
namespace Mine
open PySem PyProof.Rows

section
variable {prog : Program} {w : World} {A : Around} {s : Shared} {R : Result → Shared → Prop} {z TI TO i1 i2 a1 a2 : Addr} {xs ys : Array Value}

theorem extend_zip {S : Addr} {res : Value} {c₀ : Nat} (hh : A.handled = none) (D : ZA z TI TO i1 i2 a1 a2) (hz : IsZ s.heap z TI TO .none (.bool false)) (Z : Zs s.heap z TI TO i1 i2 a1 a2 xs ys 0) (hl : ys.size = xs.size) (hn : xs.size ≤ sizeLine) (hS : S ∉ [z, TI, TO, i1, i2, a1, a2])
    (hSl : s.heap.get? S = some { cls := .type "list", data := .seq #[] c₀ })
    (hR : ∀ h' acc' c', (∀ b o, b ∉ [S, z, TO, i1, i2] → s.heap.get? b = some o → h'.get? b = some o) → h'.get? S = some { cls := .type "list", dict := none, data := .seq acc' c', slots := #[] } → Pr h' [S, z, TO, i1, i2] xs ys acc' xs.size → R (.ok (.ret res)) { s with heap := h' }) :
    wpAny (model prog w) A.in1 (Builtin.List.listExtendWith (.ref S) (.ref z) res)
      (fun fin s' => match fin with | .done f => R (.ok f) s' | .again c' => c'.quiet = true ∧ codeAny (model prog w) A c' R s') (fun e s' => R (.error e) s') s := by
  have hSz : S ≠ z := fun e => hS (by rw [e]; simp)
  have hT := Z.type
  unfold Builtin.List.listExtendWith
  refine wpAny_bind (wpAny_typeOf hT ?_)
  have h1 : Builtin.List.listSameRef (.ref S) (.ref z) = false := by simp [Builtin.List.listSameRef, hSz]
  have h2 : (Value.type "zip" == Value.type "list") = false := by decide
  have h3 : (Value.type "zip" == Value.type "tuple") = false := by decide
  simp only [h1, h2, h3, Bool.or_false, Bool.false_eq_true, if_false]
  refine wpAny_bind (wpAny_pyIter_zip (TI := TI) (TO := TO) (f0 := .none) hz ?_)
  refine wpAny_bind (wpAny_holding ?_)
  unfold Builtin.List.listLengthHint
  refine wpAny_bind (wpAny_specialOf hT zip_no_len ?_)
  show wpAny _ A.in1 (specialOf (Value.ref z) (Str.ofString "__length_hint__") >>= _) _ _ _
  refine wpAny_bind (wpAny_specialOf hT zip_no_hint ?_)
  refine wpAny_pure ?_
  show wpAny _ A.in1 (rule "list.extend.makes-room" >>= fun _ => Builtin.List.listTouch (.ref S) >>= fun _ => again (.builtin "list.extend.loop" ⟨[.ref S, .ref z, res], []⟩)) _ _ _
  refine wpAny_bind (wpAny_rule ?_)
  refine wpAny_bind ?_
  show wpAny _ A.in1 (updateSeq S (·.push .none) >>= fun _ => updateSeq S (·.pop)) _ _ _
  refine wpAny_bind (wpAny_updateSeq hSl rfl ?_)
  have hS₂ := Heap.get?_update_self (Obj.mapSeq (·.push Value.none)) hSl rfl
  refine wpAny_updateSeq (hz := by seq_fits) hS₂ rfl ?_
  have hS₃ := Heap.get?_update_self (Obj.mapSeq (·.pop)) hS₂ rfl
  have oth : ∀ b o, b ≠ S → s.heap.get? b = some o → ((s.heap.update S (Obj.mapSeq (·.push Value.none))).update S (Obj.mapSeq (·.pop))).get? b = some o :=
    fun b o hb e => (Heap.get?_update_other _ _ (Ne.symm hb)).trans ((Heap.get?_update_other _ _ (Ne.symm hb)).trans e)
  refine wpAny_pure ⟨plainId_quiet F.plain_extend_loop _, zip_loop hh D hl hn hS xs.size 0 _ #[] _ (Nat.sub_zero _) (Nat.zero_le _) (Z.keep (fun b hb o e => oth b o (fun h => hS (h ▸ hb)) e) fun T x y q => oth T _ (fun e => ?_) q) hS₃ ⟨rfl, fun j hj => absurd hj (Nat.not_lt_zero _)⟩ fun h' acc' c' hm hS' hacc => ?_⟩
  · exact pair_ne_list q hSl e
  · exact hR h' acc' c' (fun b o hb e => hm b o hb (oth b o (fun q => hb (by simp [q])) e)) hS' hacc

theorem init_zip {S : Addr} (hh : A.handled = none) (D : ZA z TI TO i1 i2 a1 a2) (hz : IsZ s.heap z TI TO .none (.bool false)) (Z : Zs s.heap z TI TO i1 i2 a1 a2 xs ys 0) (hl : ys.size = xs.size) (hn : xs.size ≤ sizeLine) (hS : S ∉ [z, TI, TO, i1, i2, a1, a2])
    (hSl : s.heap.get? S = some { cls := .type "list", data := .seq #[] })
    (hR : ∀ h' acc' c', (∀ b o, b ∉ [S, z, TO, i1, i2] → s.heap.get? b = some o → h'.get? b = some o) → h'.get? S = some { cls := .type "list", dict := none, data := .seq acc' c', slots := #[] } → Pr h' [S, z, TO, i1, i2] xs ys acc' xs.size → R (.ok (.ret .none)) { s with heap := h' }) :
    wpAny (model prog w) A.in1 (Builtin.«list.__init__» ⟨[.ref S, .ref z], []⟩)
      (fun fin s' => match fin with | .done f => R (.ok f) s' | .again c' => c'.quiet = true ∧ codeAny (model prog w) A c' R s') (fun e s' => R (.error e) s') s := by
  show wpAny _ A.in1 (do let old ← Builtin.List.listItems (.ref S); Builtin.List.listUpdate (.ref S) (fun _ => #[]); letGo old.toList.reverse; Builtin.List.listExtendWith (.ref S) (.ref z) .none) _ _ s
  refine wpAny_bind ?_
  unfold Builtin.List.listItems
  refine wpAny_bind (wpAny_seqItems hSl rfl (wpAny_pure ?_))
  show wpAny _ A.in1 (updateSeq S (fun _ => #[]) >>= fun _ => letGo (#[] : Array Value).toList.reverse >>= fun _ => Builtin.List.listExtendWith (.ref S) (.ref z) .none) _ _ s
  refine wpAny_bind (wpAny_updateSeq hSl rfl ?_)
  have hS₂ := Heap.get?_update_self (Obj.mapSeq (fun _ => (#[] : Array Value))) hSl rfl
  have oth : ∀ b o, b ≠ S → s.heap.get? b = some o → (s.heap.update S (Obj.mapSeq (fun _ => (#[] : Array Value)))).get? b = some o :=
    fun b o hb e => (Heap.get?_update_other _ _ (Ne.symm hb)).trans e
  refine wpAny_bind (wpAny_letGo ?_)
  refine extend_zip hh D (oth z _ (fun e => hS (by rw [← e]; simp)) hz) (Z.keep (fun b hb o e => oth b o (fun h => hS (h ▸ hb)) e) fun T x y q => oth T _ (fun e => pair_ne_list q hSl e) q) hl hn hS hS₂ fun h' acc' c' hm hS' hacc => ?_
  exact hR h' acc' c' (fun b o hb e => hm b o hb (oth b o (fun q => hb (by simp [q])) e)) hS' hacc
end

section
variable {prog : Program} {w : World} {A : Around} {E : Value → Shared → Prop} {s : Shared} {z TI TO i1 i2 a1 a2 : Addr} {xs ys : Array Value}
theorem list_zip {Q : Value → Shared → Prop} (hh : A.handled = none) (D : ZA z TI TO i1 i2 a1 a2) (hz : IsZ s.heap z TI TO .none (.bool false)) (Z : Zs s.heap z TI TO i1 i2 a1 a2 xs ys 0) (hl : ys.size = xs.size) (hn : xs.size ≤ sizeLine)
    (hQ : ∀ h' acc' c', (∀ b o, b ∉ [z, TO, i1, i2] → s.heap.get? b = some o → h'.get? b = some o) → h'.get? s.heap.objs.size = some { cls := .type "list", dict := none, data := .seq acc' c', slots := #[] } → Pr h' [s.heap.objs.size, z, TO, i1, i2] xs ys acc' xs.size → Q (.ref s.heap.objs.size) { s with heap := h' }) :
    wpAny (model prog w) A (call (.type "list") [.ref z]) Q E s := by
  have hlz : z < s.heap.objs.size := Heap.lt_size hz
  have hlI : TI < s.heap.objs.size := Heap.lt_size Z.ti
  have hlT : TO < s.heap.objs.size := let ⟨_, e⟩ := Z.to; Heap.lt_size e
  have hS : s.heap.objs.size ∉ [z, TI, TO, i1, i2, a1, a2] := fun hm => by
    simp only [List.mem_cons, List.not_mem_nil, or_false] at hm
    rcases hm with q | q | q | q | q | q | q
    · exact absurd q (Nat.ne_of_gt hlz)
    · exact absurd q (Nat.ne_of_gt hlI)
    · exact absurd q (Nat.ne_of_gt hlT)
    · exact absurd q (Nat.ne_of_gt Z.s1.lt.1)
    · exact absurd q (Nat.ne_of_gt Z.s2.lt.1)
    · exact absurd q (Nat.ne_of_gt Z.s1.lt.2)
    · exact absurd q (Nat.ne_of_gt Z.s2.lt.2)
  refine callType_codes (Q₁ := fun obj s₁ => obj = .ref s.heap.objs.size ∧ s₁ = { s with heap := s.heap.push { cls := .type "list", data := .seq #[] } }) F.called_list (F.typeCall_list_1 _) F.entry_list_init
    (code_list_new _ ⟨rfl, rfl⟩) fun obj s₁ h₁ => ?_
  obtain ⟨rfl, rfl⟩ := h₁
  have hSl : (s.heap.push { cls := .type "list", data := .seq #[] }).get? s.heap.objs.size = some { cls := .type "list", data := .seq #[] } := Heap.get?_push_size _ rfl
  refine ⟨⟨_, hSl, rfl⟩, F.args_list_init_2 _ _, init_zip (A := A.in1) hh D (Heap.get?_push_of_some _ hz) (Z.keep (fun b hb o e => Heap.get?_push_of_some _ e) fun T x y q => Heap.get?_push_of_some _ q) hl hn hS hSl fun h' acc' c' hk hS' hacc => ?_⟩
  refine ⟨rfl, hQ h' acc' c' (fun b o hb e => hk b o (fun hm => ?_) (Heap.get?_push_of_some _ e)) hS' hacc⟩
  rcases List.mem_cons.mp hm with q | q
  · exact absurd (q ▸ Heap.lt_size e) (Nat.lt_irrefl _)
  · exact hb q

theorem za_new {n l1 l2 : Addr} (h1 : l1 < n) (h2 : l2 < n) : ZA (n + 4) (n + 2) (n + 3) n (n + 1) l1 l2 :=
  let D := zipApart_new h1 h2
  ⟨D.TIz, D.TOz, D.i1z, D.i2z, D.TITO, D.TIi1, D.TIi2, D.TOi1, D.TOi2, D.i12, D.l1z, D.l1TO, D.l1i1, D.l1i2, D.l2z, D.l2TO, D.l2i1, D.l2i2⟩

theorem zip_lists {l1 l2 : Addr} {Q : Value → Shared → Prop} (hl1 : s.heap.IsList l1 xs) (hl2 : s.heap.IsList l2 ys)
    (h : ∀ h', IsZ h' (s.heap.objs.size + 4) (s.heap.objs.size + 2) (s.heap.objs.size + 3) .none (.bool false) → Zs h' (s.heap.objs.size + 4) (s.heap.objs.size + 2) (s.heap.objs.size + 3) s.heap.objs.size (s.heap.objs.size + 1) l1 l2 xs ys 0 →
      (∀ c o, s.heap.get? c = some o → h'.get? c = some o) → Q (.ref (s.heap.objs.size + 4)) { s with heap := h' }) :
    wpAny (model prog w) A (call (.type "zip") [.ref l1, .ref l2]) Q E s :=
  call_zip_2 hl1 hl2 fun h' g1 g2 g3 g4 g5 g6 g7 => h h' g1 ⟨g2, .list g4 (hl1.at fun o e => g7 _ o e), .list g5 (hl2.at fun o e => g7 _ o e), ⟨_, g3⟩, .inl ⟨g1, _, _, g3⟩⟩ g7
end
end Mine


set_option autoImplicit false
set_option linter.unusedVariables false
set_option maxRecDepth 100000
namespace Mine
open PySem PyProof.Rows

abbrev zT1 (h : Heap) (l1 : Addr) : Heap := h.push { cls := .type "tuple_iterator", data := .fields #[.ref l1, .int 0 0] }
abbrev zT2 (h : Heap) (l1 l2 : Addr) : Heap := (zT1 h l1).push { cls := .type "tuple_iterator", data := .fields #[.ref l2, .int 0 0] }
abbrev zT3 (h : Heap) (l1 l2 : Addr) : Heap := (zT2 h l1 l2).push { cls := .type "tuple", data := .seq #[.ref h.objs.size, .ref (zT1 h l1).objs.size] }
abbrev zT4 (h : Heap) (l1 l2 : Addr) : Heap := (zT3 h l1 l2).push { cls := .type "tuple", data := .seq #[.none, .none] }
abbrev zT5 (h : Heap) (l1 l2 : Addr) : Heap := (zT4 h l1 l2).push { cls := .type "zip", data := .fields #[.none, .bool false, .bool false, .ref (zT2 h l1 l2).objs.size, .ref (zT3 h l1 l2).objs.size] }

theorem meets_zipT (l1 l2 : Addr) (xs ys : Array Value) :
    Meets (Builtin.«zip.__new__» ⟨[.type "zip", .ref l1, .ref l2], []⟩) (fun _ R s => s.heap.IsTuple l1 xs ∧ s.heap.IsTuple l2 ys ∧ R (.ok (.ret (.ref (zT4 s.heap l1 l2).objs.size))) { s with heap := zT5 s.heap l1 l2 }) :=
  .of_wp fun prog w A R s h => by
    obtain ⟨hp, g, d, tk, os⟩ := s; obtain ⟨hl1, hl2, h⟩ := h
    have hsub := sub_zip
    have hL1 : Heap.IsTuple (Shared.heap ⟨hp, g, d, tk, os⟩) l1 xs := hl1
    have hL2 : Heap.IsTuple (Shared.heap ⟨hp.push { cls := .type "tuple_iterator", data := .fields #[.ref l1, .int 0 0] }, g, d, tk, os⟩) l2 ys := Heap.IsTuple.push hl2 _
    wp_walk using wpAny_pyIter_tuple hL1, wpAny_pyIter_tuple hL2
    exact ⟨_, rfl, h⟩

section
variable {prog : Program} {w : World} {A : Around} {E : Value → Shared → Prop} {s : Shared} {xs ys : Array Value}
theorem zip_tuples {l1 l2 : Addr} {Q : Value → Shared → Prop} (hl1 : s.heap.IsTuple l1 xs) (hl2 : s.heap.IsTuple l2 ys)
    (h : ∀ h', IsZ h' (s.heap.objs.size + 4) (s.heap.objs.size + 2) (s.heap.objs.size + 3) .none (.bool false) → Zs h' (s.heap.objs.size + 4) (s.heap.objs.size + 2) (s.heap.objs.size + 3) s.heap.objs.size (s.heap.objs.size + 1) l1 l2 xs ys 0 →
      (∀ c o, s.heap.get? c = some o → h'.get? c = some o) → Q (.ref (s.heap.objs.size + 4)) { s with heap := h' }) :
    wpAny (model prog w) A (call (.type "zip") [.ref l1, .ref l2]) Q E s := by
  refine callType_new F.called_zip (by decide) (F.typeCall_zip_2 _ _) (F.newCall_zip_2 _ _) (fun obj => F.args_object_init_3 obj _ _) F.entry_zip_new (meets_zipT l1 l2 xs ys) ⟨hl1, hl2, ?_⟩
  have z1 : (zT1 s.heap l1).objs.size = s.heap.objs.size + 1 := Heap.size_push ..
  have z2 : (zT2 s.heap l1 l2).objs.size = s.heap.objs.size + 2 := by rw [Heap.size_push, z1]
  have z3 : (zT3 s.heap l1 l2).objs.size = s.heap.objs.size + 3 := by rw [Heap.size_push, z2]
  have z4 : (zT4 s.heap l1 l2).objs.size = s.heap.objs.size + 4 := by rw [Heap.size_push, z3]
  have g5 : (zT5 s.heap l1 l2).get? (zT4 s.heap l1 l2).objs.size = some _ := Heap.get?_push_size _ rfl
  have g4 : (zT5 s.heap l1 l2).get? (zT3 s.heap l1 l2).objs.size = some _ := Heap.get?_push_of_some _ (Heap.get?_push_size _ rfl)
  have g3 : (zT5 s.heap l1 l2).get? (zT2 s.heap l1 l2).objs.size = some _ := Heap.get?_push_of_some _ (Heap.get?_push_of_some _ (Heap.get?_push_size _ rfl))
  have g2 : (zT5 s.heap l1 l2).get? (zT1 s.heap l1).objs.size = some _ := Heap.get?_push_of_some _ (Heap.get?_push_of_some _ (Heap.get?_push_of_some _ (Heap.get?_push_size _ rfl)))
  have g1 : (zT5 s.heap l1 l2).get? s.heap.objs.size = some _ := Heap.get?_push_of_some _ (Heap.get?_push_of_some _ (Heap.get?_push_of_some _ (Heap.get?_push_of_some _ (Heap.get?_push_size _ rfl))))
  have kp : ∀ c o, s.heap.get? c = some o → (zT5 s.heap l1 l2).get? c = some o := fun c o x => Heap.get?_push_of_some _ (Heap.get?_push_of_some _ (Heap.get?_push_of_some _ (Heap.get?_push_of_some _ (Heap.get?_push_of_some _ x))))
  show _ ∧ _
  rw [z2, z3, z4] at g5
  rw [z1, z2] at g3
  rw [z3] at g4
  rw [z1] at g2
  rw [z4]
  refine ⟨⟨_, g5, rfl⟩, h _ g5 ⟨g3, .tup ⟨_, g1, rfl, rfl⟩ (let ⟨o, e, r⟩ := hl1; ⟨o, kp _ _ e, r⟩), .tup ⟨_, g2, rfl, rfl⟩ (let ⟨o, e, r⟩ := hl2; ⟨o, kp _ _ e, r⟩), ⟨_, g4⟩, .inl ⟨g5, _, _, g4⟩⟩ kp⟩
end
end Mine


set_option autoImplicit false
set_option linter.unusedVariables false
set_option maxRecDepth 100000
namespace Mine
open PySem PyProof.Rows
section
variable {cx : Cx} {A : Around} {ι ι' : List Addr} {H H' : AHeap} {s : Shared}

theorem pair_isT {h : Heap} {T : Addr} {x y : Value} (q : IsPair h T x y) : IsT h T #[x, y] 0 := q
theorem tup_notin (S : St cx ι H s) {T : Addr} {x y : Value} (q : IsPair s.heap T x y) : T ∉ ι := fun hm => by
  obtain ⟨l, hl, e⟩ := List.mem_iff_getElem.mp hm
  have hl' : l < H.length := S.len ▸ hl
  have r := S.own l T H[l] (by rw [List.getElem?_eq_getElem hl, e]) (List.getElem?_eq_getElem hl')
  cases ho : H[l] with
  | list xs =>
    rw [ho] at r
    obtain ⟨vs, n, hL, _⟩ := r
    exact tl_absurd (pair_isT q) hL
  | dict es =>
    rw [ho] at r
    obtain ⟨kvs, ⟨o, es', ep, e1, e2, _⟩, _⟩ := r
    have e3 := Option.some.inj ((show s.heap.get? T = _ from q).symm.trans e1)
    exact absurd ((congrArg Obj.cls e3).trans e2.1) (by simp)

theorem vrs_of_get : ∀ {L : List AV} {M : List Value} {h : Heap}, L.length = M.length → (∀ (j : Nat) a, L[j]? = some a → ∃ v, M[j]? = some v ∧ VR cx ι h a v) → VRs cx ι h L M
  | [], [], _, _, _ => .nil
  | [], _ :: _, _, h, _ => by cases h
  | _ :: _, [], _, h, _ => by cases h
  | a :: L, v :: M, h, hl, hg => by
    obtain ⟨v', e, r⟩ := hg 0 a rfl
    cases e
    exact .cons r (vrs_of_get (Nat.succ.inj hl) fun j b hb => hg (j + 1) b hb)

/-- the tuples that a zip has made -/
theorem zip_vrs {xs ys : List AV} {vs ws acc : Array Value} {no : List Addr} {h h' : Heap} (r1 : VRs cx ι h xs vs.toList) (r2 : VRs cx ι h ys ws.toList) (hlen : xs.length = ys.length)
    (hm : ∀ a v, VR cx ι h a v → VR cx ι' h' a v) (hT : ∀ T x y, IsPair h' T x y → T ∉ ι') (p : Pr h' no vs ws acc vs.size) : VRs cx ι' h' (List.zipWith (fun x y => .tup [x, y]) xs ys) acc.toList := by
  have hz := r1.size
  have hp := p.size
  refine vrs_of_get (by rw [List.length_zipWith, show acc.toList.length = acc.size from Array.length_toList]; omega) fun j a ha => ?_
  rw [List.getElem?_zipWith] at ha
  cases hx : xs[j]? with
  | none => rw [hx] at ha; cases ha
  | some x =>
    cases hy : ys[j]? with
    | none => rw [hx, hy] at ha; cases ha
    | some y =>
      rw [hx, hy] at ha
      cases ha
      obtain ⟨v, e1, q1⟩ := r1.get hx
      obtain ⟨u, e2, q2⟩ := r2.get hy
      have hj : j < vs.size := by rw [hz]; exact (List.getElem?_eq_some_iff.mp hx).1
      obtain ⟨T, x', y', g1, g2, g3, g4, g5⟩ := p.at_ j hj
      rw [Array.getElem?_toList] at e1 e2
      rw [e1] at g2; cases g2
      rw [e2] at g3; cases g3
      exact ⟨.ref T, by rw [Array.getElem?_toList]; exact g1, .tup (pair_isT g4) (hT _ _ _ g4) (by have := LIM_is; show 2 ≤ LIM; omega) (.cons (hm _ _ q1) (.cons (hm _ _ q2) .nil))⟩

theorem seq_kind (S : St cx ι H s) {a : AV} {v : Value} {xs : List AV} {H1 : AHeap} (ra : VR cx ι s.heap a v) (h : seqOf a H = some (xs, H1)) :
    H1 = H ∧ ∃ l vs n, v = .ref l ∧ xs.length ≤ LIM ∧ VRs cx ι s.heap xs vs.toList ∧ ((isTp a = true ∧ IsT s.heap l vs n) ∨ (isTp a = false ∧ IsL s.heap l vs n)) := by
  cases a with
  | tup ys =>
    cases ra with
    | tup ht hn hz hs =>
      cases h
      exact ⟨rfl, _, _, _, rfl, hz, hs, .inl ⟨rfl, ht⟩⟩
  | lst ys =>
    obtain ⟨e, l, vs, n, e1, e2, e3, e4⟩ := listOf_sound S (show listOf (.lst ys) H = some (xs, H1) from h) ra
    exact ⟨e, l, vs, n, e1, e3, e4, .inr ⟨rfl, e2⟩⟩
  | loc l0 =>
    obtain ⟨e, l, vs, n, e1, e2, e3, e4⟩ := listOf_sound S (show listOf (.loc l0) H = some (xs, H1) from h) ra
    exact ⟨e, l, vs, n, e1, e3, e4, .inr ⟨rfl, e2⟩⟩
  | _ => exact (nomatch (show (none : Option (List AV × AHeap)) = some (xs, H1) from h))

theorem pZip_sound {mu : Bool} {a b c : AV} {v w : Value} {E : Value → Shared → Prop} (hh : A.handled = none) (S : St cx ι H s) (ra : VR cx ι s.heap a v) (rb : VR cx ι s.heap b w) (h : pZip mu a b H = some (c, H')) :
    wpAny (model cx.prog cx.w) A (PySem.call (.type "zip") [v, w]) (fun zv s₁ => wpAny (model cx.prog cx.w) A (PySem.call (.type "list") [zv]) (PostV cx ι s.heap c H') E s₁) E s := by
  have hLIM := LIM_is
  have hSL := LIM_le
  obtain ⟨xs, H1, h1, h2⟩ := bind_some h
  obtain ⟨ys, H2, h3, h4⟩ := bind_some h2
  obtain ⟨rfl, l1, vs, n1, rfl, z1, r1, k1⟩ := seq_kind S ra h1
  obtain ⟨rfl, l2, ws, n2, rfl, z2, r2, k2⟩ := seq_kind S rb h3
  split at h4
  case isFalse => exact (stuck_some (H := H2) h4).elim
  case isTrue hc =>
    rw [Bool.and_eq_true, beq_iff_eq, decide_eq_true_eq] at hc
    obtain ⟨hk, hlen⟩ := hc
    have e1 := r1.size
    have e2 := r2.size
    have fin : ∀ h', IsZ h' (s.heap.objs.size + 4) (s.heap.objs.size + 2) (s.heap.objs.size + 3) .none (.bool false) → Zs h' (s.heap.objs.size + 4) (s.heap.objs.size + 2) (s.heap.objs.size + 3) s.heap.objs.size (s.heap.objs.size + 1) l1 l2 vs ws 0 →
        (∀ c o, s.heap.get? c = some o → h'.get? c = some o) → l1 < s.heap.objs.size → l2 < s.heap.objs.size → wpAny (model cx.prog cx.w) A (PySem.call (.type "list") [.ref (s.heap.objs.size + 4)]) (PostV cx ι s.heap c H') E { s with heap := h' } := by
      intro h' hz Z kp q1 q2
      refine list_zip hh (za_new q1 q2) hz Z (by rw [e1, e2, hlen]) (by rw [e1]; omega) fun h'' acc c' hk2 hL hP => ?_
      have hkk : ∀ b o, s.heap.get? b = some o → h''.get? b = some o := fun b o e => hk2 b o (fun hm => by
        have hb := Heap.lt_size e
        simp only [List.mem_cons, List.not_mem_nil, or_false] at hm
        rcases hm with q | q | q | q
        · exact absurd (q ▸ hb) (Nat.not_lt.mpr (Nat.le_add_right _ _))
        · exact absurd (q ▸ hb) (Nat.not_lt.mpr (Nat.le_add_right _ _))
        · exact absurd (q ▸ hb) (Nat.lt_irrefl _)
        · exact absurd (q ▸ hb) (Nat.not_lt.mpr (Nat.le_add_right _ _))) (kp b o e)
      have hlt : s.heap.objs.size + 4 < h'.objs.size := Heap.lt_size hz
      have hD : s.heap.get? h'.objs.size = none := Heap.get?_none_of_le (Nat.le_of_lt (Nat.lt_of_le_of_lt (Nat.le_add_right _ _) hlt))
      have S' : St cx ι H2 { s with heap := h'' } := S.keeps (t := s.toks) hkk
      unfold newL at h4
      split at h4
      case isFalse => cases h4
      case isTrue hz3 =>
        cases mu with
        | false =>
          cases h4
          exact ⟨ι, Ext.keeps hkk, S', .lst (n := c') hL ⟨S.notin hD, S.nothid hD⟩ hz3 (zip_vrs r1 r2 hlen (fun a v r => r.mono (Ext.keeps hkk)) (fun T x y q => tup_notin S' q) hP)⟩
        | true =>
          cases h4
          obtain ⟨e, S2⟩ := S.alloc (t := s.toks) (h' := h'') (a := h'.objs.size) (o := .list (List.zipWith (fun x y => .tup [x, y]) xs ys)) hkk hD (fun e => ⟨acc, c', hL, hz3, zip_vrs r1 r2 hlen (fun a v r => r.mono e) (fun T x y q hm => by
            rcases List.mem_append.mp hm with q' | q'
            · exact tup_notin S' q q'
            · exact pair_ne_list q hL (List.mem_singleton.mp q')) hP⟩)
          exact ⟨_, e, S2, .loc (by rw [List.getElem?_append_right (by rw [S.len]; exact Nat.le_refl _)]; simp [S.len])⟩
    rcases k1 with ⟨t1, k1⟩ | ⟨t1, k1⟩
    · rcases k2 with ⟨t2, k2⟩ | ⟨t2, k2⟩
      · exact zip_tuples ⟨_, k1, rfl, _, rfl⟩ ⟨_, k2, rfl, _, rfl⟩ fun h' hz Z kp => fin h' hz Z kp (Heap.lt_size k1) (Heap.lt_size k2)
      · rw [t1, t2] at hk; cases hk
    · rcases k2 with ⟨t2, k2⟩ | ⟨t2, k2⟩
      · rw [t1, t2] at hk; cases hk
      · exact zip_lists k1.isList k2.isList fun h' hz Z kp => fin h' hz Z kp (Heap.lt_size k1) (Heap.lt_size k2)
end
end Mine


set_option autoImplicit false
set_option linter.unusedVariables false
namespace Mine
open PySem PyProof.Rows PySem.SeqAt

section
variable {cx : Cx} {A : Around} {ι : List Addr} {H H' : AHeap} {s : Shared} {P : Pg} {cf : Str → List AV → M AV}

theorem den_starred (n : Nat) (sc : Scope) (ns : List Str) (σ : Loc) (x : Expr) (p : Pos) (H : AHeap) : den P cf n sc ns σ (.Starred x p) H = none := by cases n <;> rfl
theorem den_set (n : Nat) (sc : Scope) (ns : List Str) (σ : Loc) (es : List Expr) (k : Nat) (p : Pos) (H : AHeap) : den P cf n sc ns σ (.Set es k p) H = none := by cases n <;> rfl
theorem den_ifexp (n : Nat) (sc : Scope) (ns : List Str) (σ : Loc) (t b o : Expr) (p : Pos) (H : AHeap) : den P cf n sc ns σ (.IfExp t b o p) H = none := by cases n <;> rfl

theorem noSet_pure {iter : Expr} {env : Env} (h : noSet iter = false) (v : Value) : foldedSetIterable iter env v = pure v := by
  cases iter <;> first | rfl | (cases h; done)

/-- the plain comprehension: its variable's dict is let go -/
theorem comp_plain {a : AV} {C D : Addr} {m : Str → Option Value} {ι' : List Addr} {s' : Shared} (e : Ext ι ι' s.heap s'.heap) (S : St cx ι' H' s') (r : VR cx ι' s'.heap a (.ref D)) (hn : s'.heap.Ns C m) (hc : s.heap.get? C = none) (hC : C ∉ ι') (hb : cx.h₀.get? C = none) :
    compPost (model cx.prog cx.w) A noE none (PostV cx ι s.heap a H') (.ref D) C (.ok .next) s' := by
  refine ⟨m, hn, fun h' hs => ?_⟩
  have hp : ∀ o, s'.heap.get? C = some o → NotData o := fun o ho => (Ns.notData hn o ho).1
  exact ⟨ι', e.priv hc hs.extBut, S.priv (t := s'.toks) hC hb hp hs.extBut, r.but hp hb hs.extBut⟩

theorem nameOf1_of {e : Expr} {x : Str × Pos} (h : nameOf1 e = some x) : e = .Name x.1 x.2 := by
  cases e with
  | Name y q => cases h; rfl
  | _ => exact (nomatch (show (none : Option (Str × Pos)) = some x from h))
theorem compGen_of {gens : List Comprehension} {x : Str} {iter : Expr} {ifs : List Expr} (h : compGen gens = some (x, iter, ifs)) : ∃ px, gens = [⟨.Name x px, iter, ifs, 0⟩] := by
  match gens, h with
  | [g], h =>
    have h' : (if g.is_async = 0 then (nameOf1 g.target).map fun x => (x.1, g.iter, g.ifs) else none) = some (x, iter, ifs) := h
    split at h'
    · rename_i h0
      obtain ⟨y, h1, h2⟩ := Option.map_eq_some_iff.mp h'
      cases h2
      have h3 := nameOf1_of h1
      obtain ⟨tg, it, fs, k⟩ := g
      have h3' : tg = .Name y.1 y.2 := h3
      have h0' : k = 0 := h0
      subst h3'; subst h0'
      exact ⟨y.2, rfl⟩
    · cases h'
theorem pairN_of {es : List Expr} {x y : Str × Pos} (h : pairN es = some (x, y)) : es = [.Name x.1 x.2, .Name y.1 y.2] := by
  match es, h with
  | [a, b], h =>
    have h' : (match nameOf1 a with | some x => (nameOf1 b).map fun y => (x, y) | none => none) = some (x, y) := h
    cases ha : nameOf1 a with
    | none => simp only [ha] at h'; cases h'
    | some z =>
      simp only [ha] at h'
      obtain ⟨w, h1, h2⟩ := Option.map_eq_some_iff.mp h'
      cases h2
      rw [nameOf1_of ha, nameOf1_of h1]
theorem callOf_of {e : Expr} {f : Str} {args : List Expr} (h : callOf e = some (f, args)) : ∃ fp p, e = .Call (.Name f fp) args [] p := by
  cases e with
  | Call g as kws p =>
    cases kws with
    | nil =>
      obtain ⟨z, h1, h2⟩ := Option.map_eq_some_iff.mp (show (nameOf1 g).map (fun x => (x.1, as)) = some (f, args) from h)
      cases h2
      exact ⟨z.2, p, by rw [nameOf1_of h1]⟩
    | cons _ _ => exact (nomatch (show (none : Option (Str × List Expr)) = some (f, args) from h))
  | _ => exact (nomatch (show (none : Option (Str × List Expr)) = some (f, args) from h))
theorem isM1_of {e : Expr} (h : isM1 e = true) : ∃ k p1 p2, e = .UnaryOp .USub (.Constant (.int 1) k p1) p2 := by
  cases e with
  | UnaryOp op x p =>
    have h' : (isNegOp op && isC1 x) = true := h
    rw [Bool.and_eq_true] at h'
    obtain ⟨h1, h2⟩ := h'
    cases op with
    | USub =>
      cases x with
      | Constant c k q =>
        cases c with
        | int i =>
          have : i = 1 := of_decide_eq_true h2
          subst this
          exact ⟨k, q, p, rfl⟩
        | _ => exact (nomatch (show false = true from h2))
      | _ => exact (nomatch (show false = true from h2))
    | _ => exact (nomatch (show false = true from h1))
  | _ => exact (nomatch (show false = true from h))

section
variable {sc : Scope} {ns : List Str} {σ : Loc} {env : Env} {ev : Expr → M AV} {a : AV}
theorem sub_sound {o i : Expr} {p : Pos} {mu : Bool} (hst : Stable (EnvR cx env sc ns σ)) (hev : EvOK cx A env (EnvR cx env sc ns σ) ev) (S : St cx ι H s) (j : EnvR cx env sc ns σ ι s.heap) (h : dSub ev mu o i H = some (a, H')) :
    wpAny (model cx.prog cx.w) A (eval (.Subscript o i p) env) (PostV cx ι s.heap a H') noE s := by
  cases i with
  | Slice lo hi st sp =>
    cases st with
    | none => exact slice_sound (mu := mu) hst hev S j h
    | some e =>
      have h' : (if isM1 e && lo.isNone && hi.isNone then (do let ov ← ev o; pRev mu ov) else stuck : M AV) H = some (a, H') := h
      split at h'
      · rename_i hc
        rw [Bool.and_eq_true, Bool.and_eq_true, Option.isNone_iff_eq_none, Option.isNone_iff_eq_none] at hc
        obtain ⟨⟨h1, rfl⟩, rfl⟩ := hc
        obtain ⟨k, p1, p2, rfl⟩ := isM1_of h1
        exact rev_sound hev S j h'
      · exact (stuck_some (H := H) h').elim
  | _ => exact item_sound hst hev S j h
theorem isZip_of {args : List Expr} {x y : Expr} (h : isZip sc args = some (x, y)) : ∃ zp q, args = [.Call (.Name ("zip" : Str) zp) [x, y] [] q] ∧ isGlob sc ("zip" : Str) = true := by
  match args, h with
  | [e], h =>
    unfold isZip at h
    simp only at h
    split at h
    · rename_i z x' y' hc
      split at h
      · rename_i hz
        cases h
        obtain ⟨fp, p, rfl⟩ := callOf_of hc
        obtain ⟨rfl, h2⟩ := hz
        exact ⟨fp, p, rfl, h2⟩
      · cases h
    · cases h
theorem zip_sound {f : Str} {fp p : Pos} {args : List Expr} {b : BI} {xy : Expr × Expr} {mu : Bool} (hh : A.handled = none) (G : Good cx P) (hS : ∀ x p H, ev (.Starred x p) H = none) (hst : Stable (EnvR cx env sc ns σ)) (hev : EvOK cx A env (EnvR cx env sc ns σ) ev) (S : St cx ι H s) (i : EnvR cx env sc ns σ ι s.heap)
    (hg : isGlob sc f = true) (hb : biOf f = some b) (hz : (if b = .list then isZip sc args else none : Option (Expr × Expr)) = some xy) (h : (do let a ← ev xy.1; let b ← ev xy.2; pZip mu a b : M AV) H = some (a, H')) :
    wpAny (model cx.prog cx.w) A (eval (.Call (.Name f fp) args [] p) env) (PostV cx ι s.heap a H') noE s := by
  obtain ⟨x, y⟩ := xy
  split at hz
  case isFalse => cases hz
  case isTrue hl =>
    subst hl
    obtain ⟨zp, q, rfl, hgz⟩ := isZip_of hz
    obtain ⟨u, H1, h1, h2⟩ := bind_some h
    obtain ⟨w, H2, h3, h4⟩ := bind_some h2
    have h5 : evEach ev [x, y] H = some ([u, w], H2) := bind_of h1 (bind_of (bind_of h3 rfl) rfl)
    refine Call_Name rfl (load_bi G S i hg (biOf_name hb) (G.bi f .list hb) ?_)
    refine PyProof.Rows.callWith_type rfl (Calls.evalArgs_plain (Calls.spliced_cons (Call_Name rfl (load_bi G S i hgz (by decide) G.zip ?_))))
    refine callType_sound (T := "zip") hS hst hev S i h5 fun vs s' qq => ?_
    obtain ⟨ι₁, e1, S₁, r1⟩ := qq
    cases r1 with
    | cons ra r2 =>
      cases r2 with
      | cons rb r3 =>
        cases r3
        refine wpAny_mono (pZip_sound (E := noE) hh S₁ ra rb h4) (fun zv s₁ q₁ => Calls.spliced_nil ?_) fun _ _ x => x
        exact wpAny_mono q₁ (fun x s₃ q₃ => q₃.trans e1) fun _ _ x => x
theorem call_sound {f : Expr} {args : List Expr} {p : Pos} {mu : Bool} (hh : A.handled = none) (R : Room A) (G : Good cx P) (C : CallOK cx A cf) (hS : ∀ x p H, ev (.Starred x p) H = none) (hst : Stable (EnvR cx env sc ns σ)) (hev : EvOK cx A env (EnvR cx env sc ns σ) ev) (S : St cx ι H s) (i : EnvR cx env sc ns σ ι s.heap)
    (h : dCall ev cf mu sc f args p H = some (a, H')) : wpAny (model cx.prog cx.w) A (eval (.Call f args [] p) env) (PostV cx ι s.heap a H') noE s := by
  cases f with
  | Attribute o m ap =>
    have h' : (if plainBase o && ap.endLine == p.line && decide (args.length ≤ 2) then (do let ov ← ev o; let _ ← listOf ov; let vs ← evEach ev args; pMeth m ov vs) else stuck : M AV) H = some (a, H') := h
    split at h'
    · exact meth_sound R hS hst hev S i ‹_› h'
    · exact (stuck_some (H := H) h').elim
  | Name f fp =>
    have h' : (if isGlob sc f then (if f = ("isinstance" : Str) then dIsi ev sc args else match biOf f with | some b => dBI ev mu sc b args | none => do let vs ← evEach ev args; cf f vs) else stuck : M AV) H = some (a, H') := h
    split at h'
    · rename_i hg
      split at h'
      · rename_i hf
        subst hf
        match args, h' with
        | [e, t], h' =>
          have hne : ∀ {b : AV} {H1 : AHeap}, ev e H = some (b, H1) → ∀ y q, e ≠ .Starred y q := fun h1 y q hq => by subst hq; rw [hS] at h1; cases h1
          cases t with
          | Name t tp =>
            have h2 : (if isGlob sc t then (match tyOf t with | some t => (do let v ← ev e; let b ← pIsi v t; pure (.bool b)) | none => stuck) else stuck : M AV) H = some (a, H') := h'
            split at h2
            · rename_i hx
              cases ht : tyOf t with
              | none => simp only [ht] at h2; exact (stuck_some (H := H) h2).elim
              | some t =>
                simp only [ht] at h2
                obtain ⟨v, H1, h1, _⟩ := bind_some h2
                exact isi_sound G (hne h1) hev S i hg hx ht h2
            · exact (stuck_some (H := H) h2).elim
          | Tuple es k tp =>
            have h2 : (match pairN es with | some (t, u) => (if isTL t.1 u.1 && isGlob sc t.1 && isGlob sc u.1 then (do let v ← ev e; let b ← pIsiTL v; pure (.bool b)) else stuck) | none => stuck : M AV) H = some (a, H') := h'
            cases hp : pairN es with
            | none => simp only [hp] at h2; exact (stuck_some (H := H) h2).elim
            | some tu =>
              obtain ⟨t, u⟩ := tu
              simp only [hp] at h2
              split at h2
              · rename_i hx
                rw [Bool.and_eq_true, Bool.and_eq_true] at hx
                obtain ⟨v, H1, h1, _⟩ := bind_some h2
                rw [pairN_of hp]
                exact isiTL_sound G (hne h1) hev S i hg hx.1.2 hx.2 hx.1.1 h2
              · exact (stuck_some (H := H) h2).elim
          | _ => exact (stuck_some (H := H) h').elim
        | [], h' => exact (stuck_some (H := H) h').elim
        | [_], h' => exact (stuck_some (H := H) h').elim
        | _ :: _ :: _ :: _, h' => exact (stuck_some (H := H) h').elim
      · cases hb : biOf f with
        | none => simp only [hb] at h'; exact fn_sound G C hS hev S i hg h'
        | some b =>
          simp only [hb] at h'
          unfold dBI at h'
          cases hz : (if b = .list then isZip sc args else none : Option (Expr × Expr)) with
          | none => simp only [hz] at h'; exact bi_sound hh G hS hev S i hg hb h'
          | some xy =>
            simp only [hz] at h'
            exact zip_sound hh G hS hst hev S i hg hb hz h'
    · exact (stuck_some (H := H) h').elim
  | _ => exact (stuck_some (H := H) h).elim
end

theorem den_sound (hh : A.handled = none) (R : Room A) : ∀ (n : Nat) (cx : Cx) (G : Good cx P) (C : CallOK cx A cf) (env : Env) (sc : Scope) (ns : List Str) (σ : Loc), EvOK cx A env (EnvR cx env sc ns σ) (den P cf n sc ns σ)
  | 0, cx, G, C, env, sc, ns, σ => fun e ι H s a H' S i h => (stuck_some (H := H) h).elim
  | n + 1, cx, G, C, env, sc, ns, σ => fun e ι H s a H' S i h => by
    have ih := den_sound hh R n
    have hev := ih cx G C env sc ns σ
    have hS : ∀ x p H, den P cf n sc ns σ (.Starred x p) H = none := den_starred n sc ns σ
    have hSet : ∀ es k p H, den P cf n sc ns σ (.Set es k p) H = none := den_set n sc ns σ
    have hst : Stable (EnvR cx env sc ns σ) := EnvR.stable
    cases e with
    | Constant c k p => exact const_sound S h
    | Name x p =>
      have h' : dName P sc ns σ x H = some (a, H') := h
      unfold dName at h'
      split at h'
      · exact (stuck_some (H := H) h').elim
      · rename_i hd
        have hd' := Bool.eq_false_iff.mpr hd
        split at h'
        · exact name_sound G S i ‹_› hd' h'
        · split at h'
          · obtain ⟨h1, rfl⟩ := ofOpt_some h'
            obtain ⟨v, q1, q2⟩ := G.glob _ _ h1
            rw [Bool.or_eq_false_iff] at hd'
            exact load_glob G S i ‹_› hd'.1 q1 (PostV.here S (VR.ofBase S q2))
          · exact (stuck_some (H := H) h').elim
    | BoolOp op vs p => rw [arm_eval_BoolOp]; exact bOp_sound hst hev _ _ _ S i h
    | BinOp l op r p => exact bin_sound hst hev S i h
    | UnaryOp op x p =>
      cases op with
      | USub => exact neg_sound hev S i h
      | Not => exact not_sound hev S i h
      | _ => exact (stuck_some (H := H) h).elim
    | Compare l ops cs p => exact compare_sound R hSet hst hev S i h
    | Tuple es k p => exact tuple_sound hS hst hev S i h
    | List es p => exact list_sound hS hst hev S i h
    | Dict keys vals p =>
      have h' : dDict (den P cf n sc ns σ) keys vals H = some (a, H') := h
      unfold dDict at h'
      cases hk : strKeys keys with
      | none => simp only [hk] at h'; exact (stuck_some (H := H) h').elim
      | some ks =>
        simp only [hk] at h'
        split at h'
        · exact dict_sound hS hst hev S i hk ‹_› h'
        · exact (stuck_some (H := H) h').elim
    | Subscript o j p => exact sub_sound hst hev S i h
    | ListComp elt gens scope p =>
      have h' : dComp (den P cf n sc ns σ) (fun x v => den P cf n scope (x :: ns) (some v :: σ)) n (P.mu p) sc ns scope elt gens H = some (a, H') := h
      unfold dComp at h'
      cases hg : compGen gens with
      | none => simp only [hg] at h'; exact (stuck_some (H := H) h').elim
      | some q =>
        obtain ⟨x, iter, ifs⟩ := q
        simp only [hg] at h'
        obtain ⟨px, rfl⟩ := compGen_of hg
        split at h'
        · exact (stuck_some (H := H) h').elim
        · rename_i hok
          have hok' := Bool.eq_false_iff.mpr hok
          rw [Bool.or_eq_false_iff, Bool.not_eq_false'] at hok'
          obtain ⟨iv, H1, h1, h2⟩ := bind_some h'
          obtain ⟨src, H2, h3, h4⟩ := bind_some h2
          obtain ⟨ys, H3, h5, h6⟩ := bind_some h4
          rw [eval_ListComp]
          exact comp_sound (te := fun v => denT (den P cf n scope (x :: ns) (some v :: σ)) n) (ev := fun v => den P cf n scope (x :: ns) (some v :: σ)) (use := none) (mu := P.mu p) hh (compOk_of hok'.1) (noSet_pure hok'.2)
            (fun D env' a => ih (cx.hide D) G.hide C env' scope (x :: ns) (some a :: σ))
            (fun D env' a => denT_sound R (den_set n _ _ _) (den_ifexp n _ _ _) EnvR.stable (ih (cx.hide D) G.hide C env' scope (x :: ns) (some a :: σ)) n)
            (hev _ _ _ _ _ _ S i h1) i h3 h5 h6 fun D C m ι' s' e S' r I' hn hc hC hb => comp_plain e S' r hn hc hC hb
    | Call f args kws p =>
      cases kws with
      | nil => exact call_sound hh R G C hS hst hev S i h
      | cons _ _ => exact (stuck_some (H := H) h).elim
    | _ => exact (stuck_some (H := H) h).elim
end
end Mine


set_option autoImplicit false
set_option linter.unusedVariables false
namespace Mine
open PySem PyProof.Rows PySem.SeqAt

/-- the frame's own dict and cells -/
noncomputable def Own (env : Env) (b : Addr) : Prop := b = env.locals ∨ ∃ n, env.cells.lookup n = some b

structure ExtO (env : Env) (ι ι' : List Addr) (h h' : Heap) : Prop where
  pre : ι <+: ι'
  news : ∀ a ∈ ι', a ∉ ι → h.get? a = none
  keep : ∀ b o, h.get? b = some o → b ∉ ι → ¬ Own env b → h'.get? b = some o

structure FrS (cx : Cx) (env : Env) (sc : Scope) : Prop where
  scp : env.scope = sc
  l0 : cx.h₀.get? env.locals = none
  c0 : ∀ n c, env.cells.lookup n = some c → cx.h₀.get? c = none
  inj : ∀ n n' c, env.cells.lookup n = some c → env.cells.lookup n' = some c → n = n'
  nofree : ∀ x, isLocal sc x = true → sc.names.lookup x = some .local ∨ sc.names.lookup x = some .cell

structure FS (cx : Cx) (env : Env) (sc : Scope) (ns : List Str) (σ : Loc) (ι : List Addr) (H : AHeap) (s : Shared) : Prop where
  S : St cx ι H s
  E : EnvR cx env sc ns σ ι s.heap
  cells : ∀ n c, env.cells.lookup n = some c → c ∉ ι ∧ ∃ v, s.heap.IsCell c v

section
variable {cx : Cx} {A : Around} {ι ι' ι'' : List Addr} {H H' : AHeap} {s s' : Shared} {env : Env} {sc : Scope} {ns : List Str} {σ σ' : Loc} {h h' h'' : Heap}

theorem ExtO.refl : ExtO env ι ι h h := ⟨List.prefix_refl _, fun _ a b => absurd a b, fun _ _ e _ _ => e⟩
theorem ExtO.notin (x : ExtO env ι ι' h h') {b : Addr} {o : Obj} (hb : h.get? b = some o) (hn : b ∉ ι) : b ∉ ι' := fun hm => by rw [x.news b hm hn] at hb; cases hb
theorem ExtO.trans (x : ExtO env ι ι' h h') (y : ExtO env ι' ι'' h' h'') (hown : ∀ a, Own env a → a ∉ ι'') : ExtO env ι ι'' h h'' where
  pre := x.pre.trans y.pre
  news := fun a ha hn => by
    by_cases h1 : a ∈ ι'
    · exact x.news a h1 hn
    · cases e : h.get? a with
      | none => rfl
      | some o => have := y.news a ha h1; rw [x.keep a o e hn (fun q => hown a q ha)] at this; cases this
  keep := fun b o e hn ho => y.keep b o (x.keep b o e hn ho) (x.notin e hn) ho
theorem Ext.toO (x : Ext ι ι' h h') : ExtO env ι ι' h h' := ⟨x.pre, x.news, fun b o e hn _ => x.keep b o e hn⟩

theorem FS.own (f : FS cx env sc ns σ ι H s) : ∀ a, Own env a → a ∉ ι := fun a ha => by
  rcases ha with rfl | ⟨n, hn⟩
  · exact f.E.notin
  · exact (f.cells n a hn).1
theorem FS.ownNot (f : FS cx env sc ns σ ι H s) : ∀ b o, Own env b → s.heap.get? b = some o → NotData o := fun b o hb ho => by
  rcases hb with rfl | ⟨n, hn⟩
  · obtain ⟨m, hm, _⟩ := f.E.nsm
    exact (Ns.notData hm o ho).1
  · obtain ⟨_, v, o', ho', hd⟩ := f.cells n b hn
    rw [ho] at ho'; cases ho'
    refine ⟨fun vs n q => ?_, .inl fun vs q => ?_⟩ <;> rw [hd] at q <;> cases q
theorem FrS.base (F : FrS cx env sc) : ∀ b, Own env b → cx.h₀.get? b = none := fun b hb => by
  rcases hb with rfl | ⟨n, hn⟩
  · exact F.l0
  · exact F.c0 n b hn
theorem FS.mono (f : FS cx env sc ns σ ι H s) (x : Ext ι ι' s.heap s'.heap) (S : St cx ι' H' s') : FS cx env sc ns σ ι' H' s' :=
  ⟨S, EnvR.stable _ _ _ _ f.E x, fun n c hc => let ⟨h1, v, o, ho, hd⟩ := f.cells n c hc; ⟨x.notin ho h1, v, o, x.keep _ o ho h1, hd⟩⟩

theorem Tn.monoO (x : ExtO env ι ι' h h') (hp : ∀ b o, Own env b → h.get? b = some o → NotData o) (hb : ∀ b, Own env b → cx.h₀.get? b = none) : Tn cx cx ι ι' h h' where
  same := ⟨rfl, rfl, rfl⟩
  tup := fun _ _ _ ht hn => ⟨x.keep _ _ ht hn fun q => (hp _ _ q ht).1 _ _ rfl, x.notin ht hn⟩
  lst := fun _ _ _ ht hn => ⟨x.keep _ _ ht hn.1 fun q => (hp _ _ q ht).1 _ _ rfl, x.notin ht hn.1, hn.2⟩
  loc := fun _ _ hl => prefix_get x.pre hl
  range := fun _ _ _ _ _ _ hr hn => ⟨x.keep _ _ hr hn (fun q => by rcases (hp _ _ q hr).2 with z | z; exact z _ rfl; exact z rfl), x.notin hr hn⟩
  dict := fun _ _ ho hn hsm => ⟨x.keep _ _ ho hn (fun q => by obtain ⟨o', z⟩ := hsm; rw [hb _ q] at z; cases z), x.notin ho hn⟩
theorem VR.monoO (x : ExtO env ι ι' h h') (hp : ∀ b o, Own env b → h.get? b = some o → NotData o) (hb : ∀ b, Own env b → cx.h₀.get? b = Option.none) {a : AV} {v : Value} (r : VR cx ι h a v) : VR cx ι' h' a v := r.gen (.monoO x hp hb)
theorem VRs.monoO (x : ExtO env ι ι' h h') (hp : ∀ b o, Own env b → h.get? b = some o → NotData o) (hb : ∀ b, Own env b → cx.h₀.get? b = Option.none) {xs : List AV} {vs : List Value} (r : VRs cx ι h xs vs) : VRs cx ι' h' xs vs := r.gen (.monoO x hp hb)

theorem ItR.monoO {it : Addr} {src : Src} {i : Nat} (j : ItR cx ι h it src i) (hi : it ∉ ι) (ho : ¬ Own env it) (x : ExtO env ι ι' h h') (hp : ∀ b o, Own env b → h.get? b = some o → NotData o) (hb : ∀ b, Own env b → cx.h₀.get? b = none) : ItR cx ι' h' it src i := by
  cases j with
  | list h1 h2 h3 h4 => exact .list (h1.at fun o e => x.keep _ o e hi ho) (x.keep _ _ h2 h3.1 fun q => (hp _ _ q h2).1 _ _ rfl) ⟨x.notin h2 h3.1, h3.2⟩ (h4.monoO x hp hb)
  | tup h1 h2 h3 h4 =>
    obtain ⟨o, e, r⟩ := h1
    exact .tup ⟨o, x.keep _ o e hi ho, r⟩ (x.keep _ _ h2 h3 fun q => (hp _ _ q h2).1 _ _ rfl) (x.notin h2 h3) (h4.monoO x hp hb)
  | range h1 => exact .range (x.keep _ _ h1 hi ho)
  | «at» h1 h2 => exact .at (h1.at fun o e => x.keep _ o e hi ho) (prefix_get x.pre h2)

theorem idx_inj {x y : Str} {i : Nat} (h1 : ns.idxOf? x = some i) (h2 : ns.idxOf? y = some i) : x = y := by
  rw [List.idxOf?, List.findIdx?_eq_some_iff_getElem] at h1 h2
  obtain ⟨a1, b1, _⟩ := h1
  obtain ⟨a2, b2, _⟩ := h2
  rw [← beq_iff_eq.mp b1, ← beq_iff_eq.mp b2]

theorem kindOf_eq (F : FrS cx env sc) (x : Str) : env.kindOf x = sc.names.lookup x := by rw [← F.scp]; rfl

/-- a private object that is none of the frame's own turns -/
theorem FS.priv (f : FS cx env sc ns σ ι H s) {c : Addr} {h' : Heap} {t : Nat} (hc : c ∉ ι) (hb : cx.h₀.get? c = none) (hL : env.locals ≠ c) (hp : ∀ o, s.heap.get? c = some o → NotData o ∧ (∀ v, o.data ≠ .cell v)) (hk : ∀ b o, b ≠ c → s.heap.get? b = some o → h'.get? b = some o) :
    FS cx env sc ns σ ι H { s with heap := h', toks := t } :=
  ⟨f.S.priv hc hb (fun o ho => (hp o ho).1) hk, f.E.priv hb hL hp hk, fun n d hd => let ⟨h1, v, o, ho, hd'⟩ := f.cells n d hd; ⟨h1, v, o, hk d o (fun q => by subst q; exact (hp o ho).2 _ hd') ho, hd'⟩⟩
theorem FS.tok (f : FS cx env sc ns σ ι H s) (t : Nat) : FS cx env sc ns σ ι H { s with toks := t } := ⟨f.S.tok t, f.E, f.cells⟩

theorem setN_some {x : Str} {a : AV} (h : setN ns x a σ H = some (σ', H')) : H' = H ∧ ∃ i, ns.idxOf? x = some i ∧ σ' = σ.set i (some a) := by
  unfold setN at h
  cases hi : ns.idxOf? x with
  | none => rw [hi] at h; cases h
  | some i =>
    rw [hi] at h
    obtain ⟨rfl, rfl⟩ := pure_some h
    exact ⟨rfl, i, rfl, rfl⟩

/-- a name of the frame's own is bound -/
theorem store_sound {x : Str} {p : Pos} {a : AV} {v : Value} {E : Value → Shared → Prop} {Q : Unit → Shared → Prop} (F : FrS cx env sc) (f : FS cx env sc ns σ ι H s) (hx : isLocal sc x = true) (r : VR cx ι s.heap a v) (h : setN ns x a σ H = some (σ', H'))
    (hQ : ∀ s', FS cx env sc ns σ' ι H' s' → ExtO env ι ι s.heap s'.heap → Q () s') : wpAny (model cx.prog cx.w) A (assign (.Name x p) env v) Q E s := by
  obtain ⟨rfl, i, hi, rfl⟩ := setN_some h
  have hget : ∀ y j b, ns.idxOf? y = some j → (σ.set i (some a))[j]? = some (some b) → (y = x ∧ b = a) ∨ (y ≠ x ∧ σ[j]? = some (some b)) := fun y j b h1 h2 => by
    by_cases hij : i = j
    · subst hij
      rw [List.getElem?_set] at h2
      simp only [if_true] at h2
      split at h2
      · cases h2; exact .inl ⟨idx_inj h1 hi, rfl⟩
      · cases h2
    · rw [List.getElem?_set_ne hij] at h2
      exact .inr ⟨fun q => by subst q; rw [hi] at h1; cases h1; exact hij rfl, h2⟩
  refine wpAny_assign_Name ?_
  rcases F.nofree x hx with hl | hl
  · -- in the frame's dict
    obtain ⟨m, hm, hv⟩ := f.E.nsm
    refine wpAny_storeName_local ((kindOf_eq F x).trans hl) hm (fun h' hn hs => hQ _ ?_ ?_) (by rw [f.E.kind]; rfl)
    · have hp : ∀ o, s.heap.get? env.locals = some o → NotData o := fun o ho => (Ns.notData hm o ho).1
      have hk := hs.extBut
      have hcell : ∀ d w, s.heap.IsCell d w → h'.IsCell d w := fun d w ⟨o, ho, hd⟩ => ⟨o, hk d o (fun q => by subst q; exact (Ns.notData hm o ho).2 _ hd) ho, hd⟩
      refine ⟨f.S.priv (t := s.toks + 1) f.E.notin F.l0 hp hk, ⟨f.E.kind, f.E.glob, f.E.blt, f.E.notin, F.l0, ⟨_, hn, ?_⟩, ?_, ?_, f.E.klocal, f.E.kcell, f.E.kglob⟩, ?_⟩
      · intro y j b h1 h2 h3
        rcases hget y j b h1 h2 with ⟨rfl, rfl⟩ | ⟨hne, h4⟩
        · exact ⟨v, by simp, r.but hp F.l0 hk⟩
        · obtain ⟨w, q1, q2⟩ := hv y j b h1 h4 h3
          exact ⟨w, by simp [hne, q1], q2.but hp F.l0 hk⟩
      · intro y j b h1 h2 h3
        rcases hget y j b h1 h2 with ⟨rfl, rfl⟩ | ⟨hne, h4⟩
        · rw [kindOf_eq F, hl] at h3; rcases h3 with h3 | h3 <;> cases h3
        · obtain ⟨c, w, q1, q2, q3, q4⟩ := f.E.cel y j b h1 h4 h3
          exact ⟨c, w, q1, hcell _ _ q2, q3, q4.but hp F.l0 hk⟩
      · intro y h1 h2
        obtain ⟨c, w, q1, q2, q3⟩ := f.E.has y h1 h2
        exact ⟨c, w, q1, hcell _ _ q2, q3⟩
      · intro n c hc
        obtain ⟨h1, w, h2⟩ := f.cells n c hc
        exact ⟨h1, w, hcell _ _ h2⟩
    · exact ⟨List.prefix_refl _, fun _ a b => absurd a b, fun b o e _ ho => hs.extBut b o (fun q => ho (.inl q)) e⟩
  · -- in a cell
    have hcon : ns.contains x = true := by
      have : x ∈ ns := by
        rw [List.idxOf?, List.findIdx?_eq_some_iff_getElem] at hi
        obtain ⟨a1, b1, _⟩ := hi
        rw [← beq_iff_eq.mp b1]; exact List.getElem_mem a1
      simpa using this
    obtain ⟨c, w0, hc, hc0, hci⟩ := f.E.has x hcon hl
    refine wpAny_storeName_cell f.E.kind ((kindOf_eq F x).trans hl) hc hc0 fun h' hcv hs => hQ _ ?_ ?_
    · have hpc : ∀ o, s.heap.get? c = some o → NotData o := fun o ho => by
        obtain ⟨o', ho', hd⟩ := hc0
        rw [ho] at ho'; cases ho'
        refine ⟨fun vs n q => ?_, .inl fun vs q => ?_⟩ <;> rw [hd] at q <;> cases q
      have hk := hs.extBut
      have hb := F.c0 x c hc
      obtain ⟨m, hm, hv⟩ := f.E.nsm
      have hLc : env.locals ≠ c := fun q => by
        obtain ⟨o', ho', hd⟩ := hc0
        exact (Ns.notData hm o' (q ▸ ho')).2 _ hd
      have hoth : ∀ y d w, env.cells.lookup y = some d → y ≠ x → s.heap.IsCell d w → h'.IsCell d w := fun y d w h1 h2 ⟨o, ho, hd⟩ => ⟨o, hk d o (fun q => h2 (F.inj y x c (q ▸ h1) hc)) ho, hd⟩
      refine ⟨f.S.priv (t := s.toks) hci hb hpc hk, ⟨f.E.kind, f.E.glob, f.E.blt, f.E.notin, F.l0, ⟨m, hm.at' fun o ho => hk _ o hLc ho, ?_⟩, ?_, ?_, f.E.klocal, f.E.kcell, f.E.kglob⟩, ?_⟩
      · intro y j b h1 h2 h3
        rcases hget y j b h1 h2 with ⟨rfl, rfl⟩ | ⟨hne, h4⟩
        · rw [kindOf_eq F, hl] at h3; cases h3
        · obtain ⟨w, q1, q2⟩ := hv y j b h1 h4 h3
          exact ⟨w, q1, q2.but hpc hb hk⟩
      · intro y j b h1 h2 h3
        rcases hget y j b h1 h2 with ⟨rfl, rfl⟩ | ⟨hne, h4⟩
        · exact ⟨c, v, hc, hcv, hci, r.but hpc hb hk⟩
        · obtain ⟨d, w, q1, q2, q3, q4⟩ := f.E.cel y j b h1 h4 h3
          exact ⟨d, w, q1, hoth y d _ q1 hne q2, q3, q4.but hpc hb hk⟩
      · intro y h1 h2
        obtain ⟨d, w, q1, q2, q3⟩ := f.E.has y h1 h2
        by_cases hyx : y = x
        · subst hyx; rw [hc] at q1; cases q1; exact ⟨c, _, hc, hcv, q3⟩
        · exact ⟨d, w, q1, hoth y d _ q1 hyx q2, q3⟩
      · intro n d hd
        obtain ⟨h1, w, h2⟩ := f.cells n d hd
        by_cases hyx : n = x
        · subst hyx; rw [hc] at hd; cases hd; exact ⟨h1, _, hcv⟩
        · exact ⟨h1, w, hoth n d _ hd hyx h2⟩
    · exact ⟨List.prefix_refl _, fun _ a b => absurd a b, fun b o e _ ho => hs.extBut b o (fun q => ho (.inr ⟨x, q ▸ hc⟩)) e⟩
end
end Mine


set_option autoImplicit false
set_option linter.unusedVariables false
namespace Mine
open PySem PyProof.Rows PySem.SeqAt

section
variable {cx : Cx} {A : Around} {ι ι' ι'' : List Addr} {H H' : AHeap} {s s' : Shared} {env : Env} {sc : Scope} {ns : List Str} {σ σ' : Loc} {P : Pg} {cf : Str → List AV → M AV}

def PostA (cx : Cx) (env : Env) (sc : Scope) (ns : List Str) (σ' : Loc) (ι : List Addr) (h : Heap) (H' : AHeap) : Unit → Shared → Prop := fun _ s' => ∃ ι', FS cx env sc ns σ' ι' H' s' ∧ ExtO env ι ι' h s'.heap

theorem assign_sound {n : Nat} {t : Expr} {a : AV} {v : Value} (hh : A.handled = none) (R : Room A) (G : Good cx P) (C : CallOK cx A cf) (F : FrS cx env sc) (f : FS cx env sc ns σ ι H s) (r : VR cx ι s.heap a v)
    (h : assignTo (fun σ e => den P cf n sc ns σ e) sc ns a σ t H = some (σ', H')) : wpAny (model cx.prog cx.w) A (assign t env v) (PostA cx env sc ns σ' ι s.heap H') noE s := by
  have hev := den_sound hh R n cx G C env sc ns σ
  cases t with
  | Name x p =>
    have h' : (if isLocal sc x then setN ns x a σ else stuck : M Loc) H = some (σ', H') := h
    split at h'
    · exact store_sound F f ‹_› r h' fun s' f' e => ⟨ι, f', e⟩
    · exact (stuck_some (H := H) h').elim
  | Subscript o i p =>
    obtain ⟨ov, H1, h1, h2⟩ := bind_some h
    obtain ⟨iv, H2, h3, h4⟩ := bind_some h2
    obtain ⟨u, H3, h5, h6⟩ := bind_some h4
    obtain ⟨rfl, rfl⟩ := pure_some h6
    rw [assign_Subscript]
    refine wpAny_bind (wpAny_holding (wpAny_mono (hev o ι H s _ _ f.S f.E h1) (fun w1 s₁ q₁ => ?_) fun _ _ x => x))
    obtain ⟨ι₁, e1, S₁, r1⟩ := q₁
    have f1 := f.mono e1 S₁
    refine wpAny_bind (wpAny_holding (wpAny_mono (hev i ι₁ H1 s₁ _ _ S₁ f1.E h3) (fun w2 s₂ q₂ => ?_) fun _ _ x => x))
    obtain ⟨ι₂, e2, S₂, r2⟩ := q₂
    have f2 := f1.mono e2 S₂
    refine wpAny_bind (wpAny_standAt (wpAny_bind (wpAny_holding (wpAny_mono (pStore_sound (E := noE) S₂ (r1.mono e2) r2 (r.mono (e1.trans e2)) h5) (fun w3 s₃ q₃ => ?_) fun _ _ x => x))))
    obtain ⟨ι₃, e3, S₃⟩ := q₃
    exact wpAny_release' ⟨ι₃, f2.mono e3 S₃, ((e1.trans e2).trans e3).toO⟩
  | Tuple es k p =>
    have h' : (match pairN es with | some (x, y) => assignP sc ns a σ x.1 y.1 | none => stuck : M Loc) H = some (σ', H') := h
    cases hp : pairN es with
    | none => simp only [hp] at h'; exact (stuck_some (H := H) h').elim
    | some xy =>
      obtain ⟨⟨x, px⟩, y, py⟩ := xy
      simp only [hp] at h'
      have hes := pairN_of hp
      subst hes
      cases r with
      | @tup ta vs n xs ht hn hz hs =>
        match xs, h', hs, hz with
        | [a1, a2], h', hs, hz =>
          have h2' : (if isLocal sc x && isLocal sc y then (do let σ ← setN ns x a1 σ; setN ns y a2 σ) else stuck : M Loc) H = some (σ', H') := h'
          split at h2'
          · rename_i hxy
            rw [Bool.and_eq_true] at hxy
            obtain ⟨σ1, H1, h1, h2⟩ := bind_some h2'
            obtain ⟨v1, v2, hvs, r1, r2⟩ := hs.inv2
            have hvs' : vs = #[v1, v2] := by rw [← Array.toList_inj, hvs]
            subst hvs'
            refine wpAny_assign_Tuple (items := #[v1, v2]) hh ⟨_, ht, rfl, n, rfl⟩ rfl rfl fun h' he => ?_
            have hk : ∀ b o, s.heap.get? b = some o → h'.get? b = some o := fun b o e => he b o (Nat.ne_of_lt (Heap.lt_size e)) e
            have e1 : Ext ι ι s.heap h' := Ext.keeps hk
            have f1 : FS cx env sc ns σ ι H { s with heap := h' } := f.mono e1 (f.S.keeps (t := s.toks) hk)
            show wpAny _ _ (assignInOrder [assign (.Name x px) env, assign (.Name y py) env] [v1, v2]) _ _ _
            refine assignInOrder_cons (store_sound F f1 hxy.1 (r1.mono e1) h1 fun s₂ f2 e2 => ?_)
            refine assignInOrder_cons (store_sound F f2 hxy.2 ((r2.mono e1).monoO e2 f1.ownNot F.base) h2 fun s₃ f3 e3 => ?_)
            exact assignInOrder_nil ⟨ι, f3, (e1.toO.trans e2 f2.own).trans e3 f3.own⟩
          · exact (stuck_some (H := H) h2').elim
        | [], h', hs, hz => exact (stuck_some (H := H) h').elim
        | [_], h', hs, hz => exact (stuck_some (H := H) h').elim
        | _ :: _ :: _ :: _, h', hs, hz => exact (stuck_some (H := H) h').elim
      | _ => exact (stuck_some (H := H) h').elim
  | _ => exact (stuck_some (H := H) h).elim
end
end Mine


set_option autoImplicit false
set_option linter.unusedVariables false
namespace Mine
open PySem PyProof.Rows PySem.SeqAt

noncomputable def PostS (cx : Cx) (env : Env) (sc : Scope) (ns : List Str) (ι : List Addr) (h : Heap) (r : Res) (H' : AHeap) : Flow → Shared → Prop := fun f s' =>
  ∃ ι', ExtO env ι ι' h s'.heap ∧ match r with
    | .next σ' => f = .next ∧ FS cx env sc ns σ' ι' H' s'
    | .ret a => ∃ v, f = .ret v ∧ St cx ι' H' s' ∧ (∀ b, Own env b → b ∉ ι') ∧ VR cx ι' s'.heap a v

section
variable {cx : Cx} {A : Around} {ι ι' ι'' ι₁ : List Addr} {H H' H1 : AHeap} {s s' : Shared} {env : Env} {sc : Scope} {ns : List Str} {σ σ' : Loc} {P : Pg} {cf : Str → List AV → M AV} {h₁ : Heap}

theorem PostS.trans {r : Res} {f : Flow} (e : ExtO env ι₁ ι h₁ s.heap) (p : PostS cx env sc ns ι s.heap r H' f s') : PostS cx env sc ns ι₁ h₁ r H' f s' := by
  obtain ⟨ι', e', q⟩ := p
  cases r with
  | next σ' => exact ⟨ι', e.trans e' q.2.own, q⟩
  | ret a => obtain ⟨v, q1, q2, q3, q4⟩ := q; exact ⟨ι', e.trans e' q3, v, q1, q2, q3, q4⟩

theorem execs_cons {st : Stmt} {rest : List Stmt} {Q : Flow → Shared → Prop} (h : wpAny (model cx.prog cx.w) A (exec st env) (fun f s₁ => match f with
      | .next => wpAny (model cx.prog cx.w) A (execs rest env) Q noE s₁
      | f => Q f s₁) noE s) : wpAny (model cx.prog cx.w) A (execs (st :: rest) env) Q noE s := by
  rw [arm_execs_cons]
  refine wpAny_bind (wpAny_mono h (fun f s₁ h₁ => ?_) fun _ _ x => x)
  cases f with
  | next => exact h₁
  | _ => exact wpAny_pure h₁

/-- the iterator of a for over names -/
theorem for_sound {x : Str} {px : Pos} {body : List Stmt} {it : Addr} {src : Src} {bm : AV → Loc → M Res} {r : Res} (hh : A.handled = none) (F : FrS cx env sc) (hio : ¬ Own env it) (hi0 : cx.h₀.get? it = none) (hi1 : h₁.get? it = none)
    (hb : ∀ (σ : Loc) (ι : List Addr) (H : AHeap) (s : Shared) (a : AV) (v : Value) (r : Res) (H' : AHeap), FS cx env sc ns σ ι H s → VR cx ι s.heap a v → bm a σ H = some (r, H') →
      wpAny (model cx.prog cx.w) A (assign (.Name x px) env v) (fun _ s₂ => wpAny (model cx.prog cx.w) A (execs body env) (PostS cx env sc ns ι s.heap r H') noE s₂) noE s)
    (k i : Nat) (f : FS cx env sc ns σ ι H s) (J : ItR cx ι s.heap it src i) (hi : it ∉ ι) (X : ExtO env ι₁ ι h₁ s.heap) (h : forLoop src bm k i σ H = some (r, H')) :
    codeAny (model cx.prog cx.w) A (.forLoop (.Name x px) (.ref it) body [] env) (fun res s' => ∃ f, res = .ok f ∧ PostS cx env sc ns ι₁ h₁ r H' f s') s := by
  refine codeAny_forLoop (fun k s => ∃ (ι : List Addr) (H : AHeap) (σ : Loc) (i : Nat), FS cx env sc ns σ ι H s ∧ ItR cx ι s.heap it src i ∧ it ∉ ι ∧ ExtO env ι₁ ι h₁ s.heap ∧ forLoop src bm k i σ H = some (r, H')) ?_ k ⟨ι, H, σ, i, f, J, hi, X, h⟩
  clear f J hi X h
  rintro k s ⟨ι, H, σ, i, f, J, hi, X, h⟩
  cases k with
  | zero => cases h
  | succ k =>
    unfold forLoop at h
    obtain ⟨o, H1, h1, h2⟩ := bind_some h
    obtain ⟨rfl, hn⟩ := next_sound (E := noE) hh f.S J hi0 h1
    refine wpAny_mono hn (fun q s₁ q₁ => ?_) fun _ _ x => x.elim
    obtain ⟨h', t, rfl, hk, hr⟩ := q₁
    obtain ⟨oi, hoi, g1, g2, g3⟩ := J.obj
    have hp : ∀ o, s.heap.get? it = some o → NotData o ∧ (∀ v, o.data ≠ .cell v) := fun o ho => by rw [hoi] at ho; cases ho; exact ⟨g1, g3⟩
    have hL : env.locals ≠ it := fun q => hio (.inl q.symm)
    have f1 := f.priv (t := t) hi hi0 hL hp hk
    have X1 : ExtO env ι₁ ι h₁ h' := ⟨X.pre, X.news, fun b o e hn ho => hk b o (fun q => by subst q; rw [hi1] at e; cases e) (X.keep b o e hn ho)⟩
    cases o with
    | none =>
      simp only at hr
      subst hr
      obtain ⟨rfl, rfl⟩ := pure_some h2
      exact wpAny_execs_nil ⟨_, rfl, ι, X1, rfl, f1⟩
    | some a =>
      simp only at hr
      obtain ⟨v, rfl, rv, J'⟩ := hr
      simp only
      obtain ⟨r1, H2, h3, h4⟩ := bind_some h2
      refine wpAny_mono (hb σ ι _ _ a v r1 H2 f1 rv h3) (fun _ s₂ q₂ => ?_) fun _ _ x => x.elim
      refine wpAny_mono q₂ (fun fl s₃ q₃ => ?_) fun _ _ x => x.elim
      have q₃' := q₃
      obtain ⟨ι₃, e3, q⟩ := q₃
      cases r1 with
      | next σ3 =>
        obtain ⟨rfl, f3⟩ := q
        have it3 : it ∉ ι₃ := by
          obtain ⟨oj, hoj, _⟩ := J'.obj
          exact e3.notin hoj hi
        exact ⟨k, Nat.lt_succ_self _, ι₃, H2, σ3, i + 1, f3, J'.monoO hi hio e3 f1.ownNot F.base, it3, X1.trans e3 f3.own, h4⟩
      | ret w =>
        obtain ⟨v', rfl, _⟩ := q
        obtain ⟨rfl, rfl⟩ := pure_some h4
        exact ⟨_, rfl, PostS.trans (s := { s with heap := h', toks := t }) X1 q₃'⟩

theorem while_sound {test : Expr} {body : List Stmt} {tm : Loc → M Bool} {bm : Loc → M Res} {r : Res} (F : FrS cx env sc)
    (ht : ∀ (σ : Loc) (ι : List Addr) (H : AHeap) (s : Shared) (b : Bool) (H' : AHeap), FS cx env sc ns σ ι H s → tm σ H = some (b, H') → wpAny (model cx.prog cx.w) A (PySem.isTrue test env (eval test env)) (PostB cx ι s.heap b H') noE s)
    (hb : ∀ (σ : Loc) (ι : List Addr) (H : AHeap) (s : Shared) (r : Res) (H' : AHeap), FS cx env sc ns σ ι H s → bm σ H = some (r, H') → wpAny (model cx.prog cx.w) A (execs body env) (PostS cx env sc ns ι s.heap r H') noE s)
    (k : Nat) (f : FS cx env sc ns σ ι H s) (X : ExtO env ι₁ ι h₁ s.heap) (h : whileLoop tm bm k σ H = some (r, H')) :
    codeAny (model cx.prog cx.w) A (.whileLoop test body [] env) (fun res s' => ∃ f, res = .ok f ∧ PostS cx env sc ns ι₁ h₁ r H' f s') s := by
  refine codeAny_whileLoop (fun k s => ∃ (ι : List Addr) (H : AHeap) (σ : Loc), FS cx env sc ns σ ι H s ∧ ExtO env ι₁ ι h₁ s.heap ∧ whileLoop tm bm k σ H = some (r, H')) ?_ k ⟨ι, H, σ, f, X, h⟩
  clear f X h
  rintro k s ⟨ι, H, σ, f, X, h⟩
  cases k with
  | zero => cases h
  | succ k =>
    unfold whileLoop at h
    obtain ⟨b, H1, h1, h2⟩ := bind_some h
    refine wpAny_mono (ht σ ι H s b H1 f h1) (fun c s₁ q₁ => ?_) fun _ _ x => x.elim
    obtain ⟨rfl, ι₂, e2, S₂⟩ := q₁
    have f2 := f.mono e2 S₂
    have X2 := X.trans (e2.toO (env := env)) f2.own
    cases c with
    | false =>
      obtain ⟨rfl, rfl⟩ := pure_some h2
      exact wpAny_execs_nil ⟨_, rfl, ι₂, X2, rfl, f2⟩
    | true =>
      obtain ⟨r1, H2, h3, h4⟩ := bind_some h2
      simp only [if_true]
      refine wpAny_mono (hb σ ι₂ H1 s₁ r1 H2 f2 h3) (fun fl s₃ q₃ => ?_) fun _ _ x => x.elim
      have q₃' := q₃
      obtain ⟨ι₃, e3, q⟩ := q₃
      cases r1 with
      | next σ3 =>
        obtain ⟨rfl, f3⟩ := q
        exact ⟨k, Nat.lt_succ_self _, ι₃, H2, σ3, f3, X2.trans e3 f3.own, h4⟩
      | ret w =>
        obtain ⟨v', rfl, _⟩ := q
        obtain ⟨rfl, rfl⟩ := pure_some h4
        exact ⟨_, rfl, q₃'.trans X2⟩

theorem drop_sound {e : Expr} {p : Pos} {v : Value} {Q : Flow → Shared → Prop} (h : Q .next s) : wpAny (model cx.prog cx.w) A (dropValue e p v) Q noE s := by
  unfold dropValue
  split
  · exact wpAny_pure h
  · exact wpAny_bind (wpAny_standAt (wpAny_bind (wpAny_runValue (codeAny_builtin entry_let_go (show wpAny _ _ (ret .none) _ _ s from wpAny_pure (wpAny_pure h))))))
  · exact wpAny_pure h

theorem expr_sound {e : Expr} {p : Pos} {ev : Expr → M AV} {a : AV} (hev : EvOK cx A env (EnvR cx env sc ns σ) ev) (f : FS cx env sc ns σ ι H s) (hn : noComp e = true) (hd : ∀ a b c d e', e ≠ .DictComp a b c d e') (hs : ∀ a b c d, e ≠ .SetComp a b c d) (h : ev e H = some (a, H')) :
    wpAny (model cx.prog cx.w) A (exec (.Expr e p) env) (PostS cx env sc ns ι s.heap (.next σ) H') noE s := by
  have hsw : swapsWith e none p.line env = pure false := by
    cases e <;> first | rfl | (cases hn; done) | exact absurd rfl (hd _ _ _ _ _) | exact absurd rfl (hs _ _ _ _)
  have hi : interactive env = false := by unfold interactive; rw [f.E.kind]; rfl
  rw [arm_exec_Expr, hi, hsw]
  refine wpAny_bind (wpAny_standAt ?_)
  simp only [Bool.false_eq_true, if_false, pure_bind]
  refine wpAny_bind (wpAny_mono (hev e ι H s a H' f.S f.E h) (fun v s₁ q₁ => ?_) fun _ _ x => x)
  obtain ⟨ι₁, e1, S₁, r1⟩ := q₁
  exact drop_sound ⟨ι₁, e1.toO, rfl, f.mono e1 S₁⟩
end
end Mine


set_option autoImplicit false
set_option linter.unusedVariables false
namespace Mine
open PySem PyProof.Rows PySem.SeqAt

section
variable {cx : Cx} {A : Around} {ι ι' ι'' ι₁ : List Addr} {H H' H1 : AHeap} {s s' : Shared} {env : Env} {sc : Scope} {ns : List Str} {σ σ' : Loc} {P : Pg} {cf : Str → List AV → M AV} {h₁ : Heap}

theorem exec_assign1 {t e : Expr} {p : Pos} (hs : swapsWith e (some t) p.line env = pure false) (hw : swappedStores [t] e env = pure none) (ht : ∀ x q, t ≠ .Starred x q) :
    exec (.Assign [t] e p) env = (do standAt p; let v ← eval e env; assign t env v; pure .next) := by
  rw [arm_exec_Assign]
  show (do standAt p; if ← swapsWith e (some t) p.line env then _ else _) = _
  rw [hs]
  simp only [pure_bind, Bool.false_eq_true, if_false, hw]
  have he : (assignEach [t] env).map (·.2) = [assign t env] := by
    cases t <;> first | rfl | exact absurd rfl (ht _ _)
  rw [he]
  rfl

theorem den_comp {n : Nat} {e : Expr} {a : AV} (h : den P cf n sc ns σ e H = some (a, H')) (elt : Expr) (gens : List Comprehension) (scope : Scope) (lp : Pos) (he : e = .ListComp elt gens scope lp) :
    ∃ m x px iter ifs, n = m + 1 ∧ gens = [⟨.Name x px, iter, ifs, 0⟩] ∧ compOk sc ns scope x = true ∧ noSet iter = false ∧ ∃ iv H1 src H2 ys H3, den P cf m sc ns σ iter H = some (iv, H1) ∧ srcOf iv H1 = some (src, H2) ∧
      compLoop src (compBody (fun v => denT (den P cf m scope (x :: ns) (some v :: σ)) m) (fun v => den P cf m scope (x :: ns) (some v :: σ)) ifs elt) FUEL 0 [] H2 = some (ys, H3) ∧ newL (P.mu lp) ys H3 = some (a, H') := by
  cases n with
  | zero => cases h
  | succ m =>
    subst he
    have h' : dComp (den P cf m sc ns σ) (fun x v => den P cf m scope (x :: ns) (some v :: σ)) m (P.mu lp) sc ns scope elt gens H = some (a, H') := h
    unfold dComp at h'
    cases hg : compGen gens with
    | none => simp only [hg] at h'; exact (stuck_some (H := H) h').elim
    | some q =>
      obtain ⟨x, iter, ifs⟩ := q
      simp only [hg] at h'
      obtain ⟨px, rfl⟩ := compGen_of hg
      split at h'
      · exact (stuck_some (H := H) h').elim
      · rename_i hok
        have hok' := Bool.eq_false_iff.mpr hok
        rw [Bool.or_eq_false_iff, Bool.not_eq_false'] at hok'
        obtain ⟨iv, H1, h1, h2⟩ := bind_some h'
        obtain ⟨src, H2, h3, h4⟩ := bind_some h2
        obtain ⟨ys, H3, h5, h6⟩ := bind_some h4
        exact ⟨m, _, _, _, _, rfl, rfl, hok'.1, hok'.2, iv, H1, src, H2, ys, H3, h1, h3, h5, h6⟩

theorem den_setcomp (n : Nat) (x : Expr) (g : List Comprehension) (c : Scope) (p : Pos) : den P cf n sc ns σ (.SetComp x g c p) H = none := by cases n <;> rfl
theorem den_dictcomp (n : Nat) (x y : Expr) (g : List Comprehension) (c : Scope) (p : Pos) : den P cf n sc ns σ (.DictComp x y g c p) H = none := by cases n <;> rfl

/-- the comprehension whose list is bound before its variable is let go -/
theorem swapped_sound {n : Nat} {elt : Expr} {gens : List Comprehension} {scope : Scope} {lp p yp : Pos} {y : Str} {a : AV} (hh : A.handled = none) (R : Room A) (G : Good cx P) (C : CallOK cx A cf) (F : FrS cx env sc) (f : FS cx env sc ns σ ι H s)
    (h : den P cf n sc ns σ (.ListComp elt gens scope lp) H = some (a, H1)) (hy : isLocal sc y = true) (h2 : setN ns y a σ H1 = some (σ', H')) :
    wpAny (model cx.prog cx.w) A (do standAt p; evalThenUse (.ListComp elt gens scope lp) env (assign (.Name y yp) env); return .next) (PostS cx env sc ns ι s.heap (.next σ') H') noE s := by
  obtain ⟨m, x, px, iter, ifs, rfl, rfl, hok, hset, iv, H2, src, H3, ys, H4, g1, g2, g3, g4⟩ := den_comp h elt gens scope lp rfl
  have hden := den_sound (P := P) (cf := cf) hh R m
  refine wpAny_bind (wpAny_standAt (wpAny_bind ?_))
  show wpAny _ A (do let _ ← comprehension (.ListComp elt [⟨.Name x px, iter, ifs, 0⟩] scope lp) scope env _ (newList []) false (eval iter env) (some (assign (.Name y yp) env))) _ _ s
  refine wpAny_bind ?_
  refine comp_sound (Q := fun _ s' => wpAny (model cx.prog cx.w) A (pure ()) (fun _ s₁ => wpAny (model cx.prog cx.w) A (pure Flow.next) (PostS cx env sc ns ι s.heap (.next σ') H') noE s₁) noE s') (te := fun v => denT (den P cf m scope (x :: ns) (some v :: σ)) m) (ev := fun v => den P cf m scope (x :: ns) (some v :: σ)) (use := some (assign (.Name y yp) env)) (mu := P.mu lp) hh (compOk_of hok) (noSet_pure hset)
    (fun D env' a => hden (cx.hide D) G.hide C env' scope (x :: ns) (some a :: σ))
    (fun D env' a => denT_sound R (den_set m _ _ _) (den_ifexp m _ _ _) EnvR.stable (hden (cx.hide D) G.hide C env' scope (x :: ns) (some a :: σ)) m)
    (hden cx G C env sc ns σ _ _ _ _ _ _ f.S f.E g1) f.E g2 g3 g4 fun D C' mm ι' s' e S' r I' hn hc hC hb => ?_
  have f' : FS cx env sc ns σ ι' H1 s' := ⟨S', I', (f.mono e S').cells⟩
  refine store_sound F f' hy r h2 fun s'' f'' e'' => ?_
  have hCo : ¬ Own env C' := fun q => by
    rcases q with q | ⟨nn, q⟩
    · obtain ⟨_, ⟨o, _, _, ho, _⟩, _⟩ := f.E.nsm
      rw [← q, hc] at ho; cases ho
    · obtain ⟨_, v, o, ho, _⟩ := f.cells nn C' q
      rw [hc] at ho; cases ho
  have hn'' : s''.heap.Ns C' mm := hn.at' fun o ho => e''.keep _ o ho hC hCo
  refine ⟨mm, hn'', fun h' hs' => wpAny_pure (wpAny_pure ⟨ι', ?_, rfl, ?_⟩)⟩
  · have e3 : ExtO env ι ι' s.heap s''.heap := (e.toO (env := env)).trans e'' f''.own
    exact ⟨e3.pre, e3.news, fun b o hb hn ho => hs'.extBut b o (fun q => by rw [q, hc] at hb; cases hb) (e3.keep b o hb hn ho)⟩
  · exact f''.priv (t := s''.toks) hC hb (fun q => hCo (.inl q.symm)) (Ns.notData hn'') hs'.extBut

theorem assignStmt_sound {n : Nat} {t e : Expr} {p : Pos} {a : AV} (hh : A.handled = none) (R : Room A) (G : Good cx P) (C : CallOK cx A cf) (F : FrS cx env sc) (f : FS cx env sc ns σ ι H s) (htt : isTupE t = true → isTupE e = false)
    (h1 : den P cf n sc ns σ e H = some (a, H1)) (h2 : assignTo (fun σ e => den P cf n sc ns σ e) sc ns a σ t H1 = some (σ', H')) :
    wpAny (model cx.prog cx.w) A (exec (.Assign [t] e p) env) (PostS cx env sc ns ι s.heap (.next σ') H') noE s := by
  have hstar : ∀ x q, t ≠ .Starred x q := fun x q w => by subst w; cases h2
  have hsw : swappedStores [t] e env = pure none := by
    cases t <;> first | rfl | (cases h2; done) | skip
    cases e <;> first | rfl | (cases htt rfl; done)
  have norm : swapsWith e (some t) p.line env = pure false → wpAny (model cx.prog cx.w) A (exec (.Assign [t] e p) env) (PostS cx env sc ns ι s.heap (.next σ') H') noE s := fun hs => by
    rw [exec_assign1 hs hsw hstar]
    refine wpAny_bind (wpAny_standAt (wpAny_bind (wpAny_mono (den_sound hh R n cx G C env sc ns σ e ι H s a H1 f.S f.E h1) (fun v s₁ q₁ => ?_) fun _ _ x => x)))
    obtain ⟨ι₁, e1, S₁, r1⟩ := q₁
    refine wpAny_bind (wpAny_mono (assign_sound hh R G C F (f.mono e1 S₁) r1 h2) (fun _ s₂ q₂ => ?_) fun _ _ x => x)
    obtain ⟨ι₂, f2, e2⟩ := q₂
    exact wpAny_pure ⟨ι₂, (e1.toO (env := env)).trans e2 f2.own, rfl, f2⟩
  cases e
  case ListComp elt gens scope lp =>
    cases t
    case Name y yp =>
      have hb : ∃ b, swapsWith (.ListComp elt gens scope lp) (some (.Name y yp)) p.line env = pure b := ⟨_, rfl⟩
      obtain ⟨b, hb⟩ := hb
      cases b with
      | false => exact norm hb
      | true =>
        have h2' : (if isLocal sc y = true then setN ns y a σ else stuck : M Loc) H1 = some (σ', H') := h2
        split at h2'
        · rw [exec_Assign_Name_used _ _ _ _ hb]
          exact swapped_sound hh R G C F f h1 ‹_› h2'
        · cases h2'
    all_goals exact norm rfl
  case SetComp => rw [den_setcomp] at h1; cases h1
  case DictComp => rw [den_dictcomp] at h1; cases h1
  all_goals exact norm rfl
end
end Mine


set_option autoImplicit false
set_option linter.unusedVariables false
namespace Mine
open PySem PyProof.Rows PySem.SeqAt

section
variable {cx : Cx} {A : Around} {ι ι' ι'' ι₁ : List Addr} {H H' H1 : AHeap} {s s' : Shared} {env : Env} {sc : Scope} {ns : List Str} {σ σ' : Loc} {P : Pg} {cf : Str → List AV → M AV} {h₁ : Heap}


/-- private objects turn: the frame's state stands -/
theorem FS.privs (f : FS cx env sc ns σ ι H s) {p : Addr → Prop} {h' : Heap} {t : Nat} (hp : ∀ b o, p b → s.heap.get? b = some o → NotData o ∧ (∀ v, o.data ≠ .cell v)) (hb : ∀ b, p b → cx.h₀.get? b = none) (hi : ∀ b, p b → b ∉ ι) (ho : ∀ b, p b → ¬ Own env b)
    (hk : ∀ b o, ¬ p b → s.heap.get? b = some o → h'.get? b = some o) : FS cx env sc ns σ ι H { s with heap := h', toks := t } := by
  have hp' : ∀ b o, p b → s.heap.get? b = some o → NotData o := fun b o h1 h2 => (hp b o h1 h2).1
  have hcell : ∀ n d, env.cells.lookup n = some d → ∀ v, s.heap.IsCell d v → h'.IsCell d v := fun n d hd v ⟨o, ho', hv⟩ => ⟨o, hk d o (fun q => ho d q (.inr ⟨n, hd⟩)) ho', hv⟩
  have hS : St cx ι H { s with heap := h', toks := t } := by
    refine ⟨fun b o e => hk b o (fun q => by rw [hb b q] at e; cases e) (f.S.base b o e), f.S.len, f.S.nodup, f.S.fresh, fun l a o e1 e2 => ?_, f.S.gens, f.S.os, f.S.sysm, fun a ha => ?_⟩
    · have hac : ¬ p a := fun q => hi a q (List.mem_of_getElem? e1)
      have r := f.S.own l a o e1 e2
      cases o with
      | list xs => obtain ⟨vs, n, hl, hz, hs⟩ := r; exact ⟨vs, n, hk a _ hac hl, hz, hs.buts hp' hb hk⟩
      | dict es => obtain ⟨kvs, hd, h1, h2, hs⟩ := r; exact ⟨kvs, DictOf.at' hd (fun o e => hk a o hac e), h1, h2, hs.buts hp' hb hk⟩
    · obtain ⟨h1, h2, vs, n, h3⟩ := f.S.hid a ha
      exact ⟨h1, h2, vs, n, hk a _ (fun q => (hp' _ _ q h3).1 _ _ rfl) h3⟩
  refine ⟨hS, ⟨f.E.kind, f.E.glob, f.E.blt, f.E.notin, f.E.fresh, ?_, ?_, ?_, f.E.klocal, f.E.kcell, f.E.kglob⟩, fun n d hd => ?_⟩
  · obtain ⟨m, hm, hv⟩ := f.E.nsm
    exact ⟨m, hm.at' fun o e => hk _ o (fun q => ho _ q (.inl rfl)) e, fun y i a h1 h2 h3 => by obtain ⟨v, q1, q2⟩ := hv y i a h1 h2 h3; exact ⟨v, q1, q2.buts hp' hb hk⟩⟩
  · intro y i a h1 h2 h3
    obtain ⟨d, v, q1, q2, q3, q4⟩ := f.E.cel y i a h1 h2 h3
    exact ⟨d, v, q1, hcell y d q1 _ q2, q3, q4.buts hp' hb hk⟩
  · intro y h1 h2
    obtain ⟨d, v, q1, q2, q3⟩ := f.E.has y h1 h2
    exact ⟨d, v, q1, hcell y d q1 _ q2, q3⟩
  · obtain ⟨h1, v, h2⟩ := f.cells n d hd
    exact ⟨h1, v, hcell n d hd _ h2⟩

/-- a list that is walked by its own iterator -/
inductive LiR (cx : Cx) (ι : List Addr) (h : Heap) (it : Addr) (i : Nat) (l : Addr) : Src → Prop
  | items {vs : Array Value} {n : Nat} {xs : List AV} : h.IsListIter it l i → IsL h l vs n → (l ∉ ι ∧ l ∉ cx.hid) → VRs cx ι h xs vs.toList → LiR cx ι h it i l (.items xs)
  | at {k : Nat} : h.IsListIter it l i → ι[k]? = some l → LiR cx ι h it i l (.at k)

theorem LiR.iter {h : Heap} {it l : Addr} {i : Nat} {src : Src} (x : LiR cx ι h it i l src) : h.IsListIter it l i := by cases x <;> assumption
theorem LiR.monoO {h h' : Heap} {it l : Addr} {i : Nat} {src : Src} (x : LiR cx ι h it i l src) (hi : it ∉ ι) (ho : ¬ Own env it) (e : ExtO env ι ι' h h') (hp : ∀ b o, Own env b → h.get? b = some o → NotData o) (hb : ∀ b, Own env b → cx.h₀.get? b = none) : LiR cx ι' h' it i l src := by
  cases x with
  | items h1 h2 h3 h4 => exact .items (h1.at fun o q => e.keep _ o q hi ho) (e.keep _ _ h2 h3.1 fun q => (hp _ _ q h2).1 _ _ rfl) ⟨e.notin h2 h3.1, h3.2⟩ (h4.monoO e hp hb)
  | «at» h1 h2 => exact .at (h1.at fun o q => e.keep _ o q hi ho) (prefix_get e.pre h2)

theorem IsListIter.notData {h : Heap} {it l : Addr} {i : Nat} (x : h.IsListIter it l i) : ∀ o, h.get? it = some o → NotData o ∧ (∀ v, o.data ≠ .cell v) := fun o ho => by
  obtain ⟨o', ho', hc, hd⟩ := x
  rw [ho] at ho'; cases ho'
  refine ⟨⟨fun vs n q => ?_, .inr fun q => ?_⟩, fun v q => ?_⟩
  · rw [hd] at q; cases q
  · rw [hc] at q; exact absurd q (by decide)
  · rw [hd] at q; cases q
theorem fields_notData {h : Heap} {a : Addr} {o : Obj} {vs : Array Value} {T : String} (x : h.get? a = some o) (hd : o.data = .fields vs) (hc : o.cls = .type T) (hT : T ≠ "range") : ∀ o, h.get? a = some o → NotData o ∧ (∀ v, o.data ≠ .cell v) := fun o' ho => by
  rw [x] at ho; cases ho
  refine ⟨⟨fun vs n q => ?_, .inr fun q => ?_⟩, fun v q => ?_⟩
  · rw [hd] at q; cases q
  · rw [hc] at q; injection q with q; exact hT q
  · rw [hd] at q; cases q

theorem LiR.list {it l : Addr} {i : Nat} {src : Src} {r : Option AV} (S : St cx ι H s) (x : LiR cx ι s.heap it i l src) (h : src.get i H = some (r, H')) : H' = H ∧ ∃ vs n xs, IsL s.heap l vs n ∧ VRs cx ι s.heap xs vs.toList ∧ r = xs[i]? := by
  cases x with
  | items h1 h2 h3 h4 => obtain ⟨rfl, rfl⟩ := pure_some h; exact ⟨rfl, _, _, _, h2, h4, rfl⟩
  | «at» h1 h2 =>
    simp only [Src.get] at h
    split at h
    · rename_i xs hH
      cases h
      obtain ⟨vs, n, hL, hz, h4⟩ := S.own _ _ _ h2 hH
      exact ⟨rfl, vs, n, xs, hL, h4, rfl⟩
    · cases h
theorem LiR.turn {h h' : Heap} {it l : Addr} {i j : Nat} {src : Src} {p : Addr → Prop} (x : LiR cx ι h it i l src) (hi : h'.IsListIter it l j) (hp : ∀ b o, p b → h.get? b = some o → NotData o) (hb : ∀ b, p b → cx.h₀.get? b = none) (hk : ∀ b o, ¬ p b → h.get? b = some o → h'.get? b = some o) : LiR cx ι h' it j l src := by
  cases x with
  | items h1 h2 h3 h4 => exact .items hi (hk _ _ (fun q => (hp _ _ q h2).1 _ _ rfl) h2) h3 (h4.buts hp hb hk)
  | «at» h1 h2 => exact .at hi h2

theorem LIM_two : 2 ≤ LIM := by decide

theorem enumLoop_sound {tx ty : Str} {px py tp : Pos} {tk : Nat} {body : List Stmt} {en it l : Addr} {src : Src} {bm : AV → Loc → M Res} {r : Res} (hh : A.handled = none) (F : FrS cx env sc) (hio : ¬ Own env it) (heo : ¬ Own env en) (hi0 : cx.h₀.get? it = none) (he0 : cx.h₀.get? en = none)
    (hi1 : h₁.get? it = none) (he1 : h₁.get? en = none) (hne : en ≠ it)
    (hb : ∀ (σ : Loc) (ι : List Addr) (H : AHeap) (s : Shared) (a : AV) (v : Value) (r : Res) (H' : AHeap), FS cx env sc ns σ ι H s → VR cx ι s.heap a v → bm a σ H = some (r, H') →
      wpAny (model cx.prog cx.w) A (assign (.Tuple [.Name tx px, .Name ty py] tk tp) env v) (fun _ s₂ => wpAny (model cx.prog cx.w) A (execs body env) (PostS cx env sc ns ι s.heap r H') noE s₂) noE s)
    (k i : Nat) {old : Value} (f : FS cx env sc ns σ ι H s) (N : IsEnum s.heap en it i old) (J : LiR cx ι s.heap it i l src) (hi : it ∉ ι) (he : en ∉ ι) (X : ExtO env ι₁ ι h₁ s.heap) (h : forLoop (.enum src) bm k i σ H = some (r, H')) :
    codeAny (model cx.prog cx.w) A (.forLoop (.Tuple [.Name tx px, .Name ty py] tk tp) (.ref en) body [] env) (fun res s' => ∃ f, res = .ok f ∧ PostS cx env sc ns ι₁ h₁ r H' f s') s := by
  refine codeAny_forLoop_any (fun k s => ∃ (ι : List Addr) (H : AHeap) (σ : Loc) (i : Nat) (old : Value), FS cx env sc ns σ ι H s ∧ IsEnum s.heap en it i old ∧ LiR cx ι s.heap it i l src ∧ it ∉ ι ∧ en ∉ ι ∧ ExtO env ι₁ ι h₁ s.heap ∧ forLoop (.enum src) bm k i σ H = some (r, H')) ?_ k ⟨ι, H, σ, i, old, f, N, J, hi, he, X, h⟩
  clear f J hi he X h N
  rintro k s ⟨ι, H, σ, i, old, f, N, J, hi, he, X, h⟩
  have hN : s.heap.get? en = some _ := N
  have hpI := IsListIter.notData J.iter
  have hpE : ∀ o, s.heap.get? en = some o → NotData o ∧ (∀ v, o.data ≠ .cell v) := fields_notData hN rfl rfl (by decide)
  have hp : ∀ b o, (b = en ∨ b = it) → s.heap.get? b = some o → NotData o ∧ (∀ v, o.data ≠ .cell v) := fun b o q ho => by
    rcases q with rfl | rfl
    · exact hpE o ho
    · exact hpI o ho
  have hb0 : ∀ b, (b = en ∨ b = it) → cx.h₀.get? b = none := fun b q => by rcases q with rfl | rfl; exact he0; exact hi0
  have hbι : ∀ b, (b = en ∨ b = it) → b ∉ ι := fun b q => by rcases q with rfl | rfl; exact he; exact hi
  have hbo : ∀ b, (b = en ∨ b = it) → ¬ Own env b := fun b q => by rcases q with rfl | rfl; exact heo; exact hio
  cases k with
  | zero => cases h
  | succ k =>
    unfold forLoop at h
    obtain ⟨o, H1, h1, h2⟩ := bind_some h
    obtain ⟨r0, H0, h3, h4⟩ := bind_some h1
    obtain ⟨rfl, rfl⟩ := pure_some h4
    obtain ⟨rfl, vs, n, xs, hL, hV, rfl⟩ := J.list f.S h3
    cases hx : xs[i]? with
    | none =>
      rw [hx] at h2
      obtain ⟨rfl, rfl⟩ := pure_some h2
      refine wpAny_pyNext_enum_end hh N J.iter hL.isList (by rw [Array.getElem?_eq_none_iff]; have := hV.size; rw [List.getElem?_eq_none_iff] at hx; omega) fun h' hext => ?_
      have f1 := f.priv (t := s.toks) hi hi0 (fun q => hio (.inl q.symm)) hpI hext
      exact wpAny_execs_nil ⟨_, rfl, ι, ⟨X.pre, X.news, fun b o e hn ho => hext b o (fun q => by subst q; rw [hi1] at e; cases e) (X.keep b o e hn ho)⟩, rfl, f1⟩
    | some a =>
      rw [hx] at h2
      obtain ⟨r1, H2, h5, h6⟩ := bind_some h2
      obtain ⟨v, hv, rv⟩ := hV.get hx
      refine wpAny_pyNext_enum_item (x := v) N J.iter hL.isList (by rw [← Array.getElem?_toList]; exact hv) hne fun h' hN' hI' hT hsz hk => ?_
      simp only
      refine wpAny_letOwnedTupleGo_enum hN' fun h'' hN'' hsb => ?_
      have hTen : s.heap.objs.size ≠ en := Ne.symm (Nat.ne_of_lt (Heap.lt_size hN))
      have hk2 : ∀ b o, ¬ (b = en ∨ b = it) → s.heap.get? b = some o → h''.get? b = some o := fun b o q e => hsb.extBut b o (fun z => q (.inl z)) (hk b o (fun z => q (.inl z)) (fun z => q (.inr z)) e)
      have hp' : ∀ b o, (b = en ∨ b = it) → s.heap.get? b = some o → NotData o := fun b o q e => (hp b o q e).1
      have f1 := f.privs (t := s.toks + 1) hp hb0 hbι hbo hk2
      have hI'' : h''.IsListIter it l (i + 1) := hI'.at fun o e => hsb.extBut _ o (Ne.symm hne) e
      have hT'' : h''.get? s.heap.objs.size = some { cls := .type "tuple", data := .seq #[.int i s.toks, v] } := hsb.extBut _ _ hTen hT
      have J1 : LiR cx ι h'' it (i + 1) l src := J.turn hI'' hp' hb0 hk2
      have rT : VR cx ι h'' (.tup [.int i, a]) (.ref s.heap.objs.size) := .tup (n := 0) hT'' (f.S.notin (get_size _)) (by have := LIM_two; simpa using this) (.cons (.int _ _) (.cons (rv.buts hp' hb0 hk2) .nil))
      have X1 : ExtO env ι₁ ι h₁ h'' := ⟨X.pre, X.news, fun b o e hn ho => hk2 b o (fun q => by rcases q with rfl | rfl; rw [he1] at e; cases e; rw [hi1] at e; cases e) (X.keep b o e hn ho)⟩
      refine wpAny_mono (hb σ ι _ _ _ _ r1 H2 f1 rT h5) (fun _ s₂ q₂ => ?_) fun _ _ x => x.elim
      refine wpAny_mono q₂ (fun fl s₃ q₃ => ?_) fun _ _ x => x.elim
      have q₃' := q₃
      obtain ⟨ι₃, e3, q⟩ := q₃
      cases r1 with
      | next σ3 =>
        obtain ⟨rfl, f3⟩ := q
        have it3 : it ∉ ι₃ := by
          obtain ⟨oj, hoj, _⟩ := hI''
          exact e3.notin hoj hi
        have en3 : en ∉ ι₃ := e3.notin hN'' he
        refine ⟨k, Nat.lt_succ_self _, ι₃, H2, σ3, i + 1, v, f3, ?_, J1.monoO hi hio e3 f1.ownNot F.base, it3, en3, X1.trans e3 f3.own, h6⟩
        have : IsEnum s₃.heap en it ((i : Int) + 1) v := e3.keep _ _ hN'' he heo
        rw [show ((i + 1 : Nat) : Int) = (i : Int) + 1 by omega]; exact this
      | ret w =>
        obtain ⟨v', rfl, _⟩ := q
        obtain ⟨rfl, rfl⟩ := pure_some h6
        exact ⟨_, rfl, PostS.trans (s := { s with heap := h'', toks := s.toks + 1 }) X1 q₃'⟩
end
end Mine


set_option autoImplicit false
set_option linter.unusedVariables false
namespace Mine
open PySem PyProof.Rows PySem.SeqAt

section
variable {cx : Cx} {A : Around} {ι ι' ι'' ι₁ : List Addr} {H H' H1 : AHeap} {s s' : Shared} {env : Env} {sc : Scope} {ns : List Str} {σ σ' : Loc} {P : Pg} {cf : Str → List AV → M AV} {h₁ : Heap}

theorem enumFor_sound {tx ty f : Str} {px py tp fp cp p : Pos} {tk : Nat} {e : Expr} {body : List Stmt} {bm : AV → Loc → M Res} {r : Res} {ev : Expr → M AV} (hh : A.handled = none) (G : Good cx P) (F : FrS cx env sc) (fs : FS cx env sc ns σ ι H s)
    (hev : EvOK cx A env (EnvR cx env sc ns σ) ev) (hne : ∀ x p, e ≠ .Starred x p) (hf : f = ("enumerate" : Str) ∧ isGlob sc f = true)
    (hb : ∀ (σ : Loc) (ι : List Addr) (H : AHeap) (s : Shared) (a : AV) (v : Value) (r : Res) (H' : AHeap), FS cx env sc ns σ ι H s → VR cx ι s.heap a v → bm a σ H = some (r, H') →
      wpAny (model cx.prog cx.w) A (assign (.Tuple [.Name tx px, .Name ty py] tk tp) env v) (fun _ s₂ => wpAny (model cx.prog cx.w) A (execs body env) (PostS cx env sc ns ι s.heap r H') noE s₂) noE s)
    (h : (do let v ← ev e; let _ ← listOf v; let src ← srcOf v; forLoop (.enum src) bm FUEL 0 σ : M Res) H = some (r, H')) :
    wpAny (model cx.prog cx.w) A (exec (.For (.Tuple [.Name tx px, .Name ty py] tk tp) (.Call (.Name f fp) [e] [] cp) body [] p) env) (PostS cx env sc ns ι s.heap r H') noE s := by
  obtain ⟨rfl, hg⟩ := hf
  obtain ⟨a, H1, h1, h2⟩ := bind_some h
  obtain ⟨xs, H2, h3, h4⟩ := bind_some h2
  obtain ⟨src, H3, h5, h6⟩ := bind_some h4
  have htr : backTo cp (starEach [e] env) = [(false, eval e env)] := by rw [starEach_cons hne]; rfl
  refine wpAny_For (Call_Name htr (load_bi G fs.S fs.E hg (by decide) G.enum ?_))
  refine PyProof.Rows.callWith_type rfl (Calls.evalArgs_plain (Calls.spliced_cons (wpAny_mono (hev e ι H s a H1 fs.S fs.E h1) (fun v s₁ q₁ => Calls.spliced_nil ?_) fun _ _ x => x)))
  obtain ⟨ι₁, e1, S₁, r1⟩ := q₁
  have f1 := fs.mono e1 S₁
  obtain ⟨rfl, l, vs, n, rfl, hL, hz, hV⟩ := listOf_sound S₁ h3 r1
  show wpAny _ _ (PySem.call (.type "enumerate") [.ref l]) _ _ _
  refine call_enumerate_list hL.isList fun h' hN hI hsz hk => ?_
  have hn1 : s₁.heap.get? s₁.heap.objs.size = none := get_size _
  have hn2 : s₁.heap.get? (s₁.heap.objs.size + 1) = none := Heap.get?_none_of_le (Nat.le_succ _)
  have e2 : Ext ι₁ ι₁ s₁.heap h' := Ext.keeps hk
  have S₂ : St cx ι₁ H2 { s₁ with heap := h' } := S₁.keeps (t := s₁.toks) hk
  have f2 := f1.mono (s' := { s₁ with heap := h' }) e2 S₂
  have hown : ∀ b, s₁.heap.get? b = none → ¬ Own env b := fun b hb q => by
    rcases q with q | ⟨nn, q⟩
    · obtain ⟨_, ⟨o, _, _, ho, _⟩, _⟩ := f1.E.nsm
      rw [← q, hb] at ho; cases ho
    · obtain ⟨_, v, o, ho, _⟩ := f1.cells nn b q
      rw [hb] at ho; cases ho
  have J : H3 = H2 ∧ LiR cx ι₁ h' s₁.heap.objs.size 0 l src := by
    cases r1 with
    | tup _ _ _ _ => cases h3
    | lst g1 g2 g3 g4 =>
      simp only [srcOf, Option.some.injEq, Prod.mk.injEq] at h5
      obtain ⟨rfl, rfl⟩ := h5
      exact ⟨rfl, .items hI (hk _ _ g1) g2 (g4.mono e2)⟩
    | loc hl =>
      simp only [srcOf] at h5
      split at h5
      · cases h5; exact ⟨rfl, .at hI hl⟩
      · cases h5
    | range _ _ => cases h3
    | cdict _ _ _ _ _ => cases h3
  obtain ⟨rfl, J⟩ := J
  refine wpAny_pyIter_enum hN ?_
  refine codeAny_mono (enumLoop_sound (ι₁ := ι₁) (h₁ := s₁.heap) hh F (hown _ hn1) (hown _ hn2) (S₁.base_none hn1) (S₁.base_none hn2) hn1 hn2 (Nat.succ_ne_self _) hb FUEL 0 f2 hN J (S₁.notin hn1) (S₁.notin hn2) e2.toO h6) fun res s' q => ?_
  obtain ⟨fl, rfl, q⟩ := q
  exact PostS.trans (s := s₁) e1.toO q

theorem seq_sound {st : Stmt} {rest : List Stmt} {m : Loc → M Res} {r r' : Res} (F : FrS cx env sc)
    (hst : wpAny (model cx.prog cx.w) A (exec st env) (PostS cx env sc ns ι s.heap r H1) noE s)
    (hm : ∀ (σ : Loc) (ι : List Addr) (H : AHeap) (s : Shared) (r : Res) (H' : AHeap), FS cx env sc ns σ ι H s → m σ H = some (r, H') → wpAny (model cx.prog cx.w) A (execs rest env) (PostS cx env sc ns ι s.heap r H') noE s)
    (h : goOn m r H1 = some (r', H')) : wpAny (model cx.prog cx.w) A (execs (st :: rest) env) (PostS cx env sc ns ι s.heap r' H') noE s := by
  refine execs_cons (wpAny_mono hst (fun fl s₁ q => ?_) fun _ _ x => x)
  have q0 := q
  obtain ⟨ι₁, e1, q1⟩ := q
  cases r with
  | next σ1 =>
    obtain ⟨rfl, f1⟩ := q1
    exact wpAny_mono (hm σ1 ι₁ H1 s₁ r' H' f1 h) (fun fl s₂ q₂ => q₂.trans e1) fun _ _ x => x
  | ret a =>
    obtain ⟨v, rfl, q2⟩ := q1
    obtain ⟨rfl, rfl⟩ := pure_some h
    exact q0

theorem enumArg_of {it e : Expr} (h : enumArg sc it = some e) : ∃ f fp cp, it = .Call (.Name f fp) [e] [] cp ∧ f = ("enumerate" : Str) ∧ isGlob sc f = true := by
  unfold enumArg at h
  cases hc : callOf it with
  | none => simp only [hc] at h; cases h
  | some q =>
    obtain ⟨f, as⟩ := q
    simp only [hc] at h
    obtain ⟨fp, p, rfl⟩ := callOf_of hc
    match as, h with
    | [x], h =>
      have h' : (if f = ("enumerate" : Str) ∧ isGlob sc f = true then some x else none) = some e := h
      split at h'
      · rename_i hf
        cases h'
        exact ⟨f, fp, p, rfl, hf.1, hf.2⟩
      · cases h'
    | [], h => cases h
    | _ :: _ :: _, h => cases h

section
variable {n : Nat} {r : Res} (hh : A.handled = none) (R : Room A) (G : Good cx P) (C : CallOK cx A cf) (F : FrS cx env sc)
include hh R G C F

theorem bAssign_sound {m : Loc → M Res} {rest : List Stmt} {e t : Expr} {p : Pos} (f : FS cx env sc ns σ ι H s)
    (hm : ∀ (σ : Loc) (ι : List Addr) (H : AHeap) (s : Shared) (r : Res) (H' : AHeap), FS cx env sc ns σ ι H s → m σ H = some (r, H') → wpAny (model cx.prog cx.w) A (execs rest env) (PostS cx env sc ns ι s.heap r H') noE s)
    (h : bAssign (den P cf n sc ns σ) sc ns m σ e t H = some (r, H')) : wpAny (model cx.prog cx.w) A (execs (.Assign [t] e p :: rest) env) (PostS cx env sc ns ι s.heap r H') noE s := by
  have one : ∀ {σ1 : Loc} {H1 : AHeap}, wpAny (model cx.prog cx.w) A (exec (.Assign [t] e p) env) (PostS cx env sc ns ι s.heap (.next σ1) H1) noE s → m σ1 H1 = some (r, H') → wpAny (model cx.prog cx.w) A (execs (.Assign [t] e p :: rest) env) (PostS cx env sc ns ι s.heap r H') noE s :=
    fun h1 h2 => seq_sound (m := m) F h1 hm h2
  cases t with
  | Name x q =>
    have h' : (if isLocal sc x then (do let v ← den P cf n sc ns σ e; let σ' ← setN ns x v σ; m σ') else stuck : M Res) H = some (r, H') := h
    split at h'
    · rename_i hx
      obtain ⟨a, H1, h1, h2⟩ := bind_some h'
      obtain ⟨σ1, H2, h3, h4⟩ := bind_some h2
      refine one (assignStmt_sound (n := n) hh R G C F f (fun q => by cases q) h1 ?_) h4
      show (if isLocal sc _ = true then setN ns _ a σ else stuck : M Loc) H1 = _
      rw [if_pos hx]; exact h3
    · exact (stuck_some (H := H) h').elim
  | Subscript o i q =>
    obtain ⟨a, H1, h1, h2⟩ := bind_some (show (do let v ← den P cf n sc ns σ e; let ov ← den P cf n sc ns σ o; let iv ← den P cf n sc ns σ i; pStore ov iv v; m σ : M Res) H = some (r, H') from h)
    obtain ⟨ov, H2, h3, h4⟩ := bind_some h2
    obtain ⟨iv, H3, h5, h6⟩ := bind_some h4
    obtain ⟨u, H4, h7, h8⟩ := bind_some h6
    exact one (assignStmt_sound (n := n) (σ' := σ) (H' := H4) hh R G C F f (fun q => by cases q) h1 (bind_of h3 (bind_of h5 (bind_of h7 rfl)))) h8
  | Tuple es k q =>
    have h' : (match pairN es with | some (x, y) => (if isTupE e || !isLocal sc x.1 || !isLocal sc y.1 then stuck else (do let v ← den P cf n sc ns σ e; let p ← pairOf v; let σ1 ← setN ns x.1 p.1 σ; let σ2 ← setN ns y.1 p.2 σ1; m σ2)) | none => stuck : M Res) H = some (r, H') := h
    cases hp : pairN es with
    | none => simp only [hp] at h'; exact (stuck_some (H := H) h').elim
    | some xy =>
      obtain ⟨⟨x, px⟩, y, py⟩ := xy
      simp only [hp] at h'
      split at h'
      · exact (stuck_some (H := H) h').elim
      · rename_i hc
        have hc := Bool.eq_false_iff.mpr hc
        simp only [Bool.or_eq_false_iff, Bool.not_eq_false'] at hc
        obtain ⟨a, H1, h1, h2⟩ := bind_some h'
        obtain ⟨pr, H2, h3, h4⟩ := bind_some h2
        obtain ⟨σ1, H3, h5, h6⟩ := bind_some h4
        obtain ⟨σ2, H4, h7, h8⟩ := bind_some h6
        have hes := pairN_of hp
        subst hes
        refine one (assignStmt_sound (n := n) hh R G C F f (fun _ => hc.1.1) h1 ?_) h8
        unfold pairOf at h3
        split at h3
        · obtain ⟨rfl, rfl⟩ := pure_some h3
          show (if (isLocal sc x && isLocal sc y) = true then (do let σ ← setN ns x _ σ; setN ns y _ σ) else stuck : M Loc) _ = _
          rw [if_pos (by rw [hc.1.2, hc.2]; rfl)]
          exact bind_of h5 h7
        · cases h3
  | _ => exact (stuck_some (H := H) h).elim

theorem bFor_sound {m : Loc → M Res} {bm : Loc → M Res} {rest body : List Stmt} {t it : Expr} {p : Pos} (f : FS cx env sc ns σ ι H s)
    (hb : ∀ (σ : Loc) (ι : List Addr) (H : AHeap) (s : Shared) (r : Res) (H' : AHeap), FS cx env sc ns σ ι H s → bm σ H = some (r, H') → wpAny (model cx.prog cx.w) A (execs body env) (PostS cx env sc ns ι s.heap r H') noE s)
    (hm : ∀ (σ : Loc) (ι : List Addr) (H : AHeap) (s : Shared) (r : Res) (H' : AHeap), FS cx env sc ns σ ι H s → m σ H = some (r, H') → wpAny (model cx.prog cx.w) A (execs rest env) (PostS cx env sc ns ι s.heap r H') noE s)
    (h : bFor (fun σ e => den P cf n sc ns σ e) sc ns bm m σ t it H = some (r, H')) : wpAny (model cx.prog cx.w) A (execs (.For t it body [] p :: rest) env) (PostS cx env sc ns ι s.heap r H') noE s := by
  have hden := fun σ => den_sound (P := P) (cf := cf) hh R n cx G C env sc ns σ
  have turn : ∀ (t : Expr) (σ : Loc) (ι : List Addr) (H : AHeap) (s : Shared) (a : AV) (v : Value) (r : Res) (H' : AHeap), FS cx env sc ns σ ι H s → VR cx ι s.heap a v → (do let σ' ← assignTo (fun σ e => den P cf n sc ns σ e) sc ns a σ t; bm σ' : M Res) H = some (r, H') →
      wpAny (model cx.prog cx.w) A (assign t env v) (fun _ s₂ => wpAny (model cx.prog cx.w) A (execs body env) (PostS cx env sc ns ι s.heap r H') noE s₂) noE s := by
    intro t σ ι H s a v r H' f rv h
    obtain ⟨σ1, H1, g1, g2⟩ := bind_some h
    refine wpAny_mono (assign_sound hh R G C F f rv g1) (fun _ s₂ q₂ => ?_) fun _ _ x => x
    obtain ⟨ι₂, f2, e2⟩ := q₂
    exact wpAny_mono (hb σ1 ι₂ H1 s₂ r H' f2 g2) (fun fl s₃ q₃ => q₃.trans e2) fun _ _ x => x
  cases t with
  | Name x px =>
    have h' : (if noSet it then stuck else (do let v ← den P cf n sc ns σ it; let src ← srcOf v; let r ← forLoop src (fun v σ => (do let σ' ← assignTo (fun σ e => den P cf n sc ns σ e) sc ns v σ (.Name x px); bm σ')) FUEL 0 σ; goOn m r) : M Res) H = some (r, H') := h
    split at h'
    · exact (stuck_some (H := H) h').elim
    · rename_i hset
      have hset := Bool.eq_false_iff.mpr hset
      obtain ⟨a, H1, h1, h2⟩ := bind_some h'
      obtain ⟨src, H2, h3, h4⟩ := bind_some h2
      obtain ⟨r1, H3, h5, h6⟩ := bind_some h4
      refine seq_sound (r := r1) (H1 := H3) (m := m) F ?_ hm h6
      refine wpAny_For (wpAny_mono (hden σ _ ι H s a _ f.S f.E h1) (fun v s₁ q₁ => ?_) fun _ _ x => x) (noSet_pure hset)
      obtain ⟨ι₁, e1, S₁, r1'⟩ := q₁
      have f1 := f.mono e1 S₁
      obtain ⟨rfl, hit⟩ := iter_sound (A := A) (E := noE) S₁ r1' h3
      refine wpAny_mono hit (fun w s₂ q₂ => ?_) fun _ _ x => x
      obtain ⟨ia, h2', rfl, rfl, hk2, hian, J2⟩ := q₂
      have e2 : Ext ι₁ ι₁ s₁.heap h2' := Ext.keeps hk2
      have f2 := f1.mono (s' := { s₁ with heap := h2' }) e2 (S₁.keeps (t := s₁.toks) hk2)
      have hown : ¬ Own env ia := fun q => by
        rcases q with q | ⟨nn, q⟩
        · obtain ⟨_, ⟨o, _, _, ho, _⟩, _⟩ := f1.E.nsm
          rw [← q, hian] at ho; cases ho
        · obtain ⟨_, v, o, ho, _⟩ := f1.cells nn ia q
          rw [hian] at ho; cases ho
      refine codeAny_mono (for_sound (ι₁ := ι₁) (h₁ := s₁.heap) hh F hown (S₁.base_none hian) hian (turn _) FUEL 0 f2 J2 (S₁.notin hian) e2.toO h5) fun res s' q => ?_
      obtain ⟨fl, rfl, q⟩ := q
      exact PostS.trans (s := s₁) e1.toO q
  | Tuple es k pt =>
    have h' : (match pairN es with | some (x, y) => (match enumArg sc it with | some e => (do let v ← den P cf n sc ns σ e; let _ ← listOf v; let src ← srcOf v; let r ← forLoop (.enum src) (fun v σ => (do let σ' ← assignTo (fun σ e => den P cf n sc ns σ e) sc ns v σ (.Tuple [.Name x.1 x.2, .Name y.1 y.2] k pt); bm σ')) FUEL 0 σ; goOn m r) | none => stuck) | none => stuck : M Res) H = some (r, H') := h
    cases hp : pairN es with
    | none => simp only [hp] at h'; exact (stuck_some (H := H) h').elim
    | some xy =>
      obtain ⟨⟨x, px⟩, y, py⟩ := xy
      simp only [hp] at h'
      cases he : enumArg sc it with
      | none => simp only [he] at h'; exact (stuck_some (H := H) h').elim
      | some e =>
        simp only [he] at h'
        have hes := pairN_of hp
        subst hes
        obtain ⟨fn, fp, cp, rfl, hf⟩ := enumArg_of he
        obtain ⟨a, H1, h1, h2⟩ := bind_some h'
        obtain ⟨xs, H2, h3, h4⟩ := bind_some h2
        obtain ⟨src, H3, h5, h6⟩ := bind_some h4
        obtain ⟨r1, H4, h7, h8⟩ := bind_some h6
        refine seq_sound (r := r1) (H1 := H4) (m := m) F ?_ hm h8
        exact enumFor_sound hh G F f (hden σ) (fun z q w => by subst w; rw [den_starred] at h1; cases h1) hf (turn _) (bind_of h1 (bind_of h3 (bind_of h5 h7)))
  | _ => exact (stuck_some (H := H) h).elim
end

theorem denB_sound (hh : A.handled = none) (R : Room A) (G : Good cx P) (C : CallOK cx A cf) (F : FrS cx env sc) : ∀ (n : Nat) (body : List Stmt) (σ : Loc) (ι : List Addr) (H : AHeap) (s : Shared) (r : Res) (H' : AHeap), FS cx env sc ns σ ι H s →
    denB P cf sc ns n body σ H = some (r, H') → wpAny (model cx.prog cx.w) A (execs body env) (PostS cx env sc ns ι s.heap r H') noE s
  | n, [], σ, ι, H, s, r, H', f, h => by
    have h' : (pure (.next σ) : M Res) H = some (r, H') := by cases n <;> exact h
    obtain ⟨rfl, rfl⟩ := pure_some h'
    exact wpAny_execs_nil ⟨ι, ExtO.refl, rfl, f⟩
  | 0, _ :: _, σ, ι, H, s, r, H', f, h => (stuck_some (H := H) h).elim
  | n + 1, st :: rest, σ, ι, H, s, r, H', f, h => by
    have ih := denB_sound hh R G C F n
    have hden := fun σ => den_sound (P := P) (cf := cf) hh R n cx G C env sc ns σ
    have ihr := fun σ ι H s r H' => ih rest σ ι H s r H'
    cases st with
    | Pass p => exact seq_sound (m := denB P cf sc ns n rest) (r := .next σ) F (wpAny_Pass ⟨ι, ExtO.refl, rfl, f⟩) ihr h
    | Return v p =>
      cases v with
      | none =>
        obtain ⟨rfl, rfl⟩ := pure_some (show (pure (.ret .none) : M Res) H = some (r, H') from h)
        exact execs_cons (wpAny_Return_none ⟨ι, ExtO.refl, _, rfl, f.S, f.own, .none⟩)
      | some e =>
        obtain ⟨a, H1, h1, h2⟩ := bind_some (show (do let v ← den P cf n sc ns σ e; pure (.ret v) : M Res) H = some (r, H') from h)
        obtain ⟨rfl, rfl⟩ := pure_some h2
        refine execs_cons (wpAny_Return_some (wpAny_mono (hden σ _ ι H s a _ f.S f.E h1) (fun v s₁ q₁ => ?_) fun _ _ x => x))
        obtain ⟨ι₁, e1, S₁, r1⟩ := q₁
        exact ⟨ι₁, e1.toO, v, rfl, S₁, (f.mono e1 S₁).own, r1⟩
    | Expr e p =>
      have h' : (if noComp e then (do let _ ← den P cf n sc ns σ e; denB P cf sc ns n rest σ) else stuck : M Res) H = some (r, H') := h
      split at h'
      · obtain ⟨a, H1, h1, h2⟩ := bind_some h'
        refine seq_sound (m := denB P cf sc ns n rest) (r := .next σ) F (expr_sound (hden σ) f ‹_› (fun a b c d e' q => ?_) (fun a b c d q => ?_) h1) ihr h2
        · subst q; rw [den_dictcomp] at h1; cases h1
        · subst q; rw [den_setcomp] at h1; cases h1
      · exact (stuck_some (H := H) h').elim
    | Assign ts e p =>
      match ts, h with
      | [t], h => exact bAssign_sound hh R G C F f ihr h
      | [], h => exact (stuck_some (H := H) h).elim
      | _ :: _ :: _, h => exact (stuck_some (H := H) h).elim
    | If t b o p =>
      obtain ⟨c, H1, h1, h2⟩ := bind_some (show (do let c ← denT (den P cf n sc ns σ) n t; match c with | true => (do let r ← denB P cf sc ns n b σ; goOn (denB P cf sc ns n rest) r) | false => (do let r ← denB P cf sc ns n o σ; goOn (denB P cf sc ns n rest) r) : M Res) H = some (r, H') from h)
      have hbr : ∃ r1 H2, denB P cf sc ns n (if c then b else o) σ H1 = some (r1, H2) ∧ goOn (denB P cf sc ns n rest) r1 H2 = some (r, H') := by
        cases c with
        | true => exact bind_some h2
        | false => exact bind_some h2
      obtain ⟨r1, H2, h3, h4⟩ := hbr
      refine seq_sound (r := r1) (H1 := H2) (m := denB P cf sc ns n rest) F ?_ ihr h4
      rw [arm_exec_If]
      refine wpAny_bind (wpAny_standAt (wpAny_bind (wpAny_mono (denT_sound R (den_set n _ _ _) (den_ifexp n _ _ _) EnvR.stable (hden σ) n _ ι H s c H1 f.S f.E h1) (fun c' s₁ q₁ => ?_) fun _ _ x => x)))
      obtain ⟨rfl, ι₁, e1, S₁⟩ := q₁
      cases c' with
      | true => exact wpAny_mono (ih _ σ ι₁ H1 s₁ r1 H2 (f.mono e1 S₁) h3) (fun fl s₂ q₂ => q₂.trans e1.toO) fun _ _ x => x
      | false => exact wpAny_mono (ih _ σ ι₁ H1 s₁ r1 H2 (f.mono e1 S₁) h3) (fun fl s₂ q₂ => q₂.trans e1.toO) fun _ _ x => x
    | For t it b o p =>
      cases o with
      | nil => exact bFor_sound hh R G C F f (fun σ ι H s r H' => ih b σ ι H s r H') ihr h
      | cons _ _ => exact (stuck_some (H := H) h).elim
    | While t b o p =>
      cases o with
      | nil =>
        obtain ⟨r1, H1, h1, h2⟩ := bind_some (show (do let r ← whileLoop (fun σ => denT (den P cf n sc ns σ) n t) (denB P cf sc ns n b) FUEL σ; goOn (denB P cf sc ns n rest) r : M Res) H = some (r, H') from h)
        refine seq_sound (r := r1) (H1 := H1) (m := denB P cf sc ns n rest) F ?_ ihr h2
        refine wpAny_While (codeAny_mono (while_sound (ι₁ := ι) (h₁ := s.heap) F ?_ ?_ FUEL f ExtO.refl h1) fun res s' q => ?_)
        · intro σ ι H s c H' f h
          exact denT_sound R (den_set n _ _ _) (den_ifexp n _ _ _) EnvR.stable (hden σ) n _ ι H s c H' f.S f.E h
        · intro σ ι H s r H' f h
          exact ih _ σ ι H s r H' f h
        · obtain ⟨fl, rfl, q⟩ := q
          exact q
      | cons _ _ => exact (stuck_some (H := H) h).elim
    | _ => exact (stuck_some (H := H) h).elim
end
end Mine


set_option autoImplicit false
set_option linter.unusedVariables false
namespace Mine
open PySem PyProof.Rows PySem.SeqAt

structure FnOK (cx : Cx) (f : Str) (fn : Fn) : Prop where
  nd : (f == ("__debug__" : Str)) = false
  chk : fnChk fn = true
  obj : ∃ fa o pm cd doc params, cx.mg f = some (.ref fa) ∧ cx.h₀.get? fa = some o ∧ o.data = .func (Calls.docDef f params fn.body fn.scope pm cd doc) ∧ cx.h₀.CodeRec cd f ∧
    (∀ vs : List Value, vs.length = fn.params.length → bindArgs (Calls.docDef f params fn.body fn.scope pm cd doc) ⟨vs, []⟩ = pure (fn.params.zip vs))

section
variable {cx : Cx} {A : Around} {ι ι' : List Addr} {H H' : AHeap} {s s' : Shared} {P : Pg}

theorem cellsFrom_acc {x : Str} : ∀ (names : List (Str × NameKind)) (n : Nat) (acc : List (Str × Addr)), (acc.lookup x).isSome = true → ((cellsFrom n names acc).lookup x).isSome = true
  | [], _, _, h => h
  | (y, k) :: r, n, acc, h => by
    unfold cellsFrom
    split
    · refine cellsFrom_acc r (n + 1) _ ?_
      rw [List.lookup_cons]
      cases hb : x == y with
      | true => rfl
      | false => exact h
    · exact cellsFrom_acc r n acc h
theorem cellsFrom_has {x : Str} : ∀ (names : List (Str × NameKind)) (n : Nat) (acc : List (Str × Addr)), names.lookup x = some .cell → ((cellsFrom n names acc).lookup x).isSome = true
  | [], _, _, h => by cases h
  | (y, k) :: r, n, acc, h => by
    rw [List.lookup_cons] at h
    unfold cellsFrom
    cases hb : x == y with
    | true =>
      rw [hb] at h
      cases h
      simp only [beq_self_eq_true, if_true]
      exact cellsFrom_acc r (n + 1) _ (by rw [List.lookup_cons, hb]; rfl)
    | false =>
      rw [hb] at h
      split
      · exact cellsFrom_has r (n + 1) _ h
      · exact cellsFrom_has r n acc h

theorem bindL_other {kd : Str → Option NameKind} {x : Str} : ∀ (b : List (Str × Value)) (m : Str → Option Value), x ∉ b.map (·.1) → bindL kd b m x = m x
  | [], _, _ => rfl
  | (y, v) :: r, m, h => by
    have h1 : x ≠ y := fun q => h (by rw [q]; exact List.mem_cons_self)
    have h2 : x ∉ r.map (·.1) := fun q => h (List.mem_cons_of_mem _ q)
    unfold bindL
    rw [bindL_other r _ h2]
    split
    · simp [h1]
    · rfl
theorem bindL_get {kd : Str → Option NameKind} {x : Str} {v : Value} (hk : kd x = some .local) : ∀ (b : List (Str × Value)) (m : Str → Option Value), (b.map (·.1)).Nodup → (x, v) ∈ b → bindL kd b m x = some v
  | [], _, _, h => by cases h
  | (y, w) :: r, m, hn, h => by
    rw [List.map_cons, List.nodup_cons] at hn
    unfold bindL
    rcases List.mem_cons.mp h with q | q
    · cases q
      rw [bindL_other r _ hn.1, if_pos hk]; simp
    · exact bindL_get hk r _ hn.2 q
theorem bindC_other {kd : Str → Option NameKind} {x : Str} : ∀ (b : List (Str × Value)) (m : Str → Option Value), x ∉ b.map (·.1) → bindC kd b m x = m x
  | [], _, _ => rfl
  | (y, v) :: r, m, h => by
    have h1 : x ≠ y := fun q => h (by rw [q]; exact List.mem_cons_self)
    have h2 : x ∉ r.map (·.1) := fun q => h (List.mem_cons_of_mem _ q)
    unfold bindC
    rw [bindC_other r _ h2]
    split
    · rfl
    · simp [h1]
theorem bindC_get {kd : Str → Option NameKind} {x : Str} {v : Value} (hk : ¬ kd x = some .local) : ∀ (b : List (Str × Value)) (m : Str → Option Value), (b.map (·.1)).Nodup → (x, v) ∈ b → bindC kd b m x = some v
  | [], _, _, h => by cases h
  | (y, w) :: r, m, hn, h => by
    rw [List.map_cons, List.nodup_cons] at hn
    unfold bindC
    rcases List.mem_cons.mp h with q | q
    · cases q
      rw [bindC_other r _ hn.1, if_neg hk]; simp
    · exact bindC_get hk r _ hn.2 q

theorem zip_fst {α β : Type} : ∀ {xs : List α} {ys : List β}, xs.length = ys.length → (xs.zip ys).map (·.1) = xs
  | [], [], _ => rfl
  | [], _ :: _, h => by cases h
  | _ :: _, [], h => by cases h
  | k :: ks, a :: as, h => by simp [zip_fst (by simpa using h : ks.length = as.length)]

/-- the names that hold arguments -/
theorem args_at {fn : Fn} {as : List AV} {vs : List Value} {h : Heap} {x : Str} {i : Nat} {a : AV} (ht : fn.names.take fn.params.length = fn.params) (hl : as.length = fn.params.length) (r : VRs cx ι h as vs) (h1 : fn.names.idxOf? x = some i)
    (h2 : (as.map some ++ List.replicate (fn.names.length - as.length) none : Loc)[i]? = some (some a)) : ∃ v, (x, v) ∈ fn.params.zip vs ∧ VR cx ι h a v := by
  have hi : i < as.length := by
    rcases Nat.lt_or_ge i as.length with q | q
    · exact q
    · rw [List.getElem?_append_right (by simpa using q)] at h2
      rw [List.getElem?_replicate] at h2
      split at h2 <;> cases h2
  rw [List.getElem?_append_left (by simpa using hi), List.getElem?_map] at h2
  have ha : as[i]? = some a := by
    cases q : as[i]? with
    | none => rw [q] at h2; cases h2
    | some b => rw [q] at h2; cases h2; rfl
  obtain ⟨v, hv, rv⟩ := r.get ha
  refine ⟨v, ?_, rv⟩
  have hx : fn.names[i]? = some x := by
    rw [List.idxOf?, List.findIdx?_eq_some_iff_getElem] at h1
    obtain ⟨a1, b1, _⟩ := h1
    rw [List.getElem?_eq_getElem a1, beq_iff_eq.mp b1]
  have hpx : fn.params[i]? = some x := by
    rw [← ht, List.getElem?_take, if_pos (by omega)]; exact hx
  have hz : (fn.params.zip vs)[i]? = some (x, v) := by
    rw [List.getElem?_zip_eq_some]; exact ⟨hpx, hv⟩
  exact List.mem_of_getElem? hz

theorem callP_sound (hP : ∀ f fn, P.fn f = some fn → FnOK cx f fn) (G : Good cx P) : ∀ (n : Nat) (A : Around), A.handled = none → A.units + 3 * n + 100 < cLine → A.depth + n < recursionLimit → CallOK cx A (callP P n)
  | 0, A, _, _, _ => fun hid f as H a H' h => by cases h
  | n + 1, A, hh, hu, hd => fun hid f as H a H' h => by
    unfold callP at h
    cases hf : P.fn f with
    | none => rw [hf] at h; cases h
    | some fn =>
      rw [hf] at h
      simp only at h
      obtain ⟨nd, chk, fa, o, pm, cd, doc, params, q1, q2, q3, q4, q5⟩ := hP f fn hf
      refine ⟨nd, fa, o, _, q1, q2, q3, fun ι s vs S r => ?_⟩
      split at h
      · rename_i hlen
        obtain ⟨res, H1, h1, h2⟩ := bind_some h
        unfold fnChk at chk
        simp only [Bool.and_eq_true, Bool.not_eq_true', beq_iff_eq, decide_eq_true_eq, List.all_eq_true, Bool.or_eq_true] at chk
        obtain ⟨⟨⟨⟨⟨⟨k1, k2⟩, k3⟩, k4⟩, k5⟩, k6⟩, k7⟩ := chk
        have hvl : vs.length = fn.params.length := by rw [← r.length]; exact hlen
        have hzf : (fn.params.zip vs).map (·.1) = fn.params := zip_fst hvl.symm
        have hmem : ∀ z ∈ fn.params.zip vs, z.1 ∈ fn.params := fun z hz => by rw [← hzf]; exact List.mem_map_of_mem hz
        refine wpAny_call ?_
        refine call_cells_ret (binds := fn.params.zip vs) (by omega) (S.base _ _ q2) q3 (G.nolim.keeps S.base) (q4.keeps S.base) (q5 vs hvl) (fun z hz => ?_) (fun h₁ tk Fr Cl => ?_) k2 k3 k1
        · rcases k7 z.1 (hmem z hz) with q | q
          · exact .inl q
          · exact .inr ⟨q, cellsFrom_has _ _ _ q⟩
        · generalize henv : envOfC f fn.scope s.heap.objs.size fa cd = env at Fr Cl ⊢
          have hloc : env.locals = s.heap.objs.size := by rw [← henv]; rfl
          have hcs : env.cells = cellsFrom (s.heap.objs.size + 1) fn.scope.names [] := by rw [← henv]; rfl
          have hscp : env.scope = fn.scope := by rw [← henv]; rfl
          have hkd : ∀ y, env.kindOf y = fn.scope.names.lookup y := fun y => by rw [← henv]; rfl
          have hfresh : ∀ b, s.heap.objs.size ≤ b → s.heap.get? b = none := fun b hb => Heap.get?_none_of_le hb
          have hkeep := Fr.keep
          have S1 : St { cx with hid := hid } ι H { s with heap := h₁, toks := tk } := S.keeps hkeep
          have e1 : Ext ι ι s.heap h₁ := Ext.keeps hkeep
          have hcN : ∀ nn c, env.cells.lookup nn = some c → s.heap.get? c = none := fun nn c hc => by
            rw [hcs] at hc
            exact hfresh c (Nat.le_of_lt (Cl.above nn c (mem_of_lookup hc)))
          have hlN : s.heap.get? env.locals = none := by rw [hloc]; exact hfresh _ (Nat.le_refl _)
          have F : FrS { cx with hid := hid } env fn.scope := ⟨hscp, S.base_none hlN, fun nn c hc => S.base_none (hcN nn c hc), fun nn n' c a1 a2 => by
              rw [hcs] at a1 a2; exact name_of_addr Cl.apart (mem_of_lookup a1) (mem_of_lookup a2), fun x hx => by
              unfold isLocal at hx
              cases hl : fn.scope.names.lookup x with
              | none => rw [hl] at hx; cases hx
              | some k =>
                have := k4 _ (lookup_mem hl)
                rcases this with (q | q) | q
                · simp only at q; subst q; exact .inl rfl
                · simp only at q; subst q; exact .inr rfl
                · simp only at q; subst q; rw [hl] at hx; cases hx⟩
          have G' : Good { cx with hid := hid } P := ⟨G.g, G.b, G.nolim, G.glob, G.bi, G.isi, G.ty, G.zip, G.enum⟩
          have E1 : EnvR { cx with hid := hid } env fn.scope fn.names (as.map some ++ List.replicate (fn.names.length - as.length) none) ι h₁ := by
            refine ⟨by rw [hscp]; exact k1, by rw [← henv]; rfl, by rw [← henv]; rfl, S.notin hlN, S.base_none hlN, ⟨_, by rw [hloc]; exact Fr.ns, ?_⟩, ?_, ?_, ?_, ?_, ?_⟩
            · intro x i a h1 h2 h3
              obtain ⟨v, m1, m2⟩ := args_at k6 hlen r h1 h2
              exact ⟨v, bindL_get h3 _ _ (by rw [hzf]; exact k5) m1, m2.mono e1⟩
            · intro x i a h1 h2 h3
              obtain ⟨v, m1, m2⟩ := args_at k6 hlen r h1 h2
              have hnl : ¬ env.kindOf x = some .local := fun q => by rcases h3 with h3 | h3 <;> rw [q] at h3 <;> cases h3
              have hc : env.kindOf x = some .cell := by
                rcases h3 with h3 | h3
                · exact h3
                · rw [hkd] at h3
                  have := k4 _ (lookup_mem h3)
                  simp at this
              rw [hkd] at hc
              obtain ⟨c, hc'⟩ := Option.isSome_iff_exists.mp (cellsFrom_has fn.scope.names (s.heap.objs.size + 1) [] hc)
              have hcell := Cl.cell x c hc'
              rw [bindC_get hnl _ _ (by rw [hzf]; exact k5) m1] at hcell
              exact ⟨c, v, by rw [hcs]; exact hc', hcell, S.notin (hcN x c (by rw [hcs]; exact hc')), m2.mono e1⟩
            · intro x h1 h2
              obtain ⟨c, hc'⟩ := Option.isSome_iff_exists.mp (cellsFrom_has fn.scope.names (s.heap.objs.size + 1) [] h2)
              exact ⟨c, _, by rw [hcs]; exact hc', Cl.cell x c hc', S.notin (hcN x c (by rw [hcs]; exact hc'))⟩
            · intro x hx
              rcases F.nofree x hx with q | q
              · exact .inl ((hkd x).trans q)
              · exact .inr (.inl ((hkd x).trans q))
            · intro x hx; exact (hkd x).trans hx
            · intro x hx
              rw [hkd]
              unfold isGlob at hx
              split at hx
              · assumption
              · cases hx
          have f1 : FS { cx with hid := hid } env fn.scope fn.names (as.map some ++ List.replicate (fn.names.length - as.length) none) ι H { s with heap := h₁, toks := tk } :=
            ⟨S1, E1, fun nn c hc => ⟨S.notin (hcN nn c hc), _, Cl.cell nn c (by rw [← hcs]; exact hc)⟩⟩
          have C' : CallOK { cx with hid := hid } (A.deeper env) (callP P n) := callP_sound hP G n (A.deeper env) hh (by show A.units + 3 + 3 * n + 100 < cLine; omega) (by show A.depth + 1 + n < recursionLimit; omega)
          have R' : Room (A.deeper env) := by unfold Room; show A.units + 3 + 100 < cLine; omega
          refine wpAny_mono (denB_sound (A := A.deeper env) hh R' G' C' F EFUEL fn.body _ ι H _ res H1 f1 h1) (fun fl s' q => ?_) fun _ _ x => x
          obtain ⟨ι', eo, q⟩ := q
          have hnow : ∀ b o, s.heap.get? b = some o → ¬ Own env b := fun b o hb q => by
            rcases q with q | ⟨nn, q⟩
            · rw [q, hlN] at hb; cases hb
            · rw [hcN nn b q] at hb; cases hb
          have e2 : Ext ι ι' s.heap s'.heap := ⟨eo.pre, (fun b hb hn => by
              have := eo.news b hb hn
              cases hg : s.heap.get? b with
              | none => rfl
              | some o => rw [hkeep b o hg] at this; cases this), fun b o hb hn => eo.keep b o (hkeep b o hb) hn (hnow b o hb)⟩
          cases res with
          | next σ' =>
            obtain ⟨rfl, f2⟩ := q
            obtain ⟨rfl, rfl⟩ := pure_some h2
            exact ⟨ι', e2, f2.S, .none⟩
          | ret w =>
            obtain ⟨v, rfl, S2, _, rv⟩ := q
            obtain ⟨rfl, rfl⟩ := pure_some h2
            exact ⟨ι', e2, S2, rv⟩
      · cases h
end
end Mine


set_option autoImplicit false
set_option linter.unusedVariables false
namespace Mine
open PySem PyProof.Rows PySem.SeqAt

theorem lookup_zip {ps : List Str} {vs : List Value} {x : Str} (hl : ps.length ≤ vs.length) (hx : x ∈ ps) : ((ps.zip vs).lookup x).isSome = true := by
  induction ps generalizing vs with
  | nil => cases hx
  | cons p ps ih =>
    cases vs with
    | nil => simp at hl
    | cons v vs =>
      rw [List.zip_cons_cons, List.lookup_cons]
      cases hb : x == p with
      | true => rfl
      | false =>
        rcases List.mem_cons.mp hx with q | q
        · rw [q] at hb; simp at hb
        · exact ih (by simpa using hl) q
theorem fm_congr {α β : Type} {f g : α → Option β} : ∀ {l : List α}, (∀ x ∈ l, f x = g x) → l.filterMap f = l.filterMap g
  | [], _ => rfl
  | x :: r, h => by rw [List.filterMap_cons, List.filterMap_cons, h x List.mem_cons_self, fm_congr fun y hy => h y (List.mem_cons_of_mem _ hy)]
theorem binds_zip {ps : List Str} {vs : List Value} (hl : ps.length = vs.length) (hn : ps.Nodup) : (ps.filterMap fun n => ((ps.zip vs).lookup n).map (n, ·)) = ps.zip vs := by
  induction ps generalizing vs with
  | nil => rfl
  | cons p ps ih =>
    cases vs with
    | nil => simp at hl
    | cons v vs =>
      rw [List.nodup_cons] at hn
      rw [List.zip_cons_cons, List.filterMap_cons]
      simp only [List.lookup_cons, beq_self_eq_true, Option.map_some]
      congr 1
      refine (fm_congr fun n hm => ?_).trans (ih (by simpa using hl) hn.2)
      have hne : (n == p) = false := by
        cases hb : n == p with
        | false => rfl
        | true => exact absurd (beq_iff_eq.mp hb ▸ hm) hn.1
      rw [hne]

theorem bindArgs_plain {name : Str} {params : Arguments} {body : List Stmt} {scope : Scope} {pm cd doc : Value} {ps : List Str} {vs : List Value} (h1 : params.posonlyargs = []) (h2 : params.args.map (·.arg) = ps) (h3 : params.vararg = none) (h4 : params.kwonlyargs = []) (h5 : params.kwarg = none)
    (hn : ps.Nodup) (hl : vs.length = ps.length) : bindArgs (Calls.docDef name params body scope pm cd doc) ⟨vs, []⟩ = pure (ps.zip vs) := by
  unfold bindArgs
  have hm : (List.filter (fun n => ((ps.zip vs).lookup n).isNone) ps).isEmpty = true := by
    rw [List.isEmpty_iff, List.filter_eq_nil_iff]
    intro x hx q
    have := lookup_zip (vs := vs) (by omega) hx
    cases hz : (ps.zip vs).lookup x with
    | none => rw [hz] at this; cases this
    | some v => rw [hz] at q; cases q
  have hs : seqItems? Value.none = pure none := rfl
  simp only [Calls.docDef, h1, h2, h3, h4, h5, List.map_nil, List.nil_append, List.forIn_nil, pure_bind, hs, Option.getD_none, Array.toList_empty, List.length_nil, Nat.zero_sub, List.drop_nil, Nat.sub_zero, List.take_length, List.drop_length, List.zip_nil_left, hl, Nat.lt_irrefl, gt_iff_lt, decide_false, Bool.false_and, Bool.false_eq_true, if_false, hm, Bool.not_true, List.isEmpty_nil, List.append_nil]
  rw [binds_zip (by omega) hn]
end Mine


set_option autoImplicit false
set_option linter.unusedVariables false
namespace Mine
open PySem PyProof.Rows PySem.SeqAt PySem.W


theorem items_ints : ∀ {xs : List WData} {R : WRecords}, WShape.hasItems R xs .int = true → ∃ ns : List Int, xs = ns.map .int
  | [], _, _ => ⟨[], rfl⟩
  | d :: r, R, h => by
    have h' : WShape.has R d .int = true ∧ WShape.hasItems R r .int = true := by simpa [WShape.hasItems] using h
    obtain ⟨i, rfl⟩ := hasW_int h'.1
    obtain ⟨ns, rfl⟩ := items_ints h'.2
    exact ⟨i :: ns, rfl⟩

theorem law_args {l : OpenLaw} {args : List WData} (hm : l.most = some 63) (hb : l.bound = none) (hpre : l.row.toRowW.claim.pre args = true) : ∃ ns : List Int, ns.length ≤ 63 ∧ args = [.list (ns.map .int)] := by
  obtain ⟨h1, h2⟩ := pre_splitW hpre
  have h1' : WShape.hasAll [] args [.list .int] = true := h1
  obtain ⟨d, r, rfl, hd, hr⟩ := hasAllW_cons h1'
  have := hasAllW_nil hr
  subst this
  obtain ⟨xs, rfl, hx⟩ := hasW_list hd
  obtain ⟨ns, rfl⟩ := items_ints hx
  refine ⟨ns, ?_, rfl⟩
  have h3 : l.pre.holds [] { args := [.list (ns.map .int)] } = true := h2
  unfold OpenLaw.pre at h3
  rw [hm, hb] at h3
  have h4 := (holds_andW h3).1
  simp [WTm.holds, WTm.value] at h4
  have h5 : less? (WData.int 63) (WData.int ns.length) = some (decide ((63 : Int) < ns.length)) := by simp [less?, Num.less?]
  rw [h5] at h4
  by_cases hc : (63 : Int) < ns.length
  · rw [decide_eq_true hc] at h4; cases h4
  · omega

theorem ints_read {R : WRecords} {cl : Str → Option Addr} {h : Heap} {cx : Cx} {ι : List Addr} : ∀ {ns : List Int} {vs : List Value} {as : List Addr}, ReadsAllW R cl h vs (ns.map .int) as → VRs cx ι h (ns.map .int) vs
  | [], vs, as, r => by cases r; exact .nil
  | n :: ns, vs, as, r => by
    cases r with
    | cons r1 r2 => cases r1; exact .cons (.int _ _) (ints_read r2)

/-- the built-in names that are used -/
noncomputable def usedNames : List Str := ["len", "list", "tuple", "dict", "int", "range", "min", "max", "any", "sorted", "isinstance", "bool", "str", "zip", "enumerate"]
noncomputable def freeOk (q : Program) (loose : List Str) : Bool := usedNames.all fun x => !startupNames.contains x && !(looseW q loose).contains x && !((recsOf q).map (·.name)).contains x && !((litsOf q).map (·.1)).contains x && !((clssOf q (looseW q loose)).map (·.name)).contains x

theorem free_of {q : Program} {loose : List Str} {mean : ExcName → Option Value} {mg mb : Str → Option Value} {h : Heap} (T : Top q (looseW q loose) mean mg mb h) (hf : freeOk q loose = true) {x : Str} (hx : x ∈ usedNames) : mg x = none := by
  have := List.all_eq_true.mp hf x hx
  simp only [Bool.and_eq_true, Bool.not_eq_true', List.contains_eq_mem, decide_eq_false_iff_not] at this
  obtain ⟨⟨⟨⟨a1, a2⟩, a3⟩, a4⟩, a5⟩ := this
  exact T.free x a1 a2 a3 a4 a5

theorem boot_bi : ∀ x b, biOf x = some b → x ∈ usedNames ∧ bootBuiltins x = some (biV b) ∧ x ≠ "__name__" := by
  intro x b h
  unfold biOf at h
  repeat' (split at h)
  all_goals first | (cases h; done) | skip
  all_goals (cases h; subst_vars; exact ⟨by decide, by decide +kernel, by decide⟩)
theorem boot_ty : ∀ x t, tyOf x = some t → x ∈ usedNames ∧ bootBuiltins x = some (.type (tyStr t)) ∧ x ≠ "__name__" := by
  intro x b h
  unfold tyOf at h
  repeat' (split at h)
  all_goals first | (cases h; done) | skip
  all_goals (cases h; subst_vars; exact ⟨by decide, by decide +kernel, by decide⟩)

structure DefIs (q : Program) (f : Str) (fn : Fn) : Prop where
  chk : fnChk fn = true
  nd : (f == ("__debug__" : Str)) = false
  dfn : ∃ d ∈ recsOf q, d.name = f ∧ d.body = fn.body ∧ d.scope = fn.scope ∧ d.params.posonlyargs = [] ∧ d.params.args.map (·.arg) = fn.params ∧ d.params.vararg = none ∧ d.params.kwonlyargs = [] ∧ d.params.kwarg = none

theorem walk_law {l : OpenLaw} {q : Program} {loose : List Str} {XP : (Str → Option Value) → Heap → Prop} {YP : World → Heap → Prop} {d : DefRec} {kwd : List (Str × Expr)} {P : Pg} {N : Nat}
    (hm : l.most = some 63) (hbd : l.bound = none) (hfree : freeOk q loose = true) (hfn : ∀ f fn, P.fn f = some fn → DefIs q f fn) (hdn : d.name = ("law" : Str)) (hN : N ≤ 200)
    (hgl : ∀ (w : World) (mean : ExcName → Option Value) (mg mb : Str → Option Value) (h : Heap) (os : OsState), XP mg h → YP w h → Top q (looseW q loose) mean mg mb h → ∀ x a, P.glob x = some a → ∃ v, mg x = some v ∧ VR ⟨l.prog, w, h, os, mg, mb, []⟩ [] h a v)
    (hrun : ∀ ns : List Int, ns.length ≤ 63 → ∃ H', callP P N ("law" : Str) [.lst (ns.map .int)] [] = some (.bool true, H')) :
    WalkO q loose XP YP l.row.toRowW d kwd fun f vs => PySem.call f vs := by
  intro w s₀ s₁ mg mb G Y fa o pm cd doc dV kV ho hod hcd hD hmg hgens args vals as hpre hlay hrd hwl hlo
  obtain ⟨ns, hlen, rfl⟩ := law_args hm hbd hpre
  have T := G.T
  let cx : Cx := ⟨l.prog, w, s₁.heap, s₁.os, mg, mb, []⟩
  have hG : Good cx P := by
    refine ⟨T.g, T.b, T.nolimit, fun x a hx => hgl w _ mg mb s₁.heap s₁.os G.X Y T x a hx, ?_, ?_, ?_, ?_, ?_⟩
    · intro x b hx
      obtain ⟨h1, h2, h3⟩ := boot_bi x b hx
      exact ⟨free_of T hfree h1, (T.builtins x h3).trans h2⟩
    · exact ⟨free_of T hfree (by decide), (T.builtins _ (by decide)).trans (by decide +kernel)⟩
    · intro x t hx
      obtain ⟨h1, h2, h3⟩ := boot_ty x t hx
      exact ⟨free_of T hfree h1, (T.builtins x h3).trans h2⟩
    · exact ⟨free_of T hfree (by decide), (T.builtins _ (by decide)).trans (by decide +kernel)⟩
    · exact ⟨free_of T hfree (by decide), (T.builtins _ (by decide)).trans (by decide +kernel)⟩
  have hF : ∀ f fn, P.fn f = some fn → FnOK cx f fn := fun f fn hf => by
    obtain ⟨c1, c2, d', hd', rfl, e1, e2, e3, e4, e5, e6, e7⟩ := hfn f fn hf
    obtain ⟨a', o', pm', cd', doc', g1, g2, g3, g4⟩ := T.fn d' hd'
    refine ⟨c2, c1, a', o', pm', cd', doc', d'.params, g1, g2, by rw [← e1, ← e2]; exact g3, g4, fun vs hvs => ?_⟩
    have hnd : fn.params.Nodup := by
      unfold fnChk at c1
      simp only [Bool.and_eq_true, decide_eq_true_eq] at c1
      exact c1.1.1.2
    exact bindArgs_plain e3 e4 e5 e6 e7 hnd hvs
  have hS : St cx [] [] s₁ := ⟨fun _ _ e => e, rfl, List.nodup_nil, fun _ h => (nomatch h), fun l a o h _ => by simp at h, hgens, rfl, by
      obtain ⟨_, ⟨o, _, _, ho, _⟩, _⟩ := T.nodigits
      exact ⟨o, ho⟩, fun _ h => (nomatch h)⟩
  have hC : CallOK cx callerA (callP P N) := callP_sound hF hG N callerA rfl (by show 4 + 3 * N + 100 < cLine; have : cLine = 9900 := rfl; omega) (by show 1 + claimMargin + N < recursionLimit; have : claimMargin = 300 := rfl; have : recursionLimit = 1000 := rfl; omega)
  obtain ⟨H', hr⟩ := hrun ns hlen
  obtain ⟨_, fa', o', fd', r1, r2, r3, r4⟩ := hC [] _ _ _ _ _ hr
  rw [hdn] at hmg
  have hfa : fa' = fa := by
    have : some (Value.ref fa') = some (.ref fa) := r1.symm.trans hmg
    injection this with this
    injection this
  subst hfa
  cases hrd with
  | cons rd1 rd2 =>
    cases rd2
    cases hwl with
    | cons w1 w2 =>
      cases w1 with
      | @list a vs xs hga hwa =>
        have hv : VRs cx [] s₁.heap [.lst (ns.map .int)] [.ref a] := by
          refine .cons (.lst (n := 0) hga ⟨by simp, by simp [cx]⟩ (by rw [List.length_map]; have := LIM_is; omega) ?_) .nil
          cases rd1 with
          | list q1 q2 q3 q4 =>
            rw [hga] at q1
            cases q1
            cases q3
            exact ints_read q4
        refine wpAny_mono (r4 [] s₁ [.ref a] hS hv) (fun v s' q => ?_) fun _ _ x => x.elim
        obtain ⟨ι', e, S', rv⟩ := q
        cases rv
        refine GoodW.toG ⟨.inl ⟨_, .bool true, [], rfl, fun _ => rfl, .bool true, ?_, fun _ => ⟨List.nodup_nil, fun _ h => (nomatch h)⟩⟩, S'.base, S'.os, S'.gens⟩
        exact postW_of (X := true) rfl (by show WTm.value [] (.eq .res (.lit (.bool true))) _ = _; simp [WTm.value, same_self]) rfl
end Mine


set_option autoImplicit false
set_option linter.unusedVariables false
namespace Mine
open PySem PyProof.Rows PySem.W

theorem defs_ok {p q : Program} (hr : recsOf q = recs p) (hc : (recs p).all defChk = true) : ∀ f fn, fnOf p f = some fn → DefIs q f fn := by
  intro f fn h
  unfold fnOf at h
  obtain ⟨st, hst, h1⟩ := List.exists_of_findSome?_eq_some h
  unfold fnSt at h1
  split at h1
  · rename_i n a b x1 x2 sc x3 x4 pos
    split at h1
    · rename_i hn
      subst hn
      cases h1
      have hd : (⟨n, a, b, sc, pos⟩ : DefRec) ∈ recs p := List.mem_filterMap.mpr ⟨_, hst, rfl⟩
      have hk := List.all_eq_true.mp hc _ hd
      unfold defChk at hk
      simp only [Bool.and_eq_true, bne_iff_ne, ne_eq, List.isEmpty_iff, Option.isNone_iff_eq_none] at hk
      obtain ⟨⟨⟨⟨⟨k1, k2⟩, k3⟩, k4⟩, k5⟩, k6⟩ := hk
      exact ⟨k1, beq_eq_false_iff_ne.mpr k2, _, hr ▸ hd, rfl, rfl, rfl, k3, rfl, k4, k5, k6⟩
    · cases h1
  · cases h1

end Mine


set_option autoImplicit false
set_option linter.unusedVariables false
namespace Mine
open PySem PyProof.Rows PySem.W

noncomputable def keepSt : Stmt → Bool
  | .Assign [.Name x _] _ _ => !(x == ("__name__" : Str))
  | _ => true
/-- the text but for the settings of __name__ -/
noncomputable def viewOf (p : Program) : Program := { p with main := { p.main with body := p.main.body.filter keepSt } }
noncomputable def noDef : DefRec × List (Str × Expr) := (⟨"", ⟨[], [], none, [], [], none, []⟩, [], default, default⟩, [])
noncomputable def lawDef (q : Program) : DefRec × List (Str × Expr) := (defOf q "law").getD noDef

/-- the text's own tables: a name, where it stands, and what stands there -/
abbrev Tbl := List (Str × Addr × (Params → Obj))
noncomputable def tblF (D : Tbl) (s : Shared) : List (Option Obj) := D.map fun d => s.heap.get? d.2.1
noncomputable def tblA (D : Tbl) (w : World) : List (Option Obj) := D.map fun d => some (d.2.2 w.params)
noncomputable def tblP (D : Tbl) (w : World) (h : Heap) : Prop := ∀ d ∈ D, h.get? d.2.1 = some (d.2.2 w.params)
noncomputable def isAt (a : Addr) : Option Value → Bool
  | some (.ref b) => Nat.beq b a
  | _ => false
noncomputable def tblX (D : Tbl) (s : Shared) : Bool := D.all fun d => isAt d.2.1 (s.heap.nsMap mainGlobals d.1)
noncomputable def tblXP (D : Tbl) (mg : Str → Option Value) : Prop := ∀ d ∈ D, mg d.1 = some (.ref d.2.1)
theorem isAt_of {a : Addr} {v : Option Value} (h : isAt a v = true) : v = some (.ref a) := by
  unfold isAt at h
  split at h
  · rw [Nat.eq_of_beq_eq_true h]
  · cases h

/-- a law holds: its top ends well, its text is well said, and its calls answer true -/
theorem head_law {l : OpenLaw} {q : Program} {loose : List Str} {D : Tbl} {N n : Nat} {P : Pg} (k : l.wellSaid = true)
    (hl : LeftO l.row.prog q loose (fun s => xlAt q [] s && recOk (RowW.records l.row.toRowW) s && tblX D s) (tblF D) (tblA D) N)
    (hdef : defOf q l.row.name = some (lawDef q)) (hp : l.row.prog.theDef l.row.name = some ((lawDef q).1.params, (lawDef q).1.body, (lawDef q).1.scope)) (hk : kwWritten? (lawDef q).1.params.kwonlyargs (lawDef q).1.params.kw_defaults = some (lawDef q).2)
    (hwr : (!l.row.writes || l.row.records.isEmpty) = true) (ok : (chainsOk q && opensWell l.row.prog && (frees l.row.toRowW && l.row.within.isEmpty)) = true) (hb : l.row.prog.bare) (hw : l.row.toRowW.promised)
    (hm : l.most = some 63) (hbd : l.bound = none) (hfree : freeOk q loose = true) (hfn : ∀ f fn, P.fn f = some fn → DefIs q f fn) (hdn : (lawDef q).1.name = ("law" : Str)) (hN : n ≤ 200)
    (hgl : ∀ (w : World) (mean : ExcName → Option Value) (mg mb : Str → Option Value) (h : Heap) (os : OsState), tblXP D mg → tblP D w h → Top q (looseW q loose) mean mg mb h → ∀ x a, P.glob x = some a → ∃ v, mg x = some v ∧ VR ⟨l.prog, w, h, os, mg, mb, []⟩ [] h a v)
    (hrun : ∀ ns : List Int, ns.length ≤ 63 → ∃ H', callP P n ("law" : Str) [.lst (ns.map .int)] [] = some (.bool true, H')) : l.Holds :=
  holds_law k fun said => holds_open (q := q) (loose := loose) (XP := fun mg h => XL q [] mg h ∧ tblXP D mg) (YP := tblP D) (N := N) hl (fun w s e d hd => (List.map_inj_left.mp e) d hd) (fun w h h' y hk d hd => hk _ _ (y d hd))
    (fun s e => ⟨xl_of s (Bool.and_eq_true_iff.mp (Bool.and_eq_true_iff.mp e).1).1, fun d hd => isAt_of (List.all_eq_true.mp (Bool.and_eq_true_iff.mp e).2 d hd)⟩) (fun mg h h' x hk => ⟨XL.keeps mg h h' x.1 hk, x.2⟩) hdef hp hk
    (fun s e => recFacts_of (Bool.and_eq_true_iff.mp (Bool.and_eq_true_iff.mp e).1).2) hwr said ok hb hw (walk_law hm hbd hfree hfn hdn hN (fun w mean mg mb h os x y T => hgl w mean mg mb h os x.2 y T) hrun)

end Mine


set_option autoImplicit false
set_option linter.unusedVariables false
namespace Mine
open PySem PyProof.Rows

/-- m runs from H and leaves what Q says -/
noncomputable def Rn {α : Type} (m : M α) (H : AHeap) (Q : α → AHeap → Prop) : Prop := ∃ a H', m H = some (a, H') ∧ Q a H'
noncomputable def Fl (I : Loc → AHeap → Prop) (Q : AV → AHeap → Prop) : Res → AHeap → Prop
  | .next σ, H => I σ H
  | .ret v, H => Q v H

section
variable {α β : Type} {m : M α} {f : α → M β} {H H1 : AHeap} {a : α} {Q : β → AHeap → Prop} {R R' : α → AHeap → Prop}
theorem Rn.bind (h : Rn m H fun a H1 => Rn (f a) H1 Q) : Rn (m >>= f) H Q := by
  obtain ⟨a, H1, h1, b, H2, h2, q⟩ := h
  exact ⟨b, H2, bind_of h1 h2, q⟩
theorem Rn.pure (h : R a H) : Rn (Pure.pure a : M α) H R := ⟨a, H, rfl, h⟩
theorem Rn.mono (h : Rn m H R) (k : ∀ a H', R a H' → R' a H') : Rn m H R' := let ⟨a, H', e, q⟩ := h; ⟨a, H', e, k _ _ q⟩
theorem Rn.eq (e : m = Pure.pure a) (h : R a H) : Rn m H R := by rw [e]; exact .pure h
theorem Rn.of (e : m H = some (a, H1)) (h : R a H1) : Rn m H R := ⟨a, H1, e, h⟩
theorem Rn.beq (e : m = Pure.pure a) (h : Rn (f a) H Q) : Rn (m >>= f) H Q := by rw [e]; exact h
theorem Rn.bof (e : m H = some (a, H1)) (h : Rn (f a) H1 Q) : Rn (m >>= f) H Q := .bind (.of e h)
theorem Rn.then (h : Rn m H R) (k : ∀ a H1, R a H1 → Rn (f a) H1 Q) : Rn (m >>= f) H Q := .bind (h.mono k)
end

theorem FUEL_is : FUEL = 100000 := rfl

theorem forR_go {src : Src} {body : AV → Loc → M Res} (g : Nat → Option AV) (N : Nat) (I : Nat → Loc → AHeap → Prop) {Q : Res → AHeap → Prop}
    (hN : g N = none) (hg : ∀ i σ H, i ≤ N → I i σ H → src.get i H = some (g i, H))
    (hs : ∀ i σ H, i < N → I i σ H → ∃ a, g i = some a ∧ Rn (body a σ) H (Fl (I (i + 1)) fun v H' => Q (.ret v) H')) (he : ∀ σ H, I N σ H → Q (.next σ) H) :
    ∀ (k fuel i : Nat) (σ : Loc) (H : AHeap), i + k = N → k < fuel → I i σ H → Rn (forLoop src body fuel i σ) H Q
  | 0, 0, i, σ, H, _, hf, _ => absurd hf (Nat.lt_irrefl _)
  | 0, f + 1, i, σ, H, hk, hf, h => by
    have : i = N := hk
    subst this
    unfold forLoop
    refine .bof (hg i σ H (Nat.le_refl _) h) ?_
    rw [hN]
    exact .pure (he _ _ h)
  | k + 1, 0, i, σ, H, _, hf, _ => absurd hf (Nat.not_lt_zero _)
  | k + 1, f + 1, i, σ, H, hk, hf, h => by
    unfold forLoop
    have hi : i < N := by omega
    refine .bof (hg i σ H (Nat.le_of_lt hi) h) ?_
    obtain ⟨a, ha, hr⟩ := hs i σ H hi h
    rw [ha]
    refine .then hr fun r H1 q => ?_
    cases r with
    | next σ' => exact forR_go g N I hN hg hs he k f (i + 1) σ' H1 (by omega) (by omega) q
    | ret v => exact .pure q

/-- a for over what g hands out, N turns -/
theorem forR {src : Src} {body : AV → Loc → M Res} {σ : Loc} {H : AHeap} (g : Nat → Option AV) (N : Nat) (I : Nat → Loc → AHeap → Prop) {Q : Res → AHeap → Prop} (hF : N < 100000)
    (hN : g N = none) (hg : ∀ i σ H, i ≤ N → I i σ H → src.get i H = some (g i, H)) (h0 : I 0 σ H)
    (hs : ∀ i σ H, i < N → I i σ H → ∃ a, g i = some a ∧ Rn (body a σ) H (Fl (I (i + 1)) fun v H' => Q (.ret v) H')) (he : ∀ σ H, I N σ H → Q (.next σ) H) :
    Rn (forLoop src body FUEL 0 σ) H Q := forR_go g N I hN hg hs he N FUEL 0 σ H (Nat.zero_add _) (by rw [FUEL_is]; exact hF) h0

/-- a for over a frozen list -/
theorem forI {xs : List AV} {body : AV → Loc → M Res} {σ : Loc} {H : AHeap} (I : Nat → Loc → AHeap → Prop) {Q : Res → AHeap → Prop} (hF : xs.length < 100000) (h0 : I 0 σ H)
    (hs : ∀ i a σ H, xs[i]? = some a → I i σ H → Rn (body a σ) H (Fl (I (i + 1)) fun v H' => Q (.ret v) H')) (he : ∀ σ H, I xs.length σ H → Q (.next σ) H) :
    Rn (forLoop (.items xs) body FUEL 0 σ) H Q :=
  forR (fun i => xs[i]?) xs.length I hF (List.getElem?_eq_none (Nat.le_refl _)) (fun _ _ _ _ _ => rfl) h0 (fun i σ H hi h => ⟨xs[i], List.getElem?_eq_getElem hi, hs i _ σ H (List.getElem?_eq_getElem hi) h⟩) he
/-- a for over a list of the heap, which no turn touches -/
theorem forA {l : Nat} {xs : List AV} {body : AV → Loc → M Res} {σ : Loc} {H : AHeap} (I : Nat → Loc → AHeap → Prop) {Q : Res → AHeap → Prop} (hF : xs.length < 100000) (h0 : I 0 σ H)
    (hl : ∀ i σ H, I i σ H → H[l]? = some (.list xs))
    (hs : ∀ i a σ H, xs[i]? = some a → I i σ H → Rn (body a σ) H (Fl (I (i + 1)) fun v H' => Q (.ret v) H')) (he : ∀ σ H, I xs.length σ H → Q (.next σ) H) :
    Rn (forLoop (.at l) body FUEL 0 σ) H Q :=
  forR (fun i => xs[i]?) xs.length I hF (List.getElem?_eq_none (Nat.le_refl _)) (fun i σ H _ h => by show (match H[l]? with | some (.list xs) => some (xs[i]?, H) | _ => none) = _; rw [hl i σ H h]) h0
    (fun i σ H hi h => ⟨xs[i], List.getElem?_eq_getElem hi, hs i _ σ H (List.getElem?_eq_getElem hi) h⟩) he
theorem whR_go {test : Loc → M Bool} {body : Loc → M Res} (I : Nat → Loc → AHeap → Prop) {Q : Res → AHeap → Prop}
    (hs : ∀ n σ H, I n σ H → Rn (test σ) H fun b H1 => (b = false ∧ Q (.next σ) H1) ∨ (b = true ∧ Rn (body σ) H1 (Fl (fun σ' H' => ∃ m, m < n ∧ I m σ' H') fun v H' => Q (.ret v) H'))) :
    ∀ (fuel n : Nat) (σ : Loc) (H : AHeap), n < fuel → I n σ H → Rn (whileLoop test body fuel σ) H Q
  | 0, n, _, _, hf, _ => absurd hf (Nat.not_lt_zero _)
  | f + 1, n, σ, H, hf, h => by
    unfold whileLoop
    refine .then (hs n σ H h) fun b H1 q => ?_
    obtain ⟨rfl, q⟩ | ⟨rfl, q⟩ := q
    · exact .pure q
    · refine .then q fun r H2 q => ?_
      cases r with
      | next σ' =>
        obtain ⟨m, hm, hI⟩ := q
        exact whR_go I hs f m σ' H2 (by omega) hI
      | ret v => exact .pure q
theorem whR {test : Loc → M Bool} {body : Loc → M Res} {σ : Loc} {H : AHeap} (n : Nat) (I : Nat → Loc → AHeap → Prop) {Q : Res → AHeap → Prop} (hF : n < 100000) (h0 : I n σ H)
    (hs : ∀ n σ H, I n σ H → Rn (test σ) H fun b H1 => (b = false ∧ Q (.next σ) H1) ∨ (b = true ∧ Rn (body σ) H1 (Fl (fun σ' H' => ∃ m, m < n ∧ I m σ' H') fun v H' => Q (.ret v) H'))) :
    Rn (whileLoop test body FUEL σ) H Q := whR_go I hs FUEL n σ H (by rw [FUEL_is]; exact hF) h0

theorem LIMis : LIM = 1048576 := by decide
/-- a comprehension over a frozen list whose body is pure -/
theorem compM_go {xs : List AV} {body : AV → M (Option AV)} {g : AV → AV} (h : ∀ a ∈ xs, body a = pure (some (g a))) :
    ∀ (k fuel i : Nat) (acc : List AV), i + k = xs.length → k < fuel → acc.length + k < LIM → compLoop (.items xs) body fuel i acc = pure (acc ++ (xs.drop i).map g)
  | 0, 0, i, acc, _, hf, _ => absurd hf (Nat.lt_irrefl _)
  | 0, f + 1, i, acc, hk, hf, _ => by
    unfold compLoop
    show (do let r ← (pure xs[i]? : M _); _) = _
    rw [List.getElem?_eq_none (by omega), pure_bind, List.drop_of_length_le (by omega)]
    simp
  | k + 1, 0, i, acc, _, hf, _ => absurd hf (Nat.not_lt_zero _)
  | k + 1, f + 1, i, acc, hk, hf, hL => by
    unfold compLoop
    have hi : i < xs.length := by omega
    show (do let r ← (pure xs[i]? : M _); _) = _
    rw [List.getElem?_eq_getElem hi, pure_bind]
    simp only [h _ (List.getElem_mem hi), pure_bind]
    rw [if_pos (by omega), compM_go h k f (i + 1) _ (by omega) (by omega) (by rw [List.length_append]; simp; omega), List.drop_eq_getElem_cons hi, List.map_cons, List.append_assoc]
    rfl
theorem compM {xs : List AV} {body : AV → M (Option AV)} (g : AV → AV) (hl : xs.length < 100000) (h : ∀ a ∈ xs, body a = pure (some (g a))) : compLoop (.items xs) body FUEL 0 [] = pure (xs.map g) := by
  have := compM_go h xs.length FUEL 0 [] (Nat.zero_add _) (by rw [FUEL_is]; exact hl) (by rw [LIMis]; simp; omega)
  simpa using this

theorem callRn {P : Pg} {n : Nat} {f : Str} {as : List AV} {σ : Loc} {H : AHeap} {Q : AV → AHeap → Prop} (hf : P.fn f = some (fnD P f)) (hl : as.length = (fnD P f).params.length) (hσ : as.map some ++ List.replicate ((fnD P f).names.length - as.length) none = σ)
    (h : Rn (tl P (callP P n) f [] 0 40 σ) H (Fl (fun _ H' => Q .none H') Q)) : Rn (callP P (n + 1) f as) H Q := by
  obtain ⟨r, H', h1, q⟩ := h
  cases r with
  | next σ' => exact ⟨_, _, callN hf hl hσ h1, q⟩
  | ret a => exact ⟨_, _, callR hf hl hσ h1, q⟩
/-- pure facts of the primitives -/
theorem srcOf_lst {xs : List AV} : srcOf (.lst xs) = pure (.items xs) := rfl
theorem small62_of {i : Int} (h : -1000000 ≤ i ∧ i ≤ 1000000) : small62 i = true := by unfold small62; simp; omega
theorem srcOf_range {a b : Int} (ha : -1000000 ≤ a ∧ a ≤ 1000000) (hb : -1000000 ≤ b ∧ b ≤ 1000000) : srcOf (.range a b) = pure (.items (rangeL a b)) := by
  funext H; show (if small62 a && small62 b then some (Src.items (rangeL a b), H) else none) = _
  rw [small62_of ha, small62_of hb]; rfl
theorem e_range1 {mu : Bool} {n : Int} : pBI mu .range [.int n] = pure (.range 0 n) := rfl
theorem e_list_lst {xs : List AV} (h : xs.length ≤ LIM) : pBI false .list [.lst xs] = pure (.lst xs) := by
  show (do let xs ← seqOf (.lst xs); newL false xs) = _
  show (do let xs ← (pure xs : M _); newL false xs) = _
  rw [pure_bind, e_newL h]
theorem rangeL_length (a b : Int) : (rangeL a b).length = (b - a).toNat := by unfold rangeL; simp
theorem rangeL_at {a b : Int} {i : Nat} {x : AV} (h : (rangeL a b)[i]? = some x) : x = .int (a + i) ∧ i < (b - a).toNat := by
  unfold rangeL at h
  rw [List.getElem?_map] at h
  cases h1 : (List.range (b - a).toNat)[i]? with
  | none => rw [h1] at h; cases h
  | some j =>
    rw [h1] at h; cases h
    have := List.getElem?_eq_some_iff.mp h1
    obtain ⟨h2, h3⟩ := this
    rw [List.length_range] at h2
    rw [List.getElem_range] at h3
    subst h3; exact ⟨rfl, h2⟩
theorem mem_rangeL {a b : Int} {x : AV} (h : x ∈ rangeL a b) : ∃ i : Nat, x = .int (a + i) ∧ i < (b - a).toNat := by
  obtain ⟨i, hi⟩ := List.mem_iff_getElem?.mp h
  exact ⟨i, rangeL_at hi⟩
theorem listOf_loc {H : AHeap} {l : Nat} {xs : List AV} (h : H[l]? = some (.list xs)) : listOf (.loc l) H = some (xs, H) := by
  show (match H[l]? with | some (.list xs) => some (xs, H) | _ => none) = _
  rw [h]
theorem seqOf_loc {H : AHeap} {l : Nat} {xs : List AV} (h : H[l]? = some (.list xs)) : seqOf (.loc l) H = some (xs, H) := by
  show (match H[l]? with | some (.list xs) => some (xs, H) | _ => none) = _
  rw [h]
theorem srcOf_loc {H : AHeap} {l : Nat} {xs : List AV} (h : H[l]? = some (.list xs)) : srcOf (.loc l) H = some (.at l, H) := by
  show (match H[l]? with | some (.list _) => some (Src.at l, H) | _ => none) = _
  rw [h]
theorem len_loc {mu : Bool} {H : AHeap} {l : Nat} {xs : List AV} (h : H[l]? = some (.list xs)) : pBI mu .len [.loc l] H = some (.int xs.length, H) :=
  bind_of (seqOf_loc h) rfl
theorem idx_nat {k n : Nat} (h : k < n) : idx (k : Int) n = some k := by
  unfold idx
  rw [if_pos (by omega), if_pos (by omega)]; simp
theorem item_loc {H : AHeap} {l k : Nat} {xs : List AV} {a : AV} (h : H[l]? = some (.list xs)) (hk : xs[k]? = some a) : pItem (.loc l) (.int k) H = some (a, H) := by
  refine bind_of (seqOf_loc h) ?_
  rw [idx_nat (List.getElem?_eq_some_iff.mp hk).1]
  show (ofOpt xs[k]? : M AV) H = _
  rw [hk]; rfl
theorem list_loc {H : AHeap} {l : Nat} {xs : List AV} (h : H[l]? = some (.list xs)) (hl : xs.length ≤ LIM) : pBI false .list [.loc l] H = some (.lst xs, H) :=
  bind_of (seqOf_loc h) (by rw [e_newL hl]; rfl)
theorem append_loc {H : AHeap} {l : Nat} {xs : List AV} {v : AV} (h : H[l]? = some (.list xs)) (hl : xs.length < LIM) : pMeth "append" (.loc l) [v] H = some (.none, H.set l (.list (xs ++ [v]))) := by
  unfold pMeth
  simp only [h, if_true, hl]
theorem pop_loc {H : AHeap} {l k : Nat} {xs : List AV} {v : AV} (h : H[l]? = some (.list xs)) (hk : xs[k]? = some v) : pMeth "pop" (.loc l) [.int k] H = some (v, H.set l (.list (xs.eraseIdx k))) := by
  have hk' := (List.getElem?_eq_some_iff.mp hk).1
  unfold pMeth
  simp only [h]
  rw [if_neg (by decide), if_pos trivial, if_pos (by omega)]
  simp only [Int.toNat_natCast, hk]
/-- an int below m -/
noncomputable def InR (m : Int) (x : AV) : Prop := ∃ i : Int, x = .int i ∧ 0 ≤ i ∧ i < m
theorem mapM_ok {α β : Type} {f : α → Option β} : ∀ {xs : List α}, (∀ x ∈ xs, ∃ y, f x = some y) → ∃ ys, xs.mapM f = some ys ∧ ys.length = xs.length
  | [], _ => ⟨[], by simp, rfl⟩
  | x :: r, h => by
    obtain ⟨y, hy⟩ := h x (List.mem_cons_self ..)
    obtain ⟨ys, h1, h2⟩ := mapM_ok (xs := r) fun z hz => h z (List.mem_cons_of_mem _ hz)
    exact ⟨y :: ys, by simp [hy, h1], by simp [h2]⟩
theorem eqv_nil (ds : List PyData) : PyData.eqv (.list ds) (.list []) = ds.isEmpty := by cases ds <;> rfl
theorem rd_nil {H : AHeap} {n : Nat} : rd H (n + 1) (.lst []) = some (.list []) := by simp [rd]
theorem eq_nil_loc {H : AHeap} {l : Nat} {xs : List AV} (h : H[l]? = some (.list xs)) (hx : ∀ x ∈ xs, ∃ d, rd H 7 x = some d) : pCmp .Eq (.loc l) (.lst []) H = some (xs.isEmpty, H) := by
  obtain ⟨ds, h1, h2⟩ := mapM_ok hx
  have e1 : rd H 8 (.loc l) = some (.list ds) := by unfold rd; simp only [h, h1, Option.map_some]
  show (match rd H 8 (.loc l), rd H 8 (.lst []) with | some x, some y => some (PyData.eqv x y, H) | _, _ => none) = _
  rw [e1, rd_nil]
  show some (PyData.eqv (.list ds) (.list []), H) = _
  rw [eqv_nil]
  have : ds.isEmpty = xs.isEmpty := by cases ds <;> cases xs <;> simp_all
  rw [this]
theorem ne_nil_loc {H : AHeap} {l : Nat} {xs : List AV} (h : H[l]? = some (.list xs)) (hx : ∀ x ∈ xs, ∃ d, rd H 7 x = some d) : pCmp .NotEq (.loc l) (.lst []) H = some (!xs.isEmpty, H) :=
  bind_of (eq_nil_loc h hx) rfl
theorem rd_int {H : AHeap} {n : Nat} {i : Int} : rd H n (.int i) = some (.int i) := by unfold rd; rfl
theorem InR.rd {m : Int} {x : AV} (h : InR m x) (H : AHeap) (n : Nat) : ∃ d, rd H n x = some d := by obtain ⟨i, rfl, _⟩ := h; exact ⟨_, rd_int⟩
theorem get2a {H : AHeap} {a b : AO} : (H ++ [a, b])[H.length]? = some a := by simp
theorem get2b {H : AHeap} {a b : AO} : (H ++ [a, b])[H.length + 1]? = some b := by simp
theorem set2a {H : AHeap} {a b x : AO} : (H ++ [a, b]).set H.length x = H ++ [x, b] := by simp
theorem set2b {H : AHeap} {a b x : AO} : (H ++ [a, b]).set (H.length + 1) x = H ++ [a, x] := by simp [List.set_append]
theorem newT {H : AHeap} {xs : List AV} (h : xs.length ≤ LIM) : newL true xs H = some (.loc H.length, H ++ [.list xs]) := by unfold newL; rw [if_pos h]
theorem list_range {H : AHeap} {a b : Int} (ha : -1000000 ≤ a ∧ a ≤ 1000000) (hb : -1000000 ≤ b ∧ b ≤ 1000000) (hl : (rangeL a b).length ≤ LIM) : pBI true .list [.range a b] H = some (.loc H.length, H ++ [.list (rangeL a b)]) := by
  show (if small62 a && small62 b then newL true (rangeL a b) else stuck) H = _
  rw [small62_of ha, small62_of hb]
  exact newT hl
theorem InR_range {m : Int} {x : AV} (h : x ∈ rangeL 0 m) : InR m x := by
  obtain ⟨i, rfl, hi⟩ := mem_rangeL h
  exact ⟨_, rfl, by omega, by omega⟩
theorem fdiv_ge {a b : Int} (ha : 0 ≤ a) (hb : 0 ≤ b) : 0 ≤ a.fdiv b := Int.fdiv_nonneg ha hb
theorem fmod_ge {a b : Int} (hb : 0 < b) : 0 ≤ a.fmod b := (fmod_lt a hb).1

theorem mapM_inv {α β : Type} {f : α → Option β} {x : α} {xs : List α} {ys : List β} (h : (x :: xs).mapM f = some ys) : ∃ y r, f x = some y ∧ xs.mapM f = some r ∧ ys = y :: r := by
  simp only [List.mapM_cons, Option.bind_eq_bind, Option.bind_eq_some_iff, Option.pure_def, Option.some.injEq] at h
  obtain ⟨y, h1, r, h2, h3⟩ := h
  exact ⟨y, r, h1, h2, h3.symm⟩
theorem mapM_eqv {f : AV → Option PyData} (hf : ∀ a d, f a = some d → PyData.eqv d d = true) : ∀ {xs : List AV} {ds : List PyData}, xs.mapM f = some ds → PyData.eqvAll ds ds = true
  | [], ds, h => by simp at h; subst h; rfl
  | x :: r, ds, h => by
    obtain ⟨y, r', h1, h2, rfl⟩ := mapM_inv h
    rw [PyData.eqvAll, hf _ _ h1, mapM_eqv hf h2]; rfl
theorem rd_eqv {H : AHeap} : ∀ {n : Nat} {a : AV} {d : PyData}, rd H n a = some d → PyData.eqv d d = true
  | n, .none, d, h => by unfold rd at h; cases h; rfl
  | n, .bool b, d, h => by unfold rd at h; cases h; simp [PyData.eqv]
  | n, .int b, d, h => by unfold rd at h; cases h; simp [PyData.eqv]
  | n, .str x, d, h => by
    unfold rd at h
    split at h
    · cases h; simp [PyData.eqv]
    · cases h
  | 0, .tup xs, d, h => by unfold rd at h; cases h
  | 0, .lst xs, d, h => by unfold rd at h; cases h
  | 0, .loc l, d, h => by unfold rd at h; cases h
  | n, .range _ _, d, h => by unfold rd at h; cases h
  | n, .cdict _, d, h => by unfold rd at h; cases h
  | n + 1, .tup xs, d, h => by
    unfold rd at h
    obtain ⟨ds, h1, rfl⟩ := Option.map_eq_some_iff.mp h
    rw [PyData.eqv]; exact mapM_eqv (fun a d => rd_eqv (n := n)) h1
  | n + 1, .lst xs, d, h => by
    unfold rd at h
    obtain ⟨ds, h1, rfl⟩ := Option.map_eq_some_iff.mp h
    rw [PyData.eqv]; exact mapM_eqv (fun a d => rd_eqv (n := n)) h1
  | n + 1, .loc l, d, h => by
    unfold rd at h
    cases hl : H[l]? with
    | none => simp only [hl] at h; cases h
    | some o =>
      cases o with
      | dict es => simp only [hl] at h; cases h
      | list xs =>
        simp only [hl] at h
        obtain ⟨ds, h1, rfl⟩ := Option.map_eq_some_iff.mp h
        rw [PyData.eqv]; exact mapM_eqv (fun a d => rd_eqv (n := n)) h1
theorem eq_same {H : AHeap} {a b : AV} {d : PyData} (h1 : rd H 8 a = some d) (h2 : rd H 8 b = some d) : pCmp .Eq a b H = some (true, H) := by
  show (match rd H 8 a, rd H 8 b with | some x, some y => some (PyData.eqv x y, H) | _, _ => none) = _
  rw [h1, h2]
  show some (PyData.eqv d d, H) = _
  rw [rd_eqv h1]
theorem Rn.each0 {H : AHeap} {Q : List AV → AHeap → Prop} (h : Q [] H) : Rn (eachM []) H Q := .pure h
theorem Rn.eachC {m : M AV} {r : List (M AV)} {H : AHeap} {Q : List AV → AHeap → Prop} (h : Rn m H fun a H1 => Rn (eachM r) H1 fun vs H2 => Q (a :: vs) H2) : Rn (eachM (m :: r)) H Q :=
  .bind (h.mono fun a H1 q => .bind (q.mono fun vs H2 q => .pure q))
theorem Rn.eachE {m : M AV} {r : List (M AV)} {H H1 : AHeap} {a : AV} {Q : List AV → AHeap → Prop} (e : m H = some (a, H1)) (h : Rn (eachM r) H1 fun vs H2 => Q (a :: vs) H2) : Rn (eachM (m :: r)) H Q := .eachC (.of e h)
theorem Rn.eachP {a : AV} {r : List (M AV)} {H : AHeap} {Q : List AV → AHeap → Prop} (h : Rn (eachM r) H fun vs H2 => Q (a :: vs) H2) : Rn (eachM (Pure.pure a :: r)) H Q := .eachC (.pure h)
theorem m_tup {mu : Bool} {x y : AV} {xs ys : List AV} (h : (x :: xs).length + (y :: ys).length ≤ LIM) : pBin mu .Add (.tup (x :: xs)) (.tup (y :: ys)) = pure (.tup ((x :: xs) ++ (y :: ys))) := by
  show (if (x :: xs).isEmpty || (y :: ys).isEmpty || decide (LIM < (x :: xs).length + (y :: ys).length) then stuck else pure (.tup ((x :: xs) ++ (y :: ys))) : M AV) = _
  rw [decide_eq_false (Nat.not_lt.mpr h)]; rfl
theorem pop_last {H : AHeap} {l : Nat} {xs : List AV} {v : AV} (h : H[l]? = some (.list (xs ++ [v]))) : pMeth "pop" (.loc l) [] H = some (v, H.set l (.list xs)) := by
  unfold pMeth
  simp only [h]
  rw [if_neg (by decide), if_pos trivial]
  have e : (xs ++ [v]).eraseIdx xs.length = xs := by rw [List.eraseIdx_append_of_length_le (Nat.le_refl _)]; simp
  simp [e]
theorem e_it0 {x : AV} {xs : List AV} : pItem (.tup (x :: xs)) (.int 0) = pure x := e_item_tup (k := 0) rfl
end Mine


set_option autoImplicit false
set_option linter.unusedVariables false
set_option maxRecDepth 100000
namespace Mine
open PySem PyProof.Rows

noncomputable def mixed (c k : Int) : Int := (((c + 7919 * k) * 48271).fmod 2147483647 * ((c + 7919 * k) * 48271).fmod 2147483647).fmod 2147483629
theorem mixed_ge (c k : Int) : 0 ≤ mixed c k := (fmod_lt _ (by decide)).1
noncomputable def cellAt (ns : List Int) (k : Nat) : Int := match ns[k]? with
  | some c => mixed c k
  | none => 0
theorem cellAt_ge (ns : List Int) (k : Nat) : 0 ≤ cellAt ns k := by
  unfold cellAt; split
  · exact mixed_ge _ _
  · decide
noncomputable def valueBy (c : Int) : Int := if c.fmod 4 = 0 then c.fdiv 4 * 7919 * 7919 * 7919 - 100000000000000000000 else (c.fdiv 4).fmod 5 - 1
theorem d4 : (4 : Int) ≠ 0 ∧ (4 : Int).natAbs < 1073741824 := ⟨by decide, by decide⟩
theorem d8 : (8 : Int) ≠ 0 ∧ (8 : Int).natAbs < 1073741824 := ⟨by decide, by decide⟩
theorem d12 : (12 : Int) ≠ 0 ∧ (12 : Int).natAbs < 1073741824 := ⟨by decide, by decide⟩
theorem d32 : (32 : Int) ≠ 0 ∧ (32 : Int).natAbs < 1073741824 := ⟨by decide, by decide⟩

/-- the kinds of deeds -/
inductive Dk where
  | push | pop | top | swap | clear
noncomputable def deedK (k : Dk) (v : Int) : AV := match k with
  | .push => .tup [.str "push", .int v]
  | .pop => .tup [.str "pop"]
  | .top => .tup [.str "top"]
  | .swap => .tup [.str "swap", .int v]
  | .clear => .tup [.str "clear"]
/-- what a deed answers, and what it leaves -/
noncomputable def plA (k : Dk) (xs : List Int) : AV := match k with
  | .push => .none
  | .clear => .tup (xs.map .int)
  | _ => match xs with
    | [] => .none
    | x :: _ => .int x
noncomputable def plV (k : Dk) (v : Int) (xs : List Int) : List Int := match k with
  | .push => v :: xs
  | .clear => []
  | .top => xs
  | .pop => xs.tail
  | .swap => match xs with
    | [] => []
    | _ :: r => v :: r
theorem plV_le (k : Dk) (v : Int) (xs : List Int) : (plV k v xs).length ≤ xs.length + 1 := by
  cases k <;> cases xs <;> simp [plV]
  omega
theorem m_addL {xs ys : List AV} (h : xs.length + ys.length ≤ LIM) : pBin false .Add (.lst xs) (.lst ys) = pure (.lst (xs ++ ys)) := by
  show (do let a ← listOf (.lst xs); let b ← listOf (.lst ys); newL false (a ++ b)) = _
  show newL false (xs ++ ys) = _
  exact e_newL (by rw [List.length_append]; exact h)
theorem cut1 (x : AV) (xs : List AV) : cut (x :: xs) (some 1) none = xs := by
  have : clipA (x :: xs).length 1 = 1 := by unfold clipA; simp; omega
  unfold cut
  simp only [Option.elim, this]
  simp
theorem cut1' : cut [] (some 1) none = [] := by unfold cut; simp
theorem slice1 (x : AV) (xs : List AV) (h : xs.length ≤ LIM) : pSlice false (.lst (x :: xs)) (some 1) none = pure (.lst xs) := by
  show newL false (cut (x :: xs) (some 1) none) = _
  rw [cut1, e_newL h]
theorem slice1' : pSlice false (.lst []) (some 1) none = pure (.lst []) := by
  show newL false (cut [] (some 1) none) = _
  rw [cut1', e_newL (Nat.zero_le _)]
theorem e_tup_lst {mu : Bool} {xs : List AV} : pBI mu .tuple [.lst xs] = pure (.tup xs) := rfl
theorem it_push (v : Int) : pItem (deedK .push v) (.int 0) = pure (.str "push") := by kernel_rfl
theorem it_pop (v : Int) : pItem (deedK .pop v) (.int 0) = pure (.str "pop") := by kernel_rfl
theorem it_top (v : Int) : pItem (deedK .top v) (.int 0) = pure (.str "top") := by kernel_rfl
theorem it_swap (v : Int) : pItem (deedK .swap v) (.int 0) = pure (.str "swap") := by kernel_rfl
theorem it_clear (v : Int) : pItem (deedK .clear v) (.int 0) = pure (.str "clear") := by kernel_rfl
theorem iv_push (v : Int) : pItem (deedK .push v) (.int 1) = pure (.int v) := by kernel_rfl
theorem iv_swap (v : Int) : pItem (deedK .swap v) (.int 1) = pure (.int v) := by kernel_rfl
theorem q_push_push : pCmp .Eq (.str "push") (.str "push") = pure true := by kernel_rfl
theorem q_pop_push : pCmp .Eq (.str "pop") (.str "push") = pure false := by kernel_rfl
theorem q_pop_pop : pCmp .Eq (.str "pop") (.str "pop") = pure true := by kernel_rfl
theorem q_pop_top : pCmp .Eq (.str "pop") (.str "top") = pure false := by kernel_rfl
theorem q_pop_swap : pCmp .Eq (.str "pop") (.str "swap") = pure false := by kernel_rfl
theorem q_pop_clear : pCmp .Eq (.str "pop") (.str "clear") = pure false := by kernel_rfl
theorem q_top_push : pCmp .Eq (.str "top") (.str "push") = pure false := by kernel_rfl
theorem q_top_pop : pCmp .Eq (.str "top") (.str "pop") = pure false := by kernel_rfl
theorem q_top_top : pCmp .Eq (.str "top") (.str "top") = pure true := by kernel_rfl
theorem q_top_swap : pCmp .Eq (.str "top") (.str "swap") = pure false := by kernel_rfl
theorem q_top_clear : pCmp .Eq (.str "top") (.str "clear") = pure false := by kernel_rfl
theorem q_swap_push : pCmp .Eq (.str "swap") (.str "push") = pure false := by kernel_rfl
theorem q_swap_pop : pCmp .Eq (.str "swap") (.str "pop") = pure false := by kernel_rfl
theorem q_swap_top : pCmp .Eq (.str "swap") (.str "top") = pure false := by kernel_rfl
theorem q_swap_swap : pCmp .Eq (.str "swap") (.str "swap") = pure true := by kernel_rfl
theorem q_swap_clear : pCmp .Eq (.str "swap") (.str "clear") = pure false := by kernel_rfl
theorem q_clear_push : pCmp .Eq (.str "clear") (.str "push") = pure false := by kernel_rfl
theorem q_clear_clear : pCmp .Eq (.str "clear") (.str "clear") = pure true := by kernel_rfl
theorem len0 (xs : List Int) : pBI false .len [.lst (xs.map .int)] = pure (.int xs.length) := by rw [e_len_lst, List.length_map]
theorem isnil (xs : List Int) : pCmp .NotEq (.lst (xs.map .int)) (.lst []) = pure (!xs.isEmpty) := by
  funext H
  show (pCmp .Eq (.lst (xs.map .int)) (.lst []) >>= fun r => pure (!r)) H = _
  obtain ⟨ds, h1, h2⟩ := mapM_ok (f := rd H 7) (xs := xs.map .int) fun x hx => by obtain ⟨i, _, rfl⟩ := List.mem_map.mp hx; exact ⟨_, rd_int⟩
  refine bind_of (a := xs.isEmpty) (H1 := H) ?_ rfl
  show (match rd H 8 (.lst (xs.map .int)), rd H 8 (.lst []) with | some x, some y => some (PyData.eqv x y, H) | _, _ => none) = _
  rw [rd_nil, show rd H 8 (.lst (xs.map .int)) = some (.list ds) from by unfold rd; rw [h1]; rfl]
  show some (PyData.eqv (.list ds) (.list []), H) = _
  rw [eqv_nil]
  have : ds.isEmpty = xs.isEmpty := by rw [List.length_map] at h2; cases ds <;> cases xs <;> simp_all
  rw [this]
theorem l0 {x : AV} {xs : List AV} : pItem (.lst (x :: xs)) (.int 0) = pure x := e_item_lst (k := 0) rfl
theorem decE {n : Nat} (h : n = 0) : (decide ((n : Int) = 0)) = true := by subst h; rfl
end Mine


set_option autoImplicit false
set_option linter.unusedVariables false
set_option maxRecDepth 100000
namespace Mine
open PySem PyProof.Rows

/-- a value of none, truths, ints, strs, and tuples and frozen lists of such, n levels deep at most -/
noncomputable def PlD : Nat → AV → Prop
  | _, .none => True
  | _, .bool _ => True
  | _, .int _ => True
  | _, .str x => PyData.strOk x = true
  | n + 1, .tup xs => ∀ a ∈ xs, PlD n a
  | n + 1, .lst xs => ∀ a ∈ xs, PlD n a
  | _, _ => False
theorem PlD.up : ∀ {n : Nat} {a : AV}, PlD n a → PlD (n + 1) a
  | n, .none, h => by unfold PlD; trivial
  | n, .bool _, h => by unfold PlD; trivial
  | n, .int _, h => by unfold PlD; trivial
  | n, .str x, h => by unfold PlD at h ⊢; exact h
  | 0, .tup xs, h => by unfold PlD at h; exact h.elim
  | 0, .lst xs, h => by unfold PlD at h; exact h.elim
  | n + 1, .tup xs, h => by unfold PlD at h ⊢; exact fun a ha => (h a ha).up
  | n + 1, .lst xs, h => by unfold PlD at h ⊢; exact fun a ha => (h a ha).up
  | n, .loc _, h => by unfold PlD at h; exact h.elim
  | n, .range _ _, h => by unfold PlD at h; exact h.elim
  | n, .cdict _, h => by unfold PlD at h; exact h.elim
theorem PlD.le {n m : Nat} {a : AV} (h : PlD n a) (hm : n ≤ m) : PlD m a := by
  induction hm with
  | refl => exact h
  | step _ ih => exact ih.up
theorem PlD.rd {H : AHeap} : ∀ {n : Nat} {a : AV}, PlD n a → ∃ d, rd H n a = some d
  | n, .none, h => ⟨_, by unfold Mine.rd; rfl⟩
  | n, .bool _, h => ⟨_, by unfold Mine.rd; rfl⟩
  | n, .int _, h => ⟨_, by unfold Mine.rd; rfl⟩
  | n, .str x, h => ⟨_, by unfold PlD at h; unfold Mine.rd; rw [if_pos h]⟩
  | 0, .tup xs, h => by unfold PlD at h; exact h.elim
  | 0, .lst xs, h => by unfold PlD at h; exact h.elim
  | n + 1, .tup xs, h => by
    unfold PlD at h
    obtain ⟨ds, h1, _⟩ := mapM_ok (f := Mine.rd H n) fun a ha => (h a ha).rd
    exact ⟨.tuple ds, by unfold Mine.rd; rw [h1]; rfl⟩
  | n + 1, .lst xs, h => by
    unfold PlD at h
    obtain ⟨ds, h1, _⟩ := mapM_ok (f := Mine.rd H n) fun a ha => (h a ha).rd
    exact ⟨.list ds, by unfold Mine.rd; rw [h1]; rfl⟩
  | n, .loc _, h => by unfold PlD at h; exact h.elim
  | n, .range _ _, h => by unfold PlD at h; exact h.elim
  | n, .cdict _, h => by unfold PlD at h; exact h.elim

noncomputable def tyB : AV → Ty → Bool
  | .bool _, .int => true
  | .bool _, .bool => true
  | .int _, .int => true
  | .str _, .str => true
  | .tup _, .tuple => true
  | .lst _, .list => true
  | _, _ => false
theorem e_isi {n : Nat} {a : AV} (h : PlD n a) (t : Ty) : pIsi a t = pure (tyB a t) := by
  cases a with
  | loc l => unfold PlD at h; exact h.elim
  | range _ _ => unfold PlD at h; exact h.elim
  | cdict _ => unfold PlD at h; exact h.elim
  | _ => cases t <;> rfl
theorem e_isiTL {n : Nat} {a : AV} (h : PlD n a) : pIsiTL a = pure (tyB a .tuple || tyB a .list) := by
  unfold pIsiTL
  rw [e_isi h, e_isi h]; rfl
theorem e_neb (a b : Bool) : pCmp .NotEq (.bool a) (.bool b) = pure (a != b) := by cases a <;> cases b <;> kernel_rfl
/-- the comparison with a leaf -/
theorem ne_leaf {H : AHeap} {x y : AV} (hx : PlD 8 x) (hy : PlD 8 y) (hl : tyB y .tuple = false ∧ tyB y .list = false) (hb : tyB x .bool = tyB y .bool) : ∃ b, pCmp .NotEq x y H = some (b, H) ∧ (b = false ↔ x = y) := by
  obtain ⟨d, h1⟩ := hx.rd (H := H)
  obtain ⟨e, h2⟩ := hy.rd (H := H)
  refine ⟨!PyData.eqv d e, bind_of (a := PyData.eqv d e) (H1 := H) ?_ rfl, ?_⟩
  · show (match rd H 8 x, rd H 8 y with | some x, some y => some (PyData.eqv x y, H) | _, _ => none) = _
    rw [h1, h2]
  rw [Bool.not_eq_false']
  cases y with
  | tup _ => exact (nomatch hl.1)
  | lst _ => exact (nomatch hl.2)
  | loc l => unfold PlD at hy; exact hy.elim
  | range _ _ => unfold PlD at hy; exact hy.elim
  | cdict _ => unfold PlD at hy; exact hy.elim
  | none =>
    unfold rd at h2; cases h2
    cases x with
    | none => unfold rd at h1; cases h1; simp [PyData.eqv]
    | bool _ => exact (nomatch hb)
    | int _ => unfold rd at h1; cases h1; simp [PyData.eqv]
    | str _ => unfold rd at h1; split at h1 <;> cases h1; simp [PyData.eqv]
    | tup _ => unfold rd at h1; obtain ⟨ds, _, rfl⟩ := Option.map_eq_some_iff.mp h1; simp [PyData.eqv]
    | lst _ => unfold rd at h1; obtain ⟨ds, _, rfl⟩ := Option.map_eq_some_iff.mp h1; simp [PyData.eqv]
    | _ => unfold PlD at hx; exact hx.elim
  | bool b =>
    unfold rd at h2; cases h2
    cases x with
    | bool c => unfold rd at h1; cases h1; simp [PyData.eqv]
    | _ => exact (nomatch hb)
  | int i =>
    unfold rd at h2; cases h2
    cases x with
    | none => unfold rd at h1; cases h1; simp [PyData.eqv]
    | bool _ => exact (nomatch hb)
    | int _ => unfold rd at h1; cases h1; simp [PyData.eqv]
    | str _ => unfold rd at h1; split at h1 <;> cases h1; simp [PyData.eqv]
    | tup _ => unfold rd at h1; obtain ⟨ds, _, rfl⟩ := Option.map_eq_some_iff.mp h1; simp [PyData.eqv]
    | lst _ => unfold rd at h1; obtain ⟨ds, _, rfl⟩ := Option.map_eq_some_iff.mp h1; simp [PyData.eqv]
    | _ => unfold PlD at hx; exact hx.elim
  | str s =>
    unfold rd at h2; split at h2 <;> cases h2
    cases x with
    | none => unfold rd at h1; cases h1; simp [PyData.eqv]
    | bool _ => exact (nomatch hb)
    | int _ => unfold rd at h1; cases h1; simp [PyData.eqv]
    | str _ => unfold rd at h1; split at h1 <;> cases h1; simp [PyData.eqv]
    | tup _ => unfold rd at h1; obtain ⟨ds, _, rfl⟩ := Option.map_eq_some_iff.mp h1; simp [PyData.eqv]
    | lst _ => unfold rd at h1; obtain ⟨ds, _, rfl⟩ := Option.map_eq_some_iff.mp h1; simp [PyData.eqv]
    | _ => unfold PlD at hx; exact hx.elim

mutual
noncomputable def sz : AV → Nat
  | .tup xs => 1 + szL xs
  | .lst xs => 1 + szL xs
  | .none => 1
  | .bool _ => 1
  | .int _ => 1
  | .str _ => 1
  | .loc _ => 1
  | .range _ _ => 1
  | .cdict _ => 1
noncomputable def szL : List AV → Nat
  | [] => 0
  | a :: r => sz a + szL r
end
theorem sz_pos (a : AV) : 1 ≤ sz a := by cases a <;> unfold sz <;> omega
noncomputable def prV (p : AV × AV) : AV := .tup [p.1, p.2]
noncomputable def msr : List (AV × AV) → Nat
  | [] => 0
  | p :: r => sz p.2 + msr r
theorem msr_app (a b : List (AV × AV)) : msr (a ++ b) = msr a + msr b := by
  induction a with
  | nil => show msr b = 0 + msr b; omega
  | cons x r ih => show sz x.2 + msr (r ++ b) = sz x.2 + msr r + msr b; omega
theorem msr_len (a : List (AV × AV)) : a.length ≤ msr a := by
  induction a with
  | nil => exact Nat.le_refl _
  | cons x r ih => have := sz_pos x.2; show r.length + 1 ≤ sz x.2 + msr r; omega
theorem msr_zip : ∀ {xs ys : List AV}, xs.length = ys.length → msr (xs.zip ys) = szL ys
  | [], [], _ => by unfold szL; rfl
  | x :: xs, y :: ys, h => by
    unfold szL
    show sz y + msr (xs.zip ys) = _
    rw [msr_zip (Nat.succ.inj h)]
  | [], _ :: _, h => by cases h
  | _ :: _, [], h => by cases h
theorem zip_map : ∀ (xs ys : List AV), List.zipWith (fun x y => AV.tup [x, y]) xs ys = (xs.zip ys).map prV
  | [], _ => by simp
  | _ :: _, [] => by simp
  | x :: xs, y :: ys => by
    show AV.tup [x, y] :: List.zipWith (fun x y => AV.tup [x, y]) xs ys = prV (x, y) :: (xs.zip ys).map prV
    rw [zip_map xs ys]; rfl
theorem zip_eq : ∀ {xs ys : List AV}, xs.length = ys.length → (xs = ys ↔ ∀ p ∈ xs.zip ys, p.1 = p.2)
  | [], [], _ => by simp
  | x :: xs, y :: ys, h => by
    simp only [List.zip_cons_cons, List.mem_cons, forall_eq_or_imp, List.cons.injEq]
    rw [zip_eq (Nat.succ.inj h)]
  | [], _ :: _, h => by cases h
  | _ :: _, [], h => by cases h
theorem set_far {H X : AHeap} {l : Nat} {o : AO} (h : H.length ≤ l) : (H ++ X).set l o = H ++ X.set (l - H.length) o := by
  rw [List.set_append, if_neg (by omega)]
theorem zipT {xs ys : List AV} (hl : xs.length = ys.length) (hz : xs.length ≤ LIM) : pZip false (.tup xs) (.tup ys) = pure (.lst ((xs.zip ys).map prV)) := by
  show (if (isTp (.tup xs) == isTp (.tup ys)) && decide (xs.length = ys.length) then newL false (List.zipWith (fun x y => .tup [x, y]) xs ys) else stuck : M AV) = _
  rw [decide_eq_true hl, zip_map]
  exact e_newL (by rw [List.length_map, List.length_zip]; omega)
theorem zipL {xs ys : List AV} (hl : xs.length = ys.length) (hz : xs.length ≤ LIM) : pZip false (.lst xs) (.lst ys) = pure (.lst ((xs.zip ys).map prV)) := by
  show (if (isTp (.lst xs) == isTp (.lst ys)) && decide (xs.length = ys.length) then newL false (List.zipWith (fun x y => .tup [x, y]) xs ys) else stuck : M AV) = _
  rw [decide_eq_true hl, zip_map]
  exact e_newL (by rw [List.length_map, List.length_zip]; omega)
theorem add_loc {H : AHeap} {l : Nat} {xs ys : List AV} (h : H[l]? = some (.list xs)) (hz : xs.length + ys.length ≤ LIM) : pBin true .Add (.loc l) (.lst ys) H = some (.loc H.length, H ++ [.list (xs ++ ys)]) :=
  bind_of (listOf_loc h) (show newL true (xs ++ ys) H = _ from newT (by rw [List.length_append]; exact hz))
theorem e_it1 {x y : AV} {xs : List AV} : pItem (.tup (x :: y :: xs)) (.int 1) = pure y := e_item_tup (k := 1) rfl
theorem e_nei {i j : Int} : pCmp .NotEq (.int i) (.int j) = pure (!decide (i = j)) := by
  show (pCmp .Eq (.int i) (.int j) >>= fun r => pure (!r)) = _
  rw [e_eqi]; rfl
theorem e_isN {a : AV} : pCmp .Is a .none = pure (pIsNone a) := rfl
end Mine


set_option autoImplicit false
set_option linter.unusedVariables false
set_option maxRecDepth 100000
namespace Mine
open PySem PyProof.Rows

/-- what a deed may answer -/
inductive Ans : AV → Prop
  | none : Ans .none
  | int (i : Int) : Ans (.int i)
  | tup (xs : List Int) (h : xs.length ≤ 1000) : Ans (.tup (xs.map .int))
theorem plA_ans {k : Dk} {xs : List Int} (h : xs.length ≤ 1000) : Ans (plA k xs) := by
  cases k with
  | push => exact .none
  | clear => exact .tup xs h
  | _ => cases xs with
    | nil => exact .none
    | cons x r => exact .int x
theorem Ans.pl {a : AV} (h : Ans a) : PlD 2 a := by
  cases h with
  | none => unfold PlD; trivial
  | int => unfold PlD; trivial
  | tup xs h =>
    unfold PlD
    intro x hx
    obtain ⟨i, _, rfl⟩ := List.mem_map.mp hx
    unfold PlD; trivial
theorem szL_ints (xs : List Int) : szL (xs.map .int) = xs.length := by
  induction xs with
  | nil => unfold szL; rfl
  | cons x r ih => unfold szL sz; rw [List.map_cons]; simp only []; rw [ih, List.length_cons]; omega
theorem Ans.sz {a : AV} (h : Ans a) : sz a ≤ 1001 := by
  cases h with
  | none => unfold Mine.sz; omega
  | int => unfold Mine.sz; omega
  | tup xs h => unfold Mine.sz; rw [szL_ints]; omega
theorem mapM_ints {H : AHeap} {n : Nat} (xs : List Int) : (xs.map AV.int).mapM (rd H n) = some (xs.map .int) := by
  induction xs with
  | nil => rfl
  | cons x r ih => rw [List.map_cons, List.mapM_cons, rd_int, ih]; rfl
theorem eqv_ints : ∀ (xs ys : List Int), PyData.eqvAll (xs.map .int) (ys.map .int) = true ↔ xs = ys
  | [], [] => by simp [PyData.eqvAll]
  | [], _ :: _ => by simp [PyData.eqvAll]
  | _ :: _, [] => by simp [PyData.eqvAll]
  | x :: xs, y :: ys => by
    simp only [List.map_cons, PyData.eqvAll, PyData.eqv, Bool.and_eq_true, beq_iff_eq, List.cons.injEq]
    rw [eqv_ints xs ys]
theorem ints_inj : ∀ {xs ys : List Int}, xs.map AV.int = ys.map AV.int → xs = ys
  | [], [], _ => rfl
  | [], _ :: _, h => by cases h
  | _ :: _, [], h => by cases h
  | x :: xs, y :: ys, h => by
    simp only [List.map_cons, List.cons.injEq, AV.int.injEq] at h
    rw [h.1, ints_inj h.2]
theorem rd_ints {H : AHeap} {n : Nat} (xs : List Int) : rd H (n + 1) (.lst (xs.map .int)) = some (.list (xs.map .int)) := by unfold rd; rw [mapM_ints]; rfl
theorem ne_ans {H : AHeap} {a b : AV} (ha : Ans a) (hb : Ans b) : ∃ c, pCmp .NotEq a b H = some (c, H) ∧ (c = false ↔ a = b) := by
  cases hb with
  | none => exact ne_leaf (ha.pl.le (by omega)) (by unfold PlD; trivial) ⟨rfl, rfl⟩ (by cases ha <;> rfl)
  | int i => exact ne_leaf (ha.pl.le (by omega)) (by unfold PlD; trivial) ⟨rfl, rfl⟩ (by cases ha <;> rfl)
  | tup ys hy =>
    have h2 : rd H 8 (.tup (ys.map .int)) = some (.tuple (ys.map .int)) := by unfold rd; rw [mapM_ints]; rfl
    have key : ∀ d, rd H 8 a = some d → pCmp .NotEq a (.tup (ys.map .int)) H = some (!PyData.eqv d (.tuple (ys.map .int)), H) := fun d h1 => by
      refine bind_of (a := PyData.eqv d (.tuple (ys.map .int))) (H1 := H) ?_ rfl
      show (match rd H 8 a, rd H 8 (.tup (ys.map .int)) with | some x, some y => some (PyData.eqv x y, H) | _, _ => none) = _
      rw [h1, h2]
    cases ha with
    | none => exact ⟨_, key .none (by unfold rd; rfl), by simp [PyData.eqv]⟩
    | int i => exact ⟨_, key (.int i) (by unfold rd; rfl), by simp [PyData.eqv]⟩
    | tup xs hx =>
      refine ⟨_, key (.tuple (xs.map .int)) (by unfold rd; rw [mapM_ints]; rfl), ?_⟩
      rw [Bool.not_eq_false', PyData.eqv, eqv_ints]
      exact ⟨fun h => by rw [h], fun h => ints_inj (AV.tup.inj h)⟩
theorem ne_same_ints {H : AHeap} (xs : List Int) : pCmp .NotEq (.lst (xs.map .int)) (.lst (xs.map .int)) H = some (false, H) := by
  refine bind_of (a := true) (H1 := H) (eq_same (rd_ints xs) (rd_ints xs)) rfl

/-- a row -/
structure Rw where
  i : Int
  k : Dk
  v : Int
  e : Bool
  an : AV
noncomputable def rowV (r : Rw) : AV := .tup [.int r.i, .int 0, deedK r.k r.v, .int r.i, .int r.i, cond r.e (.int r.i) .none, r.an]
noncomputable def okR (r : Rw) (xs : List Int) : Prop := r.e = true → plA r.k xs = r.an
theorem row2 (r : Rw) : pItem (rowV r) (.int 2) = pure (deedK r.k r.v) := e_item_tup (k := 2) rfl
theorem row5 (r : Rw) : pItem (rowV r) (.int 5) = pure (cond r.e (.int r.i) .none) := e_item_tup (k := 5) rfl
theorem row6 (r : Rw) : pItem (rowV r) (.int 6) = pure r.an := e_item_tup (k := 6) rfl
theorem isnot_e (b : Bool) (i : Int) : pCmp .IsNot (cond b (.int i) .none) .none = pure b := by cases b <;> rfl
/-- the values behind the deeds of the rows at some places -/
noncomputable def stepV (R : List Rw) (xs : List Int) (p : Nat) : List Int := match R[p]? with
  | some r => plV r.k r.v xs
  | none => xs
noncomputable def runV (R : List Rw) (ps : List Nat) (xs : List Int) : List Int := ps.foldl (stepV R) xs
noncomputable def good (R : List Rw) (ps : List Nat) (xs : List Int) (n : Nat) : Prop := ∀ (i p : Nat) (r : Rw), i < n → ps[i]? = some p → R[p]? = some r → okR r (runV R (ps.take i) xs)
theorem runV_succ {R : List Rw} {ps : List Nat} {xs : List Int} {i p : Nat} {r : Rw} (h1 : ps[i]? = some p) (h2 : R[p]? = some r) : runV R (ps.take (i + 1)) xs = plV r.k r.v (runV R (ps.take i) xs) := by
  unfold runV
  rw [List.take_add_one, h1, List.foldl_append]
  show stepV R _ p = _
  unfold stepV; rw [h2]
theorem runV_len (R : List Rw) : ∀ (ps : List Nat) (xs : List Int), (runV R ps xs).length ≤ xs.length + ps.length
  | [], xs => Nat.le_refl _
  | p :: ps, xs => by
    show (runV R ps (stepV R xs p)).length ≤ _
    have h1 := runV_len R ps (stepV R xs p)
    have h2 : (stepV R xs p).length ≤ xs.length + 1 := by
      unfold stepV; split
      · exact plV_le ..
      · omega
    simp; omega
theorem good_succ {R : List Rw} {ps : List Nat} {xs : List Int} {i p : Nat} {r : Rw} (h1 : ps[i]? = some p) (h2 : R[p]? = some r) : good R ps xs (i + 1) ↔ good R ps xs i ∧ okR r (runV R (ps.take i) xs) := by
  constructor
  · exact fun h => ⟨fun j p r hj => h j p r (by omega), h i p r (by omega) h1 h2⟩
  · rintro ⟨h, h'⟩ j q s hj h3 h4
    by_cases hji : j < i
    · exact h j q s hji h3 h4
    · have : j = i := by omega
      subst this
      rw [h1] at h3; cases h3
      rw [h2] at h4; cases h4
      exact h'
theorem good_mono {R : List Rw} {ps : List Nat} {xs : List Int} {n m : Nat} (h : good R ps xs m) (hn : n ≤ m) : good R ps xs n := fun j p r hj => h j p r (by omega)
end Mine


set_option autoImplicit false
set_option linter.unusedVariables false
set_option maxRecDepth 100000
namespace Mine
open PySem PyProof.Rows
noncomputable def P05 : Pg := ⟨fnOf PySem.Challenge.pw_uf020017_05, fun _ => none, fun p => ([(53, 16, 45), (61, 24, 73), (94, 16, 38), (95, 17, 19), (112, 16, 18)] : List (Nat × Nat × Nat)).contains (p.line, p.col, p.endCol)⟩
theorem c_played_0 (cf : Str → List AV → M AV) (v_values v_deed : AV) : tl P05 cf "played" [] 0 40 [some v_values, some v_deed] = (do let c1 ← (do let b2 ← (do let v3 ← (cf "is_deed" [v_deed]); truth v3); pure (!b2)); match c1 with | true => (do let r ← stuck; goOn (tl P05 cf "played" [] 1 39) r) | false => (do let r ← pure (.next [some v_values, some v_deed]); goOn (tl P05 cf "played" [] 1 39) r)) := by kernel_rfl
theorem c_played_t_1 (cf : Str → List AV → M AV) (v_values v_deed : AV) : tl P05 cf "played" [] 1 39 [some v_values, some v_deed] = (do let c1 ← (do let v7 ← (pItem v_deed (.int 0)); pCmp .Eq v7 (.str "push")); match c1 with | true => (do let r ← (do let y6 ← (do let vs5 ← eachM [pure (.none), (do let x3 ← (do let vs2 ← eachM [(pItem v_deed (.int 1))]; newL false vs2); let x4 ← (pBI false .list [v_values]); pBin false .Add x3 x4)]; pure (.tup vs5)); pure (.ret y6)); goOn (tl P05 cf "played" [] 2 38) r) | false => (do let r ← pure (.next [some v_values, some v_deed]); goOn (tl P05 cf "played" [] 2 38) r)) := by kernel_rfl
theorem c_played_t_2 (cf : Str → List AV → M AV) (v_values v_deed : AV) : tl P05 cf "played" [] 2 38 [some v_values, some v_deed] = (do let c1 ← (do let v4 ← (pItem v_deed (.int 0)); pCmp .Eq v4 (.str "clear")); match c1 with | true => (do let r ← (do let y3 ← (do let vs2 ← eachM [(pBI false .tuple [v_values]), (newL false [])]; pure (.tup vs2)); pure (.ret y3)); goOn (tl P05 cf "played" [] 3 37) r) | false => (do let r ← pure (.next [some v_values, some v_deed]); goOn (tl P05 cf "played" [] 3 37) r)) := by kernel_rfl
theorem c_played_t_3 (cf : Str → List AV → M AV) (v_values : AV) (o_deed : Option AV) : tl P05 cf "played" [] 3 37 [some v_values, o_deed] = (do let c1 ← (do let v4 ← (pBI false .len [v_values]); pCmp .Eq v4 (.int 0)); match c1 with | true => (do let r ← (do let y3 ← (do let vs2 ← eachM [pure (.none), (newL false [])]; pure (.tup vs2)); pure (.ret y3)); goOn (tl P05 cf "played" [] 4 36) r) | false => (do let r ← pure (.next [some v_values, o_deed]); goOn (tl P05 cf "played" [] 4 36) r)) := by kernel_rfl
theorem c_played_t_4 (cf : Str → List AV → M AV) (v_values v_deed : AV) : tl P05 cf "played" [] 4 36 [some v_values, some v_deed] = (do let c1 ← (do let v4 ← (pItem v_deed (.int 0)); pCmp .Eq v4 (.str "top")); match c1 with | true => (do let r ← (do let y3 ← (do let vs2 ← eachM [(pItem v_values (.int 0)), (pBI false .list [v_values])]; pure (.tup vs2)); pure (.ret y3)); goOn (tl P05 cf "played" [] 5 35) r) | false => (do let r ← pure (.next [some v_values, some v_deed]); goOn (tl P05 cf "played" [] 5 35) r)) := by kernel_rfl
theorem c_played_t_5 (cf : Str → List AV → M AV) (v_values v_deed : AV) : tl P05 cf "played" [] 5 35 [some v_values, some v_deed] = (do let c1 ← (do let v11 ← (pItem v_deed (.int 0)); pCmp .Eq v11 (.str "swap")); match c1 with | true => (do let r ← (do let y10 ← (do let vs9 ← eachM [(pItem v_values (.int 0)), (do let x7 ← (do let vs2 ← eachM [(pItem v_deed (.int 1))]; newL false vs2); let x8 ← (do let vs6 ← eachM [(do let o3 ← pure v_values; let i4 ← pure (some 1); let j5 ← pure none; pSlice false o3 i4 j5)]; pBI false .list vs6); pBin false .Add x7 x8)]; pure (.tup vs9)); pure (.ret y10)); goOn (tl P05 cf "played" [] 6 34) r) | false => (do let r ← pure (.next [some v_values, some v_deed]); goOn (tl P05 cf "played" [] 6 34) r)) := by kernel_rfl
theorem c_played_t_6 (cf : Str → List AV → M AV) (v_values : AV) (o_deed : Option AV) : tl P05 cf "played" [] 6 34 [some v_values, o_deed] = (do let y6 ← (do let vs5 ← eachM [(pItem v_values (.int 0)), (do let vs4 ← eachM [(do let o1 ← pure v_values; let i2 ← pure (some 1); let j3 ← pure none; pSlice false o1 i2 j3)]; pBI false .list vs4)]; pure (.tup vs5)); pure (.ret y6)) := by kernel_rfl
theorem c_behind_0 (cf : Str → List AV → M AV) (v_values v_row : AV) : tl P05 cf "behind" [] 0 40 [some v_values, some v_row, none, none] = (do let v3 ← (do let vs1 ← eachM [pure v_values, (pItem v_row (.int 2))]; cf "played" vs1); let pr2 ← pairOf v3; (do let c4 ← (do let t5 ← (do let v6 ← (pItem v_row (.int 5)); pCmp .IsNot v6 (.none)); match t5 with | false => pure false | true => (do let t7 ← ((do let c8 ← (pItem v_row (.int 6)); pCmp .NotEq pr2.1 c8)); match t7 with | false => pure false | true => pure true)); match c4 with | true => (do let r ← pure (.ret (.none)); goOn (tl P05 cf "behind" [] 2 38) r) | false => (do let r ← pure (.next [some v_values, some v_row, some pr2.1, some pr2.2]); goOn (tl P05 cf "behind" [] 2 38) r))) := by kernel_rfl
theorem c_behind_t_2 (cf : Str → List AV → M AV) (v_found : AV) (o_values o_row o_answer : Option AV) : tl P05 cf "behind" [] 2 38 [o_values, o_row, o_answer, some v_found] = pure (.ret v_found) := by kernel_rfl
theorem c_gives_answers_0 (cf : Str → List AV → M AV) (v_start v_rows v_order : AV) : tl P05 cf "gives_answers" [] 0 40 [some v_start, some v_rows, some v_order, none, none] = (do let values1 ← (pBI false .list [v_start]); (do let it2 ← pure v_order; let src3 ← srcOf it2; let r ← forLoop src3 (forB P05 cf "gives_answers" [] 1 38) FUEL 0 [some v_start, some v_rows, some v_order, some values1, none]; goOn (tl P05 cf "gives_answers" [] 2 38) r)) := by kernel_rfl
theorem c_gives_answers_t_2 (cf : Str → List AV → M AV) (o_start o_rows o_order o_values o_place : Option AV) : tl P05 cf "gives_answers" [] 2 38 [o_start, o_rows, o_order, o_values, o_place] = pure (.ret (.bool true)) := by kernel_rfl
theorem c_gives_answers_for_1 (cf : Str → List AV → M AV) (v_rows v_values : AV) (o_start o_order o_place : Option AV) (a : AV) : forB P05 cf "gives_answers" [] 1 38 a [o_start, some v_rows, o_order, some v_values, o_place] = (do let values2 ← (do let vs1 ← eachM [pure v_values, (pItem v_rows a)]; cf "behind" vs1); (do let c3 ← (pCmp .Is values2 (.none)); match c3 with | true => (do let r ← pure (.ret (.bool false)); goOn (fun σ => pure (.next σ)) r) | false => (do let r ← pure (.next [o_start, some v_rows, o_order, some values2, some a]); goOn (fun σ => pure (.next σ)) r))) := by kernel_rfl
theorem c_mixed_0 (cf : Str → List AV → M AV) (v_cell v_k : AV) : tl P05 cf "_law_mixed" [] 0 40 [some v_cell, some v_k, none] = (do let left4 ← (do let x3 ← (do let x2 ← (do let x1 ← (pBin false .Mult (.int 7919) v_k); pBin false .Add v_cell x1); pBin false .Mult x2 (.int 48271)); pBin false .Mod x3 (.int 2147483647)); (do let y6 ← (do let x5 ← (pBin false .Mult left4 left4); pBin false .Mod x5 (.int 2147483629)); pure (.ret y6))) := by kernel_rfl
theorem c_cell_at_0 (cf : Str → List AV → M AV) (v_script v_k : AV) : tl P05 cf "_law_cell_at" [] 0 40 [some v_script, some v_k] = (do let c1 ← ((do let c4 ← (pBI false .len [v_script]); pCmp .Lt v_k c4)); match c1 with | true => (do let r ← (do let y3 ← (do let vs2 ← eachM [(pItem v_script v_k), pure v_k]; cf "_law_mixed" vs2); pure (.ret y3)); goOn (tl P05 cf "_law_cell_at" [] 1 39) r) | false => (do let r ← pure (.next [some v_script, some v_k]); goOn (tl P05 cf "_law_cell_at" [] 1 39) r)) := by kernel_rfl
theorem c_cell_at_t_1 (cf : Str → List AV → M AV) (o_script o_k : Option AV) : tl P05 cf "_law_cell_at" [] 1 39 [o_script, o_k] = pure (.ret (.int 0)) := by kernel_rfl
theorem c_alike_0 (cf : Str → List AV → M AV) (v_found v_due_here : AV) : tl P05 cf "_law_alike" [] 0 40 [some v_found, some v_due_here, none, none] = (do let rest1 ← (newL true [.tup [v_found, v_due_here]]); (do let r ← whileLoop (whileT P05 cf "_law_alike" [] 1 38) (whileB P05 cf "_law_alike" [] 1 38) FUEL [some v_found, some v_due_here, some rest1, none]; goOn (tl P05 cf "_law_alike" [] 2 38) r)) := by kernel_rfl
theorem c_alike_t_2 (cf : Str → List AV → M AV) (o_found o_due_here o_rest o_pair : Option AV) : tl P05 cf "_law_alike" [] 2 38 [o_found, o_due_here, o_rest, o_pair] = pure (.ret (.bool true)) := by kernel_rfl
theorem c_alike_while_1t (cf : Str → List AV → M AV) (v_rest : AV) (o_found o_due_here o_pair : Option AV) : whileT P05 cf "_law_alike" [] 1 38 [o_found, o_due_here, some v_rest, o_pair] = ((do let c1 ← (newL false []); pCmp .NotEq v_rest c1)) := by kernel_rfl
theorem c_alike_while_1b (cf : Str → List AV → M AV) (v_rest : AV) (o_found o_due_here o_pair : Option AV) : whileB P05 cf "_law_alike" [] 1 38 [o_found, o_due_here, some v_rest, o_pair] = (do let pair2 ← (do let o1 ← pure v_rest; let _ ← listOf o1; (pMeth "pop" o1 [])); (do let c3 ← (do let v46 ← (do let v44 ← (pItem pair2 (.int 1)); let b45 ← pIsiTL v44; pure (.bool b45)); truth v46); match c3 with | true => (do let r ← (do let c4 ← (do let v7 ← (do let v5 ← (pItem pair2 (.int 0)); let b6 ← pIsi v5 .tuple; pure (.bool b6)); (do let c10 ← (do let v8 ← (pItem pair2 (.int 1)); let b9 ← pIsi v8 .tuple; pure (.bool b9)); pCmp .NotEq v7 c10)); match c4 with | true => (do let r ← pure (.ret (.bool false)); goOn (tl P05 cf "_law_alike" [(1, 0), (1, 0)] 1 35) r) | false => (do let r ← pure (.next [o_found, o_due_here, some v_rest, some pair2]); goOn (tl P05 cf "_law_alike" [(1, 0), (1, 0)] 1 35) r)); goOn (fun σ => pure (.next σ)) r) | false => (do let r ← (do let c11 ← (do let t38 ← (do let v39 ← (pItem pair2 (.int 1)); pCmp .Is v39 (.none)); match t38 with | true => pure true | false => (do let t40 ← (do let v43 ← (do let v41 ← (pItem pair2 (.int 1)); let b42 ← pIsi v41 .bool; pure (.bool b42)); truth v43); match t40 with | true => pure true | false => pure false)); match c11 with | true => (do let r ← (do let c12 ← (do let t13 ← (do let v16 ← (do let v14 ← (pItem pair2 (.int 0)); let b15 ← pIsi v14 .bool; pure (.bool b15)); (do let c19 ← (do let v17 ← (pItem pair2 (.int 1)); let b18 ← pIsi v17 .bool; pure (.bool b18)); pCmp .NotEq v16 c19)); match t13 with | true => pure true | false => (do let t20 ← (do let v21 ← (pItem pair2 (.int 0)); (do let c22 ← (pItem pair2 (.int 1)); pCmp .NotEq v21 c22)); match t20 with | true => pure true | false => pure false)); match c12 with | true => (do let r ← pure (.ret (.bool false)); goOn (fun σ => pure (.next σ)) r) | false => (do let r ← pure (.next [o_found, o_due_here, some v_rest, some pair2]); goOn (fun σ => pure (.next σ)) r)); goOn (fun σ => pure (.next σ)) r) | false => (do let r ← (do let c23 ← (do let t24 ← (do let v27 ← (do let v25 ← (pItem pair2 (.int 0)); let b26 ← pIsi v25 .str; pure (.bool b26)); (do let c30 ← (do let v28 ← (pItem pair2 (.int 1)); let b29 ← pIsi v28 .str; pure (.bool b29)); pCmp .NotEq v27 c30)); match t24 with | true => pure true | false => (do let t31 ← (do let v34 ← (do let v32 ← (pItem pair2 (.int 0)); let b33 ← pIsi v32 .bool; pure (.bool b33)); truth v34); match t31 with | true => pure true | false => (do let t35 ← (do let v36 ← (pItem pair2 (.int 0)); (do let c37 ← (pItem pair2 (.int 1)); pCmp .NotEq v36 c37)); match t35 with | true => pure true | false => pure false))); match c23 with | true => (do let r ← pure (.ret (.bool false)); goOn (fun σ => pure (.next σ)) r) | false => (do let r ← pure (.next [o_found, o_due_here, some v_rest, some pair2]); goOn (fun σ => pure (.next σ)) r)); goOn (fun σ => pure (.next σ)) r)); goOn (fun σ => pure (.next σ)) r))) := by kernel_rfl
theorem c_alike_t10_10_1 (cf : Str → List AV → M AV) (v_pair : AV) (o_found o_due_here o_rest : Option AV) : tl P05 cf "_law_alike" [(1, 0), (1, 0)] 1 35 [o_found, o_due_here, o_rest, some v_pair] = (do let c1 ← (do let t2 ← (do let v5 ← (do let v3 ← (pItem v_pair (.int 0)); let b4 ← pIsi v3 .list; pure (.bool b4)); (do let c8 ← (do let v6 ← (pItem v_pair (.int 1)); let b7 ← pIsi v6 .list; pure (.bool b7)); pCmp .NotEq v5 c8)); match t2 with | true => pure true | false => (do let t9 ← (do let v11 ← (do let vs10 ← eachM [(pItem v_pair (.int 0))]; pBI false .len vs10); (do let c13 ← (do let vs12 ← eachM [(pItem v_pair (.int 1))]; pBI false .len vs12); pCmp .NotEq v11 c13)); match t9 with | true => pure true | false => pure false)); match c1 with | true => (do let r ← pure (.ret (.bool false)); goOn (tl P05 cf "_law_alike" [(1, 0), (1, 0)] 2 34) r) | false => (do let r ← pure (.next [o_found, o_due_here, o_rest, some v_pair]); goOn (tl P05 cf "_law_alike" [(1, 0), (1, 0)] 2 34) r)) := by kernel_rfl
theorem c_alike_t10_10_2 (cf : Str → List AV → M AV) (v_rest v_pair : AV) (o_found o_due_here : Option AV) : tl P05 cf "_law_alike" [(1, 0), (1, 0)] 2 34 [o_found, o_due_here, some v_rest, some v_pair] = (do let rest4 ← (do let x3 ← (do let x1 ← (pItem v_pair (.int 0)); let x2 ← (pItem v_pair (.int 1)); pZip false x1 x2); pBin true .Add v_rest x3); pure (.next [o_found, o_due_here, some rest4, some v_pair])) := by kernel_rfl
theorem c_value_by_0 (cf : Str → List AV → M AV) (v_cell : AV) : tl P05 cf "_law_value_by" [] 0 40 [some v_cell] = (do let c1 ← (do let v8 ← (pBin false .Mod v_cell (.int 4)); pCmp .Eq v8 (.int 0)); match c1 with | true => (do let r ← (do let y7 ← (do let x5 ← (do let x4 ← (do let x3 ← (do let x2 ← (pBin false .FloorDiv v_cell (.int 4)); pBin false .Mult x2 (.int 7919)); pBin false .Mult x3 (.int 7919)); pBin false .Mult x4 (.int 7919)); let x6 ← (pBin false .Pow (.int 10) (.int 20)); pBin false .Sub x5 x6); pure (.ret y7)); goOn (tl P05 cf "_law_value_by" [] 1 39) r) | false => (do let r ← pure (.next [some v_cell]); goOn (tl P05 cf "_law_value_by" [] 1 39) r)) := by kernel_rfl
theorem c_value_by_t_1 (cf : Str → List AV → M AV) (v_cell : AV) : tl P05 cf "_law_value_by" [] 1 39 [some v_cell] = (do let y3 ← (do let x2 ← (do let x1 ← (pBin false .FloorDiv v_cell (.int 4)); pBin false .Mod x1 (.int 5)); pBin false .Sub x2 (.int 1)); pure (.ret y3)) := by kernel_rfl
theorem c_deed_by_0 (cf : Str → List AV → M AV) (v_cell : AV) : tl P05 cf "_law_deed_by" [] 0 40 [some v_cell, none] = (do let name3 ← (do let x1 ← (newL false [.str "push", .str "push", .str "push", .str "push", .str "pop", .str "pop", .str "pop", .str "top", .str "top", .str "swap", .str "swap", .str "clear"]); let x2 ← (pBin false .Mod v_cell (.int 12)); pItem x1 x2); (do let c4 ← ((do let c8 ← (newL false [.str "push", .str "swap"]); pCmp .In name3 c8)); match c4 with | true => (do let r ← (do let y7 ← (do let vs6 ← eachM [pure name3, (do let vs5 ← eachM [(pBin false .FloorDiv v_cell (.int 12))]; cf "_law_value_by" vs5)]; pure (.tup vs6)); pure (.ret y7)); goOn (tl P05 cf "_law_deed_by" [] 2 38) r) | false => (do let r ← pure (.next [some v_cell, some name3]); goOn (tl P05 cf "_law_deed_by" [] 2 38) r))) := by kernel_rfl
theorem c_deed_by_t_2 (cf : Str → List AV → M AV) (v_name : AV) (o_cell : Option AV) : tl P05 cf "_law_deed_by" [] 2 38 [o_cell, some v_name] = pure (.ret (.tup [v_name])) := by kernel_rfl
theorem c_start_by_0 (cf : Str → List AV → M AV) (v_cell : AV) : tl P05 cf "_law_start_by" [] 0 40 [some v_cell, none] = (do let size1 ← (pBin false .Mod v_cell (.int 4)); (do let c2 ← (do let v6 ← (do let x5 ← (pBin false .FloorDiv v_cell (.int 4)); pBin false .Mod x5 (.int 8)); pCmp .Eq v6 (.int 1)); match c2 with | true => (do let r ← (do let size4 ← (do let x3 ← (pBin false .FloorDiv v_cell (.int 32)); pBin false .Mod x3 (.int 61)); pure (.next [some v_cell, some size4])); goOn (tl P05 cf "_law_start_by" [] 2 38) r) | false => (do let r ← pure (.next [some v_cell, some size1]); goOn (tl P05 cf "_law_start_by" [] 2 38) r))) := by kernel_rfl
theorem c_start_by_t_2 (cf : Str → List AV → M AV) (v_cell v_size : AV) : tl P05 cf "_law_start_by" [] 2 38 [some v_cell, some v_size] = (do let y10 ← (do let it7 ← (pBI false .range [v_size]); let src8 ← srcOf it7; let ys9 ← compLoop src8 (fun u1 => (do let y2 ← (do let vs4 ← eachM [(do let vs3 ← eachM [(pBin false .FloorDiv v_cell (.int 8)), pure u1]; cf "_law_mixed" vs3)]; cf "_law_value_by" vs4); pure (some y2))) FUEL 0 []; newL false ys9); pure (.ret y10)) := by kernel_rfl
theorem c_lplayed_0 (cf : Str → List AV → M AV) (v_values v_deed : AV) : tl P05 cf "_law_played" [] 0 40 [some v_values, some v_deed, none] = (do let c1 ← (do let v6 ← (pItem v_deed (.int 0)); pCmp .Eq v6 (.str "push")); match c1 with | true => (do let r ← (do let y5 ← (do let vs4 ← eachM [pure (.none), (do let x3 ← (do let vs2 ← eachM [(pItem v_deed (.int 1))]; newL false vs2); pBin false .Add x3 v_values)]; pure (.tup vs4)); pure (.ret y5)); goOn (tl P05 cf "_law_played" [] 1 39) r) | false => (do let r ← pure (.next [some v_values, some v_deed, none]); goOn (tl P05 cf "_law_played" [] 1 39) r)) := by kernel_rfl
theorem c_lplayed_t_1 (cf : Str → List AV → M AV) (v_values v_deed : AV) (o_answer : Option AV) : tl P05 cf "_law_played" [] 1 39 [some v_values, some v_deed, o_answer] = (do let c1 ← (do let v4 ← (pItem v_deed (.int 0)); pCmp .Eq v4 (.str "clear")); match c1 with | true => (do let r ← (do let y3 ← (do let vs2 ← eachM [(pBI false .tuple [v_values]), (newL false [])]; pure (.tup vs2)); pure (.ret y3)); goOn (tl P05 cf "_law_played" [] 2 38) r) | false => (do let r ← pure (.next [some v_values, some v_deed, o_answer]); goOn (tl P05 cf "_law_played" [] 2 38) r)) := by kernel_rfl
theorem c_lplayed_t_2 (cf : Str → List AV → M AV) (v_values v_deed : AV) (o_answer : Option AV) : tl P05 cf "_law_played" [] 2 38 [some v_values, some v_deed, o_answer] = (do let answer3 ← (do let x2 ← (do let x1 ← (newL false [.none]); pBin false .Add v_values x1); pItem x2 (.int 0)); (do let c4 ← (do let t13 ← (do let v14 ← (pItem v_deed (.int 0)); pCmp .Eq v14 (.str "swap")); match t13 with | false => pure false | true => (do let t15 ← ((do let c16 ← (newL false []); pCmp .NotEq v_values c16)); match t15 with | false => pure false | true => pure true)); match c4 with | true => (do let r ← (do let y12 ← (do let vs11 ← eachM [pure answer3, (do let x9 ← (do let vs5 ← eachM [(pItem v_deed (.int 1))]; newL false vs5); let x10 ← (do let o6 ← pure v_values; let i7 ← pure (some 1); let j8 ← pure none; pSlice false o6 i7 j8); pBin false .Add x9 x10)]; pure (.tup vs11)); pure (.ret y12)); goOn (tl P05 cf "_law_played" [] 4 36) r) | false => (do let r ← pure (.next [some v_values, some v_deed, some answer3]); goOn (tl P05 cf "_law_played" [] 4 36) r))) := by kernel_rfl
theorem c_lplayed_t_4 (cf : Str → List AV → M AV) (v_values v_deed v_answer : AV) : tl P05 cf "_law_played" [] 4 36 [some v_values, some v_deed, some v_answer] = (do let c1 ← (do let v7 ← (pItem v_deed (.int 0)); pCmp .Eq v7 (.str "pop")); match c1 with | true => (do let r ← (do let y6 ← (do let vs5 ← eachM [pure v_answer, (do let o2 ← pure v_values; let i3 ← pure (some 1); let j4 ← pure none; pSlice false o2 i3 j4)]; pure (.tup vs5)); pure (.ret y6)); goOn (tl P05 cf "_law_played" [] 5 35) r) | false => (do let r ← pure (.next [some v_values, some v_deed, some v_answer]); goOn (tl P05 cf "_law_played" [] 5 35) r)) := by kernel_rfl
theorem c_lplayed_t_5 (cf : Str → List AV → M AV) (v_values v_answer : AV) (o_deed : Option AV) : tl P05 cf "_law_played" [] 5 35 [some v_values, o_deed, some v_answer] = (do let y2 ← (do let vs1 ← eachM [pure v_answer, (pBI false .list [v_values])]; pure (.tup vs1)); pure (.ret y2)) := by kernel_rfl
theorem c_order_by_0 (cf : Str → List AV → M AV) (v_cell v_size : AV) : tl P05 cf "_law_order_by" [] 0 40 [some v_cell, some v_size, none, none] = (do let rest2 ← (do let vs1 ← eachM [(pBI false .range [v_size])]; pBI true .list vs1); (do let order3 ← (newL true []); (do let r ← whileLoop (whileT P05 cf "_law_order_by" [] 2 37) (whileB P05 cf "_law_order_by" [] 2 37) FUEL [some v_cell, some v_size, some rest2, some order3]; goOn (tl P05 cf "_law_order_by" [] 3 37) r))) := by kernel_rfl
theorem c_order_by_t_3 (cf : Str → List AV → M AV) (v_order : AV) (o_cell o_size o_rest : Option AV) : tl P05 cf "_law_order_by" [] 3 37 [o_cell, o_size, o_rest, some v_order] = pure (.ret v_order) := by kernel_rfl
theorem c_order_by_while_2t (cf : Str → List AV → M AV) (v_cell v_rest v_order : AV) (o_size : Option AV) : whileT P05 cf "_law_order_by" [] 2 37 [some v_cell, o_size, some v_rest, some v_order] = (do let t1 ← ((do let c2 ← (newL false []); pCmp .NotEq v_rest c2)); match t1 with | false => pure false | true => (do let t3 ← (do let t4 ← (do let v5 ← (pBin false .Mod v_cell (.int 9)); pCmp .Gt v5 (.int 0)); match t4 with | true => pure true | false => (do let t6 ← ((do let c7 ← (newL false []); pCmp .Eq v_order c7)); match t6 with | true => pure true | false => pure false)); match t3 with | false => pure false | true => pure true)) := by kernel_rfl
theorem c_order_by_while_2b (cf : Str → List AV → M AV) (v_cell v_rest v_order : AV) (o_size : Option AV) : whileB P05 cf "_law_order_by" [] 2 37 [some v_cell, o_size, some v_rest, some v_order] = (do let _ ← (do let o1 ← pure v_order; let _ ← listOf o1; (do let vs6 ← eachM [(do let o2 ← pure v_rest; let _ ← listOf o2; (do let vs5 ← eachM [(do let x3 ← (pBin false .FloorDiv v_cell (.int 9)); let x4 ← (pBI false .len [v_rest]); pBin false .Mod x3 x4)]; pMeth "pop" o2 vs5))]; pMeth "append" o1 vs6)); (do let cell10 ← (do let x8 ← (pBin false .FloorDiv v_cell (.int 9)); let x9 ← (do let x7 ← (pBin false .Mult (.int 11) v_cell); pBin false .Mod x7 (.int 1009)); pBin false .Add x8 x9); pure (.next [some cell10, o_size, some v_rest, some v_order]))) := by kernel_rfl
theorem c_due_0 (cf : Str → List AV → M AV) (v_start v_rows v_order : AV) : tl P05 cf "_law_due" [] 0 40 [some v_start, some v_rows, some v_order, none, none, none] = (do let values1 ← (pBI false .list [v_start]); (do let it2 ← pure v_order; let src3 ← srcOf it2; let r ← forLoop src3 (forB P05 cf "_law_due" [] 1 38) FUEL 0 [some v_start, some v_rows, some v_order, some values1, none, none]; goOn (tl P05 cf "_law_due" [] 2 38) r)) := by kernel_rfl
theorem c_due_t_2 (cf : Str → List AV → M AV) (o_start o_rows o_order o_values o_place o_pair : Option AV) : tl P05 cf "_law_due" [] 2 38 [o_start, o_rows, o_order, o_values, o_place, o_pair] = pure (.ret (.bool true)) := by kernel_rfl
theorem c_due_for_1 (cf : Str → List AV → M AV) (v_rows v_values : AV) (o_start o_order o_place o_pair : Option AV) (a : AV) : forB P05 cf "_law_due" [] 1 38 a [o_start, some v_rows, o_order, some v_values, o_place, o_pair] = (do let pair3 ← (do let vs2 ← eachM [pure v_values, (do let x1 ← (pItem v_rows a); pItem x1 (.int 2))]; cf "_law_played" vs2); (do let values4 ← (pItem pair3 (.int 1)); (do let c5 ← (do let t6 ← (do let v8 ← (do let x7 ← (pItem v_rows a); pItem x7 (.int 5)); pCmp .IsNot v8 (.none)); match t6 with | false => pure false | true => (do let t9 ← (do let b10 ← (do let v13 ← (do let vs12 ← eachM [(do let x11 ← (pItem v_rows a); pItem x11 (.int 6)), (pItem pair3 (.int 0))]; cf "_law_alike" vs12); truth v13); pure (!b10)); match t9 with | false => pure false | true => pure true)); match c5 with | true => (do let r ← pure (.ret (.bool false)); goOn (fun σ => pure (.next σ)) r) | false => (do let r ← pure (.next [o_start, some v_rows, o_order, some values4, some a, some pair3]); goOn (fun σ => pure (.next σ)) r)))) := by kernel_rfl
theorem c_law_0 (cf : Str → List AV → M AV) (v_script : AV) : tl P05 cf "law" [] 0 40 [some v_script, none, none, none, none, none, none, none, none, none, none, none, none, none] = (do let start2 ← (do let vs1 ← eachM [(cf "_law_cell_at" [v_script, .int 0])]; cf "_law_start_by" vs1); (do let size4 ← (do let x3 ← (cf "_law_cell_at" [v_script, .int 1]); pBin false .Mod x3 (.int 9)); (do let order6 ← (do let vs5 ← eachM [(cf "_law_cell_at" [v_script, .int 2]), pure size4]; cf "_law_order_by" vs5); (do let rows7 ← (newL true []); (do let values8 ← (pBI false .list [start2]); (do let it9 ← (pBI false .range [size4]); let src10 ← srcOf it9; let r ← forLoop src10 (forB P05 cf "law" [] 5 34) FUEL 0 [some v_script, some start2, some size4, some order6, some rows7, some values8, none, none, none, none, none, none, none, none]; goOn (tl P05 cf "law" [] 6 34) r)))))) := by kernel_rfl
theorem c_law_t_6 (cf : Str → List AV → M AV) (v_order : AV) (o_script o_start o_size o_rows o_values o_k o_cell o_place o_pair o_odd o_handed o_other o_found : Option AV) : tl P05 cf "law" [] 6 34 [o_script, o_start, o_size, some v_order, o_rows, o_values, o_k, o_cell, o_place, o_pair, o_odd, o_handed, o_other, o_found] = (do let it1 ← pure v_order; let src2 ← srcOf it1; let r ← forLoop src2 (forB P05 cf "law" [] 6 33) FUEL 0 [o_script, o_start, o_size, some v_order, o_rows, o_values, o_k, o_cell, o_place, o_pair, o_odd, o_handed, o_other, o_found]; goOn (tl P05 cf "law" [] 7 33) r) := by kernel_rfl
theorem c_law_for_5 (cf : Str → List AV → M AV) (v_script v_rows : AV) (o_start o_size o_order o_values o_k o_cell o_place o_pair o_odd o_handed o_other o_found : Option AV) (a : AV) : forB P05 cf "law" [] 5 34 a [some v_script, o_start, o_size, o_order, some v_rows, o_values, o_k, o_cell, o_place, o_pair, o_odd, o_handed, o_other, o_found] = (do let cell2 ← (do let vs1 ← eachM [pure v_script, (pBin false .Add (.int 4) a)]; cf "_law_cell_at" vs1); (do let _ ← (do let o3 ← pure v_rows; let _ ← listOf o3; (do let vs11 ← eachM [(do let vs10 ← eachM [pure a, pure (.int 0), (do let vs4 ← eachM [(pBin false .FloorDiv cell2 (.int 4))]; cf "_law_deed_by" vs4), pure a, pure a, (do let x8 ← (newL false [a, .none]); let x9 ← (do let vs7 ← eachM [(do let v6 ← (pBin false .Mod cell2 (.int 4)); let b5 ← pCmp .Eq v6 (.int 1); pure (.bool b5))]; pBI false .int vs7); pItem x8 x9), pure (.none)]; pure (.tup vs10))]; pMeth "append" o3 vs11)); pure (.next [some v_script, o_start, o_size, o_order, some v_rows, o_values, some a, some cell2, o_place, o_pair, o_odd, o_handed, o_other, o_found]))) := by kernel_rfl
theorem c_law_t_7 (cf : Str → List AV → M AV) (v_script v_size v_rows : AV) (o_start o_order o_values o_k o_cell o_place o_pair o_odd o_handed o_other o_found : Option AV) : tl P05 cf "law" [] 7 33 [some v_script, o_start, some v_size, o_order, some v_rows, o_values, o_k, o_cell, o_place, o_pair, o_odd, o_handed, o_other, o_found] = (do let cell1 ← (cf "_law_cell_at" [v_script, .int 3]); (do let c2 ← (do let t16 ← (pCmp .Gt v_size (.int 0)); match t16 with | false => pure false | true => (do let t17 ← (do let v18 ← (pBin false .Mod cell1 (.int 2)); pCmp .Eq v18 (.int 1)); match t17 with | false => pure false | true => pure true)); match c2 with | true => (do let r ← (do let odd6 ← (do let x4 ← (newL false [.none, .int 5, .tup [], .tup [.int 5], .int 0, .int (-1)]); let x5 ← (do let x3 ← (pBin false .FloorDiv cell1 (.int 2)); pBin false .Mod x3 (.int 6)); pItem x4 x5); (do let v13 ← (do let x12 ← (do let o7 ← (do let x11 ← (do let x10 ← (pBin false .FloorDiv cell1 (.int 12)); pBin false .Mod x10 v_size); pItem v_rows x11); let i8 ← pure none; let j9 ← pure (some 6); pSlice false o7 i8 j9); pBin false .Add x12 (.tup [odd6])); let o15 ← (do let x14 ← (pBin false .FloorDiv cell1 (.int 12)); pBin false .Mod x14 v_size); pStore v_rows o15 v13; pure (.next [some v_script, o_start, some v_size, o_order, some v_rows, o_values, o_k, some cell1, o_place, o_pair, some odd6, o_handed, o_other, o_found]))); goOn (tl P05 cf "law" [] 9 31) r) | false => (do let r ← pure (.next [some v_script, o_start, some v_size, o_order, some v_rows, o_values, o_k, some cell1, o_place, o_pair, o_odd, o_handed, o_other, o_found]); goOn (tl P05 cf "law" [] 9 31) r))) := by kernel_rfl
theorem c_law_for_6 (cf : Str → List AV → M AV) (v_rows v_values : AV) (o_script o_start o_size o_order o_k o_cell o_place o_pair o_odd o_handed o_other o_found : Option AV) (a : AV) : forB P05 cf "law" [] 6 33 a [o_script, o_start, o_size, o_order, some v_rows, some v_values, o_k, o_cell, o_place, o_pair, o_odd, o_handed, o_other, o_found] = (do let pair3 ← (do let vs2 ← eachM [pure v_values, (do let x1 ← (pItem v_rows a); pItem x1 (.int 2))]; cf "_law_played" vs2); (do let values4 ← (pItem pair3 (.int 1)); (do let c5 ← (do let v14 ← (do let x13 ← (pItem v_rows a); pItem x13 (.int 5)); pCmp .IsNot v14 (.none)); match c5 with | true => (do let r ← (do let v12 ← (do let x10 ← (do let o6 ← (pItem v_rows a); let i7 ← pure none; let j8 ← pure (some 6); pSlice false o6 i7 j8); let x11 ← (do let vs9 ← eachM [(pItem pair3 (.int 0))]; pure (.tup vs9)); pBin false .Add x10 x11); pStore v_rows a v12; pure (.next [o_script, o_start, o_size, o_order, some v_rows, some values4, o_k, o_cell, some a, some pair3, o_odd, o_handed, o_other, o_found])); goOn (fun σ => pure (.next σ)) r) | false => (do let r ← pure (.next [o_script, o_start, o_size, o_order, some v_rows, some values4, o_k, o_cell, some a, some pair3, o_odd, o_handed, o_other, o_found]); goOn (fun σ => pure (.next σ)) r)))) := by kernel_rfl
theorem c_law_t_9 (cf : Str → List AV → M AV) (v_start v_size v_order v_cell : AV) (o_script o_rows o_values o_k o_place o_pair o_odd o_handed o_other o_found : Option AV) : tl P05 cf "law" [] 9 31 [o_script, some v_start, some v_size, some v_order, o_rows, o_values, o_k, some v_cell, o_place, o_pair, o_odd, o_handed, o_other, o_found] = (do let handed1 ← (pBI false .list [v_start]); (do let it2 ← (do let vs5 ← eachM [pure v_order, (do let vs4 ← eachM [(pBin false .FloorDiv v_cell (.int 24)), pure v_size]; cf "_law_order_by" vs4), pure v_order]; newL false vs5); let src3 ← srcOf it2; let r ← forLoop src3 (forB P05 cf "law" [] 10 29) FUEL 0 [o_script, some v_start, some v_size, some v_order, o_rows, o_values, o_k, some v_cell, o_place, o_pair, o_odd, some handed1, o_other, o_found]; goOn (tl P05 cf "law" [] 11 29) r)) := by kernel_rfl
theorem c_law_t_11 (cf : Str → List AV → M AV) (o_script o_start o_size o_order o_rows o_values o_k o_cell o_place o_pair o_odd o_handed o_other o_found : Option AV) : tl P05 cf "law" [] 11 29 [o_script, o_start, o_size, o_order, o_rows, o_values, o_k, o_cell, o_place, o_pair, o_odd, o_handed, o_other, o_found] = pure (.ret (.bool true)) := by kernel_rfl
theorem c_law_for_10 (cf : Str → List AV → M AV) (v_start v_rows v_handed : AV) (o_script o_size o_order o_values o_k o_cell o_place o_pair o_odd o_other o_found : Option AV) (a : AV) : forB P05 cf "law" [] 10 29 a [o_script, some v_start, o_size, o_order, some v_rows, o_values, o_k, o_cell, o_place, o_pair, o_odd, some v_handed, o_other, o_found] = (do let found2 ← (do let vs1 ← eachM [pure v_handed, (pBI false .list [v_rows]), (pBI false .list [a])]; cf "gives_answers" vs1); (do let c3 ← (do let t4 ← (do let b5 ← (do let v8 ← (do let v6 ← pure found2; let b7 ← pIsi v6 .bool; pure (.bool b7)); truth v8); pure (!b5)); match t4 with | true => pure true | false => (do let t9 ← ((do let c10 ← (cf "_law_due" [v_start, v_rows, a]); pCmp .NotEq found2 c10)); match t9 with | true => pure true | false => (do let t11 ← (pCmp .NotEq v_handed v_start); match t11 with | true => pure true | false => pure false))); match c3 with | true => (do let r ← pure (.ret (.bool false)); goOn (fun σ => pure (.next σ)) r) | false => (do let r ← pure (.next [o_script, some v_start, o_size, o_order, some v_rows, o_values, o_k, o_cell, o_place, o_pair, o_odd, some v_handed, some a, some found2]); goOn (fun σ => pure (.next σ)) r))) := by kernel_rfl
end Mine


set_option autoImplicit false
set_option linter.unusedVariables false
set_option maxRecDepth 100000
namespace Mine
open PySem PyProof.Rows

theorem s_mixed (n : Nat) (c k : Int) : callP P05 (n + 1) "_law_mixed" [.int c, .int k] = pure (.int (mixed c k)) := by
  refine callQ (σ := [some (.int c), some (.int k), none]) (by kernel_rfl) (by kernel_rfl) (by kernel_rfl) ?_
  have h := fmod_lt ((c + 7919 * k) * 48271) (b := 2147483647) (by decide)
  rw [c_mixed_0, m_mulL (by decide), pure_bind, m_add, pure_bind, m_mulR (by decide), pure_bind, m_mod (by decide), pure_bind, m_mulL (by omega), pure_bind, m_mod (by decide)]
  rfl

theorem s_cell_at (n : Nat) (ns : List Int) (k : Nat) : callP P05 (n + 2) "_law_cell_at" [.lst (ns.map .int), .int k] = pure (.int (cellAt ns k)) := by
  refine callQ (σ := [some (.lst (ns.map .int)), some (.int k)]) (by kernel_rfl) (by kernel_rfl) (by kernel_rfl) ?_
  rw [c_cell_at_0, e_len_lst, pure_bind, e_lt, pure_bind]
  unfold cellAt
  cases hk : ns[k]? with
  | none =>
    have : ¬ ((k : Int) < (((ns.map AV.int).length : Nat) : Int)) := by rw [List.length_map]; rw [List.getElem?_eq_none_iff] at hk; omega
    rw [decide_eq_false this]
    simp only [pure_bind, e_go_next, c_cell_at_t_1]
  | some c =>
    have hlt := (List.getElem?_eq_some_iff.mp hk).1
    have : ((k : Int) < (((ns.map AV.int).length : Nat) : Int)) := by rw [List.length_map]; omega
    rw [decide_eq_true this]
    have hit : (ns.map AV.int)[k]? = some (.int c) := by rw [List.getElem?_map, hk]; rfl
    simp only [e_item_lst hit, e_eachp, e_each0, pure_bind, s_mixed, e_go_ret]

theorem s_value_by (n : Nat) (c : Int) : callP P05 (n + 1) "_law_value_by" [.int c] = pure (.int (valueBy c)) := by
  refine callQ (σ := [some (.int c)]) (by kernel_rfl) (by kernel_rfl) (by kernel_rfl) ?_
  rw [c_value_by_0, m_mod (by decide), pure_bind, e_eqi, pure_bind]
  unfold valueBy
  by_cases h : c.fmod 4 = 0
  · rw [decide_eq_true h, if_pos h]
    simp only [m_div (i := c) (j := 4) d4, pure_bind, m_mulR (j := 7919) (by decide)]
    rfl
  · rw [decide_eq_false h, if_neg h]
    simp only [pure_bind, e_go_next, c_value_by_t_1, m_div (i := c) (j := 4) d4, m_mod (j := 5) (by decide), m_sub]

theorem deed_rest (n : Nat) (c : Int) (k : Dk) (b : Bool) (nm : Str) (h : pCmp .In (.str nm) (.lst [.str "push", .str "swap"]) = pure b) (hk : (cond b (.tup [.str nm, .int (valueBy (c.fdiv 12))]) (.tup [.str nm]) : AV) = deedK k (valueBy (c.fdiv 12))) :
    (do let c4 ← ((do let c8 ← (newL false [.str "push", .str "swap"]); pCmp .In (.str nm) c8)); match c4 with | true => (do let r ← (do let y7 ← (do let vs6 ← eachM [pure (.str nm), (do let vs5 ← eachM [(pBin false .FloorDiv (.int c) (.int 12))]; callP P05 (n + 1) "_law_value_by" vs5)]; pure (.tup vs6)); pure (.ret y7)); goOn (tl P05 (callP P05 (n + 1)) "_law_deed_by" [] 2 38) r) | false => (do let r ← pure (.next [some (.int c), some (.str nm)]); goOn (tl P05 (callP P05 (n + 1)) "_law_deed_by" [] 2 38) r) : M Res)
      = pure (.ret (deedK k (valueBy (c.fdiv 12)))) := by
  rw [e_newL (by decide), pure_bind, h, pure_bind, ← hk]
  cases b with
  | true => simp only [m_div (i := c) (j := 12) d12, e_eachp, e_each0, pure_bind, s_value_by, e_go_ret]; rfl
  | false => simp only [pure_bind, e_go_next, c_deed_by_t_2]; rfl

theorem s_deed_by (n : Nat) (c : Int) : ∃ k, callP P05 (n + 2) "_law_deed_by" [.int c] = pure (deedK k (valueBy (c.fdiv 12))) := by
  have h := fmod_lt c (b := 12) (by decide)
  obtain ⟨j, hm⟩ := Int.eq_ofNat_of_zero_le h.1
  have hj : j < 12 := by omega
  have main : ∀ (b : Bool) (k : Dk) (nm : Str), ([.str "push", .str "push", .str "push", .str "push", .str "pop", .str "pop", .str "pop", .str "top", .str "top", .str "swap", .str "swap", .str "clear"] : List AV)[j]? = some (.str nm) → pCmp .In (.str nm) (.lst [.str "push", .str "swap"]) = pure b → (cond b (.tup [.str nm, .int (valueBy (c.fdiv 12))]) (.tup [.str nm]) : AV) = deedK k (valueBy (c.fdiv 12)) →
      ∃ k, callP P05 (n + 2) "_law_deed_by" [.int c] = pure (deedK k (valueBy (c.fdiv 12))) := fun b k nm h1 h2 h3 => ⟨k, callQ (σ := [some (.int c), none]) (by kernel_rfl) (by kernel_rfl) (by kernel_rfl) (by
        rw [c_deed_by_0, e_newL (by decide), pure_bind, m_mod (by decide), pure_bind, hm, e_item_lst (k := j) h1, pure_bind]
        exact deed_rest n c k b nm h2 h3)⟩
  match j, hj with
  | 0, _ => exact main true .push _ rfl (by kernel_rfl) rfl
  | 1, _ => exact main true .push _ rfl (by kernel_rfl) rfl
  | 2, _ => exact main true .push _ rfl (by kernel_rfl) rfl
  | 3, _ => exact main true .push _ rfl (by kernel_rfl) rfl
  | 4, _ => exact main false .pop _ rfl (by kernel_rfl) rfl
  | 5, _ => exact main false .pop _ rfl (by kernel_rfl) rfl
  | 6, _ => exact main false .pop _ rfl (by kernel_rfl) rfl
  | 7, _ => exact main false .top _ rfl (by kernel_rfl) rfl
  | 8, _ => exact main false .top _ rfl (by kernel_rfl) rfl
  | 9, _ => exact main true .swap _ rfl (by kernel_rfl) rfl
  | 10, _ => exact main true .swap _ rfl (by kernel_rfl) rfl
  | 11, _ => exact main false .clear _ rfl (by kernel_rfl) rfl

theorem deed_is (n : Nat) (k : Dk) (v : Int) : callP P05 (n + 2) "is_deed" [deedK k v] = pure (.bool true) := by
  cases k <;> kernel_rfl

theorem s_start_t (n : Nat) (c m : Int) (hm : 0 ≤ m ∧ m ≤ 60) : ∃ L : List Int, L.length ≤ 60 ∧ tl P05 (callP P05 (n + 1)) "_law_start_by" [] 2 38 [some (.int c), some (.int m)] = pure (.ret (.lst (L.map .int))) := by
  have hb : ∀ a ∈ rangeL 0 m, (do let y2 ← (do let vs4 ← eachM [(do let vs3 ← eachM [(pBin false .FloorDiv (.int c) (.int 8)), pure a]; callP P05 (n + 1) "_law_mixed" vs3)]; callP P05 (n + 1) "_law_value_by" vs4); pure (some y2) : M (Option AV)) = pure (some ((fun a => match a with | .int i => AV.int (valueBy (mixed (c.fdiv 8) i)) | a => a) a)) := by
    intro a ha
    obtain ⟨i, rfl, hi⟩ := mem_rangeL ha
    simp only [m_div (i := c) d8, e_eachp, e_each0, pure_bind, s_mixed, s_value_by]
  refine ⟨(List.range (m - 0).toNat).map fun (k : Nat) => valueBy (mixed (c.fdiv 8) (0 + (k : Int))), ?_, ?_⟩
  · rw [List.length_map, List.length_range]; omega
  · rw [c_start_by_t_2, e_range1, pure_bind, srcOf_range (by omega) (by omega), pure_bind, compM _ (by rw [rangeL_length]; omega) hb, pure_bind, e_newL (by rw [List.length_map, rangeL_length]; have := LIMis; omega), pure_bind]
    unfold rangeL
    rw [List.map_map, List.map_map]
    rfl
theorem s_start_by (n : Nat) (c : Int) : ∃ L : List Int, L.length ≤ 60 ∧ callP P05 (n + 2) "_law_start_by" [.int c] = pure (.lst (L.map .int)) := by
  have h4 := fmod_lt c (b := 4) (by decide)
  have h61 := fmod_lt (c.fdiv 32) (b := 61) (by decide)
  by_cases h : (c.fdiv 4).fmod 8 = 1
  · obtain ⟨L, h1, h2⟩ := s_start_t n c ((c.fdiv 32).fmod 61) (by omega)
    refine ⟨L, h1, callQ (σ := [some (.int c), none]) (by kernel_rfl) (by kernel_rfl) (by kernel_rfl) ?_⟩
    rw [c_start_by_0, m_mod (by decide), pure_bind, m_div d4, pure_bind, m_mod (by decide), pure_bind, e_eqi, pure_bind, decide_eq_true h]
    simp only [m_div (i := c) d32, pure_bind, m_mod (j := 61) (by decide), e_go_next, h2]
  · obtain ⟨L, h1, h2⟩ := s_start_t n c (c.fmod 4) (by omega)
    refine ⟨L, h1, callQ (σ := [some (.int c), none]) (by kernel_rfl) (by kernel_rfl) (by kernel_rfl) ?_⟩
    rw [c_start_by_0, m_mod (by decide), pure_bind, m_div d4, pure_bind, m_mod (by decide), pure_bind, e_eqi, pure_bind, decide_eq_false h]
    simp only [pure_bind, e_go_next, h2]

end Mine


set_option autoImplicit false
set_option linter.unusedVariables false
set_option maxRecDepth 100000
namespace Mine
open PySem PyProof.Rows

theorem s_played (n : Nat) (k : Dk) (v : Int) (xs : List Int) (hl : xs.length ≤ 1000) : callP P05 (n + 3) "played" [.lst (xs.map .int), deedK k v] = pure (.tup [plA k xs, .lst ((plV k v xs).map .int)]) := by
  refine callQ (σ := [some (.lst (xs.map .int)), some (deedK k v)]) (by kernel_rfl) (by kernel_rfl) (by kernel_rfl) ?_
  have hL := LIMis
  have hm : (xs.map AV.int).length ≤ LIM := by rw [List.length_map]; omega
  rw [c_played_0, deed_is]
  simp only [pure_bind, e_truth, Bool.not_true, e_go_next]
  rw [c_played_t_1]
  cases k with
  | push =>
    simp only [it_push, q_push_push, iv_push, pure_bind, e_eachp, e_each0, e_newL (xs := [.int v]) (by simp; omega), e_list_lst hm, m_addL (xs := [.int v]) (ys := xs.map .int) (by simp; omega), e_go_ret]
    rfl
  | clear =>
    simp only [it_clear, q_clear_push, q_clear_clear, pure_bind, e_go_next, c_played_t_2, e_tup_lst, e_eachp, e_each0, e_newL (xs := []) (Nat.zero_le _), e_go_ret]
    rfl
  | top =>
    simp only [it_top, q_top_push, q_top_clear, pure_bind, e_go_next, c_played_t_2, c_played_t_3, len0, e_eqi]
    cases xs with
    | nil => simp only [List.length_nil, decE rfl, pure_bind, e_eachp, e_each0, e_newL (xs := []) (Nat.zero_le _), e_go_ret]; rfl
    | cons x r =>
      rw [decide_eq_false (by simp; omega)]
      simp only [pure_bind, e_go_next, c_played_t_4, it_top, q_top_top, List.map_cons, e_list_lst (xs := AV.int x :: List.map AV.int r) hm, l0, e_eachp, e_each0, e_go_ret]
      rfl
  | swap =>
    simp only [it_swap, q_swap_push, q_swap_clear, pure_bind, e_go_next, c_played_t_2, c_played_t_3, len0, e_eqi]
    cases xs with
    | nil => simp only [List.length_nil, decE rfl, pure_bind, e_eachp, e_each0, e_newL (xs := []) (Nat.zero_le _), e_go_ret]; rfl
    | cons x r =>
      have hr : (r.map AV.int).length ≤ LIM := by rw [List.length_map]; simp at hl; omega
      rw [decide_eq_false (by simp; omega)]
      simp only [pure_bind, e_go_next, c_played_t_4, c_played_t_5, it_swap, iv_swap, q_swap_top, q_swap_swap, List.map_cons, slice1 _ _ hr, e_list_lst hr, l0, e_newL (xs := [.int v]) (by simp; omega), m_addL (xs := [.int v]) (ys := r.map .int) (by simp at hl ⊢; omega), e_eachp, e_each0, e_go_ret]
      rfl
  | pop =>
    simp only [it_pop, q_pop_push, q_pop_clear, pure_bind, e_go_next, c_played_t_2, c_played_t_3, len0, e_eqi]
    cases xs with
    | nil => simp only [List.length_nil, decE rfl, pure_bind, e_eachp, e_each0, e_newL (xs := []) (Nat.zero_le _), e_go_ret]; rfl
    | cons x r =>
      have hr : (r.map AV.int).length ≤ LIM := by rw [List.length_map]; simp at hl; omega
      rw [decide_eq_false (by simp; omega)]
      simp only [pure_bind, e_go_next, c_played_t_4, c_played_t_5, c_played_t_6, it_pop, q_pop_top, q_pop_swap, List.map_cons, slice1 _ _ hr, e_list_lst hr, l0, e_eachp, e_each0]
      rfl

theorem s_lplayed (n : Nat) (k : Dk) (v : Int) (xs : List Int) (hl : xs.length ≤ 1000) : callP P05 (n + 1) "_law_played" [.lst (xs.map .int), deedK k v] = pure (.tup [plA k xs, .lst ((plV k v xs).map .int)]) := by
  refine callQ (σ := [some (.lst (xs.map .int)), some (deedK k v), none]) (by kernel_rfl) (by kernel_rfl) (by kernel_rfl) ?_
  have hL := LIMis
  have hm : (xs.map AV.int).length ≤ LIM := by rw [List.length_map]; omega
  rw [c_lplayed_0]
  cases k with
  | push =>
    simp only [it_push, q_push_push, iv_push, pure_bind, e_eachp, e_each0, e_newL (xs := [.int v]) (by simp; omega), m_addL (xs := [.int v]) (ys := xs.map .int) (by simp; omega), e_go_ret]
    rfl
  | clear =>
    simp only [it_clear, q_clear_push, q_clear_clear, pure_bind, e_go_next, c_lplayed_t_1, e_tup_lst, e_eachp, e_each0, e_newL (xs := []) (Nat.zero_le _), e_go_ret]
    rfl
  | top =>
    simp only [it_top, q_top_push, q_top_clear, q_top_swap, q_top_pop, pure_bind, e_go_next, c_lplayed_t_1, c_lplayed_t_2, e_newL (xs := [.none]) (by simp; omega), m_addL (xs := xs.map .int) (ys := [.none]) (by simp; omega)]
    cases xs with
    | nil => simp only [List.map_nil, List.nil_append, l0, pure_bind, e_go_next, c_lplayed_t_4, it_top, q_top_pop, c_lplayed_t_5, e_list_lst (xs := []) (Nat.zero_le _), e_eachp, e_each0]; rfl
    | cons x r =>
      simp only [List.map_cons, List.cons_append, l0, pure_bind, e_go_next, c_lplayed_t_4, it_top, q_top_pop, c_lplayed_t_5, e_list_lst (xs := AV.int x :: List.map AV.int r) hm, e_eachp, e_each0]
      rfl
  | swap =>
    simp only [it_swap, q_swap_push, q_swap_clear, q_swap_swap, iv_swap, pure_bind, e_go_next, c_lplayed_t_1, c_lplayed_t_2, e_newL (xs := []) (Nat.zero_le _), isnil, e_newL (xs := [.none]) (by simp; omega), m_addL (xs := xs.map .int) (ys := [.none]) (by simp; omega)]
    cases xs with
    | nil => simp only [List.map_nil, List.nil_append, l0, List.isEmpty_nil, Bool.not_true, pure_bind, e_go_next, c_lplayed_t_4, it_swap, q_swap_pop, c_lplayed_t_5, e_list_lst (xs := []) (Nat.zero_le _), e_eachp, e_each0]; rfl
    | cons x r =>
      have hr : (r.map AV.int).length ≤ LIM := by rw [List.length_map]; simp at hl; omega
      simp only [List.map_cons, List.cons_append, l0, List.isEmpty_cons, Bool.not_false, pure_bind, List.map_cons, slice1 _ _ hr, e_newL (xs := [.int v]) (by simp; omega), m_addL (xs := [.int v]) (ys := r.map .int) (by simp at hl ⊢; omega), e_eachp, e_each0, e_go_ret]
      rfl
  | pop =>
    simp only [it_pop, q_pop_push, q_pop_clear, q_pop_swap, pure_bind, e_go_next, c_lplayed_t_1, c_lplayed_t_2, e_newL (xs := [.none]) (by simp; omega), m_addL (xs := xs.map .int) (ys := [.none]) (by simp; omega)]
    cases xs with
    | nil => simp only [List.map_nil, List.nil_append, l0, pure_bind, e_go_next, c_lplayed_t_4, it_pop, q_pop_pop, slice1', e_eachp, e_each0, e_go_ret]; rfl
    | cons x r =>
      have hr : (r.map AV.int).length ≤ LIM := by rw [List.length_map]; simp at hl; omega
      simp only [List.map_cons, List.cons_append, l0, pure_bind, e_go_next, c_lplayed_t_4, it_pop, q_pop_pop, List.map_cons, slice1 _ _ hr, e_eachp, e_each0, e_go_ret]
      rfl

end Mine


set_option autoImplicit false
set_option linter.unusedVariables false
set_option maxRecDepth 100000
namespace Mine
open PySem PyProof.Rows

/-- one turn of alike, at the pair x, y -/
theorem alike_turn (cf : Str → List AV → M AV) {H : AHeap} {l : Nat} {rest : List AV} {x y : AV} {o1 o2 o3 : Option AV} {Q : Res → AHeap → Prop} (h : H[l]? = some (.list (rest ++ [prV (x, y)]))) (hx : PlD 6 x) (hy : PlD 6 y)
    (hret : x ≠ y → Q (.ret (.bool false)) (H.set l (.list rest))) (hnext : x = y → Q (.next [o1, o2, some (.loc l), some (prV (x, y))]) (H.set l (.list rest)))
    (hzip : ∀ xs ys, xs.length = ys.length → (x = y ↔ xs = ys) → (∀ a ∈ xs, PlD 6 a) → (∀ a ∈ ys, PlD 6 a) → sz y = 1 + szL ys → rest.length + ys.length ≤ LIM → Q (.next [o1, o2, some (.loc H.length), some (prV (x, y))]) (H.set l (.list rest) ++ [.list (rest ++ (xs.zip ys).map prV)])) (hL : rest.length + sz y ≤ LIM) :
    Rn (whileB P05 cf "_law_alike" [] 1 38 [o1, o2, some (.loc l), o3]) H Q := by
  have hlt : l < H.length := (List.getElem?_eq_some_iff.mp h).1
  have hset : (H.set l (.list rest))[l]? = some (.list rest) := by rw [List.getElem?_set_self hlt]
  have hlen : (H.set l (.list rest)).length = H.length := List.length_set ..
  have szl : ∀ ys : List AV, ys.length ≤ szL ys := fun ys => by
    induction ys with
    | nil => exact Nat.zero_le _
    | cons a r ih => unfold szL; have := sz_pos a; simp; omega
  rw [c_alike_while_1b]
  simp only [pure_bind]
  refine .bind (.bof (listOf_loc h) (.of (pop_last h) ?_))
  have seq : ∀ (xs ys : List AV) (k : Bool), PlD 6 x → (x = cond k (.tup xs) (.lst xs)) → (y = cond k (.tup ys) (.lst ys)) →
      Rn (tl P05 cf "_law_alike" [(1, 0), (1, 0)] 1 35 [o1, o2, some (.loc l), some (prV (x, y))]) (H.set l (.list rest)) Q := by
    intro xs ys k _ ex ey
    have hi : tyB x .list = tyB y .list := by subst ex; subst ey; cases k <;> rfl
    have hlx : pBI false .len [x] = pure (.int xs.length) := by subst ex; cases k <;> rfl
    have hly : pBI false .len [y] = pure (.int ys.length) := by subst ey; cases k <;> rfl
    rw [c_alike_t10_10_1]
    simp only [prV, e_it0, e_it1, pure_bind, e_isi hx, e_isi hy, e_neb, hi, bne_self_eq_false, e_eachp, e_each0, hlx, hly, e_nei]
    have inj : x = y ↔ xs = ys := by subst ex; subst ey; cases k <;> simp [cond]
    have hsz : sz y = 1 + szL ys := by subst ey; cases k <;> (simp only [cond]; unfold sz; rfl)
    by_cases hll : xs.length = ys.length
    · rw [decide_eq_true (by rw [hll])]
      simp only [Bool.not_true, pure_bind, e_go_next, c_alike_t10_10_2, e_it0, e_it1]
      have h1 := szl ys
      have hz : pZip false x y = pure (.lst ((xs.zip ys).map prV)) := by
        subst ex; subst ey
        cases k with
        | true => exact zipT hll (by omega)
        | false => exact zipL hll (by omega)
      rw [hz]
      simp only [pure_bind]
      have hlz : ((xs.zip ys).map prV).length = ys.length := by rw [List.length_map, List.length_zip]; omega
      refine .bof (add_loc hset (by rw [hlz]; omega)) ?_
      rw [hlen]
      refine .pure (hzip xs ys hll inj ?_ ?_ hsz (by omega))
      · subst ex
        cases k <;> (simp only [cond] at hx; unfold PlD at hx; exact fun a ha => (hx a ha).up)
      · subst ey
        cases k <;> (simp only [cond] at hy; unfold PlD at hy; exact fun a ha => (hy a ha).up)
    · rw [decide_eq_false (by omega)]
      simp only [Bool.not_false, pure_bind, e_go_ret]
      refine .pure (hret fun e => hll ?_)
      rw [inj.mp e]
  have leaf : (tyB y .tuple = false ∧ tyB y .list = false) → tyB x .bool = tyB y .bool → ∃ b, pCmp .NotEq x y (H.set l (.list rest)) = some (b, H.set l (.list rest)) ∧ (b = false ↔ x = y) :=
    fun h1 h2 => ne_leaf (hx.le (by omega)) (hy.le (by omega)) h1 h2
  have pr : ∀ a b : AV, prV (a, b) = .tup [a, b] := fun _ _ => rfl
  simp only [pr, e_it0, e_it1, e_isi hx, e_isi hy, e_isiTL hy, e_truth, pure_bind, e_neb, e_isN]
  cases hty : tyB y .tuple || tyB y .list with
  | true =>
    simp only []
    by_cases ht : tyB x .tuple = tyB y .tuple
    · simp only [ht, bne_self_eq_false, pure_bind, e_go_next]
      by_cases hlx : tyB x .list = tyB y .list
      · have hxy : ∃ xs ys k, x = cond k (.tup xs) (.lst xs) ∧ y = cond k (.tup ys) (.lst ys) := by
          cases y with
          | tup ys =>
            cases x with
            | tup xs => exact ⟨xs, ys, true, rfl, rfl⟩
            | _ => exact (nomatch ht)
          | lst ys =>
            cases x with
            | lst xs => exact ⟨xs, ys, false, rfl, rfl⟩
            | _ => exact (nomatch hlx)
          | _ => exact (nomatch hty)
        obtain ⟨xs, ys, k, e1, e2⟩ := hxy
        refine .bind (.mono (seq xs ys k hx e1 e2) fun r H' q => ?_)
        cases r <;> exact .pure q
      · rw [c_alike_t10_10_1]
        simp only [e_it0, e_it1, pure_bind, e_isi hx, e_isi hy, e_neb]
        rw [show (tyB x .list != tyB y .list) = true from by simpa using hlx]
        simp only [pure_bind, e_go_ret]
        exact .pure (hret fun e => hlx (by rw [e]))
    · rw [show (tyB x .tuple != tyB y .tuple) = true from by simpa using ht]
      simp only [pure_bind, e_go_ret]
      exact .pure (hret fun e => ht (by rw [e]))
  | false =>
    rw [Bool.or_eq_false_iff] at hty
    cases h1 : pIsNone y with
    | true =>
      by_cases hb : tyB x .bool = tyB y .bool
      · obtain ⟨b, e1, e2⟩ := leaf hty hb
        simp only [hb, bne_self_eq_false, pure_bind]
        refine .bind (.bind (.bind (.bind (.of e1 ?_))))
        cases b with
        | true => exact .pure (.pure (.pure (.pure (hret fun e => by have := e2.mpr e; cases this))))
        | false => exact .pure (.pure (.pure (.pure (hnext (e2.mp rfl)))))
      · rw [show (tyB x .bool != tyB y .bool) = true from by simpa using hb]
        simp only [pure_bind, e_go_ret]
        exact .pure (hret fun e => hb (by rw [e]))
    | false =>
     cases h2 : tyB y .bool with
     | true =>
      by_cases hb : tyB x .bool = true
      · obtain ⟨b, e1, e2⟩ := leaf hty (by rw [hb, h2])
        simp only [hb, bne_self_eq_false, pure_bind]
        refine .bind (.bind (.bind (.bind (.of e1 ?_))))
        cases b with
        | true => exact .pure (.pure (.pure (.pure (hret fun e => by have := e2.mpr e; cases this))))
        | false => exact .pure (.pure (.pure (.pure (hnext (e2.mp rfl)))))
      · rw [show (tyB x .bool != true) = true from by simpa using hb]
        simp only [pure_bind, e_go_ret]
        exact .pure (hret fun e => hb (by rw [e, h2]))
     | false =>
      have hN := And.intro h1 h2
      simp only [pure_bind]
      by_cases hs : tyB x .str = tyB y .str
      · simp only [hs, bne_self_eq_false, pure_bind]
        cases hb : tyB x .bool with
        | true =>
          simp only [pure_bind, e_go_ret]
          exact .pure (hret fun e => by rw [e, hN.2] at hb; cases hb)
        | false =>
          obtain ⟨b, e1, e2⟩ := leaf hty (by rw [hb, hN.2])
          simp only [pure_bind]
          refine .bind (.bind (.bind (.bind (.of e1 ?_))))
          cases b with
          | true => exact .pure (.pure (.pure (.pure (hret fun e => by have := e2.mpr e; cases this))))
          | false => exact .pure (.pure (.pure (.pure (hnext (e2.mp rfl)))))
      · rw [show (tyB x .str != tyB y .str) = true from by simpa using hs]
        simp only [pure_bind, e_go_ret]
        exact .pure (hret fun e => hs (by rw [e]))

theorem s_alike (n : Nat) (H : AHeap) (a b : AV) (ha : PlD 6 a) (hb : PlD 6 b) (hs : sz b < 100000) : Rn (callP P05 (n + 1) "_law_alike" [a, b]) H fun r H' => (∃ X, H' = H ++ X) ∧ ∃ c, r = .bool c ∧ (c = true ↔ a = b) := by
  refine callRn (σ := [some a, some b, none, none]) (by kernel_rfl) (by kernel_rfl) (by kernel_rfl) ?_
  have L := LIMis
  rw [c_alike_0]
  refine .bof (newT (by simp; omega)) ?_
  refine .then (whR (sz b) (fun n σ H1 => ∃ X l rest o, σ = [some a, some b, some (.loc l), o] ∧ H1 = H ++ X ∧ H.length ≤ l ∧ H1[l]? = some (.list (rest.map prV)) ∧ (∀ p ∈ rest, PlD 6 p.1 ∧ PlD 6 p.2) ∧ msr rest = n ∧ n < 100000 ∧ (a = b ↔ ∀ p ∈ rest, p.1 = p.2))
    (Q := fun r H' => (∃ X, H' = H ++ X) ∧ ((∃ o1 o2, r = .next [some a, some b, o1, o2] ∧ a = b) ∨ (r = .ret (.bool false) ∧ a ≠ b))) hs ?_ ?_) ?_
  · exact ⟨_, H.length, [(a, b)], none, rfl, rfl, Nat.le_refl _, by simp [prV], by simp; exact ⟨ha, hb⟩, by simp [msr], hs, by simp⟩
  · rintro n σ H1 ⟨X, l, rest, o, rfl, rfl, hl, hat, hp, hm, hn, hab⟩
    rw [c_alike_while_1t]
    simp only [e_newL (xs := []) (by simp), pure_bind]
    refine .of (ne_nil_loc hat fun x hx => ?_) ?_
    · obtain ⟨p, hp', rfl⟩ := List.mem_map.mp hx
      refine PlD.rd ?_
      unfold prV PlD
      intro z hz
      have := hp p hp'
      simp only [List.mem_cons, List.not_mem_nil, or_false] at hz
      rcases hz with rfl | rfl
      · exact this.1
      · exact this.2
    rcases List.eq_nil_or_concat rest with rfl | ⟨init, p, rfl⟩
    · exact .inl ⟨rfl, ⟨X, rfl⟩, .inl ⟨_, _, rfl, hab.mpr (by simp)⟩⟩
    · refine .inr ⟨by simp, ?_⟩
      obtain ⟨x, y⟩ := p
      simp only [List.concat_eq_append] at *
      rw [List.map_append] at hat
      have hm' : msr init + sz y = n := by rw [← hm, msr_app]; show _ = _ + (sz y + 0); omega
      have h1 := msr_len init
      have hsy := sz_pos y
      have hxy := hp (x, y) (by simp)
      have hab' : a = b ↔ (∀ p ∈ init, p.1 = p.2) ∧ x = y := by rw [hab]; exact ⟨fun h => ⟨fun p hp => h p (List.mem_append_left _ hp), h (x, y) (by simp)⟩, fun h p hp => (List.mem_append.mp hp).elim (h.1 p) (fun q => by rw [List.mem_singleton.mp q]; exact h.2)⟩
      refine alike_turn _ hat hxy.1 hxy.2 (fun hne => ?_) (fun heq => ?_) (fun xs ys hlen hiff hpx hpy hsz hz => ?_) (by rw [List.length_map]; omega)
      · exact ⟨⟨_, set_far hl⟩, .inr ⟨rfl, fun e => hne (hab'.mp e).2⟩⟩
      · refine ⟨msr init, by omega, _, l, init, _, rfl, set_far hl, hl, ?_, fun p hp' => hp p (by simp [hp']), rfl, by omega, ?_⟩
        · rw [List.getElem?_set_self (List.getElem?_eq_some_iff.mp hat).1]
        · rw [hab']; simp [heq]
      · refine ⟨msr init + szL ys, by omega, _, _, init ++ xs.zip ys, _, rfl, by rw [set_far hl, List.append_assoc], by rw [List.length_append]; omega, ?_, fun p hp' => ?_, by rw [msr_app, msr_zip hlen], by omega, ?_⟩
        · rw [List.getElem?_append_right (by rw [List.length_set]; exact Nat.le_refl _), List.length_set, Nat.sub_self, List.map_append]; rfl
        · rcases List.mem_append.mp hp' with q | q
          · exact hp p (by simp [q])
          · exact ⟨hpx _ (List.of_mem_zip q).1, hpy _ (List.of_mem_zip q).2⟩
        · rw [hab', hiff, zip_eq hlen]
          simp only [List.mem_append]
          exact ⟨fun h p hp' => hp'.elim (h.1 p) (h.2 p), fun h => ⟨fun p hp' => h p (.inl hp'), fun p hp' => h p (.inr hp')⟩⟩
  · rintro r H' ⟨hX, ⟨o1, o2, rfl, hab⟩ | ⟨rfl, hab⟩⟩
    · rw [e_go_next, c_alike_t_2]
      exact .pure ⟨hX, true, rfl, by simp [hab]⟩
    · exact .pure ⟨hX, false, rfl, by simp [hab]⟩

end Mine


set_option autoImplicit false
set_option linter.unusedVariables false
set_option maxRecDepth 100000
namespace Mine
open PySem PyProof.Rows

theorem s_order_by (n : Nat) (H : AHeap) (c m : Int) (hc : 0 ≤ c) (hm : 0 ≤ m ∧ m ≤ 9) : Rn (callP P05 (n + 1) "_law_order_by" [.int c, .int m]) H fun a H' => ∃ rest O, a = .loc (H.length + 1) ∧ H' = H ++ [.list rest, .list O] ∧ (∀ o ∈ O, InR m o) ∧ O.length ≤ 9 := by
  refine callRn (σ := [some (.int c), some (.int m), none, none]) (by kernel_rfl) (by kernel_rfl) (by kernel_rfl) ?_
  have hlen : (rangeL 0 m).length = m.toNat := by rw [rangeL_length]; omega
  have L := LIMis
  rw [c_order_by_0, e_range1]
  simp only [e_eachp, e_each0, pure_bind]
  refine .bof (list_range (by omega) (by omega) (by omega)) ?_
  refine .bof (newT (by simp)) ?_
  refine .then (whR (rangeL 0 m).length (fun n σ H1 => ∃ c' rest O, σ = [some (.int c'), some (.int m), some (.loc H.length), some (.loc (H.length + 1))] ∧ H1 = H ++ [.list rest, .list O] ∧ 0 ≤ c' ∧ (∀ o ∈ rest, InR m o) ∧ (∀ o ∈ O, InR m o) ∧ rest.length = n ∧ O.length + n ≤ 9)
    (Q := fun r H' => ∃ rest O o1 o2 o3, r = .next [o1, o2, o3, some (.loc (H.length + 1))] ∧ H' = H ++ [.list rest, .list O] ∧ (∀ o ∈ O, InR m o) ∧ O.length ≤ 9) (by omega) ?_ ?_) ?_
  · exact ⟨c, rangeL 0 m, [], by simp, by simp, hc, fun o ho => InR_range ho, by simp, rfl, by simp; omega⟩
  · rintro n σ H1 ⟨c', rest, O, rfl, rfl, h1, h2, h3, h4, h5⟩
    rw [c_order_by_while_2t]
    simp only [e_newL (xs := []) (by simp), pure_bind]
    refine .bof (ne_nil_loc get2a fun x hx => (h2 x hx).rd _ _) ?_
    have hO : Rn (do let t3 ← (do let t4 ← (do let v5 ← (pBin false .Mod (.int c') (.int 9)); pCmp .Gt v5 (.int 0)); match t4 with | true => pure true | false => (do let t6 ← pCmp .Eq (.loc (H.length + 1)) (.lst []); match t6 with | true => pure true | false => pure false)); match t3 with | false => pure false | true => pure true : M Bool) (H ++ [.list rest, .list O]) fun b H1 => H1 = H ++ [.list rest, .list O] := by
      simp only [m_mod (i := c') (j := 9) (by decide), e_gt, pure_bind]
      cases decide (0 < c'.fmod 9) with
      | true => exact .pure rfl
      | false =>
        refine .bind (.bof (eq_nil_loc get2b fun x hx => (h3 x hx).rd _ _) ?_)
        cases O.isEmpty <;> exact .pure (.pure rfl)
    cases hr : rest.isEmpty with
    | true => exact .pure (.inl ⟨rfl, rest, O, _, _, _, rfl, rfl, h3, by omega⟩)
    | false =>
      refine Rn.mono hO ?_
      rintro b H1 rfl
      cases b with
      | false => exact .inl ⟨rfl, rest, O, _, _, _, rfl, rfl, h3, by omega⟩
      | true =>
        refine .inr ⟨rfl, ?_⟩
        rw [c_order_by_while_2b]
        simp only [pure_bind]
        have hn : 0 < rest.length := by cases rest with | nil => cases hr | cons _ _ => simp
        refine .bind (.bof (listOf_loc get2b) (.bind ?_))
        simp only [eachM]
        refine .bind (.bof (listOf_loc get2a) (.bind ?_))
        simp only [m_div (i := c') (j := 9) ⟨by decide, by decide⟩, pure_bind]
        refine .bind (.bof (len_loc get2a) ?_)
        rw [m_mod (by omega)]
        have hk := fmod_lt (c'.fdiv 9) (b := (rest.length : Int)) (by omega)
        obtain ⟨k, hk'⟩ := Int.eq_ofNat_of_zero_le hk.1
        rw [hk'] at hk ⊢
        have hkl : k < rest.length := by omega
        refine .pure ?_
        refine .pure ?_
        refine .of (pop_loc get2a (List.getElem?_eq_getElem hkl)) ?_
        rw [set2a]
        refine .pure ?_
        refine .of (append_loc get2b (by omega)) ?_
        rw [set2b]
        simp only [m_mulL (i := 11) (j := c') (by decide), m_mod (i := 11 * c') (j := 1009) (by decide), m_add, pure_bind]
        refine .pure ⟨rest.length - 1, by omega, _, rest.eraseIdx k, O ++ [rest[k]], rfl, rfl, ?_, fun o ho => h2 o (List.mem_of_mem_eraseIdx ho), fun o ho => ?_, by rw [List.length_eraseIdx]; simp [hkl], by rw [List.length_append]; simp; omega⟩
        · have := fdiv_ge h1 (by decide : (0 : Int) ≤ 9)
          have := fmod_ge (a := 11 * c') (by decide : (0 : Int) < 1009)
          omega
        · rcases List.mem_append.mp ho with h | h
          · exact h3 o h
          · rw [List.mem_singleton] at h; subst h; exact h2 _ (List.getElem_mem hkl)
  · rintro r H' ⟨rest, O, o1, o2, o3, rfl, rfl, h1, h2⟩
    rw [e_go_next, c_order_by_t_3]
    exact .pure ⟨rest, O, rfl, rfl, h1, h2⟩

theorem places_of_InR {m : Int} : ∀ {O : List AV}, (∀ o ∈ O, InR m o) → ∃ ps : List Nat, O = ps.map (fun (p : Nat) => AV.int (p : Int)) ∧ ∀ p ∈ ps, (p : Int) < m
  | [], _ => ⟨[], rfl, by simp⟩
  | o :: r, h => by
    obtain ⟨ps, h1, h2⟩ := places_of_InR (O := r) fun x hx => h x (List.mem_cons_of_mem _ hx)
    obtain ⟨i, rfl, h3, h4⟩ := h o (List.mem_cons_self ..)
    refine ⟨i.toNat :: ps, by rw [List.map_cons, ← h1, Int.toNat_of_nonneg h3], fun p hp => ?_⟩
    rcases List.mem_cons.mp hp with rfl | q
    · rw [Int.toNat_of_nonneg h3]; exact h4
    · exact h2 p q

end Mine


set_option autoImplicit false
set_option linter.unusedVariables false
set_option maxRecDepth 100000
namespace Mine
open PySem PyProof.Rows

theorem s_behind (n : Nat) (H : AHeap) (r : Rw) (xs : List Int) (hl : xs.length ≤ 1000) (hr : Ans r.an) : Rn (callP P05 (n + 4) "behind" [.lst (xs.map .int), rowV r]) H fun a H' => H' = H ∧ ((a = .none ∧ ¬ okR r xs) ∨ (a = .lst ((plV r.k r.v xs).map .int) ∧ okR r xs)) := by
  refine callRn (σ := [some (.lst (xs.map .int)), some (rowV r), none, none]) (by kernel_rfl) (by kernel_rfl) (by kernel_rfl) ?_
  rw [c_behind_0]
  simp only [row2, e_eachp, e_each0, pure_bind, s_played n r.k r.v xs hl]
  rw [show pairOf (.tup [plA r.k xs, .lst ((plV r.k r.v xs).map .int)]) = pure (plA r.k xs, .lst ((plV r.k r.v xs).map .int)) from rfl]
  simp only [pure_bind, row5, isnot_e, row6]
  cases he : r.e with
  | false =>
    simp only [pure_bind, e_go_next, c_behind_t_2]
    exact .pure ⟨rfl, .inr ⟨rfl, fun h => by rw [he] at h; cases h⟩⟩
  | true =>
    obtain ⟨c, h1, h2⟩ := ne_ans (H := H) (plA_ans (k := r.k) hl) hr
    refine .bind (.bof h1 ?_)
    cases c with
    | true =>
      refine .pure (.pure ⟨rfl, .inl ⟨rfl, fun h => ?_⟩⟩)
      have := h2.mpr (h he); cases this
    | false =>
      refine .pure ?_
      simp only [pure_bind, e_go_next, c_behind_t_2]
      exact .pure ⟨rfl, .inr ⟨rfl, fun _ => h2.mp rfl⟩⟩

noncomputable def plAt (ps : List Nat) : List AV := ps.map fun (p : Nat) => AV.int (p : Int)
theorem plAt_at {ps : List Nat} {i : Nat} {a : AV} (h : (plAt ps)[i]? = some a) : ∃ p, ps[i]? = some p ∧ a = .int p := by
  unfold plAt at h
  rw [List.getElem?_map] at h
  obtain ⟨p, h1, rfl⟩ := Option.map_eq_some_iff.mp h
  exact ⟨p, h1, rfl⟩
theorem rows_at {R : List Rw} {p : Nat} {r : Rw} (h : R[p]? = some r) : (R.map rowV)[p]? = some (rowV r) := by rw [List.getElem?_map, h]; rfl

theorem s_gives (n : Nat) (H : AHeap) (R : List Rw) (ps : List Nat) (xs : List Int) (hx : xs.length ≤ 60) (hps : ps.length ≤ 9) (hp : ∀ p ∈ ps, p < R.length) (hR : ∀ r ∈ R, Ans r.an) :
    Rn (callP P05 (n + 5) "gives_answers" [.lst (xs.map .int), .lst (R.map rowV), .lst (plAt ps)]) H fun a H' => H' = H ∧ ∃ b, a = .bool b ∧ (b = true ↔ good R ps xs ps.length) := by
  refine callRn (σ := [some (.lst (xs.map .int)), some (.lst (R.map rowV)), some (.lst (plAt ps)), none, none]) (by kernel_rfl) (by kernel_rfl) (by kernel_rfl) ?_
  have L := LIMis
  have hlen : (plAt ps).length = ps.length := List.length_map ..
  rw [c_gives_answers_0, e_list_lst (by rw [List.length_map]; omega)]
  simp only [pure_bind, srcOf_lst]
  refine .then (forI (fun i σ H1 => H1 = H ∧ ∃ o1 o2 o3, σ = [o1, some (.lst (R.map rowV)), o2, some (.lst ((runV R (ps.take i) xs).map .int)), o3] ∧ good R ps xs i)
    (Q := fun r H1 => H1 = H ∧ ((∃ o1 o2 o3 o4 o5, r = .next [o1, o2, o3, o4, o5] ∧ good R ps xs ps.length) ∨ (r = .ret (.bool false) ∧ ¬ good R ps xs ps.length))) (by omega) ?_ ?_ ?_) ?_
  · exact ⟨rfl, _, _, _, rfl, fun _ _ _ h => absurd h (Nat.not_lt_zero _)⟩
  · rintro i a σ H1 ha ⟨rfl, o1, o2, o3, rfl, hg⟩
    obtain ⟨p, h1, rfl⟩ := plAt_at ha
    have hpl := hp p (List.mem_of_getElem? h1)
    have h2 := List.getElem?_eq_getElem hpl
    have hi := (List.getElem?_eq_some_iff.mp h1).1
    rw [c_gives_answers_for_1, e_item_lst (rows_at h2)]
    simp only [e_eachp, e_each0, pure_bind]
    have hrl := runV_len R (ps.take i) xs
    rw [List.length_take] at hrl
    refine .then (s_behind n H1 R[p] _ (by omega) (hR _ (List.getElem_mem hpl))) ?_
    rintro a H2 ⟨rfl, ⟨rfl, hno⟩ | ⟨rfl, hok⟩⟩
    · exact .pure ⟨rfl, .inr ⟨rfl, fun h => hno ((good_succ h1 h2).mp (good_mono h hi)).2⟩⟩
    · exact .pure ⟨rfl, _, _, _, by rw [runV_succ h1 h2], (good_succ h1 h2).mpr ⟨hg, hok⟩⟩
  · rintro σ H1 ⟨rfl, o1, o2, o3, rfl, hg⟩
    rw [hlen] at hg
    exact ⟨rfl, .inl ⟨_, _, _, _, _, rfl, hg⟩⟩
  · rintro r H1 ⟨rfl, ⟨o1, o2, o3, o4, o5, rfl, hg⟩ | ⟨rfl, hg⟩⟩
    · rw [e_go_next, c_gives_answers_t_2]
      exact .pure ⟨rfl, true, rfl, by simp [hg]⟩
    · exact .pure ⟨rfl, false, rfl, by simp [hg]⟩

theorem s_due (n : Nat) (H : AHeap) (R : List Rw) (ps : List Nat) (xs : List Int) (lr lo : Nat) (hx : xs.length ≤ 60) (hps : ps.length ≤ 9) (hp : ∀ p ∈ ps, p < R.length) (hR : ∀ r ∈ R, Ans r.an) (h1 : H[lr]? = some (.list (R.map rowV))) (h2 : H[lo]? = some (.list (plAt ps))) :
    Rn (callP P05 (n + 2) "_law_due" [.lst (xs.map .int), .loc lr, .loc lo]) H fun a H' => (∃ X, H' = H ++ X) ∧ ∃ b, a = .bool b ∧ (b = true ↔ good R ps xs ps.length) := by
  refine callRn (σ := [some (.lst (xs.map .int)), some (.loc lr), some (.loc lo), none, none, none]) (by kernel_rfl) (by kernel_rfl) (by kernel_rfl) ?_
  have L := LIMis
  have hlen : (plAt ps).length = ps.length := List.length_map ..
  have far : ∀ (X : AHeap) (l : Nat) o, H[l]? = some o → (H ++ X)[l]? = some o := fun X l o h => by rw [List.getElem?_append_left (List.getElem?_eq_some_iff.mp h).1, h]
  rw [c_due_0, e_list_lst (by rw [List.length_map]; omega)]
  simp only [pure_bind]
  refine .bof (srcOf_loc h2) ?_
  refine .then (forA (xs := plAt ps) (fun i σ H1 => (∃ X, H1 = H ++ X) ∧ ∃ o1 o2 o3 o4, σ = [o1, some (.loc lr), o2, some (.lst ((runV R (ps.take i) xs).map .int)), o3, o4] ∧ good R ps xs i)
    (Q := fun r H1 => (∃ X, H1 = H ++ X) ∧ ((∃ o1 o2 o3 o4 o5 o6, r = .next [o1, o2, o3, o4, o5, o6] ∧ good R ps xs ps.length) ∨ (r = .ret (.bool false) ∧ ¬ good R ps xs ps.length))) (by omega) ?_ ?_ ?_ ?_) ?_
  · exact ⟨⟨[], by simp⟩, _, _, _, _, rfl, fun _ _ _ h => absurd h (Nat.not_lt_zero _)⟩
  · rintro i σ H1 ⟨⟨X, rfl⟩, _⟩
    exact far X _ _ h2
  · rintro i a σ H1 ha ⟨⟨X, rfl⟩, o1, o2, o3, o4, rfl, hg⟩
    obtain ⟨p, h3, rfl⟩ := plAt_at ha
    have hpl := hp p (List.mem_of_getElem? h3)
    have h4 := List.getElem?_eq_getElem hpl
    have hi := (List.getElem?_eq_some_iff.mp h3).1
    have hrl := runV_len R (ps.take i) xs
    rw [List.length_take] at hrl
    have hit : pItem (.loc lr) (.int p) (H ++ X) = some (rowV R[p], H ++ X) := item_loc (far X _ _ h1) (rows_at h4)
    rw [c_due_for_1]
    refine .bind (.bind (.eachP (.eachC (.bof hit (.eq (row2 _) (.each0 ?_))))))
    rw [s_lplayed n _ _ _ (by omega)]
    refine .pure ?_
    refine .beq e_it1 ?_
    simp only [e_it0]
    refine .bind (.bind (.bind (.bof hit (.eq (row5 _) ?_))))
    rw [isnot_e]
    refine .pure ?_
    have hs : ∀ X', okR R[p] (runV R (ps.take i) xs) → Fl (fun σ H1 => (∃ X, H1 = H ++ X) ∧ ∃ o1 o2 o3 o4, σ = [o1, some (.loc lr), o2, some (.lst ((runV R (ps.take (i + 1)) xs).map .int)), o3, o4] ∧ good R ps xs (i + 1)) (fun v H' => (∃ X, H' = H ++ X) ∧ ((∃ o1 o2 o3 o4 o5 o6, Res.ret v = .next [o1, o2, o3, o4, o5, o6] ∧ good R ps xs ps.length) ∨ (Res.ret v = .ret (.bool false) ∧ ¬ good R ps xs ps.length))) (.next [o1, some (.loc lr), o2, some (.lst ((plV R[p].k R[p].v (runV R (ps.take i) xs)).map .int)), some (.int p), some (.tup [plA R[p].k (runV R (ps.take i) xs), .lst ((plV R[p].k R[p].v (runV R (ps.take i) xs)).map .int)])]) (H ++ X') :=
      fun X' hok => ⟨⟨X', rfl⟩, _, _, _, _, by rw [runV_succ h3 h4], (good_succ h3 h4).mpr ⟨hg, hok⟩⟩
    cases he : R[p].e with
    | false => exact .pure (.pure (hs X fun h => by rw [he] at h; cases h))
    | true =>
      refine .bind (.bind (.bind (.bind (.eachC (.bof hit (.eq (row6 _) (.eachP (.each0 ?_))))))))
      have hra := hR _ (List.getElem_mem hpl)
      refine .mono (s_alike n (H ++ X) _ _ (hra.pl.le (by omega)) ((plA_ans (k := R[p].k) (xs := runV R (ps.take i) xs) (by omega)).pl.le (by omega)) (by have := (plA_ans (k := R[p].k) (xs := runV R (ps.take i) xs) (by omega)).sz; omega)) ?_
      rintro a H2 ⟨⟨Y, rfl⟩, c, rfl, hc⟩
      rw [e_truth]
      refine .pure (.pure ?_)
      cases c with
      | false =>
        refine .pure (.pure ⟨⟨X ++ Y, by rw [List.append_assoc]⟩, .inr ⟨rfl, fun h => ?_⟩⟩)
        have := ((good_succ h3 h4).mp (good_mono h hi)).2 he
        have := hc.mpr this.symm
        cases this
      | true =>
        rw [List.append_assoc]
        exact .pure (.pure (hs (X ++ Y) fun _ => (hc.mp rfl).symm))
  · rintro σ H1 ⟨hX, o1, o2, o3, o4, rfl, hg⟩
    rw [hlen] at hg
    exact ⟨hX, .inl ⟨_, _, _, _, _, _, rfl, hg⟩⟩
  · rintro r H1 ⟨hX, ⟨o1, o2, o3, o4, o5, o6, rfl, hg⟩ | ⟨rfl, hg⟩⟩
    · rw [e_go_next, c_due_t_2]
      exact .pure ⟨hX, true, rfl, by simp [hg]⟩
    · exact .pure ⟨hX, false, rfl, by simp [hg]⟩

end Mine


set_option autoImplicit false
set_option linter.unusedVariables false
set_option maxRecDepth 100000
namespace Mine
open PySem PyProof.Rows

theorem store_at {H : AHeap} {l p : Nat} {xs : List AV} {v : AV} (h : H[l]? = some (.list xs)) (hp : p < xs.length) : pStore (.loc l) (.int p) v H = some ((), H.set l (.list (xs.set p v))) := by
  unfold pStore
  simp only [h]
  rw [if_pos (by omega)]
  simp
theorem set_same {H : AHeap} {l : Nat} {o : AO} (h : H[l]? = some o) : H.set l o = H := by
  obtain ⟨h1, h2⟩ := List.getElem?_eq_some_iff.mp h
  rw [← h2]; exact List.set_getElem_self h1
noncomputable def AllA (R : List Rw) : Prop := ∀ r ∈ R, Ans r.an
theorem e_int (b : Bool) : pBI false .int [.bool b] = pure (.int (if b then 1 else 0)) := rfl
theorem it_end (a : AV) (b : Bool) : pItem (.lst [a, .none]) (.int (if b then 1 else 0)) = pure (cond (!b) a .none) := by cases b <;> kernel_rfl
theorem AllA.set {R : List Rw} {p : Nat} {r : Rw} (h : AllA R) (hr : Ans r.an) : AllA (R.set p r) := fun s hs => by
  rcases List.mem_or_eq_of_mem_set hs with q | rfl
  · exact h s q
  · exact hr

theorem law_5 (n : Nat) (ns : List Int) (m : Int) (hm : 0 ≤ m ∧ m ≤ 9) (H : AHeap) (lr : Nat) (h : H[lr]? = some (.list [])) (o2 o3 o4 o6 : Option AV) :
    Rn (forLoop (.items (rangeL 0 m)) (forB P05 (callP P05 (n + 5)) "law" [] 5 34) FUEL 0 [some (.lst (ns.map .int)), o2, o3, o4, some (.loc lr), o6, none, none, none, none, none, none, none, none]) H
      fun r H' => ∃ R o7 o8, r = .next [some (.lst (ns.map .int)), o2, o3, o4, some (.loc lr), o6, o7, o8, none, none, none, none, none, none] ∧ H' = H.set lr (.list (R.map rowV)) ∧ (R.length : Int) = m ∧ AllA R := by
  have L := LIMis
  have hlt := (List.getElem?_eq_some_iff.mp h).1
  refine forI (fun i σ H' => ∃ R o7 o8, σ = [some (.lst (ns.map .int)), o2, o3, o4, some (.loc lr), o6, o7, o8, none, none, none, none, none, none] ∧ H' = H.set lr (.list (R.map rowV)) ∧ R.length = i ∧ AllA R) (by rw [rangeL_length]; omega) ?_ ?_ ?_
  · refine ⟨[], _, _, rfl, ?_, rfl, by unfold AllA; simp⟩
    rw [List.map_nil]
    exact (set_same h).symm
  · rintro i a σ H' ha ⟨R, o7, o8, rfl, rfl, hR, hA⟩
    obtain ⟨rfl, hi⟩ := rangeL_at ha
    have hset : (H.set lr (.list (R.map rowV)))[lr]? = some (.list (R.map rowV)) := by rw [List.getElem?_set_self hlt]
    rw [c_law_for_5]
    simp only [m_add, e_eachp, e_each0, pure_bind]
    rw [show (4 : Int) + (0 + (i : Int)) = ((4 + i : Nat) : Int) from by omega, s_cell_at, pure_bind]
    simp only [m_div (j := 4) d4, m_mod (j := 4) (by decide), e_eqi, pure_bind, e_eachp, e_each0, e_int, e_newL (xs := [AV.int (0 + (i : Int)), .none]) (by simp; omega), it_end]
    obtain ⟨k, hk⟩ := s_deed_by (n + 3) ((cellAt ns (4 + i)).fdiv 4)
    refine .bind (.bof (listOf_loc hset) ?_)
    simp only [eachM, hk, pure_bind]
    refine .of (append_loc hset (by rw [List.length_map]; omega)) ?_
    refine .pure ⟨R ++ [⟨0 + (i : Int), k, valueBy (((cellAt ns (4 + i)).fdiv 4).fdiv 12), !decide ((cellAt ns (4 + i)).fmod 4 = 1), .none⟩], _, _, rfl, ?_, by rw [List.length_append, hR]; rfl, ?_⟩
    · rw [List.set_set, List.map_append]; rfl
    · intro r hr
      rcases List.mem_append.mp hr with q | q
      · exact hA r q
      · rw [List.mem_singleton.mp q]; exact .none
  · rintro σ H' ⟨R, o7, o8, rfl, rfl, hR, hA⟩
    exact ⟨R, o7, o8, rfl, rfl, by rw [hR, rangeL_length]; omega, hA⟩

theorem law_6 (n : Nat) (H : AHeap) (lr lo : Nat) (R : List Rw) (ps : List Nat) (xs : List Int) (hx : xs.length ≤ 60) (hne : lo ≠ lr) (h : H[lr]? = some (.list (R.map rowV))) (ho : H[lo]? = some (.list (plAt ps))) (hps : ps.length ≤ 9) (hp : ∀ p ∈ ps, p < R.length) (hA : AllA R) (o1 o2 o3 o7 o8 : Option AV) :
    Rn (forLoop (.at lo) (forB P05 (callP P05 (n + 5)) "law" [] 6 33) FUEL 0 [o1, o2, o3, some (.loc lo), some (.loc lr), some (.lst (xs.map .int)), o7, o8, none, none, none, none, none, none]) H
      fun r H' => ∃ (R' : List Rw) (o6 o9 o10 : Option AV), r = .next [o1, o2, o3, some (.loc lo), some (.loc lr), o6, o7, o8, o9, o10, none, none, none, none] ∧ H' = H.set lr (.list (R'.map rowV)) ∧ R'.length = R.length ∧ AllA R' := by
  have hlt := (List.getElem?_eq_some_iff.mp h).1
  have hlen : (plAt ps).length = ps.length := List.length_map ..
  refine forA (xs := plAt ps) (fun i σ H' => ∃ (R' : List Rw) (ys : List Int) (o9 o10 : Option AV), σ = [o1, o2, o3, some (.loc lo), some (.loc lr), some (.lst (ys.map .int)), o7, o8, o9, o10, none, none, none, none] ∧ H' = H.set lr (.list (R'.map rowV)) ∧ R'.length = R.length ∧ AllA R' ∧ ys.length ≤ 60 + i) (by omega) ?_ ?_ ?_ ?_
  · exact ⟨R, xs, _, _, rfl, (set_same h).symm, rfl, hA, hx⟩
  · rintro i σ H' ⟨R', ys, o9, o10, rfl, rfl, _⟩
    rw [List.getElem?_set_ne (Ne.symm hne)]; exact ho
  · rintro i a σ H' ha ⟨R', ys, o9, o10, rfl, rfl, hR, hA', hy⟩
    obtain ⟨p, h3, rfl⟩ := plAt_at ha
    have hi := (List.getElem?_eq_some_iff.mp h3).1
    have hpl : p < R'.length := by rw [hR]; exact hp p (List.mem_of_getElem? h3)
    have h4 := List.getElem?_eq_getElem hpl
    have hset : (H.set lr (.list (R'.map rowV)))[lr]? = some (.list (R'.map rowV)) := by rw [List.getElem?_set_self hlt]
    have hit : pItem (.loc lr) (.int p) (H.set lr (.list (R'.map rowV))) = some (rowV R'[p], H.set lr (.list (R'.map rowV))) := item_loc hset (rows_at h4)
    have hle := plV_le R'[p].k R'[p].v ys
    rw [c_law_for_6]
    refine .bind (.bind (.eachP (.eachC (.bof hit (.eq (row2 _) (.each0 ?_))))))
    rw [s_lplayed (n + 4) _ _ _ (by omega)]
    refine .pure ?_
    refine .beq e_it1 ?_
    simp only [e_it0]
    refine .bind (.bind (.bof hit (.eq (row5 _) ?_)))
    rw [isnot_e]
    refine .pure ?_
    cases he : R'[p].e with
    | false => exact .pure ⟨R', _, _, _, rfl, rfl, hR, hA', by omega⟩
    | true =>
      refine .bind (.bind (.bind (.bind (.of hit ?_))))
      simp only [pure_bind, e_eachp, e_each0]
      rw [show pSlice false (rowV R'[p]) none (some 6) = pure (.tup [.int R'[p].i, .int 0, deedK R'[p].k R'[p].v, .int R'[p].i, .int R'[p].i, cond R'[p].e (.int R'[p].i) .none]) from by kernel_rfl]
      refine .pure (.pure ?_)
      refine (.bof (store_at hset (by rw [List.length_map]; exact hpl)) (.pure (.pure ⟨R'.set p { R'[p] with an := plA R'[p].k ys }, _, _, _, rfl, ?_, by rw [List.length_set, hR], hA'.set (plA_ans (by omega)), by omega⟩)))
      rw [List.set_set, List.map_set]; rfl
  · rintro σ H' ⟨R', ys, o9, o10, rfl, rfl, hR, hA', hy⟩
    exact ⟨R', _, o9, o10, rfl, rfl, hR, hA'⟩
end Mine


set_option autoImplicit false
set_option linter.unusedVariables false
set_option maxRecDepth 100000
namespace Mine
open PySem PyProof.Rows

theorem d24 : (24 : Int) ≠ 0 ∧ (24 : Int).natAbs < 1073741824 := ⟨by decide, by decide⟩
theorem far {H X : AHeap} {l : Nat} {o : AO} (h : H[l]? = some o) : (H ++ X)[l]? = some o := by rw [List.getElem?_append_left (List.getElem?_eq_some_iff.mp h).1, h]

theorem law_10 (n : Nat) (H : AHeap) (lr lo lp : Nat) (R : List Rw) (ps qs : List Nat) (xs : List Int) (hx : xs.length ≤ 60) (h : H[lr]? = some (.list (R.map rowV))) (ho : H[lo]? = some (.list (plAt ps))) (hq : H[lp]? = some (.list (plAt qs)))
    (hps : ps.length ≤ 9) (hp : ∀ p ∈ ps, p < R.length) (hqs : qs.length ≤ 9) (hqp : ∀ p ∈ qs, p < R.length) (hA : AllA R) (hRl : R.length ≤ 9) (o1 o3 o4 o6 o7 o8 o9 o10 o11 : Option AV) :
    Rn (forLoop (.items [.loc lo, .loc lp, .loc lo]) (forB P05 (callP P05 (n + 5)) "law" [] 10 29) FUEL 0 [o1, some (.lst (xs.map .int)), o3, o4, some (.loc lr), o6, o7, o8, o9, o10, o11, some (.lst (xs.map .int)), none, none]) H
      fun r H' => ∃ o1 o2 o3 o4 o5 o6 o7 o8 o9 o10 o11 o12 o13 o14, r = .next [o1, o2, o3, o4, o5, o6, o7, o8, o9, o10, o11, o12, o13, o14] := by
  have L := LIMis
  refine forI (fun i σ H' => (∃ X, H' = H ++ X) ∧ ∃ o13 o14, σ = [o1, some (.lst (xs.map .int)), o3, o4, some (.loc lr), o6, o7, o8, o9, o10, o11, some (.lst (xs.map .int)), o13, o14]) (by simp) ?_ ?_ ?_
  · exact ⟨⟨[], by simp⟩, _, _, rfl⟩
  · rintro i a σ H' ha ⟨⟨X, rfl⟩, o13, o14, rfl⟩
    have hl : ∃ l qs, a = .loc l ∧ H[l]? = some (.list (plAt qs)) ∧ qs.length ≤ 9 ∧ ∀ p ∈ qs, p < R.length := by
      match i, ha with
      | 0, ha => cases ha; exact ⟨lo, ps, rfl, ho, hps, hp⟩
      | 1, ha => cases ha; exact ⟨lp, qs, rfl, hq, hqs, hqp⟩
      | 2, ha => cases ha; exact ⟨lo, ps, rfl, ho, hps, hp⟩
    obtain ⟨l, qs, rfl, h1, h2, h3⟩ := hl
    have hl1 : (plAt qs).length ≤ LIM := by unfold plAt; rw [List.length_map]; omega
    rw [c_law_for_10]
    refine .bind (.bind (.eachP (.eachE (list_loc (far h) (by rw [List.length_map]; omega)) (.eachE (list_loc (far h1) hl1) (.each0 ?_)))))
    refine .mono (s_gives n (H ++ X) R qs xs hx h2 h3 hA) ?_
    rintro a H1 ⟨rfl, b, rfl, hb⟩
    simp only [pure_bind, show pIsi (.bool b) .bool = pure true from rfl, e_truth, Bool.not_true]
    refine .bind (.bind (.bind (.mono (s_due (n + 3) (H ++ X) R qs xs lr l hx h2 h3 hA (far h) (far h1)) ?_)))
    rintro a H1 ⟨⟨Y, rfl⟩, c, rfl, hc⟩
    have hbc : b = c := by cases b <;> cases c <;> simp_all
    subst hbc
    rw [e_neb, bne_self_eq_false]
    refine .pure (.bof (ne_same_ints xs) (.pure (.pure ⟨⟨X ++ Y, by rw [List.append_assoc]⟩, _, _, rfl⟩)))
  · rintro σ H' ⟨_, o13, o14, rfl⟩
    exact ⟨_, _, _, _, _, _, _, _, _, _, _, _, _, _, rfl⟩

/-- from the ninth statement on -/
theorem law_9 (n : Nat) (H : AHeap) (lr lo : Nat) (R : List Rw) (ps : List Nat) (xs : List Int) (c : Int) (hc : 0 ≤ c) (hx : xs.length ≤ 60) (h : H[lr]? = some (.list (R.map rowV))) (ho : H[lo]? = some (.list (plAt ps)))
    (hps : ps.length ≤ 9) (hp : ∀ p ∈ ps, p < R.length) (hA : AllA R) (hRl : R.length ≤ 9) (o1 o6 o7 o9 o10 o11 : Option AV) :
    Rn (tl P05 (callP P05 (n + 5)) "law" [] 9 31 [o1, some (.lst (xs.map .int)), some (.int R.length), some (.loc lo), some (.loc lr), o6, o7, some (.int c), o9, o10, o11, none, none, none]) H (Fl (fun _ _ => False) fun a _ => a = .bool true) := by
  have L := LIMis
  rw [c_law_t_9, e_list_lst (by rw [List.length_map]; omega), pure_bind, m_div (i := c) (j := 24) d24]
  refine .bind (.bind (.eachP (.eachC (.bind (.eachP (.eachP (.each0 (.mono (s_order_by (n + 4) H (c.fdiv 24) R.length (fdiv_ge hc (by decide)) (by omega)) ?_))))))))
  rintro a H1 ⟨rest, O, rfl, rfl, hO1, hO2⟩
  obtain ⟨qs, hqe, hq⟩ := places_of_InR hO1
  have hqe' : O = plAt qs := hqe
  clear hqe
  subst hqe'
  have hO3 : qs.length ≤ 9 := by unfold plAt at hO2; rw [List.length_map] at hO2; exact hO2
  refine .eachP (.each0 ?_)
  rw [e_newL (by simp; omega)]
  refine .pure ?_
  refine .beq srcOf_lst ?_
  have hl10 := law_10 n (H ++ [.list rest, .list (plAt qs)]) lr lo (H.length + 1) R ps qs xs hx (far h) (far ho) get2b hps hp hO3 (fun p hp' => by have := hq p hp'; omega) hA hRl o1 (some (.int R.length)) (some (.loc lo)) o6 o7 (some (.int c)) o9 o10 o11
  refine Rn.bind (Rn.mono hl10 fun r H' q => ?_)
  obtain ⟨o1, o2, o3, o4, o5, o6, o7, o8, o9, o10, o11, o12, o13, o14, rfl⟩ := q
  rw [e_go_next, c_law_t_11]
  exact .pure rfl
end Mine


set_option autoImplicit false
set_option linter.unusedVariables false
set_option maxRecDepth 100000
namespace Mine
open PySem PyProof.Rows

theorem odd_at (j : Nat) (hj : j < 6) : ∃ a, ([.none, .int 5, .tup [], .tup [.int 5], .int 0, .int (-1)] : List AV)[j]? = some a ∧ Ans a := by
  match j, hj with
  | 0, _ => exact ⟨_, rfl, .none⟩
  | 1, _ => exact ⟨_, rfl, .int 5⟩
  | 2, _ => exact ⟨_, rfl, .tup [] (by simp)⟩
  | 3, _ => exact ⟨_, rfl, .tup [5] (by simp)⟩
  | 4, _ => exact ⟨_, rfl, .int 0⟩
  | 5, _ => exact ⟨_, rfl, .int (-1)⟩
theorem slice6 (r : Rw) : pSlice false (rowV r) none (some 6) = pure (.tup [.int r.i, .int 0, deedK r.k r.v, .int r.i, .int r.i, cond r.e (.int r.i) .none]) := by kernel_rfl

/-- from the seventh statement on -/
theorem law_7 (n : Nat) (ns : List Int) (H : AHeap) (lr lo : Nat) (R : List Rw) (ps : List Nat) (xs : List Int) (hx : xs.length ≤ 60) (hne : lo ≠ lr) (h : H[lr]? = some (.list (R.map rowV))) (ho : H[lo]? = some (.list (plAt ps)))
    (hps : ps.length ≤ 9) (hp : ∀ p ∈ ps, p < R.length) (hA : AllA R) (hRl : R.length ≤ 9) (o6 o7 o8 o9 o10 : Option AV) :
    Rn (tl P05 (callP P05 (n + 5)) "law" [] 7 33 [some (.lst (ns.map .int)), some (.lst (xs.map .int)), some (.int R.length), some (.loc lo), some (.loc lr), o6, o7, o8, o9, o10, none, none, none, none]) H (Fl (fun _ _ => False) fun a _ => a = .bool true) := by
  have L := LIMis
  have hlt := (List.getElem?_eq_some_iff.mp h).1
  have hc := cellAt_ge ns 3
  rw [c_law_t_7, show (AV.int 3) = .int ((3 : Nat) : Int) from rfl, s_cell_at, pure_bind, e_gt, pure_bind]
  by_cases h0 : (0 : Int) < R.length
  · rw [decide_eq_true h0]
    simp only [m_mod (i := cellAt ns 3) (j := 2) (by decide), e_eqi, pure_bind]
    by_cases h1 : (cellAt ns 3).fmod 2 = 1
    · rw [decide_eq_true h1]
      have hj := fmod_lt ((cellAt ns 3).fdiv 2) (b := 6) (by decide)
      obtain ⟨j, hj'⟩ := Int.eq_ofNat_of_zero_le hj.1
      obtain ⟨a, ha, hAn⟩ := odd_at j (by omega)
      have hk := fmod_lt ((cellAt ns 3).fdiv 12) (b := (R.length : Int)) h0
      obtain ⟨p, hp'⟩ := Int.eq_ofNat_of_zero_le hk.1
      have hpl : p < R.length := by omega
      have h4 := List.getElem?_eq_getElem hpl
      have hit : pItem (.loc lr) (.int p) H = some (rowV R[p], H) := item_loc h (rows_at h4)
      simp only [pure_bind, e_newL (xs := [AV.none, .int 5, .tup [], .tup [.int 5], .int 0, .int (-1)]) (by simp; omega), m_div (i := cellAt ns 3) (j := 2) ⟨by decide, by decide⟩, m_mod (j := 6) (by decide), hj', e_item_lst ha, m_div (i := cellAt ns 3) (j := 12) d12, m_mod (j := (R.length : Int)) (by omega), hp']
      refine .bind (.bind (.bind (.bof hit ?_)))
      rw [slice6]
      refine .pure ?_
      rw [m_tup (by simp; omega)]
      refine .pure (.bof (store_at h (by rw [List.length_map]; exact hpl)) (.pure ?_))
      have e : (R.map rowV).set p (.tup ([.int R[p].i, .int 0, deedK R[p].k R[p].v, .int R[p].i, .int R[p].i, cond R[p].e (.int R[p].i) .none] ++ [a])) = (R.set p { R[p] with an := a }).map rowV := by rw [List.map_set]; rfl
      rw [e, e_go_next]
      have hl : (R.set p { R[p] with an := a }).length = R.length := List.length_set ..
      rw [← hl]
      exact law_9 n _ lr lo _ ps xs _ hc hx (by rw [List.getElem?_set_self hlt]) (by rw [List.getElem?_set_ne (Ne.symm hne)]; exact ho) hps (by rw [hl]; exact hp) (hA.set hAn) (by omega) _ _ _ _ _ _
    · rw [decide_eq_false h1]
      simp only [pure_bind, e_go_next]
      exact law_9 n H lr lo R ps xs _ hc hx h ho hps hp hA hRl _ _ _ _ _ _
  · rw [decide_eq_false h0]
    simp only [pure_bind, e_go_next]
    exact law_9 n H lr lo R ps xs _ hc hx h ho hps hp hA hRl _ _ _ _ _ _

theorem s_law (ns : List Int) (hl : ns.length ≤ 63) : Rn (callP P05 6 "law" [.lst (ns.map .int)]) [] fun a _ => a = .bool true := by
  refine callRn (σ := [some (.lst (ns.map .int)), none, none, none, none, none, none, none, none, none, none, none, none, none]) (by kernel_rfl) (by kernel_rfl) (by kernel_rfl) ?_
  have L := LIMis
  have hm := fmod_lt (cellAt ns 1) (b := 9) (by decide)
  obtain ⟨xs, hx, hs⟩ := s_start_by 3 (cellAt ns 0)
  rw [c_law_0, show (AV.int 0) = .int ((0 : Nat) : Int) from rfl, s_cell_at]
  simp only [e_eachp, e_each0, pure_bind, hs]
  rw [show (AV.int 1) = .int ((1 : Nat) : Int) from rfl, s_cell_at, pure_bind, m_mod (by decide), pure_bind, show (AV.int 2) = .int ((2 : Nat) : Int) from rfl, s_cell_at]
  simp only [e_eachp, e_each0, pure_bind]
  refine .then (s_order_by 4 [] (cellAt ns 2) _ (cellAt_ge ns 2) (by omega)) ?_
  rintro a H ⟨rest, O, rfl, rfl, hO1, hO2⟩
  obtain ⟨ps, rfl, hp⟩ := places_of_InR hO1
  simp only [List.length_nil, List.nil_append, Nat.zero_add]
  refine .bof (newT (by simp)) ?_
  rw [e_list_lst (by rw [List.length_map]; omega), pure_bind, e_range1, pure_bind, srcOf_range (by omega) (by omega), pure_bind]
  refine .then (law_5 0 ns _ (by omega) _ 2 rfl _ _ _ _) ?_
  rintro r H ⟨R, o7, o8, rfl, rfl, hR, hA⟩
  rw [e_go_next, c_law_t_6]
  simp only [pure_bind]
  have hlo : (([.list rest, .list (plAt ps), .list (R.map rowV)] : AHeap))[1]? = some (.list (plAt ps)) := rfl
  have hlr : (([.list rest, .list (plAt ps), .list (R.map rowV)] : AHeap))[2]? = some (.list (R.map rowV)) := rfl
  have hH : List.set (([AO.list rest, AO.list (ps.map fun (p : Nat) => AV.int (p : Int))] : AHeap) ++ [AO.list []]) 2 (AO.list (R.map rowV)) = [.list rest, .list (plAt ps), .list (R.map rowV)] := rfl
  rw [hH]
  rw [List.length_map] at hO2
  have hpR : ∀ p ∈ ps, p < R.length := fun p hp' => by have := hp p hp'; omega
  refine .bof (srcOf_loc hlo) ?_
  refine .then (law_6 0 _ 2 1 R ps xs hx (by decide) hlr hlo hO2 hpR hA _ _ _ _ _) ?_
  rintro r H ⟨R', o6, o9, o10, rfl, rfl, hR', hA'⟩
  rw [e_go_next, ← hR, ← hR']
  refine .mono (law_7 0 ns _ 2 1 R' ps xs hx (by decide) (by rw [List.getElem?_set_self (by simp)]) (by rw [List.getElem?_set_ne (by decide)]; exact hlo) hO2 (by rw [hR']; exact hpR) hA' (by omega) _ _ _ _ _) ?_
  intro r H' q
  cases r with
  | next _ => exact q.elim
  | ret v => exact q
end Mine


open PySem PySem.W PyProof.Rows
set_option Elab.async false
set_option maxRecDepth 100000
set_option maxHeartbeats 8000000
namespace Mine
noncomputable def D05 : Tbl := []
noncomputable def q05 : Program := viewOf PySem.Challenge.pw_uf020017_05
noncomputable def loose05 : List Str := []
noncomputable def top05 (w : World) : Prop := (openEnds treeTable PySem.Challenge.pw_uf020017_05 w 6000).map (fun s => (openSeen q05 loose05 (importedModules PySem.Challenge.pw_uf020017_05.main.body) (fun s => xlAt q05 [] s && recOk (RowW.records PySem.Challenge.rw_uf020017_05.row.toRowW) s && tblX D05 s) true s, tblF D05 s)) = some (openGood q05 loose05, tblA D05 w)
theorem left05a (w : World) : top05 (w.withFollow "special-get-raises" false) := by
  unfold top05 openEnds fencedOpening topFrom
  rw [PySem.W.Fast.te10274390034422433532, PySem.W.Fast.te14082659384304107361, PySem.W.Fast.te4187177175401517315, PySem.W.Fast.te14364793385576792824, PySem.W.Fast.te1435165496053646825, PySem.W.Fast.te14289696077712309145, PySem.W.Fast.te5923862056798008813]
  kernel_rfl
theorem left05b (w : World) : top05 (w.withFollow "special-get-raises" true) := by
  unfold top05 openEnds fencedOpening topFrom
  rw [PySem.W.Fast.te10274390034422433532, PySem.W.Fast.te14082659384304107361, PySem.W.Fast.te4187177175401517315, PySem.W.Fast.te14364793385576792824, PySem.W.Fast.te1435165496053646825, PySem.W.Fast.te14289696077712309145, PySem.W.Fast.te5923862056798008813]
  kernel_rfl
theorem left05 : LeftO PySem.Challenge.rw_uf020017_05.row.prog q05 loose05 (fun s => xlAt q05 [] s && recOk (RowW.records PySem.Challenge.rw_uf020017_05.row.toRowW) s && tblX D05 s) (tblF D05) (tblA D05) 6000 :=
  byRow2 (P := top05) "special-get-raises" left05a left05b
theorem said05 : PySem.Challenge.rw_uf020017_05.wellSaid = true := by
  rw [PySem.W.Fast.te9446332074065402090]
  kernel_rfl
theorem promised05 : PySem.Challenge.rw_uf020017_05.row.toRowW.promised := by
  w_witness2
end Mine
theorem PySem.Challenge.cw_uf020017_05_holds : PySem.Challenge.rw_uf020017_05.Holds := by
  refine Mine.head_law (q := Mine.q05) (loose := Mine.loose05) (D := Mine.D05) (P := Mine.P05) (n := 6) Mine.said05 Mine.left05 (by kernel_rfl) (by kernel_rfl) (by kernel_rfl) (by kernel_rfl) (by kernel_rfl) ⟨rfl, rfl, rfl, rfl, rfl, by decide +kernel⟩ Mine.promised05 rfl rfl (by kernel_rfl) (Mine.defs_ok (by kernel_rfl) (by kernel_rfl)) (by kernel_rfl) (by decide)
    (fun w mean mg mb h os X Y T x a hg => (nomatch hg)) (fun ns hl => ?_)
  obtain ⟨a, H', h, rfl⟩ := Mine.s_law ns hl
  exact ⟨H', h⟩

