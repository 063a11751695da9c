import PyProof.Rows.All
import Wide.All
import OpenK.AllK
import Wide.FinOn
import PyProof.EqAt
import PyProof.EqKinds
import PyProof.TupleCall
import PyProof.ReprRoads
import HandS.ForMost
import HandS.Exc
import HandS.TryOnly
import HandS.ExcInit
import HandS.ExcField
import HandS.ExcIs
import HandS.CallSlots
import HandS.Lambda
import HandS.EndTab
import HandS.Wide
import HandS.IsInst
import HandS.TupAny
import HandS.TupMul
import HandS.Flow
import HandS.Conv
import KE.GoesEnum
import KE.GoesMore
import HandS.Zip
import HandS.Style
import HandS.ExcCtx
import HandS.HotCalls
import HandS.ExcInitHot
import KE.KExcIs
import HandS.HeadHook4
import HandS.HeadWalk
import HandS.NestedK
import HandS.Head2
import PyProof.StrLawsRepr
import PyProof.Rows.RegStrFacts
import PySem.Challenge.RW_duechances_k01_forms_and_their_values
set_option Elab.async false
set_option linter.all false
set_option maxRecDepth 100000
/-! The evaluator: a small IR of Python, values as PyData, mutable lists as cells. -/
namespace Ev
open PySem

inductive Bop where
  | add | sub | mul | fdiv | mod | pow
  deriving DecidableEq
inductive Cop where
  | eq | ne | lt | le | gt | ge
  deriving DecidableEq
inductive Ty where
  | int | bool | str | tuple | list
  deriving DecidableEq
/-- built-in functions -/
inductive Bi where
  | len | int | abs | max2 | min2 | isi (t : Ty) | tuple | list | lrng | sum | repr
  deriving DecidableEq
/-- what a for walks -/
inductive Itk where
  | seq | seqL | rng | enum | zip
  deriving DecidableEq
/-- methods -/
inductive Me where
  | append | extend | popAt | join
  deriving DecidableEq
inductive Tg where
  | nm (i : Nat)
  | tp (ts : List Nat)
inductive IE where
  | var (i : Nat)
  | k (x : PyData)
  | glob (g : Nat)
  | tup (es : List IE)
  | lst (mt : Bool) (es : List IE)
  | bop (o : Bop) (a b : IE)
  | neg (a : IE)
  | not (a : IE)
  | and (a b : IE)
  | or (a b : IE)
  | cmp (o : Cop) (a b : IE)
  | isn (pos : Bool) (a : IE)
  | chain (o p : Cop) (a b c : IE)
  | ite (c a b : IE)
  | ix (a i : IE)
  | sl (a : IE) (lo hi : Option IE)
  | call (f : Nat) (es : List IE)
  | bi (b : Bi) (mt : Bool) (es : List IE)
  | isx (c : Nat) (i : Nat)
  | me (m : Me) (o : IE) (es : List IE)
  | comp (mt : Bool) (own : List Nat) (k : Itk) (es : List IE) (tg : Tg) (cond : Option IE) (elt : IE)
  | lam (e : IE)
  | clo (i : Nat)
  | what (i : Nat)
inductive IS where
  | set (i : Nat) (e : IE)
  | par (is : List Nat) (es : List IE)
  | unp (is : List Nat) (e : IE)
  | setix (a i e : IE)
  | aug (i : Nat) (o : Bop) (e : IE)
  | ex (e : IE)
  | ite (c : IE) (t f : List IS)
  | for (k : Itk) (es : List IE) (tg : Tg) (body : List IS)
  | ret (e : IE)
  | retN
  | brk | cont | pass
  | raise (cls : Nat) (e : IE)
  | tryAs (body : List IS) (cls : Nat) (i : Nat) (suite : List IS)
  /-- no statement of Python: the cell at a name becomes data -/
  | frz (i : Nat)

/-- run-time values: data, the script, a cell, a lambda with what it captured, a caught exception -/
inductive R where
  | d (x : PyData)
  | s (ns : List Int)
  | c (i : Nat)
  | lam (e : IE) (env : List (Option R))
  | x (cls : Nat) (w : PyData)
abbrev Env := List (Option R)
inductive Cell where
  | lst (xs : List R)
  | dead
abbrev Store := List Cell

inductive Res (α : Type) where
  | ok (a : α) (st : Store)
  | exc (cls : Nat) (w : PyData) (st : Store)
  | bad
def Res.bind {α β : Type} (r : Res α) (f : α → Store → Res β) : Res β := match r with
  | .ok a st => f a st
  | .exc c w st => .exc c w st
  | .bad => .bad
inductive Out where
  | nx (env : Env) (st : Store)
  | ret (r : R) (st : Store)
  | brk (env : Env) (st : Store)
  | cnt (env : Env) (st : Store)
  | exc (cls : Nat) (w : PyData) (env : Env) (st : Store)
  | bad
def Res.out (r : Res R) (env : Env) (f : R → Store → Out) : Out := match r with
  | .ok a st => f a st
  | .exc c w st => .exc c w env st
  | .bad => .bad

/-- the static context: functions (slots, body), module constants, subclass relation -/
structure Fn where
  slots : Nat
  pars : Nat
  body : List IS
structure Ctx where
  fns : List Fn
  globs : List PyData
  sub : Nat → Nat → Bool

/-! ### data -/
@[reducible] def R.int (i : Int) : R := .d (.int i)
def allD : List R → Option (List PyData)
  | [] => some []
  | .d x :: r => (allD r).map (x :: ·)
  | _ :: _ => none
def allInts : List PyData → Option (List Int)
  | [] => some []
  | .int i :: r => (allInts r).map (i :: ·)
  | _ :: _ => none
def allStrs : List PyData → Option (List Str)
  | [] => some []
  | .str i :: r => (allStrs r).map (i :: ·)
  | _ :: _ => none
/-- the items of a sequence -/
def items (r : R) (st : Store) : Option (List R) := match r with
  | .d (.list xs) => some (xs.map R.d)
  | .d (.tuple xs) => some (xs.map R.d)
  | .s ns => some (ns.map fun i => R.d (.int i))
  | .c i => match st[i]? with
    | some (.lst xs) => some xs
    | _ => none
  | _ => none
/-- no cell at or above n is named -/
def isBelow (n : Nat) (r : R) : Bool := match r with
  | .d _ => true
  | .c i => decide (i < n)
  | _ => false
/-- a new list, frozen or a cell -/
def newList (mt : Bool) (xs : List R) (st : Store) : Res R :=
  if xs.length ≤ sizeLine then
    if mt then (if xs.all (isBelow st.length) then .ok (.c st.length) (st ++ [.lst xs]) else .bad)
    else match allD xs with
      | some ds => .ok (.d (.list ds)) st
      | none => .bad
  else .bad
def truth (r : R) (st : Store) : Option Bool := match r with
  | .d .none => some false
  | .d (.bool b) => some b
  | .d (.int i) => some (decide (i ≠ 0))
  | .d (.str x) => if x.length ≤ sizeLine then some (decide (x.length ≠ 0)) else none
  | .d (.list xs) => some !xs.isEmpty
  | .d (.tuple xs) => some !xs.isEmpty
  | .c i => match st[i]? with
    | some (.lst xs) => some !xs.isEmpty
    | _ => none
  | _ => none
def divOk (j : Int) : Bool := decide (0 < j ∧ j.natAbs.log2 < 9000)
def mulOk (i j : Int) : Bool := decide (i.natAbs.log2 + j.natAbs.log2 < 1000000)
def powOk (i j : Int) : Bool := decide (0 ≤ j ∧ j ≤ 1000000 ∧ i.natAbs < 2 ^ 64)
def bopD (o : Bop) (x y : PyData) : Option PyData := match o, x, y with
  | .add, .int i, .int j => some (.int (i + j))
  | .add, .str a, .str b => if a.length + b.length ≤ sizeLine then some (.str (a ++ b)) else none
  | .add, .tuple a, .tuple b => if a.length + b.length ≤ sizeLine then some (.tuple (a ++ b)) else none
  | .add, .list a, .list b => if a.length + b.length ≤ sizeLine then some (.list (a ++ b)) else none
  | .sub, .int i, .int j => some (.int (i - j))
  | .mul, .int i, .int j => if mulOk i j then some (.int (i * j)) else none
  | .mul, .tuple a, .int k => if 0 < a.length ∧ 2 ≤ k ∧ k ≤ 1000 ∧ a.length ≤ 1000 then some (.tuple ((List.replicate k.toNat a).flatten)) else none
  | .fdiv, .int i, .int j => if divOk j then some (.int (i / j)) else none
  | .mod, .int i, .int j => if 0 < j then some (.int (i % j)) else none
  | .pow, .int i, .int j => if powOk i j then some (.int (i ^ j.toNat)) else none
  | _, _, _ => none
def cmpI (o : Cop) (i j : Int) : Bool := match o with
  | .eq => decide (i = j)
  | .ne => !decide (i = j)
  | .lt => decide (i < j)
  | .le => decide (i ≤ j)
  | .gt => decide (j < i)
  | .ge => decide (j ≤ i)
/-- comparisons: of ints by their worth; ==, != of data -/
def cmpD (o : Cop) (x y : PyData) : Option Bool := match x, y with
  | .int i, .int j => some (cmpI o i j)
  | .str a, .str c => (match o with
    | .eq => some (decide (a = c))
    | .ne => some (!decide (a = c))
    | _ => none)
  | _, _ => match o with
    | .eq => if SeqAt.shaped x && SeqAt.shaped y then some (PyData.eqv x y) else none
    | .ne => if SeqAt.shaped x && SeqAt.shaped y then some !(PyData.eqv x y) else none
    | _ => none
/-- a value as data: a cell of data is read -/
def asD (r : R) (st : Store) : Option PyData := match r with
  | .d x => some x
  | .c i => match st[i]? with
    | some (.lst xs) => (allD xs).map .list
    | _ => none
  | _ => none
def isTy (t : Ty) (r : R) (st : Store) : Option Bool := match r with
  | .d .none => some false
  | .d (.bool _) => some (t == .int || t == .bool)
  | .d (.int _) => some (t == .int)
  | .d (.str _) => some (t == .str)
  | .d (.list _) => some (t == .list)
  | .d (.tuple _) => some (t == .tuple)
  | .c i => match st[i]? with
    | some (.lst _) => some (t == .list)
    | _ => none
  | _ => none
def intsOf (r : R) (st : Store) : Option (List Int) := match asD r st with
  | some (.list xs) => allInts xs
  | _ => none
def strsOf (r : R) (st : Store) : Option (List Str) := match asD r st with
  | some (.list xs) => allStrs xs
  | some (.tuple xs) => allStrs xs
  | _ => none
def inB (i : Int) : Bool := decide (-(2 ^ 62) ≤ i ∧ i < 2 ^ 62)
def rngList (lo : Int) (n : Nat) : List R := (List.range n).map fun k => .d (.int (lo + (k : Nat)))
def ap1 (f : R → Res R) : List R → Res R
  | [r] => f r
  | _ => .bad
def ap2 (f : R → R → Res R) : List R → Res R
  | [r, q] => f r q
  | _ => .bad
def lenR (r : R) (st : Store) : Option Nat := match r with
  | .d (.str x) => if x.length ≤ sizeLine then some x.length else none
  | r => (items r st).map (·.length)
def lenK (st : Store) (r : R) : Res R := match lenR r st with
  | some n => .ok (.d (.int n)) st
  | none => .bad
def intK (st : Store) (r : R) : Res R := match r with
  | .d (.int i) => .ok (.d (.int i)) st
  | .d (.bool b) => .ok (.d (.int (if b then 1 else 0))) st
  | _ => .bad
def absK (st : Store) (r : R) : Res R := match r with
  | .d (.int i) => .ok (.d (.int (if i < 0 then -i else i))) st
  | _ => .bad
def ints2 (f : Int → Int → Int) (st : Store) (r q : R) : Res R := match r, q with
  | .d (.int i), .d (.int j) => .ok (.d (.int (f i j))) st
  | _, _ => .bad
def isiK (t : Ty) (st : Store) (r : R) : Res R := match isTy t r st with
  | some b => .ok (.d (.bool b)) st
  | none => .bad
def tupleK (st : Store) (r : R) : Res R := match (items r st).bind allD with
  | some ds => .ok (.d (.tuple ds)) st
  | none => .bad
def listK (mt : Bool) (st : Store) (r : R) : Res R := match items r st with
  | some xs => newList mt xs st
  | none => .bad
def rngK (mt : Bool) (st : Store) : List R → Res R
  | [.d (.int j)] => if inB j = true ∧ j.toNat ≤ 2 ^ 24 then newList mt (rngList 0 j.toNat) st else .bad
  | [.d (.int i), .d (.int j)] => if inB i = true ∧ inB j = true ∧ (j - i).toNat ≤ 2 ^ 24 then newList mt (rngList i (j - i).toNat) st else .bad
  | _ => .bad
def sumK (st : Store) (r : R) : Res R := match intsOf r st with
  | some ns => .ok (.d (.int ns.sum)) st
  | none => .bad
def reprK (st : Store) (r : R) : Res R := match asD r st with
  | some x => if x.showable && decide (x.shown.length ≤ sizeLine) && decide (x.depth ≤ 64) then .ok (.d (.str x.shown)) st else .bad
  | none => .bad
def biR (b : Bi) (mt : Bool) (args : List R) (st : Store) : Res R := match b with
  | .len => ap1 (lenK st) args
  | .int => ap1 (intK st) args
  | .abs => ap1 (absK st) args
  | .max2 => ap2 (ints2 (fun i j => if j > i then j else i) st) args
  | .min2 => ap2 (ints2 (fun i j => if j < i then j else i) st) args
  | .isi t => ap1 (isiK t st) args
  | .tuple => ap1 (tupleK st) args
  | .list => ap1 (listK mt st) args
  | .lrng => rngK mt st args
  | .sum => ap1 (sumK st) args
  | .repr => ap1 (reprK st) args
def appendK (st : Store) (o r : R) : Res R := match o with
  | .c i => match st[i]? with
    | some (.lst xs) => if isBelow i r = true ∧ xs.length < sizeLine then .ok (.d .none) (st.set i (.lst (xs ++ [r]))) else .bad
    | _ => .bad
  | _ => .bad
def extendK (st : Store) (o r : R) : Res R := match o, r with
  | .c i, .d (.list ys) => match st[i]? with
    | some (.lst xs) => if xs.length + ys.length ≤ sizeLine then .ok (.d .none) (st.set i (.lst (xs ++ ys.map R.d))) else .bad
    | _ => .bad
  | _, _ => .bad
def popK (st : Store) (o r : R) : Res R := match o, r with
  | .c i, .d (.int k) => match st[i]? with
    | some (.lst xs) => if 0 ≤ k ∧ k < xs.length ∧ k < 2 ^ 62 then match xs[k.toNat]? with
        | some y => .ok y (st.set i (.lst (xs.eraseIdx k.toNat)))
        | none => .bad
      else .bad
    | _ => .bad
  | _, _ => .bad
def joinK (st : Store) (o r : R) : Res R := match o with
  | .d (.str x) => match strsOf r st with
    | some ys => if (ys.map (·.length)).sum + ys.length * x.length ≤ 16777216 then .ok (.d (.str (Txt.join x ys))) st else .bad
    | none => .bad
  | _ => .bad
def meR (m : Me) (o : R) (args : List R) (st : Store) : Res R := match m with
  | .append => ap1 (appendK st o) args
  | .extend => ap1 (extendK st o) args
  | .popAt => ap1 (popK st o) args
  | .join => ap1 (joinK st o) args
/-- the receiver is of the method's kind -/
def recvOk (m : Me) (x : R) (st : Store) : Bool := match m, x with
  | .join, .d (.str _) => true
  | .join, _ => false
  | _, .c i => (match st[i]? with
    | some (.lst _) => true
    | _ => false)
  | _, _ => false
def ixR (a i : R) (st : Store) : Option R := match i with
  | .d (.int k) => match items a st with
    | some xs => L2.atI xs k
    | none => none
  | _ => none
def cutR {α : Type} (xs : List α) (lo hi : Option Int) : List α := (xs.drop (HT.sIx xs.length 0 lo)).take (HT.sIx xs.length xs.length hi - HT.sIx xs.length 0 lo)
def slR (a : R) (lo hi : Option Int) : Option R := match a with
  | .d (.tuple xs) => some (.d (.tuple (cutR xs lo hi)))
  | .d (.list xs) => some (.d (.list (cutR xs lo hi)))
  | _ => none
/-- the items that a for walks -/
def enumFrom : Nat → List PyData → List R
  | _, [] => []
  | n, x :: r => .d (.tuple [.int n, x]) :: enumFrom (n + 1) r
def zip2 : List PyData → List PyData → List R
  | x :: xs, y :: ys => .d (.tuple [x, y]) :: zip2 xs ys
  | _, _ => []
def isTupR (r : R) : Bool := match r with
  | .d (.tuple _) => true
  | _ => false
def walks (k : Itk) (args : List R) (st : Store) : Option (List R) := match k, args with
  | .seq, [r] => items r st
  | .seqL, [r] => if isTupR r then none else items r st
  | .rng, [.d (.int j)] => if inB j then some (rngList 0 j.toNat) else none
  | .rng, [.d (.int i), .d (.int j)] => if inB i && inB j then some (rngList i (j - i).toNat) else none
  | .enum, [r] => match items r st with
    | some xs => (allD xs).map (enumFrom 0)
    | none => none
  | .zip, [r, q] => if isTupR r == isTupR q then match items r st, items q st with
    | some xs, some ys => match allD xs, allD ys with
      | some a, some b => some (zip2 a b)
      | _, _ => none
    | _, _ => none
    else none
  | _, _ => none
mutual
def beqD : PyData → PyData → Bool
  | .none, .none => true
  | .bool a, .bool b => a == b
  | .int i, .int j => decide (i = j)
  | .str x, .str y => decide (x = y)
  | .list xs, .list ys => beqDs xs ys
  | .tuple xs, .tuple ys => beqDs xs ys
  | _, _ => false
def beqDs : List PyData → List PyData → Bool
  | [], [] => true
  | x :: xs, y :: ys => beqD x y && beqDs xs ys
  | _, _ => false
end
def beqR (a b : R) : Bool := match a, b with
  | .d x, .d y => beqD x y
  | .c i, .c j => decide (i = j)
  | _, _ => false
def beqRs : List R → List R → Bool
  | [], [] => true
  | x :: xs, y :: ys => beqR x y && beqRs xs ys
  | _, _ => false
/-- a walked cell stands as it was -/
def sameAt (old st : Store) (r : R) : Bool := match r with
  | .c i => match old[i]?, st[i]? with
    | some (.lst xs), some (.lst ys) => beqRs xs ys
    | _, _ => false
  | _ => true
def same (args : List R) (old st : Store) : Bool := args.all (sameAt old st)
def setAll : List Nat → List PyData → Env → Option Env
  | [], [], env => some env
  | i :: is, x :: xs, env => setAll is xs (env.set i (some (.d x)))
  | _, _, _ => none
def setTg (t : Tg) (r : R) (env : Env) : Option Env := match t, r with
  | .nm i, r => some (env.set i (some r))
  | .tp is, .d (.tuple xs) => setAll is xs env
  | _, _ => none
def wipe (own : List Nat) (env : Env) : Env := own.foldl (fun e i => e.set i none) (env.map fun | some (.lam _ _) => none | some (.x _ _) => none | r => r)
/-- exceptions' names are forgotten -/
def killX (env : Env) : Env := env.map fun
  | some (.x _ _) => none
  | r => r
/-- slots that name a cell at or above n are forgotten -/
def cutC (n : Nat) (env : Env) : Env := env.map fun
  | some (.c i) => if i < n then some (.c i) else none
  | r => r
def cutEnv (n : Nat) (env : Env) : Env := env.map fun
  | some (.c i) => if i < n then some (.c i) else none
  | some (.lam e env') => some (.lam e (cutC n env'))
  | r => r
def trim (n : Nat) (env : Env) (st : Store) : Env × Store := if st.length ≤ n then (env, st) else (cutEnv n env, st.take n)
/-- a for's turns -/
def forL (same : Store → Bool) (n : Nat) (body : R → Env → Store → Out) : List R → Env → Store → Out
  | [], env, st => if same st then .nx env st else .bad
  | x :: xs, env, st => if same st then match body x env st with
      | .nx env' st' => forL same n body xs (trim n env' st').1 (trim n env' st').2
      | .cnt env' st' => forL same n body xs (trim n env' st').1 (trim n env' st').2
      | .brk env' st' => .nx (trim n env' st').1 (trim n env' st').2
      | o => o
    else .bad
/-- the cell n grows by one -/
def addAt (n : Nat) (y : R) (st : Store) : Option Store := match st[n]? with
  | some (.lst ys) => if isBelow n y = true ∧ ys.length < sizeLine then some (st.set n (.lst (ys ++ [y]))) else none
  | _ => none
/-- a comprehension's turns: the list it makes is the cell n -/
def compL (same : Store → Bool) (n : Nat) (body : R → Store → Res (Option R)) : List R → Store → Res Unit
  | [], st => if same st then .ok () st else .bad
  | x :: xs, st => if same st then match body x st with
      | .ok none st1 => compL same n body xs st1
      | .ok (some y) st1 => match addAt n y st1 with
        | some st2 => compL same n body xs st2
        | none => .bad
      | _ => .bad
    else .bad
/-- the list it made -/
def compEnd (mt : Bool) (n : Nat) (st : Store) : Res R :=
  if mt then .ok (.c n) st else match st[n]? with
    | some (.lst xs) => match allD xs with
      | some ds => .ok (.d (.list ds)) (if st.length = n + 1 then st.take n else st.set n .dead)
      | none => .bad
    | _ => .bad
/-- a cell becomes data -/
def freeze (r : R) (st : Store) : Res R := match r with
  | .d x => .ok (.d x) st
  | .c i => match st[i]? with
    | some (.lst xs) => match allD xs with
      | some ds => .ok (.d (.list ds)) (st.set i .dead)
      | none => .bad
    | _ => .bad
  | _ => .bad
def evL (E : IE → Env → Store → Res R) : List IE → Env → Store → Res (List R)
  | [], _, st => .ok [] st
  | e :: es, env, st => (E e env st).bind fun r st => (evL E es env st).bind fun rs st => .ok (r :: rs) st
def evO (E : IE → Env → Store → Res R) : Option IE → Env → Store → Res (Option Int)
  | none, _, st => .ok none st
  | some e, env, st => (E e env st).bind fun r st => match r with
    | .d (.int i) => .ok (some i) st
    | _ => .bad
abbrev FEv := Nat → List R → Store → Res R
structure Evs where
  E : IE → Env → Store → Res R
  S : List IS → Env → Store → Out
  /-- a closure's body -/
  L : IE → Env → Store → Res R
def Evs.T (v : Evs) (e : IE) (env : Env) (st : Store) : Res Bool := (v.E e env st).bind fun r st => match truth r st with
  | some b => .ok b st
  | none => .bad
def isCB (r : R) : Bool := match r with
  | .lam _ _ => false
  | .x _ _ => false
  | _ => true
def isCBL (r : R) : Bool := match r with
  | .x _ _ => false
  | _ => true
def argE (v : Evs) (e : IE) (env : Env) (st : Store) : Res R := match e with
  | .lam b => .ok (.lam b (wipe [] env)) st
  | e => (v.E e env st).bind fun r st => if isCBL r then .ok r st else .bad
/-- one turn of a comprehension -/
def compB (v : Evs) (own : List Nat) (tg : Tg) (cond : Option IE) (elt : IE) (env : Env) (x : R) (st : Store) : Res (Option R) := match setTg tg x (wipe own env) with
  | none => .bad
  | some env' => match cond with
    | none => (v.E elt env' st).bind fun r st => .ok (some r) st
    | some c => (v.T c env' st).bind fun b st => if b then (v.E elt env' st).bind fun r st => .ok (some r) st else .ok none st
def stepE (C : Ctx) (F : FEv) (v : Evs) (e : IE) (env : Env) (st : Store) : Res R := match e with
  | .var i => match env[i]? with
    | some (some r) => .ok r st
    | _ => .bad
  | .k x => .ok (.d x) st
  | .glob g => match C.globs[g]? with
    | some x => .ok (.d x) st
    | none => .bad
  | .tup es => (evL v.E es env st).bind fun rs st => match allD rs with
    | some ds => if ds.length ≤ sizeLine then .ok (.d (.tuple ds)) st else .bad
    | none => .bad
  | .lst mt es => (evL v.E es env st).bind fun rs st => newList mt rs st
  | .bop o a b => (v.E a env st).bind fun x st => (v.E b env st).bind fun y st => match x, y with
    | .d x, .d y => match bopD o x y with
      | some z => .ok (.d z) st
      | none => .bad
    | _, _ => .bad
  | .neg a => (v.E a env st).bind fun x st => match x with
    | .d (.int i) => .ok (.d (.int (-i))) st
    | _ => .bad
  | .not a => (v.T a env st).bind fun b st => .ok (.d (.bool !b)) st
  | .and a b => (v.E a env st).bind fun x st => match x with
    | .d (.bool c) => if c then v.E b env st else .ok (.d (.bool false)) st
    | _ => .bad
  | .or a b => (v.E a env st).bind fun x st => match x with
    | .d (.bool c) => if c then .ok (.d (.bool true)) st else v.E b env st
    | _ => .bad
  | .cmp o a b => (v.E a env st).bind fun x st => (v.E b env st).bind fun y st => match asD x st, asD y st with
    | some x, some y => match cmpD o x y with
      | some z => .ok (.d (.bool z)) st
      | none => .bad
    | _, _ => .bad
  | .isn p a => (v.E a env st).bind fun x st => match x with
    | .d .none => .ok (.d (.bool p)) st
    | .d _ => .ok (.d (.bool !p)) st
    | .c _ => .ok (.d (.bool !p)) st
    | _ => .bad
  | .chain o p a b c => (v.E a env st).bind fun x st => (v.E b env st).bind fun y st => match x, y with
    | .d (.int i), .d (.int j) => if cmpI o i j then (v.E c env st).bind fun z st => match z with
        | .d (.int k) => .ok (.d (.bool (cmpI p j k))) st
        | _ => .bad
      else .ok (.d (.bool false)) st
    | _, _ => .bad
  | .ite c a b => (v.T c env st).bind fun t st => if t then v.E a env st else v.E b env st
  | .ix a i => (v.E a env st).bind fun x st => (v.E i env st).bind fun y st => match ixR x y st with
    | some r => .ok r st
    | none => .bad
  | .sl a lo hi => (v.E a env st).bind fun x st => (evO v.E lo env st).bind fun l st => (evO v.E hi env st).bind fun h st => match slR x l h with
    | some r => .ok r st
    | none => .bad
  | .call f es => (evL (argE v) es env st).bind fun rs st => F f rs st
  | .bi b mt es => (evL v.E es env st).bind fun rs st => biR b mt rs st
  | .isx c i => match env[i]? with
    | some (some (.x cls _)) => .ok (.d (.bool (C.sub cls c))) st
    | _ => .bad
  | .me m o es => (v.E o env st).bind fun x st => if recvOk m x st then (evL v.E es env st).bind fun rs st => meR m x rs st else .bad
  | .comp mt own k es tg cond elt => (evL v.E es env st).bind fun rs st => match walks k rs st with
    | none => .bad
    | some xs => (compL (same rs st) st.length (compB v own tg cond elt env) xs (st ++ [.lst []])).bind fun _ st' => compEnd mt st.length st'
  | .lam _ => .bad
  | .clo i => match env[i]? with
    | some (some (.lam b env')) => (v.L b env' st).bind fun r st => if isCB r then .ok r st else .bad
    | _ => .bad
  | .what i => match env[i]? with
    | some (some (.x _ w)) => .ok (.d w) st
    | _ => .bad

/-- one turn of a for -/
def forB (v : Evs) (tg : Tg) (body : List IS) (x : R) (env : Env) (st : Store) : Out := match setTg tg x env with
  | some env' => v.S body env' st
  | none => .bad
def Res.out2 (r : Res R) (env : Env) (f : R → Store → Out) : Out := r.out env f
def stepS1 (C : Ctx) (v : Evs) (s : IS) (env : Env) (st : Store) : Out := match s with
  | .set i e => (v.E e env st).out env fun r st => match r with
    | .lam _ _ => .bad
    | r => .nx (env.set i (some r)) st
  | .par is es => match evL v.E es env st with
    | .ok rs st => if is.length = rs.length then .nx ((is.zip rs).foldl (fun e p => e.set p.1 (some p.2)) env) st else .bad
    | .exc c w st => .exc c w env st
    | .bad => .bad
  | .unp is e => (v.E e env st).out env fun r st => match setTg (.tp is) r env with
    | some env' => .nx env' st
    | none => .bad
  | .setix a i e => (v.E e env st).out env fun r st => (v.E a env st).out env fun o st => (v.E i env st).out env fun k st => match o, k with
    | .c j, .d (.int k) => match st[j]? with
      | some (.lst xs) => match L2.ixN xs.length k with
        | some n => if isBelow j r then .nx env (st.set j (.lst (xs.set n r))) else .bad
        | none => .bad
      | _ => .bad
    | _, _ => .bad
  | .aug i o e => match env[i]? with
    | some (some (.d x)) => (v.E e env st).out env fun r st => match r with
      | .d y => match o, x, y with
        | .add, .int a, .int b => .nx (env.set i (some (.d (.int (a + b))))) st
        | .sub, .int a, .int b => .nx (env.set i (some (.d (.int (a - b))))) st
        | _, _, _ => .bad
      | _ => .bad
    | _ => .bad
  | .ex e => (v.E e env st).out env fun _ st => .nx env st
  | .ite c t f => match v.T c env st with
    | .ok b st => if b then v.S t env st else v.S f env st
    | .exc c w st => .exc c w env st
    | .bad => .bad
  | .for k es tg body => match evL v.E es env st with
    | .ok rs st => match walks k rs st with
      | none => .bad
      | some xs => forL (same rs st) st.length (forB v tg body) xs env st
    | .exc c w st => .exc c w env st
    | .bad => .bad
  | .ret e => (v.E e env st).out env fun r st => match r with
    | .lam _ _ => .bad
    | .x _ _ => .bad
    | r => .ret r st
  | .retN => .ret (.d .none) st
  | .brk => .brk env st
  | .cont => .cnt env st
  | .pass => .nx env st
  | .raise cls e => (v.E e env st).out env fun r st => match r with
    | .d w => .exc cls w env st
    | _ => .bad
  | .tryAs body cls i suite => match v.S body (killX env) st with
    | .exc c w env' st' => if C.sub c cls then match v.S suite ((killX env').set i (some (.x c w))) st' with
        | .nx env'' st'' => .nx ((killX env'').set i none) st''
        | .brk env'' st'' => .brk ((killX env'').set i none) st''
        | .cnt env'' st'' => .cnt ((killX env'').set i none) st''
        | .ret r st'' => .ret r st''
        | _ => .bad
      else .exc c w (killX env') st'
    | .nx env' st' => .nx (killX env') st'
    | .brk env' st' => .brk (killX env') st'
    | .cnt env' st' => .cnt (killX env') st'
    | .ret r st' => .ret r st'
    | .bad => .bad
  | .frz i => match env[i]? with
    | some (some r) => (freeze r st).out env fun r st => .nx (env.set i (some r)) st
    | _ => .bad
def stepS (C : Ctx) (v : Evs) : List IS → Env → Store → Out
  | [], env, st => .nx env st
  | s :: ss, env, st => match stepS1 C v s env st with
    | .nx env' st' => stepS C v ss env' st'
    | o => o
/-- n levels of the syntax -/
def evs (C : Ctx) (F : FEv) (L : IE → Env → Store → Res R) : Nat → Evs
  | 0 => ⟨fun _ _ _ => .bad, fun _ _ _ => .bad, L⟩
  | n + 1 => ⟨stepE C F (evs C F L n), stepS C (evs C F L n), L⟩
/-- the depth of a def's text -/
def textDepth : Nat := 40
def endF (n : Nat) (o : Out) : Res R := match o with
  | .nx _ st => .ok (.d .none) (st.take n)
  | .ret (.d x) st => .ok (.d x) (st.take n)
  | .ret (.c i) st => .ok (.c i) st
  | .exc c w _ st => .exc c w (st.take n)
  | _ => .bad
def badL : IE → Env → Store → Res R := fun _ _ _ => .bad
/-- a def called, given what its body calls -/
def callF (C : Ctx) (F : FEv) (L : IE → Env → Store → Res R) : FEv := fun f args st => match C.fns[f]? with
  | some fn => if args.length = fn.pars then endF st.length ((evs C F L textDepth).S fn.body (args.map some ++ List.replicate (fn.slots - fn.pars) none) st) else .bad
  | none => .bad
/-- d calls deep: the defs, the closures -/
def lev (C : Ctx) : Nat → FEv × (IE → Env → Store → Res R)
  | 0 => (fun _ _ _ => .bad, badL)
  | d + 1 => (callF C (lev C d).1 (lev C d).2, (evs C (lev C d).1 badL textDepth).E)
def fev (C : Ctx) (d : Nat) : FEv := (lev C d).1
end Ev
/-! What stands for an evaluator's value in the abstract heap of the hand layer. -/
namespace Ev
open PySem PySem.Spec PyProof.Rows L2

/-- the addresses of the cells (a dead one has none) -/
abbrev Rho := List (Option Addr)
/-- a tuple of vs at a: tracked, no cell; or written -/
def TupAt (K : PySem.W.Frag) (ρ : Rho) (H : Hp) (a : Addr) (vs : List V) : Prop :=
  (some a ∉ ρ ∧ H a = some (.tup vs)) ∨
    ∃ (o : Obj) (its : Array Value) (n : Nat), K.lookup a = some o ∧ o.cls = .type "tuple" ∧ o.data = .seq its n ∧ its.size ≤ sizeLine ∧ Vals vs its.toList
mutual
def RepD (K : PySem.W.Frag) (ρ : Rho) (H : Hp) : PyData → V → Prop
  | .none, v => v = .non
  | .bool b, v => v = .bl b
  | .int i, v => v = .int i
  | .str x, v => v = .str x
  | .list xs, v => ∃ a vs, v = .ref a ∧ some a ∉ ρ ∧ H a = some (.lst vs) ∧ RepDs K ρ H xs vs
  | .tuple xs, v => ∃ a vs, v = .ref a ∧ TupAt K ρ H a vs ∧ RepDs K ρ H xs vs
  | .dict _, _ => False
def RepDs (K : PySem.W.Frag) (ρ : Rho) (H : Hp) : List PyData → List V → Prop
  | [], vs => vs = []
  | x :: xs, vs => ∃ v r, vs = v :: r ∧ RepD K ρ H x v ∧ RepDs K ρ H xs r
end
def RhoAt (ρ : Rho) (i : Nat) (a : Addr) : Prop := i < ρ.length ∧ ∀ b, ρ[i]? = some (some b) → b = a
/-- data or a cell -/
def RepC (K : PySem.W.Frag) (ρ : Rho) (H : Hp) (r : R) (v : V) : Prop := match r with
  | .d x => RepD K ρ H x v
  | .s ns => ∃ a, v = .ref a ∧ ((some a ∉ ρ ∧ ∃ o, H a = some (.frz o (.lst (ns.map V.int)))) ∨
      ∃ (o : Obj) (its : Array Value) (n : Nat), K.lookup a = some o ∧ o.cls = .type "list" ∧ o.dict = none ∧ o.data = .seq its n ∧ its.size ≤ sizeLine ∧ Vals (ns.map V.int) its.toList)
  | .c i => ∃ a, v = .ref a ∧ RhoAt ρ i a
  | _ => False
/-- what later states keep -/
structure Later (ρ : Rho) (H : Hp) (ρ' : Rho) (H' : Hp) : Prop where
  keep : ∀ b o, H b = some o → some b ∉ ρ → (∀ ps, o ≠ .tbl ps) → H' b = some o ∧ some b ∉ ρ'
  len : ρ.length ≤ ρ'.length
  cell : ∀ (i : Nat) (b : Addr), i < ρ.length → ρ'[i]? = some (some b) → ρ[i]? = some (some b)
theorem Later.refl {ρ : Rho} {H : Hp} : Later ρ H ρ H := ⟨fun _ _ h n _ => ⟨h, n⟩, Nat.le_refl _, fun _ _ _ h => h⟩
theorem Later.trans {ρ ρ1 ρ2 : Rho} {H H1 H2 : Hp} (a : Later ρ H ρ1 H1) (b : Later ρ1 H1 ρ2 H2) : Later ρ H ρ2 H2 :=
  ⟨fun x o h n t => let ⟨h1, n1⟩ := a.keep x o h n t; b.keep x o h1 n1 t, Nat.le_trans a.len b.len, fun i x l h => a.cell i x l (b.cell i x (Nat.lt_of_lt_of_le l a.len) h)⟩
theorem RhoAt.later {ρ ρ' : Rho} {H H' : Hp} {i : Nat} {a : Addr} (h : RhoAt ρ i a) (l : Later ρ H ρ' H') : RhoAt ρ' i a :=
  ⟨Nat.lt_of_lt_of_le h.1 l.len, fun b e => h.2 b (l.cell i b h.1 e)⟩
theorem TupAt.later {K : PySem.W.Frag} {ρ ρ' : Rho} {H H' : Hp} {a : Addr} {vs : List V} (h : TupAt K ρ H a vs) (l : Later ρ H ρ' H') : TupAt K ρ' H' a vs := by
  rcases h with ⟨n, h⟩ | h
  · obtain ⟨h1, n1⟩ := l.keep a _ h n (fun _ z => by cases z)
    exact .inl ⟨n1, h1⟩
  · exact .inr h
theorem TupAt.sq {K : PySem.W.Frag} {ρ : Rho} {H : Hp} {a : Addr} {vs : List V} (h : TupAt K ρ H a vs) : SqT K H a vs := by
  rcases h with ⟨_, h⟩ | h
  · exact .inl (.inl h)
  · exact .inr h
mutual
theorem RepD.later {K : PySem.W.Frag} {ρ ρ' : Rho} {H H' : Hp} (l : Later ρ H ρ' H') : ∀ (x : PyData) (v : V), RepD K ρ H x v → RepD K ρ' H' x v
  | .none, _, h => h
  | .bool _, _, h => h
  | .int _, _, h => h
  | .str _, _, h => h
  | .list xs, v, h => by
    simp only [RepD] at h ⊢
    obtain ⟨a, vs, e, n, h1, h2⟩ := h
    obtain ⟨h3, n3⟩ := l.keep a _ h1 n (fun _ z => by cases z)
    exact ⟨a, vs, e, n3, h3, RepDs.later l xs vs h2⟩
  | .tuple xs, v, h => by
    simp only [RepD] at h ⊢
    obtain ⟨a, vs, e, h1, h2⟩ := h
    exact ⟨a, vs, e, h1.later l, RepDs.later l xs vs h2⟩
  | .dict _, _, h => by simp only [RepD] at h
theorem RepDs.later {K : PySem.W.Frag} {ρ ρ' : Rho} {H H' : Hp} (l : Later ρ H ρ' H') : ∀ (xs : List PyData) (vs : List V), RepDs K ρ H xs vs → RepDs K ρ' H' xs vs
  | [], _, h => h
  | x :: xs, vs, h => by
    simp only [RepDs] at h ⊢
    obtain ⟨v, r, e, h1, h2⟩ := h
    exact ⟨v, r, e, RepD.later l x v h1, RepDs.later l xs r h2⟩
end
theorem RepC.later {K : PySem.W.Frag} {ρ ρ' : Rho} {H H' : Hp} (l : Later ρ H ρ' H') {r : R} {v : V} (h : RepC K ρ H r v) : RepC K ρ' H' r v := by
  cases r with
  | d x => exact RepD.later l x v h
  | s ns =>
    obtain ⟨a, e, h⟩ := h
    refine ⟨a, e, ?_⟩
    rcases h with ⟨n, o, h⟩ | h
    · obtain ⟨h1, n1⟩ := l.keep a _ h n (fun _ z => by cases z)
      exact .inl ⟨n1, o, h1⟩
    · exact .inr h
  | c i =>
    obtain ⟨a, e, h⟩ := h
    exact ⟨a, e, h.later l⟩
  | lam _ _ => exact h
  | x _ _ => exact h
theorem RepDs.length {K : PySem.W.Frag} {ρ : Rho} {H : Hp} : ∀ {xs : List PyData} {vs : List V}, RepDs K ρ H xs vs → xs.length = vs.length
  | [], vs, h => by simp only [RepDs] at h; subst h; rfl
  | x :: xs, vs, h => by
    simp only [RepDs] at h
    obtain ⟨v, r, e, _, h2⟩ := h
    subst e
    simp [RepDs.length h2]
theorem RepDs.get {K : PySem.W.Frag} {ρ : Rho} {H : Hp} : ∀ {xs : List PyData} {vs : List V} {i : Nat} {x : PyData}, RepDs K ρ H xs vs → xs[i]? = some x → ∃ v, vs[i]? = some v ∧ RepD K ρ H x v
  | [], vs, i, x, h, e => by simp at e
  | y :: xs, vs, i, x, h, e => by
    simp only [RepDs] at h
    obtain ⟨v, r, e1, h1, h2⟩ := h
    subst e1
    cases i with
    | zero => simp at e; subst e; exact ⟨v, rfl, h1⟩
    | succ i => simpa using RepDs.get h2 (by simpa using e)
theorem RepDs.append {K : PySem.W.Frag} {ρ : Rho} {H : Hp} : ∀ {xs ys : List PyData} {vs ws : List V}, RepDs K ρ H xs vs → RepDs K ρ H ys ws → RepDs K ρ H (xs ++ ys) (vs ++ ws)
  | [], ys, vs, ws, h, k => by simp only [RepDs] at h; subst h; exact k
  | x :: xs, ys, vs, ws, h, k => by
    simp only [RepDs] at h
    obtain ⟨v, r, e1, h1, h2⟩ := h
    subst e1
    simp only [List.cons_append, RepDs]
    exact ⟨v, r ++ ws, rfl, h1, RepDs.append h2 k⟩
theorem RepDs.drop {K : PySem.W.Frag} {ρ : Rho} {H : Hp} : ∀ {xs : List PyData} {vs : List V} (n : Nat), RepDs K ρ H xs vs → RepDs K ρ H (xs.drop n) (vs.drop n)
  | _, _, 0, h => h
  | [], vs, n + 1, h => by simp only [RepDs] at h; subst h; simp [RepDs]
  | x :: xs, vs, n + 1, h => by
    simp only [RepDs] at h
    obtain ⟨v, r, e1, h1, h2⟩ := h
    subst e1
    exact RepDs.drop n h2
theorem RepDs.take {K : PySem.W.Frag} {ρ : Rho} {H : Hp} : ∀ {xs : List PyData} {vs : List V} (n : Nat), RepDs K ρ H xs vs → RepDs K ρ H (xs.take n) (vs.take n)
  | _, _, 0, h => by simp [RepDs]
  | [], vs, n + 1, h => by simp only [RepDs] at h; subst h; simp [RepDs]
  | x :: xs, vs, n + 1, h => by
    simp only [RepDs] at h
    obtain ⟨v, r, e1, h1, h2⟩ := h
    subst e1
    simp only [List.take_succ_cons, RepDs]
    exact ⟨v, _, rfl, h1, RepDs.take n h2⟩
theorem RepDs.rep {K : PySem.W.Frag} {ρ : Rho} {H : Hp} {xs : List PyData} {vs : List V} (h : RepDs K ρ H xs vs) : ∀ n : Nat, RepDs K ρ H (List.replicate n xs).flatten (List.replicate n vs).flatten
  | 0 => by simp [RepDs]
  | n + 1 => by
    simp only [List.replicate_succ, List.flatten_cons]
    exact RepDs.append h (RepDs.rep h n)
/-- lists of values -/
abbrev RepCs (K : PySem.W.Frag) (ρ : Rho) (H : Hp) : List R → List V → Prop := Paired (RepC K ρ H)
theorem RepCs.later {K : PySem.W.Frag} {ρ ρ' : Rho} {H H' : Hp} (l : Later ρ H ρ' H') {rs : List R} {vs : List V} (h : RepCs K ρ H rs vs) : RepCs K ρ' H' rs vs := Paired.mapP h fun _ _ q => q.later l
theorem RepCs.get {K : PySem.W.Frag} {ρ : Rho} {H : Hp} : ∀ {xs : List R} {vs : List V} {i : Nat} {x : R}, RepCs K ρ H xs vs → xs[i]? = some x → ∃ v, vs[i]? = some v ∧ RepC K ρ H x v
  | _, _, _, _, .nil, e => by simp at e
  | _, _, 0, _, .cons r _, e => by simp at e; subst e; exact ⟨_, rfl, r⟩
  | _, _, i + 1, _, .cons _ t, e => by simpa using RepCs.get t (by simpa using e)
theorem RepCs.append {K : PySem.W.Frag} {ρ : Rho} {H : Hp} : ∀ {xs ys : List R} {vs ws : List V}, RepCs K ρ H xs vs → RepCs K ρ H ys ws → RepCs K ρ H (xs ++ ys) (vs ++ ws)
  | _, _, _, _, .nil, k => k
  | _, _, _, _, .cons r t, k => .cons r (RepCs.append t k)
theorem RepCs.set {K : PySem.W.Frag} {ρ : Rho} {H : Hp} {x : R} {v : V} (q : RepC K ρ H x v) : ∀ {xs : List R} {vs : List V} (i : Nat), RepCs K ρ H xs vs → RepCs K ρ H (xs.set i x) (vs.set i v)
  | _, _, _, .nil => .nil
  | _, _, 0, .cons _ t => .cons q t
  | _, _, i + 1, .cons r t => .cons r (RepCs.set q i t)
theorem RepCs.eraseIdx {K : PySem.W.Frag} {ρ : Rho} {H : Hp} : ∀ {xs : List R} {vs : List V} (i : Nat), RepCs K ρ H xs vs → RepCs K ρ H (xs.eraseIdx i) (vs.eraseIdx i)
  | _, _, _, .nil => .nil
  | _, _, 0, .cons _ t => t
  | _, _, i + 1, .cons r t => .cons r (RepCs.eraseIdx i t)
theorem RepCs.ofDs {K : PySem.W.Frag} {ρ : Rho} {H : Hp} : ∀ {xs : List PyData} {vs : List V}, RepDs K ρ H xs vs → RepCs K ρ H (xs.map R.d) vs
  | [], vs, h => by simp only [RepDs] at h; subst h; exact .nil
  | x :: xs, vs, h => by
    simp only [RepDs] at h
    obtain ⟨v, r, e1, h1, h2⟩ := h
    subst e1
    exact .cons h1 (RepCs.ofDs h2)
theorem RepCs.ds {K : PySem.W.Frag} {ρ : Rho} {H : Hp} : ∀ {rs : List R} {vs : List V} {ds : List PyData}, RepCs K ρ H rs vs → allD rs = some ds → RepDs K ρ H ds vs
  | [], _, _, .nil, e => by simp [allD] at e; subst e; simp [RepDs]
  | r :: rs, _, ds, .cons h t, e => by
    cases r with
    | d x =>
      simp only [allD, Option.map_eq_some_iff] at e
      obtain ⟨ds', e1, e2⟩ := e
      subst e2
      simp only [RepDs]
      exact ⟨_, _, rfl, h, RepCs.ds t e1⟩
    | s _ => simp [allD] at e
    | c _ => simp [allD] at e
    | lam _ _ => simp [allD] at e
    | x _ _ => simp [allD] at e
theorem allD_map : ∀ xs : List PyData, allD (xs.map R.d) = some xs
  | [] => rfl
  | x :: xs => by simp [allD, allD_map xs]
theorem allD_eq : ∀ {rs : List R} {ds : List PyData}, allD rs = some ds → rs = ds.map R.d
  | [], ds, e => by simp [allD] at e; subst e; rfl
  | r :: rs, ds, e => by
    cases r with
    | d x =>
      simp only [allD, Option.map_eq_some_iff] at e
      obtain ⟨ds', e1, e2⟩ := e
      subst e2
      rw [allD_eq e1]; rfl
    | s _ => simp [allD] at e
    | c _ => simp [allD] at e
    | lam _ _ => simp [allD] at e
    | x _ _ => simp [allD] at e

/-- the store -/
def CellRep (K : PySem.W.Frag) (ρ : Rho) (H : Hp) (i : Nat) (c : Cell) : Prop := match c with
  | .lst xs => ∃ a vs, ρ[i]? = some (some a) ∧ H a = some (.lst vs) ∧ RepCs K ρ H xs vs ∧ ∀ r ∈ xs, isBelow i r = true
  | .dead => ρ[i]? = some none
structure StRep (K : PySem.W.Frag) (ρ : Rho) (H : Hp) (st : Store) : Prop where
  len : ρ.length = st.length
  at_ : ∀ (i : Nat) (c : Cell), st[i]? = some c → CellRep K ρ H i c
  inj : ∀ (i j : Nat) (a : Addr), ρ[i]? = some (some a) → ρ[j]? = some (some a) → i = j
theorem mem_rho {ρ : Rho} {a : Addr} : some a ∈ ρ ↔ ∃ i : Nat, ρ[i]? = some (some a) := List.mem_iff_getElem?
theorem StRep.isLst {K : PySem.W.Frag} {ρ : Rho} {H : Hp} {st : Store} (S : StRep K ρ H st) {a : Addr} (h : some a ∈ ρ) : ∃ vs, H a = some (.lst vs) := by
  obtain ⟨i, e⟩ := mem_rho.mp h
  have hi : i < st.length := by rw [← S.len]; exact (List.getElem?_eq_some_iff.mp e).1
  have q := S.at_ i st[i] (List.getElem?_eq_getElem hi)
  cases hc : st[i] with
  | lst xs =>
    rw [hc] at q
    obtain ⟨b, vs, e1, h1, _⟩ := q
    rw [e] at e1
    cases e1
    exact ⟨vs, h1⟩
  | dead =>
    rw [hc] at q
    have q : ρ[i]? = some none := q
    rw [e] at q
    cases q
theorem StRep.fresh {K : PySem.W.Frag} {ρ : Rho} {H : Hp} {st : Store} (S : StRep K ρ H st) {p : Addr} (h : H p = none) : some p ∉ ρ := fun z => by
  obtain ⟨vs, e⟩ := S.isLst z
  rw [h] at e
  cases e
/-- a new object is laid: no cell -/
theorem Later.laid {ρ : Rho} {H : Hp} {p : Addr} {o : HO} (h : H p = none) : Later ρ H ρ (upd H p o) :=
  ⟨fun b u e n _ => ⟨by rw [upd_ne (ne_of_none e h)]; exact e, n⟩, Nat.le_refl _, fun _ _ _ q => q⟩
theorem StRep.laid {K : PySem.W.Frag} {ρ : Rho} {H : Hp} {st : Store} (S : StRep K ρ H st) {p : Addr} {o : HO} (h : H p = none) : StRep K ρ (upd H p o) st := by
  refine ⟨S.len, fun i c e => ?_, S.inj⟩
  have q := S.at_ i c e
  cases c with
  | lst xs =>
    obtain ⟨a, vs, e1, h1, h2, h3⟩ := q
    exact ⟨a, vs, e1, by rw [upd_ne (ne_of_none h1 h)]; exact h1, h2.later (Later.laid h), h3⟩
  | dead => exact q
/-- a cell is made -/
theorem Later.cell_new {K : PySem.W.Frag} {ρ : Rho} {H : Hp} {st : Store} (S : StRep K ρ H st) {p : Addr} {o : HO} (h : H p = none) : Later ρ H (ρ ++ [some p]) (upd H p o) := by
  refine ⟨fun b u e n _ => ⟨by rw [upd_ne (ne_of_none e h)]; exact e, ?_⟩, by simp, fun i b l q => ?_⟩
  · simp only [List.mem_append, List.mem_singleton, not_or]
    refine ⟨n, fun z => ?_⟩
    cases z
    rw [h] at e
    cases e
  · rwa [List.getElem?_append_left l] at q
theorem StRep.cell_new {K : PySem.W.Frag} {ρ : Rho} {H : Hp} {st : Store} (S : StRep K ρ H st) {p : Addr} {rs : List R} {vs : List V} (h : H p = none) (r : RepCs K ρ H rs vs) (hb : ∀ r ∈ rs, isBelow st.length r = true) :
    StRep K (ρ ++ [some p]) (upd H p (.lst vs)) (st ++ [.lst rs]) := by
  have L := Later.cell_new (o := .lst vs) S h
  refine ⟨by simp [S.len], fun i c e => ?_, fun i j a h1 h2 => ?_⟩
  · by_cases hi : i < st.length
    · rw [List.getElem?_append_left hi] at e
      have q := S.at_ i c e
      cases c with
      | lst xs =>
        obtain ⟨a, us, e1, h1, h2, h3⟩ := q
        exact ⟨a, us, by rw [List.getElem?_append_left (by rw [S.len]; exact hi)]; exact e1, by rw [upd_ne (ne_of_none h1 h)]; exact h1, h2.later L, h3⟩
      | dead =>
        have q : ρ[i]? = some none := q
        show (ρ ++ [some p])[i]? = some none
        rw [List.getElem?_append_left (by rw [S.len]; exact hi)]; exact q
    · have hi' : i = st.length := by
        have := (List.getElem?_eq_some_iff.mp e).1
        simp at this
        omega
      subst hi'
      simp at e
      subst e
      exact ⟨p, vs, by rw [← S.len]; simp, upd_same, r.later L, hb⟩
  · have hp := S.fresh h
    have lt : ∀ {k : Nat} {b : Addr}, (ρ ++ [some p])[k]? = some (some b) → (ρ[k]? = some (some b) ∧ b ≠ p) ∨ (k = ρ.length ∧ b = p) := fun {k b} q => by
      by_cases hk : k < ρ.length
      · rw [List.getElem?_append_left hk] at q
        exact .inl ⟨q, fun z => hp (by rw [← z]; exact mem_rho.mpr ⟨k, q⟩)⟩
      · have : k = ρ.length := by
          have := (List.getElem?_eq_some_iff.mp q).1
          simp at this
          omega
        subst this
        simp at q
        exact .inr ⟨rfl, q.symm⟩
    rcases lt h1 with ⟨a1, n1⟩ | ⟨a1, n1⟩ <;> rcases lt h2 with ⟨a2, n2⟩ | ⟨a2, n2⟩
    · exact S.inj i j a a1 a2
    · exact absurd n2 n1
    · exact absurd n1 n2
    · rw [a1, a2]
/-- a cell is written -/
theorem Later.write {ρ : Rho} {H : Hp} {a : Addr} {o : HO} (ha : some a ∈ ρ) : Later ρ H ρ (upd H a o) :=
  ⟨fun b u e n _ => ⟨by rw [upd_ne (fun z => n (by rw [z]; exact ha))]; exact e, n⟩, Nat.le_refl _, fun _ _ _ q => q⟩
theorem StRep.write {K : PySem.W.Frag} {ρ : Rho} {H : Hp} {st : Store} (S : StRep K ρ H st) {i : Nat} {a : Addr} {rs : List R} {vs : List V} {xs : List R} (hi : st[i]? = some (.lst xs)) (ha : ρ[i]? = some (some a)) (r : RepCs K ρ H rs vs) (hb : ∀ r ∈ rs, isBelow i r = true) :
    StRep K ρ (upd H a (.lst vs)) (st.set i (.lst rs)) := by
  have hil : i < st.length := (List.getElem?_eq_some_iff.mp hi).1
  have L : Later ρ H ρ (upd H a (.lst vs)) := Later.write (mem_rho.mpr ⟨i, ha⟩)
  refine ⟨by simp [S.len], fun j c e => ?_, S.inj⟩
  by_cases hj : i = j
  · subst hj
    rw [List.getElem?_set_self hil] at e
    cases e
    exact ⟨a, vs, ha, upd_same, r.later L, hb⟩
  · rw [List.getElem?_set_ne hj] at e
    have q := S.at_ j c e
    cases c with
    | lst ys =>
      obtain ⟨b, us, e1, h1, h2, h3⟩ := q
      exact ⟨b, us, e1, by rw [upd_ne (fun z => hj (S.inj i j a ha (by rw [← z]; exact e1)))]; exact h1, h2.later L, h3⟩
    | dead => exact q
/-- a cell becomes data -/
theorem Later.kill {K : PySem.W.Frag} {ρ : Rho} {H : Hp} {st : Store} (S : StRep K ρ H st) {i : Nat} : Later ρ H (ρ.set i none) H := by
  refine ⟨fun b u e n _ => ⟨e, fun z => ?_⟩, by simp, fun j b l q => ?_⟩
  · obtain ⟨j, hj⟩ := mem_rho.mp z
    by_cases hij : i = j
    · subst hij
      by_cases hl : i < ρ.length
      · rw [List.getElem?_set_self hl] at hj
        cases hj
      · rw [List.getElem?_eq_none (by simpa using hl)] at hj
        cases hj
    · rw [List.getElem?_set_ne hij] at hj
      exact n (mem_rho.mpr ⟨j, hj⟩)
  · by_cases hij : i = j
    · subst hij
      rw [List.getElem?_set_self l] at q
      cases q
    · rwa [List.getElem?_set_ne hij] at q
theorem StRep.kill {K : PySem.W.Frag} {ρ : Rho} {H : Hp} {st : Store} (S : StRep K ρ H st) {i : Nat} (hi : i < st.length) : StRep K (ρ.set i none) H (st.set i .dead) := by
  have L := Later.kill S (i := i)
  have hr : i < ρ.length := by rw [S.len]; exact hi
  refine ⟨by simp [S.len], fun j c e => ?_, fun j k a h1 h2 => ?_⟩
  · by_cases hj : i = j
    · subst hj
      rw [List.getElem?_set_self hi] at e
      cases e
      show (ρ.set i none)[i]? = some none
      rw [List.getElem?_set_self hr]
    · rw [List.getElem?_set_ne hj] at e
      have q := S.at_ j c e
      cases c with
      | lst ys =>
        obtain ⟨b, us, e1, h1, h2, h3⟩ := q
        exact ⟨b, us, by rw [List.getElem?_set_ne hj]; exact e1, h1, h2.later L, h3⟩
      | dead =>
        have q : ρ[j]? = some none := q
        show (ρ.set i none)[j]? = some none
        rw [List.getElem?_set_ne hj]; exact q
  · have k : ∀ {j : Nat}, (ρ.set i none)[j]? = some (some a) → ρ[j]? = some (some a) := fun {j} q => by
      by_cases hij : i = j
      · subst hij
        rw [List.getElem?_set_self hr] at q
        cases q
      · rwa [List.getElem?_set_ne hij] at q
    exact S.inj j _ a (k h1) (k h2)
/-- the younger cells are forgotten: what is kept names none of them -/
theorem RepC.cut {K : PySem.W.Frag} {ρ : Rho} {H : Hp} {r : R} {v : V} {n i : Nat} (hi : i ≤ n) (hb : isBelow i r = true) (h : RepC K ρ H r v) (D : ∀ x v, RepD K ρ H x v → RepD K (ρ.take n) H x v) (hn : n ≤ ρ.length) : RepC K (ρ.take n) H r v := by
  cases r with
  | d x => exact D x v h
  | s ns => simp [isBelow] at hb
  | c j =>
    obtain ⟨a, e, h1, h2⟩ := h
    have hj : j < i := by simpa [isBelow] using hb
    refine ⟨a, e, by simp; omega, fun b q => h2 b ?_⟩
    rwa [List.getElem?_take_of_lt (by omega)] at q
  | lam _ _ => simp [isBelow] at hb
  | x _ _ => simp [isBelow] at hb
theorem notMem_take {ρ : Rho} {n : Nat} {a : Addr} (h : some a ∉ ρ) : some a ∉ ρ.take n := fun z => h (List.mem_of_mem_take z)
mutual
theorem RepD.cut {K : PySem.W.Frag} {ρ : Rho} {H : Hp} {n : Nat} : ∀ (x : PyData) (v : V), RepD K ρ H x v → RepD K (ρ.take n) H x v
  | .none, _, h => h
  | .bool _, _, h => h
  | .int _, _, h => h
  | .str _, _, h => h
  | .list xs, v, h => by
    simp only [RepD] at h ⊢
    obtain ⟨a, vs, e, n, h1, h2⟩ := h
    exact ⟨a, vs, e, notMem_take n, h1, RepDs.cut xs vs h2⟩
  | .tuple xs, v, h => by
    simp only [RepD] at h ⊢
    obtain ⟨a, vs, e, h1, h2⟩ := h
    refine ⟨a, vs, e, ?_, RepDs.cut xs vs h2⟩
    rcases h1 with ⟨n, h⟩ | h
    · exact .inl ⟨notMem_take n, h⟩
    · exact .inr h
  | .dict _, _, h => by simp only [RepD] at h
theorem RepDs.cut {K : PySem.W.Frag} {ρ : Rho} {H : Hp} {n : Nat} : ∀ (xs : List PyData) (vs : List V), RepDs K ρ H xs vs → RepDs K (ρ.take n) H xs vs
  | [], _, h => h
  | x :: xs, vs, h => by
    simp only [RepDs] at h ⊢
    obtain ⟨v, r, e, h1, h2⟩ := h
    exact ⟨v, r, e, RepD.cut x v h1, RepDs.cut xs r h2⟩
end
theorem RepCs.cut {K : PySem.W.Frag} {ρ : Rho} {H : Hp} {n i : Nat} (hi : i ≤ n) (hn : n ≤ ρ.length) : ∀ {rs : List R} {vs : List V}, (∀ r ∈ rs, isBelow i r = true) → RepCs K ρ H rs vs → RepCs K (ρ.take n) H rs vs
  | _, _, _, .nil => .nil
  | _, _, hb, .cons q t => .cons (q.cut hi (hb _ List.mem_cons_self) (fun x v => RepD.cut x v) hn) (RepCs.cut hi hn (fun r hr => hb r (List.mem_cons_of_mem _ hr)) t)
theorem StRep.cut {K : PySem.W.Frag} {ρ : Rho} {H : Hp} {st : Store} (S : StRep K ρ H st) {n : Nat} (hn : n ≤ st.length) : StRep K (ρ.take n) H (st.take n) := by
  refine ⟨by simp [S.len], fun i c e => ?_, fun i j a h1 h2 => ?_⟩
  · have hi : i < n := by
      have := (List.getElem?_eq_some_iff.mp e).1
      simp at this
      omega
    rw [List.getElem?_take_of_lt hi] at e
    have q := S.at_ i c e
    cases c with
    | lst ys =>
      obtain ⟨b, us, e1, h1, h2, h3⟩ := q
      exact ⟨b, us, by rw [List.getElem?_take_of_lt hi]; exact e1, h1, h2.cut (Nat.le_of_lt hi) (by rw [S.len]; exact hn) h3, h3⟩
    | dead =>
      have q : ρ[i]? = some none := q
      show (ρ.take n)[i]? = some none
      rw [List.getElem?_take_of_lt hi]; exact q
  · have k : ∀ {j : Nat}, (ρ.take n)[j]? = some (some a) → ρ[j]? = some (some a) := fun {j} q => by
      have hj : j < n := by
        have := (List.getElem?_eq_some_iff.mp q).1
        simp at this
        omega
      rwa [List.getElem?_take_of_lt hj] at q
    exact S.inj i j a (k h1) (k h2)
/-- from an elder state, cut back to its cells -/
theorem Later.cut {ρ ρ' : Rho} {H H' : Hp} (l : Later ρ H ρ' H') {n : Nat} (hn : ρ.length ≤ n) : Later ρ H (ρ'.take n) H' := by
  refine ⟨fun b o e q t => ?_, by have := l.len; simp; omega, fun i b h q => l.cell i b h ?_⟩
  · obtain ⟨h1, n1⟩ := l.keep b o e q t
    exact ⟨h1, notMem_take n1⟩
  · rwa [List.getElem?_take_of_lt (by omega)] at q
end Ev
/-! ck: whether an IR term says what a piece of the program's text says. -/
namespace Ev
open PySem

/-- names: functions, module constants, exception classes -/
structure NC where
  fns : List Str
  globs : List Str
  cls : List Str
  /-- lambdas may be made here -/
  lam : Bool
  /-- 0: the calm; 1: a suite of except; 2: a block in one -/
  hot : Nat

def plainName (x : Str) : Bool := !(x == ("__debug__" : Str)) && !(x == ("__classdict__" : Str)) && !(x == ("__name__" : Str))
def visB (sc : Scope) (x : Str) : Bool := match sc.names.lookup x with
  | some .local => true
  | some .cell => true
  | some .free => true
  | _ => false
def locB (sc : Scope) (x : Str) : Bool := match sc.names.lookup x with
  | some .local => true
  | some .cell => true
  | _ => false
def glB (sc : Scope) (x : Str) : Bool := decide (sc.names.lookup x = some .globalImplicit)
def constB (c : Const) (x : PyData) : Bool := match c, x with
  | .none, .none => true
  | .bool a, .bool b => a == b
  | .int i, .int j => decide (i = j)
  | .str x, .str y => decide (x = y)
  | _, _ => false
def opB (o : Operator) (b : Bop) : Bool := match o, b with
  | .Add, .add => true
  | .Sub, .sub => true
  | .Mult, .mul => true
  | .FloorDiv, .fdiv => true
  | .Mod, .mod => true
  | .Pow, .pow => true
  | _, _ => false
def augB (o : Operator) (b : Bop) : Bool := match o, b with
  | .Add, .add => true
  | .Sub, .sub => true
  | _, _ => false
def cmpB (o : CmpOp) (b : Cop) : Bool := match o, b with
  | .Eq, .eq => true
  | .NotEq, .ne => true
  | .Lt, .lt => true
  | .LtE, .le => true
  | .Gt, .gt => true
  | .GtE, .ge => true
  | _, _ => false
def tyName : Ty → Str
  | .int => "int"
  | .bool => "bool"
  | .str => "str"
  | .tuple => "tuple"
  | .list => "list"
def biName : Bi → Str
  | .len => "len"
  | .int => "int"
  | .abs => "abs"
  | .max2 => "max"
  | .min2 => "min"
  | .isi _ => "isinstance"
  | .tuple => "tuple"
  | .list => "list"
  | .lrng => "list"
  | .sum => "sum"
  | .repr => "repr"
def meName : Me → Str
  | .append => "append"
  | .extend => "extend"
  | .popAt => "pop"
  | .join => "join"
def isStar : Expr → Bool
  | .Starred .. => true
  | _ => false
def isComp : Expr → Bool
  | .ListComp .. => true
  | .SetComp .. => true
  | .DictComp .. => true
  | _ => false
def isSet : Expr → Bool
  | .Set .. => true
  | _ => false
def isSlice : Expr → Bool
  | .Slice .. => true
  | _ => false
/-- places of names -/
def ixOf (N : List Str) (x : Str) (i : Nat) : Bool := decide (N[i]? = some x)
def ckTg (N : List Str) (sc : Scope) (t : Expr) (g : Tg) : Bool := match t, g with
  | .Name x _, .nm i => ixOf N x i && locB sc x
  | .Tuple ts _ _, .tp is => decide (ts.length = is.length) && (ts.zip is).all fun p => match p.1 with
    | .Name x _ => ixOf N x p.2 && locB sc x
    | _ => false
  | _, _ => false
def tgIx : Tg → List Nat
  | .nm i => [i]
  | .tp is => is
def ownOf (N : List Str) (own : List Nat) : List (Str × Nat) := own.filterMap fun i => (N[i]?).map fun x => (x, i)
def plainArgs (es : List Expr) : Bool := es.all fun e => !isStar e
def nonSuper (o : Expr) : Bool := match o with
  | .Call .. => false
  | _ => true
/-- what may stand where an exception is handled -/
def hotOk (h : Nat) (ie : IE) : Bool := match ie with
  | .var _ => true
  | .k _ => true
  | .glob _ => true
  | .tup _ => true
  | .lst _ _ => true
  | .not _ => true
  | .and _ _ => true
  | .or _ _ => true
  | .cmp _ _ _ => true
  | .isn _ _ => true
  | .ite _ _ _ => true
  | .ix _ _ => true
  | .isx _ _ => true
  | .what _ => true
  | .me _ _ _ => true
  | .comp _ _ .seqL _ _ _ _ => h == 1
  | _ => false
def hotS (is : IS) : Bool := match is with
  | .set _ _ => true
  | .ex _ => true
  | .ret _ => true
  | .retN => true
  | .ite _ _ _ => true
  | .pass => true
  | _ => false
mutual
def ckE (nc : NC) (N : List Str) : Nat → Scope → Expr → IE → Bool
  | 0, _, _, _ => false
  | n + 1, sc, e, ie => (nc.hot == 0 || hotOk nc.hot ie) && match e, ie with
    | .Name x _, .var i => ixOf N x i && visB sc x && plainName x
    | .Name x _, .glob g => decide (nc.globs[g]? = some x) && glB sc x && plainName x
    | .Constant c _ _, .k x => constB c x
    | .Tuple es _ _, .tup ies => plainArgs es && ckEs nc N n sc es ies
    | .List es _, .lst _ ies => plainArgs es && ckEs nc N n sc es ies
    | .BinOp a o b _, .bop p ia ib => opB o p && ckE nc N n sc a ia && ckE nc N n sc b ib
    | .UnaryOp .USub a _, .neg ia => ckE nc N n sc a ia
    | .UnaryOp .Not a _, .not ia => ckE nc N n sc a ia
    | .BoolOp .And (v :: vs) _, .and ia ib => ckE nc N n sc v ia && ckAnd nc N n sc vs ib
    | .BoolOp .Or (v :: vs) _, .or ia ib => ckE nc N n sc v ia && ckOr nc N n sc vs ib
    | .Compare a [o] [b] _, .cmp p ia ib => cmpB o p && ckE nc N n sc a ia && ckE nc N n sc b ib
    | .Compare a [.Is] [.Constant .none _ _] _, .isn true ia => ckE nc N n sc a ia
    | .Compare a [.IsNot] [.Constant .none _ _] _, .isn false ia => ckE nc N n sc a ia
    | .Compare a [o, o'] [b, c] _, .chain p p' ia ib ic => cmpB o p && cmpB o' p' && ckE nc N n sc a ia && ckE nc N n sc b ib && ckE nc N n sc c ic
    | .IfExp c a b _, .ite ic ia ib => ckE nc N n sc c ic && ckE nc N n sc a ia && ckE nc N n sc b ib
    | .Subscript a (.Slice lo hi none _) _, .sl ia ilo ihi => ckE nc N n sc a ia && ckO nc N n sc lo ilo && ckO nc N n sc hi ihi
    | .Subscript a i _, .ix ia ii => !isSlice i && ckE nc N n sc a ia && ckE nc N n sc i ii
    | .Call (.Name x _) args [] _, .call f ies => decide (nc.fns[f]? = some x) && glB sc x && plainName x && plainArgs args && ckAs nc N n sc args ies
    | .Call (.Name x _) [a, .Name t _] [] _, .bi (.isi ty) _ [ia] => decide (x = "isinstance") && decide (t = tyName ty) && glB sc x && glB sc t && !isStar a && ckE nc N n sc a ia
    | .Call (.Name x _) [.Name y _, .Name t _] [] _, .isx c i => decide (x = "isinstance") && decide (nc.cls[c]? = some t) && glB sc x && glB sc t && plainName t && ixOf N y i && visB sc y && plainName y
    | .Call (.Name x _) [.Call (.Name y _) args [] _] [] _, .bi .lrng _ ies => decide (x = "list") && decide (y = "range") && decide (args.length ≤ 2) && glB sc x && glB sc y && plainArgs args && ckEs nc N n sc args ies
    | .Call (.Name x _) (a :: args) [] _, .bi b _ ies => (match b with | .isi _ => false | .lrng => false | _ => true) && decide (x = biName b) && glB sc x && plainArgs (a :: args) && ckEs nc N n sc (a :: args) ies
    | .Call (.Attribute o m ap) [a] [] cp, .me im io [ia] => decide (m = meName im) && (ap.endLine == cp.line) && nonSuper o && !isStar a && ckE nc N n sc o io && ckE nc N n sc a ia
    | .Call (.Name x _) [] [] _, .clo i => ixOf N x i && visB sc x && plainName x
    | .Attribute (.Name x _) w _, .what i => decide (w = "what") && ixOf N x i && visB sc x && plainName x
    | .ListComp elt [⟨tg, iter, ifs, 0⟩] scope _, .comp _ own k ies itg ic ielt =>
        L2.blkC N sc scope (ownOf N own) && decide ((ownOf N own).map (·.2) = own) && ckW nc N n sc tg iter k ies && ckTg N scope tg itg && (tgIx itg).all (fun i => own.contains i) && ckElt { nc with lam := false, hot := if nc.hot == 0 then 0 else 2 } N n (L2.relS scope sc) elt ielt &&
          (match ifs, ic with | [], none => true | [c], some ic => ckE { nc with lam := false, hot := if nc.hot == 0 then 0 else 2 } N n (L2.relS scope sc) c ic | _, _ => false)
    | _, _ => false
def ckElt (nc : NC) (N : List Str) : Nat → Scope → Expr → IE → Bool
  | 0, _, _, _ => false
  | n + 1, sc, e, ie => ckE nc N n sc e ie
def ckEs (nc : NC) (N : List Str) : Nat → Scope → List Expr → List IE → Bool
  | 0, _, _, _ => false
  | n + 1, sc, es, ies => match es, ies with
    | [], [] => true
    | e :: es, ie :: ies => ckE nc N n sc e ie && ckEs nc N n sc es ies
    | _, _ => false
/-- arguments: lambdas too -/
def ckAs (nc : NC) (N : List Str) : Nat → Scope → List Expr → List IE → Bool
  | 0, _, _, _ => false
  | n + 1, sc, es, ies => match es, ies with
    | [], [] => true
    | .Lambda args body scope _ :: es, .lam b :: ies => (match args with | ⟨[], [], none, [], [], none, []⟩ => true | _ => false) && nc.lam && LamX.lamSB sc scope && ckE { nc with lam := false } N n scope body b && ckAs nc N n sc es ies
    | e :: es, ie :: ies => (match ie with | .lam _ => false | _ => true) && ckE nc N n sc e ie && ckAs nc N n sc es ies
    | _, _ => false
def ckAnd (nc : NC) (N : List Str) : Nat → Scope → List Expr → IE → Bool
  | 0, _, _, _ => false
  | n + 1, sc, es, ie => match es, ie with
    | [e], ie => ckE nc N n sc e ie
    | e :: e' :: es, .and ia ib => ckE nc N n sc e ia && ckAnd nc N n sc (e' :: es) ib
    | _, _ => false
def ckOr (nc : NC) (N : List Str) : Nat → Scope → List Expr → IE → Bool
  | 0, _, _, _ => false
  | n + 1, sc, es, ie => match es, ie with
    | [e], ie => ckE nc N n sc e ie
    | e :: e' :: es, .or ia ib => ckE nc N n sc e ia && ckOr nc N n sc (e' :: es) ib
    | _, _ => false
def ckO (nc : NC) (N : List Str) : Nat → Scope → Option Expr → Option IE → Bool
  | 0, _, _, _ => false
  | n + 1, sc, e, ie => match e, ie with
    | none, none => true
    | some e, some ie => ckE nc N n sc e ie
    | _, _ => false
/-- what a for walks -/
def ckW (nc : NC) (N : List Str) : Nat → Scope → Expr → Expr → Itk → List IE → Bool
  | 0, _, _, _, _, _ => false
  | n + 1, sc, tg, e, k, ies => match k, e, ies with
    | .seq, e, [ie] => !isSet e && ckE nc N n sc e ie
    | .seqL, e, [ie] => !isSet e && ckE nc N n sc e ie
    | .rng, .Call (.Name x _) [a] [] _, [ia] => decide (x = "range") && glB sc x && plainArgs [a] && ckE nc N n sc a ia
    | .rng, .Call (.Name x _) [a, b] [] _, [ia, ib] => decide (x = "range") && glB sc x && plainArgs [a, b] && ckE nc N n sc a ia && ckE nc N n sc b ib
    | .enum, .Call (.Name x _) [a] [] _, [ia] => decide (x = "enumerate") && glB sc x && plainArgs [a] && ckE nc N n sc a ia && (match tg with | .Tuple .. => true | _ => false)
    | .zip, .Call (.Name x _) [a, b] [] _, [ia, ib] => decide (x = "zip") && glB sc x && plainArgs [a, b] && ckE nc N n sc a ia && ckE nc N n sc b ib && (match tg with | .Tuple .. => true | _ => false)
    | _, _, _ => false
end
/-- how a, b = x, y stores, told of the scope: none where the model does not tell -/
def swB (sc : Scope) (ts vs : List Expr) : Option (Option (List Str)) :=
  if (!(ts.length == 2 || ts.length == 3) || vs.length != ts.length) = true then some none
  else if vs.any isStar = true then some none
  else
    let line := (ts.head?.map (·.pos.line)).getD 0
    let names := ts.filterMap fun
      | .Name id pos => if (sc.names.lookup id == some .local && pos.line == line) = true then some id else none
      | _ => none
    if (names.length != ts.length || names.eraseDups.length != names.length) = true then some none
    else if vs.all (foldedForSure 8) = true then some none
    else if vs.all (constantsAlone 8) = true then none
    else some (some names)
def parB (sc : Scope) (ts es : List Expr) : Bool := match swB sc ts es with
  | some none => decide (es.length ≤ 100)
  | some (some ns) => decide ((ts.map fun | .Name x _ => some x | _ => none) = ns.map some) && (match ts, es with
    | [.Name x _, .Name y _], [_, _] => decide (sc.names.lookup x = some .local) && decide (sc.names.lookup y = some .local)
    | [.Name x _, .Name y _, .Name z _], [_, _, _] => decide (sc.names.lookup x = some .local) && decide (sc.names.lookup y = some .local) && decide (sc.names.lookup z = some .local)
    | _, _ => false)
  | none => false
mutual
def ckS (nc : NC) (N : List Str) : Nat → Scope → Stmt → IS → Bool
  | 0, _, _, _ => false
  | n + 1, sc, s, is => (nc.hot == 0 || hotS is) && match s, is with
    | .Assign [.Name x p] e _, .set i ie => ixOf N x i && ckE nc N n sc e ie && (match e with
      | .ListComp _ _ scope pos => (nc.hot == 0 && decide (sc.names.lookup x = some .local) && decide (p.line = pos.line) && !(scope.names.any fun (n, k) => n == x && (k == .local || k == .cell)))
      | e => locB sc x && !isComp e)
    | .Assign [.Tuple ts _ _] (.Tuple es _ _) _, .par is ies => plainArgs es && decide (ts.length = es.length) && decide (is.length = ts.length) && decide is.Nodup && ckTg N sc (.Tuple ts 0 ⟨0, 0, 0, 0⟩) (.tp is) && ckEs nc N n sc es ies && parB sc ts es
    | .Assign [.Tuple ts k p] e _, .unp is ie => (match e with | .Tuple .. => false | _ => true) && !isComp e && ckTg N sc (.Tuple ts k p) (.tp is) && ckE nc N n sc e ie
    | .Assign [.Subscript a i _] e _, .setix ia ii ie => !isSlice i && !isComp e && ckE nc N n sc a ia && ckE nc N n sc i ii && ckE nc N n sc e ie
    | .AugAssign (.Name x _) o e _, .aug i p ie => ixOf N x i && locB sc x && augB o p && ckE nc N n sc e ie
    | .Expr e _, .ex ie => !isComp e && ckE nc N n sc e ie
    | .If c a b _, .ite ic ia ib => ckE nc N n sc c ic && ckSs nc N n sc a ia && ckSs nc N n sc b ib
    | .For tg it body [] _, .for k ies itg ib => !isSet it && ckW nc N n sc tg it k ies && ckTg N sc tg itg && ckSs nc N n sc body ib
    | .Return (some e) _, .ret ie => ckE nc N n sc e ie
    | .Return none _, .retN => true
    | .Break _, .brk => true
    | .Continue _, .cont => true
    | .Pass _, .pass => true
    | .Raise (some (.Call (.Name x _) [e] [] _)) none _, .raise c ie => decide (nc.cls[c]? = some x) && glB sc x && plainName x && !isStar e && ckE nc N n sc e ie
    | .Try body [.ExceptHandler (some (.Name x _)) (some y) (b :: suite) _] [] [] _, .tryAs ib c i isu => decide (nc.cls[c]? = some x) && glB sc x && plainName x && ixOf N y i && decide (sc.names.lookup y = some .local) && ckSs nc N n sc body ib && ckSs { nc with lam := false, hot := 1 } N n sc (b :: suite) isu
    | _, _ => false
def ckSs (nc : NC) (N : List Str) : Nat → Scope → List Stmt → List IS → Bool
  | 0, _, _, _ => false
  | n + 1, sc, ss, iss => match ss, iss with
    | ss, .frz _ :: iss => ckSs nc N n sc ss iss
    | [], [] => true
    | s :: ss, is :: iss => ckS nc N n sc s is && ckSs nc N n sc ss iss
    | _, _ => false
end
end Ev
set_option maxHeartbeats 1000000
/-! Soundness, part 1: contexts, what is wanted behind an evaluation, small expressions. -/
namespace Ev
open PySem PySem.Spec PyProof.Rows L2

structure GC where
  P : Program
  w : World
  K : PySem.W.Frag
  mg : Str → Option Value
  base : Heap
  C : Ctx
  nc : NC
  fa : Nat → Addr
  cls : Nat → Addr
  T : List (Addr × Str)
/-- X is a context of the program -/
structure GX (G : GC) (X : Cx) : Prop where
  P : X.prog = G.P
  w : X.w = G.w
  K : X.K = G.K
  mg : X.mg = G.mg
  base : X.base = G.base
structure GOk (G : GC) : Prop where
  fns : ∀ (f : Nat) (x : Str), G.nc.fns[f]? = some x → G.mg x = some (.ref (G.fa f)) ∧ PySem.W.keepIn G.K (.ref (G.fa f)) = true
  blt : ∀ x ∈ (["len", "int", "abs", "max", "min", "isinstance", "tuple", "list", "sum", "repr", "range", "enumerate", "zip", "bool", "str"] : List Str), G.mg x = none
  globs : ∀ (g : Nat) (x : Str) (d : PyData), G.nc.globs[g]? = some x → G.C.globs[g]? = some d → ∃ u v, G.mg x = some u ∧ RelV v u ∧ ∀ ρ H, RepD G.K ρ H d v
structure Good (G : GC) (N : List Str) (sc : Scope) (d : Nat) (X : Cx) : Prop where
  gx : GX G X
  N : X.N = N
  nd : X.N.Nodup
  sc : X.env.scope = sc
  calm : X.calm = true
  room : Room (4 * d + 2) X.A
  guards : X.A.guards = some []

/-- a lambda's object -/
def lamObj (qual : Str) (body : Expr) (scope : Scope) (cl : List (Str × Addr)) (pm ctv : Value) (c' : Addr) : Obj :=
  PySem.W.kla_obj "<lambda>" (qual ++ "<lambda>") ⟨[], [], none, [], [], none, []⟩ body scope cl pm c' ctv
def EnvC (K : PySem.W.Frag) (ρ : Rho) (H : Hp) (env : Env) (σ : L2.St) : Prop := env.length = σ.length ∧ ∀ (i : Nat) (r : R), env[i]? = some (some r) → ∃ v, σ[i]? = some (some v) ∧ RepC K ρ H r v
theorem un_comp {fs fs' : List Addr} {H H1 H2 : Hp} {h h1 h2 : Heap} (a : Un fs [] H H1 h h1) (b : Un fs' [] H1 H2 h1 h2) (hf : ∀ x ∈ fs', x ∈ fs ∨ h.get? x = none) : Un fs [] H H2 h h2 where
  keep := fun x o e n1 n2 n3 => by
    have e1 := a.keep x o e n1 n2 n3
    have f1 := a.free x o e n1 n3
    refine b.keep x o e1 f1 (fun z => ?_) n3
    rcases hf x z with q | q
    · exact n2 q
    · rw [q] at e; cases e
  slot := fun x o e n1 n2 n3 => by
    obtain ⟨sl, e1⟩ := a.slot x o e n1 n2 n3
    have f1 := a.free x o e n1 n3
    by_cases hx : x ∈ fs'
    · obtain ⟨sl2, e2⟩ := b.slot x _ e1 f1 hx n3
      exact ⟨sl2, e2⟩
    · exact ⟨sl, b.keep x _ e1 f1 hx n3⟩
  free := fun x o e n1 n3 => by
    have f1 := a.free x o e n1 n3
    obtain ⟨o1, e1⟩ := a.there x o e n3
    exact b.free x o1 e1 f1 n3
  there := fun x o e n3 => by
    obtain ⟨o1, e1⟩ := a.there x o e n3
    exact b.there x o1 e1 n3
  tups := fun x xs e => b.tups x xs (a.tups x xs e)
  frzs := fun x o u e => b.frzs x o u (a.frzs x o u e)
  tbls := fun x ps e => by
    obtain ⟨m1, e1⟩ := a.tbls x ps e
    obtain ⟨m2, e2⟩ := b.tbls x _ e1
    exact ⟨m1 ++ m2, by rw [e2, Array.append_assoc]⟩
theorem un_refl {fs : List Addr} {H : Hp} {h : Heap} : Un fs [] H H h h := ⟨fun _ _ e _ _ _ => e, fun _ o e _ _ _ => ⟨o.slots, e⟩, fun _ _ _ n _ => n, fun _ o e _ => ⟨o, e⟩, fun _ _ e => e, fun _ _ _ e => e, fun _ ps e => ⟨#[], by rw [Array.append_empty]; exact e⟩⟩
/-- the maker's state, from which the entry has grown -/
def Grown (X Y : Cx) (HY : Hp) (sY : Shared) : Prop := Un (frs Y.stack) [] HY X.H_0 sY.heap X.s_0.heap ∧ ∀ b ∈ X.fs, b ∈ frs Y.stack ∨ sY.heap.get? b = none
def CloAt (G : GC) (X : Cx) (ρ : Rho) (H : Hp) (f : Addr) (e : IE) (env : Env) : Prop :=
  ∃ (Y : Cx) (pins : List (Addr × Obj)) (σ : L2.St) (HY : Hp) (sY : Shared) (scope : Scope) (body : Expr) (pm ctv : Value) (c' : Addr) (n : Nat),
    GX G Y ∧ Inv Y pins σ HY sY ∧ LamX.LamS Y.env.scope scope ∧ Y.N.Nodup ∧ Grown X Y HY sY ∧ X.ex = [] ∧
    X.s_0.heap.get? f = some (lamObj Y.env.qual body scope (cloFrom Y.env.cells scope.names []) pm ctv c') ∧ X.H_0 f = none ∧ f ∉ X.fs ∧ H c' = some (LamX.CodeO c' (Y.env.qual ++ "<lambda>")) ∧ some c' ∉ ρ ∧
    ckE { G.nc with lam := false, hot := 0 } Y.N n scope body e = true ∧ EnvC G.K ρ H env σ ∧ n ≤ textDepth
def ExcAt (G : GC) (X : Cx) (ρ : Rho) (H : Hp) (cls : Nat) (w : PyData) (v : V) : Prop :=
  ∃ (a dd : Addr) (oe : Obj) (w' : V), v = .ref a ∧ (a, oe) ∈ X.pn ∧ Zc (.ref (G.cls cls)) (some dd) oe ∧ (∃ vs, oe.data = .fields vs) ∧ H dd = some (.xd [("what", w')]) ∧ some dd ∉ ρ ∧ RepD G.K ρ H w w'
def RepR (G : GC) (X : Cx) (ρ : Rho) (H : Hp) (r : R) (v : V) : Prop := match r with
  | .lam e env => ∃ f, v = .ref f ∧ CloAt G X ρ H f e env
  | .x c w => ExcAt G X ρ H c w v
  | r => RepC G.K ρ H r v
theorem EnvC.later {K : PySem.W.Frag} {ρ ρ' : Rho} {H H' : Hp} {env : Env} {σ : L2.St} (l : Later ρ H ρ' H') (h : EnvC K ρ H env σ) : EnvC K ρ' H' env σ :=
  ⟨h.1, fun i r e => let ⟨v, e1, q⟩ := h.2 i r e; ⟨v, e1, q.later l⟩⟩
theorem RepR.later {G : GC} {X : Cx} {ρ ρ' : Rho} {H H' : Hp} (l : Later ρ H ρ' H') {r : R} {v : V} (h : RepR G X ρ H r v) : RepR G X ρ' H' r v := by
  cases r with
  | lam e env =>
    obtain ⟨f, e1, Y, pins, σ, HY, sY, scope, body, pm, ctv, c', n, h1, h2, h3, h4, h5, h6, h7, h8, h8b, h9, h10, h11, h12, h13⟩ := h
    obtain ⟨b1, b2⟩ := l.keep c' _ h9 h10 (fun _ z => by cases z)
    exact ⟨f, e1, Y, pins, σ, HY, sY, scope, body, pm, ctv, c', n, h1, h2, h3, h4, h5, h6, h7, h8, h8b, b1, b2, h11, h12.later l, h13⟩
  | x c w =>
    obtain ⟨a, dd, oe, w', e1, h1, h2, h3, h4, h5, h6⟩ := h
    obtain ⟨a1, a2⟩ := l.keep dd _ h4 h5 (fun _ z => by cases z)
    exact ⟨a, dd, oe, w', e1, h1, h2, h3, a1, a2, RepD.later l _ _ h6⟩
  | d x => exact RepC.later (K := G.K) l (r := .d x) h
  | s ns => exact RepC.later (K := G.K) l (r := .s ns) h
  | c i => exact RepC.later (K := G.K) l (r := .c i) h
theorem RepR.ofC {G : GC} {X : Cx} {ρ : Rho} {H : Hp} {r : R} {v : V} (h : RepC G.K ρ H r v) : RepR G X ρ H r v := by
  cases r with
  | lam _ _ => exact False.elim h
  | x _ _ => exact False.elim h
  | d x => exact h
  | s ns => exact h
  | c i => exact h
structure Sat (G : GC) (ρ : Rho) (H : Hp) (st : Store) : Prop where
  st : StRep G.K ρ H st
  tab : LamX.Tabs G.T H
structure Rel (G : GC) (X : Cx) (ρ : Rho) (env : Env) (st : Store) (σ : L2.St) (H : Hp) : Prop where
  sat : Sat G ρ H st
  len : env.length = σ.length
  env : ∀ (i : Nat) (r : R), env[i]? = some (some r) → ∃ v, σ[i]? = some (some v) ∧ RepR G X ρ H r v
theorem Rel.later {G : GC} {X : Cx} {ρ ρ' : Rho} {env : Env} {st st' : Store} {σ : L2.St} {H H' : Hp} (R : Rel G X ρ env st σ H) (l : Later ρ H ρ' H') (s : Sat G ρ' H' st') : Rel G X ρ' env st' σ H' :=
  ⟨s, R.len, fun i r e => let ⟨v, e1, q⟩ := R.env i r e; ⟨v, e1, q.later l⟩⟩
theorem tabs_keep {T : List (Addr × Str)} {H H' : Hp} (t : LamX.Tabs T H) (k : ∀ b o, H b = some o → (∀ vs, o ≠ .lst vs) → H' b = some o) : LamX.Tabs T H' := fun p hp => by
  obtain ⟨ps, h1, h2, h3⟩ := t p hp
  refine ⟨ps, k _ _ h1 (fun _ z => by cases z), h2, fun pos cv hc => ?_⟩
  obtain ⟨c, e1, e2⟩ := h3 pos cv hc
  exact ⟨c, e1, k _ _ e2 (fun _ z => by cases z)⟩
theorem Sat.laid {G : GC} {ρ : Rho} {H : Hp} {st : Store} (S : Sat G ρ H st) {p : Addr} {o : HO} (h : H p = none) : Sat G ρ (upd H p o) st :=
  ⟨S.st.laid h, tabs_keep S.tab fun b u e _ => by rw [upd_ne (ne_of_none e h)]; exact e⟩
theorem Sat.cell_new {G : GC} {ρ : Rho} {H : Hp} {st : Store} (S : Sat G ρ H st) {p : Addr} {rs : List R} {vs : List V} (h : H p = none) (r : RepCs G.K ρ H rs vs) (hb : ∀ r ∈ rs, isBelow st.length r = true) :
    Sat G (ρ ++ [some p]) (upd H p (.lst vs)) (st ++ [.lst rs]) :=
  ⟨S.st.cell_new h r hb, tabs_keep S.tab fun b u e _ => by rw [upd_ne (ne_of_none e h)]; exact e⟩
theorem Sat.write {G : GC} {ρ : Rho} {H : Hp} {st : Store} (S : Sat G ρ H st) {i : Nat} {a : Addr} {rs : List R} {vs : List V} {xs : List R} (hi : st[i]? = some (.lst xs)) (ha : ρ[i]? = some (some a)) (r : RepCs G.K ρ H rs vs) (hb : ∀ r ∈ rs, isBelow i r = true) :
    Sat G ρ (upd H a (.lst vs)) (st.set i (.lst rs)) := by
  refine ⟨S.st.write hi ha r hb, tabs_keep S.tab fun b u e n => ?_⟩
  obtain ⟨ws, hw⟩ := S.st.isLst (mem_rho.mpr ⟨i, ha⟩)
  rw [upd_ne (fun z => by rw [z, hw] at e; cases e; exact n _ rfl)]
  exact e
theorem Sat.kill {G : GC} {ρ : Rho} {H : Hp} {st : Store} (S : Sat G ρ H st) {i : Nat} (hi : i < st.length) : Sat G (ρ.set i none) H (st.set i .dead) := ⟨S.st.kill hi, S.tab⟩
theorem Sat.cut {G : GC} {ρ : Rho} {H : Hp} {st : Store} (S : Sat G ρ H st) {n : Nat} (hn : n ≤ st.length) : Sat G (ρ.take n) H (st.take n) := ⟨S.st.cut hn, S.tab⟩

/-! ### what is wanted behind an evaluation -/
/-- of a result a the concrete one is u: RA -/
def PostG {α β : Type} (G : GC) (RA : Rho → Hp → α → β → Prop) (W : WX) (σ : L2.St) (ρ : Rho) (H : Hp) (Q : β → Hp → Prop) (m : Res α) : Prop := match m with
  | .ok a st => ∀ u ρ' H', Later ρ H ρ' H' → Sat G ρ' H' st → RA ρ' H' a u → Q u H'
  | .exc c w st => ∀ dd w' ρ' H', Later ρ H ρ' H' → Sat G ρ' H' st → H' dd = some (.xd [("what", w')]) → some dd ∉ ρ' → RepD G.K ρ' H' w w' → W (.ref (G.cls c)) (some dd) σ H'
  | .bad => False
theorem PostG.later {α β : Type} {G : GC} {RA : Rho → Hp → α → β → Prop} {W : WX} {σ : L2.St} {ρ ρ1 : Rho} {H H1 : Hp} {Q : β → Hp → Prop} {m : Res α} (p : PostG G RA W σ ρ H Q m) (l : Later ρ H ρ1 H1) : PostG G RA W σ ρ1 H1 Q m := by
  cases m with
  | ok a st => exact fun u ρ' H' l' s r => p u ρ' H' (l.trans l') s r
  | exc c w st => exact fun dd w' ρ' H' l' s h n r => p dd w' ρ' H' (l.trans l') s h n r
  | bad => exact p
/-- an expression's reading by its evaluation -/
def tE (G : GC) (X : Cx) (ev : Env → Store → Res R) (W : WX) : TE := fun σ H Q => ∃ ρ env st, Rel G X ρ env st σ H ∧ PostG G (RepR G X) W σ ρ H Q (ev env st)
def tT (G : GC) (X : Cx) (ev : Env → Store → Res Bool) (W : WX) : TT := fun σ H Q => ∃ ρ env st, Rel G X ρ env st σ H ∧ PostG G (fun _ _ b c => c = b) W σ ρ H Q (ev env st)
def tA (G : GC) (X : Cx) (ev : Env → Store → Res (List R)) (W : WX) : TA := fun σ H Q => ∃ ρ env st, Rel G X ρ env st σ H ∧ PostG G (fun ρ H => Paired (RepR G X ρ H)) W σ ρ H Q (ev env st)
theorem PE.imp {X : Cx} {e : Expr} {t t' : TE} (h : PE X e t) (i : ∀ σ H Q, t' σ H Q → t σ H Q) : PE X e t' := ⟨fun pins s σ H Q I q => h.run pins s σ H Q I (i σ H Q q)⟩
theorem PT.imp {X : Cx} {e : Expr} {t t' : TT} (h : PT X e t) (i : ∀ σ H Q, t' σ H Q → t σ H Q) : PT X e t' := ⟨fun pins s σ H Q I q => h.run pins s σ H Q I (i σ H Q q)⟩
theorem PA.imp {X : Cx} {e : List Expr} {t t' : TA} (h : PA X e t) (i : ∀ σ H Q, t' σ H Q → t σ H Q) : PA X e t' := ⟨fun pos pins s σ H Q I q => h.run pos pins s σ H Q I (i σ H Q q)⟩
theorem PS.imp {X : Cx} {s : Stmt} {t t' : TS} (h : PS X s t) (i : ∀ D (σ : L2.St) H, t' D σ H → t D σ H) : PS X s t' := ⟨fun pins s' σ H D I q => h.run pins s' σ H D I (i D σ H q)⟩
theorem PSs.imp {X : Cx} {s : List Stmt} {t t' : TS} (h : PSs X s t) (i : ∀ D (σ : L2.St) H, t' D σ H → t D σ H) : PSs X s t' := ⟨fun pins s' σ H D I q => h.run pins s' σ H D I (i D σ H q)⟩
section
variable {G : GC} {X : Cx} {W : WX} {σ : L2.St} {H : Hp} {ρ : Rho} {env : Env} {st : Store}
/-- THE STEP: the first part of a sequence -/
theorem stepE_bind {β γ : Type} {RB : Rho → Hp → β → γ → Prop} {Q : γ → Hp → Prop} {ev : Env → Store → Res R} {k : R → Store → Res β} {T : V → Hp → Prop} (R : Rel G X ρ env st σ H) (p : PostG G RB W σ ρ H Q ((ev env st).bind k))
    (hk : ∀ r st1 u ρ1 H1, ev env st = .ok r st1 → Later ρ H ρ1 H1 → Rel G X ρ1 env st1 σ H1 → RepR G X ρ1 H1 r u → PostG G RB W σ ρ1 H1 Q (k r st1) → T u H1) : tE G X ev W σ H T := by
  refine ⟨ρ, env, st, R, ?_⟩
  cases e : ev env st with
  | ok r st1 =>
    rw [e] at p
    exact fun u ρ1 H1 l s q => hk r st1 u ρ1 H1 e l (R.later l s) q (PostG.later (m := k r st1) p l)
  | exc c w st1 =>
    rw [e] at p
    exact p
  | bad =>
    rw [e] at p
    exact p
theorem stepT_bind {β γ : Type} {RB : Rho → Hp → β → γ → Prop} {Q : γ → Hp → Prop} {ev : Env → Store → Res Bool} {k : Bool → Store → Res β} {T : Bool → Hp → Prop} (R : Rel G X ρ env st σ H) (p : PostG G RB W σ ρ H Q ((ev env st).bind k))
    (hk : ∀ b st1 ρ1 H1, Later ρ H ρ1 H1 → Rel G X ρ1 env st1 σ H1 → PostG G RB W σ ρ1 H1 Q (k b st1) → T b H1) : tT G X ev W σ H T := by
  refine ⟨ρ, env, st, R, ?_⟩
  cases e : ev env st with
  | ok r st1 =>
    rw [e] at p
    refine fun u ρ1 H1 l s q => ?_
    have q : u = r := q
    subst q
    exact hk u st1 ρ1 H1 l (R.later l s) (PostG.later (m := k u st1) p l)
  | exc c w st1 =>
    rw [e] at p
    exact p
  | bad =>
    rw [e] at p
    exact p
theorem stepA_bind {β γ : Type} {RB : Rho → Hp → β → γ → Prop} {Q : γ → Hp → Prop} {ev : Env → Store → Res (List Ev.R)} {k : List Ev.R → Store → Res β} {T : List V → Hp → Prop} (R : Rel G X ρ env st σ H) (p : PostG G RB W σ ρ H Q ((ev env st).bind k))
    (hk : ∀ rs st1 us ρ1 H1, Later ρ H ρ1 H1 → Rel G X ρ1 env st1 σ H1 → Paired (RepR G X ρ1 H1) rs us → PostG G RB W σ ρ1 H1 Q (k rs st1) → T us H1) : tA G X ev W σ H T := by
  refine ⟨ρ, env, st, R, ?_⟩
  cases e : ev env st with
  | ok r st1 =>
    rw [e] at p
    exact fun u ρ1 H1 l s q => hk r st1 u ρ1 H1 l (R.later l s) q (PostG.later (m := k r st1) p l)
  | exc c w st1 =>
    rw [e] at p
    exact p
  | bad =>
    rw [e] at p
    exact p
/-- the end of an evaluation -/
theorem post_ok {α β : Type} {RA : Rho → Hp → α → β → Prop} {Q : β → Hp → Prop} {a : α} {u : β} (p : PostG G RA W σ ρ H Q (.ok a st)) (s : Sat G ρ H st) (r : RA ρ H a u) : Q u H := p u ρ H Later.refl s r
end

/-! ### small expressions -/
section
variable {G : GC} {X : Cx} {W : WX} {pos : Pos}
theorem snd_var {i : Nat} {x : Str} (hN : X.N[i]? = some x) (hv : Vis X.env.scope x) (hd : (x == ("__debug__" : Str)) = false) (hc : (x == ("__classdict__" : Str)) = false) :
    PE X (.Name x pos) (tE G X (fun env st => match env[i]? with | some (some r) => .ok r st | _ => .bad) W) := by
  refine PE.imp (pe_var hN hv hd hc) ?_
  rintro σ H Q ⟨ρ, env, st, R, p⟩
  dsimp only at p
  split at p
  · rename_i r e
    obtain ⟨v, e1, q⟩ := R.env i r e
    exact ⟨v, e1, post_ok p R.sat q⟩
  · exact p.elim
theorem snd_k {c : Const} {x : PyData} {j : Nat} (h : constB c x = true) : PE X (.Constant c j pos) (tE G X (fun _ st => .ok (.d x) st) W) := by
  have fin : ∀ {v : V}, PE X (.Constant c j pos) (tC v) → (∀ ρ H, RepD G.K ρ H x v) → PE X (.Constant c j pos) (tE G X (fun _ st => .ok (.d x) st) W) := fun {v} h1 h2 => by
    refine PE.imp h1 ?_
    rintro σ H Q ⟨ρ, env, st, R, p⟩
    exact post_ok (RA := RepR G X) (u := v) p R.sat (h2 ρ H)
  cases c <;> cases x <;> simp only [constB, decide_eq_true_eq, beq_iff_eq, Bool.false_eq_true] at h
  · exact fin pe_non fun _ _ => by simp only [RepD]
  · subst h; exact fin pe_bl fun _ _ => by simp only [RepD]
  · subst h; exact fin pe_int fun _ _ => by simp only [RepD]
  · subst h; exact fin pe_str fun _ _ => by simp only [RepD]
theorem snd_glob {g : Nat} {x : Str} (O : GOk G) (gx : GX G X) (hn : G.nc.globs[g]? = some x) (hg : Gl X x) (hd : (x == ("__debug__" : Str)) = false) :
    PE X (.Name x pos) (tE G X (fun _ st => match G.C.globs[g]? with | some x => .ok (.d x) st | none => .bad) W) := by
  cases e : G.C.globs[g]? with
  | none =>
    refine ⟨fun pins s σ H Q I h => ?_⟩
    obtain ⟨_, _, _, _, p⟩ := h
    exact p.elim
  | some d =>
    obtain ⟨u, v, h1, h2, h3⟩ := O.globs g x d hn e
    refine PE.imp (pe_glob (v := v) hg (by rw [gx.mg]; exact h1) h2 hd) ?_
    rintro σ H Q ⟨ρ, env, st, R, p⟩
    exact post_ok (RA := RepR G X) (u := v) p R.sat (h3 ρ H)
theorem isStar_each {e : Expr} {es : List Expr} {env : PySem.Env} (h : isStar e = false) : starEach (e :: es) env = (false, eval e env) :: starEach es env := by
  cases e <;> first | rfl | (simp [isStar] at h)
theorem plain_any {pos : Pos} {env : PySem.Env} : ∀ {es : List Expr}, plainArgs es = true → (backTo pos (starEach es env)).any (·.1) = false
  | [], _ => rfl
  | e :: es, h => by
    simp only [plainArgs, List.all_cons, Bool.and_eq_true, Bool.not_eq_true'] at h
    rw [isStar_each h.1]
    have q : (backTo pos (starEach es env)).any (·.1) = false := plain_any h.2
    show (false || (backTo pos (starEach es env)).any (·.1)) = false
    rw [q]; rfl
/-- argument lists -/
theorem snd_args {E : IE → Env → Store → Res R} {es : List Expr} {ies : List IE} (hp : plainArgs es = true) (h : Paired (fun e ie => PE X e (tE G X (E ie) W)) es ies) : PA X es (tA G X (evL E ies) W) := by
  induction h with
  | nil =>
    refine PA.imp pa_nil ?_
    rintro σ H Q ⟨ρ, env, st, R, p⟩
    exact post_ok (RA := fun ρ H => Paired (RepR G X ρ H)) (u := []) p R.sat .nil
  | cons h t ih =>
    rename_i e es ie ies
    simp only [plainArgs, List.all_cons, Bool.and_eq_true, Bool.not_eq_true'] at hp
    refine PA.imp (pa_cons h (ih hp.2) (isStar_each hp.1)) ?_
    rintro σ H Q ⟨ρ, env, st, R, p⟩
    refine stepE_bind R p fun r st1 u ρ1 H1 _ l R1 q p1 => ?_
    refine stepA_bind R1 p1 fun rs st2 us ρ2 H2 l2 R2 q2 p2 => ?_
    exact post_ok (RA := fun ρ H => Paired (RepR G X ρ H)) (u := u :: us) p2 R2.sat (.cons (q.later l2) q2)
end
end Ev
set_option maxHeartbeats 1000000
/-! Soundness, part 2: displays, operators, comparisons, tests, subscripts. -/
namespace Ev
open PySem PySem.Spec PyProof.Rows L2
section
variable {G : GC} {X : Cx} {W : WX} {pos : Pos}

theorem RepR.d {ρ : Rho} {H : Hp} {x : PyData} {v : V} (h : RepR G X ρ H (.d x) v) : RepD G.K ρ H x v := h
theorem repDs_of {ρ : Rho} {H : Hp} : ∀ {rs : List R} {ds : List PyData} {us : List V}, Paired (RepR G X ρ H) rs us → allD rs = some ds → RepDs G.K ρ H ds us
  | [], _, _, .nil, e => by simp [allD] at e; subst e; simp [RepDs]
  | r :: rs, ds, _, .cons h t, e => by
    cases r with
    | d x =>
      simp only [allD, Option.map_eq_some_iff] at e
      obtain ⟨ds', e1, e2⟩ := e
      subst e2
      simp only [RepDs]
      exact ⟨_, _, rfl, h, repDs_of t e1⟩
    | s _ => simp [allD] at e
    | c _ => simp [allD] at e
    | lam _ _ => simp [allD] at e
    | x _ _ => simp [allD] at e
theorem allD_length : ∀ {rs : List R} {ds : List PyData}, allD rs = some ds → rs.length = ds.length := fun e => by rw [allD_eq e]; simp
/-- a new tuple of data -/
theorem sat_tup {ρ : Rho} {H : Hp} {st : Store} (S : Sat G ρ H st) {p : Addr} (h : H p = none) {ds : List PyData} {us : List V} (r : RepDs G.K ρ H ds us) : RepR G X ρ (upd H p (.tup us)) (.d (.tuple ds)) (.ref p) := by
  show RepD _ _ _ _ _
  simp only [RepD]
  exact ⟨p, us, rfl, .inl ⟨S.st.fresh h, upd_same⟩, RepDs.later (Later.laid h) _ _ r⟩
theorem sat_lst {ρ : Rho} {H : Hp} {st : Store} (S : Sat G ρ H st) {p : Addr} (h : H p = none) {ds : List PyData} {us : List V} (r : RepDs G.K ρ H ds us) : RepR G X ρ (upd H p (.lst us)) (.d (.list ds)) (.ref p) := by
  show RepD _ _ _ _ _
  simp only [RepD]
  exact ⟨p, us, rfl, S.st.fresh h, upd_same, RepDs.later (Later.laid h) _ _ r⟩
/-- a new object that is data -/
theorem post_new {σ : L2.St} {ρ : Rho} {H : Hp} {st : Store} {Q : VK} {x : PyData} {o : HO} {p : Addr} (q : PostG G (RepR G X) W σ ρ H Q (.ok (.d x) st)) (S : Sat G ρ H st) (h : H p = none) (r : RepR G X ρ (upd H p o) (.d x) (.ref p)) : Q (.ref p) (upd H p o) :=
  q (.ref p) ρ (upd H p o) (Later.laid h) (S.laid h) r

theorem snd_tup {E : Env → Store → Res (List R)} {es : List Expr} {k : Nat} (h : PA X es (tA G X E W)) :
    PE X (.Tuple es k pos) (tE G X (fun env st => (E env st).bind fun rs st => match allD rs with | some ds => if ds.length ≤ sizeLine then .ok (.d (.tuple ds)) st else .bad | none => .bad) W) := by
  refine PE.imp (pe_tup h) ?_
  rintro σ H Q ⟨ρ, env, st, R, p⟩
  refine stepA_bind R p fun rs st1 us ρ1 H1 l R1 q p1 => ?_
  split at p1
  · rename_i ds e
    split at p1
    · rename_i hl
      have rd := repDs_of q e
      refine ⟨by rw [← rd.length]; exact hl, fun a ha => post_new p1 R1.sat ha (sat_tup R1.sat ha rd)⟩
    · exact p1.elim
  · exact p1.elim
/-- a list is made -/
theorem new_list {σ : L2.St} {ρ : Rho} {H : Hp} {st : Store} {Q : VK} {mt : Bool} {rs : List R} {us : List V} {p : Addr} (q : PostG G (RepR G X) W σ ρ H Q (newList mt rs st)) (S : Sat G ρ H st) (r : Paired (RepR G X ρ H) rs us) :
    us.length ≤ sizeLine ∧ (H p = none → Q (.ref p) (upd H p (.lst us))) := by
  unfold newList at q
  have hl : rs.length = us.length := Paired.length r
  by_cases h1 : rs.length ≤ sizeLine
  · rw [if_pos h1] at q
    refine ⟨by omega, fun hp => ?_⟩
    cases mt with
    | true =>
      simp only [if_true] at q
      by_cases hb : rs.all (isBelow st.length) = true
      · rw [if_pos hb] at q
        have hb' : ∀ r ∈ rs, isBelow st.length r = true := List.all_eq_true.mp hb
        have rc : RepCs G.K ρ H rs us := by
          clear q hb h1 hl
          induction r with
          | nil => exact .nil
          | cons a t ih =>
            rename_i x xs u us
            refine .cons ?_ (ih fun r hr => hb' r (List.mem_cons_of_mem _ hr))
            have z := hb' x List.mem_cons_self
            cases x with
            | d x => exact a
            | c i => exact a
            | s ns => simp [isBelow] at z
            | lam _ _ => simp [isBelow] at z
            | x _ _ => simp [isBelow] at z
        refine q (.ref p) (ρ ++ [some p]) _ (Later.cell_new S.st hp) (S.cell_new hp rc hb') ?_
        show RepC G.K (ρ ++ [some p]) (upd H p (.lst us)) (R.c st.length) (V.ref p)
        refine ⟨p, rfl, by simp [S.st.len], fun b e => ?_⟩
        rw [← S.st.len] at e
        simp at e
        exact e.symm
      · rw [if_neg hb] at q
        exact q.elim
    | false =>
      simp only [Bool.false_eq_true, if_false] at q
      split at q
      · rename_i ds e
        exact post_new q S hp (sat_lst S hp (repDs_of r e))
      · exact q.elim
  · rw [if_neg h1] at q
    exact q.elim
theorem snd_lst {E : Env → Store → Res (List R)} {es : List Expr} {mt : Bool} (h : PA X es (tA G X E W)) :
    PE X (.List es pos) (tE G X (fun env st => (E env st).bind fun rs st => newList mt rs st) W) := by
  refine PE.imp (pe_lst h) ?_
  rintro σ H Q ⟨ρ, env, st, R, p⟩
  refine stepA_bind R p fun rs st1 us ρ1 H1 l R1 q p1 => ?_
  exact ⟨(new_list (p := 0) p1 R1.sat q).1, fun a ha => (new_list p1 R1.sat q).2 ha⟩

/-! ### operators -/
def rBop (G : GC) (o : Bop) : R2 := fun x y H Q => ∃ (ρ : Rho) (st : Store) (dx dy z : PyData), Sat G ρ H st ∧ RepD G.K ρ H dx x ∧ RepD G.K ρ H dy y ∧ bopD o dx dy = some z ∧ ∀ u H', Later ρ H ρ H' → Sat G ρ H' st → RepD G.K ρ H' z u → Q u H'
theorem repD_int {K : PySem.W.Frag} {ρ : Rho} {H : Hp} {i : Int} : RepD K ρ H (.int i) (.int i) := by simp only [RepD]
theorem ofB {p : Prop} {h : Decidable p} (e : decide p = true) : p := of_decide_eq_true e
theorem op_bop {op : Operator} {o : Bop} (h : opB op o = true) (gx : GX G X) : OpR X (binaryOp op) (rBop G o) := by
  intro pins s σ H x y v u Q I rx ry hq
  obtain ⟨ρ, st, dx, dy, z, S, hx, hy, e, q⟩ := hq
  have fin : ∀ {z' : PyData} {w : V}, some z' = some z → RepD G.K ρ H z' w → Q w H := fun {z' w} e r => by
    cases e
    exact q w H Later.refl S r
  have finT : ∀ {z' : PyData} {p : Addr} {o : HO}, some z' = some z → H p = none → RepD G.K ρ (upd H p o) z' (.ref p) → Q (.ref p) (upd H p o) := fun {z' p o} e hp r => by
    cases e
    exact q _ _ (Later.laid hp) (S.laid hp) r
  cases o <;> cases op <;> simp only [opB, Bool.false_eq_true] at h
  · -- add
    cases dx <;> cases dy <;> simp only [bopD, reduceCtorEq] at e
    · simp only [RepD] at hx hy
      subst hx hy
      exact op_add pins s σ H _ _ v u Q I rx ry ⟨_, _, rfl, rfl, fin e repD_int⟩
    · simp only [RepD] at hx hy
      subst hx hy
      split at e
      · rename_i hl
        exact op_add_str pins s σ H _ _ v u Q I rx ry ⟨_, _, rfl, rfl, hl, fin e (by simp only [RepD])⟩
      · cases e
    · rename_i xs ys
      simp only [RepD] at hx hy
      obtain ⟨a, vs, rfl, na, ha, ra⟩ := hx
      obtain ⟨b, ws, rfl, nb, hb, rb⟩ := hy
      split at e
      · rename_i hl
        refine op_cat pins s σ H _ _ v u Q I rx ry ⟨a, b, vs, ws, rfl, rfl, ha, hb, by rw [← ra.length, ← rb.length]; exact hl, fun p hp => finT e hp ?_⟩
        simp only [RepD]
        exact ⟨p, _, rfl, S.st.fresh hp, upd_same, RepDs.later (Later.laid hp) _ _ (RepDs.append ra rb)⟩
      · cases e
    · rename_i xs ys
      simp only [RepD] at hx hy
      obtain ⟨a, vs, rfl, ha, ra⟩ := hx
      obtain ⟨b, ws, rfl, hb, rb⟩ := hy
      split at e
      · rename_i hl
        refine op_catA pins s σ H _ _ v u Q I rx ry ⟨a, b, vs, ws, rfl, rfl, by rw [gx.K]; exact ha.sq, by rw [gx.K]; exact hb.sq, by rw [← ra.length, ← rb.length]; exact hl, fun h0 => ?_, fun h0 h1 => ?_, fun h0 h1 p hp => finT e hp ?_⟩
        · have : xs = [] := List.length_eq_zero_iff.mp (by rw [ra.length, h0]; rfl)
          subst this
          refine fin e ?_
          simp only [List.nil_append, RepD]
          exact ⟨b, ws, rfl, hb, rb⟩
        · have : ys = [] := List.length_eq_zero_iff.mp (by rw [rb.length, h1]; rfl)
          subst this
          refine fin e ?_
          simp only [List.append_nil, RepD]
          exact ⟨a, vs, rfl, ha, ra⟩
        · simp only [RepD]
          exact ⟨p, _, rfl, .inl ⟨S.st.fresh hp, upd_same⟩, RepDs.later (Later.laid hp) _ _ (RepDs.append ra rb)⟩
      · cases e
  · cases dx <;> cases dy <;> simp only [bopD, reduceCtorEq] at e
    simp only [RepD] at hx hy
    subst hx hy
    exact op_sub pins s σ H _ _ v u Q I rx ry ⟨_, _, rfl, rfl, fin e repD_int⟩
  · -- mul
    cases dx <;> cases dy <;> simp only [bopD, reduceCtorEq] at e
    · simp only [RepD] at hx hy
      subst hx hy
      split at e
      · rename_i hm
        exact op_mulW pins s σ H _ _ v u Q I rx ry ⟨_, _, rfl, rfl, ofB hm, fin e repD_int⟩
      · cases e
    · rename_i xs k
      simp only [RepD] at hx hy
      obtain ⟨a, vs, rfl, ha, ra⟩ := hx
      subst hy
      split at e
      · rename_i hm
        obtain ⟨m1, m2, m3, m4⟩ := hm
        have hl := ra.length
        exact op_repT pins s σ H _ _ v u Q I rx ry ⟨a, k, vs, rfl, rfl, by rw [gx.K]; exact ha.sq, fun z => by rw [z] at hl; simp only [List.length_nil] at hl; omega, m2, m3, by omega, fun p hp => finT e hp (by
          simp only [RepD]
          exact ⟨p, _, rfl, .inl ⟨S.st.fresh hp, upd_same⟩, RepDs.later (Later.laid hp) _ _ (RepDs.rep ra _)⟩)⟩
      · cases e
  · cases dx <;> cases dy <;> simp only [bopD, reduceCtorEq] at e
    simp only [RepD] at hx hy
    subst hx hy
    split at e
    · rename_i hm
      exact op_fdivW pins s σ H _ _ v u Q I rx ry ⟨_, _, rfl, rfl, ofB hm, fin e repD_int⟩
    · cases e
  · cases dx <;> cases dy <;> simp only [bopD, reduceCtorEq] at e
    simp only [RepD] at hx hy
    subst hx hy
    split at e
    · rename_i hm
      exact op_mod pins s σ H _ _ v u Q I rx ry ⟨_, _, rfl, rfl, hm, fin e repD_int⟩
    · cases e
  · cases dx <;> cases dy <;> simp only [bopD, reduceCtorEq] at e
    simp only [RepD] at hx hy
    subst hx hy
    split at e
    · rename_i hm
      exact op_pow pins s σ H _ _ v u Q I rx ry ⟨_, _, rfl, rfl, ofB hm, fin e repD_int⟩
    · cases e
end
end Ev
set_option maxHeartbeats 1000000
/-! Soundness, part 3: comparisons, and/or/not, tests, subscripts, slices. -/
namespace Ev
open PySem PySem.Spec PyProof.Rows L2
section
variable {G : GC} {X : Cx} {W : WX} {pos : Pos}
mutual
theorem dp_of {K : PySem.W.Frag} {ρ : Rho} {H : Hp} : ∀ (d : PyData) (v : V), RepD K ρ H d v → Dp K H v d
  | .none, v, h => by simp only [RepD] at h; subst h; exact .non
  | .bool b, v, h => by simp only [RepD] at h; subst h; exact .bl b
  | .int b, v, h => by simp only [RepD] at h; subst h; exact .int b
  | .str b, v, h => by simp only [RepD] at h; subst h; exact .str b
  | .list xs, v, h => by
    simp only [RepD] at h
    obtain ⟨a, vs, rfl, _, h1, h2⟩ := h
    exact .lst (SqL.of h1) (dps_of xs vs h2)
  | .tuple xs, v, h => by
    simp only [RepD] at h
    obtain ⟨a, vs, rfl, h1, h2⟩ := h
    exact .tup h1.sq (dps_of xs vs h2)
  | .dict _, _, h => by simp only [RepD] at h
theorem dps_of {K : PySem.W.Frag} {ρ : Rho} {H : Hp} : ∀ (ds : List PyData) (vs : List V), RepDs K ρ H ds vs → DpAll K H vs ds
  | [], vs, h => by simp only [RepDs] at h; subst h; exact .nil
  | d :: ds, vs, h => by
    simp only [RepDs] at h
    obtain ⟨v, r, rfl, h1, h2⟩ := h
    exact .cons (dp_of d v h1) (dps_of ds r h2)
end
theorem cell_at {ρ : Rho} {H : Hp} {st : Store} (S : Sat G ρ H st) {i : Nat} {v : V} {xs : List R} (h : RepC G.K ρ H (.c i) v) (e : st[i]? = some (.lst xs)) : ∃ a vs, v = .ref a ∧ ρ[i]? = some (some a) ∧ H a = some (.lst vs) ∧ RepCs G.K ρ H xs vs ∧ ∀ r ∈ xs, isBelow i r = true := by
  obtain ⟨b, e1, h1, h2⟩ := h
  obtain ⟨a, vs, e2, h3, h4, h5⟩ := S.st.at_ i _ e
  have := h2 a e2
  subst this
  exact ⟨a, vs, e1, e2, h3, h4, h5⟩
theorem asD_dp {ρ : Rho} {H : Hp} {st : Store} (S : Sat G ρ H st) {r : R} {v : V} {d : PyData} (h : RepR G X ρ H r v) (e : asD r st = some d) : Dp G.K H v d := by
  cases r with
  | d x => simp only [asD, Option.some.injEq] at e; subst e; exact dp_of _ _ h
  | c i =>
    simp only [asD] at e
    split at e
    · rename_i xs e1
      simp only [Option.map_eq_some_iff] at e
      obtain ⟨ds, e2, rfl⟩ := e
      obtain ⟨a, vs, rfl, _, h3, h4, _⟩ := cell_at S h e1
      exact .lst (SqL.of h3) (dps_of _ _ (h4.ds e2))
    · cases e
  | s _ => simp [asD] at e
  | lam _ _ => simp [asD] at e
  | x _ _ => simp [asD] at e
theorem dp_str {K : PySem.W.Frag} {H : Hp} {v : V} {i : Str} (h : Dp K H v (.str i)) : v = .str i := by cases h; rfl
theorem dp_int {K : PySem.W.Frag} {H : Hp} {v : V} {i : Int} (h : Dp K H v (.int i)) : v = .int i := by cases h; rfl
/-- a comparison, by values -/
def rCmp (G : GC) (o : Cop) : R2 := fun x y H Q => ∃ (dx dy : PyData) (b : Bool), Dp G.K H x dx ∧ Dp G.K H y dy ∧ cmpD o dx dy = some b ∧ Q (.bl b) H
theorem cmpD_eq {o : Cop} {x y : PyData} {b : Bool} (e : cmpD o x y = some b) : (∃ i j, x = .int i ∧ y = .int j ∧ b = cmpI o i j) ∨ (o = .eq ∧ SeqAt.shaped x = true ∧ SeqAt.shaped y = true ∧ b = PyData.eqv x y) ∨ (o = .ne ∧ SeqAt.shaped x = true ∧ SeqAt.shaped y = true ∧ b = !PyData.eqv x y) ∨ (∃ a c, x = .str a ∧ y = .str c ∧ ((o = .eq ∧ b = decide (a = c)) ∨ (o = .ne ∧ b = !decide (a = c)))) := by
  unfold cmpD at e
  split at e
  · exact .inl ⟨_, _, rfl, rfl, (Option.some.inj e).symm⟩
  · refine .inr (.inr (.inr ⟨_, _, rfl, rfl, ?_⟩))
    split at e
    · exact .inl ⟨rfl, (Option.some.inj e).symm⟩
    · exact .inr ⟨rfl, (Option.some.inj e).symm⟩
    · cases e
  · split at e
    · split at e
      · rename_i h
        simp only [Bool.and_eq_true] at h
        exact .inr (.inl ⟨rfl, h.1, h.2, (Option.some.inj e).symm⟩)
      · cases e
    · split at e
      · rename_i h
        simp only [Bool.and_eq_true] at h
        exact .inr (.inr (.inl ⟨rfl, h.1, h.2, (Option.some.inj e).symm⟩))
      · cases e
    · cases e
theorem op_cmp {op : CmpOp} {o : Cop} (h : cmpB op o = true) (gx : GX G X) (hu : X.A.units + 64 < cLine) : OpR X (compareOp op) (rCmp G o) := by
  intro pins s σ H x y v u Q I rx ry hq
  obtain ⟨dx, dy, b, hx, hy, e, q⟩ := hq
  rcases cmpD_eq e with ⟨i, j, rfl, rfl, rfl⟩ | ⟨rfl, s1, s2, rfl⟩ | ⟨rfl, s1, s2, rfl⟩ | ⟨a, c, rfl, rfl, e2⟩
  · have ex := dp_int hx
    have ey := dp_int hy
    subst ex ey
    cases o <;> cases op <;> simp only [cmpB, Bool.false_eq_true] at h
    · exact op_eq pins s σ H _ _ v u Q I rx ry ⟨rfl, by simpa [cmpI] using q⟩
    · exact op_ne pins s σ H _ _ v u Q I rx ry ⟨rfl, by simpa [cmpI] using q⟩
    · exact op_lt pins s σ H _ _ v u Q I rx ry ⟨_, _, rfl, rfl, q⟩
    · exact op_le pins s σ H _ _ v u Q I rx ry ⟨_, _, rfl, rfl, q⟩
    · exact op_gt pins s σ H _ _ v u Q I rx ry ⟨_, _, rfl, rfl, q⟩
    · exact op_ge pins s σ H _ _ v u Q I rx ry ⟨_, _, rfl, rfl, q⟩
  · cases op <;> simp only [cmpB, Bool.false_eq_true] at h
    exact op_eqD hu pins s σ H _ _ v u Q I rx ry ⟨dx, dy, by rw [gx.K]; exact hx, by rw [gx.K]; exact hy, s1, s2, q⟩
  · cases op <;> simp only [cmpB, Bool.false_eq_true] at h
    exact op_neD hu pins s σ H _ _ v u Q I rx ry ⟨dx, dy, by rw [gx.K]; exact hx, by rw [gx.K]; exact hy, s1, s2, q⟩
  · have ex := dp_str hx
    have ey := dp_str hy
    subst ex ey
    rcases e2 with ⟨rfl, rfl⟩ | ⟨rfl, rfl⟩ <;> cases op <;> simp only [cmpB, Bool.false_eq_true] at h
    · exact op_eq pins s σ H _ _ v u Q I rx ry ⟨rfl, by simpa using q⟩
    · exact op_ne pins s σ H _ _ v u Q I rx ry ⟨rfl, by simpa using q⟩
theorem Res.bind_assoc {α β γ : Type} (m : Res α) (f : α → Store → Res β) (g : β → Store → Res γ) : (m.bind f).bind g = m.bind fun a st => (f a st).bind g := by
  cases m <;> rfl
theorem repD_bl {K : PySem.W.Frag} {ρ : Rho} {H : Hp} {b : Bool} : RepD K ρ H (.bool b) (.bl b) := by simp only [RepD]
theorem repR_bl {ρ : Rho} {H : Hp} {b : Bool} : RepR G X ρ H (.d (.bool b)) (.bl b) := by
  show RepD G.K ρ H (.bool b) (.bl b)
  simp only [RepD]
theorem repR_i {ρ : Rho} {H : Hp} {i : Int} : RepR G X ρ H (.d (.int i)) (.int i) := by
  show RepD G.K ρ H (.int i) (.int i)
  simp only [RepD]
theorem repR_s {ρ : Rho} {H : Hp} {i : Str} : RepR G X ρ H (.d (.str i)) (.str i) := by
  show RepD G.K ρ H (.str i) (.str i)
  simp only [RepD]
theorem repR_n {ρ : Rho} {H : Hp} : RepR G X ρ H (.d .none) .non := by
  show RepD G.K ρ H .none .non
  simp only [RepD]
abbrev cmpK (o : Cop) (x y : R) (st : Store) : Res R := match asD x st, asD y st with
  | some x, some y => match cmpD o x y with
    | some z => .ok (.d (.bool z)) st
    | none => .bad
  | _, _ => .bad
/-- the first of two values at the state behind the second -/
theorem snd_cmp {op : CmpOp} {o : Cop} (h : cmpB op o = true) (gx : GX G X) (hu : X.A.units + 64 < cLine) {ea eb : Env → Store → Res R} {a b : Expr} (ha : PE X a (tE G X ea W)) (hb : PE X b (tE G X eb W)) :
    PE X (.Compare a [op] [b] pos) (tE G X (fun env st => (ea env st).bind fun x st => (eb env st).bind fun y st => cmpK o x y st) W) := by
  refine PE.imp (pe_cmpR (op_cmp h gx hu) ha hb (nomark b (by intro z; subst z; simp [cmpB] at h) (by intro z; subst z; simp [cmpB] at h))) ?_
  rintro σ H Q ⟨ρ, env, st, R, p⟩
  refine stepE_bind R p fun x st1 u ρ1 H1 _ l R1 q p1 => ?_
  refine stepE_bind R1 p1 fun y st2 w ρ2 H2 _ l2 R2 q2 p2 => ?_
  unfold cmpK at p2
  split at p2
  · rename_i dx dy e1 e2
    split at p2
    · rename_i z e3
      exact ⟨dx, dy, z, asD_dp R2.sat (q.later l2) e1, asD_dp R2.sat q2 e2, e3, post_ok (RA := RepR G X) (u := .bl z) p2 R2.sat repR_bl⟩
    · exact p2.elim
  · exact p2.elim
theorem tst_cmp {op : CmpOp} {o : Cop} (h : cmpB op o = true) (gx : GX G X) (hu : X.A.units + 64 < cLine) {ea eb : Env → Store → Res R} {a b : Expr} (ha : PE X a (tE G X ea W)) (hb : PE X b (tE G X eb W)) :
    PT X (.Compare a [op] [b] pos) (tT G X (fun env st => ((ea env st).bind fun x st => (eb env st).bind fun y st => cmpK o x y st).bind fun r st => match truth r st with | some b => .ok b st | none => .bad) W) := by
  refine PT.imp (pt_cmpR (op_cmp h gx hu) ha hb (nomark b (by intro z; subst z; simp [cmpB] at h) (by intro z; subst z; simp [cmpB] at h))) ?_
  rintro σ H Q ⟨ρ, env, st, R, p⟩
  dsimp only at p
  rw [Res.bind_assoc] at p
  refine stepE_bind R p fun x st1 u ρ1 H1 _ l R1 q p1 => ?_
  rw [Res.bind_assoc] at p1
  refine stepE_bind R1 p1 fun y st2 w ρ2 H2 _ l2 R2 q2 p2 => ?_
  unfold cmpK at p2
  split at p2
  · rename_i dx dy e1 e2
    split at p2
    · rename_i z e3
      refine ⟨dx, dy, z, asD_dp R2.sat (q.later l2) e1, asD_dp R2.sat q2 e2, e3, z, rfl, ?_⟩
      exact post_ok (RA := fun _ _ b c => c = b) (u := z) (show PostG G (fun _ _ b c => c = b) W σ ρ2 H2 Q (.ok z st2) from p2) R2.sat rfl
    · exact p2.elim
  · exact p2.elim
theorem repR_int {ρ : Rho} {H : Hp} {i : Int} {v : V} (h : RepR G X ρ H (.d (.int i)) v) : v = .int i := by
  have h : RepD G.K ρ H (.int i) v := h
  simpa only [RepD] using h
/-- comparisons of ints -/
theorem op_cmpI {op : CmpOp} {o : Cop} (h : cmpB op o = true) : OpR X (compareOp op) (fun x y H Q => ∃ i j, x = .int i ∧ y = .int j ∧ Q (.bl (cmpI o i j)) H) := by
  intro pins s σ H x y v u Q I rx ry hq
  obtain ⟨i, j, rfl, rfl, q⟩ := hq
  cases o <;> cases op <;> simp only [cmpB, Bool.false_eq_true] at h
  · exact op_eq pins s σ H _ _ v u Q I rx ry ⟨rfl, by simpa [cmpI] using q⟩
  · exact op_ne pins s σ H _ _ v u Q I rx ry ⟨rfl, by simpa [cmpI] using q⟩
  · exact op_lt pins s σ H _ _ v u Q I rx ry ⟨_, _, rfl, rfl, q⟩
  · exact op_le pins s σ H _ _ v u Q I rx ry ⟨_, _, rfl, rfl, q⟩
  · exact op_gt pins s σ H _ _ v u Q I rx ry ⟨_, _, rfl, rfl, q⟩
  · exact op_ge pins s σ H _ _ v u Q I rx ry ⟨_, _, rfl, rfl, q⟩
abbrev chainK (o p : Cop) (ec : Env → Store → Res R) (env : Env) (x y : R) (st : Store) : Res R := match x, y with
  | .d (.int i), .d (.int j) => if cmpI o i j then (ec env st).bind fun z st => match z with
      | .d (.int k) => .ok (.d (.bool (cmpI p j k))) st
      | _ => .bad
    else .ok (.d (.bool false)) st
  | _, _ => .bad
theorem last_of {op op' : CmpOp} {b c : Expr} {o : Cop} (h : cmpB op' o = true) : lastMarks [op, op'] [b, c] = false := by
  show behindInMarks op' c = false
  exact nomark c (by intro z; subst z; simp [cmpB] at h) (by intro z; subst z; simp [cmpB] at h)
theorem snd_chain {op op' : CmpOp} {o o' : Cop} (h : cmpB op o = true) (h' : cmpB op' o' = true) {ea eb ec : Env → Store → Res R} {a b c : Expr} (ha : PE X a (tE G X ea W)) (hb : PE X b (tE G X eb W)) (hc : PE X c (tE G X ec W)) :
    PE X (.Compare a [op, op'] [b, c] pos) (tE G X (fun env st => (ea env st).bind fun x st => (eb env st).bind fun y st => chainK o o' ec env x y st) W) := by
  refine PE.imp (pe_chain (op_cmpI h) (op_cmpI h') ha hb hc (last_of h')) ?_
  rintro σ H Q ⟨ρ, env, st, R, p⟩
  refine stepE_bind R p fun x st1 u ρ1 H1 _ l R1 q p1 => ?_
  refine stepE_bind R1 p1 fun y st2 w ρ2 H2 _ l2 R2 q2 p2 => ?_
  obtain ⟨i, j, rfl, rfl⟩ : ∃ i j, x = .d (.int i) ∧ y = .d (.int j) := by
    unfold chainK at p2
    split at p2
    · exact ⟨_, _, rfl, rfl⟩
    · exact p2.elim
  dsimp only [chainK] at p2
  · have e1 := repR_int (q.later l2)
    have e2 := repR_int q2
    subst e1 e2
    refine ⟨i, j, rfl, rfl, _, rfl, ?_⟩
    split at p2
    · rename_i ht
      rw [if_pos ht]
      refine stepE_bind R2 p2 fun z st3 w3 ρ3 H3 _ l3 R3 q3 p3 => ?_
      split at p3
      · have e3 := repR_int q3
        subst e3
        exact ⟨_, _, rfl, rfl, post_ok (RA := RepR G X) (u := .bl _) p3 R3.sat repR_bl⟩
      · exact p3.elim
    · rename_i ht
      rw [if_neg ht]
      exact post_ok (RA := RepR G X) (u := .bl false) p2 R2.sat repR_bl
theorem tst_chain {op op' : CmpOp} {o o' : Cop} (h : cmpB op o = true) (h' : cmpB op' o' = true) {ea eb ec : Env → Store → Res R} {a b c : Expr} (ha : PE X a (tE G X ea W)) (hb : PE X b (tE G X eb W)) (hc : PE X c (tE G X ec W)) :
    PT X (.Compare a [op, op'] [b, c] pos) (tT G X (fun env st => ((ea env st).bind fun x st => (eb env st).bind fun y st => chainK o o' ec env x y st).bind fun r st => match truth r st with | some b => .ok b st | none => .bad) W) := by
  refine PT.imp (pt_chain (op_cmpI h) (op_cmpI h') ha hb hc (last_of h')) ?_
  rintro σ H Q ⟨ρ, env, st, R, p⟩
  dsimp only at p
  rw [Res.bind_assoc] at p
  refine stepE_bind R p fun x st1 u ρ1 H1 _ l R1 q p1 => ?_
  rw [Res.bind_assoc] at p1
  refine stepE_bind R1 p1 fun y st2 w ρ2 H2 _ l2 R2 q2 p2 => ?_
  obtain ⟨i, j, rfl, rfl⟩ : ∃ i j, x = .d (.int i) ∧ y = .d (.int j) := by
    unfold chainK at p2
    split at p2
    · exact ⟨_, _, rfl, rfl⟩
    · exact p2.elim
  dsimp only [chainK] at p2
  · have e1 := repR_int (q.later l2)
    have e2 := repR_int q2
    subst e1 e2
    refine ⟨i, j, rfl, rfl, _, rfl, ?_⟩
    split at p2
    · rename_i ht
      rw [if_pos ht]
      rw [Res.bind_assoc] at p2
      refine stepE_bind R2 p2 fun z st3 w3 ρ3 H3 _ l3 R3 q3 p3 => ?_
      split at p3
      · have e3 := repR_int q3
        subst e3
        exact ⟨_, _, rfl, rfl, _, rfl, post_ok (RA := fun _ _ b c => c = b) (show PostG G (fun _ _ b c => c = b) W σ ρ3 H3 Q (.ok _ st3) from p3) R3.sat rfl⟩
      · exact p3.elim
    · rename_i ht
      rw [if_neg ht]
      exact ⟨_, rfl, post_ok (RA := fun _ _ b c => c = b) (show PostG G (fun _ _ b c => c = b) W σ ρ2 H2 Q (.ok false st2) from p2) R2.sat rfl⟩
theorem isEmpty_len {α β : Type} {xs : List α} {ys : List β} (h : xs.length = ys.length) : (!xs.isEmpty) = !ys.isEmpty := by
  cases xs <;> cases ys <;> simp at h <;> rfl
/-- the truth of a value -/
theorem truV_of (gx : GX G X) {ρ : Rho} {H : Hp} {st : Store} (S : Sat G ρ H st) {r : R} {v : V} {b : Bool} (h : RepR G X ρ H r v) (e : truth r st = some b) : TruV X.K v H b := by
  rw [gx.K]
  cases r with
  | d x =>
    have h : RepD G.K ρ H x v := h
    cases x with
    | none => simp only [RepD] at h; simp only [truth, Option.some.injEq] at e; subst h e; rfl
    | bool b => simp only [RepD] at h; simp only [truth, Option.some.injEq] at e; subst h e; rfl
    | int i =>
      simp only [RepD] at h; simp only [truth, Option.some.injEq] at e; subst h e
      show decide (i ≠ 0) = (i != 0)
      by_cases hi : i = 0 <;> simp [hi]
    | str x =>
      simp only [RepD] at h
      subst h
      simp only [truth] at e
      split at e
      · rename_i hl
        cases e
        refine ⟨hl, ?_⟩
        by_cases hi : x.length = 0
        · simp [hi]
        · have : ((x.length : Int) != 0) = true := by simp; omega
          simp [hi, this]
      · cases e
    | list xs =>
      simp only [RepD] at h; simp only [truth, Option.some.injEq] at e
      obtain ⟨a, vs, rfl, _, h1, h2⟩ := h
      subst e
      exact .inl ⟨vs, SqL.of h1, isEmpty_len h2.length⟩
    | tuple xs =>
      simp only [RepD] at h; simp only [truth, Option.some.injEq] at e
      obtain ⟨a, vs, rfl, h1, h2⟩ := h
      subst e
      exact .inr (.inl ⟨vs, h1.sq, isEmpty_len h2.length⟩)
    | dict kvs => simp [truth] at e
  | c i =>
    simp only [truth] at e
    split at e
    · rename_i xs e1
      simp only [Option.some.injEq] at e
      subst e
      obtain ⟨a, vs, rfl, _, h3, h4, _⟩ := cell_at S h e1
      exact .inl ⟨vs, SqL.of h3, isEmpty_len (Paired.length h4)⟩
    · cases e
  | s _ => simp [truth] at e
  | lam _ _ => simp [truth] at e
  | x _ _ => simp [truth] at e
end
end Ev
set_option maxHeartbeats 1000000
/-! Soundness, part 4: not, and, or, if-else, tests, subscripts, slices. -/
namespace Ev
open PySem PySem.Spec PyProof.Rows L2
section
variable {G : GC} {X : Cx} {W : WX} {pos : Pos} {ea eb ec : Env → Store → Res R} {a b c : Expr}
abbrev truK (r : R) (st : Store) : Res Bool := match truth r st with
  | some b => .ok b st
  | none => .bad
abbrev tstOf (ev : Env → Store → Res R) : Env → Store → Res Bool := fun env st => (ev env st).bind truK
theorem snd_neg (ha : PE X a (tE G X ea W)) : PE X (.UnaryOp .USub a pos) (tE G X (fun env st => (ea env st).bind fun x st => match x with | .d (.int i) => .ok (.d (.int (-i))) st | _ => .bad) W) := by
  refine PE.imp (pe_un un_neg ha) ?_
  rintro σ H Q ⟨ρ, env, st, R, p⟩
  refine stepE_bind R p fun x st1 u ρ1 H1 _ l R1 q p1 => ?_
  split at p1
  · have e := repR_int q
    subst e
    exact ⟨_, rfl, post_ok (RA := RepR G X) p1 R1.sat repR_i⟩
  · exact p1.elim
theorem snd_not (gx : GX G X) (ha : PE X a (tE G X ea W)) : PE X (.UnaryOp .Not a pos) (tE G X (fun env st => (tstOf ea env st).bind fun b st => .ok (.d (.bool !b)) st) W) := by
  refine PE.imp (pe_notT ha) ?_
  rintro σ H Q ⟨ρ, env, st, R, p⟩
  dsimp only [tstOf] at p
  rw [Res.bind_assoc] at p
  refine stepE_bind R p fun x st1 u ρ1 H1 _ l R1 q p1 => ?_
  dsimp only [truK] at p1
  split at p1
  · rename_i k e
    exact ⟨k, truV_of gx R1.sat q e, post_ok (RA := RepR G X) (show PostG G (RepR G X) W σ ρ1 H1 Q (.ok (.d (.bool !k)) st1) from p1) R1.sat repR_bl⟩
  · exact p1.elim
theorem repR_bool {ρ : Rho} {H : Hp} {b : Bool} {v : V} (h : RepR G X ρ H (.d (.bool b)) v) : v = .bl b := by
  have h : RepD G.K ρ H (.bool b) v := h
  simpa only [RepD] using h
theorem snd_and {rest : List Expr} (ha : PE X a (tE G X ea W)) (hb : PE X (.BoolOp .And (b :: rest) pos) (tE G X eb W)) :
    PE X (.BoolOp .And (a :: b :: rest) pos) (tE G X (fun env st => (ea env st).bind fun x st => match x with | .d (.bool c) => if c then eb env st else .ok (.d (.bool false)) st | _ => .bad) W) := by
  refine PE.imp (pe_and ha hb) ?_
  rintro σ H Q ⟨ρ, env, st, R, p⟩
  refine stepE_bind R p fun x st1 u ρ1 H1 _ l R1 q p1 => ?_
  split at p1
  · rename_i c _
    have e := repR_bool q
    subst e
    refine ⟨c, rfl, ?_⟩
    cases c with
    | true => exact ⟨ρ1, env, st1, R1, p1⟩
    | false => exact post_ok (RA := RepR G X) (u := .bl false) (show PostG G (RepR G X) W σ ρ1 H1 Q (.ok (.d (.bool false)) st1) from p1) R1.sat repR_bl
  · exact p1.elim
theorem snd_or {rest : List Expr} (ha : PE X a (tE G X ea W)) (hb : PE X (.BoolOp .Or (b :: rest) pos) (tE G X eb W)) :
    PE X (.BoolOp .Or (a :: b :: rest) pos) (tE G X (fun env st => (ea env st).bind fun x st => match x with | .d (.bool c) => if c then .ok (.d (.bool true)) st else eb env st | _ => .bad) W) := by
  refine PE.imp (pe_or ha hb) ?_
  rintro σ H Q ⟨ρ, env, st, R, p⟩
  refine stepE_bind R p fun x st1 u ρ1 H1 _ l R1 q p1 => ?_
  split at p1
  · rename_i c _
    have e := repR_bool q
    subst e
    refine ⟨c, rfl, ?_⟩
    cases c with
    | true => exact post_ok (RA := RepR G X) (u := .bl true) (show PostG G (RepR G X) W σ ρ1 H1 Q (.ok (.d (.bool true)) st1) from p1) R1.sat repR_bl
    | false => exact ⟨ρ1, env, st1, R1, p1⟩
  · exact p1.elim
/-- tests of and, or -/
theorem tst_and {rest : List Expr} (ha : PT X a (tT G X (tstOf ea) W)) (hb : PW X (.BoolOp .And (b :: rest) pos) (tT G X (tstOf eb) W)) :
    PW X (.BoolOp .And (a :: b :: rest) pos) (tT G X (tstOf fun env st => (ea env st).bind fun x st => match x with | .d (.bool c) => if c then eb env st else .ok (.d (.bool false)) st | _ => .bad) W) := by
  have h := pw_and ha hb
  refine ⟨fun wh pins s σ H Q I q => h.run wh pins s σ H Q I ?_⟩
  obtain ⟨ρ, env, st, R, p⟩ := q
  refine ⟨ρ, env, st, R, ?_⟩
  dsimp only [tstOf] at p ⊢
  rw [Res.bind_assoc] at p
  cases e : ea env st with
  | bad => rw [e] at p; exact p
  | exc c w st1 => rw [e] at p; exact p
  | ok r st1 =>
    rw [e] at p
    cases r with
    | d x => cases x with
      | bool c =>
        intro u ρ1 H1 l s eu
        subst eu
        have R1 : Rel G X ρ1 env st1 σ H1 := R.later l s
        cases u with
        | true => exact ⟨ρ1, env, st1, R1, PostG.later (m := (eb env st1).bind truK) p l⟩
        | false => exact post_ok (RA := fun _ _ b c => c = b) (u := false) (PostG.later (m := (.ok false st1 : Res Bool)) p l) R1.sat rfl
      | _ => exact p.elim
    | _ => exact p.elim
theorem tst_or {rest : List Expr} (ha : PT X a (tT G X (tstOf ea) W)) (hb : PW X (.BoolOp .Or (b :: rest) pos) (tT G X (tstOf eb) W)) :
    PW X (.BoolOp .Or (a :: b :: rest) pos) (tT G X (tstOf fun env st => (ea env st).bind fun x st => match x with | .d (.bool c) => if c then .ok (.d (.bool true)) st else eb env st | _ => .bad) W) := by
  have h := pw_or ha hb
  refine ⟨fun wh pins s σ H Q I q => h.run wh pins s σ H Q I ?_⟩
  obtain ⟨ρ, env, st, R, p⟩ := q
  refine ⟨ρ, env, st, R, ?_⟩
  dsimp only [tstOf] at p ⊢
  rw [Res.bind_assoc] at p
  cases e : ea env st with
  | bad => rw [e] at p; exact p
  | exc c w st1 => rw [e] at p; exact p
  | ok r st1 =>
    rw [e] at p
    cases r with
    | d x => cases x with
      | bool c =>
        intro u ρ1 H1 l s eu
        subst eu
        have R1 : Rel G X ρ1 env st1 σ H1 := R.later l s
        cases u with
        | true => exact post_ok (RA := fun _ _ b c => c = b) (u := true) (PostG.later (m := (.ok true st1 : Res Bool)) p l) R1.sat rfl
        | false => exact ⟨ρ1, env, st1, R1, PostG.later (m := (eb env st1).bind truK) p l⟩
      | _ => exact p.elim
    | _ => exact p.elim
theorem tst_not (ha : PT X a (tT G X (tstOf ea) W)) : PT X (.UnaryOp .Not a pos) (tT G X (tstOf fun env st => (tstOf ea env st).bind fun b st => .ok (.d (.bool !b)) st) W) := by
  refine PT.imp (pt_not ha) ?_
  rintro σ H Q ⟨ρ, env, st, R, p⟩
  dsimp only [tstOf] at p
  rw [Res.bind_assoc] at p
  refine stepT_bind R p fun k st1 ρ1 H1 l R1 p1 => ?_
  exact post_ok (RA := fun _ _ b c => c = b) (u := !k) (show PostG G (fun _ _ b c => c = b) W σ ρ1 H1 Q (.ok (!k) st1) from p1) R1.sat rfl
/-- a test by the value's truth -/
theorem tst_truth (gx : GX G X) (ha : PE X a (tE G X ea W)) (he : ∀ whole, isTrue a X.env whole = (do let v ← whole; standAt a.pos; holding [v] (truthy v))) : PT X a (tT G X (tstOf ea) W) := by
  refine PT.imp (pt_truth ha he) ?_
  rintro σ H Q ⟨ρ, env, st, R, p⟩
  refine stepE_bind R p fun x st1 u ρ1 H1 _ l R1 q p1 => ?_
  dsimp only [truK] at p1
  split at p1
  · rename_i k e
    exact ⟨k, truV_of gx R1.sat q e, post_ok (RA := fun _ _ b c => c = b) p1 R1.sat rfl⟩
  · exact p1.elim
theorem snd_ite (hc : PT X c (tT G X (tstOf ec) W)) (ha : PE X a (tE G X ea W)) (hb : PE X b (tE G X eb W)) :
    PE X (.IfExp c a b pos) (tE G X (fun env st => (tstOf ec env st).bind fun t st => if t then ea env st else eb env st) W) := by
  refine PE.imp (pe_ifExp hc ha hb) ?_
  rintro σ H Q ⟨ρ, env, st, R, p⟩
  refine stepT_bind R p fun k st1 ρ1 H1 l R1 p1 => ?_
  cases k with
  | true => exact ⟨ρ1, env, st1, R1, p1⟩
  | false => exact ⟨ρ1, env, st1, R1, p1⟩
theorem isTrue_ite_ {M : Model} {A : Around} {E : Value → Shared → Prop} {s : Shared} {env : PySem.Env} {wh : Sem Value} {Q : Bool → Shared → Prop} (h : wpAny M A (isTrue c env (eval c env)) (fun t s1 => if t then wpAny M A (isTrue a env (eval a env)) Q E s1 else wpAny M A (isTrue b env (eval b env)) Q E s1) E s) :
    wpAny M A (isTrue (.IfExp c a b pos) env wh) Q E s := by
  rw [PySem.isTrue]
  refine wpAny_bind (thn h fun t s1 q => ?_)
  cases t with
  | true => exact q
  | false => exact q
theorem tst_ite (hc : PT X c (tT G X (tstOf ec) W)) (ha : PT X a (tT G X (tstOf ea) W)) (hb : PT X b (tT G X (tstOf eb) W)) :
    PT X (.IfExp c a b pos) (tT G X (tstOf fun env st => (tstOf ec env st).bind fun t st => if t then ea env st else eb env st) W) := by
  refine ⟨fun pins s σ H Q I h => ?_⟩
  obtain ⟨ρ, env, st, R, p⟩ := h
  dsimp only [tstOf] at p
  rw [Res.bind_assoc] at p
  have hq : tT G X (tstOf ec) W σ H (fun t H1 => if t then tT G X (tstOf ea) W σ H1 Q else tT G X (tstOf eb) W σ H1 Q) := by
    refine stepT_bind R p fun k st1 ρ1 H1 l R1 p1 => ?_
    cases k with
    | true => exact ⟨ρ1, env, st1, R1, p1⟩
    | false => exact ⟨ρ1, env, st1, R1, p1⟩
  refine isTrue_ite_ (thn (hc.run pins s σ H _ I hq) fun t s1 ⟨H1, I1, q1⟩ => ?_)
  cases t with
  | true => exact ha.run pins s1 σ H1 Q I1 q1
  | false => exact hb.run pins s1 σ H1 Q I1 q1
/-- is None -/
theorem repR_nn {ρ : Rho} {H : Hp} {x : PyData} {v : V} (h : RepR G X ρ H (.d x) v) : decide (v = .non) = (match x with | .none => true | _ => false) := by
  have h : RepD G.K ρ H x v := h
  cases x <;> simp only [RepD] at h
  · subst h; rfl
  · subst h; rfl
  · subst h; rfl
  · subst h; rfl
  · obtain ⟨a, vs, rfl, _⟩ := h; rfl
  · obtain ⟨a, vs, rfl, _⟩ := h; rfl
theorem snd_isn (ha : PE X a (tE G X ea W)) {j : Nat} {p' : Pos} :
    PE X (.Compare a [.Is] [.Constant .none j p'] pos) (tE G X (fun env st => (ea env st).bind fun x st => match x with | .d .none => .ok (.d (.bool true)) st | .d _ => .ok (.d (.bool !true)) st | .c _ => .ok (.d (.bool !true)) st | _ => .bad) W) := by
  refine PE.imp (pe_cmp (pc_isN ha) rfl) ?_
  rintro σ H Q ⟨ρ, env, st, R, p⟩
  refine stepE_bind R p fun x st1 u ρ1 H1 _ l R1 q p1 => ?_
  cases x with
  | d x =>
    rw [repR_nn q]
    cases x <;> exact post_ok (RA := RepR G X) p1 R1.sat repR_bl
  | c i =>
    obtain ⟨a, rfl, _⟩ := (show RepC G.K ρ1 H1 (.c i) u from q)
    exact post_ok (RA := RepR G X) p1 R1.sat repR_bl
  | s _ => exact p1.elim
  | lam _ _ => exact p1.elim
  | x _ _ => exact p1.elim
theorem snd_notn (ha : PE X a (tE G X ea W)) {j : Nat} {p' : Pos} :
    PE X (.Compare a [.IsNot] [.Constant .none j p'] pos) (tE G X (fun env st => (ea env st).bind fun x st => match x with | .d .none => .ok (.d (.bool false)) st | .d _ => .ok (.d (.bool !false)) st | .c _ => .ok (.d (.bool !false)) st | _ => .bad) W) := by
  refine PE.imp (pe_cmp (pc_notN ha) rfl) ?_
  rintro σ H Q ⟨ρ, env, st, R, p⟩
  refine stepE_bind R p fun x st1 u ρ1 H1 _ l R1 q p1 => ?_
  cases x with
  | d x =>
    rw [repR_nn q]
    cases x <;> exact post_ok (RA := RepR G X) p1 R1.sat repR_bl
  | c i =>
    obtain ⟨a, rfl, _⟩ := (show RepC G.K ρ1 H1 (.c i) u from q)
    exact post_ok (RA := RepR G X) p1 R1.sat repR_bl
  | s _ => exact p1.elim
  | lam _ _ => exact p1.elim
  | x _ _ => exact p1.elim
theorem tst_isn (ha : PE X a (tE G X ea W)) {j : Nat} {p' : Pos} :
    PT X (.Compare a [.Is] [.Constant .none j p'] pos) (tT G X (tstOf fun env st => (ea env st).bind fun x st => match x with | .d .none => .ok (.d (.bool true)) st | .d _ => .ok (.d (.bool !true)) st | .c _ => .ok (.d (.bool !true)) st | _ => .bad) W) := by
  refine PT.imp (pt_cmp (pc_isN ha) rfl) ?_
  rintro σ H Q ⟨ρ, env, st, R, p⟩
  dsimp only [tstOf] at p
  rw [Res.bind_assoc] at p
  refine stepE_bind R p fun x st1 u ρ1 H1 _ l R1 q p1 => ?_
  cases x with
  | d x =>
    rw [repR_nn q]
    cases x <;> exact ⟨_, rfl, post_ok (RA := fun _ _ b c => c = b) p1 R1.sat rfl⟩
  | c i =>
    obtain ⟨a, rfl, _⟩ := (show RepC G.K ρ1 H1 (.c i) u from q)
    exact ⟨_, rfl, post_ok (RA := fun _ _ b c => c = b) p1 R1.sat rfl⟩
  | s _ => exact p1.elim
  | lam _ _ => exact p1.elim
  | x _ _ => exact p1.elim
theorem tst_notn (ha : PE X a (tE G X ea W)) {j : Nat} {p' : Pos} :
    PT X (.Compare a [.IsNot] [.Constant .none j p'] pos) (tT G X (tstOf fun env st => (ea env st).bind fun x st => match x with | .d .none => .ok (.d (.bool false)) st | .d _ => .ok (.d (.bool !false)) st | .c _ => .ok (.d (.bool !false)) st | _ => .bad) W) := by
  refine PT.imp (pt_cmp (pc_notN ha) rfl) ?_
  rintro σ H Q ⟨ρ, env, st, R, p⟩
  dsimp only [tstOf] at p
  rw [Res.bind_assoc] at p
  refine stepE_bind R p fun x st1 u ρ1 H1 _ l R1 q p1 => ?_
  cases x with
  | d x =>
    rw [repR_nn q]
    cases x <;> exact ⟨_, rfl, post_ok (RA := fun _ _ b c => c = b) p1 R1.sat rfl⟩
  | c i =>
    obtain ⟨a, rfl, _⟩ := (show RepC G.K ρ1 H1 (.c i) u from q)
    exact ⟨_, rfl, post_ok (RA := fun _ _ b c => c = b) p1 R1.sat rfl⟩
  | s _ => exact p1.elim
  | lam _ _ => exact p1.elim
  | x _ _ => exact p1.elim
/-- the items of a sequence -/
theorem items_at (gx : GX G X) {ρ : Rho} {H : Hp} {st : Store} (S : Sat G ρ H st) {r : R} {v : V} {xs : List R} (h : RepR G X ρ H r v) (e : items r st = some xs) :
    ∃ a vs, v = .ref a ∧ (SqL X.K H a vs ∨ SqT X.K H a vs) ∧ RepCs G.K ρ H xs vs := by
  rw [gx.K]
  cases r with
  | d x =>
    have h : RepD G.K ρ H x v := h
    cases x <;> simp only [items, reduceCtorEq, Option.some.injEq] at e
    · simp only [RepD] at h
      obtain ⟨a, vs, rfl, _, h1, h2⟩ := h
      subst e
      exact ⟨a, vs, rfl, .inl (SqL.of h1), RepCs.ofDs h2⟩
    · simp only [RepD] at h
      obtain ⟨a, vs, rfl, h1, h2⟩ := h
      subst e
      exact ⟨a, vs, rfl, .inr h1.sq, RepCs.ofDs h2⟩
  | c i =>
    simp only [items] at e
    split at e
    · rename_i ys e1
      cases e
      obtain ⟨a, vs, rfl, _, h3, h4, _⟩ := cell_at S h e1
      exact ⟨a, vs, rfl, .inl (SqL.of h3), h4⟩
    · cases e
  | s ns =>
    simp only [items, Option.some.injEq] at e
    subst e
    obtain ⟨a, rfl, h2⟩ := (show RepC G.K ρ H (.s ns) v from h)
    refine ⟨a, ns.map V.int, rfl, .inl ?_, ?_⟩
    · rcases h2 with ⟨_, o, h3⟩ | h3
      · exact .inl (.inr ⟨o, h3⟩)
      · exact .inr h3
    · clear h h2
      induction ns with
      | nil => exact .nil
      | cons n ns ih => exact .cons (show RepD G.K ρ H (.int n) (.int n) from repD_int) ih
  | lam _ _ => simp [items] at e
  | x _ _ => simp [items] at e
/-- .. a list, if it is no tuple -/
theorem items_atL (gx : GX G X) {ρ : Rho} {H : Hp} {st : Store} (S : Sat G ρ H st) {r : R} {v : V} {xs : List R} (h : RepR G X ρ H r v) (e : items r st = some xs) (nt : ∀ ys, r ≠ .d (.tuple ys)) :
    ∃ a vs, v = .ref a ∧ SqL X.K H a vs ∧ RepCs G.K ρ H xs vs := by
  rw [gx.K]
  cases r with
  | d x =>
    have h : RepD G.K ρ H x v := h
    cases x <;> simp only [items, reduceCtorEq, Option.some.injEq] at e
    · simp only [RepD] at h
      obtain ⟨a, vs, rfl, _, h1, h2⟩ := h
      subst e
      exact ⟨a, vs, rfl, SqL.of h1, RepCs.ofDs h2⟩
    · exact absurd rfl (nt _)
  | c i =>
    simp only [items] at e
    split at e
    · rename_i ys e1
      cases e
      obtain ⟨a, vs, rfl, _, h3, h4, _⟩ := cell_at S h e1
      exact ⟨a, vs, rfl, SqL.of h3, h4⟩
    · cases e
  | s ns =>
    simp only [items, Option.some.injEq] at e
    subst e
    obtain ⟨a, rfl, h2⟩ := (show RepC G.K ρ H (.s ns) v from h)
    refine ⟨a, ns.map V.int, rfl, ?_, ?_⟩
    · rcases h2 with ⟨_, o, h3⟩ | h3
      · exact .inl (.inr ⟨o, h3⟩)
      · exact .inr h3
    · clear h h2 nt
      induction ns with
      | nil => exact .nil
      | cons n ns ih => exact .cons (show RepD G.K ρ H (.int n) (.int n) from repD_int) ih
  | lam _ _ => simp [items] at e
  | x _ _ => simp [items] at e
theorem items_atT {ρ : Rho} {H : Hp} {xs : List PyData} {v : V} (h : RepR G X ρ H (.d (.tuple xs)) v) : ∃ a vs, v = .ref a ∧ TupAt G.K ρ H a vs ∧ RepDs G.K ρ H xs vs := by
  have h : RepD G.K ρ H (.tuple xs) v := h
  simpa only [RepD] using h
mutual
theorem dp_nodict {K : PySem.W.Frag} {H : Hp} : ∀ (d : PyData) (v : V), Dp K H v d → d.hasDict = false
  | .none, _, _ => rfl
  | .bool _, _, _ => rfl
  | .int _, _, _ => rfl
  | .str _, _, _ => rfl
  | .list xs, v, h => by
    cases h with
    | lst _ t =>
      simp only [PyData.hasDict]
      exact dps_nodict xs _ t
  | .tuple xs, v, h => by
    cases h with
    | tup _ t =>
      simp only [PyData.hasDict]
      exact dps_nodict xs _ t
  | .dict _, _, h => by cases h
theorem dps_nodict {K : PySem.W.Frag} {H : Hp} : ∀ (ds : List PyData) (vs : List V), DpAll K H vs ds → PyData.hasDictAll ds = false
  | [], _, _ => rfl
  | d :: ds, vs, h => by
    cases h with
    | cons a t =>
      simp only [PyData.hasDictAll, Bool.or_eq_false_iff]
      exact ⟨dp_nodict d _ a, dps_nodict ds _ t⟩
end
theorem ixN_bound {n : Nat} {i : Int} {j : Nat} (h : ixN n i = some j) : j < n := (ixN_seq h).2.1
theorem snd_ix (gx : GX G X) (ha : PE X a (tE G X ea W)) (hb : PE X b (tE G X eb W)) (hs : isSlice b = false) :
    PE X (.Subscript a b pos) (tE G X (fun env st => (ea env st).bind fun x st => (eb env st).bind fun y st => match ixR x y st with | some r => .ok r st | none => .bad) W) := by
  refine PE.imp (pe_ix ix_seq ha hb (by cases b <;> first | (simp [isSlice] at hs; done) | exact fun _ _ => rfl)) ?_
  rintro σ H Q ⟨ρ, env, st, R, p⟩
  refine stepE_bind R p fun x st1 u ρ1 H1 _ l R1 q p1 => ?_
  refine stepE_bind R1 p1 fun y st2 w ρ2 H2 _ l2 R2 q2 p2 => ?_
  split at p2
  · rename_i r e
    obtain ⟨k, rfl⟩ : ∃ k, y = .d (.int k) := by
      unfold ixR at e
      split at e
      · exact ⟨_, rfl⟩
      · cases e
    dsimp only [ixR] at e
    · cases e1 : items x st2 with
      | none => rw [e1] at e; cases e
      | some xs =>
        rw [e1] at e
        dsimp only at e
        have ek := repR_int q2
        subst ek
        obtain ⟨p', vs, rfl, hs, rc⟩ := items_at gx R2.sat (q.later l2) e1
        have hl := Paired.length rc
        unfold atI at e
        cases e2 : ixN xs.length k with
        | none => rw [e2] at e; cases e
        | some j =>
          rw [e2] at e
          obtain ⟨v, e3, r3⟩ := rc.get e
          have e4 : atI vs k = some v := by
            unfold atI
            rw [← hl, e2]
            exact e3
          have fin := post_ok (RA := RepR G X) (u := v) p2 R2.sat (RepR.ofC r3)
          rcases hs with hs | hs
          · exact .inl ⟨p', vs, k, v, rfl, rfl, hs, e4, fin⟩
          · exact .inr (.inl ⟨p', vs, k, v, rfl, rfl, hs, e4, fin⟩)
  · exact p2.elim
/-! ### slices -/
def tO (G : GC) (X : Cx) (ev : Env → Store → Res (Option Int)) (W : WX) : TO := fun σ H Q => ∃ ρ env st, Rel G X ρ env st σ H ∧ PostG G (fun _ _ b c => c = b) W σ ρ H Q (ev env st)
theorem PO.imp {X : Cx} {e : Option Expr} {t t' : TO} (h : PO X e t) (i : ∀ σ H Q, t' σ H Q → t σ H Q) : PO X e t' := ⟨fun pins s σ H Q I q => h.run pins s σ H Q I (i σ H Q q)⟩
theorem snd_none : PO X none (tO G X (fun _ st => .ok none st) W) := by
  refine PO.imp po_none ?_
  rintro σ H Q ⟨ρ, env, st, R, p⟩
  exact post_ok (RA := fun _ _ b c => c = b) p R.sat rfl
theorem snd_some (ha : PE X a (tE G X ea W)) : PO X (some a) (tO G X (fun env st => (ea env st).bind fun r st => match r with | .d (.int i) => .ok (some i) st | _ => .bad) W) := by
  refine PO.imp (po_some ha) ?_
  rintro σ H Q ⟨ρ, env, st, R, p⟩
  refine stepE_bind R p fun x st1 u ρ1 H1 _ l R1 q p1 => ?_
  split at p1
  · have e := repR_int q
    subst e
    exact ⟨_, rfl, post_ok (RA := fun _ _ b c => c = b) p1 R1.sat rfl⟩
  · exact p1.elim
theorem stepO_bind {β γ : Type} {σ : L2.St} {ρ : Rho} {H : Hp} {env : Env} {st : Store} {RB : Rho → Hp → β → γ → Prop} {Q : γ → Hp → Prop} {ev : Env → Store → Res (Option Int)} {k : Option Int → Store → Res β} {T : Option Int → Hp → Prop} (R : Rel G X ρ env st σ H) (p : PostG G RB W σ ρ H Q ((ev env st).bind k))
    (hk : ∀ b st1 ρ1 H1, Later ρ H ρ1 H1 → Rel G X ρ1 env st1 σ H1 → PostG G RB W σ ρ1 H1 Q (k b st1) → T b H1) : tO G X ev W σ H T := by
  refine ⟨ρ, env, st, R, ?_⟩
  cases e : ev env st with
  | ok r st1 =>
    rw [e] at p
    refine fun u ρ1 H1 l s q => ?_
    have q : u = r := q
    subst q
    exact hk u st1 ρ1 H1 l (R.later l s) (PostG.later (m := k u st1) p l)
  | exc c w st1 => rw [e] at p; exact p
  | bad => rw [e] at p; exact p
theorem snd_sl (gx : GX G X) {lo hi : Option Expr} {p2 : Pos} {el eh : Env → Store → Res (Option Int)} (ha : PE X a (tE G X ea W)) (hl : PO X lo (tO G X el W)) (hh : PO X hi (tO G X eh W)) :
    PE X (.Subscript a (.Slice lo hi none p2) pos) (tE G X (fun env st => (ea env st).bind fun x st => (el env st).bind fun l st => (eh env st).bind fun h st => match slR x l h with | some r => .ok r st | none => .bad) W) := by
  refine PE.imp (pe_slice (SlR.or sl_list sl_tupA) ha hl hh) ?_
  rintro σ H Q ⟨ρ, env, st, R, p⟩
  refine stepE_bind R p fun x st1 u ρ1 H1 _ l R1 q p1 => ?_
  refine stepO_bind R1 p1 fun lo' st2 ρ2 H2 l2 R2 p2 => ?_
  refine stepO_bind R2 p2 fun hi' st3 ρ3 H3 l3 R3 p3 => ?_
  have q3 := (q.later l2).later l3
  cases x with
  | d x => cases x with
    | tuple xs =>
      have q3 : RepD G.K ρ3 H3 (.tuple xs) u := q3
      simp only [RepD] at q3
      obtain ⟨a, vs, rfl, h1, h2⟩ := q3
      have hl := h2.length
      refine .inr ⟨a, vs, rfl, by rw [gx.K]; exact h1.sq, fun hw => ?_, fun _ a' ha' => post_new p3 R3.sat ha' (sat_tup R3.sat ha' (by unfold cutR cutV; rw [← hl]; exact RepDs.take _ (RepDs.drop _ h2)))⟩
      refine post_ok (RA := RepR G X) p3 R3.sat ?_
      have : cutR xs lo' hi' = xs := by
        unfold cutR
        rw [hl, hw.1, hw.2]
        simp [← hl]
      show RepD G.K ρ3 H3 (.tuple (cutR xs lo' hi')) (.ref a)
      rw [this]
      simp only [RepD]
      exact ⟨a, vs, rfl, h1, h2⟩
    | list xs =>
      have q3 : RepD G.K ρ3 H3 (.list xs) u := q3
      simp only [RepD] at q3
      obtain ⟨a, vs, rfl, _, h1, h2⟩ := q3
      have hl := h2.length
      exact .inl ⟨a, vs, rfl, SqL.of h1, fun a' ha' => post_new p3 R3.sat ha' (sat_lst R3.sat ha' (by unfold cutR cutV; rw [← hl]; exact RepDs.take _ (RepDs.drop _ h2)))⟩
    | _ => exact p3.elim
  | _ => exact p3.elim
end
end Ev
set_option maxHeartbeats 2000000
/-! Soundness, part 5: built-in functions and methods. -/
namespace Ev
open PySem PySem.Spec PyProof.Rows L2
section
variable {G : GC} {X : Cx} {W : WX} {pos : Pos}
theorem paired_one {α β : Type} {F : α → β → Prop} {x : α} {ys : List β} (h : Paired F [x] ys) : ∃ y, ys = [y] ∧ F x y := by
  cases h with
  | cons a t => cases t; exact ⟨_, rfl, a⟩
theorem paired_two {α β : Type} {F : α → β → Prop} {x x' : α} {ys : List β} (h : Paired F [x, x'] ys) : ∃ y y', ys = [y, y'] ∧ F x y ∧ F x' y' := by
  cases h with
  | cons a t => cases t with
    | cons b t => cases t; exact ⟨_, _, rfl, a, b⟩
/-- a function of one value, of two, by its evaluation -/
def rK (G : GC) (X : Cx) (k : Store → List R → Res R) : List V → Hp → VK → Prop := fun vs H Q =>
  ∃ (W : WX) (σ : L2.St) (ρ : Rho) (st : Store) (rs : List R), Sat G ρ H st ∧ Paired (RepR G X ρ H) rs vs ∧ PostG G (RepR G X) W σ ρ H Q (k st rs)
theorem ap1_of {W : WX} {σ : L2.St} {ρ : Rho} {H : Hp} {Q : VK} {f : R → Res R} {rs : List R} {vs : List V} (pr : Paired (RepR G X ρ H) rs vs) (p : PostG G (RepR G X) W σ ρ H Q (ap1 f rs)) :
    ∃ r v, rs = [r] ∧ vs = [v] ∧ RepR G X ρ H r v ∧ PostG G (RepR G X) W σ ρ H Q (f r) := by
  unfold ap1 at p
  split at p
  · obtain ⟨v, rfl, q⟩ := paired_one pr
    exact ⟨_, v, rfl, rfl, q, p⟩
  · exact p.elim
theorem ap2_of {W : WX} {σ : L2.St} {ρ : Rho} {H : Hp} {Q : VK} {f : R → R → Res R} {rs : List R} {vs : List V} (pr : Paired (RepR G X ρ H) rs vs) (p : PostG G (RepR G X) W σ ρ H Q (ap2 f rs)) :
    ∃ r r' v v', rs = [r, r'] ∧ vs = [v, v'] ∧ RepR G X ρ H r v ∧ RepR G X ρ H r' v' ∧ PostG G (RepR G X) W σ ρ H Q (f r r') := by
  unfold ap2 at p
  split at p
  · obtain ⟨v, v', rfl, q, q'⟩ := paired_two pr
    exact ⟨_, _, v, v', rfl, rfl, q, q', p⟩
  · exact p.elim
theorem cr_len (gx : GX G X) : CallR X (.builtin "len") (rK G X fun st => ap1 (lenK st)) := by
  intro pins s σ' H xs us Q I r h
  obtain ⟨W, σ, ρ, st, rs, S, pr, p⟩ := h
  obtain ⟨a, v, rfl, rfl, q, p⟩ := ap1_of pr p
  unfold lenK at p
  split at p
  · rename_i n e
    refine call_len pins s σ' H _ us Q I r ⟨_, n, rfl, ?_, post_ok (RA := RepR G X) p S repR_i⟩
    have seq : ∀ {r : R}, RepR G X ρ H r v → (items r st).map (·.length) = some n → LenV X.K v H n := fun {r} q e => by
      simp only [Option.map_eq_some_iff] at e
      obtain ⟨ys, e1, e2⟩ := e
      obtain ⟨b, vs, rfl, hq, rc⟩ := items_at gx S q e1
      have hl := Paired.length rc
      rcases hq with hq | hq
      · exact .inl ⟨vs, hq, by omega⟩
      · exact .inr ⟨vs, hq, by omega⟩
    cases a with
    | d x => cases x with
      | str x =>
        have q : RepD G.K ρ H (.str x) v := q
        simp only [RepD] at q
        subst q
        simp only [lenR] at e
        split at e
        · rename_i hl
          cases e
          exact ⟨hl, rfl⟩
        · cases e
      | _ => exact seq q e
    | _ => exact seq q e
  · exact p.elim
theorem cr_int : CallR X (.type "int") (rK G X fun st => ap1 (intK st)) := by
  intro pins s σ' H xs us Q I r h
  obtain ⟨W, σ, ρ, st, rs, S, pr, p⟩ := h
  obtain ⟨a, v, rfl, rfl, q, p⟩ := ap1_of pr p
  unfold intK at p
  split at p
  · have e := repR_int q
    subst e
    exact call_int1 pins s σ' H _ us Q I r (.inl ⟨_, rfl, post_ok (RA := RepR G X) p S repR_i⟩)
  · have e := repR_bool q
    subst e
    exact call_int1 pins s σ' H _ us Q I r (.inr ⟨_, rfl, post_ok (RA := RepR G X) p S repR_i⟩)
  · exact p.elim
theorem cr_abs : CallR X (.builtin "abs") (rK G X fun st => ap1 (absK st)) := by
  intro pins s σ' H xs us Q I r h
  obtain ⟨W, σ, ρ, st, rs, S, pr, p⟩ := h
  obtain ⟨a, v, rfl, rfl, q, p⟩ := ap1_of pr p
  unfold absK at p
  split at p
  · have e := repR_int q
    subst e
    exact call_abs pins s σ' H _ us Q I r ⟨_, rfl, post_ok (RA := RepR G X) p S repR_i⟩
  · exact p.elim
theorem cr_max2 (hc : X.calm = true) : CallR X (.builtin "max") (rK G X fun st => ap2 (ints2 (fun i j => if j > i then j else i) st)) := by
  intro pins s σ' H xs us Q I r h
  obtain ⟨W, σ, ρ, st, rs, S, pr, p⟩ := h
  obtain ⟨a, b, v, v', rfl, rfl, q, q', p⟩ := ap2_of pr p
  unfold ints2 at p
  split at p
  · have e := repR_int q
    have e' := repR_int q'
    subst e e'
    exact call_max2 hc pins s σ' H _ us Q I r ⟨_, _, rfl, post_ok (RA := RepR G X) p S repR_i⟩
  · exact p.elim
theorem cr_min2 (hc : X.calm = true) : CallR X (.builtin "min") (rK G X fun st => ap2 (ints2 (fun i j => if j < i then j else i) st)) := by
  intro pins s σ' H xs us Q I r h
  obtain ⟨W, σ, ρ, st, rs, S, pr, p⟩ := h
  obtain ⟨a, b, v, v', rfl, rfl, q, q', p⟩ := ap2_of pr p
  unfold ints2 at p
  split at p
  · have e := repR_int q
    have e' := repR_int q'
    subst e e'
    exact call_min2 hc pins s σ' H _ us Q I r ⟨_, _, rfl, post_ok (RA := RepR G X) p S repR_i⟩
  · exact p.elim
theorem cr_tuple (gx : GX G X) : CallR X (.type "tuple") (rK G X fun st => ap1 (tupleK st)) := by
  intro pins s σ' H xs us Q I r h
  obtain ⟨W, σ, ρ, st, rs, S, pr, p⟩ := h
  obtain ⟨a, v, rfl, rfl, q, p⟩ := ap1_of pr p
  unfold tupleK at p
  split at p
  · rename_i ds e
    by_cases ht : ∃ xs, a = .d (.tuple xs)
    · obtain ⟨xs, rfl⟩ := ht
      simp only [items, Option.bind_some, allD_map, Option.some.injEq] at e
      subst e
      obtain ⟨b, vs, rfl, h1, h2⟩ := items_atT q
      exact call_tuple_of pins s σ' H _ us Q I r ⟨b, vs, rfl, .inr ⟨by rw [gx.K]; exact h1.sq, post_ok (RA := RepR G X) p S q⟩⟩
    · cases e1 : items a st with
      | none => rw [e1] at e; cases e
      | some ys =>
        rw [e1] at e
        obtain ⟨b, vs, rfl, hL, rc⟩ := items_atL gx S q e1 (fun ys z => ht ⟨ys, z⟩)
        exact call_tuple_of pins s σ' H _ us Q I r ⟨b, vs, rfl, .inl ⟨hL, fun l hl => post_new p S hl (sat_tup S hl (rc.ds e))⟩⟩
  · exact p.elim
theorem cr_list (gx : GX G X) {mt : Bool} : CallR X (.type "list") (rK G X fun st => ap1 (listK mt st)) := by
  intro pins s σ' H xs us Q I r h
  obtain ⟨W, σ, ρ, st, rs, S, pr, p⟩ := h
  obtain ⟨a, v, rfl, rfl, q, p⟩ := ap1_of pr p
  unfold listK at p
  split at p
  · rename_i ys e
    obtain ⟨b, vs, rfl, hq, rc⟩ := items_at gx S q e
    refine call_list_of pins s σ' H _ us Q I r ⟨b, vs, rfl, hq, fun l hl => (new_list p S ?_).2 hl⟩
    exact Paired.mapP rc fun _ _ z => RepR.ofC z
  · exact p.elim
theorem allInts_rep {ρ : Rho} {H : Hp} : ∀ {ds : List PyData} {ns : List Int} {vs : List V}, allInts ds = some ns → DpAll G.K H vs ds → vs = ns.map V.int
  | [], ns, vs, e, h => by simp [allInts] at e; subst e; cases h; rfl
  | d :: ds, ns, vs, e, h => by
    cases d <;> simp only [allInts, reduceCtorEq, Option.map_eq_some_iff] at e
    obtain ⟨ns', e1, rfl⟩ := e
    cases h with
    | cons a t =>
      cases a
      rw [allInts_rep (ρ := ρ) e1 t]
      rfl
theorem cr_sumE (gx : GX G X) (hc : X.calm = true) : CallR X (.builtin "sum") (rK G X fun st => ap1 (sumK st)) := by
  intro pins s σ' H xs us Q I r h
  obtain ⟨W, σ, ρ, st, rs, S, pr, p⟩ := h
  obtain ⟨a, v, rfl, rfl, q, p⟩ := ap1_of pr p
  unfold sumK at p
  split at p
  · rename_i ns e
    unfold intsOf at e
    split at e
    · rename_i ds e1
      have dp := asD_dp S q e1
      cases dp with
      | lst h1 h2 =>
        have := allInts_rep (ρ := ρ) e h2
        subst this
        exact cr_sum hc pins s σ' H _ us Q I r ⟨_, ns, rfl, by rw [gx.K]; exact h1, post_ok (RA := RepR G X) p S repR_i⟩
    · cases e
  · exact p.elim
theorem cr_repr (gx : GX G X) (hg : X.A.guards = some []) (hu : X.A.units + 128 < cLine) : CallR X (.builtin "repr") (rK G X fun st => ap1 (reprK st)) := by
  intro pins s σ' H xs us Q I r h
  obtain ⟨W, σ, ρ, st, rs, S, pr, p⟩ := h
  obtain ⟨a, v, rfl, rfl, q, p⟩ := ap1_of pr p
  unfold reprK at p
  split at p
  · rename_i d e
    split at p
    · rename_i hs
      simp only [Bool.and_eq_true, decide_eq_true_eq] at hs
      obtain ⟨⟨h1, h2⟩, h3⟩ := hs
      have dp := asD_dp S q e
      have fin : ∀ {u : Tok} {s' : Shared}, Inv X pins σ' H s' → EP X pins σ' Q (.str d.shown u) s' := fun {u s'} J => ⟨.str d.shown, H, J, ⟨u, rfl⟩, post_ok (RA := RepR G X) p S repR_s⟩
      cases r with
      | cons r1 t =>
        cases t
        rename_i u
        cases dp with
        | non =>
          cases r1
          exact PySem.P.repr_of_none (fin (I.tok _))
        | bl b =>
          cases r1
          refine PySem.P.repr_of_bool ?_
          have := fin (I.tok (s.toks + 1)) (u := s.toks)
          cases b <;> exact this
        | int i =>
          obtain ⟨t, rfl⟩ := r1
          exact PySem.P.repr_of_int (by simpa [PyData.showable] using h1) (fin (I.tok _))
        | str x =>
          obtain ⟨t, rfl⟩ := r1
          exact PySem.P.repr_of_str (fin (I.tok _)) (by simpa [PyData.shown] using h2)
        | lst a1 a2 =>
          cases r1
          obtain ⟨as, rd⟩ := Dp.reads I _ _ (.ref _) (by rw [gx.K]; exact .lst a1 a2) (show RelV (.ref _) (.ref _) from rfl)
          exact PySem.repr_of_reads' rd h1 (fun z => by rw [dp_nodict _ _ (Dp.lst a1 a2)] at z; cases z) hg (by omega) (fun _ _ e => e) (fun h' u tk hk => fin (I.kept hk)) h2
        | tup a1 a2 =>
          cases r1
          obtain ⟨as, rd⟩ := Dp.reads I _ _ (.ref _) (by rw [gx.K]; exact .tup a1 a2) (show RelV (.ref _) (.ref _) from rfl)
          exact PySem.repr_of_reads' rd h1 (fun z => by rw [dp_nodict _ _ (Dp.tup a1 a2)] at z; cases z) hg (by omega) (fun _ _ e => e) (fun h' u tk hk => fin (I.kept hk)) h2
    · exact p.elim
  · exact p.elim
end
end Ev
set_option maxHeartbeats 2000000
/-! Soundness, part 6: isinstance, list(range), methods; calls of built-ins as expressions. -/
namespace Ev
open PySem PySem.Spec PyProof.Rows L2
section
variable {G : GC} {X : Cx} {W : WX} {pos p1 : Pos}
/-- the class of a value -/
def clsOf : PyData → String
  | .none => "NoneType"
  | .bool _ => "bool"
  | .int _ => "int"
  | .str _ => "str"
  | .list _ => "list"
  | .tuple _ => "tuple"
  | .dict _ => "dict"
theorem tyX_of {ρ : Rho} {H : Hp} {d : PyData} {v : V} (h : RepD G.K ρ H d v) : TyX G.K H v (.type (clsOf d)) := by
  cases d <;> simp only [RepD] at h
  · subst h; exact .base .non
  · subst h; exact .base (.bl _)
  · subst h; exact .base (.int _)
  · subst h; exact .base (.str _)
  · obtain ⟨a, vs, rfl, _, h1, _⟩ := h; exact .base (.lst h1)
  · obtain ⟨a, vs, rfl, h1, _⟩ := h
    rcases h1 with ⟨_, h1⟩ | ⟨o, its, n, h1, h2, _⟩
    · exact .base (.tup h1)
    · exact .kTuple h1 h2
def tyStr : Ty → String
  | .int => "int"
  | .bool => "bool"
  | .str => "str"
  | .tuple => "tuple"
  | .list => "list"
theorem kit_all : ∀ (t : Ty) (b : Bool) (c : String), (c, b) ∈ [("NoneType", false), ("bool", t == .int || t == .bool), ("int", t == .int), ("str", t == .str), ("list", t == .list), ("tuple", t == .tuple)] → kitB c (tyStr t) = some b := by
  intro t b c h
  cases t <;> simp only [List.mem_cons, Prod.mk.injEq, List.not_mem_nil, or_false] at h <;> rcases h with ⟨rfl, rfl⟩ | ⟨rfl, rfl⟩ | ⟨rfl, rfl⟩ | ⟨rfl, rfl⟩ | ⟨rfl, rfl⟩ | ⟨rfl, rfl⟩ <;> decide +kernel
theorem boot_ty (t : Ty) : bootBuiltins (tyName t) = some (.type (tyStr t)) := by cases t <;> decide +kernel
theorem snd_isi (O : GOk G) (gx : GX G X) {t : Ty} {a : Expr} {ea : Env → Store → Res R} {p2 : Pos} (hx : Gl X "isinstance") (ht : Gl X (tyName t)) (hs : isStar a = false) (ha : PE X a (tE G X ea W)) :
    PE X (.Call (.Name "isinstance" p1) [a, .Name (tyName t) p2] [] pos) (tE G X (fun env st => (ea env st).bind fun r st => isiK t st r) W) := by
  have hm : X.mg (tyName t) = none := by rw [gx.mg]; cases t <;> exact O.blt _ (by decide +kernel)
  have hn : tyName t ≠ "__name__" := by cases t <;> decide
  have hd : (tyName t == ("__debug__" : Str)) = false := by cases t <;> decide
  refine PE.imp (pe_callB call_isi hx (by rw [gx.mg]; exact O.blt _ (by decide +kernel)) (by decide +kernel) (pa_cons (hs := isStar_each hs) ha (pa_cons (pe_bltn (v := .ty (tyStr t)) ht hm (boot_ty t) rfl hn hd) pa_nil)) (he := isStar_each hs) (hpl := rfl)) ?_
  rintro σ H Q ⟨ρ, env, st, R, p⟩
  refine stepE_bind R p fun r st1 u ρ1 H1 _ l R1 q p1 => ?_
  show rIsi X.K [u, .ty (tyStr t)] H1 Q
  unfold isiK at p1
  split at p1
  · rename_i b e
    have fin := post_ok (RA := RepR G X) (u := .bl b) p1 R1.sat repR_bl
    rw [gx.K]
    cases r with
    | d x =>
      refine ⟨u, _, _, _, b, rfl, .ty _, tyX_of q, kit_ty (kit_all t b (clsOf x) ?_), fin⟩
      cases x <;> simp only [isTy, Option.some.injEq, reduceCtorEq] at e <;> subst e <;> simp [clsOf]
    | c i =>
      simp only [isTy] at e
      split at e
      · rename_i xs e1
        cases e
        obtain ⟨a, vs, rfl, _, h3, h4, _⟩ := cell_at R1.sat q e1
        exact ⟨.ref a, _, _, _, _, rfl, .ty _, .base (.lst h3), kit_ty (kit_all t _ "list" (by simp)), fin⟩
      · cases e
    | s _ => simp [isTy] at e
    | lam _ _ => simp [isTy] at e
    | x _ _ => simp [isTy] at e
  · exact p1.elim

/-! ### list(range(..)) -/
theorem rng_rep {ρ : Rho} {H : Hp} (lo : Int) : ∀ n : Nat, Paired (RepR G X ρ H) (rngList lo n) ((List.range n).map fun i => V.int (lo + (i : Nat))) := by
  intro n
  unfold rngList
  generalize List.range n = l
  induction l with
  | nil => exact .nil
  | cons a l ih => exact .cons repR_i ih
theorem pairs_of {α β : Type} {F : α → β → Prop} : ∀ {xs : List α} {ys : List β}, xs.length = ys.length → (∀ (i : Nat) (x : α) (y : β), xs[i]? = some x → ys[i]? = some y → F x y) → Paired F xs ys
  | [], [], _, _ => .nil
  | x :: xs, y :: ys, h, k => .cons (k 0 x y rfl rfl) (pairs_of (by simpa using h) fun i a b ha hb => k (i + 1) a b (by simpa using ha) (by simpa using hb))
theorem snd_lrng (O : GOk G) (gx : GX G X) (hc : X.calm = true) {mt : Bool} {args : List Expr} {E : IE → Env → Store → Res R} {ies : List IE} {p2 pos2 : Pos} (hl : Gl X "list") (hr : Gl X "range") (hp : plainArgs args = true) (h2l : args.length ≤ 2)
    (h : Paired (fun e ie => PE X e (tE G X (E ie) W)) args ies) :
    PE X (.Call (.Name "list" p1) [.Call (.Name "range" p2) args [] pos2] [] pos) (tE G X (fun env st => (evL E ies env st).bind fun rs st => rngK mt st rs) W) := by
  have ml : X.mg "list" = none := by rw [gx.mg]; exact O.blt _ (by decide +kernel)
  have mr : X.mg "range" = none := by rw [gx.mg]; exact O.blt _ (by decide +kernel)
  cases h with
  | nil =>
    refine ⟨fun pins s σ H Q I h => ?_⟩
    obtain ⟨ρ, env, st, R, p⟩ := h
    exact (show False from p).elim
  | cons h1 t =>
    rename_i a args ia ies
    have s1 : isStar a = false := by
      simp only [plainArgs, List.all_cons, Bool.and_eq_true, Bool.not_eq_true'] at hp
      exact hp.1
    cases t with
    | nil =>
      refine PE.imp (pe_listRg hc hl ml (prg_1 hr mr h1 (isStar_each s1))) ?_
      rintro σ H Q ⟨ρ, env, st, R, p⟩
      dsimp only [evL] at p
      rw [Res.bind_assoc] at p
      refine stepE_bind R p fun r st1 u ρ1 H1 _ l R1 q p1 => ?_
      cases r with
      | d x => cases x with
        | int j =>
          have e := repR_int q
          subst e
          dsimp only [Res.bind, rngK] at p1
          split at p1
          · rename_i hj
            obtain ⟨b1, b2⟩ := hj
            have b1 := of_decide_eq_true b1
            refine ⟨j, rfl, ⟨by decide, by decide, b1.1, b1.2, by simpa using b2⟩, fun q' hq' => ?_⟩
            have := (new_list (us := rgV 0 j) (p := q') p1 R1.sat (by
              have e0 : (j - 0).toNat = j.toNat := by simp
              unfold rgV
              rw [e0]
              exact rng_rep 0 j.toNat)).2 hq'
            exact this
          · exact p1.elim
        | _ => exact p1.elim
      | _ => exact p1.elim
    | cons h2 t2 =>
      rename_i b args ib ies
      have s2 : isStar b = false := by
        simp only [plainArgs, List.all_cons, Bool.and_eq_true, Bool.not_eq_true'] at hp
        exact hp.2.1
      cases t2 with
      | nil =>
        refine PE.imp (pe_listRg hc hl ml (prg_2 hr mr h1 h2 (isStar_each s1) (nb := isStar_each s2) (hp := plain_any (es := [b]) (by simp [plainArgs, s2])))) ?_
        rintro σ H Q ⟨ρ, env, st, R, p⟩
        dsimp only [evL] at p
        rw [Res.bind_assoc] at p
        refine stepE_bind R p fun r st1 u ρ1 H1 _ l R1 q p1 => ?_
        rw [Res.bind_assoc] at p1
        rw [Res.bind_assoc] at p1
        refine stepE_bind R1 p1 fun r2 st2 u2 ρ2 H2 _ l2 R2 q2 p2 => ?_
        cases r with
        | d x => cases x with
          | int i => cases r2 with
            | d y => cases y with
              | int j =>
                have e := repR_int q
                subst e
                have e := repR_int q2
                subst e
                dsimp only [Res.bind, rngK] at p2
                split at p2
                · rename_i hj
                  obtain ⟨b1, b2, b3⟩ := hj
                  have b1 := of_decide_eq_true b1
                  have b2 := of_decide_eq_true b2
                  refine ⟨i, j, rfl, rfl, ⟨b1.1, b1.2, b2.1, b2.2, b3⟩, fun q' hq' => ?_⟩
                  exact (new_list (us := rgV i j) (p := q') p2 R2.sat (rng_rep i (j - i).toNat)).2 hq'
                · exact p2.elim
              | _ => exact p2.elim
            | _ => exact p2.elim
          | _ => exact p2.elim
        | _ => exact p2.elim
      | cons h3 t3 =>
        simp only [List.length_cons] at h2l
        omega

/-! ### methods -/
def rM (G : GC) (X : Cx) (k : Store → R → R → Res R) : V → List V → Hp → VK → Prop := fun x vs H Q =>
  ∃ (W : WX) (σ : L2.St) (ρ : Rho) (st : Store) (o r : R) (v : V), vs = [v] ∧ Sat G ρ H st ∧ RepR G X ρ H o x ∧ RepR G X ρ H r v ∧ PostG G (RepR G X) W σ ρ H Q (k st o r)
theorem repC_below {ρ : Rho} {H : Hp} {i : Nat} {r : R} {v : V} (h : RepR G X ρ H r v) (b : isBelow i r = true) : RepC G.K ρ H r v := by
  cases r with
  | d x => exact h
  | c i => exact h
  | s ns => simp [isBelow] at b
  | lam _ _ => simp [isBelow] at b
  | x _ _ => simp [isBelow] at b
theorem mt_appendE : MtM X "list.append" (rM G X appendK) := by
  intro pins s σ H x vs v us Q I rx rv h
  obtain ⟨W, σ', ρ, st, o, r, u, rfl, S, q, q2, p⟩ := h
  unfold appendK at p
  split at p
  · rename_i i
    split at p
    · rename_i xs e
      split at p
      · rename_i hb
        obtain ⟨a, ws, rfl, ha, h3, h4, h5⟩ := cell_at S q e
        have hl := Paired.length h4
        refine mt_append pins s σ H _ _ v us Q I rx rv ⟨a, ws, u, rfl, rfl, h3, by omega, ?_⟩
        refine p .non ρ _ (Later.write (mem_rho.mpr ⟨i, ha⟩)) (S.write e ha (RepCs.append h4 (.cons (repC_below q2 hb.1) .nil)) fun r hr => ?_) repR_n
        rcases List.mem_append.mp hr with z | z
        · exact h5 r z
        · rw [List.mem_singleton.mp z]; exact hb.1
      · exact p.elim
    · exact p.elim
  · exact p.elim
theorem below_d : ∀ (i : Nat) (ys : List PyData) (r : R), r ∈ ys.map R.d → isBelow i r = true := fun i ys r hr => by
  obtain ⟨y, _, rfl⟩ := List.mem_map.mp hr
  rfl
theorem mt_extendE : MtM X "list.extend" (rM G X extendK) := by
  intro pins s σ H x vs v us Q I rx rv h
  obtain ⟨W, σ', ρ, st, o, r, u, rfl, S, q, q2, p⟩ := h
  unfold extendK at p
  split at p
  · rename_i i ys
    split at p
    · rename_i xs e
      split at p
      · rename_i hb
        obtain ⟨a, ws, rfl, ha, h3, h4, h5⟩ := cell_at S q e
        obtain ⟨b, zs, rfl, _, h6, h7⟩ := (show ∃ b zs, u = .ref b ∧ some b ∉ ρ ∧ H b = some (.lst zs) ∧ RepDs G.K ρ H ys zs by
          have q2 : RepD G.K ρ H (.list ys) u := q2
          simpa only [RepD] using q2)
        have hl := Paired.length h4
        have hl2 := h7.length
        refine mt_extend pins s σ H _ _ v us Q I rx rv ⟨a, b, ws, zs, rfl, rfl, h3, h6, by omega, ?_⟩
        refine p .non ρ _ (Later.write (mem_rho.mpr ⟨i, ha⟩)) (S.write e ha (RepCs.append h4 (RepCs.ofDs h7)) fun r hr => ?_) repR_n
        rcases List.mem_append.mp hr with z | z
        · exact h5 r z
        · exact below_d i ys r z
      · exact p.elim
    · exact p.elim
  · exact p.elim
theorem mt_popE : MtM X "list.pop" (rM G X popK) := by
  intro pins s σ H x vs v us Q I rx rv h
  obtain ⟨W, σ', ρ, st, o, r, u, rfl, S, q, q2, p⟩ := h
  unfold popK at p
  split at p
  · rename_i i k
    have ek := repR_int q2
    subst ek
    split at p
    · rename_i xs e
      split at p
      · rename_i hb
        split at p
        · rename_i y ey
          obtain ⟨a, ws, rfl, ha, h3, h4, h5⟩ := cell_at S q e
          have hl := Paired.length h4
          obtain ⟨w, ew, rw'⟩ := h4.get ey
          obtain ⟨b1, b2, b3⟩ := hb
          refine mt_popAt pins s σ H _ _ v us Q I rx rv ⟨a, ws, k, k.toNat, w, rfl, rfl, h3, by omega, by omega, ?_, ew, ?_⟩
          · unfold seqIndex?
            have : ¬ k < 0 := by omega
            have h2 : k < (ws.length : Int) := by omega
            simp [this, b1, h2]
          · have hw : some a ∈ ρ := mem_rho.mpr ⟨i, ha⟩
            refine p w ρ _ (Later.write hw) (S.write e ha (RepCs.eraseIdx _ h4) fun r hr => h5 r (List.mem_of_mem_eraseIdx hr)) ?_
            exact RepR.ofC (rw'.later (Later.write hw))
        · exact p.elim
      · exact p.elim
    · exact p.elim
  · exact p.elim
theorem allStrs_rep {H : Hp} : ∀ {ds : List PyData} {ns : List Str} {vs : List V}, allStrs ds = some ns → DpAll G.K H vs ds → vs = ns.map V.str
  | [], ns, vs, e, h => by simp [allStrs] at e; subst e; cases h; rfl
  | d :: ds, ns, vs, e, h => by
    cases d <;> simp only [allStrs, reduceCtorEq, Option.map_eq_some_iff] at e
    obtain ⟨ns', e1, rfl⟩ := e
    cases h with
    | cons a t =>
      cases a
      rw [allStrs_rep e1 t]
      rfl
theorem mt_joinE (gx : GX G X) : MtR X "str.join" (rM G X joinK) := by
  intro pins s σ H x vs v us Q I rx rv h
  obtain ⟨W, σ', ρ, st, o, r, u, rfl, S, q, q2, p⟩ := h
  unfold joinK at p
  split at p
  · rename_i x
    have q : RepD G.K ρ H (.str x) _ := q
    simp only [RepD] at q
    subst q
    split at p
    · rename_i ys e
      split at p
      · rename_i hz
        have fin := post_ok (RA := RepR G X) p S repR_s
        unfold strsOf at e
        split at e
        · rename_i ds e1
          have dp := asD_dp S q2 e1
          cases dp with
          | lst h1 h2 =>
            have := allStrs_rep e h2
            subst this
            exact mt_join pins s σ H _ _ v us Q I rx rv ⟨x, _, ys, rfl, rfl, .inl (by rw [gx.K]; exact h1), hz, fin⟩
        · rename_i ds e1
          have dp := asD_dp S q2 e1
          cases dp with
          | tup h1 h2 =>
            have := allStrs_rep e h2
            subst this
            exact mt_join pins s σ H _ _ v us Q I rx rv ⟨x, _, ys, rfl, rfl, .inr (by rw [gx.K]; exact h1), hz, fin⟩
        · cases e
      · exact p.elim
    · exact p.elim
  · exact p.elim
theorem base_of {o : Expr} {m : Str} {env : PySem.Env} (h : nonSuper o = true) : attributeBase o m env (eval o env) = eval o env := by
  cases o <;> first | rfl | (simp [nonSuper] at h)
theorem recv_list {ρ : Rho} {H : Hp} {st : Store} {m : Me} {r : R} {v : V} (hm : m ≠ .join) (S : Sat G ρ H st) (q : RepR G X ρ H r v) (h : recvOk m r st = true) : tyV G.K "list" v H := by
  have h2 : (match r with | .c i => (match st[i]? with | some (.lst _) => true | _ => false) | _ => false) = true := by
    cases m <;> first | exact (hm rfl).elim | (cases r <;> first | exact h | (simp [recvOk] at h))
  cases r with
  | c i =>
    dsimp only at h2
    split at h2
    · rename_i xs e
      obtain ⟨a, vs, rfl, _, h3, _⟩ := cell_at S q e
      exact .inl ⟨rfl, vs, SqL.of h3⟩
    · cases h2
  | d _ => cases h2
  | s _ => cases h2
  | lam _ _ => cases h2
  | x _ _ => cases h2
theorem recv_str {ρ : Rho} {H : Hp} {st : Store} {r : R} {v : V} (q : RepR G X ρ H r v) (h : recvOk .join r st = true) : tyV G.K "str" v H := by
  cases r with
  | d x => cases x with
    | str x =>
      have q : RepD G.K ρ H (.str x) v := q
      simp only [RepD] at q
      subst q
      rfl
    | _ => cases h
  | _ => cases h
/-- o.m(e) by its evaluation -/
theorem snd_me (gx : GX G X) {o e : Expr} {eo ee : Env → Store → Res R} {m : Me} {name : Str} {apos cpos : Pos} {T id : String} {k : Store → R → R → Res R} (pa : PlainAttrs T) (slot : Slot T name id) (hty : typeOf (.builtin id) = pure (.type "method_descriptor")) (hm : MtR X id (rM G X k))
    (ht : ∀ {ρ : Rho} {H : Hp} {st : Store} {r : R} {v : V}, Sat G ρ H st → RepR G X ρ H r v → recvOk m r st = true → tyV G.K T v H)
    (ho : PE X o (tE G X eo W)) (he : PE X e (tE G X ee W)) (hn : nonSuper o = true) (hs : isStar e = false) (hl : (apos.endLine == cpos.line) = true) :
    PE X (.Call (.Attribute o name apos) [e] [] cpos) (tE G X (fun env st => (eo env st).bind fun x st => if recvOk m x st then (ee env st).bind fun r st => k st x r else .bad) W) := by
  have se := isStar_each (es := []) (env := X.env) hs
  refine PE.imp (pe_bm pa slot hty hm ho (pa_cons he pa_nil se) (base_of hn) (by rw [se]; rfl) hl se rfl) ?_
  rintro σ H Q ⟨ρ, env, st, R, p⟩
  refine stepE_bind R p fun x st1 u ρ1 H1 _ l R1 q p1 => ?_
  split at p1
  · rename_i hr
    refine ⟨by rw [gx.K]; exact ht R1.sat q hr, ?_⟩
    refine stepE_bind R1 p1 fun r st2 u2 ρ2 H2 _ l2 R2 q2 p2 => ?_
    exact ⟨W, σ, ρ2, st2, x, r, u2, rfl, R2.sat, q.later l2, q2, p2⟩
  · exact p1.elim
theorem snd_me_all (gx : GX G X) {o e : Expr} {eo ee : Env → Store → Res R} {m : Me} {apos cpos : Pos} (ho : PE X o (tE G X eo W)) (he : PE X e (tE G X ee W)) (hn : nonSuper o = true) (hs : isStar e = false) (hl : (apos.endLine == cpos.line) = true) :
    PE X (.Call (.Attribute o (meName m) apos) [e] [] cpos) (tE G X (fun env st => (eo env st).bind fun x st => if recvOk m x st then (ee env st).bind fun r st => meR m x [r] st else .bad) W) := by
  cases m with
  | append => exact snd_me gx (m := .append) PySem.F.plainAttrs_list PySem.F.slot_list_append PySem.F.type_list_append mt_appendE (recv_list (by decide)) ho he hn hs hl
  | extend => exact snd_me gx (m := .extend) PySem.F.plainAttrs_list PySem.F.slot_list_extend PySem.F.type_list_extend mt_extendE (recv_list (by decide)) ho he hn hs hl
  | popAt => exact snd_me gx (m := .popAt) PySem.F.plainAttrs_list PySem.F.slot_list_pop PySem.F.type_list_pop mt_popE (recv_list (by decide)) ho he hn hs hl
  | join => exact snd_me gx (m := .join) PySem.F.plainAttrs_str PySem.F.slot_str_join PySem.F.type_str_join (mt_joinE gx) (fun _ q h => recv_str q h) ho he hn hs hl

/-! ### built-in functions as expressions -/
theorem boot_bi : ∀ b : Bi, bootBuiltins (biName b) = some (match b with | .int => .type "int" | .tuple => .type "tuple" | .list => .type "list" | .lrng => .type "list" | .len => .builtin "len" | .abs => .builtin "abs" | .max2 => .builtin "max" | .min2 => .builtin "min" | .isi _ => .builtin "isinstance" | .sum => .builtin "sum" | .repr => .builtin "repr") := by
  intro b; cases b <;> first | decide +kernel | (rename_i t; cases t <;> decide +kernel)
theorem snd_bi (O : GOk G) {N : List Str} {sc : Scope} {d : Nat} (good : Good G N sc d X) {b : Bi} {mt : Bool} {a : Expr} {args : List Expr} {E : Env → Store → Res (List R)} (hb : (match b with | .isi _ => false | .lrng => false | _ => true) = true) (hg : Gl X (biName b)) (hp : plainArgs (a :: args) = true)
    (h : PA X (a :: args) (tA G X E W)) : PE X (.Call (.Name (biName b) p1) (a :: args) [] pos) (tE G X (fun env st => (E env st).bind fun rs st => biR b mt rs st) W) := by
  have gx := good.gx
  have hs : isStar a = false := by
    simp only [plainArgs, List.all_cons, Bool.and_eq_true, Bool.not_eq_true'] at hp
    exact hp.1
  have hp2 : plainArgs args = true := by
    simp only [plainArgs, List.all_cons, Bool.and_eq_true, Bool.not_eq_true'] at hp
    exact List.all_eq_true.mpr fun e he => by simpa using List.all_eq_true.mp hp.2 e he
  have hm : X.mg (biName b) = none := by rw [gx.mg]; cases b <;> exact O.blt _ (by first | decide +kernel | (rename_i t; cases t <;> decide +kernel))
  have hn : biName b ≠ "__name__" := by cases b <;> first | decide | (rename_i t; cases t <;> decide)
  have hd : (biName b == ("__debug__" : Str)) = false := by cases b <;> first | decide | (rename_i t; cases t <;> decide)
  have hu : X.A.units + 128 < cLine := by have := good.room.un; omega
  have hv := boot_bi b
  have fin : ∀ {k : Store → List R → Res R}, (∀ st rs, biR b mt rs st = k st rs) → ∀ (σ : L2.St) (H : Hp) (Q : VK), tE G X (fun env st => (E env st).bind fun rs st => biR b mt rs st) W σ H Q → tCB (rK G X k) (tA G X E W) σ H Q := fun {k} e σ H Q => by
    rintro ⟨ρ, env, st, R, p⟩
    refine stepA_bind R p fun rs st1 us ρ1 H1 l R1 q p1 => ?_
    rw [e] at p1
    exact ⟨W, σ, ρ1, st1, rs, R1.sat, q, p1⟩
  cases b with
  | len => exact PE.imp (pe_callB (cr_len gx) hg hm hv h hn hd (isStar_each hs) (plain_any hp2)) (fin fun _ _ => rfl)
  | int => exact PE.imp (pe_callTy cr_int hg hm hv h hn hd (isStar_each hs) (plain_any hp2)) (fin fun _ _ => rfl)
  | abs => exact PE.imp (pe_callB cr_abs hg hm hv h hn hd (isStar_each hs) (plain_any hp2)) (fin fun _ _ => rfl)
  | max2 => exact PE.imp (pe_callB (cr_max2 good.calm) hg hm hv h hn hd (isStar_each hs) (plain_any hp2)) (fin fun _ _ => rfl)
  | min2 => exact PE.imp (pe_callB (cr_min2 good.calm) hg hm hv h hn hd (isStar_each hs) (plain_any hp2)) (fin fun _ _ => rfl)
  | isi t => cases hb
  | tuple => exact PE.imp (pe_callTy (cr_tuple gx) hg hm hv h hn hd (isStar_each hs) (plain_any hp2)) (fin fun _ _ => rfl)
  | list => exact PE.imp (pe_callTy (cr_list gx (mt := mt)) hg hm hv h hn hd (isStar_each hs) (plain_any hp2)) (fin fun _ _ => rfl)
  | lrng => cases hb
  | sum => exact PE.imp (pe_callB (cr_sumE gx good.calm) hg hm hv h hn hd (isStar_each hs) (plain_any hp2)) (fin fun _ _ => rfl)
  | repr => exact PE.imp (pe_callB (cr_repr gx good.guards hu) hg hm hv h hn hd (isStar_each hs) (plain_any hp2)) (fin fun _ _ => rfl)
end
end Ev
set_option maxHeartbeats 2000000
/-! What a for walks: a list or a tuple, enumerate of either. -/
namespace Ev
open PySem PySem.Spec PyProof.Rows L2
theorem meets_enumerate_new1 {v : Value} {o : Obj} {H : Heap → Prop} (B : Begins v o H) :
    Meets (Builtin.«enumerate.__new__» ⟨[.type "enumerate", v], []⟩) (fun _ R s => H s.heap ∧
      R (.ok (.ret (.ref (s.heap.push o).objs.size))) { s with heap := (s.heap.push o).push { cls := .type "enumerate", data := .fields #[.none, .bool false, .ref s.heap.objs.size, rawInt 0, .none, .none] } }) :=
  .of_wp fun prog w A R s h => by
    obtain ⟨hp, g, d, tk, os⟩ := s; obtain ⟨h1, h⟩ := h
    have hsub := sub_enumerate
    have q1 : ∀ {A' : Around} {E : Value → Shared → Prop} {Q : Value → Shared → Prop}, Q (.ref hp.objs.size) ⟨hp.push o, g, d, tk, os⟩ → wpAny (model prog w) A' (pyIter v) Q E ⟨hp, g, d, tk, os⟩ :=
      fun q => B.iter prog w _ _ ⟨hp, g, d, tk, os⟩ _ h1 q
    wp_walk using q1
    refine wpAny_stack_any fun st => wpAny_pure ?_
    split
    · rename_i c _ _ _ _ _
      cases (c == Value.type "enumerate")
      · wp_walk using q1
        exact ⟨_, rfl, h⟩
      · wp_walk using q1
        exact ⟨_, rfl, h⟩
    · wp_walk using q1
      exact ⟨_, rfl, h⟩
section
variable {prog : Program} {w : World} {A : Around} {E : Value → Shared → Prop} {s : Shared}
theorem enum_begins1 {v : Value} {o : Obj} {H : Heap → Prop} {Q : Value → Shared → Prop} (B : Begins v o H) (h1 : H s.heap)
    (h : ∀ h', IsEnum h' (s.heap.objs.size + 1) s.heap.objs.size 0 .none → h'.get? s.heap.objs.size = some o → h'.objs.size = s.heap.objs.size + 2 →
      (∀ b o, s.heap.get? b = some o → h'.get? b = some o) → Q (.ref (s.heap.objs.size + 1)) { s with heap := h' }) :
    wpAny (model prog w) A (call (.type "enumerate") [v]) Q E s := by
  refine callType_new F.called_enumerate (by decide) (F.typeCall_enumerate_1 _) (F.newCall_enumerate_1 _) (fun obj => F.args_object_init_2 obj _) F.entry_enumerate_new
    (meets_enumerate_new1 B) ⟨h1, ?_⟩
  have hz : (s.heap.push o).objs.size = s.heap.objs.size + 1 := Heap.size_push ..
  show _ ∧ _
  rw [hz]
  have he : IsEnum ((s.heap.push o).push { cls := .type "enumerate", data := .fields #[.none, .bool false, .ref s.heap.objs.size, rawInt 0, .none, .none] }) (s.heap.objs.size + 1) s.heap.objs.size 0 .none := by
    have := Heap.get?_push_size (s.heap.push o) (o := { cls := .type "enumerate", data := .fields #[.none, .bool false, .ref s.heap.objs.size, rawInt 0, .none, .none] }) rfl
    rw [hz] at this; exact this
  refine ⟨⟨_, he, rfl⟩, h _ he (Heap.get?_push_of_some _ (Heap.get?_push_size _ B.free)) (by rw [Heap.size_push, hz]) fun b o x => Heap.get?_push_of_some _ (Heap.get?_push_of_some _ x)⟩
end
/-- the tuple at a, each item in a new pair -/
def IteT (K : PySem.W.Frag) (a : Addr) : It :=
  ⟨fun i H => ∃ (xs : List V) (x : V), SqT K H a xs ∧ xs[i]? = some x, fun i H v H' => ∃ T x, v = .ref T ∧ H T = none ∧ H' = upd H T (.tup [.int (i : Nat), x]) ∧ ∀ xs, SqT K H a xs → xs[i]? = some x, fun i H => ∃ xs : List V, SqT K H a xs ∧ xs.length ≤ i⟩
theorem turn_enumT {P : Program} {w : World} {K : PySem.W.Frag} {elts : List Expr} {kk : Nat} {tpos : Pos} (a e it : Addr) (hai : a ≠ it) (hae : a ≠ e) :
    Turn P w K (.Tuple elts kk tpos) (IteT K a) [e, it] e (fun i h => (∃ old, IsEnum h e it ((i : Nat) : Int) old) ∧ h.IsTupleIter it a i ∧ e ≠ it) where
  mem := by simp
  obj := fun i h st b hb => by
    obtain ⟨⟨old, he⟩, ⟨o, ho, hc, hd⟩, _⟩ := st
    have e' : b = e ∨ b = it := by simpa using hb
    rcases e' with z | z
    · rw [z]; exact ⟨_, he, fun v q => nomatch q⟩
    · rw [z]; exact ⟨o, ho, fun v q => by rw [hd] at q; cases q⟩
  keep := fun i h h' st k => let ⟨⟨old, he⟩, hi, hne⟩ := st; ⟨⟨old, k e (by simp) _ he⟩, hi.at fun o q => k it (by simp) o q, hne⟩
  item := by
    intro X hP hw hK hc i pins s σ H E I hf st hg
    subst hP hw hK
    obtain ⟨⟨old, he⟩, hit, hne⟩ := st
    obtain ⟨xs, x, hq, hx⟩ := hg
    obtain ⟨its, rv, p, hz⟩ := I.tuple hq
    obtain ⟨u, hu, ru⟩ := rv.get hx
    have hel : e < s.heap.objs.size := Heap.lt_size he
    have hil : it < s.heap.objs.size := by obtain ⟨_, q, _⟩ := hit; exact Heap.lt_size q
    have hlt : i < its.toArray.size := by
      have := (List.getElem?_eq_some_iff.mp hu).1
      simpa using this
    have hA : X.A.in1.handled = none := I.ok.hd hc
    refine wpAny_pyNext_enum_itemD (Draws.tuple hA it a hai its.toArray) he ⟨hit, show s.heap.IsTuple a its.toArray from p⟩ hlt hne (by simp only [List.mem_cons, List.not_mem_nil, or_false, not_or]; exact ⟨hne, Ne.symm hae⟩) fun y h' tk hy ho hst' hT hsz hk => ?_
    have ey : y = u := by
      have h1 : its.toArray[i]? = some u := by simpa using hu
      rw [h1] at hy
      exact (Option.some.inj hy).symm
    subst ey
    refine ⟨_, rfl, wpAny_letOwnedTupleGo_enum (s := { s with heap := h', toks := tk + 1 }) ho fun h'' he' sb => ?_⟩
    have hT2 : h''.get? s.heap.objs.size = some { cls := .type "tuple", data := .seq #[.int i tk, y] } := (sb.2 _ (Nat.ne_of_gt hel)).trans hT
    have new : ObjOk X.prog X.w (upd H s.heap.objs.size (.tup [.int (i : Nat), x])) h'' s.heap.objs.size (.tup [.int (i : Nat), x]) :=
      ⟨by show 2 ≤ sizeLine; decide, [.int i tk, y], .cons ⟨_, rfl⟩ (.cons ru .nil), ⟨_, hT2, rfl, _, rfl⟩⟩
    have I1 : Inv X pins σ (upd H s.heap.objs.size (.tup [.int (i : Nat), x])) { s with heap := h'', toks := tk + 1 } :=
      I.turnedNew (ch := [e, it]) (fun b ob hb q => (sb.2 b (fun z => hb (by simp [z]))).trans (hk b ob (fun z => hb (by simp [z])) (fun z => hb (by simp [z])) q)) hf (Nat.le_refl _) new
    refine ⟨.ref s.heap.objs.size, _, I1, rfl, ⟨_, x, rfl, I.hok.fresh (Nat.le_refl _), rfl, fun ys hy => by rw [I.tuple_inj hy hq]; exact hx⟩, ⟨⟨y, ?_⟩, hst'.1.at fun o q => (sb.2 it (Ne.symm hne)).trans q, hne⟩, fun b hb => ?_⟩
    · have e1 : ((i + 1 : Nat) : Int) = (i : Int) + 1 := by omega
      rw [e1]; exact he'
    · have hb' : b < s.heap.objs.size := by
        have e' : b = e ∨ b = it := by simpa using hb
        rcases e' with z | z
        · rw [z]; exact hel
        · rw [z]; exact hil
      rw [upd_ne (Nat.ne_of_lt hb')]
      exact (hf b hb).1
  done := by
    intro X hP hw hK hc i pins s σ H E I hf st hg
    subst hP hw hK
    obtain ⟨⟨old, he⟩, hit, hne⟩ := st
    obtain ⟨xs, hq, hx⟩ := hg
    obtain ⟨its, rv, p, hz⟩ := I.tuple hq
    obtain ⟨f0, f1, f2, f3, f4, f5⟩ := hf it (by simp)
    have hl := rv.length
    have hA : X.A.in1.handled = none := I.ok.hd hc
    have hT : s.TypeIs (.ref e) "enumerate" := ⟨_, he, rfl⟩
    unfold pyNext
    refine wpAny_bind (wpAny_attempt (wpAny_callSpecial?_slot (name := Str.ofString "__next__") hT F.slot_enumerate_next
      (wpAny_call_entry F.slot_enumerate_next hT F.entry_enumerate_next ?_ (F.args_enumerate_next_1 _))))
    show wpAny _ _ (field (.ref e) 2 >>= _) _ _ _
    refine wpAny_bind (wpAny_field he rfl (x := .ref it) rfl ?_)
    refine wpAny_bind (wpAny_nextOf_tuple_end hA hit (show s.heap.IsTuple a its.toArray from p) (by simp; omega) fun h' x he' hx' => ?_)
    obtain ⟨o, ho, hc⟩ := hx'
    refine wpAny_bind (wpAny_isInstance (T := "StopIteration") (b := true) ⟨o, ho, hc⟩ isSubtype_stop ?_)
    exact wpAny_pure ⟨rfl, I.turned (t' := s.toks) (fun b o hb q => he' b o hb q) f0 f1 f3 f4 f5⟩
  self := fun A i s Q E st h => let ⟨⟨_, he⟩, _⟩ := st; wpAny_pyIter_enum he h
def iEnumA (K : PySem.W.Frag) (ta : TA) : TI := fun σ H R => ta σ H fun vs H1 => ∃ a xs, vs = [.ref a] ∧ ((SqL K H1 a xs ∧ R (Ite K a) H1) ∨ (SqT K H1 a xs ∧ R (IteT K a) H1))
theorem pi_enumA {X : Cx} {e : Expr} {ta : TA} {p pos tpos : Pos} {elts : List Expr} {kk : Nat} (hg : Gl X "enumerate") (hm : X.mg "enumerate" = none) (ha : PA X [e] ta) (hs : starEach [e] X.env = [(false, eval e X.env)] := by rfl) :
    PI X (.Tuple elts kk tpos) (.Call (.Name "enumerate" p) [e] [] pos) (iEnumA X.K ta) := by
  refine ⟨fun pins s σ H R I h => ?_⟩
  refine Call_ (ld_blt I hg hm boot_enumerate (PyProof.Rows.callWith_type1 (thn (ha.run pos pins s σ H _ I h) fun us s1 ⟨vs, H1, I1, r1, q1⟩ => ?_) hs rfl))
  obtain ⟨a, xs, ex, hq⟩ := q1
  subst ex
  cases r1 with
  | cons r rr =>
    cases rr
    cases r
    have fp : ∀ b ∈ [s1.heap.objs.size + 1, s1.heap.objs.size], FpOk X pins H1 b := fun b hb => by
      have e' : b = s1.heap.objs.size + 1 ∨ b = s1.heap.objs.size := by simpa using hb
      have hle : s1.heap.objs.size ≤ b := by
        rcases e' with z | z
        · rw [z]; exact Nat.le_add_right _ _
        · rw [z]; exact Nat.le_refl _
      exact I1.fpOk hle (I1.hok.fresh hle)
    rcases hq with ⟨hq, q⟩ | ⟨hq, q⟩
    · obtain ⟨its, rv, p', hz⟩ := I1.list hq
      refine call_enumerate_list p'.isList fun h' he hit hsz hk => wpAny_pyIter_enum he ?_
      have I2 : Inv X pins σ H1 { s1 with heap := h' } := I1.kept (t' := s1.toks) hk
      exact ⟨s1.heap.objs.size + 1, [s1.heap.objs.size + 1, s1.heap.objs.size], _, _, H1, rfl, I2, turn_enum a (s1.heap.objs.size + 1) s1.heap.objs.size, ⟨⟨.none, he⟩, hit, Nat.succ_ne_self _⟩, fp, q⟩
    · obtain ⟨its, rv, p', hz⟩ := I1.tuple hq
      obtain ⟨o1, ho1, _⟩ := id p'
      have hlt := Heap.lt_size ho1
      refine enum_begins1 (begins_tuple a its.toArray) (show s1.heap.IsTuple a its.toArray from p') fun h' he hit hsz hk => wpAny_pyIter_enum he ?_
      have I2 : Inv X pins σ H1 { s1 with heap := h' } := I1.kept (t' := s1.toks) hk
      refine ⟨s1.heap.objs.size + 1, [s1.heap.objs.size + 1, s1.heap.objs.size], _, _, H1, rfl, I2, turn_enumT a (s1.heap.objs.size + 1) s1.heap.objs.size (Nat.ne_of_lt hlt) (Nat.ne_of_lt (Nat.lt_succ_of_lt hlt)), ⟨⟨.none, he⟩, ⟨_, hit, rfl, rfl⟩, Nat.succ_ne_self _⟩, fp, q⟩
/-- a list or a tuple -/
def iSeq (K : PySem.W.Frag) (tl : TE) : TI := fun σ H R => tl σ H fun x H1 => ∃ a, x = .ref a ∧ (((∃ xs, SqL K H1 a xs) ∧ R (Itl K a) H1) ∨ ((∃ xs, SqT K H1 a xs) ∧ R (Itt K a) H1))
theorem pi_seq {X : Cx} {tg l : Expr} {tl : TE} (hl : PE X l tl) : PI X tg l (iSeq X.K tl) := by
  refine ⟨fun pins s σ H R I h => ?_⟩
  refine thn (hl.run pins s σ H _ I h) fun v s1 ⟨x, H1, I1, r1, q1⟩ => ?_
  obtain ⟨a, e, q1⟩ := q1
  subst e
  cases r1
  have fp : ∀ b ∈ [s1.heap.objs.size], FpOk X pins H1 b := fun b hb => by
    have e : b = s1.heap.objs.size := by simpa using hb
    subst e
    exact I1.fpOk (Nat.le_refl _) (I1.hok.fresh (Nat.le_refl _))
  rcases q1 with ⟨⟨xs, hq⟩, q⟩ | ⟨⟨xs, hq⟩, q⟩
  · obtain ⟨its, rv, p, hz⟩ := I1.list hq
    refine wpAny_pyIter_list p.isList ?_
    exact ⟨s1.heap.objs.size, [s1.heap.objs.size], _, _, H1, rfl, I1.kept (t' := s1.toks) fun b o e => Heap.get?_push_of_some _ e, turn_list a _, ⟨_, Heap.get?_push_size _ rfl, rfl, rfl⟩, fp, q⟩
  · obtain ⟨its, rv, p, hz⟩ := I1.tuple hq
    refine wpAny_pyIter_tuple (show s1.heap.IsTuple a its.toArray from p) ?_
    exact ⟨s1.heap.objs.size, [s1.heap.objs.size], _, _, H1, rfl, I1.kept (t' := s1.toks) fun b o e => Heap.get?_push_of_some _ e, turn_tuple a _, ⟨_, Heap.get?_push_size _ rfl, rfl, rfl⟩, fp, q⟩
end Ev
set_option maxHeartbeats 2000000
/-! Soundness, part 7: what a for or a comprehension walks. -/
namespace Ev
open PySem PySem.Spec PyProof.Rows L2
mutual
theorem beqD_eq : ∀ (x y : PyData), beqD x y = true → x = y
  | .none, y, h => by cases y <;> simp [beqD] at h; rfl
  | .bool _, y, h => by cases y <;> simp [beqD] at h; subst h; rfl
  | .int _, y, h => by cases y <;> simp [beqD] at h; subst h; rfl
  | .str _, y, h => by cases y <;> simp [beqD] at h; subst h; rfl
  | .list xs, y, h => by
    cases y <;> simp only [beqD, Bool.false_eq_true] at h
    rw [beqDs_eq _ _ h]
  | .tuple xs, y, h => by
    cases y <;> simp only [beqD, Bool.false_eq_true] at h
    rw [beqDs_eq _ _ h]
  | .dict _, y, h => by cases y <;> simp [beqD] at h
theorem beqDs_eq : ∀ (xs ys : List PyData), beqDs xs ys = true → xs = ys
  | [], ys, h => by cases ys <;> simp [beqDs] at h; rfl
  | x :: xs, ys, h => by
    cases ys with
    | nil => simp [beqDs] at h
    | cons y ys =>
      simp only [beqDs, Bool.and_eq_true] at h
      rw [beqD_eq _ _ h.1, beqDs_eq _ _ h.2]
end
theorem beqR_eq {x y : R} (h : beqR x y = true) : x = y := by
  cases x <;> cases y <;> simp only [beqR, Bool.false_eq_true, decide_eq_true_eq] at h
  · rw [beqD_eq _ _ h]
  · rw [h]
theorem beqRs_eq : ∀ {xs ys : List R}, beqRs xs ys = true → xs = ys
  | [], ys, h => by cases ys <;> simp [beqRs] at h; rfl
  | x :: xs, ys, h => by
    cases ys with
    | nil => simp [beqRs] at h
    | cons y ys =>
      simp only [beqRs, Bool.and_eq_true] at h
      rw [beqR_eq h.1, beqRs_eq h.2]
theorem same_items {old st : Store} {r : R} {xs : List R} (h : sameAt old st r = true) (e : items r old = some xs) : items r st = some xs := by
  cases r with
  | c i =>
    simp only [sameAt] at h
    simp only [items] at e ⊢
    split at h
    · rename_i ys zs e1 e2
      rw [e1] at e
      rw [e2]
      simp only [Option.some.injEq] at e
      subst e
      rw [beqRs_eq h]
    · cases h
  | d x => cases x <;> exact e
  | _ => exact e
section
variable {G : GC} {X : Cx} {W : WX} {pos p1 : Pos}
structure ItOk (G : GC) (J : It) (xs : List R) (rs : List R) (st0 : Store) (S : Rho → Hp → Store → Prop) : Prop where
  go : ∀ (i : Nat) ρ H st, Sat G ρ H st → S ρ H st → i < xs.length → J.go i H
  stop : ∀ ρ H st, Sat G ρ H st → S ρ H st → J.stop xs.length H
  yld : ∀ (i : Nat) ρ H st x H' r, Sat G ρ H st → S ρ H st → J.yld i H x H' → xs[i]? = some r → Later ρ H ρ H' ∧ Sat G ρ H' st ∧ RepC G.K ρ H' r x
  keep : ∀ ρ H st ρ' H' st', S ρ H st → Later ρ H ρ' H' → same rs st0 st' = true → S ρ' H' st'
/-- what is wanted of the walk -/
def PostW (G : GC) (X : Cx) (W : WX) (σ : L2.St) (ρ : Rho) (H : Hp) (k : Itk) (Q : It → Hp → Prop) (m : Res (List R)) : Prop := match m with
  | .ok rs st => match walks k rs st with
    | none => False
    | some xs => ∀ J S ρ' H', Later ρ H ρ' H' → Sat G ρ' H' st → ItOk G J xs rs st S → S ρ' H' st → Q J H'
  | .exc c w st => ∀ dd w' ρ' H', Later ρ H ρ' H' → Sat G ρ' H' st → H' dd = some (.xd [("what", w')]) → some dd ∉ ρ' → RepD G.K ρ' H' w w' → W (.ref (G.cls c)) (some dd) σ H'
  | .bad => False
def tW (G : GC) (X : Cx) (ev : Env → Store → Res (List R)) (k : Itk) (W : WX) : TI := fun σ H Q => ∃ ρ env st, Rel G X ρ env st σ H ∧ PostW G X W σ ρ H k Q (ev env st)
theorem PI.imp {X : Cx} {tg it : Expr} {t t' : TI} (h : PI X tg it t) (i : ∀ σ H Q, t' σ H Q → t σ H Q) : PI X tg it t' := ⟨fun pins s σ H Q I q => h.run pins s σ H Q I (i σ H Q q)⟩
/-- the arguments first -/
theorem stepW {σ : L2.St} {H : Hp} {Q : It → Hp → Prop} {ev : Env → Store → Res (List R)} {k : Itk} {T : List V → Hp → Prop} (h : tW G X ev k W σ H Q)
    (hk : ∀ rs xs st us ρ env H1, (∃ st0, ev env st0 = .ok rs st) → Rel G X ρ env st σ H1 → Paired (RepR G X ρ H1) rs us → walks k rs st = some xs →
      (∀ J S, ItOk G J xs rs st S → S ρ H1 st → Q J H1) → T us H1) : tA G X ev W σ H T := by
  obtain ⟨ρ, env, st, R, p⟩ := h
  refine ⟨ρ, env, st, R, ?_⟩
  cases e : ev env st with
  | ok rs st1 =>
    rw [e] at p
    intro us ρ1 H1 l s q
    simp only [PostW] at p
    cases e2 : walks k rs st1 with
    | none => rw [e2] at p; exact p.elim
    | some xs =>
      rw [e2] at p
      exact hk rs xs st1 us ρ1 env H1 ⟨st, e⟩ (R.later l s) q e2 fun J S ok hs => p J S ρ1 H1 l s ok hs
  | exc c w st1 =>
    rw [e] at p
    exact p
  | bad =>
    rw [e] at p
    exact p
/-- one sequence that stands -/
def SrcAt (G : GC) (X : Cx) (r : R) (a : Addr) (xs : List R) : Rho → Hp → Store → Prop := fun ρ H st => RepR G X ρ H r (.ref a) ∧ items r st = some xs
theorem SrcAt.keep {r : R} {a : Addr} {xs : List R} {rs : List R} {st0 : Store} (hr : r ∈ rs) (h0 : items r st0 = some xs) : ∀ ρ H st ρ' H' st', SrcAt G X r a xs ρ H st → Later ρ H ρ' H' → same rs st0 st' = true → SrcAt G X r a xs ρ' H' st' :=
  fun ρ H st ρ' H' st' h l s => ⟨h.1.later l, same_items (List.all_eq_true.mp s r hr) h0⟩
theorem notTup {r : R} (h : isTupR r = false) : ∀ ys, r ≠ .d (.tuple ys) := fun ys e => by subst e; cases h
theorem src_list (gx : GX G X) {r : R} {a : Addr} {xs : List R} {ρ : Rho} {H : Hp} {st : Store} (ht : isTupR r = false) (S : Sat G ρ H st) (h : SrcAt G X r a xs ρ H st) : ∃ vs, SqL X.K H a vs ∧ RepCs G.K ρ H xs vs := by
  obtain ⟨b, vs, e, h1, h2⟩ := items_atL gx S h.1 h.2 (notTup ht)
  cases e
  exact ⟨vs, h1, h2⟩
theorem src_tup (gx : GX G X) {r : R} {a : Addr} {xs : List R} {ρ : Rho} {H : Hp} {st : Store} (ht : isTupR r = true) (h : SrcAt G X r a xs ρ H st) : ∃ vs, SqT X.K H a vs ∧ RepCs G.K ρ H xs vs := by
  cases r with
  | d x => cases x with
    | tuple ys =>
      obtain ⟨b, vs, e, h1, h2⟩ := items_atT h.1
      cases e
      have e2 := h.2
      simp only [items, Option.some.injEq] at e2
      subst e2
      exact ⟨vs, by rw [gx.K]; exact h1.sq, RepCs.ofDs h2⟩
    | _ => cases ht
  | _ => cases ht
theorem itl_ok (gx : GX G X) {r : R} {a : Addr} {xs : List R} {rs : List R} {st0 : Store} (ht : isTupR r = false) (hr : r ∈ rs) (h0 : items r st0 = some xs) : ItOk G (Itl X.K a) xs rs st0 (SrcAt G X r a xs) where
  go := fun i ρ H st S h hi => by
    obtain ⟨vs, h1, h2⟩ := src_list gx ht S h
    have hl := Paired.length h2
    exact ⟨vs, vs[i]'(by omega), h1, by simp⟩
  stop := fun ρ H st S h => by
    obtain ⟨vs, h1, h2⟩ := src_list gx ht S h
    exact ⟨vs, h1, by rw [Paired.length h2]; exact Nat.le_refl _⟩
  yld := fun i ρ H st x H' r' S h y e => by
    obtain ⟨vs, h1, h2⟩ := src_list gx ht S h
    obtain ⟨eH, y⟩ := y
    subst eH
    obtain ⟨v, e1, q⟩ := h2.get e
    have := y vs h1
    rw [e1] at this
    cases this
    exact ⟨Later.refl, S, q⟩
  keep := SrcAt.keep hr h0
theorem itt_ok (gx : GX G X) {r : R} {a : Addr} {xs : List R} {rs : List R} {st0 : Store} (ht : isTupR r = true) (hr : r ∈ rs) (h0 : items r st0 = some xs) : ItOk G (Itt X.K a) xs rs st0 (SrcAt G X r a xs) where
  go := fun i ρ H st S h hi => by
    obtain ⟨vs, h1, h2⟩ := src_tup gx ht h
    have hl := Paired.length h2
    exact ⟨vs, vs[i]'(by omega), h1, by simp⟩
  stop := fun ρ H st S h => by
    obtain ⟨vs, h1, h2⟩ := src_tup gx ht h
    exact ⟨vs, h1, by rw [Paired.length h2]; exact Nat.le_refl _⟩
  yld := fun i ρ H st x H' r' S h y e => by
    obtain ⟨vs, h1, h2⟩ := src_tup gx ht h
    obtain ⟨eH, y⟩ := y
    subst eH
    obtain ⟨v, e1, q⟩ := h2.get e
    have := y vs h1
    rw [e1] at this
    cases this
    exact ⟨Later.refl, S, q⟩
  keep := SrcAt.keep hr h0
/-- a walked pair is new data -/
theorem new_pair {ρ : Rho} {H : Hp} {st : Store} {T : Addr} {x y : PyData} {v w : V} (S : Sat G ρ H st) (hT : H T = none) (h1 : RepD G.K ρ H x v) (h2 : RepD G.K ρ H y w) :
    Later ρ H ρ (upd H T (.tup [v, w])) ∧ Sat G ρ (upd H T (.tup [v, w])) st ∧ RepC G.K ρ (upd H T (.tup [v, w])) (.d (.tuple [x, y])) (.ref T) := by
  refine ⟨Later.laid hT, S.laid hT, ?_⟩
  show RepD G.K ρ (upd H T (.tup [v, w])) (.tuple [x, y]) (.ref T)
  simp only [RepD, RepDs]
  exact ⟨T, [v, w], rfl, .inl ⟨S.st.fresh hT, upd_same⟩, v, [w], rfl, RepD.later (Later.laid hT) _ _ h1, w, [], rfl, RepD.later (Later.laid hT) _ _ h2, rfl⟩
theorem enumFrom_get : ∀ (ds : List PyData) (n i : Nat), (enumFrom n ds)[i]? = (ds[i]?).map fun x => R.d (.tuple [.int ((n + i : Nat) : Int), x])
  | [], n, i => by simp [enumFrom]
  | d :: ds, n, 0 => by simp [enumFrom]
  | d :: ds, n, i + 1 => by
    simp only [enumFrom, List.getElem?_cons_succ]
    rw [enumFrom_get ds (n + 1) i]
    have : n + 1 + i = n + (i + 1) := by omega
    rw [this]
theorem enumFrom_length : ∀ (ds : List PyData) (n : Nat), (enumFrom n ds).length = ds.length
  | [], n => rfl
  | d :: ds, n => by simp [enumFrom, enumFrom_length ds]
theorem ds_get {ρ : Rho} {H : Hp} {xs : List R} {ds : List PyData} {vs : List V} (h : RepCs G.K ρ H xs vs) (e : allD xs = some ds) {i : Nat} {d : PyData} (ed : ds[i]? = some d) : ∃ v, vs[i]? = some v ∧ RepD G.K ρ H d v := (h.ds e).get ed
theorem ite_ok (gx : GX G X) {r : R} {a : Addr} {xs : List R} {ds : List PyData} {rs : List R} {st0 : Store} (ht : isTupR r = false) (hr : r ∈ rs) (h0 : items r st0 = some xs) (hd : allD xs = some ds) : ItOk G (Ite X.K a) (enumFrom 0 ds) rs st0 (SrcAt G X r a xs) where
  go := fun i ρ H st S h hi => by
    obtain ⟨vs, h1, h2⟩ := src_list gx ht S h
    have hl := Paired.length h2
    have := allD_length hd
    rw [enumFrom_length] at hi
    exact ⟨vs, vs[i]'(by omega), h1, by simp⟩
  stop := fun ρ H st S h => by
    obtain ⟨vs, h1, h2⟩ := src_list gx ht S h
    have hl := Paired.length h2
    have := allD_length hd
    exact ⟨vs, h1, by rw [enumFrom_length]; omega⟩
  yld := fun i ρ H st x H' r' S h y e => by
    obtain ⟨vs, h1, h2⟩ := src_list gx ht S h
    obtain ⟨T, v, rfl, hT, rfl, y⟩ := y
    rw [enumFrom_get] at e
    simp only [Option.map_eq_some_iff, Nat.zero_add] at e
    obtain ⟨d, ed, rfl⟩ := e
    obtain ⟨v', e1, q⟩ := ds_get h2 hd ed
    have := y vs h1
    rw [e1] at this
    cases this
    exact new_pair S hT repD_int q
  keep := SrcAt.keep hr h0
theorem iteT_ok (gx : GX G X) {r : R} {a : Addr} {xs : List R} {ds : List PyData} {rs : List R} {st0 : Store} (ht : isTupR r = true) (hr : r ∈ rs) (h0 : items r st0 = some xs) (hd : allD xs = some ds) : ItOk G (IteT X.K a) (enumFrom 0 ds) rs st0 (SrcAt G X r a xs) where
  go := fun i ρ H st S h hi => by
    obtain ⟨vs, h1, h2⟩ := src_tup gx ht h
    have hl := Paired.length h2
    have := allD_length hd
    rw [enumFrom_length] at hi
    exact ⟨vs, vs[i]'(by omega), h1, by simp⟩
  stop := fun ρ H st S h => by
    obtain ⟨vs, h1, h2⟩ := src_tup gx ht h
    have hl := Paired.length h2
    have := allD_length hd
    exact ⟨vs, h1, by rw [enumFrom_length]; omega⟩
  yld := fun i ρ H st x H' r' S h y e => by
    obtain ⟨vs, h1, h2⟩ := src_tup gx ht h
    obtain ⟨T, v, rfl, hT, rfl, y⟩ := y
    rw [enumFrom_get] at e
    simp only [Option.map_eq_some_iff, Nat.zero_add] at e
    obtain ⟨d, ed, rfl⟩ := e
    obtain ⟨v', e1, q⟩ := ds_get h2 hd ed
    have := y vs h1
    rw [e1] at this
    cases this
    exact new_pair S hT repD_int q
  keep := SrcAt.keep hr h0
theorem zip2_get : ∀ (a b : List PyData) (i : Nat), (zip2 a b)[i]? = (match a[i]?, b[i]? with | some x, some y => some (R.d (.tuple [x, y])) | _, _ => none)
  | [], b, i => by simp [zip2]
  | x :: a, [], i => by cases h : (x :: a)[i]? <;> simp [zip2]
  | x :: a, y :: b, 0 => by simp [zip2]
  | x :: a, y :: b, i + 1 => by simp only [zip2, List.getElem?_cons_succ]; exact zip2_get a b i
theorem zip2_length : ∀ (a b : List PyData), (zip2 a b).length = min a.length b.length
  | [], b => by simp [zip2]
  | x :: a, [] => by simp [zip2]
  | x :: a, y :: b => by simp [zip2, zip2_length a b]
def SrcAt2 (G : GC) (X : Cx) (r q : R) (a b : Addr) (xs ys : List R) : Rho → Hp → Store → Prop := fun ρ H st => SrcAt G X r a xs ρ H st ∧ SrcAt G X q b ys ρ H st
theorem itz_ok (gx : GX G X) {r q : R} {a b : Addr} {xs ys : List R} {ds es : List PyData} {rs : List R} {st0 : Store} (ht : isTupR r = false) (ht2 : isTupR q = false) (hr : r ∈ rs) (hq : q ∈ rs) (h0 : items r st0 = some xs) (h02 : items q st0 = some ys) (hd : allD xs = some ds) (he : allD ys = some es) :
    ItOk G (Itz X.K a b) (zip2 ds es) rs st0 (SrcAt2 G X r q a b xs ys) where
  go := fun i ρ H st S h hi => by
    obtain ⟨vs, h1, h2⟩ := src_list gx ht S h.1
    obtain ⟨ws, k1, k2⟩ := src_list gx ht2 S h.2
    have hl := Paired.length h2
    have kl := Paired.length k2
    have := allD_length hd
    have := allD_length he
    rw [zip2_length] at hi
    exact ⟨vs, ws, vs[i]'(by omega), ws[i]'(by omega), h1, k1, by simp, by simp⟩
  stop := fun ρ H st S h => by
    obtain ⟨vs, h1, h2⟩ := src_list gx ht S h.1
    obtain ⟨ws, k1, k2⟩ := src_list gx ht2 S h.2
    have hl := Paired.length h2
    have kl := Paired.length k2
    have := allD_length hd
    have := allD_length he
    exact ⟨vs, ws, h1, k1, by rw [zip2_length]; omega⟩
  yld := fun i ρ H st x H' r' S h y e => by
    obtain ⟨vs, h1, h2⟩ := src_list gx ht S h.1
    obtain ⟨ws, k1, k2⟩ := src_list gx ht2 S h.2
    obtain ⟨T, v, w, rfl, hT, rfl, y1, y2⟩ := y
    rw [zip2_get] at e
    split at e
    · rename_i d d' ed ed'
      cases e
      obtain ⟨v', e1, q1⟩ := ds_get h2 hd ed
      obtain ⟨w', e2, q2⟩ := ds_get k2 he ed'
      have := y1 vs h1
      rw [e1] at this
      cases this
      have := y2 ws k1
      rw [e2] at this
      cases this
      exact new_pair S hT q1 q2
    · cases e
  keep := fun ρ H st ρ' H' st' h l s => ⟨SrcAt.keep hr h0 ρ H st ρ' H' st' h.1 l s, SrcAt.keep hq h02 ρ H st ρ' H' st' h.2 l s⟩
theorem itzT_ok (gx : GX G X) {r q : R} {a b : Addr} {xs ys : List R} {ds es : List PyData} {rs : List R} {st0 : Store} (ht : isTupR r = true) (ht2 : isTupR q = true) (hr : r ∈ rs) (hq : q ∈ rs) (h0 : items r st0 = some xs) (h02 : items q st0 = some ys) (hd : allD xs = some ds) (he : allD ys = some es) :
    ItOk G (RZ.ItzT X.K a b) (zip2 ds es) rs st0 (SrcAt2 G X r q a b xs ys) where
  go := fun i ρ H st S h hi => by
    obtain ⟨vs, h1, h2⟩ := src_tup gx ht h.1
    obtain ⟨ws, k1, k2⟩ := src_tup gx ht2 h.2
    have hl := Paired.length h2
    have kl := Paired.length k2
    have := allD_length hd
    have := allD_length he
    rw [zip2_length] at hi
    exact ⟨vs, ws, vs[i]'(by omega), ws[i]'(by omega), h1, k1, by simp, by simp⟩
  stop := fun ρ H st S h => by
    obtain ⟨vs, h1, h2⟩ := src_tup gx ht h.1
    obtain ⟨ws, k1, k2⟩ := src_tup gx ht2 h.2
    have hl := Paired.length h2
    have kl := Paired.length k2
    have := allD_length hd
    have := allD_length he
    exact ⟨vs, ws, h1, k1, by rw [zip2_length]; omega⟩
  yld := fun i ρ H st x H' r' S h y e => by
    obtain ⟨vs, h1, h2⟩ := src_tup gx ht h.1
    obtain ⟨ws, k1, k2⟩ := src_tup gx ht2 h.2
    obtain ⟨T, v, w, rfl, hT, rfl, y1, y2⟩ := y
    rw [zip2_get] at e
    split at e
    · rename_i d d' ed ed'
      cases e
      obtain ⟨v', e1, q1⟩ := ds_get h2 hd ed
      obtain ⟨w', e2, q2⟩ := ds_get k2 he ed'
      have := y1 vs h1
      rw [e1] at this
      cases this
      have := y2 ws k1
      rw [e2] at this
      cases this
      exact new_pair S hT q1 q2
    · cases e
  keep := fun ρ H st ρ' H' st' h l s => ⟨SrcAt.keep hr h0 ρ H st ρ' H' st' h.1 l s, SrcAt.keep hq h02 ρ H st ρ' H' st' h.2 l s⟩
theorem itr_ok {lo : Int} {n : Nat} {rs : List R} {st0 : Store} : ItOk G (Itr lo n) (rngList lo n) rs st0 (fun _ _ _ => True) where
  go := fun i ρ H st S h hi => by
    show i < n
    simpa [rngList] using hi
  stop := fun ρ H st S h => by
    show n ≤ (rngList lo n).length
    unfold rngList
    simp
  yld := fun i ρ H st x H' r S h y e => by
    obtain ⟨e1, e2⟩ := y
    subst e1 e2
    refine ⟨Later.refl, S, ?_⟩
    have hi : i < n := by
      have := (List.getElem?_eq_some_iff.mp e).1
      simpa [rngList] using this
    simp only [rngList, List.getElem?_map, List.getElem?_range hi, Option.map_some, Option.some.injEq] at e
    subst e
    show RepD G.K ρ H' (.int (lo + ((i : Nat) : Int))) (.int (lo + ((i : Nat) : Int)))
    exact repD_int
  keep := fun _ _ _ _ _ _ _ _ _ => trivial

theorem evL_length {E : IE → Env → Store → Res R} {env : Env} : ∀ {ies : List IE} {st st1 : Store} {rs : List R}, evL E ies env st = .ok rs st1 → rs.length = ies.length
  | [], st, st1, rs, e => by simp only [evL, Res.ok.injEq] at e; rw [← e.1]; rfl
  | ie :: ies, st, st1, rs, e => by
    simp only [evL] at e
    cases e1 : E ie env st with
    | ok r st2 =>
      rw [e1] at e
      simp only [Res.bind] at e
      cases e2 : evL E ies env st2 with
      | ok rs' st3 =>
        rw [e2] at e
        simp only [Res.ok.injEq] at e
        rw [← e.1]
        simp [evL_length e2]
      | exc _ _ _ => rw [e2] at e; cases e
      | bad => rw [e2] at e; cases e
    | exc _ _ _ => rw [e1] at e; cases e
    | bad => rw [e1] at e; cases e
theorem tA_one {σ : L2.St} {H : Hp} {E : Env → Store → Res R} {T : List V → Hp → Prop} (h : tA G X (fun env st => (E env st).bind fun r st => .ok [r] st) W σ H T) : tE G X E W σ H (fun u H1 => T [u] H1) := by
  obtain ⟨ρ, env, st, R, p⟩ := h
  refine stepE_bind R p fun r st1 u ρ1 H1 _ l R1 q p1 => ?_
  exact p1 [u] ρ1 H1 Later.refl R1.sat (.cons q .nil)
theorem one_of {α : Type} {l : List α} (h : l.length = 1) : ∃ a, l = [a] := by
  match l, h with
  | [a], _ => exact ⟨a, rfl⟩
theorem two_of {α : Type} {l : List α} (h : l.length = 2) : ∃ a b, l = [a, b] := by
  match l, h with
  | [a, b], _ => exact ⟨a, b, rfl⟩
theorem tE_mono {σ : L2.St} {H : Hp} {E : Env → Store → Res R} {T T' : V → Hp → Prop} (h : tE G X E W σ H T) (i : ∀ u H, T u H → T' u H) : tE G X E W σ H T' := by
  obtain ⟨ρ, env, st, R, p⟩ := h
  refine ⟨ρ, env, st, R, ?_⟩
  cases e : E env st with
  | ok r st1 =>
    rw [e] at p
    exact fun u ρ' H' l s q => i _ _ (p u ρ' H' l s q)
  | exc c w st1 => rw [e] at p; exact p
  | bad => rw [e] at p; exact p
theorem snd_seq (gx : GX G X) {tg it : Expr} {E : IE → Env → Store → Res R} {ie : IE} (h : PE X it (tE G X (E ie) W)) : PI X tg it (tW G X (evL E [ie]) .seq W) := by
  refine PI.imp (pi_seq h) ?_
  intro σ H Q hq
  refine tE_mono (tA_one (T := fun us H1 => ∃ x, us = [x] ∧ ∃ a, x = .ref a ∧ (((∃ xs, SqL X.K H1 a xs) ∧ Q (Itl X.K a) H1) ∨ ((∃ xs, SqT X.K H1 a xs) ∧ Q (Itt X.K a) H1))) (stepW hq fun rs xs st us ρ env H1 he R pr e k => ?_)) (fun u H1 ⟨x, ex, h⟩ => by cases ex; exact h)
  obtain ⟨st0, he⟩ := he
  obtain ⟨r, rfl⟩ := one_of (evL_length (show evL E [ie] env st0 = .ok rs st from he))
  have e : items r st = some xs := e
  · obtain ⟨v, rfl, q⟩ := paired_one pr
    cases ht : isTupR r with
    | true =>
      cases r with
      | d x => cases x with
        | tuple ys =>
          obtain ⟨a, vs, rfl, h1, h2⟩ := items_atT q
          exact ⟨_, rfl, a, rfl, .inr ⟨⟨vs, by rw [gx.K]; exact h1.sq⟩, k _ _ (itt_ok gx ht (List.mem_singleton.mpr rfl) e) ⟨q, e⟩⟩⟩
        | _ => cases ht
      | _ => cases ht
    | false =>
      obtain ⟨a, vs, rfl, h1, h2⟩ := items_atL gx R.sat q e (notTup ht)
      exact ⟨_, rfl, a, rfl, .inl ⟨⟨vs, h1⟩, k _ _ (itl_ok gx ht (List.mem_singleton.mpr rfl) e) ⟨q, e⟩⟩⟩
theorem snd_rng1 (O : GOk G) (gx : GX G X) {tg a : Expr} {E : IE → Env → Store → Res R} {ia : IE} (hr : Gl X "range") (hp : plainArgs [a] = true) (h : PE X a (tE G X (E ia) W)) :
    PI X tg (.Call (.Name "range" p1) [a] [] pos) (tW G X (evL E [ia]) .rng W) := by
  have mr : X.mg "range" = none := by rw [gx.mg]; exact O.blt _ (by decide +kernel)
  have s1 : isStar a = false := by simpa [plainArgs] using hp
  refine PI.imp (pi_range1 hr mr (snd_args hp (.cons h .nil)) (isStar_each s1)) ?_
  intro σ H Q hq
  refine stepW hq fun rs xs st us ρ env H1 he R pr e k => ?_
  obtain ⟨st0, he⟩ := he
  obtain ⟨r, rfl⟩ := one_of (evL_length he)
  obtain ⟨v, rfl, q⟩ := paired_one pr
  cases r with
  | d x => cases x with
    | int j =>
      have := repR_int q
      subst this
      simp only [walks] at e
      split at e
      · rename_i hb
        cases e
        have hb := of_decide_eq_true hb
        exact ⟨j, rfl, hb.1, hb.2, k _ _ itr_ok trivial⟩
      · cases e
    | _ => simp [walks] at e
  | _ => simp [walks] at e
theorem snd_rng2 (O : GOk G) (gx : GX G X) {tg a b : Expr} {E : IE → Env → Store → Res R} {ia ib : IE} (hr : Gl X "range") (hp : plainArgs [a, b] = true) (h : PE X a (tE G X (E ia) W)) (h' : PE X b (tE G X (E ib) W)) :
    PI X tg (.Call (.Name "range" p1) [a, b] [] pos) (tW G X (evL E [ia, ib]) .rng W) := by
  have mr : X.mg "range" = none := by rw [gx.mg]; exact O.blt _ (by decide +kernel)
  have s1 : isStar a = false ∧ isStar b = false := by simpa [plainArgs] using hp
  refine PI.imp (pi_range2 hr mr (snd_args hp (.cons h (.cons h' .nil))) (by rw [isStar_each s1.1, isStar_each s1.2]; rfl) (isStar_each s1.2)) ?_
  intro σ H Q hq
  refine stepW hq fun rs xs st us ρ env H1 he R pr e k => ?_
  obtain ⟨st0, he⟩ := he
  obtain ⟨r, r', rfl⟩ := two_of (evL_length he)
  obtain ⟨v, v', rfl, q, q'⟩ := paired_two pr
  cases r with
  | d x => cases x with
    | int i => cases r' with
      | d y => cases y with
        | int j =>
          have := repR_int q
          subst this
          have := repR_int q'
          subst this
          simp only [walks] at e
          split at e
          · rename_i hb
            cases e
            simp only [Bool.and_eq_true] at hb
            have hb1 := of_decide_eq_true hb.1
            have hb2 := of_decide_eq_true hb.2
            exact ⟨i, j, rfl, ⟨hb1.1, hb1.2, hb2.1, hb2.2⟩, k _ _ itr_ok trivial⟩
          · cases e
        | _ => simp [walks] at e
      | _ => simp [walks] at e
    | _ => cases r' <;> simp [walks] at e
  | _ => cases r' <;> simp [walks] at e
theorem snd_enum (O : GOk G) (gx : GX G X) {a : Expr} {elts : List Expr} {kk : Nat} {tpos : Pos} {E : IE → Env → Store → Res R} {ia : IE} (hr : Gl X "enumerate") (hp : plainArgs [a] = true) (h : PE X a (tE G X (E ia) W)) :
    PI X (.Tuple elts kk tpos) (.Call (.Name "enumerate" p1) [a] [] pos) (tW G X (evL E [ia]) .enum W) := by
  have mr : X.mg "enumerate" = none := by rw [gx.mg]; exact O.blt _ (by decide +kernel)
  have s1 : isStar a = false := by simpa [plainArgs] using hp
  refine PI.imp (pi_enumA hr mr (snd_args hp (.cons h .nil)) (isStar_each s1)) ?_
  intro σ H Q hq
  refine stepW hq fun rs xs st us ρ env H1 he R pr e k => ?_
  obtain ⟨st0, he⟩ := he
  obtain ⟨r, rfl⟩ := one_of (evL_length he)
  obtain ⟨v, rfl, q⟩ := paired_one pr
  simp only [walks] at e
  split at e
  · rename_i ys e1
    simp only [Option.map_eq_some_iff] at e
    obtain ⟨ds, hd, rfl⟩ := e
    cases ht : isTupR r with
    | true =>
      cases r with
      | d x => cases x with
        | tuple zs =>
          obtain ⟨a, vs, rfl, h1, h2⟩ := items_atT q
          exact ⟨a, vs, rfl, .inr ⟨by rw [gx.K]; exact h1.sq, k _ _ (iteT_ok gx ht (List.mem_singleton.mpr rfl) e1 hd) ⟨q, e1⟩⟩⟩
        | _ => cases ht
      | _ => cases ht
    | false =>
      obtain ⟨a, vs, rfl, h1, h2⟩ := items_atL gx R.sat q e1 (notTup ht)
      exact ⟨a, vs, rfl, .inl ⟨h1, k _ _ (ite_ok gx ht (List.mem_singleton.mpr rfl) e1 hd) ⟨q, e1⟩⟩⟩
  · cases e
theorem snd_zip (O : GOk G) (gx : GX G X) {a b : Expr} {elts : List Expr} {kk : Nat} {tpos : Pos} {E : IE → Env → Store → Res R} {ia ib : IE} (hr : Gl X "zip") (hp : plainArgs [a, b] = true) (h : PE X a (tE G X (E ia) W)) (h' : PE X b (tE G X (E ib) W)) :
    PI X (.Tuple elts kk tpos) (.Call (.Name "zip" p1) [a, b] [] pos) (tW G X (evL E [ia, ib]) .zip W) := by
  have mr : X.mg "zip" = none := by rw [gx.mg]; exact O.blt _ (by decide +kernel)
  have s1 : isStar a = false ∧ isStar b = false := by simpa [plainArgs] using hp
  refine PI.imp (RZ.pi_zipA hr mr (snd_args hp (.cons h (.cons h' .nil))) (isStar_each s1.1) (plain_any (es := [b]) (by simp [plainArgs, s1.2]))) ?_
  intro σ H Q hq
  refine stepW hq fun rs xs st us ρ env H1 he R pr e k => ?_
  obtain ⟨st0, he⟩ := he
  obtain ⟨r, r', rfl⟩ := two_of (evL_length he)
  obtain ⟨v, v', rfl, q, q'⟩ := paired_two pr
  simp only [walks] at e
  split at e
  · rename_i hk
    split at e
    · rename_i ys zs e1 e2
      split at e
      · rename_i ds es hd he'
        cases e
        have hk : isTupR r = isTupR r' := by simpa using hk
        cases ht : isTupR r with
        | true =>
          have ht2 : isTupR r' = true := by rw [← hk]; exact ht
          obtain ⟨a, vs, rfl, h1, h2⟩ := (show ∃ a vs, v = .ref a ∧ SqT X.K H1 a vs ∧ True by
            cases r with
            | d x => cases x with
              | tuple zs =>
                obtain ⟨a, vs, rfl, h1, h2⟩ := items_atT q
                exact ⟨a, vs, rfl, by rw [gx.K]; exact h1.sq, trivial⟩
              | _ => cases ht
            | _ => cases ht)
          obtain ⟨b, ws, rfl, k1, k2⟩ := (show ∃ a vs, v' = .ref a ∧ SqT X.K H1 a vs ∧ True by
            cases r' with
            | d x => cases x with
              | tuple zs =>
                obtain ⟨a, vs, rfl, h1, h2⟩ := items_atT q'
                exact ⟨a, vs, rfl, by rw [gx.K]; exact h1.sq, trivial⟩
              | _ => cases ht2
            | _ => cases ht2)
          exact ⟨a, b, vs, ws, rfl, .inr ⟨h1, k1, k _ _ (itzT_ok gx ht ht2 (by simp) (by simp) e1 e2 hd he') ⟨⟨q, e1⟩, q', e2⟩⟩⟩
        | false =>
          have ht2 : isTupR r' = false := by rw [← hk]; exact ht
          obtain ⟨a, vs, rfl, h1, h2⟩ := items_atL gx R.sat q e1 (notTup ht)
          obtain ⟨b, ws, rfl, k1, k2⟩ := items_atL gx R.sat q' e2 (notTup ht2)
          exact ⟨a, b, vs, ws, rfl, .inl ⟨h1, k1, k _ _ (itz_ok gx ht ht2 (by simp) (by simp) e1 e2 hd he') ⟨⟨q, e1⟩, q', e2⟩⟩⟩
      · cases e
    · cases e
  · cases e
end
end Ev
set_option maxHeartbeats 2000000
/-! Soundness, part 8: targets, comprehensions. -/
namespace Ev
open PySem PySem.Spec PyProof.Rows L2
section
variable {G : GC} {X : Cx} {W : WX} {pos p1 : Pos}
/-- slots and values -/
theorem Rel.set {ρ : Rho} {env : Env} {st : Store} {σ : L2.St} {H : Hp} (R : Rel G X ρ env st σ H) {i : Nat} {r : Ev.R} {v : V} (q : RepR G X ρ H r v) : Rel G X ρ (env.set i (some r)) st (σ.set i (some v)) H := by
  refine ⟨R.sat, by simp [R.len], fun j r' e => ?_⟩
  by_cases hij : i = j
  · subst hij
    have hl : i < env.length := by
      have := (List.getElem?_eq_some_iff.mp e).1
      simpa using this
    rw [List.getElem?_set_self hl] at e
    cases e
    exact ⟨v, by rw [List.getElem?_set_self (by rw [← R.len]; exact hl)], q⟩
  · rw [List.getElem?_set_ne hij] at e
    obtain ⟨w, e1, q1⟩ := R.env j r' e
    exact ⟨w, by rw [List.getElem?_set_ne hij]; exact e1, q1⟩
theorem Rel.unset {ρ : Rho} {env : Env} {st : Store} {σ : L2.St} {H : Hp} (R : Rel G X ρ env st σ H) {i : Nat} : Rel G X ρ (env.set i none) st (σ.set i none) H := by
  refine ⟨R.sat, by simp [R.len], fun j r' e => ?_⟩
  by_cases hij : i = j
  · subst hij
    have hl : i < env.length := by
      have := (List.getElem?_eq_some_iff.mp e).1
      simpa using this
    rw [List.getElem?_set_self hl] at e
    cases e
  · rw [List.getElem?_set_ne hij] at e
    obtain ⟨w, e1, q1⟩ := R.env j r' e
    exact ⟨w, by rw [List.getElem?_set_ne hij]; exact e1, q1⟩
/-- σ' is σ but for the slots is -/
def OffIx (is : List Nat) (σ σ' : L2.St) : Prop := σ'.length = σ.length ∧ ∀ j, j ∉ is → σ'[j]? = σ[j]?
theorem OffIx.set {is : List Nat} {σ σ' : L2.St} {i : Nat} {v : Option V} (h : OffIx is (σ.set i v) σ') : OffIx (i :: is) σ σ' := ⟨by rw [h.1, List.length_set], fun j hj => by
  simp only [List.mem_cons, not_or] at hj
  rw [h.2 j hj.2, List.getElem?_set_ne (fun e => hj.1 e.symm)]⟩
theorem OffIx.refl {is : List Nat} {σ : L2.St} : OffIx is σ σ := ⟨rfl, fun _ _ => rfl⟩
/-- what a target does -/
def gTg (G : GC) (X : Cx) (t : Tg) : TG := fun v σ H Q => ∃ (ρ : Rho) (env : Env) (st : Store) (r : R) (env' : Env), Rel G X ρ env st σ H ∧ RepR G X ρ H r v ∧ setTg t r env = some env' ∧ ∀ σ', OffIx (tgIx t) σ σ' → Rel G X ρ env' st σ' H → Q σ' H
/-- names that ck took for targets may be stored -/
def StoreOk (X : Cx) (sc : Scope) : Prop := ∀ x, locB sc x = true → Loc X.env.scope x ∧ (X.fn x = true ∨ X.env.scope.names.lookup x = some .local)
theorem PG.imp {tg : Expr} {t t' : TG} (h : PG X tg t) (i : ∀ v σ H Q, t' v σ H Q → t v σ H Q) : PG X tg t' := ⟨fun pins s σ H v u Q I r q => h.run pins s σ H v u Q I r (i v σ H Q q)⟩
theorem tgs_ok {N : List Str} {sc : Scope} : ∀ {ts : List Expr} {is : List Nat} {K : PySem.W.Frag}, ts.length = is.length → ((ts.zip is).all fun p => match p.1 with | .Name x _ => ixOf N x p.2 && locB sc x | _ => false) = true → X.N = N → X.N.Nodup → StoreOk X sc →
    ∃ t : TGs, PGs X ts t ∧ ∀ (ρ : Rho) (env env' : Env) (st : Store) (σ : L2.St) (H : Hp) (xs : List PyData) (vs : List V) (Q : L2.St → Hp → Prop), Rel G X ρ env st σ H → RepDs G.K ρ H xs vs → setAll is xs env = some env' → (∀ σ', OffIx is σ σ' → Rel G X ρ env' st σ' H → Q σ' H) → t vs σ H Q
  | [], [], K, _, _, _, _, _ => ⟨gNil, pgs_nil, fun ρ env env' st σ H xs vs Q R r e q => by
      cases xs with
      | nil =>
        simp only [RepDs] at r
        subst r
        simp only [setAll, Option.some.injEq] at e
        subst e
        exact ⟨rfl, q σ OffIx.refl R⟩
      | cons x xs => simp [setAll] at e⟩
  | t :: ts, i :: is, K, hl, h, hN, hnd, hfn => by
    simp only [List.zip_cons_cons, List.all_cons, Bool.and_eq_true] at h
    obtain ⟨h1, h2⟩ := h
    obtain ⟨u, hu, ku⟩ := tgs_ok (K := K) (by simpa using hl) h2 hN hnd hfn
    cases t with
    | Name x p =>
      simp only [Bool.and_eq_true, ixOf, decide_eq_true_eq] at h1
      obtain ⟨hx, hf⟩ := hfn x h1.2
      refine ⟨gCons (gName i) u, pgs_cons (pg_name hnd (by rw [hN]; exact h1.1) hx hf) hu, fun ρ env env' st σ H xs vs Q R r e q => ?_⟩
      cases xs with
      | nil => simp [setAll] at e
      | cons x' xs =>
        simp only [RepDs] at r
        obtain ⟨v, vr, rfl, r1, r2⟩ := r
        simp only [setAll] at e
        exact ⟨v, vr, rfl, ku ρ _ env' st _ H xs vr Q (R.set (r := .d x') r1) r2 e fun σ' o => q σ' o.set⟩
    | _ => exact absurd h1 (by simp)
def TupT (X : Cx) : Prop := ∀ (es : List Expr) (k : Nat) (pos : Pos) (t : TGs) (n : Nat), PGs X es t → (assignEach es X.env).length = n → (assignEach es X.env).findIdx? (·.1) = none → PG X (.Tuple es k pos) (gTup X.K n t)
theorem tupT_calm (hc : X.calm = true) : TupT X := fun _ _ _ _ _ h a b => pg_tup hc h a b
theorem snd_tg {N : List Str} {sc : Scope} {tg : Expr} {t : Tg} (gx : GX G X) (hN : X.N = N) (hnd : X.N.Nodup) (hc : TupT X) (hfn : StoreOk X sc) (h : ckTg N sc tg t = true) : PG X tg (gTg G X t) := by
  cases t with
  | nm i =>
    cases tg <;> simp only [ckTg, Bool.false_eq_true] at h
    rename_i x p
    simp only [Bool.and_eq_true, ixOf, decide_eq_true_eq] at h
    obtain ⟨hx, hf⟩ := hfn x h.2
    refine PG.imp (pg_name hnd (by rw [hN]; exact h.1) hx hf) ?_
    rintro v σ H Q ⟨ρ, env, st, r, env', R, q, e, k⟩
    simp only [setTg, Option.some.injEq] at e
    subst e
    exact k _ (OffIx.set OffIx.refl) (R.set q)
  | tp is =>
    cases tg <;> simp only [ckTg, Bool.false_eq_true] at h
    rename_i ts k p
    simp only [Bool.and_eq_true, decide_eq_true_eq] at h
    obtain ⟨u, hu, ku⟩ := tgs_ok (G := G) (K := G.K) h.1 h.2 hN hnd hfn
    have noStar : ∀ (ts : List Expr) (is : List Nat), ts.length = is.length → ((ts.zip is).all fun p => match p.1 with | .Name x _ => ixOf N x p.2 && locB sc x | _ => false) = true → (assignEach ts X.env).length = ts.length ∧ (assignEach ts X.env).findIdx? (·.1) = none := by
      intro ts
      induction ts with
      | nil => intro is _ _; exact ⟨rfl, rfl⟩
      | cons t ts ih =>
        intro is hl ha
        cases is with
        | nil => simp at hl
        | cons i is =>
          simp only [List.zip_cons_cons, List.all_cons, Bool.and_eq_true] at ha
          obtain ⟨i1, i2⟩ := ih is (by simpa using hl) ha.2
          cases t with
          | Name x p =>
            refine ⟨?_, ?_⟩
            · show ((false, assign (.Name x p) X.env) :: assignEach ts X.env).length = _
              simp [i1]
            · show ((false, assign (.Name x p) X.env) :: assignEach ts X.env).findIdx? (·.1) = none
              rw [List.findIdx?_cons]
              simp [i2]
          | _ => exact absurd ha.1 (by simp)
    obtain ⟨n1, n2⟩ := noStar ts is h.1 h.2
    refine PG.imp (hc _ _ _ _ ts.length hu n1 n2) ?_
    rintro v σ H Q ⟨ρ, env, st, r, env', R, q, e, k⟩
    cases r with
    | d x => cases x with
      | tuple xs =>
        simp only [setTg] at e
        obtain ⟨a, vs, rfl, h1, h2⟩ := items_atT q
        have lenAll : ∀ (is : List Nat) (xs : List PyData) (env env' : Env), setAll is xs env = some env' → xs.length = is.length := by
          intro is
          induction is with
          | nil => intro xs env env' e; cases xs <;> simp [setAll] at e; rfl
          | cons i is ih =>
            intro xs env env' e
            cases xs with
            | nil => simp [setAll] at e
            | cons x xs => simp only [setAll] at e; simp [ih xs _ _ e]
        refine ⟨a, vs, rfl, by rw [gx.K]; exact h1.sq, by rw [← h2.length, lenAll _ _ _ _ e, h.1], ku ρ env env' st σ H xs vs Q R h2 e k⟩
      | _ => simp [setTg] at e
    | _ => simp [setTg] at e
end
end Ev
set_option maxHeartbeats 2000000
/-! Soundness, part 9: comprehensions. -/
namespace Ev
open PySem PySem.Spec PyProof.Rows L2
/-- no exception goes by -/
def WF : WX := fun _ _ _ _ => False
def isC (r : R) : Prop := match r with
  | .lam _ _ => False
  | .x _ _ => False
  | _ => True
theorem RepR.toC {G : GC} {X : Cx} {ρ : Rho} {H : Hp} {r : R} {v : V} (c : isC r) (h : RepR G X ρ H r v) : RepC G.K ρ H r v := by
  cases r with
  | lam _ _ => exact False.elim c
  | x _ _ => exact False.elim c
  | d x => exact h
  | s ns => exact h
  | c i => exact h
theorem isC_below {n : Nat} {r : R} (h : isBelow n r = true) : isC r := by
  cases r <;> simp only [isBelow, Bool.false_eq_true] at h <;> trivial
/-- states without closures and exceptions -/
structure RelP (G : GC) (ρ : Rho) (env : Env) (st : Store) (σ : L2.St) (H : Hp) : Prop where
  sat : Sat G ρ H st
  len : env.length = σ.length
  env : ∀ (i : Nat) (r : R), env[i]? = some (some r) → ∃ v, σ[i]? = some (some v) ∧ RepC G.K ρ H r v
theorem RelP.rel {G : GC} {X : Cx} {ρ : Rho} {env : Env} {st : Store} {σ : L2.St} {H : Hp} (h : RelP G ρ env st σ H) : Rel G X ρ env st σ H :=
  ⟨h.sat, h.len, fun i r e => let ⟨v, e1, q⟩ := h.env i r e; ⟨v, e1, RepR.ofC q⟩⟩
theorem RelP.later {G : GC} {ρ ρ' : Rho} {env : Env} {st st' : Store} {σ : L2.St} {H H' : Hp} (R : RelP G ρ env st σ H) (l : Later ρ H ρ' H') (s : Sat G ρ' H' st') : RelP G ρ' env st' σ H' :=
  ⟨s, R.len, fun i r e => let ⟨v, e1, q⟩ := R.env i r e; ⟨v, e1, q.later l⟩⟩
theorem wipeL_len (own : List Nat) : ∀ env : Env, (own.foldl (fun e i => e.set i none) env).length = env.length := by
  induction own with
  | nil => intro env; rfl
  | cons i is ih => intro env; simp only [List.foldl_cons]; rw [ih, List.length_set]
theorem wipeL_get (own : List Nat) : ∀ (env : Env) (j : Nat) (r : R), (own.foldl (fun e i => e.set i none) env)[j]? = some (some r) → env[j]? = some (some r) ∧ j ∉ own := by
  induction own with
  | nil => intro env j r h; exact ⟨h, by simp⟩
  | cons i is ih =>
    intro env j r h
    simp only [List.foldl_cons] at h
    obtain ⟨h1, h2⟩ := ih _ j r h
    by_cases hij : i = j
    · subst hij
      have hl : i < env.length := by
        have := (List.getElem?_eq_some_iff.mp h1).1
        simpa using this
      rw [List.getElem?_set_self hl] at h1
      cases h1
    · rw [List.getElem?_set_ne hij] at h1
      exact ⟨h1, by simp only [List.mem_cons, not_or]; exact ⟨fun e => hij e.symm, h2⟩⟩
theorem wipe_get {own : List Nat} {env : Env} {j : Nat} {r : R} (h : (Ev.wipe own env)[j]? = some (some r)) : env[j]? = some (some r) ∧ j ∉ own ∧ isC r := by
  unfold Ev.wipe at h
  obtain ⟨h1, h2⟩ := wipeL_get own _ j r h
  rw [List.getElem?_map] at h1
  cases e : env[j]? with
  | none => rw [e] at h1; cases h1
  | some o =>
    rw [e] at h1
    simp only [Option.map_some, Option.some.injEq] at h1
    cases o with
    | none => cases h1
    | some r' =>
      cases r' <;> simp only [Option.some.injEq, reduceCtorEq] at h1 <;> subst h1 <;> exact ⟨rfl, h2, trivial⟩
theorem l2wipe_off {σ : L2.St} {j : Nat} : ∀ {vs : List Nat}, j ∉ vs → (L2.wipe σ vs)[j]? = σ[j]?
  | [], _ => rfl
  | v :: vs, h => by
    simp only [List.mem_cons, not_or] at h
    unfold L2.wipe
    rw [List.getElem?_set_ne (fun e => h.1 e.symm), l2wipe_off h.2]
theorem l2wipe_on {σ : L2.St} {j : Nat} : ∀ {vs : List Nat}, j ∈ vs → (L2.wipe σ vs)[j]? = if j < σ.length then some none else none
  | v :: vs, h => by
    unfold L2.wipe
    by_cases hj : v = j
    · subst hj
      by_cases hl : v < σ.length
      · rw [if_pos hl, List.getElem?_set_self (by rw [wipe_length]; exact hl)]
      · rw [if_neg hl, List.getElem?_eq_none (by rw [List.length_set, wipe_length]; omega)]
    · rw [List.getElem?_set_ne hj]
      exact l2wipe_on ((List.mem_cons.mp h).resolve_left fun e => hj e.symm)
theorem wipe_off {is vs : List Nat} {σ σ2 : L2.St} (h : OffIx is (L2.wipe σ vs) σ2) (hs : ∀ i ∈ is, i ∈ vs) : L2.wipe σ2 vs = L2.wipe σ vs := by
  apply List.ext_getElem?
  intro j
  by_cases hj : j ∈ vs
  · rw [l2wipe_on hj, l2wipe_on hj, h.1, wipe_length]
  · rw [l2wipe_off hj, h.2 j fun z => hj (hs j z)]
section
variable {G : GC} {X : Cx} {W : WX} {pos p1 : Pos}
theorem Rel.wiped {ρ : Rho} {env : Env} {st : Store} {σ : L2.St} {H : Hp} (R : Rel G X ρ env st σ H) (own : List Nat) : RelP G ρ (Ev.wipe own env) st (L2.wipe σ own) H :=
  ⟨R.sat, by unfold Ev.wipe; rw [wipeL_len, List.length_map, R.len, wipe_length], fun i r e => by
    obtain ⟨h1, h2, h3⟩ := wipe_get e
    obtain ⟨v, e1, q⟩ := R.env i r h1
    exact ⟨v, by rw [l2wipe_off h2]; exact e1, q.toC h3⟩⟩
theorem Rel.toP {ρ : Rho} {env : Env} {st : Store} {σ : L2.St} {H : Hp} (R : Rel G X ρ env st σ H) (c : ∀ (i : Nat) (r : Ev.R), env[i]? = some (some r) → isC r) : RelP G ρ env st σ H :=
  ⟨R.sat, R.len, fun i r e => by
    obtain ⟨v, e1, q⟩ := R.env i r e
    exact ⟨v, e1, q.toC (c i r e)⟩⟩
/-- the readings without closures and exceptions: free of the context -/
def tEP (G : GC) (ev : Env → Store → Res R) : TE := fun σ H Q => ∃ ρ env st r st', RelP G ρ env st σ H ∧ ev env st = .ok r st' ∧ isC r ∧ ∀ u ρ' H', Later ρ H ρ' H' → Sat G ρ' H' st' → RepC G.K ρ' H' r u → Q u H'
def tTP (G : GC) (ev : Env → Store → Res Bool) : TT := fun σ H Q => ∃ ρ env st b st', RelP G ρ env st σ H ∧ ev env st = .ok b st' ∧ ∀ ρ' H', Later ρ H ρ' H' → Sat G ρ' H' st' → Q b H'
def gTgP (G : GC) (t : Tg) : TG := fun v σ H Q => ∃ (ρ : Rho) (env : Env) (st : Store) (r : R) (env' : Env), RelP G ρ env st σ H ∧ RepC G.K ρ H r v ∧ isC r ∧ setTg t r env = some env' ∧ ∀ σ', OffIx (tgIx t) σ σ' → RelP G ρ env' st σ' H → Q σ' H
theorem pe_p {e : Expr} {ev : Env → Store → Res R} (h : PE X e (tE G X ev W)) : PE X e (tEP G ev) := by
  refine PE.imp h ?_
  rintro σ H Q ⟨ρ, env, st, r, st', R, e, c, k⟩
  refine ⟨ρ, env, st, R.rel, ?_⟩
  rw [e]
  exact fun u ρ' H' l s q => k u ρ' H' l s (q.toC c)
theorem pt_p {e : Expr} {ev : Env → Store → Res Bool} (h : PT X e (tT G X ev W)) : PT X e (tTP G ev) := by
  refine PT.imp h ?_
  rintro σ H Q ⟨ρ, env, st, b, st', R, e, k⟩
  refine ⟨ρ, env, st, R.rel, ?_⟩
  rw [e]
  intro u ρ' H' l s q
  have q : u = b := q
  subst q
  exact k ρ' H' l s
theorem setAll_C : ∀ {is : List Nat} {xs : List PyData} {env env' : Env}, setAll is xs env = some env' → (∀ (i : Nat) (r : R), env[i]? = some (some r) → isC r) → ∀ (i : Nat) (r : R), env'[i]? = some (some r) → isC r
  | [], [], env, env', e, h => by simp only [setAll, Option.some.injEq] at e; subst e; exact h
  | i :: is, x :: xs, env, env', e, h => by
    simp only [setAll] at e
    refine setAll_C e fun j r q => ?_
    by_cases hij : i = j
    · subst hij
      have hl : i < env.length := by
        have := (List.getElem?_eq_some_iff.mp q).1
        simpa using this
      rw [List.getElem?_set_self hl] at q
      cases q
      trivial
    · rw [List.getElem?_set_ne hij] at q
      exact h j r q
  | [], _ :: _, _, _, e, _ => by simp [setAll] at e
  | _ :: _, [], _, _, e, _ => by simp [setAll] at e
theorem setTg_C {t : Tg} {r : R} {env env' : Env} (e : setTg t r env = some env') (hr : isC r) (h : ∀ (i : Nat) (r : R), env[i]? = some (some r) → isC r) : ∀ (i : Nat) (r : R), env'[i]? = some (some r) → isC r := by
  cases t with
  | nm i =>
    simp only [setTg, Option.some.injEq] at e
    subst e
    intro j r' q
    by_cases hij : i = j
    · subst hij
      have hl : i < env.length := by
        have := (List.getElem?_eq_some_iff.mp q).1
        simpa using this
      rw [List.getElem?_set_self hl] at q
      cases q
      exact hr
    · rw [List.getElem?_set_ne hij] at q
      exact h j r' q
  | tp is =>
    cases r with
    | d x => cases x with
      | tuple xs => exact setAll_C (show setAll is xs env = some env' from e) h
      | _ => simp [setTg] at e
    | _ => simp [setTg] at e
theorem relP_C {ρ : Rho} {env : Env} {st : Store} {σ : L2.St} {H : Hp} (h : RelP G ρ env st σ H) : ∀ (i : Nat) (r : R), env[i]? = some (some r) → isC r := fun i r e => by
  obtain ⟨v, _, q⟩ := h.env i r e
  cases r <;> first | trivial | exact q
theorem pg_p {tg : Expr} {t : Tg} (h : PG X tg (gTg G X t)) : PG X tg (gTgP G t) := by
  refine PG.imp h ?_
  rintro v σ H Q ⟨ρ, env, st, r, env', R, q, c, e, k⟩
  exact ⟨ρ, env, st, r, env', R.rel, RepR.ofC q, e, fun σ' o R' => k σ' o (R'.toP (setTg_C e c (relP_C R)))⟩
theorem compL_noexc {same : Store → Bool} {n : Nat} {body : R → Store → Res (Option R)} {c : Nat} {w : PyData} {st' : Store} : ∀ {xs : List R} {st : Store}, compL same n body xs st ≠ .exc c w st'
  | [], st, e => by unfold compL at e; split at e <;> cases e
  | x :: xs, st, e => by
    unfold compL at e
    split at e
    · split at e
      · exact compL_noexc e
      · split at e
        · exact compL_noexc e
        · cases e
      · cases e
    · cases e
/-- the list grows -/
theorem addAt_rep {ρ : Rho} {H : Hp} {st st' : Store} {n : Nat} {D : Addr} {y : R} {u : V} (S : Sat G ρ H st) (hD : RhoAt ρ n D) (q : RepC G.K ρ H y u) (e : addAt n y st = some st') :
    ∃ acc, H D = some (.lst acc) ∧ acc.length < sizeLine ∧ Later ρ H ρ (upd H D (.lst (acc ++ [u]))) ∧ Sat G ρ (upd H D (.lst (acc ++ [u]))) st' := by
  unfold addAt at e
  split at e
  · rename_i ys e1
    split at e
    · rename_i hb
      cases e
      obtain ⟨a, vs, h1, h2, h3, h4⟩ := S.st.at_ n _ e1
      have := hD.2 a h1
      subst this
      refine ⟨vs, h2, by rw [← Paired.length h3]; exact hb.2, Later.write (mem_rho.mpr ⟨n, h1⟩), S.write e1 h1 (RepCs.append h3 (.cons q .nil)) fun r hr => ?_⟩
      rcases List.mem_append.mp hr with z | z
      · exact h4 r z
      · simp only [List.mem_singleton] at z; subst z; exact hb.1
    · cases e
  · cases e
theorem addAt_isC {n : Nat} {y : R} {st st' : Store} (e : addAt n y st = some st') : isC y := by
  unfold addAt at e
  split at e
  · split at e
    · rename_i hb; exact isC_below hb.1
    · cases e
  · cases e
theorem mem_set_none {ρ : Rho} {n : Nat} {D : Addr} (h : RhoAt ρ n D) (inj : ∀ (i j : Nat) (a : Addr), ρ[i]? = some (some a) → ρ[j]? = some (some a) → i = j) (e : ρ[n]? = some (some D)) : some D ∉ ρ.set n none := fun z => by
  obtain ⟨j, hj⟩ := mem_rho.mp z
  by_cases hn : n = j
  · subst hn
    rw [List.getElem?_set_self h.1] at hj
    cases hj
  · rw [List.getElem?_set_ne hn] at hj
    exact hn (inj n j D e hj)
theorem compEnd_rep {ρ0 ρ : Rho} {H0 H : Hp} {st : Store} {n : Nat} {D : Addr} {mt : Bool} {Q : V → Hp → Prop} {σ : L2.St} (l : Later ρ0 H0 ρ H) (hn : ρ0.length = n) (S : Sat G ρ H st) (hD : RhoAt ρ n D)
    (p : PostG G (RepR G X) W σ ρ0 H0 Q (compEnd mt n st)) : Q (.ref D) H := by
  unfold compEnd at p
  cases mt with
  | true =>
    simp only [if_true] at p
    exact p (.ref D) ρ H l S ⟨D, rfl, hD⟩
  | false =>
    simp only [Bool.false_eq_true, if_false] at p
    split at p
    · rename_i xs e1
      split at p
      · rename_i ds e2
        obtain ⟨a, vs, h1, h2, h3, h4⟩ := S.st.at_ n _ e1
        have := hD.2 a h1
        subst this
        have hds := RepCs.ds h3 e2
        have hlt : n < st.length := (List.getElem?_eq_some_iff.mp e1).1
        split at p
        · rename_i hl
          have hm : some a ∉ ρ.take n := fun z => by
            obtain ⟨j, hj⟩ := mem_rho.mp z
            have hjn : j < n := by
              have := (List.getElem?_eq_some_iff.mp hj).1
              simp at this
              omega
            rw [List.getElem?_take_of_lt hjn] at hj
            have := S.st.inj _ _ _ hj h1
            omega
          exact p (.ref a) (ρ.take n) H (l.cut (by omega)) (S.cut (by omega)) (by
            show RepD G.K (ρ.take n) H (.list ds) (.ref a)
            simp only [RepD]
            exact ⟨a, vs, rfl, hm, h2, RepDs.cut _ _ hds⟩)
        · exact p (.ref a) (ρ.set n none) H (l.trans (Later.kill S.st)) (S.kill hlt) (by
            show RepD G.K (ρ.set n none) H (.list ds) (.ref a)
            simp only [RepD]
            exact ⟨a, vs, rfl, mem_set_none hD S.st.inj h1, h2, RepDs.later (Later.kill S.st) _ _ hds⟩)
      · exact p.elim
    · exact p.elim
/-- the tests of a comprehension -/
def ttOf (G : GC) (v : Evs) : Option IE → TT
  | none => tYes
  | some c => tTP G (v.T c)
theorem later_len {ρ ρ' : Rho} {H H' : Hp} {n : Nat} (l : Later ρ H ρ' H') (h : n ≤ ρ.length) : n ≤ ρ'.length := Nat.le_trans h l.len
/-- the comprehension's plan, by its evaluation -/
theorem comp_plan {v : Evs} {mt : Bool} {own : List Nat} {k : Itk} {ies : List IE} {itg : Tg} {cond : Option IE} {ielt : IE} (hs : ∀ i ∈ tgIx itg, i ∈ own) {σ : L2.St} {H : Hp} {Q : V → Hp → Prop} {C : Ctx} {F : FEv}
    (h : tE G X (stepE C F v (.comp mt own k ies itg cond ielt)) W σ H Q) : tLc (tW G X (evL v.E ies) k W) (gTgP G itg) (ttOf G v cond) (tEP G (v.E ielt)) own σ H Q := by
  obtain ⟨ρ, env, st, R, p⟩ := h
  refine ⟨ρ, env, st, R, ?_⟩
  simp only [stepE] at p
  cases e : evL v.E ies env st with
  | bad => rw [e] at p; exact p.elim
  | exc c w st1 => rw [e] at p; exact p
  | ok rs st1 =>
    rw [e] at p
    simp only [Res.bind] at p
    simp only [PostW]
    cases ew : walks k rs st1 with
    | none => rw [ew] at p; exact p.elim
    | some xs =>
      rw [ew] at p
      simp only at p ⊢
      intro J S ρ0 H0 l0 S0 ok s0 D hD
      cases ec : compL (same rs st1) st1.length (compB v own itg cond ielt env) xs (st1 ++ [.lst []]) with
      | bad => rw [ec] at p; exact p.elim
      | exc c w st2 => exact absurd ec compL_noexc
      | ok u stF =>
        rw [ec] at p
        simp only [Res.bind] at p
        have p : PostG G (RepR G X) W σ ρ0 H0 Q (compEnd mt st1.length stF) := PostG.later p l0
        have len0 : ρ0.length = st1.length := S0.st.len
        have L1 : Later ρ0 H0 (ρ0 ++ [some D]) (upd H0 D (.lst [])) := Later.cell_new S0.st hD
        have S1 : Sat G (ρ0 ++ [some D]) (upd H0 D (.lst [])) (st1 ++ [.lst []]) := S0.cell_new hD .nil (by simp)
        have D1 : RhoAt (ρ0 ++ [some D]) st1.length D := ⟨by simp [len0], fun b hb => by
          rw [List.getElem?_append_right (by omega), len0, Nat.sub_self] at hb
          simpa using hb.symm⟩
        refine ⟨fun i m H' => m = xs.length - i ∧ i ≤ xs.length ∧ ∃ ρ st, Later ρ0 H0 ρ H' ∧ Sat G ρ H' st ∧ RhoAt ρ st1.length D ∧ compL (same rs st1) st1.length (compB v own itg cond ielt env) (xs.drop i) st = .ok () stF,
          ⟨xs.length, by simp, Nat.zero_le _, _, _, L1, S1, D1, by simpa using ec⟩, ?_⟩
        rintro i m H1 ⟨rfl, hi, ρ1, st2, l1, s1, d1, e1⟩
        by_cases hlt : i < xs.length
        · rw [List.drop_eq_getElem_cons hlt] at e1
          unfold compL at e1
          split at e1
          · rename_i hsame
            have sk := ok.keep _ _ _ _ _ _ s0 l1 hsame
            refine .inr ⟨ok.go i ρ1 H1 st2 s1 sk hlt, fun H' => ∃ ρ st, Later ρ0 H0 ρ H' ∧ Sat G ρ H' st ∧ RhoAt ρ st1.length D ∧ compL (same rs st1) st1.length (compB v own itg cond ielt env) (xs.drop (i + 1)) st = .ok () stF,
              fun H' nx => ⟨xs.length - (i + 1), by omega, rfl, hlt, nx⟩, fun x H2 y => ?_⟩
            obtain ⟨l2, s2, q2⟩ := ok.yld i ρ1 H1 st2 x H2 xs[i] s1 sk y (by simp [hlt])
            have RW := ((R.later l0 S0).later (l1.trans l2) s2).wiped own
            unfold compB at e1
            cases et : setTg itg xs[i] (Ev.wipe own env) with
            | none => rw [et] at e1; simp at e1
            | some env' =>
              rw [et] at e1
              simp only at e1
              have hC : isC xs[i] := by
                revert q2
                generalize xs[i] = r
                intro q2
                cases r <;> first | trivial | exact q2
              refine ⟨ρ1, Ev.wipe own env, st2, xs[i], env', RW, q2, hC, et, fun σ' off R' => ⟨wipe_off off hs, ?_⟩⟩
              -- the element
              have elt : ∀ {ρ3 : Rho} {H3 : Hp} {st3 : Store}, Later ρ0 H0 ρ3 H3 → RhoAt ρ3 st1.length D → RelP G ρ3 env' st3 σ' H3 →
                  (match ((v.E ielt env' st3).bind fun r st => .ok (some r) st : Res (Option Ev.R)) with
                    | .ok none st1_1 => compL (same rs st1) st1.length (compB v own itg cond ielt env) (xs.drop (i + 1)) st1_1
                    | .ok (some y) st1_1 => match addAt st1.length y st1_1 with
                      | some st2 => compL (same rs st1) st1.length (compB v own itg cond ielt env) (xs.drop (i + 1)) st2
                      | none => .bad
                    | _ => .bad) = .ok () stF →
                  tEP G (v.E ielt) σ' H3 fun y H4 => ∃ acc, H4 D = some (.lst acc) ∧ acc.length < sizeLine ∧ ∃ ρ st, Later ρ0 H0 ρ (upd H4 D (.lst (acc ++ [y]))) ∧ Sat G ρ (upd H4 D (.lst (acc ++ [y]))) st ∧ RhoAt ρ st1.length D ∧ compL (same rs st1) st1.length (compB v own itg cond ielt env) (xs.drop (i + 1)) st = .ok () stF := by
                intro ρ3 H3 st3 l3 d3 R3 e3
                cases ee : v.E ielt env' st3 with
                | bad => rw [ee] at e3; simp [Res.bind] at e3
                | exc _ _ _ => rw [ee] at e3; simp [Res.bind] at e3
                | ok y st4 =>
                  rw [ee] at e3
                  simp only [Res.bind] at e3
                  cases ea : addAt st1.length y st4 with
                  | none => rw [ea] at e3; simp at e3
                  | some st5 =>
                    rw [ea] at e3
                    simp only at e3
                    refine ⟨ρ3, env', st3, y, st4, R3, ee, addAt_isC ea, fun u ρ4 H4 l4 s4 q4 => ?_⟩
                    obtain ⟨acc, a1, a2, a3, a4⟩ := addAt_rep s4 (d3.later l4) q4 ea
                    exact ⟨acc, a1, a2, ρ4, st5, (l3.trans l4).trans a3, a4, d3.later l4, e3⟩
              cases cond with
              | none =>
                simp only at e1
                show (fun b H3 => _) true H2
                simp only [if_true]
                exact elt (l1.trans l2) (d1.later l2) R' e1
              | some c =>
                simp only at e1
                cases eT : v.T c env' st2 with
                | bad => rw [eT] at e1; simp [Res.bind] at e1
                | exc _ _ _ => rw [eT] at e1; simp [Res.bind] at e1
                | ok b st3 =>
                  rw [eT] at e1
                  simp only [Res.bind] at e1
                  refine ⟨ρ1, env', st2, b, st3, R', eT, fun ρ3 H3 l3 s3 => ?_⟩
                  cases b with
                  | false =>
                    simp only [Bool.false_eq_true, if_false] at e1 ⊢
                    exact ⟨ρ3, st3, (l1.trans l2).trans l3, s3, (d1.later l2).later l3, e1⟩
                  | true =>
                    simp only [if_true] at e1 ⊢
                    exact elt ((l1.trans l2).trans l3) ((d1.later l2).later l3) (R'.later l3 s3) e1
          · cases e1
        · have ei : i = xs.length := by omega
          subst ei
          rw [List.drop_length] at e1
          unfold compL at e1
          split at e1
          · rename_i hsame
            cases e1
            exact .inl ⟨ok.stop _ _ _ s1 (ok.keep _ _ _ _ _ _ s0 l1 hsame), compEnd_rep l1 len0 s1 d1 p⟩
          · cases e1
/-- ifs and the evaluator's test -/
def IfsOk (Y : Cx) (G : GC) (v : Evs) : List Expr → Option IE → Prop
  | [], none => True
  | [c], some ic => PT Y c (tTP G (v.T ic))
  | _, _ => False
theorem snd_comp {v : Evs} {mt : Bool} {own : List (Str × Nat)} {k : Itk} {ies : List IE} {itg : Tg} {cond : Option IE} {ielt : IE} {C : Ctx} {F : FEv} {tg iter elt : Expr} {ifs : List Expr} {scope : Scope} (hc : X.calm = true) (hN : X.N.Nodup)
    (hs : ∀ i ∈ tgIx itg, i ∈ own.map (·.2)) (hi : PI X tg iter (tW G X (evL v.E ies) k W)) (ok : BlkOk X.N X.env.scope scope own)
    (hg : ∀ (s : Shared) (H : Hp) (C : Addr) (cl : List (Str × Addr)) (fp : List Addr), PG (X.blk s H scope (compEnvC scope cl C X.env) fp) tg (gTgP G itg))
    (ht : ∀ (s : Shared) (H : Hp) (C : Addr) (cl : List (Str × Addr)) (fp : List Addr), IfsOk (X.blk s H scope (compEnvC scope cl C X.env) fp) G v ifs cond)
    (he : ∀ (s : Shared) (H : Hp) (C : Addr) (cl : List (Str × Addr)) (fp : List Addr), PE (X.blk s H scope (compEnvC scope cl C X.env) fp) elt (tEP G (v.E ielt))) (hf : ∀ x, foldedSetIterable iter X.env x = pure x) :
    PE X (.ListComp elt [⟨tg, iter, ifs, 0⟩] scope pos) (tE G X (stepE C F v (.comp mt (own.map (·.2)) k ies itg cond ielt)) W) := by
  refine PE.imp (pe_lc hc hN hi ok hg (tt := ttOf G v cond) (fun s H C cl fp => ?_) he hf) fun σ H Q h => comp_plan hs h
  have q := ht s H C cl fp
  cases ifs with
  | nil => cases cond with
    | none => exact pts_nil
    | some _ => exact q.elim
  | cons c cs => cases cs with
    | nil => cases cond with
      | none => exact q.elim
      | some ic => exact pts_one q
    | cons _ _ => cases cond <;> exact q.elim
theorem snd_setLc {v : Evs} {mt : Bool} {own : List (Str × Nat)} {k : Itk} {ies : List IE} {itg : Tg} {cond : Option IE} {ielt : IE} {C : Ctx} {F : FEv} {tg iter elt : Expr} {ifs : List Expr} {scope : Scope} {i : Nat} {y : Str} {py spos : Pos} (hc : X.calm = true) (hN : X.N.Nodup)
    (hy : X.N[i]? = some y) (hyl : X.env.scope.names.lookup y = some .local) (hsw : swapsWith (.ListComp elt [⟨tg, iter, ifs, 0⟩] scope pos) (some (.Name y py)) spos.line X.env = pure true)
    (hs : ∀ i ∈ tgIx itg, i ∈ own.map (·.2)) (hi : PI X tg iter (tW G X (evL v.E ies) k W)) (ok : BlkOk X.N X.env.scope scope own)
    (hg : ∀ (s : Shared) (H : Hp) (C : Addr) (cl : List (Str × Addr)) (fp : List Addr), PG (X.blk s H scope (compEnvC scope cl C X.env) fp) tg (gTgP G itg))
    (ht : ∀ (s : Shared) (H : Hp) (C : Addr) (cl : List (Str × Addr)) (fp : List Addr), IfsOk (X.blk s H scope (compEnvC scope cl C X.env) fp) G v ifs cond)
    (he : ∀ (s : Shared) (H : Hp) (C : Addr) (cl : List (Str × Addr)) (fp : List Addr), PE (X.blk s H scope (compEnvC scope cl C X.env) fp) elt (tEP G (v.E ielt))) (hf : ∀ x, foldedSetIterable iter X.env x = pure x) :
    PS X (.Assign [.Name y py] (.ListComp elt [⟨tg, iter, ifs, 0⟩] scope pos) spos) (tAsg (tE G X (stepE C F v (.comp mt (own.map (·.2)) k ies itg cond ielt)) W) (gName i)) := by
  refine PS.imp (ps_setLc hc hN hy hyl hsw hi ok hg (tt := ttOf G v cond) (fun s H C cl fp => ?_) he hf) fun D σ H h => ?_
  · have q := ht s H C cl fp
    cases ifs with
    | nil => cases cond with
      | none => exact pts_nil
      | some _ => exact q.elim
    | cons c cs => cases cs with
      | nil => cases cond with
        | none => exact q.elim
        | some ic => exact pts_one q
      | cons _ _ => cases cond <;> exact q.elim
  · exact comp_plan hs h
end
end Ev
set_option maxHeartbeats 2000000
/-! Soundness, part 10: statements. -/
namespace Ev
open PySem PySem.Spec PyProof.Rows L2
def PostS (G : GC) (X : Cx) (W : WX) (D : Ends) (ρ : Rho) (H : Hp) (o : Out) : Prop := match o with
  | .nx env st => ∀ ρ' σ' H', Later ρ H ρ' H' → Rel G X ρ' env st σ' H' → D.nx σ' H'
  | .brk env st => ∀ ρ' σ' H', Later ρ H ρ' H' → Rel G X ρ' env st σ' H' → D.bk σ' H'
  | .cnt env st => ∀ ρ' σ' H', Later ρ H ρ' H' → Rel G X ρ' env st σ' H' → D.ct σ' H'
  | .ret r st => ∀ v ρ' H', Later ρ H ρ' H' → Sat G ρ' H' st → RepC G.K ρ' H' r v → D.rt v H'
  | .exc c w env st => ∀ dd w' ρ' σ' H', Later ρ H ρ' H' → Rel G X ρ' env st σ' H' → H' dd = some (.xd [("what", w')]) → some dd ∉ ρ' → RepD G.K ρ' H' w w' → W (.ref (G.cls c)) (some dd) σ' H'
  | .bad => False
def tS (G : GC) (X : Cx) (ev : Env → Store → Out) (W : WX) : TS := fun D σ H => ∃ ρ env st, Rel G X ρ env st σ H ∧ PostS G X W D ρ H (ev env st)
section
variable {G : GC} {X : Cx} {W : WX} {pos p1 : Pos} {D : Ends}
theorem PostS.later {ρ ρ1 : Rho} {H H1 : Hp} {o : Out} (p : PostS G X W D ρ H o) (l : Later ρ H ρ1 H1) : PostS G X W D ρ1 H1 o := by
  cases o with
  | nx env st => exact fun ρ' σ' H' l' R => p ρ' σ' H' (l.trans l') R
  | brk env st => exact fun ρ' σ' H' l' R => p ρ' σ' H' (l.trans l') R
  | cnt env st => exact fun ρ' σ' H' l' R => p ρ' σ' H' (l.trans l') R
  | ret r st => exact fun v ρ' H' l' R q => p v ρ' H' (l.trans l') R q
  | exc c w env st => exact fun dd w' ρ' σ' H' l' R a b q => p dd w' ρ' σ' H' (l.trans l') R a b q
  | bad => exact p
/-- an expression first, then the rest of the statement -/
theorem outE {σ : L2.St} {H : Hp} {ρ : Rho} {env : Env} {st : Store} {ev : Env → Store → Res R} {f : R → Store → Out} {T : V → Hp → Prop} (R : Rel G X ρ env st σ H) (p : PostS G X W D ρ H ((ev env st).out env f))
    (hk : ∀ r st1 u ρ1 H1, ev env st = .ok r st1 → Later ρ H ρ1 H1 → Rel G X ρ1 env st1 σ H1 → RepR G X ρ1 H1 r u → PostS G X W D ρ1 H1 (f r st1) → T u H1) : tE G X ev W σ H T := by
  refine ⟨ρ, env, st, R, ?_⟩
  cases e : ev env st with
  | ok r st1 =>
    rw [e] at p
    exact fun u ρ1 H1 l s q => hk r st1 u ρ1 H1 e l (R.later l s) q (PostS.later (o := f r st1) p l)
  | exc c w st1 =>
    rw [e] at p
    exact fun dd w' ρ' H' l s a b q => p dd w' ρ' σ H' l (R.later l s) a b q
  | bad =>
    rw [e] at p
    exact p
theorem outT {σ : L2.St} {H : Hp} {ρ : Rho} {env : Env} {st : Store} {ev : Env → Store → Res Bool} {f : Bool → Store → Out} {T : Bool → Hp → Prop} (R : Rel G X ρ env st σ H) (p : PostS G X W D ρ H (match ev env st with | .ok b st => f b st | .exc c w st => .exc c w env st | .bad => .bad))
    (hk : ∀ r st1 ρ1 H1, ev env st = .ok r st1 → Later ρ H ρ1 H1 → Rel G X ρ1 env st1 σ H1 → PostS G X W D ρ1 H1 (f r st1) → T r H1) : tT G X ev W σ H T := by
  refine ⟨ρ, env, st, R, ?_⟩
  cases e : ev env st with
  | ok r st1 =>
    rw [e] at p
    intro u ρ1 H1 l s q
    have q : u = r := q
    subst q
    exact hk u st1 ρ1 H1 e l (R.later l s) (PostS.later (o := f u st1) p l)
  | exc c w st1 =>
    rw [e] at p
    exact fun dd w' ρ' H' l s a b q => p dd w' ρ' σ H' l (R.later l s) a b q
  | bad =>
    rw [e] at p
    exact p
theorem outA {σ : L2.St} {H : Hp} {ρ : Rho} {env : Env} {st : Store} {ev : Env → Store → Res (List R)} {f : List R → Store → Out} {T : List V → Hp → Prop} (R : Rel G X ρ env st σ H) (p : PostS G X W D ρ H (match ev env st with | .ok b st => f b st | .exc c w st => .exc c w env st | .bad => .bad))
    (hk : ∀ rs st1 us ρ1 H1, ev env st = .ok rs st1 → Later ρ H ρ1 H1 → Rel G X ρ1 env st1 σ H1 → Paired (RepR G X ρ1 H1) rs us → PostS G X W D ρ1 H1 (f rs st1) → T us H1) : tA G X ev W σ H T := by
  refine ⟨ρ, env, st, R, ?_⟩
  cases e : ev env st with
  | ok r st1 =>
    rw [e] at p
    exact fun u ρ1 H1 l s q => hk r st1 u ρ1 H1 e l (R.later l s) q (PostS.later (o := f r st1) p l)
  | exc c w st1 =>
    rw [e] at p
    exact fun dd w' ρ' H' l s a b q => p dd w' ρ' σ H' l (R.later l s) a b q
  | bad =>
    rw [e] at p
    exact p
theorem post_nx {ρ : Rho} {H : Hp} {σ : L2.St} {env : Env} {st : Store} (p : PostS G X W D ρ H (.nx env st)) (R : Rel G X ρ env st σ H) : D.nx σ H := p ρ σ H Later.refl R

/-! ### names -/
theorem swapsWith_no {e : Expr} (h : isComp e = false) (t : Option Expr) (l : Nat) (env : PySem.Env) : swapsWith e t l env = pure false := by
  cases e <;> first | rfl | (simp [isComp] at h)
theorem swapsSole_no {e : Expr} (h : isComp e = false) (t : Expr) (l : Nat) (env : PySem.Env) : swapsWithSole [t] e l env = pure false := by
  cases e <;> first | rfl | (simp [isComp] at h)
theorem s_set {C : Ctx} {F : FEv} {v : Evs} {i : Nat} {ie : IE} {x : Str} {e : Expr} {p : Pos} (hN : X.N.Nodup) (hi : X.N[i]? = some x) (hx : Loc X.env.scope x ∧ (X.fn x = true ∨ X.env.scope.names.lookup x = some .local)) (hc : isComp e = false) (he : PE X e (tE G X (v.E ie) W)) :
    PS X (.Assign [.Name x p] e pos) (tS G X (stepS1 C v (.set i ie)) W) := by
  refine PS.imp (ps_set hN hi hx.1 he (swapsWith_no hc _ _ _) hx.2) ?_
  rintro D σ H ⟨ρ, env, st, R, p⟩
  refine outE R p fun r st1 u ρ1 H1 _ l R1 q p1 => ?_
  cases r with
  | lam _ _ => exact p1.elim
  | d _ => exact post_nx p1 (R1.set q)
  | s _ => exact post_nx p1 (R1.set q)
  | c _ => exact post_nx p1 (R1.set q)
  | x _ _ => exact post_nx p1 (R1.set q)
theorem s_setLc {C : Ctx} {F : FEv} {v : Evs} {i : Nat} {ie : IE} {x : Str} {s : Stmt} (h : PS X s (tAsg (tE G X (v.E ie) W) (gName i))) : PS X s (tS G X (stepS1 C v (.set i ie)) W) := by
  refine PS.imp h ?_
  rintro D σ H ⟨ρ, env, st, R, p⟩
  refine outE R p fun r st1 u ρ1 H1 _ l R1 q p1 => ?_
  cases r with
  | lam _ _ => exact p1.elim
  | d _ => exact post_nx p1 (R1.set q)
  | s _ => exact post_nx p1 (R1.set q)
  | c _ => exact post_nx p1 (R1.set q)
  | x _ _ => exact post_nx p1 (R1.set q)
def isTupE : Expr → Bool
  | .Tuple .. => true
  | _ => false
theorem swappedStores_no {t e : Expr} (h : isTupE e = false) (env : PySem.Env) : swappedStores [t] e env = pure none := by
  cases t <;> cases e <;> first | rfl | (simp [isTupE] at h)
theorem s_unp {C : Ctx} {v : Evs} {is : List Nat} {ie : IE} {ts : List Expr} {k : Nat} {p : Pos} {e : Expr} (hc : isComp e = false) (ht : isTupE e = false) (he : PE X e (tE G X (v.E ie) W)) (hg : PG X (.Tuple ts k p) (gTg G X (.tp is))) :
    PS X (.Assign [.Tuple ts k p] e pos) (tS G X (stepS1 C v (.unp is ie)) W) := by
  refine PS.imp (ps_asg he hg (swapsSole_no hc _ _ _) (swappedStores_no ht _)) ?_
  rintro D σ H ⟨ρ, env, st, R, p⟩
  refine outE R p fun r st1 u ρ1 H1 _ l R1 q p1 => ?_
  cases e : setTg (.tp is) r env with
  | none => simp only [e] at p1; exact p1.elim
  | some env' =>
    simp only [e] at p1
    exact ⟨ρ1, env, st1, r, env', R1, q, e, fun σ' _ R' => post_nx p1 R'⟩
theorem s_setix (gx : GX G X) {C : Ctx} {v : Evs} {ia ii ie : IE} {a i e : Expr} {p : Pos} (hs : isSlice i = false) (hc : isComp e = false) (ha : PE X a (tE G X (v.E ia) W)) (hi : PE X i (tE G X (v.E ii) W)) (he : PE X e (tE G X (v.E ie) W)) :
    PS X (.Assign [.Subscript a i p] e pos) (tS G X (stepS1 C v (.setix ia ii ie)) W) := by
  refine PS.imp (ps_asg he (pg_sub ha hi set_list (by cases i <;> first | (intro _; rfl) | (simp [isSlice] at hs))) (swapsSole_no hc _ _ _) (by cases e <;> rfl)) ?_
  rintro D σ H ⟨ρ, env, st, R, p⟩
  refine outE R p fun r st1 u ρ1 H1 e01 l R1 q p1 => ?_
  refine outE R1 p1 fun o st2 w ρ2 H2 e02 l2 R2 q2 p2 => ?_
  refine outE R2 p2 fun kk st3 z ρ3 H3 e3 l3 R3 q3 p3 => ?_
  split at p3
  · rename_i j k
    split at p3
    · rename_i xs e1
      split at p3
      · rename_i n e2
        split at p3
        · rename_i hb
          obtain ⟨b, vs, rfl, h1, h2, h3, h4⟩ := cell_at R3.sat (q2.later l3) e1
          have ez : z = .int k := repR_int q3
          subst ez
          refine ⟨b, vs, k, n, rfl, rfl, h2, by rw [← Paired.length h3]; exact e2, ?_⟩
          have qq : RepC G.K ρ3 H3 r u := RepR.toC (isC_below hb) ((q.later l2).later l3)
          refine p3 ρ3 σ _ (Later.write (mem_rho.mpr ⟨_, h1⟩)) (R3.later (Later.write (mem_rho.mpr ⟨_, h1⟩)) (R3.sat.write e1 h1 (h3.set qq n) fun x hx => ?_))
          rcases List.mem_or_eq_of_mem_set hx with z | z
          · exact h4 x z
          · subst z; exact hb
        · exact p3.elim
      · exact p3.elim
    · exact p3.elim
  · exact p3.elim
theorem s_aug {C : Ctx} {v : Evs} {i : Nat} {o : Bop} {op : Operator} {ie : IE} {x : Str} {e : Expr} {p : Pos} (ho : augB op o = true) (hN : X.N.Nodup) (hi : X.N[i]? = some x) (hx : Loc X.env.scope x ∧ (X.fn x = true ∨ X.env.scope.names.lookup x = some .local)) (he : PE X e (tE G X (v.E ie) W)) :
    PS X (.AugAssign (.Name x p) op e pos) (tS G X (stepS1 C v (.aug i o ie)) W) := by
  cases op <;> cases o <;> first | (simp [augB] at ho; done) | skip
  · refine PS.imp (ps_aug hN hi hx.1 he iop_add hx.2) ?_
    rintro D σ H ⟨ρ, env, st, R, p⟩
    simp only [stepS1] at p
    split at p
    · rename_i x0 e0
      obtain ⟨u0, h0, q0⟩ := R.env i _ e0
      refine ⟨u0, h0, ?_⟩
      refine outE R p fun r st1 u ρ1 H1 e1 l R1 q p1 => ?_
      split at p1
      · rename_i y
        split at p1
        · rename_i a b _
          have ea : u0 = .int a := repR_int q0
          have eb : u = .int b := repR_int q
          subst ea eb
          exact ⟨a, b, rfl, rfl, post_nx p1 (R1.set (r := .d (.int (a + b))) (v := .int (a + b)) (by show RepD _ _ _ _ _; exact repD_int))⟩
        · exact absurd ‹Bop.add = Bop.sub› (by simp)
        · exact p1.elim
      · exact p1.elim
    · exact p.elim
  · refine PS.imp (ps_aug hN hi hx.1 he iop_sub hx.2) ?_
    rintro D σ H ⟨ρ, env, st, R, p⟩
    simp only [stepS1] at p
    split at p
    · rename_i x0 e0
      obtain ⟨u0, h0, q0⟩ := R.env i _ e0
      refine ⟨u0, h0, ?_⟩
      refine outE R p fun r st1 u ρ1 H1 e1 l R1 q p1 => ?_
      split at p1
      · rename_i y
        split at p1
        · exact absurd ‹Bop.sub = Bop.add› (by simp)
        · rename_i a b _
          have ea : u0 = .int a := repR_int q0
          have eb : u = .int b := repR_int q
          subst ea eb
          exact ⟨a, b, rfl, rfl, post_nx p1 (R1.set (r := .d (.int (a - b))) (v := .int (a - b)) (by show RepD _ _ _ _ _; exact repD_int))⟩
        · exact p1.elim
      · exact p1.elim
    · exact p.elim
theorem s_ex {C : Ctx} {v : Evs} {ie : IE} {e : Expr} (hc : isComp e = false) (he : PE X e (tE G X (v.E ie) W)) : PS X (.Expr e pos) (tS G X (stepS1 C v (.ex ie)) W) := by
  refine PS.imp (ps_expr he (swapsWith_no hc _ _ _)) ?_
  rintro D σ H ⟨ρ, env, st, R, p⟩
  refine outE R p fun r st1 u ρ1 H1 _ l R1 q p1 => ?_
  exact post_nx p1 R1
theorem s_ite {C : Ctx} {v : Evs} {ic : IE} {it jf : List IS} {c : Expr} {a b : List Stmt} (hc : PT X c (tT G X (v.T ic) W)) (ha : PSs X a (tS G X (v.S it) W)) (hb : PSs X b (tS G X (v.S jf) W)) : PS X (.If c a b pos) (tS G X (stepS1 C v (.ite ic it jf)) W) := by
  refine PS.imp (ps_if hc ha hb) ?_
  rintro D σ H ⟨ρ, env, st, R, p⟩
  refine outT (f := fun b st => if b = true then v.S it env st else v.S jf env st) R p fun r st1 ρ1 H1 _ l R1 p1 => ?_
  cases r with
  | true => exact ⟨ρ1, env, st1, R1, p1⟩
  | false => exact ⟨ρ1, env, st1, R1, p1⟩
theorem s_ret {C : Ctx} {v : Evs} {ie : IE} {e : Expr} (he : PE X e (tE G X (v.E ie) W)) : PS X (.Return (some e) pos) (tS G X (stepS1 C v (.ret ie)) W) := by
  refine PS.imp (ps_ret he) ?_
  rintro D σ H ⟨ρ, env, st, R, p⟩
  refine outE R p fun r st1 u ρ1 H1 _ l R1 q p1 => ?_
  cases r with
  | lam _ _ => exact p1.elim
  | x _ _ => exact p1.elim
  | d _ => exact p1 u ρ1 H1 Later.refl R1.sat q
  | s _ => exact p1 u ρ1 H1 Later.refl R1.sat q
  | c _ => exact p1 u ρ1 H1 Later.refl R1.sat q
theorem s_retN {C : Ctx} {v : Evs} : PS X (.Return none pos) (tS G X (stepS1 C v .retN) W) := by
  refine PS.imp ps_retN ?_
  rintro D σ H ⟨ρ, env, st, R, p⟩
  exact p .non ρ H Later.refl R.sat (by show RepD _ _ _ _ _; simp only [RepD])
theorem s_brk {C : Ctx} {v : Evs} : PS X (.Break pos) (tS G X (stepS1 C v .brk) W) := by
  refine PS.imp ps_break ?_
  rintro D σ H ⟨ρ, env, st, R, p⟩
  exact p ρ σ H Later.refl R
theorem s_cont {C : Ctx} {v : Evs} : PS X (.Continue pos) (tS G X (stepS1 C v .cont) W) := by
  refine PS.imp ps_continue ?_
  rintro D σ H ⟨ρ, env, st, R, p⟩
  exact p ρ σ H Later.refl R
theorem s_pass {C : Ctx} {v : Evs} : PS X (.Pass pos) (tS G X (stepS1 C v .pass) W) := by
  refine PS.imp ps_pass ?_
  rintro D σ H ⟨ρ, env, st, R, p⟩
  exact p ρ σ H Later.refl R

/-! ### a, b = x, y -/
def swN (sc : Scope) (line : Nat) : Expr → Option Str
  | .Name id pos => if (sc.names.lookup id == some .local && pos.line == line) = true then some id else none
  | _ => none
theorem swB_ok {sc : Scope} {ts vs : List Expr} {r : Option (List Str)} {k k' : Nat} {p p' : Pos} {env : PySem.Env} (h : swB sc ts vs = some r) (hs : env.scope = sc) (hk : env.blockKind = .function) :
    swappedStores [.Tuple ts k p] (.Tuple vs k' p') env = pure r := by
  unfold swB at h
  unfold swappedStores
  have kq : ∀ id, env.kindOf id = sc.names.lookup id := fun id => by rw [← hs]; rfl
  simp only [hk, kq]
  rw [show (ScopeKind.function != ScopeKind.function) = false from rfl, Bool.or_false]
  split at h
  · rename_i c; rw [if_pos c]; cases h; rfl
  · rename_i c
    rw [if_neg c]
    have e2 : ∀ (f : Expr → Bool), (∀ x, f x = isStar x) → vs.any f = vs.any isStar := fun f hf => by congr; funext x; exact hf x
    rw [e2 _ (fun x => by cases x <;> rfl)]
    split at h
    · rename_i c; rw [if_pos c]; cases h; rfl
    · rename_i c
      rw [if_neg c]
      dsimp only at h
      have e3 : ∀ (f : Expr → Option Str) (line : Nat), (∀ x, f x = swN sc line x) → ts.filterMap f = ts.filterMap (swN sc line) := fun f _ hf => by congr; funext x; exact hf x
      rw [e3 _ ((Option.map (fun x => x.pos.line) ts.head?).getD 0) (fun x => by cases x <;> rfl)] at h ⊢
      split at h
      · rename_i c; rw [if_pos c]; cases h; rfl
      · rename_i c
        rw [if_neg c]
        split at h
        · rename_i c; rw [if_pos c]; cases h; rfl
        · rename_i c
          rw [if_neg c]
          split at h
          · cases h
          · rename_i c
            rw [if_neg c]; cases h; rfl

theorem tgs_okR {N : List Str} {sc : Scope} : ∀ {ts : List Expr} {is : List Nat}, ts.length = is.length → ((ts.zip is).all fun p => match p.1 with | .Name x _ => ixOf N x p.2 && locB sc x | _ => false) = true → X.N = N → X.N.Nodup → StoreOk X sc →
    ∃ t : TGs, PGs X ts t ∧ ∀ (ρ : Rho) (env : Env) (st : Store) (σ : L2.St) (H : Hp) (xs : List R) (vs : List V) (Q : L2.St → Hp → Prop), Rel G X ρ env st σ H → Paired (RepR G X ρ H) xs vs → xs.length = is.length → (∀ σ', Rel G X ρ ((is.zip xs).foldl (fun e p => e.set p.1 (some p.2)) env) st σ' H → Q σ' H) → t vs σ H Q
  | [], [], _, _, _, _, _ => ⟨gNil, pgs_nil, fun ρ env st σ H xs vs Q R r e q => by
      cases r with
      | nil => exact ⟨rfl, q σ R⟩
      | cons _ _ => simp at e⟩
  | t :: ts, i :: is, hl, h, hN, hnd, hfn => by
    simp only [List.zip_cons_cons, List.all_cons, Bool.and_eq_true] at h
    obtain ⟨h1, h2⟩ := h
    obtain ⟨u, hu, ku⟩ := tgs_okR (by simpa using hl) h2 hN hnd hfn
    cases t with
    | Name x p =>
      simp only [Bool.and_eq_true, ixOf, decide_eq_true_eq] at h1
      obtain ⟨hx, hf⟩ := hfn x h1.2
      refine ⟨gCons (gName i) u, pgs_cons (pg_name hnd (by rw [hN]; exact h1.1) hx hf) hu, fun ρ env st σ H xs vs Q R r e q => ?_⟩
      cases r with
      | nil => simp at e
      | cons r1 r2 =>
        exact ⟨_, _, rfl, ku ρ _ st _ H _ _ Q (R.set r1) r2 (by simpa using e) fun σ' R' => q σ' R'⟩
    | _ => exact absurd h1 (by simp)
theorem noStar {N : List Str} {sc : Scope} {env : PySem.Env} : ∀ (ts : List Expr) (is : List Nat), ts.length = is.length → ((ts.zip is).all fun p => match p.1 with | .Name x _ => ixOf N x p.2 && locB sc x | _ => false) = true → (assignEach ts env).length = ts.length ∧ (assignEach ts env).findIdx? (·.1) = none := by
  intro ts
  induction ts with
  | nil => intro is _ _; exact ⟨rfl, rfl⟩
  | cons t ts ih =>
    intro is hl ha
    cases is with
    | nil => simp at hl
    | cons i is =>
      simp only [List.zip_cons_cons, List.all_cons, Bool.and_eq_true] at ha
      obtain ⟨i1, i2⟩ := ih is (by simpa using hl) ha.2
      cases t with
      | Name x p =>
        refine ⟨?_, ?_⟩
        · show ((false, assign (.Name x p) env) :: assignEach ts env).length = _
          simp [i1]
        · show ((false, assign (.Name x p) env) :: assignEach ts env).findIdx? (·.1) = none
          rw [List.findIdx?_cons]
          simp [i2]
      | _ => exact absurd ha.1 (by simp)
theorem loc_ne {n : Nat} {σ : L2.St} : σ.length = n → True := fun _ => trivial
theorem s_par (gx : GX G X) {N : List Str} {sc : Scope} {C : Ctx} {v : Evs} {is : List Nat} {ies : List IE} {ts es : List Expr} {kt k2 : Nat} {pt p2 : Pos} (hc : X.calm = true) (hN : X.N = N) (hnd : X.N.Nodup) (hsc : X.env.scope = sc) (hk : X.env.blockKind = .function) (hfn : StoreOk X sc)
    (hle : ts.length = es.length) (hli : is.length = ts.length) (hni : is.Nodup) (htg : ckTg N sc (.Tuple ts 0 ⟨0, 0, 0, 0⟩) (.tp is) = true) (hp : parB sc ts es = true) (he : PA X es (tA G X (evL v.E ies) W)) (hel : ies.length = es.length) :
    PS X (.Assign [.Tuple ts kt pt] (.Tuple es k2 p2) pos) (tS G X (stepS1 C v (.par is ies)) W) := by
  have htg2 := htg
  simp only [ckTg, Bool.and_eq_true, decide_eq_true_eq] at htg2
  unfold parB at hp
  cases e : swB sc ts es with
  | none => rw [e] at hp; cases hp
  | some r =>
    rw [e] at hp
    cases r with
    | none =>
      simp only [decide_eq_true_eq] at hp
      obtain ⟨u, hu, ku⟩ := tgs_okR (G := G) htg2.1 htg2.2 hN hnd hfn
      obtain ⟨n1, n2⟩ := noStar (env := X.env) ts is htg2.1 htg2.2
      refine PS.imp (ps_asg (pe_tup he) (pg_tup hc hu (n := ts.length) n1 n2) (swapsSole_no rfl _ _ _) (swB_ok e hsc hk)) ?_
      rintro D σ H ⟨ρ, env, st, R, p⟩
      refine outA (f := fun rs st => if is.length = rs.length then .nx ((is.zip rs).foldl (fun e p => e.set p.1 (some p.2)) env) st else .bad) R p fun rs st1 us ρ1 H1 e1 l R1 q p1 => ?_
      have hlr : rs.length = ies.length := evL_length e1
      have hlu : us.length = rs.length := (Paired.length q).symm
      have hz : (100 : Nat) ≤ sizeLine := by decide
      have hir : is.length = rs.length := by omega
      rw [if_pos hir] at p1
      refine ⟨by omega, fun a ha => ⟨a, us, rfl, .inl (.inl upd_same), by omega, ?_⟩⟩
      have L := Later.laid (ρ := ρ1) (o := .tup us) ha
      exact ku ρ1 env st1 σ _ rs us _ (R1.later L (R1.sat.laid ha)) (Paired.mapP q fun _ _ z => z.later L) hir.symm fun σ' R' => p1 ρ1 σ' _ L R'
    | some ns =>
      simp only [Bool.and_eq_true, decide_eq_true_eq] at hp
      obtain ⟨hns, hp⟩ := hp
      have sw := fun k k' p p' => swB_ok (k := k) (k' := k') (p := p) (p' := p') e hsc hk
      split at hp
      · rename_i x px y py a b
        simp only [Bool.and_eq_true, decide_eq_true_eq] at hp
        match is, hli with
        | [i, j], _ =>
          simp only [List.zip_cons_cons, List.all_cons, Bool.and_eq_true, ixOf, decide_eq_true_eq] at htg2
          have hns : ns = [x, y] := by
            simp only [List.map_cons, List.map_nil] at hns
            match ns, hns with
            | [a, b], hns => simp at hns; rw [hns.1, hns.2]
          subst hns
          refine PS.imp (ps_par hc hnd (by rw [hN]; exact htg2.2.1.1) (by rw [hN]; exact htg2.2.2.1.1) (by simpa using hni) (by rw [hsc]; exact hp.1) (by rw [hsc]; exact hp.2) he (sw _ _ _ _)) ?_
          rintro D σ H ⟨ρ, env, st, R, p⟩
          refine outA (f := fun rs st => if [i, j].length = rs.length then .nx (([i, j].zip rs).foldl (fun e p => e.set p.1 (some p.2)) env) st else .bad) R p fun rs st1 us ρ1 H1 e1 l R1 q p1 => ?_
          have hlr : rs.length = ies.length := evL_length e1
          simp only [List.length_cons, List.length_nil] at hel
          cases q with
          | nil => simp at hlr; omega
          | cons q1 q => cases q with
            | nil => simp at hlr; omega
            | cons q2 q => cases q with
              | cons _ _ => simp at hlr; omega
              | nil =>
                rw [if_pos (by simp)] at p1
                exact ⟨_, _, rfl, post_nx p1 ((R1.set q1).set q2)⟩
      · rename_i x px y py z pz a b c
        simp only [Bool.and_eq_true, decide_eq_true_eq] at hp
        match is, hli with
        | [i, j, l], _ =>
          simp only [List.zip_cons_cons, List.all_cons, Bool.and_eq_true, ixOf, decide_eq_true_eq] at htg2
          have hns : ns = [x, y, z] := by
            simp only [List.map_cons, List.map_nil] at hns
            match ns, hns with
            | [a, b, c], hns => simp at hns; rw [hns.1, hns.2.1, hns.2.2]
          subst hns
          simp only [List.nodup_cons, List.mem_cons, List.not_mem_nil, or_false, not_or, List.nodup_nil, not_false_eq_true, and_true] at hni
          refine PS.imp (ps_par3 hc hnd (by rw [hN]; exact htg2.2.1.1) (by rw [hN]; exact htg2.2.2.1.1) (by rw [hN]; exact htg2.2.2.2.1.1) hni.1.1 hni.1.2 hni.2 (by rw [hsc]; exact hp.1.1) (by rw [hsc]; exact hp.1.2) (by rw [hsc]; exact hp.2) he (sw _ _ _ _)) ?_
          rintro D σ H ⟨ρ, env, st, R, p⟩
          refine outA (f := fun rs st => if [i, j, l].length = rs.length then .nx (([i, j, l].zip rs).foldl (fun e p => e.set p.1 (some p.2)) env) st else .bad) R p fun rs st1 us ρ1 H1 e1 l R1 q p1 => ?_
          have hlr : rs.length = ies.length := evL_length e1
          simp only [List.length_cons, List.length_nil] at hel
          cases q with
          | nil => simp at hlr; omega
          | cons q1 q => cases q with
            | nil => simp at hlr; omega
            | cons q2 q => cases q with
              | nil => simp at hlr; omega
              | cons q3 q => cases q with
                | cons _ _ => simp at hlr; omega
                | nil =>
                  rw [if_pos (by simp)] at p1
                  exact ⟨_, _, _, rfl, post_nx p1 (((R1.set q1).set q2).set q3)⟩
      · cases hp
end
end Ev
set_option maxHeartbeats 2000000
/-! Soundness, part 11: for, sequences of statements. -/
namespace Ev
open PySem PySem.Spec PyProof.Rows L2
section
variable {G : GC} {X : Cx} {W : WX} {pos p1 : Pos} {D : Ends}
theorem RepC.cut2 {K : PySem.W.Frag} {ρ : Rho} {H : Hp} {r : R} {v : V} {n : Nat} (hb : ∀ i, r = .c i → i < n) (h : RepC K ρ H r v) (hn : n ≤ ρ.length) : RepC K (ρ.take n) H r v := by
  cases r with
  | d x => exact RepD.cut x v h
  | s ns =>
    obtain ⟨a, e, h⟩ := h
    refine ⟨a, e, ?_⟩
    rcases h with ⟨n1, h⟩ | h
    · exact .inl ⟨notMem_take n1, h⟩
    · exact .inr h
  | c i =>
    obtain ⟨a, e, h1, h2⟩ := h
    have hi := hb i rfl
    refine ⟨a, e, by simp; omega, fun b q => h2 b ?_⟩
    rwa [List.getElem?_take_of_lt hi] at q
  | lam _ _ => exact h
  | x _ _ => exact h
theorem cutC_get {n : Nat} {env : Env} {j : Nat} {r : R} (h : (cutC n env)[j]? = some (some r)) : env[j]? = some (some r) ∧ ∀ i, r = .c i → i < n := by
  unfold cutC at h
  rw [List.getElem?_map] at h
  cases e : env[j]? with
  | none => rw [e] at h; cases h
  | some o =>
    rw [e] at h
    simp only [Option.map_some, Option.some.injEq] at h
    cases o with
    | none => cases h
    | some r' =>
      cases r' with
      | c i =>
        simp only at h
        split at h
        · rename_i hi
          cases h
          exact ⟨rfl, fun k q => by cases q; exact hi⟩
        · cases h
      | d _ => cases h; exact ⟨rfl, fun k q => by cases q⟩
      | s _ => cases h; exact ⟨rfl, fun k q => by cases q⟩
      | lam _ _ => cases h; exact ⟨rfl, fun k q => by cases q⟩
      | x _ _ => cases h; exact ⟨rfl, fun k q => by cases q⟩
theorem RepR.cut {ρ : Rho} {H : Hp} {n : Nat} {r : R} {v : V} (hn : n ≤ ρ.length) (h : RepR G X ρ H r v) : ∀ r', (match r with | .c i => if i < n then some (R.c i) else none | .lam e env' => some (.lam e (cutC n env')) | r => some r) = some r' → RepR G X (ρ.take n) H r' v := by
  intro r' e
  cases r with
  | lam b env =>
    cases e
    obtain ⟨f, e1, Y, pins, σ, HY, sY, scope, body, pm, ctv, c', m, h1, h2, h3, h4, h5, h6, h7, h8, h8b, h9, h10, h11, h12, h13⟩ := h
    refine ⟨f, e1, Y, pins, σ, HY, sY, scope, body, pm, ctv, c', m, h1, h2, h3, h4, h5, h6, h7, h8, h8b, h9, notMem_take h10, h11, ⟨?_, fun i r q => ?_⟩, h13⟩
    · unfold cutC; rw [List.length_map]; exact h12.1
    · obtain ⟨q1, q2⟩ := cutC_get q
      obtain ⟨w, e2, q3⟩ := h12.2 i r q1
      exact ⟨w, e2, q3.cut2 q2 hn⟩
  | x c w =>
    cases e
    obtain ⟨a, dd, oe, w', e1, h1, h2, h3, h4, h5, h6⟩ := h
    exact ⟨a, dd, oe, w', e1, h1, h2, h3, h4, notMem_take h5, RepD.cut _ _ h6⟩
  | d x => cases e; exact RepC.cut2 (K := G.K) (r := .d x) (fun i q => by cases q) h hn
  | s ns => cases e; exact RepC.cut2 (K := G.K) (r := .s ns) (fun i q => by cases q) h hn
  | c i =>
    simp only at e
    split at e
    · rename_i hi
      cases e
      exact RepC.cut2 (K := G.K) (H := H) (r := .c i) (fun k q => by cases q; exact hi) h hn
    · cases e
theorem Rel.cut {ρ : Rho} {env : Env} {st : Store} {σ : L2.St} {H : Hp} (R : Rel G X ρ env st σ H) {n : Nat} (hn : n ≤ st.length) : Rel G X (ρ.take n) (cutEnv n env) (st.take n) σ H := by
  refine ⟨R.sat.cut hn, by unfold cutEnv; rw [List.length_map, R.len], fun i r e => ?_⟩
  unfold cutEnv at e
  rw [List.getElem?_map] at e
  cases e1 : env[i]? with
  | none => rw [e1] at e; cases e
  | some o =>
    rw [e1] at e
    simp only [Option.map_some, Option.some.injEq] at e
    cases o with
    | none => cases e
    | some r' =>
      obtain ⟨v, h1, h2⟩ := R.env i r' e1
      refine ⟨v, h1, RepR.cut (by rw [R.sat.st.len]; exact hn) h2 r ?_⟩
      cases r' <;> exact e
theorem Rel.trim {ρ0 ρ : Rho} {H0 : Hp} {env : Env} {st : Store} {σ : L2.St} {H : Hp} (R : Rel G X ρ env st σ H) {n : Nat} (l : Later ρ0 H0 ρ H) (hn : ρ0.length ≤ n) : ∃ ρ', Later ρ0 H0 ρ' H ∧ ρ'.length ≤ n ∧ Rel G X ρ' (Ev.trim n env st).1 (Ev.trim n env st).2 σ H := by
  unfold Ev.trim
  by_cases h : st.length ≤ n
  · rw [if_pos h]
    exact ⟨ρ, l, by rw [R.sat.st.len]; exact h, R⟩
  · rw [if_neg h]
    exact ⟨ρ.take n, l.cut hn, by simp; omega, R.cut (by omega)⟩
/-- for -/
theorem for_plan {v : Evs} {k : Itk} {ies : List IE} {itg : Tg} {ib : List IS} {C : Ctx} {D : Ends} {σ : L2.St} {H : Hp} (h : tS G X (stepS1 C v (.for k ies itg ib)) W D σ H) :
    tFor (tW G X (evL v.E ies) k W) (gTg G X itg) (tS G X (v.S ib) W) D σ H := by
  obtain ⟨ρ, env, st, R, p⟩ := h
  refine ⟨ρ, env, st, R, ?_⟩
  simp only [stepS1] at p
  cases e : evL v.E ies env st with
  | bad => rw [e] at p; exact p.elim
  | exc c w st1 =>
    rw [e] at p
    exact fun dd w' ρ' H' l s a b q => p dd w' ρ' σ H' l (R.later l s) a b q
  | ok rs st1 =>
    rw [e] at p
    simp only at p
    simp only [PostW]
    cases ew : walks k rs st1 with
    | none => rw [ew] at p; exact p.elim
    | some xs =>
      rw [ew] at p
      simp only at p ⊢
      intro J S ρ0 H0 l0 S0 ok s0
      have p := PostS.later p l0
      have len0 : ρ0.length = st1.length := S0.st.len
      refine ⟨fun i m σ' H' => m = xs.length - i ∧ i ≤ xs.length ∧ ∃ ρ env st, Later ρ0 H0 ρ H' ∧ ρ.length ≤ st1.length ∧ Rel G X ρ env st σ' H' ∧ PostS G X W D ρ H' (forL (same rs st1) st1.length (forB v itg ib) (xs.drop i) env st),
        ⟨xs.length, by simp, Nat.zero_le _, ρ0, env, st1, Later.refl, by omega, R.later l0 S0, by simpa using p⟩, ?_⟩
      rintro i m σ1 H1 ⟨rfl, hi, ρ1, env1, st2, l1, n1, R1, p1⟩
      by_cases hlt : i < xs.length
      · rw [List.drop_eq_getElem_cons hlt] at p1
        unfold forL at p1
        split at p1
        · rename_i hsame
          have sk := ok.keep _ _ _ _ _ _ s0 l1 hsame
          refine .inr ⟨ok.go i ρ1 H1 st2 R1.sat sk hlt, fun σ' H' => ∃ ρ env st, Later ρ0 H0 ρ H' ∧ ρ.length ≤ st1.length ∧ Rel G X ρ env st σ' H' ∧ PostS G X W D ρ H' (forL (same rs st1) st1.length (forB v itg ib) (xs.drop (i + 1)) env st),
            fun σ' H' nx => ⟨xs.length - (i + 1), by omega, rfl, hlt, nx⟩, fun x H2 y => ?_⟩
          obtain ⟨l2, s2, q2⟩ := ok.yld i ρ1 H1 st2 x H2 xs[i] R1.sat sk y (by simp [hlt])
          have p2 := PostS.later p1 l2
          unfold forB at p2
          cases et : setTg itg xs[i] env1 with
          | none => rw [et] at p2; exact p2.elim
          | some env' =>
            rw [et] at p2
            simp only at p2
            refine ⟨ρ1, env1, st2, xs[i], env', R1.later l2 s2, RepR.ofC q2, et, fun σ' _ R' => ⟨ρ1, env', st2, R', ?_⟩⟩
            have L2' := l1.trans l2
            cases eb : v.S ib env' st2 with
            | bad => rw [eb] at p2; exact p2
            | ret r st3 => rw [eb] at p2; exact p2
            | exc c w env3 st3 => rw [eb] at p2; exact p2
            | brk env3 st3 =>
              rw [eb] at p2
              intro ρ' σ'' H' l R''
              obtain ⟨ρt, l3, n3, R3⟩ := R''.trim l n1
              exact p2 ρt σ'' H' l3 R3
            | nx env3 st3 =>
              rw [eb] at p2
              intro ρ' σ'' H' l R''
              obtain ⟨ρt, l3, n3, R3⟩ := R''.trim l n1
              exact ⟨ρt, _, _, L2'.trans l3, n3, R3, PostS.later p2 l3⟩
            | cnt env3 st3 =>
              rw [eb] at p2
              intro ρ' σ'' H' l R''
              obtain ⟨ρt, l3, n3, R3⟩ := R''.trim l n1
              exact ⟨ρt, _, _, L2'.trans l3, n3, R3, PostS.later p2 l3⟩
        · exact p1.elim
      · have ei : i = xs.length := by omega
        subst ei
        rw [List.drop_length] at p1
        unfold forL at p1
        split at p1
        · rename_i hsame
          exact .inl ⟨ok.stop _ _ _ R1.sat (ok.keep _ _ _ _ _ _ s0 l1 hsame), post_nx p1 R1⟩
        · exact p1.elim
theorem s_for {v : Evs} {k : Itk} {ies : List IE} {itg : Tg} {ib : List IS} {C : Ctx} {tg iter : Expr} {body : List Stmt} (hp : PassesOwn (model X.prog X.w) X.A X.env X.xe) (hc : X.calm = true) (hi : PI X tg iter (tW G X (evL v.E ies) k W)) (hg : PG X tg (gTg G X itg)) (hb : PSs X body (tS G X (v.S ib) W)) (hs : isSet iter = false) :
    PS X (.For tg iter body [] pos) (tS G X (stepS1 C v (.for k ies itg ib)) W) := by
  refine PS.imp (ps_for hp hc hi hg hb (by cases iter <;> first | (intro _; rfl) | (simp [isSet] at hs))) fun D σ H h => for_plan h
/-- sequences -/
theorem ss_nil {C : Ctx} {v : Evs} : PSs X [] (tS G X (stepS C v []) W) := by
  refine PSs.imp pss_nil ?_
  rintro D σ H ⟨ρ, env, st, R, p⟩
  exact p ρ σ H Later.refl R
theorem ss_cons {C : Ctx} {v : Evs} {s : Stmt} {ss : List Stmt} {i : IS} {is : List IS} (h1 : PS X s (tS G X (stepS1 C v i) W)) (h2 : PSs X ss (tS G X (stepS C v is) W)) : PSs X (s :: ss) (tS G X (stepS C v (i :: is)) W) := by
  refine PSs.imp (pss_cons h1 h2) ?_
  rintro D σ H ⟨ρ, env, st, R, p⟩
  refine ⟨ρ, env, st, R, ?_⟩
  simp only [stepS] at p
  cases e : stepS1 C v i env st with
  | bad => rw [e] at p; exact p
  | ret r st1 => rw [e] at p; exact p
  | exc c w env1 st1 => rw [e] at p; exact p
  | brk env1 st1 => rw [e] at p; exact p
  | cnt env1 st1 => rw [e] at p; exact p
  | nx env1 st1 =>
    rw [e] at p
    exact fun ρ' σ' H' l R' => ⟨ρ', env1, st1, R', PostS.later p l⟩
/-- the ghost: a cell becomes data -/
theorem ss_frz {C : Ctx} {v : Evs} {ss : List Stmt} {i : Nat} {is : List IS} (h : PSs X ss (tS G X (stepS C v is) W)) : PSs X ss (tS G X (stepS C v (.frz i :: is)) W) := by
  refine PSs.imp h ?_
  rintro D σ H ⟨ρ, env, st, R, p⟩
  simp only [stepS, stepS1] at p
  cases e : env[i]? with
  | none => rw [e] at p; exact p.elim
  | some o =>
    cases o with
    | none => rw [e] at p; exact p.elim
    | some r =>
      rw [e] at p
      simp only at p
      obtain ⟨u, hu, q⟩ := R.env i r e
      have hset : σ.set i (some u) = σ := by
        apply List.ext_getElem?
        intro j
        by_cases hij : i = j
        · subst hij
          rw [List.getElem?_set_self (List.getElem?_eq_some_iff.mp hu).1, hu]
        · rw [List.getElem?_set_ne hij]
      cases r with
      | d x =>
        simp only [freeze, Res.out] at p
        have R' : Rel G X ρ (env.set i (some (.d x))) st σ H := by
          have := R.set (i := i) q
          rwa [hset] at this
        exact ⟨ρ, _, st, R', p⟩
      | c j =>
        simp only [freeze] at p
        cases e2 : st[j]? with
        | none => rw [e2] at p; exact p.elim
        | some c => cases c with
          | dead => rw [e2] at p; exact p.elim
          | lst xs =>
            rw [e2] at p
            simp only at p
            cases e3 : allD xs with
            | none => rw [e3] at p; exact p.elim
            | some ds =>
              rw [e3] at p
              simp only [Res.out] at p
              obtain ⟨a, vs, eu, h1, h2, h3, h4⟩ := cell_at R.sat q e2
              subst eu
              have hds := RepCs.ds h3 e3
              have L := Later.kill R.sat.st (i := j)
              have hj : j < st.length := (List.getElem?_eq_some_iff.mp e2).1
              have hr : j < ρ.length := (List.getElem?_eq_some_iff.mp h1).1
              have R1 := R.later L (R.sat.kill hj)
              have R' := R1.set (i := i) (r := .d (.list ds)) (v := .ref a) (by
                show RepD G.K (ρ.set j none) H (.list ds) (.ref a)
                simp only [RepD]
                exact ⟨a, vs, rfl, mem_set_none ⟨hr, fun b hb => by rw [h1] at hb; simpa using hb.symm⟩ R.sat.st.inj h1, h2, RepDs.later L _ _ hds⟩)
              rw [hset] at R'
              exact ⟨_, _, _, R', PostS.later p L⟩
      | s _ => exact p.elim
      | lam _ _ => exact p.elim
      | x _ _ => exact p.elim
end
end Ev
set_option maxHeartbeats 2000000
/-! Soundness, part 12: the call of a def, lambdas as its arguments; the call of such a lambda. -/
namespace Ev
open PySem PySem.Spec PyProof.Rows L2
/-- an argument as the callee sees it -/
def ArgR (G : GC) (H0 : Hp) (s0 : Shared) (fs : List Addr) (ρ : Rho) (H : Hp) (r : R) (v : V) : Prop := ∀ X' : Cx, X'.H_0 = H0 → X'.s_0 = s0 → X'.fs = fs → X'.ex = [] → RepR G X' ρ H r v
/-- the defs at a level are sound -/
def FnSnd (G : GC) (F : FEv) (k : Nat) : Prop := ∀ (f : Nat) (fn : Str), G.nc.fns[f]? = some fn → ∀ (A : Around) (outer : List PySem.Env) (s : Shared) (H : Hp) (us : List Value) (vs : List V) (rs : List R) (ρ : Rho) (st : Store) (Q : VK) (E : XK),
  Room k A → A.guards = some [] → Env0 G.P G.w G.K G.mg G.base A outer s H → Vals vs us → Sat G ρ H st → Paired (ArgR G H s (frs outer) ρ H) rs vs → PostG G (RepC G.K) (fun c d _ H' => E c d H') [] ρ H Q (F f rs st) →
  codeAny (model G.P G.w) A (.call (.ref (G.fa f)) ⟨us, []⟩) (CR (L2N.CX G.P G.w) outer G.P G.w H s Q E) s
/-- closures' bodies at a level are sound -/
def ClSnd (G : GC) (L : IE → Env → Store → Res R) (k : Nat) : Prop := ∀ (Y : Cx) (n : Nat) (scope : Scope) (body : Expr) (e : IE) (W : WX), GX G Y → Y.N.Nodup → Y.env.scope = scope → Y.calm = true → Room k Y.A → Y.A.guards = some [] → n ≤ textDepth → L2N.Takes Y W →
  ckE { G.nc with lam := false, hot := 0 } Y.N n scope body e = true → PE Y body (tE G Y (L e) W)
/-- an argument in the caller; pl: the lambdas made -/
def MidR (G : GC) (X : Cx) (σ : L2.St) (pl : List (Addr × Obj)) (ρ : Rho) (H : Hp) (r : R) (v : V) : Prop := match r with
  | .lam e env => (∃ f, v = .ref f ∧ CloAt G X ρ H f e env) ∨ ∃ (f : Addr) (scope : Scope) (body : Expr) (pm ctv : Value) (c' : Addr) (n : Nat), v = .ref f ∧ (f, lamObj X.env.qual body scope (cloFrom X.env.cells scope.names []) pm ctv c') ∈ pl ∧ f ∉ frs X.stack ∧ LamX.LamS X.env.scope scope ∧
      H c' = some (LamX.CodeO c' (X.env.qual ++ "<lambda>")) ∧ some c' ∉ ρ ∧ ckE { G.nc with lam := false, hot := 0 } X.N n scope body e = true ∧ EnvC G.K ρ H env σ ∧ n ≤ textDepth
  | r => RepC G.K ρ H r v
theorem MidR.later {G : GC} {X : Cx} {σ : L2.St} {pl pl' : List (Addr × Obj)} {ρ ρ' : Rho} {H H' : Hp} {r : R} {v : V} (h : MidR G X σ pl ρ H r v) (l : Later ρ H ρ' H') (hp : ∀ p ∈ pl, p ∈ pl') : MidR G X σ pl' ρ' H' r v := by
  cases r with
  | lam e env =>
    rcases h with h | h
    · exact .inl (RepR.later (G := G) (X := X) l (r := .lam e env) h)
    · obtain ⟨f, scope, body, pm, ctv, c', n, h1, h2, h3, h4, h5, h6, h7, h8, h9⟩ := h
      obtain ⟨b1, b2⟩ := l.keep c' _ h5 h6 (fun _ z => by cases z)
      exact .inr ⟨f, scope, body, pm, ctv, c', n, h1, hp _ h2, h3, h4, b1, b2, h7, h8.later l, h9⟩
  | d x => exact RepC.later (K := G.K) l (r := .d x) h
  | s ns => exact RepC.later (K := G.K) l (r := .s ns) h
  | c i => exact RepC.later (K := G.K) l (r := .c i) h
  | x _ _ => exact (show False from h).elim
/-- arguments of a call, lambdas among them -/
structure PAL (X : Cx) (es : List Expr) (t : L2.St → Hp → (List V → List (Addr × Obj) → Hp → Prop) → Prop) : Prop where
  run : ∀ (pos : Pos) (pins : List (Addr × Obj)) (s : Shared) (σ : L2.St) (H : Hp) (Q : List V → List (Addr × Obj) → Hp → Prop), Inv X pins σ H s → t σ H Q →
    wpAny (model X.prog X.w) X.A (spliced (backTo pos (starEach es X.env))) (fun us s' => ∃ vs pl H', Inv X (pins ++ pl) σ H' s' ∧ Vals vs us ∧ Q vs pl H') X.xe s
def tAL (G : GC) (X : Cx) (ev : Env → Store → Res (List R)) (W : WX) : L2.St → Hp → (List V → List (Addr × Obj) → Hp → Prop) → Prop := fun σ H Q => ∃ ρ env st, Rel G X ρ env st σ H ∧
  PostG G (fun ρ H rs (up : List V × List (Addr × Obj)) => Paired (MidR G X σ up.2 ρ H) rs up.1) W σ ρ H (fun up H => Q up.1 up.2 H) (ev env st)
section
variable {G : GC} {X : Cx} {W : WX} {pos p1 : Pos}
theorem pal_nil {E : IE → Env → Store → Res R} : PAL X [] (tAL G X (evL E []) W) := by
  refine ⟨fun pos pins s σ H Q I h => ?_⟩
  obtain ⟨ρ, env, st, R, p⟩ := h
  exact Calls.spliced_nil ⟨[], [], H, by rw [List.append_nil]; exact I, .nil, p ([], []) ρ H Later.refl R.sat .nil⟩
theorem notLam_arg {v : Evs} {ie : IE} (h : (match ie with | .lam _ => false | _ => true) = true) : argE v ie = fun env st => (v.E ie env st).bind fun r st => if isCBL r then .ok r st else .bad := by
  funext env st
  cases ie <;> first | rfl | (simp at h)
theorem isC_of {r : R} (h : isCB r = true) : isC r := by cases r <;> first | trivial | (simp [isCB] at h)
theorem mid_of {σ : L2.St} {pl : List (Addr × Obj)} {ρ : Rho} {H : Hp} {r : R} {v : V} (h : RepC G.K ρ H r v) : MidR G X σ pl ρ H r v := by
  cases r with
  | lam _ _ => exact (show False from h).elim
  | x _ _ => exact h
  | d _ => exact h
  | s _ => exact h
  | c _ => exact h
theorem mid_ofR {σ : L2.St} {ρ : Rho} {H : Hp} {r : R} {v : V} (hr : isCBL r = true) (h : RepR G X ρ H r v) : MidR G X σ [] ρ H r v := by
  cases r with
  | lam _ _ => exact .inl h
  | x _ _ => simp [isCBL] at hr
  | d _ => exact h
  | s _ => exact h
  | c _ => exact h
theorem pal_cons {v : Evs} {e : Expr} {es : List Expr} {ie : IE} {ies : List IE} (hl : (match ie with | .lam _ => false | _ => true) = true) (h1 : PE X e (tE G X (v.E ie) W)) (h2 : PAL X es (tAL G X (evL (argE v) ies) W)) (hs : isStar e = false) :
    PAL X (e :: es) (tAL G X (evL (argE v) (ie :: ies)) W) := by
  refine ⟨fun pos pins s σ H Q I h => ?_⟩
  obtain ⟨ρ, env, st, R, p⟩ := h
  simp only [evL, notLam_arg hl] at p
  rw [isStar_each hs]
  show wpAny _ _ (spliced ((false, eval e X.env) :: backTo pos (starEach es X.env))) _ _ s
  refine Calls.spliced_cons (thn (h1.run pins s σ H (fun u H1 => ∃ r ρ1 st1, Later ρ H ρ1 H1 ∧ Rel G X ρ1 env st1 σ H1 ∧ MidR G X σ [] ρ1 H1 r u ∧ PostG G (fun ρ H rs (up : List V × List (Addr × Obj)) => Paired (MidR G X σ up.2 ρ H) rs up.1) W σ ρ1 H1 (fun up H => Q up.1 up.2 H) ((evL (argE v) ies env st1).bind fun rs st => .ok (r :: rs) st)) I ?_) fun u s1 ⟨x, H1, I1, r1, q1⟩ => ?_)
  · refine ⟨ρ, env, st, R, ?_⟩
    cases e1 : v.E ie env st with
    | ok r st1 =>
      rw [e1] at p
      intro u ρ1 H1 l s' q
      simp only [Res.bind] at p
      by_cases hr : isCBL r = true
      · rw [if_pos hr] at p
        exact ⟨r, ρ1, st1, l, R.later l s', mid_ofR hr q, PostG.later (m := (evL (argE v) ies env st1).bind fun rs st => .ok (r :: rs) st) p l⟩
      · rw [if_neg hr] at p
        exact p.elim
    | exc c w st1 =>
      rw [e1] at p
      exact p
    | bad =>
      rw [e1] at p
      exact p
  · obtain ⟨r, ρ1, st1, l1, R1, q, p1⟩ := q1
    refine thn (h2.run pos pins s1 σ H1 (fun vs pl H2 => Q (x :: vs) pl H2) I1 ⟨ρ1, env, st1, R1, ?_⟩) fun us s2 ⟨vs, pl, H2, I2, r2, q2⟩ => ⟨x :: vs, pl, H2, I2, .cons r1 r2, q2⟩
    cases e1 : evL (argE v) ies env st1 with
    | ok rs st2 =>
      rw [e1] at p1
      intro up ρ2 H2 l s' q2
      exact p1 (x :: up.1, up.2) ρ2 H2 l s' (.cons (q.later l fun _ z => nomatch z) q2)
    | exc c w st2 =>
      rw [e1] at p1
      exact p1
    | bad =>
      rw [e1] at p1
      exact p1
/-- what making a lambda asks of the maker -/
def LamMk (G : GC) (X : Cx) : Prop := ∃ c P : Addr, LamX.TabB X.base X.mg c P ∧ X.env.code = .ref c ∧ (P, X.env.qual ++ "<lambda>") ∈ G.T ∧ ∀ p ∈ G.T, p.1 = P → p.2 = X.env.qual ++ "<lambda>"
theorem ext_later {ρ : Rho} {H H1 : Hp} (e : LamX.ExtN H H1) : Later ρ H ρ H1 := ⟨fun b o h n t => ⟨e b o h t, n⟩, Nat.le_refl _, fun _ _ _ h => h⟩
theorem sat_ext {ρ : Rho} {H H1 : Hp} {st : Store} (S : Sat G ρ H st) (e : LamX.ExtN H H1) (T : LamX.Tabs G.T H1) : Sat G ρ H1 st := by
  refine ⟨⟨S.st.len, fun i c h => ?_, S.st.inj⟩, T⟩
  have q := S.st.at_ i c h
  cases c with
  | dead => exact q
  | lst xs =>
    obtain ⟨a, vs, h1, h2, h3, h4⟩ := q
    exact ⟨a, vs, h1, e a _ h2 (fun _ z => by cases z), h3.later (ext_later e), h4⟩
theorem pal_lam {v : Evs} {n : Nat} {args : Arguments} {body : Expr} {scope : Scope} {lpos : Pos} {es : List Expr} {b : IE} {ies : List IE} (gx : GX G X) (hk : X.ex = []) (ha : args = ⟨[], [], none, [], [], none, []⟩) (M : LamMk G X) (L : LamX.LamS X.env.scope scope) (hck : ckE { G.nc with lam := false, hot := 0 } X.N n scope body b = true) (hn : n ≤ textDepth)
    (h2 : PAL X es (tAL G X (evL (argE v) ies) W)) : PAL X (.Lambda args body scope lpos :: es) (tAL G X (evL (argE v) (.lam b :: ies)) W) := by
  subst ha
  obtain ⟨c, P, TB, hcode, hm, hu⟩ := M
  refine ⟨fun pos pins s σ H Q I h => ?_⟩
  obtain ⟨ρ, env, st, R, p⟩ := h
  simp only [evL, argE, Res.bind] at p
  show wpAny _ _ (spliced ((false, eval (.Lambda ⟨[], [], none, [], [], none, []⟩ body scope lpos) X.env) :: backTo pos (starEach es X.env))) _ _ s
  refine Calls.spliced_cons (LamX.lam_make2 I TB hcode hm hu R.sat.tab rfl (L.has I.ok) fun f c' pm ctv H1 s1 I1 eN T1 hf hfn hfr hco => ?_)
  have l1 : Later ρ H ρ H1 := ext_later eN
  have S1 := sat_ext R.sat eN T1
  have R1 := R.later l1 S1
  have hst : ∀ b ∈ X.fs, b ∈ frs X.stack := fun b hb => by
    rcases I.ok.stk with z | ⟨z, _⟩
    · rw [z]; exact hb
    · rw [z]
      unfold frs
      cases e : X.env.frame with
      | none => rw [List.filterMap_cons, e]; exact hb
      | some a => rw [List.filterMap_cons, e]; exact List.mem_cons_of_mem _ hb
  have I2 : Inv X (pins ++ [(f, lamObj X.env.qual body scope (cloFrom X.env.cells scope.names []) pm ctv c')]) σ H1 s1 := I1.pins_of fun q hq => by
    rcases List.mem_append.mp hq with z | z
    · exact I1.pin q (List.mem_append_right _ z)
    · have z : q = (f, lamObj X.env.qual body scope (cloFrom X.env.cells scope.names []) pm ctv c') := by simpa using z
      subst z
      refine ⟨hf, hfn, fun e => ?_, fun hb => hfr (hst _ hb), fun v hv => by cases hv⟩
      obtain ⟨m, ⟨o, es', ep, ho, hd, _⟩, _⟩ := I1.loc
      rw [← e] at ho
      have ho : s1.heap.get? f = some o := ho
      rw [hf] at ho
      cases ho
      cases hd
  have hco2 : some c' ∉ ρ := fun z => by
    obtain ⟨vs, e⟩ := S1.st.isLst z
    rw [hco] at e
    cases e
  have envc : EnvC G.K ρ H1 (Ev.wipe [] env) σ := ⟨(R1.wiped []).len, (R1.wiped []).env⟩
  refine thn (h2.run pos _ s1 σ H1 (fun vs pl H2 => Q (.ref f :: vs) ((f, lamObj X.env.qual body scope (cloFrom X.env.cells scope.names []) pm ctv c') :: pl) H2) I2 ⟨ρ, env, st, R1, ?_⟩) fun us s2 ⟨vs, pl, H2, I3, r2, q2⟩ => ⟨_, _, H2, by rw [List.append_assoc] at I3; exact I3, .cons (show L2.RelV (.ref f) (.ref f) from rfl) r2, q2⟩
  have p := PostG.later p l1
  cases e1 : evL (argE v) ies env st with
  | ok rs st2 =>
    rw [e1] at p
    intro up ρ2 H2 l s' q2
    refine p (.ref f :: up.1, (f, lamObj X.env.qual body scope (cloFrom X.env.cells scope.names []) pm ctv c') :: up.2) ρ2 H2 l s' (.cons (.inr ?_) (Paired.mapP q2 fun _ _ z => z.later Later.refl fun p hp => List.mem_cons_of_mem _ hp))
    obtain ⟨b1, b2⟩ := l.keep c' _ hco hco2 (fun _ z => by cases z)
    exact ⟨f, scope, body, pm, ctv, c', n, rfl, List.mem_cons_self, hfr, L, b1, b2, hck, envc.later l, hn⟩
  | exc c w st2 =>
    rw [e1] at p
    exact p
  | bad =>
    rw [e1] at p
    exact p
/-- a frame on the stack: the callers', or made since the entry -/
theorem stack_mem {Z : Cx} (ok : Z.Ok) {b : Addr} (hb : b ∈ frs Z.stack) : b ∈ Z.fs ∨ Z.s_0.heap.objs.size ≤ b := by
  rcases ok.stk with z | ⟨z, f⟩
  · rw [z] at hb
    exact .inl hb
  · rw [z] at hb
    unfold frs at hb
    rw [List.filterMap_cons, f] at hb
    rcases List.mem_cons.mp hb with e | e
    · right
      rw [e]
      exact ok.above
    · exact .inl e
/-- the call of a def -/
theorem snd_call (O : GOk G) (gx : GX G X) {C : Ctx} {F : FEv} {v : Evs} {f : Nat} {x : Str} {k : Nat} {es : List Expr} {ies : List IE} (S : FnSnd G F k) (hr : Room k X.A) (hgd : X.A.guards = some []) (hnd : X.N.Nodup) (tk : L2N.Takes X W) (hf : G.nc.fns[f]? = some x) (hg : Gl X x)
    (hdb : (x == ("__debug__" : Str)) = false) (hp : plainArgs es = true) (hnil : es = [] → ies = []) (ha : PAL X es (tAL G X (evL (argE v) ies) W)) : PE X (.Call (.Name x p1) es [] pos) (tE G X (stepE C F v (.call f ies)) W) := by
  obtain ⟨hm, hk⟩ := O.fns f x hf
  refine ⟨fun pins s σ H Q I h => ?_⟩
  obtain ⟨ρ, env, st, R, p⟩ := h
  simp only [stepE] at p
  have go : ∀ (us : List Value) (s1 : Shared) (vs : List V) (pl : List (Addr × Obj)) (H1 : Hp) (rs : List Ev.R) (st1 : Store) (ρ1 : Rho), Inv X (pins ++ pl) σ H1 s1 → Vals vs us → Later ρ H ρ1 H1 → Sat G ρ1 H1 st1 → Paired (MidR G X σ pl ρ1 H1) rs vs → PostG G (RepR G X) W σ ρ1 H1 Q (F f rs st1) →
      wpAny (model X.prog X.w) X.A (call (.ref (G.fa f)) ([] ++ us)) (EP X pins σ Q) X.xe s1 := fun us s1 vs pl H1 rs st1 ρ1 I1 r l S1 q p1 => by
    have I1' : Inv X pins σ H1 s1 := I1.pins_of fun q hq => I1.pin q (List.mem_append_right _ (List.mem_append_left _ hq))
    have e0 : Env0 G.P G.w G.K G.mg G.base X.A X.stack s1 H1 := by
      have z := I1.env0
      rw [gx.P, gx.w, gx.K, gx.mg, gx.base] at z
      exact z
    have c := S f x hf X.A X.stack s1 H1 us vs rs ρ1 st1 Q (WE W σ) hr hgd e0 r S1 (Paired.mapP q fun r' v' hq X' a1 a2 a3 a4 => ?_) ?_
    · rw [← gx.P, ← gx.w] at c
      refine wpAny_call (codeAny_mono c fun r s' hq => ?_)
      cases r with
      | error e => exact L2N.passAt tk σ pins H1 s1 e s' I1' hq
      | ok fl =>
        cases fl with
        | ret u => exact I1'.after hq
        | next => exact False.elim hq
        | brk => exact False.elim hq
        | cont => exact False.elim hq
    · cases r' with
      | lam e env' =>
        rcases hq with hq | hq
        · obtain ⟨fa, h1, Y, pinsY, σY, HY, sY, scope, body, pm, ctv, c', n, h2, h3, h4, h5, ⟨u1, u2⟩, h7, h8, h9, h10, h11⟩ := hq
          have un : Un (frs Y.stack) [] HY H1 sY.heap s1.heap := by
            have z := I1.base
            rw [h7] at z
            exact un_comp u1 z u2
          have fr : ∀ b ∈ frs X.stack, b ∈ frs Y.stack ∨ sY.heap.get? b = none := fun b hb => by
            rcases stack_mem I1.ok hb with z | z
            · exact u2 b z
            · right
              cases e : sY.heap.get? b with
              | none => rfl
              | some o =>
                obtain ⟨o', e'⟩ := u1.there b o e (by simp)
                exact absurd (show b < X.s_0.heap.objs.size from Heap.lt_size e') (Nat.not_lt.mpr z)
          have nf : fa ∉ frs X.stack := fun hb => by
            rcases stack_mem I1.ok hb with z | z
            · exact h10 z
            · exact absurd (show fa < X.s_0.heap.objs.size from Heap.lt_size h8) (Nat.not_lt.mpr z)
          exact ⟨fa, h1, Y, pinsY, σY, HY, sY, scope, body, pm, ctv, c', n, h2, h3, h4, h5, ⟨by rw [a1, a2]; exact un, by rw [a3]; exact fr⟩, a4, by rw [a2]; exact I1.base.keep fa _ h8 h9 h10 (by rw [h7]; simp), by rw [a1]; exact I1.base.free fa _ h8 h9 (by rw [h7]; simp), by rw [a3]; exact nf, h11⟩
        · obtain ⟨fa, scope, body, pm, ctv, c', n, h1, h2, h3, h4, h5, h6, h7, h8, h9⟩ := hq
          have hpin := I1.pin _ (List.mem_append_right X.pn (List.mem_append_right pins h2))
          exact ⟨fa, h1, X, pins ++ pl, σ, H1, s1, scope, body, pm, ctv, c', n, gx, I1, h4, hnd, ⟨by rw [a1, a2]; exact un_refl, fun b hb => .inl (by rw [a3] at hb; exact hb)⟩, a4, by rw [a2]; exact hpin.1, by rw [a1]; exact hpin.2.1, by rw [a3]; exact h3, h5, h6, h7, h8, h9⟩
      | d _ => exact RepR.ofC hq
      | s _ => exact RepR.ofC hq
      | c _ => exact RepR.ofC hq
      | x _ _ => exact (show False from hq).elim
    · cases ef : F f rs st1 with
      | ok r st2 =>
        rw [ef] at p1
        exact fun u ρ' H' l' s' q' => p1 u ρ' H' l' s' (RepR.ofC q')
      | exc c w st2 =>
        rw [ef] at p1
        exact p1
      | bad =>
        rw [ef] at p1
        exact p1
  refine wpAny_Call_Name_kw (ld_glob I hg (by rw [gx.mg]; exact hm) ?_ hdb)
  have hk : PySem.W.keepIn X.K (.ref (G.fa f)) = true := by rw [gx.K]; exact hk
  have q : wpAny (model X.prog X.w) X.A (spliced (backTo pos (starEach es X.env))) (fun us s1 => X.K.In s1.heap ∧ wpAny (model X.prog X.w) X.A (call (.ref (G.fa f)) ([] ++ us)) (EP X pins σ Q) X.xe s1) X.xe s := by
    refine thn (ha.run pos pins s σ H (fun vs pl H1 => ∃ rs st1 ρ1, Later ρ H ρ1 H1 ∧ Sat G ρ1 H1 st1 ∧ Paired (MidR G X σ pl ρ1 H1) rs vs ∧ PostG G (RepR G X) W σ ρ1 H1 Q (F f rs st1)) I ⟨ρ, env, st, R, ?_⟩) fun us s1 ⟨vs, pl, H1, I1, r, rs, st1, ρ1, l, S1, q, p1⟩ => ⟨I1.kIn, go us s1 vs pl H1 rs st1 ρ1 I1 r l S1 q p1⟩
    cases e1 : evL (argE v) ies env st with
    | ok rs st1 =>
      rw [e1] at p
      exact fun up ρ1 H1 l s' q => ⟨rs, st1, ρ1, l, s', q, PostG.later (m := F f rs st1) p l⟩
    | exc c w st1 =>
      rw [e1] at p
      exact p
    | bad =>
      rw [e1] at p
      exact p
  cases es with
  | nil =>
    have hn := hnil rfl
    subst hn
    simp only [evL, Res.bind] at p
    exact PySem.W.callWith_K0 I.kIn hk (go [] s [] [] H [] st ρ (by rw [List.append_nil]; exact I) .nil Later.refl R.sat .nil p)
  | cons e es =>
    have hp' := hp
    simp only [plainArgs, List.all_cons, Bool.and_eq_true, Bool.not_eq_true'] at hp'
    exact PySem.W.callWith_K (h₀ := X.base) I.ok.mod.kin hk q (isStar_each hp'.1) (plain_any hp'.2)
end
end Ev
set_option maxHeartbeats 400000
/-! Soundness, part 13: the call of a closure; the body of a def. -/
namespace Ev
open PySem PySem.Spec PyProof.Rows L2
section
variable {G : GC} {X : Cx} {W : WX} {pos p1 : Pos}
/-- the context of a lambda's body -/
abbrev lamC (Y : Cx) (A : Around) (outer : List PySem.Env) (s : Shared) (H : Hp) (E : XK) (scope : Scope) (f c' : Addr) : Cx := (LamX.lamCx Y A outer s H E scope f c').tr [] fun e s' =>
  wpAny (model Y.prog Y.w) (A.deeper (LamX.lamEnv Y scope s.heap.objs.size f c')) (leaving (LamX.lamEnv Y scope s.heap.objs.size f c') e) (fun _ s'' => L2N.CX Y.prog Y.w outer H s E e s'') (fun e' s'' => L2N.CX Y.prog Y.w outer H s E e' s'') s'
theorem snd_clo (gx : GX G X) {C : Ctx} {F : FEv} {v : Evs} {i k : Nat} {x : Str} (S : ClSnd G v.L k) (hr : Room (k + 1) X.A) (hgd : X.A.guards = some []) (tk : L2N.Takes X W) (hN : X.N[i]? = some x) (hv : Vis X.env.scope x) (hd : (x == ("__debug__" : Str)) = false) (hcd : (x == ("__classdict__" : Str)) = false) :
    PE X (.Call (.Name x p1) [] [] pos) (tE G X (stepE C F v (.clo i)) W) := by
  refine ⟨fun pinsZ sZ σZ HZ Q IZ h => ?_⟩
  obtain ⟨ρ, env, st, R, p⟩ := h
  simp only [stepE] at p
  cases e : env[i]? with
  | none => rw [e] at p; exact p.elim
  | some o => cases o with
    | none => rw [e] at p; exact p.elim
    | some r => cases r with
      | d _ => rw [e] at p; exact p.elim
      | s _ => rw [e] at p; exact p.elim
      | c _ => rw [e] at p; exact p.elim
      | x _ _ => rw [e] at p; exact p.elim
      | lam b env' =>
        rw [e] at p
        simp only at p
        obtain ⟨fv, hs, f, rfl, Y, pins, σ, HY, sY, scope, body, pm, ctv, c', n, gy, IY, L, ndY, hfs, hex, hf, hfn, hff, hco, hcn, hck, hec, hn⟩ := R.env i _ e
        refine wpAny_Call_Name_kw (thn ((pe_var (pos := p1) (i := i) hN hv hd hcd).run pinsZ sZ σZ HZ (fun v H1 => v = .ref f ∧ H1 = HZ) IZ ⟨.ref f, hs, rfl, rfl⟩) fun u s1 ⟨v1, H1, I1, r1, q1⟩ => ?_)
        obtain ⟨ev, eH⟩ := q1
        subst ev
        rw [eH] at I1
        obtain rfl : u = Value.ref f := r1
        have of1 : s1.heap.get? f = some (lamObj Y.env.qual body scope (cloFrom Y.env.cells scope.names []) pm ctv c') := I1.base.keep f _ hf hfn hff (by rw [hex]; simp)
        refine PySem.W.callWith_F0 ⟨_, _, _, _, of1⟩ ?_
        have un : Un (frs Y.stack) [] HY HZ sY.heap s1.heap := by
          have z := I1.base
          rw [hex] at z
          exact un_comp hfs.1 z hfs.2
        obtain ⟨⟨oc, vs, t, hoc, hdc, hvc⟩, _, _⟩ := I1.hok c' _ hco
        have ep : Y.prog = X.prog := by rw [gy.P, gx.P]
        have ew : Y.w = X.w := by rw [gy.w, gx.w]
        have e0 : Env0 Y.prog Y.w Y.K Y.mg Y.base X.A X.stack s1 HZ := by
          have z := I1.env0
          rw [gx.P, gx.w, gx.K, gx.mg, gx.base, ← gy.P, ← gy.w, ← gy.K, ← gy.mg, ← gy.base] at z
          exact z
        have rc : codeAny (model X.prog X.w) X.A (.call (.ref f) ⟨[], []⟩) (CR (L2N.CX X.prog X.w) X.stack X.prog X.w HZ s1 Q (WE W σZ)) s1 := by
          refine PySem.W.kla_callFunE hr.depth of1 rfl L.co L.gen rfl ⟨c', oc, vs, t, rfl, hoc, hdc, hvc⟩ ?_
          refine wpAny_pure (wpAny_newFunctionEnv (fun y hy => (L.own y hy).2) (fun y hy => absurd hy (by simp)) (fun h₁ hns hsb => ⟨I1.nolimit.fresh _ hsb, ?_⟩) L.kind)
          show codeAny _ _ (.expr body (LamX.lamEnv Y scope s1.heap.objs.size f c')) _ _
          have kp : ∀ b o, s1.heap.get? b = some o → h₁.get? b = some o := fun b o e => hsb.extBut b o (Nat.ne_of_lt (Heap.lt_size e)) (Heap.get?_push_of_some _ e)
          have J : Inv (LamX.lamCx Y X.A X.stack s1 HZ (WE W σZ) scope f c') [] σ HZ { s1 with heap := h₁, toks := s1.toks + ([] : List (Str × Value)).length } :=
            LamX.lam_start2 IY L e0 hr.hd un hns kp
          have tk' : L2N.Takes (lamC Y X.A X.stack s1 HZ (WE W σZ) scope f c') (fun cls d _ H => W cls d σZ H) := L2N.takes_of (E := WE W σZ) rfl rfl rfl rfl
          have pb := S (lamC Y X.A X.stack s1 HZ (WE W σZ) scope f c') n scope body b (fun cls d _ H => W cls d σZ H) ⟨gy.P, gy.w, gy.K, gy.mg, gy.base⟩ ndY rfl rfl (hr.deeper _) hgd hn tk' hck
          refine PySem.W.kla_codeExpr ?_
          rw [← ep, ← ew]
          refine wpAny_mono (pb.run [] _ _ HZ Q (J.toTry _) ⟨ρ, env', st, ⟨R.sat, hec.1, fun i r e => let ⟨v, e1, q⟩ := hec.2 i r e; ⟨v, e1, RepR.ofC q⟩⟩, ?_⟩) (fun v s' hq => ?_) fun e s' hq => ?_
          · cases el : v.L b env' st with
            | ok r st1 =>
              rw [el] at p
              simp only [Res.bind] at p
              intro u ρ' H' l s' q
              by_cases hr : isCB r = true
              · rw [if_pos hr] at p
                exact p u ρ' H' l s' (RepR.ofC (q.toC (isC_of hr)))
              · rw [if_neg hr] at p
                exact p.elim
            | exc c w st1 =>
              rw [el] at p
              exact p
            | bad =>
              rw [el] at p
              exact p
          · obtain ⟨w', H', J', rv, q⟩ := hq
            have z : CE X.stack Y.prog Y.w HZ s1 Q v s' := ⟨w', H', J'.os, J'.bare, J'.base, J'.hok, rv, q⟩
            exact z
          · have z : wpAny (model Y.prog Y.w) (X.A.deeper (LamX.lamEnv Y scope s1.heap.objs.size f c')) (leaving (LamX.lamEnv Y scope s1.heap.objs.size f c') e) (fun _ s'' => L2N.CX Y.prog Y.w X.stack HZ s1 (WE W σZ) e s'') (fun e' s'' => L2N.CX Y.prog Y.w X.stack HZ s1 (WE W σZ) e' s'') s' := hq
            rw [ep, ew] at z
            rw [ep, ew]
            exact z
        refine wpAny_call (codeAny_mono rc fun r s' hq => ?_)
        cases r with
        | error e => exact L2N.passAt tk σZ pinsZ HZ s1 e s' I1 hq
        | ok fl =>
          cases fl with
          | ret u => exact I1.after hq
          | next => exact False.elim hq
          | brk => exact False.elim hq
          | cont => exact False.elim hq
end
theorem passes_cx {P : Program} {w : World} {K : PySem.W.Frag} {mg : Str → Option Value} {base : Heap} {N : List Str} {qual : Str} {scope : Scope} {f : Addr} {cd : Value} {A : Around} {outer : List PySem.Env} {s : Shared} {H : Hp} {E : XK} :
  PassesOwn (model (cxOf (L2N.CX P w) P w K mg base N qual scope f cd A outer s H E).prog (cxOf (L2N.CX P w) P w K mg base N qual scope f cd A outer s H E).w) (cxOf (L2N.CX P w) P w K mg base N qual scope f cd A outer s H E).A (cxOf (L2N.CX P w) P w K mg base N qual scope f cd A outer s H E).env (cxOf (L2N.CX P w) P w K mg base N qual scope f cd A outer s H E).xe := by
  exact PassesOwn.leaving
theorem lamMk_cx {G : GC} {N : List Str} {qual : Str} {scope : Scope} {f : Addr} {cd : Value} {A : Around} {outer : List PySem.Env} {s : Shared} {H : Hp} {E : XK} {c P : Addr} (h1 : cd = .ref c) (h2 : LamX.TabB G.base G.mg c P) (h3 : (P, (qual ++ ".<locals>.") ++ "<lambda>") ∈ G.T) (h4 : ∀ p ∈ G.T, p.1 = P → p.2 = (qual ++ ".<locals>.") ++ "<lambda>") :
    LamMk G (cxOf (L2N.CX G.P G.w) G.P G.w G.K G.mg G.base N qual scope f cd A outer s H E) := by
  have eq : (cxOf (L2N.CX G.P G.w) G.P G.w G.K G.mg G.base N qual scope f cd A outer s H E).env.qual = qual ++ ".<locals>." := rfl
  unfold LamMk
  rw [eq]
  exact ⟨c, P, h2, h1, h3, h4⟩
/-- a def of the program, and what ck told of its body -/
structure DefOk (G : GC) (f : Nat) (fn : Str) : Prop where
  ex : ∃ (fd : Fn) (name qual : Str) (params : Arguments) (body : List Stmt) (scope : Scope) (dV kV doc pm cdv ct oc : Value) (an od : Option Addr) (osl : Array (Option Value)) (N ps : List Str) (lam : Bool) (n : Nat),
    G.C.fns[f]? = some fd ∧ G.K.lookup (G.fa f) = some ⟨oc, od, .func (PySem.W.fnOf name qual params body scope dV kV doc pm an cdv ct), osl⟩ ∧ PySem.W.codeIn G.K cdv qual = true ∧ FnScope N ps scope ∧
    (∀ (s : Shared) (us : List Value), G.K.In s.heap → us.length = ps.length → BindsTo s (PySem.W.fnOf name qual params body scope dV kV doc pm an cdv ct) ⟨us, []⟩ (ps.zip us)) ∧
    fd.slots = N.length ∧ fd.pars = ps.length ∧ ckSs { G.nc with lam := lam, hot := 0 } N n scope body fd.body = true ∧ n ≤ textDepth ∧
    (lam = true → ∃ c P : Addr, cdv = .ref c ∧ LamX.TabB G.base G.mg c P ∧ (P, (qual ++ ".<locals>.") ++ "<lambda>") ∈ G.T ∧ ∀ p ∈ G.T, p.1 = P → p.2 = (qual ++ ".<locals>.") ++ "<lambda>")
/-- bodies at a level are sound -/
def BdSnd (G : GC) (F : FEv) (L : IE → Env → Store → Res R) (d : Nat) : Prop := ∀ (X : Cx) (lam : Bool) (N : List Str) (sc : Scope) (n : Nat) (body : List Stmt) (ib : List IS) (W : WX), Good G N sc d X → X.fn = (fun _ => true) → X.ex = [] → PassesOwn (model X.prog X.w) X.A X.env X.xe → L2N.Takes X W →
  (lam = true → LamMk G X) → X.env.scope.kind = .function → X.stack = X.env :: X.outer → X.env.frame = some X.env.locals → X.A.units + 64 < cLine → n ≤ textDepth → ckSs { G.nc with lam := lam, hot := 0 } N n sc body ib = true → PSs X body (tS G X ((evs G.C F L textDepth).S ib) W)
theorem start_get {N : List Str} {vs : List V} {i : Nat} {v : V} (h : vs[i]? = some v) : (L2.start N vs)[i]? = some (some v) := by
  unfold L2.start
  have hi := (List.getElem?_eq_some_iff.mp h).1
  rw [List.getElem?_append_left (by simpa using hi), List.getElem?_map, h]
  rfl
theorem start_len {N : List Str} {vs : List V} (h : vs.length ≤ N.length) : (L2.start N vs).length = N.length := by
  unfold L2.start
  simp
  omega
theorem paired_at {α β : Type} {P : α → β → Prop} : ∀ {xs : List α} {ys : List β} {i : Nat} {x : α}, Paired P xs ys → xs[i]? = some x → ∃ y, ys[i]? = some y ∧ P x y
  | _, _, _, _, .nil, e => by simp at e
  | _, _, 0, _, .cons r _, e => by simp at e; subst e; exact ⟨_, rfl, r⟩
  | _, _, i + 1, _, .cons _ t, e => by simpa using paired_at t (by simpa using e)
theorem fn_snd {G : GC} {F : FEv} {L : IE → Env → Store → Res R} {d : Nat} (B : BdSnd G F L d) (hd : ∀ f fn, G.nc.fns[f]? = some fn → DefOk G f fn) : FnSnd G (callF G.C F L) (4 * d + 4) := by
  intro f fn hf A outer s H us vs rs ρ st Q E hr hgd e0 hv S pr p
  obtain ⟨fd, name, qual, params, body, scope, dV, kV, doc, pm, cdv, ct, oc, an, od, osl, N, ps, lam, n, hC, lk, hcd, Sc, hb, hsl, hpa, hck, hn, hlam⟩ := hd f fn hf
  have hlr : rs.length = vs.length := Paired.length pr
  have hlu : vs.length = us.length := Vals.length hv
  unfold callF at p
  rw [hC] at p
  simp only at p
  by_cases hl : rs.length = fd.pars
  · rw [if_pos hl] at p
    have hvl : vs.length = ps.length := by omega
    refine LamX.run_ofS lk hcd Sc (hr.mono (by omega) : Room (4 * d + 2 + 1) A) e0 (hb s us (e0.mod.kin.keeps fun b o e => (e0.bs b o e).1) (by omega)) hv hvl fun hr' => ?_
    have hpl : ps.length ≤ N.length := by have := congrArg List.length Sc.pre; rw [List.length_take] at this; omega
    let X := cxOf (L2N.CX G.P G.w) G.P G.w G.K G.mg G.base N qual scope (G.fa f) cdv A outer s H E
    have good : Good G N scope d X := ⟨⟨rfl, rfl, rfl, rfl, rfl⟩, rfl, Sc.nd, rfl, rfl, hr', hgd⟩
    have tk : L2N.Takes X (fun cls d _ H => E cls d H) := L2N.takes_of (E := E) rfl rfl rfl rfl
    have hpass : PassesOwn (model X.prog X.w) X.A X.env X.xe := passes_cx
    have hfn : X.fn = (fun _ => true) := rfl
    have hex : X.ex = [] := rfl
    have hmk : lam = true → LamMk G X := fun hl => by
      obtain ⟨c, P, h1, h2, h3, h4⟩ := hlam hl
      exact lamMk_cx h1 h2 h3 h4
    have hp := B X lam N scope n body fd.body (fun cls d _ H => E cls d H) good hfn hex hpass tk hmk Sc.kind rfl rfl (by have := hr'.un; show (A.deeper (envOfC qual scope s.heap.objs.size (G.fa f) cdv)).units + 64 < cLine; omega) hn hck
    refine ⟨_, hp, ρ, rs.map some ++ List.replicate (fd.slots - fd.pars) none, st, ⟨S, ?_, fun i r e => ?_⟩, ?_⟩
    · rw [start_len (by omega)]
      simp
      omega
    · have hi : i < rs.length := by
        by_cases hi : i < rs.length
        · exact hi
        · rw [List.getElem?_append_right (by simpa using hi), List.getElem?_replicate] at e
          split at e <;> cases e
      rw [List.getElem?_append_left (by simpa using hi), List.getElem?_map] at e
      cases e2 : rs[i]? with
      | none => rw [e2] at e; cases e
      | some r' =>
        rw [e2] at e
        simp only [Option.map_some, Option.some.injEq] at e
        subst e
        obtain ⟨v, h1, h2⟩ := paired_at pr e2
        exact ⟨v, start_get h1, h2 X rfl rfl rfl rfl⟩
    · have hst : ρ.length = st.length := S.st.len
      cases eo : (evs G.C F L textDepth).S fd.body (rs.map some ++ List.replicate (fd.slots - fd.pars) none) st with
      | bad => rw [eo] at p; exact p.elim
      | brk _ _ => rw [eo] at p; exact p.elim
      | cnt _ _ => rw [eo] at p; exact p.elim
      | nx env1 st1 =>
        rw [eo] at p
        intro ρ' σ' H' l R'
        have hlen : st.length ≤ st1.length := by rw [← hst, ← R'.sat.st.len]; exact l.len
        exact p .non (ρ'.take st.length) H' (l.cut (by omega)) (R'.sat.cut hlen) (by show RepD _ _ _ _ _; simp only [RepD])
      | exc c w env1 st1 =>
        rw [eo] at p
        intro dd w' ρ' σ' H' l R' h1 h2 h3
        have hlen : st.length ≤ st1.length := by rw [← hst, ← R'.sat.st.len]; exact l.len
        exact p dd w' (ρ'.take st.length) H' (l.cut (by omega)) (R'.sat.cut hlen) h1 (notMem_take h2) (RepD.cut _ _ h3)
      | ret r st1 =>
        rw [eo] at p
        cases r with
        | d x =>
          intro v ρ' H' l S' q
          have hlen : st.length ≤ st1.length := by rw [← hst, ← S'.st.len]; exact l.len
          exact p v (ρ'.take st.length) H' (l.cut (by omega)) (S'.cut hlen) (RepD.cut _ _ q)
        | c i => exact p
        | s _ => exact p.elim
        | lam _ _ => exact p.elim
        | x _ _ => exact p.elim
  · rw [if_neg hl] at p
    exact p.elim
end Ev
set_option maxHeartbeats 2000000
/-! Exceptions, part 1: an own class over ValueError whose __init__ keeps what it was handed; raise. -/
namespace Ev
open PySem PySem.Spec PyProof.Rows L2
/-- what C's __init__ does -/
def spInit (K : PySem.W.Frag) (C : Addr) : Sp := fun vs H Q _ => ∃ a y, vs = [.ref a, y] ∧ OexC K C ∧ PySem.W.findIn K (.ref C) "what" = some none ∧ H a = some (exo a C none) ∧ ∀ dx, H dx = none → dx ≠ a → Q .non (upd (upd H dx (exd dx [("what", y)])) a (exo a C (some dx)))
section
variable {X : Cx} {W : WX}
/-- C(e), in the calm: the exception has no context -/
theorem pmkN {x : Str} {C fI : Addr} {k : Nat} {fd : FuncData} {ps : List Str} {sp : Sp} {e : Expr} {es : List Expr} {ta : TA} {p pos : Pos} (T : OexC X.K C) (iC : PySem.W.findIn X.K (.ref C) "__init__" = some (some (.ref fI))) (tI : PySem.W.typeIn X.K (.ref fI) = some (.type "function"))
    (F1 : FnOk X.prog X.w X.K X.mg X.base (L2N.CX X.prog X.w) k fI fd ps sp) (hr : Room (k + 1) X.A) (hb : Binds X.K fd ps []) (tk : L2N.Takes X W) (hg : Gl X x) (hm : X.mg x = some (.ref C)) (ha : PA X (e :: es) ta)
    (hdb : (x == ("__debug__" : Str)) = false) (he : starEach (e :: es) X.env = (false, eval e X.env) :: starEach es X.env) (hpl : (backTo pos (starEach es X.env)).any (·.1) = false) :
    L2N.PMk X (.Call (.Name x p) (e :: es) [] pos) (tMkO C sp [] ta) := by
  intro pins s σ H Q I h
  obtain ⟨nm, q, N, bs, bm, sn, sub, ab, col, dd, k0, k1, k2, k3, k5, hC, hbm⟩ := T.cls
  refine wpAny_Call_Name_kw (ld_glob I hg hm ?_ hdb)
  refine PySem.W.callWith_K (h₀ := X.base) I.ok.mod.kin T.kC (thn (ha.run pos pins s σ H _ I h) fun us s1 ⟨vs, H1, I1, r1, hz, q1⟩ => ⟨I1.kIn, ?_⟩) he hpl
  show wpAny _ _ (call (.ref C) us) _ _ _
  obtain ⟨hp, g, dr, tk1, os⟩ := s1
  have hsz : hp.objs.size ≤ hp.objs.size + 1 := Nat.le_succ _
  have hn : H1 (hp.objs.size + 1) = none := I1.hok.fresh hsz
  have hq := q1 (hp.objs.size + 1) hn
  rw [List.append_nil] at hq
  have kk : ∀ b o, hp.get? b = some o → ((hp.push (PySem.W.kdv_tup us)).push (PySem.HandSPX.excO C hp.objs.size)).get? b = some o := fun b o e => Heap.get?_push_of_some _ (Heap.get?_push_of_some _ e)
  have hget : ((hp.push (PySem.W.kdv_tup us)).push (PySem.HandSPX.excO C hp.objs.size)).get? (hp.objs.size + 1) = some (PySem.HandSPX.excO C hp.objs.size) := by heap_get
  have I2 : Inv X pins σ (upd H1 (hp.objs.size + 1) (exo (hp.objs.size + 1) C none)) ⟨(hp.push (PySem.W.kdv_tup us)).push (PySem.HandSPX.excO C hp.objs.size), g, dr, tk1, os⟩ :=
    I1.laid (t' := tk1) (a := hp.objs.size + 1) (o := exo (hp.objs.size + 1) C none) (h' := (hp.push (PySem.W.kdv_tup us)).push (PySem.HandSPX.excO C hp.objs.size)) kk hsz (exo_ok hget)
  have r2 : Vals (V.ref (hp.objs.size + 1) :: vs) (Value.ref (hp.objs.size + 1) :: us) := .cons rfl r1
  have hl : (Value.ref (hp.objs.size + 1) :: us ++ []).length = ps.length := by
    have e := r2.length
    rw [F1.len _ _ _ _ hq] at e
    rw [List.append_nil]
    exact e.symm
  have hus : us.length ≤ sizeLine := by
    rw [← Paired.length r1, sizeLine_eq]
    omega
  have b2 := hb _ (Value.ref (hp.objs.size + 1) :: us) I2.kIn hl
  rw [List.append_nil] at b2
  refine wpAny_call (PySem.HandSPX.call_own F.excBase_ValueError (fun Y => PySem.HandSPX.refsVE_contains Y bm hbm) (I1.kIn _ _ hC) (PySem.W.looks_findIn I1.kIn iC) (fun self => PySem.W.bind_fn I1.kIn self tI) hus
    (codeAny_mono (F1.run _ X.stack _ _ ⟨Value.ref (hp.objs.size + 1) :: us, []⟩ (Value.ref (hp.objs.size + 1) :: us) _ _ (fun _ _ _ => False) (hr.make C us []) (I2.env0.make C us []) b2 r2 hq) fun r s' hq' => ?_))
  cases r with
  | error er =>
    obtain ⟨_, _, _, _, _, _, _, _, _, _, _, _, z⟩ := (show L2N.CX X.prog X.w X.stack _ _ _ er s' from hq')
    exact z.elim
  | ok fl =>
    cases fl with
    | ret u =>
      obtain ⟨v, H2, os2, bare2, un2, hok2, rv, ev, d, fs, ea, ed, hd1, q2⟩ := hq'
      subst ev
      obtain ⟨h2, g2, d2, t2, os'⟩ := s'
      obtain ⟨t0, G, J, kG, ge, hoe, na⟩ := mk_end0 (d2 := d2) (t2 := t2) I1 hsz kk un2 hok2 os2 bare2 ea ed hd1
      refine ⟨rv, ⟨hp.objs.size + 1, _, _, ⟨G, g2, d2, t2, os'⟩, _, .ref C, some d, rfl, J, kG, ge, hoe, ⟨rfl, rfl, fun vs hv => ?_⟩, rfl, rfl, na, rfl, bare2, raises_own T.exC T.tyC, q2⟩⟩
      cases hv
      rfl
    | next => exact False.elim hq'
    | brk => exact False.elim hq'
    | cont => exact False.elim hq'
end
/-- an exception class of the program -/
structure ExcOk (G : GC) (c : Nat) (x : Str) : Prop where
  mg : G.mg x = some (.ref (G.cls c))
  oex : OexC G.K (G.cls c)
  fw : PySem.W.findIn G.K (.ref (G.cls c)) "what" = some none
  init : ∃ (fI : Addr) (fd : FuncData), PySem.W.findIn G.K (.ref (G.cls c)) "__init__" = some (some (.ref fI)) ∧ PySem.W.typeIn G.K (.ref fI) = some (.type "function") ∧ FnOk G.P G.w G.K G.mg G.base (L2N.CX G.P G.w) 1 fI fd ["self", "what"] (spInit G.K (G.cls c)) ∧ Binds G.K fd ["self", "what"] []
section
variable {G : GC} {X : Cx} {W : WX} {pos p1 : Pos}
theorem s_raise (gx : GX G X) {C : Ctx} {v : Evs} {c : Nat} {ie : IE} {x : Str} {e : Expr} {cpos : Pos} (O : ExcOk G c x) (hc : X.calm = true) (hr : Room 2 X.A) (tk : L2N.Takes X W) (hg : Gl X x) (hdb : (x == ("__debug__" : Str)) = false) (hs : isStar e = false) (he : PE X e (tE G X (v.E ie) W)) :
    PS X (.Raise (some (.Call (.Name x p1) [e] [] cpos)) none pos) (tS G X (stepS1 C v (.raise c ie)) W) := by
  obtain ⟨fI, fd, iC, tI, F1, hb⟩ := O.init
  have se := isStar_each (es := []) (env := X.env) hs
  have hpa : PA X [e] (tA G X (evL v.E [ie]) W) := snd_args (by simp [plainArgs, hs]) (.cons he .nil)
  refine PS.imp (L2N.ps_raise hc tk (pmkN (C := G.cls c) (by rw [gx.K]; exact O.oex) (by rw [gx.K]; exact iC) (by rw [gx.K]; exact tI) (by rw [gx.P, gx.w, gx.K, gx.mg, gx.base]; exact F1) hr (by rw [gx.K]; exact hb) tk hg (by rw [gx.mg]; exact O.mg) hpa hdb se rfl)) ?_
  rintro D σ H ⟨ρ, env, st, R, p⟩
  refine outA (D := D) (ev := evL v.E [ie]) (f := fun rs st => match rs with | [.d w] => .exc c w env st | _ => .bad) R ?_ fun rs st1 us ρ1 H1 e1 l R1 q p1 => ?_
  · simp only [stepS1, evL] at p ⊢
    cases e1 : v.E ie env st with
    | ok r st1 =>
      rw [e1] at p
      simp only [Res.out, Res.bind] at p ⊢
      cases r <;> exact p
    | exc _ _ _ =>
      rw [e1] at p
      exact p
    | bad =>
      rw [e1] at p
      exact p
  · split at p1
    · rename_i w
      cases q with
      | cons q0 qn =>
        cases qn
        rename_i y
        refine ⟨by simp, fun a ha => ⟨a, y, by simp, O.oex, O.fw, upd_same, fun dx hd hne => ⟨rfl, dx, [("what", y)], upd_same, by rw [upd_ne hne, upd_same], by rw [upd_ne hne] at hd; exact hd, ?_⟩⟩⟩
        have hd1 : H1 dx = none := by rw [upd_ne hne] at hd; exact hd
        have eH : upd (del (upd (upd (upd H1 a (exo a (G.cls c) none)) dx (exd dx [("what", y)])) a (exo a (G.cls c) (some dx))) a) dx (.xd [("what", y)]) = upd H1 dx (.xd [("what", y)]) := by
          funext b
          by_cases hb : b = dx
          · rw [hb, upd_same, upd_same]
          · rw [upd_ne hb, upd_ne hb]
            by_cases hba : b = a
            · rw [hba, del_same, ha]
            · rw [del_ne hba, upd_ne hba, upd_ne hb, upd_ne hba]
        rw [eH]
        exact p1 dx y ρ1 σ _ (Later.laid hd1) (R1.later (Later.laid hd1) (R1.sat.laid hd1)) upd_same (R1.sat.st.fresh hd1) (RepD.later (Later.laid hd1) _ _ q0)
    · exact p1.elim
end
end Ev
set_option maxHeartbeats 2000000
/-! Exceptions, part 2: try / except C as n. -/
namespace Ev
open PySem PySem.Spec PyProof.Rows L2
theorem killX_get {env : Env} {j : Nat} {r : R} (h : (killX env)[j]? = some (some r)) : env[j]? = some (some r) ∧ ∀ c w, r ≠ .x c w := by
  unfold killX at h
  rw [List.getElem?_map] at h
  cases e : env[j]? with
  | none => rw [e] at h; cases h
  | some o =>
    rw [e] at h
    simp only [Option.map_some, Option.some.injEq] at h
    cases o with
    | none => cases h
    | some r' => cases r' <;> first | (cases h; exact ⟨rfl, fun _ _ z => by cases z⟩) | cases h
theorem killX_len {env : Env} : (killX env).length = env.length := by unfold killX; rw [List.length_map]
theorem killX_kill {env : Env} : killX (killX env) = killX env := by
  unfold killX
  rw [List.map_map]
  congr
  funext r
  rcases r with _ | r
  · rfl
  · cases r <;> rfl
section
variable {G : GC} {X Y : Cx} {W : WX} {pos p1 : Pos}
/-- the same entry -/
structure SameIn (X Y : Cx) : Prop where
  H : Y.H_0 = X.H_0
  s : Y.s_0 = X.s_0
  fs : Y.fs = X.fs
  ex : Y.ex = X.ex
theorem RepR.same {ρ : Rho} {H : Hp} {r : R} {v : V} (e : SameIn X Y) (n : ∀ c w, r ≠ .x c w) (h : RepR G X ρ H r v) : RepR G Y ρ H r v := by
  cases r with
  | x c w => exact absurd rfl (n c w)
  | lam b env =>
    obtain ⟨f, e1, Z, pins, σ, HZ, sZ, scope, body, pm, ctv, c', m, h1, h2, h3, h4, h5, h6, h7, h8, h8b, h9⟩ := h
    exact ⟨f, e1, Z, pins, σ, HZ, sZ, scope, body, pm, ctv, c', m, h1, h2, h3, h4, (by unfold Grown at h5 ⊢; rw [e.H, e.s, e.fs]; exact h5), by rw [e.ex]; exact h6, by rw [e.s]; exact h7, by rw [e.H]; exact h8, by rw [e.fs]; exact h8b, h9⟩
  | d _ => exact h
  | s _ => exact h
  | c _ => exact h
theorem Rel.toX {ρ : Rho} {env : Env} {st : Store} {σ : L2.St} {H : Hp} (e : SameIn X Y) (R : Rel G X ρ env st σ H) : Rel G Y ρ (killX env) st σ H :=
  ⟨R.sat, by rw [killX_len]; exact R.len, fun i r q => by
    obtain ⟨q1, q2⟩ := killX_get q
    obtain ⟨v, h1, h2⟩ := R.env i r q1
    exact ⟨v, h1, h2.same e q2⟩⟩
/-- after a suite: no name of an exception is known -/
def PostN (G : GC) (X : Cx) (W : WX) (D : Ends) (ρ : Rho) (H : Hp) (o : Out) : Prop := match o with
  | .nx env st => ∀ ρ' σ' H', Later ρ H ρ' H' → Rel G X ρ' (killX env) st σ' H' → D.nx σ' H'
  | .brk env st => ∀ ρ' σ' H', Later ρ H ρ' H' → Rel G X ρ' (killX env) st σ' H' → D.bk σ' H'
  | .cnt env st => ∀ ρ' σ' H', Later ρ H ρ' H' → Rel G X ρ' (killX env) st σ' H' → D.ct σ' H'
  | .ret r st => ∀ v ρ' H', Later ρ H ρ' H' → Sat G ρ' H' st → RepC G.K ρ' H' r v → D.rt v H'
  | .exc c w env st => ∀ dd w' ρ' σ' H', Later ρ H ρ' H' → Rel G X ρ' (killX env) st σ' H' → H' dd = some (.xd [("what", w')]) → some dd ∉ ρ' → RepD G.K ρ' H' w w' → W (.ref (G.cls c)) (some dd) σ' H'
  | .bad => False
def tN (G : GC) (X : Cx) (ev : Env → Store → Out) (W : WX) : TS := fun D σ H => ∃ ρ env st, Rel G X ρ (killX env) st σ H ∧ PostN G X W D ρ H (ev (killX env) st)
theorem PostN.to {ρ : Rho} {H : Hp} {D : Ends} {o : Out} (e : SameIn X Y) (e2 : SameIn Y X) (h : PostN G X W D ρ H o) : PostS G Y W D ρ H o := by
  cases o with
  | nx env st => exact fun ρ' σ' H' l R => h ρ' σ' H' l (R.toX e2)
  | brk env st => exact fun ρ' σ' H' l R => h ρ' σ' H' l (R.toX e2)
  | cnt env st => exact fun ρ' σ' H' l R => h ρ' σ' H' l (R.toX e2)
  | ret r st => exact h
  | exc c w env st => exact fun dd w' ρ' σ' H' l R => h dd w' ρ' σ' H' l (R.toX e2)
  | bad => exact h
theorem pss_n {ss : List Stmt} {ev : Env → Store → Out} (e : SameIn X Y) (e2 : SameIn Y X) (h : PSs Y ss (tS G Y ev W)) : PSs Y ss (tN G X ev W) := by
  refine PSs.imp h ?_
  rintro D σ H ⟨ρ, env, st, R, p⟩
  have R' := R.toX e
  rw [killX_kill] at R'
  exact ⟨ρ, killX env, st, R', p.to e e2⟩
/-- the suite's reading -/
def tSu (G : GC) (X : Cx) (i : Nat) (ev : Env → Store → Out) : Addr → Value → Option Addr → TS := fun a cls d D σ H => ∃ (c : Nat) (w : PyData) (dd : Addr) (w' : V) (ρ : Rho) (env : Env) (st : Store), cls = .ref (G.cls c) ∧ d = some dd ∧ H dd = some (.xd [("what", w')]) ∧ some dd ∉ ρ ∧ RepD G.K ρ H w w' ∧
  Rel G X ρ ((killX env).set i none) st σ H ∧ (i < env.length → σ[i]? = some (some (.ref a))) ∧ PostN G X WF D ρ H (ev ((killX env).set i (some (.x c w))) st)
theorem pss_su {ss : List Stmt} {ev : Env → Store → Out} {i : Nat} {a : Addr} {oe : Obj} {cls : Value} {d : Option Addr} {pn : List (Addr × Obj)} (hz : Zc cls d oe) (hv : ∃ vs, oe.data = .fields vs)
    (h : PSs (X.suite a ((a, oe) :: pn)) ss (tS G (X.suite a ((a, oe) :: pn)) ev WF)) : PSs (X.suite a ((a, oe) :: pn)) ss (tSu G X i ev a cls d) := by
  refine PSs.imp h ?_
  rintro D σ H ⟨c, w, dd, w', ρ, env, st, e1, e2, hd, hn, hw, R, hi, p⟩
  subst e1 e2
  have se : SameIn X (X.suite a ((a, oe) :: pn)) := ⟨rfl, rfl, rfl, rfl⟩
  refine ⟨ρ, (killX env).set i (some (.x c w)), st, ⟨R.sat, by have := R.len; rw [List.length_set] at this ⊢; exact this, fun j r q => ?_⟩, p.to se ⟨rfl, rfl, rfl, rfl⟩⟩
  by_cases hij : i = j
  · subst hij
    have hl : i < env.length := by
      have := (List.getElem?_eq_some_iff.mp q).1
      rw [List.length_set, killX_len] at this
      exact this
    rw [List.getElem?_set_self (by rw [killX_len]; exact hl)] at q
    cases q
    exact ⟨.ref a, hi hl, a, dd, oe, w', rfl, List.mem_cons_self, hz, hv, hd, hn, hw⟩
  · have q0 := q
    rw [List.getElem?_set_ne hij] at q
    obtain ⟨v, h1, h2⟩ := R.env j r (by rw [List.getElem?_set_ne hij]; exact q)
    exact ⟨v, h1, h2.same se (killX_get q).2⟩
/-- classes and their ancestors -/
structure ExcAll (G : GC) : Prop where
  base : ∀ c, PySem.W.subIn G.K (.ref (G.cls c)) (.type "BaseException") = some true
  dict : ∀ c, PySem.W.hasDictIn G.K (G.cls c) = true
  type : ∀ c, PySem.W.typeIn G.K (.ref (G.cls c)) = some (.type "type")
  sub : ∀ c c', PySem.W.subIn G.K (.ref (G.cls c)) (.ref (G.cls c')) = some (G.C.sub c c')
theorem s_try (gx : GX G X) (EA : ExcAll G) {v : Evs} {c i : Nat} {ib isu : List IS} {x n : Str} {body suite : List Stmt} {b₀ : Stmt} {np pos' : Pos} (hs : X.stack = X.env :: X.outer) (hf : X.env.frame = some X.env.locals) (hN : X.N.Nodup) (hi : X.N[i]? = some n) (hln : X.env.kindOf n = some .local)
    (hg : Gl X x) (hdb : (x == ("__debug__" : Str)) = false) (hm : G.mg x = some (.ref (G.cls c))) (tk : L2N.Takes X W)
    (hb : ∀ (W' : WX) (pn : List (Addr × Obj)) (xe : Value → Shared → Prop), L2N.Takes (X.tr pn xe) W' → PassesOwn (model X.prog X.w) X.A X.env xe → PSs (X.tr pn xe) body (tS G (X.tr pn xe) (v.S ib) W'))
    (hsu : ∀ (a : Addr) (oe : Obj) (cls : Value) (d : Option Addr) (pn : List (Addr × Obj)), L2N.Zn cls d oe → (∃ vs, oe.data = .fields vs) → PSs (X.suite a ((a, oe) :: pn)) (b₀ :: suite) (tS G (X.suite a ((a, oe) :: pn)) (v.S isu) WF)) :
    PS X (.Try body [.ExceptHandler (some (.Name x np)) (some n) (b₀ :: suite) pos'] [] [] pos) (tS G X (stepS1 G.C v (.tryAs ib c i isu)) W) := by
  have hna : Names X x (.ref (G.cls c)) := ⟨hg, hdb, .inl (by rw [gx.mg]; exact hm)⟩
  refine PS.imp (L2N.ps_try_as hs hf hN hi hln hna tk (tb := fun W' => tN G X (v.S ib) W') (ts := tSu G X i (v.S isu)) (fun W' pn xe tk' hp => pss_n ⟨rfl, rfl, rfl, rfl⟩ ⟨rfl, rfl, rfl, rfl⟩ (hb W' pn xe tk' hp)) fun a oe cls d pn hz hv => pss_su hz.zc hv (hsu a oe cls d pn hz hv)) ?_
  rintro D σ H ⟨ρ, env, st, R, p⟩
  refine ⟨ρ, env, st, R.toX ⟨rfl, rfl, rfl, rfl⟩, ?_⟩
  simp only [stepS1] at p
  cases e1 : v.S ib (killX env) st with
  | bad => rw [e1] at p; exact p
  | nx env1 st1 => rw [e1] at p; exact p
  | brk env1 st1 => rw [e1] at p; exact p
  | cnt env1 st1 => rw [e1] at p; exact p
  | ret r st1 => rw [e1] at p; exact p
  | exc c1 w env1 st1 =>
    rw [e1] at p
    simp only at p
    intro dd w' ρ' σ' H' l R' hd hn hw
    refine ⟨G.C.sub c1 c, by rw [gx.K]; exact PySem.W.exm_ref (EA.base c) (EA.dict c) (EA.type c) (EA.sub c1 c), fun hb a ha => ?_, fun hb => ?_⟩
    · rw [if_pos hb] at p
      have hlen : env1.length = σ'.length := by rw [← R'.len, killX_len]
      refine ⟨c1, w, dd, w', ρ', env1, st1, rfl, rfl, hd, hn, hw, ⟨R'.sat, by rw [List.length_set, List.length_set]; exact R'.len, fun j r q => ?_⟩, fun hl => by rw [List.getElem?_set_self (by omega)], ?_⟩
      · by_cases hij : i = j
        · subst hij
          by_cases hl : i < env1.length
          · rw [List.getElem?_set_self (by rw [killX_len]; exact hl)] at q
            cases q
          · rw [List.getElem?_eq_none (by rw [List.length_set, killX_len]; omega)] at q
            cases q
        · rw [List.getElem?_set_ne hij] at q
          obtain ⟨u, h1, h2⟩ := R'.env j r q
          exact ⟨u, by rw [List.getElem?_set_ne hij]; exact h1, h2⟩
      · have p := PostS.later p l
        cases e2 : v.S isu ((killX env1).set i (some (.x c1 w))) st1 with
        | bad => rw [e2] at p; exact p
        | exc _ _ _ _ => rw [e2] at p; exact p.elim
        | ret r st2 => rw [e2] at p; exact p
        | nx env2 st2 => rw [e2] at p; exact fun ρ2 σ2 H2 l2 R2 => p ρ2 _ H2 l2 (R2.unset)
        | brk env2 st2 => rw [e2] at p; exact fun ρ2 σ2 H2 l2 R2 => p ρ2 _ H2 l2 (R2.unset)
        | cnt env2 st2 => rw [e2] at p; exact fun ρ2 σ2 H2 l2 R2 => p ρ2 _ H2 l2 (R2.unset)
    · rw [if_neg (by rw [hb]; simp)] at p
      exact p dd w' ρ' σ' H' l R' hd hn hw
end
end Ev
set_option maxHeartbeats 2000000
/-! Exceptions, part 3: odd.what, isinstance(odd, C). -/
namespace Ev
open PySem PySem.Spec PyProof.Rows L2
structure ExcUse (G : GC) : Prop where
  isC : ∀ c, ExcC G.K (G.cls c)
  xf : ∀ c, XfC G.K (G.cls c)
  fw : ∀ c, PySem.W.findIn G.K (.ref (G.cls c)) "what" = some none
  kit : ∀ c c', PySem.W.kitOne G.K (.ref (G.cls c)) (.ref (G.cls c')) = some (G.C.sub c c')
  mg : ∀ (c : Nat) (x : Str), G.nc.cls[c]? = some x → G.mg x = some (.ref (G.cls c))
section
variable {G : GC} {X : Cx} {W : WX} {pos p1 p2 p3 : Pos}
/-- the instance of a caught exception -/
theorem exc_inst {pins : List (Addr × Obj)} {σ : L2.St} {H : Hp} {s : Shared} {ρ : Rho} {c : Nat} {w : PyData} {v : V} (I : Inv X pins σ H s) (h : ExcAt G X ρ H c w v) :
    ∃ (a dd : Addr) (oe od : Obj) (w' : V) (mA : Str → Option Value), v = .ref a ∧ PySem.W.InstAt s.heap a oe (G.cls c) (some od) ∧ RepD G.K ρ H w w' ∧ (∀ f, PySem.W.lookIn f od = some (mA f)) ∧ (∀ f, RelO (([("what", w')] : List (Str × V)).lookup f) (mA f)) := by
  obtain ⟨a, dd, oe, w', rfl, hm, hz, ⟨vs, hv⟩, hd, hn, hw⟩ := h
  obtain ⟨ha, _⟩ := I.pin (a, oe) (List.mem_append_left _ hm)
  have hx : ObjOk X.prog X.w H s.heap dd (.xd [("what", w')]) := I.hok dd _ hd
  obtain ⟨mA, hns, hr⟩ := hx
  obtain ⟨od, ho, hl⟩ := lookIn_ns hns
  exact ⟨a, dd, oe, od, w', mA, rfl, ⟨ha, hz.1, by unfold PySem.W.notCls; rw [hv] <;> rfl, by rw [hz.2]; exact ho⟩, hw, hl, hr⟩
theorem snd_what (gx : GX G X) (EU : ExcUse G) {C : Ctx} {F : FEv} {v : Evs} {i : Nat} {y : Str} (hN : X.N[i]? = some y) (hv : Vis X.env.scope y) (hd : (y == ("__debug__" : Str)) = false) (hcd : (y == ("__classdict__" : Str)) = false) :
    PE X (.Attribute (.Name y p1) "what" pos) (tE G X (stepE C F v (.what i)) W) := by
  refine ⟨fun pins s σ H Q I h => ?_⟩
  obtain ⟨ρ, env, st, R, p⟩ := h
  simp only [stepE] at p
  cases e : env[i]? with
  | none => rw [e] at p; exact p.elim
  | some o => cases o with
    | none => rw [e] at p; exact p.elim
    | some r => cases r with
      | d _ => rw [e] at p; exact p.elim
      | s _ => rw [e] at p; exact p.elim
      | c _ => rw [e] at p; exact p.elim
      | lam _ _ => rw [e] at p; exact p.elim
      | x c w =>
        rw [e] at p
        obtain ⟨fv, hs, hx⟩ := R.env i _ e
        refine attr_of rfl (thn ((pe_var (pos := p1) (i := i) hN hv hd hcd).run pins s σ H (fun v H1 => v = fv ∧ H1 = H) I ⟨fv, hs, rfl, rfl⟩) fun u s1 ⟨v1, H1, I1, r1, q1⟩ => ?_)
        obtain ⟨ev, eH⟩ := q1
        subst ev
        rw [eH] at I1
        have hx : ExcAt G X ρ H c w v1 := hx
        obtain ⟨a, dd, oe, od, w', mA, rfl, J, hw, hl, hr⟩ := exc_inst I1 hx
        obtain rfl : u = Value.ref a := r1
        obtain ⟨u, hu, ru⟩ := RelO.some_of (v := w') (o := mA "what") (by have z := hr "what"; exact z)
        have T := EU.xf c
        have kin : G.K.In s1.heap := by rw [← gx.K]; exact I1.kIn
        exact HandSPX.exc_get kin J T.ga T.gg T.exC (PySem.W.findObj_own T.hdC (EU.fw c) rfl (by rw [hl, hu])) (handed_of ru) ⟨w', H, I1.tok _, ru, p w' ρ H Later.refl R.sat hw⟩
theorem snd_isx (O : GOk G) (gx : GX G X) (EU : ExcUse G) {F : FEv} {v : Evs} {c i : Nat} {y t : Str} (hx : Gl X "isinstance") (ht : Gl X t) (htd : (t == ("__debug__" : Str)) = false) (htc : G.nc.cls[c]? = some t)
    (hN : X.N[i]? = some y) (hv : Vis X.env.scope y) (hd : (y == ("__debug__" : Str)) = false) (hcd : (y == ("__classdict__" : Str)) = false) :
    PE X (.Call (.Name "isinstance" p1) [.Name y p2, .Name t p3] [] pos) (tE G X (stepE G.C F v (.isx c i)) W) := by
  have call : CallR X (.builtin "isinstance") (fun xs H Q => ∃ ρ c1 w st u, xs = [u, .ref (G.cls c)] ∧ Sat G ρ H st ∧ ExcAt G X ρ H c1 w u ∧ Q (.bl (G.C.sub c1 c)) H) := by
    intro pins s σ H xs us Q I r h
    obtain ⟨ρ, c1, w, st, u, rfl, S, hx, q⟩ := h
    cases r with
    | cons rx rr =>
      cases rr with
      | cons rt rr =>
        cases rr
        obtain ⟨a, dd, oe, od, w', mA, rfl, J, hw, hl, hr⟩ := exc_inst I hx
        cases rx
        cases rt
        have K := EU.isC c1
        obtain ⟨cd, hc, _⟩ := PySem.W.any_some K.hd
        have kin : G.K.In s.heap := by rw [← gx.K]; exact I.kIn
        exact PySem.W.kia_one (PySem.W.kitx_exc (by rw [hc]; rfl) K.hg K.hk K.hs K.ha K.hn K.ht K.hm) kin J (EU.kit c1 c) (fun z => nomatch z) fun tk => ⟨.bl (G.C.sub c1 c), H, I.kept (t' := tk) fun _ _ z => z, rfl, q⟩
  refine PE.imp (pe_callB call hx (by rw [gx.mg]; exact O.blt _ (by decide +kernel)) (by decide +kernel) (pa_cons (pe_var (pos := p2) hN hv hd hcd) (pa_cons (pe_glob (v := .ref (G.cls c)) (u := .ref (G.cls c)) ht (by rw [gx.mg]; exact EU.mg c t htc) rfl htd) pa_nil))) ?_
  rintro σ H Q ⟨ρ, env, st, R, p⟩
  simp only [stepE] at p
  cases e : env[i]? with
  | none => rw [e] at p; exact p.elim
  | some o => cases o with
    | none => rw [e] at p; exact p.elim
    | some r => cases r with
      | d _ => rw [e] at p; exact p.elim
      | s _ => rw [e] at p; exact p.elim
      | c _ => rw [e] at p; exact p.elim
      | lam _ _ => rw [e] at p; exact p.elim
      | x c1 w =>
        rw [e] at p
        obtain ⟨fv, hs, hxx⟩ := R.env i _ e
        exact ⟨fv, hs, ρ, c1, w, st, fv, rfl, R.sat, hxx, p (.bl _) ρ H Later.refl R.sat (by show RepD _ _ _ _ _; simp only [RepD])⟩
end
end Ev
set_option maxHeartbeats 2000000
/-! While an exception is handled, part 1: the end of a list's iterator, of a tuple's; a tuple taken apart. -/
namespace Ev
open PySem PySem.Spec PySem.Calls PyProof.Rows L2 HotX
section
variable {prog : Program} {w : World} {A : Around} {E : Value → Shared → Prop} {s : Shared}
theorem list_end_hot {it l x1 : Addr} {i : Nat} {items} {Q : Option Value → Shared → Prop} (hot : HotAt A x1 s.heap) (hne : x1 ≠ it)
    (hit : s.heap.IsListIter it l i) (hl : s.heap.IsList l items) (hx : items[i]? = none)
    (hQ : ∀ h', Heap.ExtBut it s.heap h' → Q none { s with heap := h' }) : wpAny (model prog w) A (pyNext (.ref it)) Q E s := by
  obtain ⟨hh, o1, vs1, h1, d1, c1⟩ := hot
  obtain ⟨o, ho, hc, hd⟩ := id hit
  obtain ⟨ol, hol, _, nl, hdl⟩ := hl
  unfold pyNext
  refine wpAny_bind (wpAny_attempt (wpAny_callSpecial?_slot (name := Str.ofString "__next__") hit.typeIs slot_listiter_next
    (wpAny_call_entry slot_listiter_next hit.typeIs entry_listiter_next ?_ (args_listiter_next _))))
  show wpAny _ _ (field (.ref it) 0 >>= _) _ _ s
  refine wpAny_bind (wpAny_field ho hd (x := .ref l) rfl ?_)
  show wpAny _ _ (if (Value.ref l == Value.none) = true then _ else _) _ _ s
  rw [if_neg (show ¬ ((Value.ref l == Value.none) = true) from Bool.false_ne_true)]
  show wpAny _ _ (field (.ref it) 1 >>= _) _ _ s
  refine wpAny_bind (wpAny_field ho hd (x := .int i 0) rfl ?_)
  show wpAny _ _ (seqItems? (.ref l) >>= _) _ _ s
  refine wpAny_bind (wpAny_seqItems hol hdl ?_)
  simp only [Int.toNat_natCast, hx]
  refine wpAny_bind (wpAny_rule (wpAny_bind (wpAny_setField ho hd (by simp) ?_)))
  show wpAny _ _ (newExc (.type "StopIteration") [] >>= _) _ _ _
  refine wpAny_bind ?_
  simp only [newExc, newTuple]
  refine wpAny_bind (wpAny_newObj_type ?_ (by size_fits))
  refine wpAny_bind (m := firstArgMember _ _) (wpAny_of_eq (a := Value.none) (by first | rfl | (simp only [firstArgMember]; rfl)) ?_)
  refine wpAny_newObj_type ?_ (by size_fits)
  have k1 : ∀ f, (s.heap.update it f).get? x1 = some o1 := fun f => ((Heap.SameBut.update s.heap it f).2 x1 hne).trans h1
  refine raiseNew_hot ⟨hh, o1, vs1, Heap.get?_push_of_some _ (Heap.get?_push_of_some _ (k1 _)), d1, c1⟩ (Nat.ne_of_lt (Heap.lt_size (Heap.get?_push_of_some _ (k1 _)))) (Heap.get?_push_size _ rfl) rfl (by first | (simp; done) | (simp; omega) | (simp only [Array.size_append]; simp; omega)) ?_
  refine wpAny_bind (wpAny_isInstance (T := "StopIteration") (b := true) ⟨_, Heap.get?_update_self _ (Heap.get?_push_size _ rfl) rfl, rfl⟩ isSubtype_stop ?_)
  refine wpAny_pure (hQ _ fun b o hb e => ?_)
  have k2 : ∀ f, (s.heap.update it f).get? b = some o := fun f => ((Heap.SameBut.update s.heap it f).2 b hb).trans e
  rw [Heap.get?_update_other _ _ (Nat.ne_of_gt (Heap.lt_size (Heap.get?_push_of_some _ (k2 _))))]
  exact Heap.get?_push_of_some _ (Heap.get?_push_of_some _ (k2 _))
theorem tuple_end_hot {it t x1 : Addr} {i : Nat} {items} {Q : Option Value → Shared → Prop} (hot : HotAt A x1 s.heap) (hne : x1 ≠ it)
    (hit : IsTupIter s.heap it t i) (ht : IsTup s.heap t items) (hx : items[i]? = none)
    (hQ : ∀ h', Heap.ExtBut it s.heap h' → Q none { s with heap := h' }) : wpAny (model prog w) A (pyNext (.ref it)) Q E s := by
  obtain ⟨hh, o1, vs1, h1, d1, c1⟩ := hot
  obtain ⟨o, ho, hc, hd⟩ := id hit
  obtain ⟨ol, hol, _, nl, hdl⟩ := ht
  unfold pyNext
  refine wpAny_bind (wpAny_attempt (wpAny_callSpecial?_slot (name := Str.ofString "__next__") hit.typeIs slot_tupleiter_next
    (wpAny_call_entry slot_tupleiter_next hit.typeIs entry_tupleiter_next ?_ (args_tupleiter_next _))))
  show wpAny _ _ (field (.ref it) 0 >>= _) _ _ s
  refine wpAny_bind (wpAny_field ho hd (x := .ref t) rfl ?_)
  show wpAny _ _ (if (Value.ref t == Value.none) = true then _ else _) _ _ s
  rw [if_neg (show ¬ ((Value.ref t == Value.none) = true) from Bool.false_ne_true)]
  show wpAny _ _ (field (.ref it) 1 >>= _) _ _ s
  refine wpAny_bind (wpAny_field ho hd (x := .int i 0) rfl ?_)
  show wpAny _ _ (seqItems? (.ref t) >>= _) _ _ s
  refine wpAny_bind (wpAny_seqItems hol hdl ?_)
  simp only [Int.toNat_natCast, hx]
  refine wpAny_bind (wpAny_rule (wpAny_bind (wpAny_setField ho hd (by simp) ?_)))
  show wpAny _ _ (newExc (.type "StopIteration") [] >>= _) _ _ _
  refine wpAny_bind ?_
  simp only [newExc, newTuple]
  refine wpAny_bind (wpAny_newObj_type ?_ (by size_fits))
  refine wpAny_bind (m := firstArgMember _ _) (wpAny_of_eq (a := Value.none) (by first | rfl | (simp only [firstArgMember]; rfl)) ?_)
  refine wpAny_newObj_type ?_ (by size_fits)
  have k1 : ∀ f, (s.heap.update it f).get? x1 = some o1 := fun f => ((Heap.SameBut.update s.heap it f).2 x1 hne).trans h1
  refine raiseNew_hot ⟨hh, o1, vs1, Heap.get?_push_of_some _ (Heap.get?_push_of_some _ (k1 _)), d1, c1⟩ (Nat.ne_of_lt (Heap.lt_size (Heap.get?_push_of_some _ (k1 _)))) (Heap.get?_push_size _ rfl) rfl (by first | (simp; done) | (simp; omega) | (simp only [Array.size_append]; simp; omega)) ?_
  refine wpAny_bind (wpAny_isInstance (T := "StopIteration") (b := true) ⟨_, Heap.get?_update_self _ (Heap.get?_push_size _ rfl) rfl, rfl⟩ isSubtype_stop ?_)
  refine wpAny_pure (hQ _ fun b o hb e => ?_)
  have k2 : ∀ f, (s.heap.update it f).get? b = some o := fun f => ((Heap.SameBut.update s.heap it f).2 b hb).trans e
  rw [Heap.get?_update_other _ _ (Nat.ne_of_gt (Heap.lt_size (Heap.get?_push_of_some _ (k2 _))))]
  exact Heap.get?_push_of_some _ (Heap.get?_push_of_some _ (k2 _))
theorem assign_tuple_hot {env : PySem.Env} {elts : List Expr} {k : Nat} {pos : Pos} {t x1 : Addr} {items : Array Value} {Q : Unit → Shared → Prop} (hot : HotAt A x1 s.heap) (ht : IsTup s.heap t items)
    (hn : (assignEach elts env).length = items.size) (hstar : (assignEach elts env).findIdx? (·.1) = none)
    (h : ∀ h', Heap.ExtBut s.heap.objs.size s.heap h' → wpAny (model prog w) A (assignInOrder ((assignEach elts env).map (·.2)) items.toList) Q E { s with heap := h' }) :
    wpAny (model prog w) A (assign (.Tuple elts k pos) env (.ref t)) Q E s := by
  have hlt : t ≠ s.heap.objs.size := by obtain ⟨o, ho, _⟩ := ht; exact Nat.ne_of_lt (Heap.lt_size ho)
  obtain ⟨hh, o1, vs1, h1, d1, c1⟩ := hot
  have hx1 : x1 ≠ s.heap.objs.size := Nat.ne_of_lt (Heap.lt_size h1)
  rw [assign_Tuple]
  refine wpAny_bind (wpAny_standAt ?_)
  unfold unpack
  rw [hn, hstar]
  refine wpAny_bind (wpAny_holding ?_)
  unfold unpackItems
  refine wpAny_bind ?_
  unfold notIterableAtAll
  refine wpAny_bind (wpAny_specialOf ht.typeIs slot_tuple_iter.lookup ?_)
  refine wpAny_pure ?_
  simp only [Bool.false_eq_true, if_false]
  refine wpAny_bind (wpAny_holding (iter_tuple ht ?_))
  refine wpAny_bind (wpAny_holding (draw_tuple hlt items.size 0 _ _ ⟨_, Heap.get?_push_size _ rfl, rfl, rfl⟩ (ht.push _) (by omega) fun h₁ hit₁ hs₁ => ?_))
  have hall : List.take items.size (List.drop 0 items.toList) = items.toList := by
    rw [List.drop_zero]; exact List.take_of_length_le (by simp)
  rw [hall]
  rw [if_neg (by simp)]
  have ht₁ : IsTup h₁ t items := (ht.push _).extBut hs₁.extBut hlt
  have g1 : h₁.get? x1 = some o1 := hs₁.extBut x1 o1 hx1 (Heap.get?_push_of_some _ h1)
  refine wpAny_bind (wpAny_holding (tuple_end_hot ⟨hh, o1, vs1, g1, d1, c1⟩ hx1 hit₁ ht₁ (by simp) fun h₂ he₂ => ?_))
  simp only [Option.isSome_none, Bool.false_eq_true, if_false]
  exact wpAny_pure (h h₂ fun b o hb e => he₂ b o hb (hs₁.extBut b o hb (Heap.get?_push_of_some _ e)))
end
end Ev
set_option maxHeartbeats 2000000
/-! While an exception is handled, part 2: contexts that know it; a tuple target; a list comprehension over a list. -/
namespace Ev
open PySem PySem.Spec PySem.Calls PyProof.Rows L2 HotX
/-- the handled exception is pinned -/
def HotN (X : Cx) : Prop := ∃ p : Addr × Obj, X.A.handled = some (.ref p.1) ∧ (∃ vs : Array Value, p.2.data = .fields vs ∧ vs[2]? = some .none) ∧ p ∈ X.pn
/-- it stood when the block began -/
def HotB (X : Cx) : Prop := ∃ p : Addr × Obj, X.A.handled = some (.ref p.1) ∧ (∃ vs : Array Value, p.2.data = .fields vs ∧ vs[2]? = some .none) ∧ X.s_0.heap.get? p.1 = some p.2 ∧ X.H_0 p.1 = none ∧ p.1 ∉ X.fs ∧ p.1 ∉ X.ex
section
variable {X : Cx} {pins : List (Addr × Obj)} {σ : L2.St} {H : Hp} {s : Shared}
theorem HotN.at (h : HotN X) (I : Inv X pins σ H s) : ∃ x1, HotAt X.A x1 s.heap := by
  obtain ⟨p, h1, ⟨vs, h2, h3⟩, h4⟩ := h
  exact ⟨p.1, h1, p.2, vs, (I.pin p (List.mem_append_left _ h4)).1, h2, h3⟩
theorem HotB.at (h : HotB X) (I : Inv X pins σ H s) : ∃ x1, HotAt X.A x1 s.heap ∧ x1 ∉ X.ex := by
  obtain ⟨p, h1, ⟨vs, h2, h3⟩, h4, h5, h6, h7⟩ := h
  exact ⟨p.1, ⟨h1, p.2, vs, I.base.keep p.1 p.2 h4 h5 h6 h7, h2, h3⟩, h7⟩
/-- what a block knows at its start -/
theorem HotN.block {scope : Scope} {cenv : PySem.Env} {fp : List Addr} (h : HotN X) (I : Inv X pins σ H s) (hf : ∀ b ∈ fp, FpOk X pins H b) : HotB (X.blk s H scope cenv fp) := by
  obtain ⟨p, h1, h2, h4⟩ := h
  have P := I.pin p (List.mem_append_left _ h4)
  exact ⟨p, h1, h2, P.1, P.2.1, fun hm => (List.mem_cons.mp (I.stkSub p.1 hm)).elim P.2.2.1 P.2.2.2.1, fun hb => (hf p.1 hb).2.2.2.2.2 p (List.mem_append_left _ h4) rfl⟩
theorem pg_tupH {es : List Expr} {k : Nat} {pos : Pos} {t : TGs} {n : Nat} (hot : HotB X) (h : PGs X es t) (hn : (assignEach es X.env).length = n) (hst : (assignEach es X.env).findIdx? (·.1) = none) : PG X (.Tuple es k pos) (gTup X.K n t) := by
  refine ⟨fun pins s σ H v u Q I r hw => ?_⟩
  obtain ⟨a, xs, rfl, hq, hl, hw⟩ := hw
  cases r
  obtain ⟨its, rv, ht, hz⟩ := I.tuple hq
  obtain ⟨x1, hat, _⟩ := hot.at I
  exact assign_tuple_hot hat ht (by simp [hn, ← hl, rv.length]) hst fun h' hx => h.run pins _ σ H xs _ Q (I.kept (t' := s.toks) fun b o e => hx b o (Nat.ne_of_lt (Heap.lt_size e)) e) (by simpa using rv) hw
theorem pe_lcH {elt tg iter : Expr} {ifs : List Expr} {scope : Scope} {own : List (Str × Nat)} {pos : Pos} {tl : TE} {g : TG} {tt : TT} {te : TE} (hot : HotN X) (hN : X.N.Nodup) (hl : PE X iter tl) (ok : BlkOk X.N X.env.scope scope own)
    (hg : ∀ (s : Shared) (H : Hp) (C : Addr) (cl : List (Str × Addr)) (fp : List Addr), HotB (X.blk s H scope (compEnvC scope cl C X.env) fp) → PG (X.blk s H scope (compEnvC scope cl C X.env) fp) tg g)
    (ht : ∀ (s : Shared) (H : Hp) (C : Addr) (cl : List (Str × Addr)) (fp : List Addr), HotB (X.blk s H scope (compEnvC scope cl C X.env) fp) → PTs (X.blk s H scope (compEnvC scope cl C X.env) fp) ifs tt)
    (he : ∀ (s : Shared) (H : Hp) (C : Addr) (cl : List (Str × Addr)) (fp : List Addr), HotB (X.blk s H scope (compEnvC scope cl C X.env) fp) → PE (X.blk s H scope (compEnvC scope cl C X.env) fp) elt te) (hs : ∀ x, foldedSetIterable iter X.env x = pure x) :
    PE X (.ListComp elt [⟨tg, iter, ifs, 0⟩] scope pos) (tLc (iList X.K tl) g tt te (own.map (·.2))) := by
  refine ⟨fun pins s σ H Q I h => ?_⟩
  rw [eval_ListComp]
  have hfree : ∀ y ∈ scope.names, y.2 = .free → ∃ c, X.env.cells.lookup y.1 = some c := fun y hy e => by
    rcases ok.free y hy e with k | k
    · exact I.ok.has _ (.inl k)
    · exact I.ok.has _ (.inr k)
  refine wpAny_comprehension_free rfl hs (closure_ok hfree) ok.kind (fun y hy e => by rw [ok.uniq y hy, e]) (thn (hl.run pins s σ H _ I h) fun xv s1 ⟨x, H2, I1, r1, a, ea, ⟨xs, hq⟩, q⟩ => ?_)
  subst ea
  cases r1
  obtain ⟨its, rv, isl, hz⟩ := I1.list hq
  refine wpAny_pyIter_list isl.isList ?_
  generalize hit : s1.heap.objs.size = it
  generalize hs2 : ({ s1 with heap := s1.heap.push { cls := .type "list_iterator", data := .fields #[.ref a, .int 0 0] } } : Shared) = s2
  have I2 : Inv X pins σ H2 s2 := by rw [← hs2]; exact I1.kept (t' := s1.toks) fun b o e => Heap.get?_push_of_some _ e
  have st2 : s2.heap.IsListIter it a 0 := by rw [← hs2, ← hit]; exact ⟨_, Heap.get?_push_size _ rfl, rfl, rfl⟩
  have f2 : FpOk X pins H2 it := by rw [← hit]; exact I1.fpOk (Nat.le_refl _) (I1.hok.fresh (Nat.le_refl _))
  refine wpAny_newObj_type (newEnv_comp ?_) (by show 0 ≤ sizeLine; decide)
  generalize hD : s2.heap.objs.size = D
  have hDn : H2 D = none := I2.hok.fresh (Nat.le_of_eq hD)
  obtain ⟨W, ⟨m0, w0⟩, turn⟩ := q D hDn
  generalize hs3 : ({ s2 with heap := s2.heap.push { cls := .type "list", data := .seq ([] : List Value).toArray } } : Shared) = s3
  have h3 : s3.heap = s2.heap.push { cls := .type "list", data := .seq ([] : List Value).toArray } := by rw [← hs3]
  have I3 : Inv X pins σ (upd H2 D (.lst [])) s3 := by
    rw [← hs3]
    refine I2.laid (t' := s2.toks) (fun b o e => Heap.get?_push_of_some _ e) (Nat.le_of_eq hD) ⟨Nat.zero_le _, [], 0, .nil, ?_⟩
    rw [← hD]
    exact Heap.get?_push_size _ rfl
  have ltit : it < s2.heap.objs.size := by
    obtain ⟨o, e, _⟩ := id st2
    exact Heap.lt_size e
  have f3 : ∀ b ∈ [it], FpOk X pins (upd H2 D (.lst [])) b ∧ b < s3.heap.objs.size := fun b hb => by
    have e : b = it := by simpa using hb
    subst e
    refine ⟨⟨?_, f2.2⟩, by rw [h3, Heap.size_push]; exact Nat.lt_succ_of_lt ltit⟩
    rw [upd_ne (by rw [← hD]; exact Nat.ne_of_lt ltit)]
    exact f2.1
  have st3 : s3.heap.IsListIter it a 0 := st2.at fun o e => by rw [h3]; exact Heap.get?_push_of_some _ e
  have I4 := block_start I3 ok hN f3
  generalize hC : s3.heap.objs.size = C at I4
  have hotb : ∀ cenv, HotB (X.blk s3 (upd H2 D (.lst [])) scope cenv [it]) := fun cenv => hot.block I3 fun b hb => (f3 b hb).1
  have pg := hg s3 (upd H2 D (.lst [])) C (cellsFrom (C + 1) scope.names (cloFrom X.env.cells scope.names [])) [it] (hotb _)
  have pt := ht s3 (upd H2 D (.lst [])) C (cellsFrom (C + 1) scope.names (cloFrom X.env.cells scope.names [])) [it] (hotb _)
  have pe := he s3 (upd H2 D (.lst [])) C (cellsFrom (C + 1) scope.names (cloFrom X.env.cells scope.names [])) [it] (hotb _)
  have hB := hotb (compEnvC scope (cellsFrom (C + 1) scope.names (cloFrom X.env.cells scope.names [])) C X.env)
  show codeAny (model X.prog X.w) X.A (.compStart (.ListComp elt [⟨tg, iter, ifs, 0⟩] scope pos) 0 (.ref it) (.ref D) (compEnvC scope (cellsFrom (C + 1) scope.names (cloFrom X.env.cells scope.names [])) C X.env)) (compPost (model X.prog X.w) X.A X.xe none (EP X pins σ Q) (.ref D) C) { s3 with heap := pushCells (s3.heap.push { cls := .type "dict", data := .dict #[] }) scope.names }
  have cL : (compEnvC scope (cellsFrom (C + 1) scope.names (cloFrom X.env.cells scope.names [])) C X.env).locals = C := rfl
  generalize compEnvC scope (cellsFrom (C + 1) scope.names (cloFrom X.env.cells scope.names [])) C X.env = ce at I4 pg pt pe cL hB ⊢
  generalize upd H2 D (.lst []) = H3 at I3 I4 pg pt pe w0 f3 hB
  have nit3 : H3 it = none := (f3 it (by simp)).1.1
  have st4 : ({ s3 with heap := pushCells (s3.heap.push { cls := .type "dict", data := .dict #[] }) scope.names } : Shared).heap.IsListIter it a 0 := st3.at fun o e => pushCells_keeps _ _ _ _ (Heap.get?_push_of_some _ e)
  generalize ({ s3 with heap := pushCells (s3.heap.push { cls := .type "dict", data := .dict #[] }) scope.names } : Shared) = s4 at I4 st4 ⊢
  -- the iterator in a state of the block
  have fpo : ∀ {σ' : L2.St} {H' : Hp} {s' : Shared}, Inv (X.blk s3 H3 scope ce [it]) [] σ' H' s' → H' it = none → FpOk (X.blk s3 H3 scope ce [it]) [] H' it := fun {σ' H' s'} I' hn =>
    ⟨hn, (I'.ok.exf it (by simp)).1, I'.ok.exfs it (by simp), .inl (by simp), fun x c e => (I'.ok.exf it (by simp)).2 x c e, fun p hp => absurd (show p ∈ ([] : List (Addr × Obj)) ++ [] from hp) (by simp)⟩
  suffices loop : codeAny (model X.prog X.w) X.A (.compLoop (.ListComp elt [⟨tg, iter, ifs, 0⟩] scope pos) 0 (.ref it) (.ref D) ce) (compPost (model X.prog X.w) X.A X.xe none (EP X pins σ Q) (.ref D) C) s4 from codeAny_compStart_list loop (wpAny_pyIter_listiter st4 loop)
  refine compLoop_any (fun n s' => ∃ i H', Inv (X.blk s3 H3 scope ce [it]) [] (L2.wipe σ (own.map (·.2))) H' s' ∧ s'.heap.IsListIter it a i ∧ H' it = none ∧ W i n H') ?_ m0 ⟨0, H3, I4, st4, nit3, w0⟩
  rintro n s5 ⟨i, H5, I5, st5, n5, w5⟩
  obtain ⟨f0, f1, f2', f3', f4, f5⟩ := fpo I5 n5
  rcases turn i n H5 w5 with ⟨⟨ys, hy, hle⟩, qq⟩ | ⟨⟨ys, x, hy, hx⟩, Nx, hNx, step⟩
  · obtain ⟨its5, rv5, p5, _⟩ := I5.list hy
    obtain ⟨x1, hat, hx1⟩ := hB.at I5
    refine list_end_hot hat (fun e => hx1 (by rw [e]; simp)) st5 p5.isList (by have := rv5.length; simp; omega) fun h' eb => ?_
    have I6 : Inv (X.blk s3 H3 scope ce [it]) [] (L2.wipe σ (own.map (·.2))) H5 { s5 with heap := h' } := I5.turned (t' := s5.toks) (fun b o hb e => eb b o hb e) f0 f1 f3' f4 f5
    have I7 : Inv X pins σ H5 { s5 with heap := h' } := I3.call' (ch := [it]) I6.os I6.base I6.hok I6.bare fun b hb => ⟨(f3 b hb).1.2.2.2.1, (f3 b hb).1.2.1, (f3 b hb).1.2.2.2.2.1, (f3 b hb).1.2.2.2.2.2⟩
    have nC : H5 C = none := by
      have z : H5 ce.locals = none := I6.free
      rw [cL] at z
      exact z
    obtain ⟨m, hn, _⟩ := I6.loc
    have hn : Heap.Ns h' ce.locals m := hn
    rw [cL] at hn
    refine ⟨m, hn, fun h'' sb => ?_⟩
    obtain ⟨g0, g1, g2, g3, g4, g5⟩ := I3.fpOk (Nat.le_of_eq hC) nC
    exact ⟨.ref D, H5, I7.turned (t' := s5.toks) (fun b o hb e => (sb.2 b hb).trans e) g0 g1 g3 g4 g5, rfl, qq⟩
  · obtain ⟨its5, rv5, p5, _⟩ := I5.list hy
    obtain ⟨u, hu, ru⟩ := rv5.get hx
    refine wpAny_pyNext_list_item st5 p5.isList (x := u) (by simpa using hu) fun h' st' sb => ?_
    have I6 : Inv (X.blk s3 H3 scope ce [it]) [] (L2.wipe σ (own.map (·.2))) H5 { s5 with heap := h' } := I5.turned (t' := s5.toks) (fun b o hb e => (sb.2 b hb).trans e) f0 f1 f3' f4 f5
    obtain ⟨o, e, c, d⟩ := id st'
    refine go_of (s := { s5 with heap := h' }) e c d (by decide) ?_
    have I7 := I6.pinned (fp := [it]) (fun b hb => by
      have e : b = it := by simpa using hb
      subst e
      exact ⟨f0, f1, f2', f3', f4, f5⟩) (fun b hb => by
      have e2 : b = it := by simpa using hb
      subst e2
      exact ⟨o, e, fun v z => by rw [d] at z; cases z⟩)
    refine thnF (pg.run _ _ _ H5 x u _ I7 ru (step x H5 ⟨rfl, fun zs hz => by rw [I5.list_inj hz hy]; exact hx⟩)) fun _ s8 ⟨σ8, H8, I8, hw8, q8⟩ => ?_
    refine thnF (pt.run _ s8 σ8 H8 _ I8 q8) fun b s9 ⟨H9, I9, q9⟩ => ?_
    have fin : ∀ {s' : Shared} {H' : Hp}, Inv (X.blk s3 H3 scope ce [it]) ([] ++ pinsAt [it] h') σ8 H' s' → Nx H' → ∃ m, m < n ∧ ∃ i H', Inv (X.blk s3 H3 scope ce [it]) [] (L2.wipe σ (own.map (·.2))) H' s' ∧ s'.heap.IsListIter it a i ∧ H' it = none ∧ W i m H' := fun {s' H'} I' nx => by
      obtain ⟨m', hm, w'⟩ := hNx H' nx
      have pin' := I'.pin (it, o) (List.mem_append_right _ (List.mem_append_right _ (mem_pinsAt (by simp) e)))
      refine ⟨m', hm, i + 1, H', (I'.unpinned (pins := [])).weak (by rw [← hw8, wipe_length]) (fun j v e => ?_), ⟨o, pin'.1, c, d⟩, pin'.2.1, w'⟩
      rw [← hw8] at e
      exact (wipe_some e).1
    cases b with
    | false =>
      simp only [Bool.false_eq_true, if_false] at q9 ⊢
      exact fin I9 q9
    | true =>
      simp only [if_true] at q9 ⊢
      refine thnF (pe.run _ s9 σ8 H9 _ I9 q9) fun z s10 ⟨yv, H10, I10, r10, acc, hD10, hz10, nx⟩ => ?_
      exact app_ok (X := X.blk s3 H3 scope ce [it]) I10 hD10 hz10 r10 fun s11 I11 => fin I11 nx
end
end Ev
set_option maxHeartbeats 2000000
/-! While an exception is handled, part 3: the comprehension, by its evaluation. -/
namespace Ev
open PySem PySem.Spec PyProof.Rows L2
section
variable {G : GC} {X : Cx} {W : WX} {pos p1 : Pos}
theorem tupT_hot (h : HotB X) : TupT X := fun _ _ _ _ _ hg a b => pg_tupH h hg a b
/-- a list that is walked -/
theorem seqL_list (gx : GX G X) {E : IE → Env → Store → Res R} {ie : IE} {σ : L2.St} {H : Hp} {Q : It → Hp → Prop} (hq : tW G X (evL E [ie]) .seqL W σ H Q) : iList X.K (tE G X (E ie) W) σ H Q := by
  refine tE_mono (tA_one (T := fun us H1 => ∃ x, us = [x] ∧ ∃ a, x = .ref a ∧ (∃ xs, SqL X.K H1 a xs) ∧ Q (Itl X.K a) H1) (stepW hq fun rs xs st us ρ env H1 he R pr e k => ?_)) (fun u H1 ⟨x, ex, h⟩ => by cases ex; exact h)
  obtain ⟨st0, he⟩ := he
  obtain ⟨r, rfl⟩ := one_of (evL_length (show evL E [ie] env st0 = .ok rs st from he))
  have e : (if isTupR r then none else items r st) = some xs := e
  obtain ⟨v, rfl, q⟩ := paired_one pr
  cases ht : isTupR r with
  | true => rw [ht] at e; cases e
  | false =>
    rw [ht] at e
    have e : items r st = some xs := e
    have nt : ∀ ys, r ≠ .d (.tuple ys) := notTup ht
    obtain ⟨a, vs, rfl, h1, h2⟩ := items_atL gx R.sat q e nt
    exact ⟨_, rfl, a, rfl, ⟨vs, h1⟩, k _ _ (itl_ok gx ht (List.mem_singleton.mpr rfl) e) ⟨q, e⟩⟩
theorem snd_seqL (gx : GX G X) {tg it : Expr} {E : IE → Env → Store → Res R} {ie : IE} (h : PE X it (tE G X (E ie) W)) : PI X tg it (tW G X (evL E [ie]) .seqL W) := PI.imp (pi_list h) fun σ H Q hq => seqL_list gx hq
theorem snd_compH (gx : GX G X) {v : Evs} {mt : Bool} {own : List (Str × Nat)} {ie : IE} {itg : Tg} {cond : Option IE} {ielt : IE} {C : Ctx} {F : FEv} {tg iter elt : Expr} {ifs : List Expr} {scope : Scope} (hot : HotN X) (hN : X.N.Nodup)
    (hs : ∀ i ∈ tgIx itg, i ∈ own.map (·.2)) (hi : PE X iter (tE G X (v.E ie) W)) (ok : BlkOk X.N X.env.scope scope own)
    (hg : ∀ (s : Shared) (H : Hp) (C : Addr) (cl : List (Str × Addr)) (fp : List Addr), HotB (X.blk s H scope (compEnvC scope cl C X.env) fp) → PG (X.blk s H scope (compEnvC scope cl C X.env) fp) tg (gTgP G itg))
    (ht : ∀ (s : Shared) (H : Hp) (C : Addr) (cl : List (Str × Addr)) (fp : List Addr), HotB (X.blk s H scope (compEnvC scope cl C X.env) fp) → IfsOk (X.blk s H scope (compEnvC scope cl C X.env) fp) G v ifs cond)
    (he : ∀ (s : Shared) (H : Hp) (C : Addr) (cl : List (Str × Addr)) (fp : List Addr), HotB (X.blk s H scope (compEnvC scope cl C X.env) fp) → PE (X.blk s H scope (compEnvC scope cl C X.env) fp) elt (tEP G (v.E ielt))) (hf : ∀ x, foldedSetIterable iter X.env x = pure x) :
    PE X (.ListComp elt [⟨tg, iter, ifs, 0⟩] scope pos) (tE G X (stepE C F v (.comp mt (own.map (·.2)) .seqL [ie] itg cond ielt)) W) := by
  refine PE.imp (pe_lcH hot hN hi ok hg (tt := ttOf G v cond) (fun s H C cl fp hb => ?_) he hf) fun σ H Q h => seqL_list gx (comp_plan hs h)
  have q := ht s H C cl fp hb
  cases ifs with
  | nil => cases cond with
    | none => exact pts_nil
    | some _ => exact q.elim
  | cons c cs => cases cs with
    | nil => cases cond with
      | none => exact q.elim
      | some ic => exact pts_one q
    | cons _ _ => cases cond <;> exact q.elim
end
end Ev
set_option maxHeartbeats 4000000
/-! The main theorem, part 1: expressions. -/
namespace Ev
open PySem PySem.Spec PyProof.Rows L2
abbrev ncOf (G : GC) (lam : Bool) (hot : Nat) : NC := { G.nc with lam := lam, hot := hot }
structure Cxt (G : GC) (d : Nat) (lam : Bool) (hot : Nat) (X : Cx) (W : WX) (N : List Str) (sc : Scope) : Prop where
  gx : GX G X
  N : X.N = N
  nd : X.N.Nodup
  sc : X.env.scope = sc
  un : X.A.units + 64 < cLine
  guards : X.A.guards = some []
  tk : L2N.Takes X W
  calm : hot = 0 → X.calm = true ∧ Room (4 * d + 2) X.A
  h1 : hot = 1 → HotN X
  h2 : hot ≠ 0 → hot = 1 ∨ HotB X
  lm : lam = true → LamMk G X ∧ X.ex = []
theorem Cxt.good {G : GC} {d : Nat} {lam : Bool} {hot : Nat} {X : Cx} {W : WX} {N : List Str} {sc : Scope} (c : Cxt G d lam hot X W N sc) (h : hot = 0) : Good G N sc d X := ⟨c.gx, c.N, c.nd, c.sc, (c.calm h).1, (c.calm h).2, c.guards⟩
theorem vis_of {sc : Scope} {x : Str} (h : visB sc x = true) : Vis sc x := by
  unfold visB at h
  split at h
  · exact .inl (by assumption)
  · exact .inr (.inl (by assumption))
  · exact .inr (.inr (by assumption))
  · cases h
theorem plain_of {x : Str} (h : plainName x = true) : (x == ("__debug__" : Str)) = false ∧ (x == ("__classdict__" : Str)) = false := by
  unfold plainName at h
  simp only [Bool.and_eq_true, Bool.not_eq_true'] at h
  exact ⟨h.1.1, h.1.2⟩
section
variable {G : GC} {d : Nat} {F : FEv} {L : IE → Env → Store → Res R}
/-- what is proved of an expression at a fuel -/
def HE (G : GC) (d : Nat) (F : FEv) (L : IE → Env → Store → Res R) (n : Nat) : Prop := ∀ (m : Nat) (lam : Bool) (hot : Nat) (X : Cx) (W : WX) (N : List Str) (sc : Scope) (e : Expr) (ie : IE), n ≤ m → m ≤ textDepth → Cxt G d lam hot X W N sc → ckE (ncOf G lam hot) N n sc e ie = true → PE X e (tE G X ((evs G.C F L m).E ie) W)
theorem snd_bop {X : Cx} {W : WX} {pos : Pos} {op : Operator} {o : Bop} (h : opB op o = true) (gx : GX G X) {ea eb : Env → Store → Res R} {a b : Expr} (ha : PE X a (tE G X ea W)) (hb : PE X b (tE G X eb W)) :
    PE X (.BinOp a op b pos) (tE G X (fun env st => (ea env st).bind fun x st => (eb env st).bind fun y st => match x, y with
      | .d x, .d y => match bopD o x y with
        | some z => .ok (.d z) st
        | none => .bad
      | _, _ => .bad) W) := by
  refine PE.imp (pe_op (op_bop h gx) ha hb) ?_
  rintro σ H Q ⟨ρ, env, st, R, p⟩
  refine stepE_bind R p fun x st1 u ρ1 H1 e01 l R1 q p1 => ?_
  refine stepE_bind R1 p1 fun y st2 w ρ2 H2 e02 l2 R2 q2 p2 => ?_
  split at p2
  · rename_i dx dy
    split at p2
    · rename_i z e3
      exact ⟨ρ2, st2, dx, dy, z, R2.sat, q.later l2, q2, e3, fun u H' l s r => p2 u ρ2 H' l s r⟩
    · exact p2.elim
  · exact p2.elim
theorem gl_of {X : Cx} {sc : Scope} {x : Str} (hs : X.env.scope = sc) (h : glB sc x = true) : Gl X x := by
  unfold glB at h
  rw [decide_eq_true_eq, ← hs] at h
  exact h
theorem ix_of {N : List Str} {x : Str} {i : Nat} (h : ixOf N x i = true) : N[i]? = some x := by
  unfold ixOf at h
  simpa using h
/-- of a test -/
def HT (G : GC) (d : Nat) (F : FEv) (L : IE → Env → Store → Res R) (n : Nat) : Prop := ∀ (m : Nat) (lam : Bool) (hot : Nat) (X : Cx) (W : WX) (N : List Str) (sc : Scope) (e : Expr) (ie : IE), n ≤ m → m ≤ textDepth → Cxt G d lam hot X W N sc → ckE (ncOf G lam hot) N n sc e ie = true → PT X e (tT G X (tstOf ((evs G.C F L m).E ie)) W)
theorem ckAnd_ok {lam : Bool} {hot : Nat} {X : Cx} {W : WX} {N : List Str} {sc : Scope} {pos : Pos} (c : Cxt G d lam hot X W N sc) : ∀ (n m : Nat), n ≤ m → m ≤ textDepth → (∀ k, k < n → HE G d F L k) → ∀ (es : List Expr) (ie : IE), ckAnd (ncOf G lam hot) N n sc es ie = true → PE X (.BoolOp .And es pos) (tE G X ((evs G.C F L m).E ie) W) := by
  intro n
  induction n with
  | zero => intro m _ _ _ es ie h; simp [ckAnd] at h
  | succ n ihn =>
    intro m hm hmt ih es ie h
    unfold ckAnd at h
    split at h
    · exact pe_one (ih n (by omega) m lam hot X W N sc _ _ (by omega) hmt c h)
    · simp only [Bool.and_eq_true] at h
      obtain ⟨m, rfl⟩ : ∃ k, m = k + 1 := ⟨m - 1, by omega⟩
      exact snd_and (ih n (by omega) m lam hot X W N sc _ _ (by omega) (by omega) c h.1) (ihn m (by omega) (by omega) (fun k hk => ih k (by omega)) _ _ h.2)
    · cases h
theorem ckOr_ok {lam : Bool} {hot : Nat} {X : Cx} {W : WX} {N : List Str} {sc : Scope} {pos : Pos} (c : Cxt G d lam hot X W N sc) : ∀ (n m : Nat), n ≤ m → m ≤ textDepth → (∀ k, k < n → HE G d F L k) → ∀ (es : List Expr) (ie : IE), ckOr (ncOf G lam hot) N n sc es ie = true → PE X (.BoolOp .Or es pos) (tE G X ((evs G.C F L m).E ie) W) := by
  intro n
  induction n with
  | zero => intro m _ _ _ es ie h; simp [ckOr] at h
  | succ n ihn =>
    intro m hm hmt ih es ie h
    unfold ckOr at h
    split at h
    · exact pe_one (ih n (by omega) m lam hot X W N sc _ _ (by omega) hmt c h)
    · simp only [Bool.and_eq_true] at h
      obtain ⟨m, rfl⟩ : ∃ k, m = k + 1 := ⟨m - 1, by omega⟩
      exact snd_or (ih n (by omega) m lam hot X W N sc _ _ (by omega) (by omega) c h.1) (ihn m (by omega) (by omega) (fun k hk => ih k (by omega)) _ _ h.2)
    · cases h
theorem ckO_ok {lam : Bool} {hot : Nat} {X : Cx} {W : WX} {N : List Str} {sc : Scope} (c : Cxt G d lam hot X W N sc) : ∀ (n m : Nat), n ≤ m + 1 → m ≤ textDepth → (∀ k, k < n → HE G d F L k) → ∀ (e : Option Expr) (ie : Option IE), ckO (ncOf G lam hot) N n sc e ie = true → PO X e (tO G X (evO (evs G.C F L m).E ie) W) := by
  intro n m hm hmt ih e ie h
  cases n with
  | zero => simp [ckO] at h
  | succ n =>
    unfold ckO at h
    split at h
    · exact snd_none
    · exact snd_some (ih n (by omega) m lam hot X W N sc _ _ (by omega) hmt c h)
    · cases h
theorem ckEs_ok {m : Nat} {lam : Bool} {hot : Nat} {X : Cx} {W : WX} {N : List Str} {sc : Scope} (hmt : m ≤ textDepth) (c : Cxt G d lam hot X W N sc) : ∀ (n : Nat), n ≤ m + 1 → (∀ k, k < n → HE G d F L k) → ∀ (es : List Expr) (ies : List IE), ckEs (ncOf G lam hot) N n sc es ies = true → Paired (fun e ie => PE X e (tE G X ((evs G.C F L m).E ie) W)) es ies := by
  intro n
  induction n with
  | zero => intro _ _ es ies h; simp [ckEs] at h
  | succ n ihn =>
    intro hn ih es ies h
    unfold ckEs at h
    split at h
    · exact .nil
    · simp only [Bool.and_eq_true] at h
      exact .cons (ih n (by omega) m lam hot X W N sc _ _ (by omega) hmt c h.1) (ihn (by omega) (fun k hk => ih k (by omega)) _ _ h.2)
    · cases h
theorem evs_L {C : Ctx} (m : Nat) : (evs C F L m).L = L := by cases m <;> rfl
theorem ckAs_ok {m : Nat} {lam : Bool} {hot : Nat} (h0 : hot = 0) {X : Cx} {W : WX} {N : List Str} {sc : Scope} (hmt : m ≤ textDepth) (c : Cxt G d lam hot X W N sc) : ∀ (n : Nat), n ≤ m + 1 → (∀ k, k < n → HE G d F L k) → ∀ (es : List Expr) (ies : List IE), plainArgs es = true → ckAs (ncOf G lam hot) N n sc es ies = true → PAL X es (tAL G X (evL (argE (evs G.C F L m)) ies) W) := by
  intro n
  induction n with
  | zero => intro _ _ es ies _ h; simp [ckAs] at h
  | succ n ihn =>
    intro hn ih es ies hp h
    unfold ckAs at h
    split at h
    · exact pal_nil
    · simp only [plainArgs, List.all_cons, Bool.and_eq_true, Bool.not_eq_true'] at hp
      rename_i args body scope pos es b ies
      simp only [Bool.and_eq_true] at h
      obtain ⟨⟨⟨⟨h1, h2⟩, h3⟩, h4⟩, h5⟩ := h
      obtain ⟨mk, hex⟩ := c.lm h2
      have ha : args = ⟨[], [], none, [], [], none, []⟩ := by
        split at h1
        · rfl
        · cases h1
      refine pal_lam (n := n) c.gx hex ha mk (by rw [c.sc]; exact LamX.lamS_by h3) ?_ (by omega) (ihn (by omega) (fun k hk => ih k (by omega)) _ _ hp.2 h5)
      rw [c.N]
      subst h0
      exact h4
    · simp only [plainArgs, List.all_cons, Bool.and_eq_true, Bool.not_eq_true'] at hp
      simp only [Bool.and_eq_true] at h
      exact pal_cons h.1.1 (ih n (by omega) m lam hot X W N sc _ _ (by omega) hmt c h.1.2) (ihn (by omega) (fun k hk => ih k (by omega)) _ _ hp.2 h.2) hp.1
    · cases h
theorem relab {scope : Scope} {env : PySem.Env} {cl : List (Str × Addr)} {C : Addr} : (compEnvC scope cl C env).scope = L2.relS scope env.scope := rfl
/-- the context of a comprehension's block -/
theorem Cxt.blk {lam : Bool} {hot : Nat} {X : Cx} {W : WX} {N : List Str} {sc : Scope} (c : Cxt G d lam hot X W N sc) {s : Shared} {H : Hp} {scope : Scope} {cl : List (Str × Addr)} {C : Addr} {fp : List Addr} (hb : hot ≠ 0 → HotB (X.blk s H scope (compEnvC scope cl C X.env) fp)) :
    Cxt G d false (if hot == 0 then 0 else 2) (X.blk s H scope (compEnvC scope cl C X.env) fp) WF N (L2.relS scope sc) where
  gx := ⟨c.gx.P, c.gx.w, c.gx.K, c.gx.mg, c.gx.base⟩
  N := c.N
  nd := c.nd
  sc := by rw [← c.sc]; rfl
  un := c.un
  guards := c.guards
  tk := fun u s' ⟨_, _, _, _, _, _, _, _, _, _, _, _, _, _, _, _, z⟩ => (show False from z).elim
  calm := fun h => c.calm (by
    by_cases h0 : hot = 0
    · exact h0
    · simp [h0] at h)
  h1 := fun h => by
    by_cases h0 : hot = 0
    · simp [h0] at h
    · simp [h0] at h
  h2 := fun h => .inr (hb fun h0 => h (by simp [h0]))
  lm := fun h => by cases h
theorem blk_store {X : Cx} {s : Shared} {H : Hp} {scope : Scope} {cl : List (Str × Addr)} {C : Addr} {fp : List Addr} : StoreOk (X.blk s H scope (compEnvC scope cl C X.env) fp) scope := by
  intro x h
  unfold locB at h
  split at h
  · rename_i e
    have z : (L2.relS scope X.env.scope).names.lookup x = some .local := lookup_relS_keep (by decide) e
    exact ⟨.inl z, .inr z⟩
  · rename_i e
    have z : (L2.relS scope X.env.scope).names.lookup x = some .cell := lookup_relS_keep (by decide) e
    exact ⟨.inr z, .inl (by show (scope.names.lookup x == some .cell) = true; rw [e]; rfl)⟩
  · cases h
theorem ckW_ok (O : GOk G) {lam : Bool} {hot : Nat} {X : Cx} {W : WX} {N : List Str} {sc : Scope} (c : Cxt G d lam hot X W N sc) : ∀ (n m : Nat), n ≤ m + 1 → m ≤ textDepth → (∀ k, k < n → HE G d F L k) → ∀ (tg e : Expr) (k : Itk) (ies : List IE), ckW (ncOf G lam hot) N n sc tg e k ies = true → PI X tg e (tW G X (evL (evs G.C F L m).E ies) k W) ∧ isSet e = false := by
  intro n m hm hmt ih tg e k ies h
  cases n with
  | zero => simp [ckW] at h
  | succ n =>
    have sub : ∀ {e : Expr} {ie : IE}, ckE (ncOf G lam hot) N n sc e ie = true → PE X e (tE G X ((evs G.C F L m).E ie) W) := fun {e ie} h => ih n (by omega) m lam hot X W N sc e ie (by omega) hmt c h
    unfold ckW at h
    split at h
    · simp only [Bool.and_eq_true, Bool.not_eq_true'] at h
      exact ⟨snd_seq c.gx (sub h.2), h.1⟩
    · simp only [Bool.and_eq_true, Bool.not_eq_true'] at h
      exact ⟨snd_seqL c.gx (sub h.2), h.1⟩
    · simp only [Bool.and_eq_true, decide_eq_true_eq] at h
      obtain ⟨⟨⟨h1, h2⟩, h3⟩, h4⟩ := h
      subst h1
      exact ⟨snd_rng1 O c.gx (gl_of c.sc h2) h3 (sub h4), rfl⟩
    · simp only [Bool.and_eq_true, decide_eq_true_eq] at h
      obtain ⟨⟨⟨⟨h1, h2⟩, h3⟩, h4⟩, h5⟩ := h
      subst h1
      exact ⟨snd_rng2 O c.gx (gl_of c.sc h2) h3 (sub h4) (sub h5), rfl⟩
    · simp only [Bool.and_eq_true, decide_eq_true_eq] at h
      obtain ⟨⟨⟨⟨h1, h2⟩, h3⟩, h4⟩, h5⟩ := h
      subst h1
      cases tg <;> first | exact ⟨snd_enum O c.gx (gl_of c.sc h2) h3 (sub h4), rfl⟩ | cases h5
    · simp only [Bool.and_eq_true, decide_eq_true_eq] at h
      obtain ⟨⟨⟨⟨⟨h1, h2⟩, h3⟩, h4⟩, h5⟩, h6⟩ := h
      subst h1
      cases tg <;> first | exact ⟨snd_zip O c.gx (gl_of c.sc h2) h3 (sub h4) (sub h5), rfl⟩ | cases h6
    · cases h
theorem tE_congr {X : Cx} {W : WX} {e : Expr} {ev ev' : Env → Store → Res R} (h : PE X e (tE G X ev W)) (eq : ∀ env st, ev env st = ev' env st) : PE X e (tE G X ev' W) := by
  have e2 : ev = ev' := funext fun env => funext fun st => eq env st
  subst e2
  exact h
theorem main_E (O : GOk G) (EU : ExcUse G) (FS : FnSnd G F (4 * d)) (CS : ClSnd G L (4 * d)) (n : Nat) (ih : ∀ k, k ≤ n → HE G d F L k) (ihT : ∀ k, k ≤ n → HT G d F L k) : HE G d F L (n + 1) := by
  intro m lam hot X W N sc e ie hm hmt c h
  obtain ⟨m, rfl⟩ : ∃ k, m = k + 1 := ⟨m - 1, by omega⟩
  unfold ckE at h
  simp only [Bool.and_eq_true] at h
  obtain ⟨hh, h⟩ := h
  have gx := c.gx
  have hN := c.N
  have hsc := c.sc
  have sub : ∀ {e : Expr} {ie : IE}, ckE (ncOf G lam hot) N n sc e ie = true → PE X e (tE G X ((evs G.C F L m).E ie) W) := fun {e ie} h => ih n (Nat.le_refl _) m lam hot X W N sc e ie (by omega) (by omega) c h
  have subs : ∀ {es : List Expr} {ies : List IE}, ckEs (ncOf G lam hot) N n sc es ies = true → Paired (fun e ie => PE X e (tE G X ((evs G.C F L m).E ie) W)) es ies := fun {es ies} h => ckEs_ok (by omega) c n (by omega) (fun k hk => ih k (by omega)) es ies h
  have hu := c.un
  split at h
  · simp only [Bool.and_eq_true] at h
    exact snd_var (by rw [hN]; exact ix_of h.1.1) (by rw [hsc]; exact vis_of h.1.2) (plain_of h.2).1 (plain_of h.2).2
  · simp only [Bool.and_eq_true, decide_eq_true_eq] at h
    exact snd_glob O gx h.1.1 (gl_of hsc h.1.2) (plain_of h.2).1
  · exact snd_k h
  · rw [Bool.and_eq_true] at h
    exact snd_tup (snd_args h.1 (subs h.2))
  · rw [Bool.and_eq_true] at h
    exact snd_lst (snd_args h.1 (subs h.2))
  · simp only [Bool.and_eq_true] at h
    exact snd_bop h.1.1 gx (sub h.1.2) (sub h.2)
  · exact snd_neg (sub h)
  · exact snd_not gx (sub h)
  · simp only [Bool.and_eq_true] at h
    have hne : ∀ {vs : List Expr} {ib : IE}, ckAnd (ncOf G lam hot) N n sc vs ib = true → ∃ b rest, vs = b :: rest := fun {vs ib} h => by
      cases n with
      | zero => simp [ckAnd] at h
      | succ n =>
        unfold ckAnd at h
        split at h
        · exact ⟨_, _, rfl⟩
        · exact ⟨_, _, rfl⟩
        · cases h
    obtain ⟨b, rest, e⟩ := hne h.2
    subst e
    exact snd_and (sub h.1) (ckAnd_ok c n m (by omega) (by omega) (fun k hk => ih k (by omega)) _ _ h.2)
  · simp only [Bool.and_eq_true] at h
    have hne : ∀ {vs : List Expr} {ib : IE}, ckOr (ncOf G lam hot) N n sc vs ib = true → ∃ b rest, vs = b :: rest := fun {vs ib} h => by
      cases n with
      | zero => simp [ckOr] at h
      | succ n =>
        unfold ckOr at h
        split at h
        · exact ⟨_, _, rfl⟩
        · exact ⟨_, _, rfl⟩
        · cases h
    obtain ⟨b, rest, e⟩ := hne h.2
    subst e
    exact snd_or (sub h.1) (ckOr_ok c n m (by omega) (by omega) (fun k hk => ih k (by omega)) _ _ h.2)
  · simp only [Bool.and_eq_true] at h
    exact snd_cmp h.1.1 gx hu (sub h.1.2) (sub h.2)
  · exact snd_isn (sub h)
  · exact snd_notn (sub h)
  · simp only [Bool.and_eq_true] at h
    exact snd_chain h.1.1.1.1 h.1.1.1.2 (sub h.1.1.2) (sub h.1.2) (sub h.2)
  · simp only [Bool.and_eq_true] at h
    exact snd_ite (ihT n (Nat.le_refl _) m lam hot X W N sc _ _ (by omega) (by omega) c h.1.1) (sub h.1.2) (sub h.2)
  · simp only [Bool.and_eq_true] at h
    exact snd_sl gx (sub h.1.1) (ckO_ok c n m (by omega) (by omega) (fun k hk => ih k (by omega)) _ _ h.1.2) (ckO_ok c n m (by omega) (by omega) (fun k hk => ih k (by omega)) _ _ h.2)
  · simp only [Bool.and_eq_true, Bool.not_eq_true'] at h
    exact snd_ix gx (sub h.1.2) (sub h.2) h.1.1
  · have h0 : hot = 0 := by simpa [hotOk] using hh
    simp only [Bool.and_eq_true, decide_eq_true_eq] at h
    obtain ⟨⟨⟨⟨h1, h2⟩, h3⟩, h4⟩, h5⟩ := h
    refine snd_call (C := G.C) O gx FS ((c.calm h0).2.mono (by omega)) c.guards c.nd c.tk h1 (gl_of hsc h2) (plain_of h3).1 h4 (fun e => ?_) (ckAs_ok h0 (by omega) c n (by omega) (fun k hk => ih k (by omega)) _ _ h4 h5)
    subst e
    cases n with
    | zero => simp [ckAs] at h5
    | succ n =>
      unfold ckAs at h5
      split at h5
      · rfl
      · simp_all
      · simp_all
      · cases h5
  · simp only [Bool.and_eq_true, decide_eq_true_eq, Bool.not_eq_true'] at h
    obtain ⟨⟨⟨⟨⟨h1, h2⟩, h3⟩, h4⟩, h5⟩, h6⟩ := h
    subst h1 h2
    refine tE_congr (snd_isi O gx (gl_of hsc h3) (gl_of hsc h4) h5 (sub h6)) fun env st => ?_
    show _ = ((evL (evs G.C F L m).E _ env st).bind fun rs st => ap1 (isiK _ st) rs)
    simp only [evL]
    cases (evs G.C F L m).E _ env st <;> rfl
  · simp only [Bool.and_eq_true, decide_eq_true_eq] at h
    obtain ⟨⟨⟨⟨⟨⟨⟨h1, h2⟩, h3⟩, h4⟩, h5⟩, h6⟩, h7⟩, h8⟩ := h
    subst h1
    exact snd_isx (F := F) (v := evs G.C F L m) O gx EU (gl_of hsc h3) (gl_of hsc h4) (plain_of h5).1 h2 (by rw [hN]; exact ix_of h6) (by rw [hsc]; exact vis_of h7) (plain_of h8).1 (plain_of h8).2
  · have h0 : hot = 0 := by simpa [hotOk] using hh
    simp only [Bool.and_eq_true, decide_eq_true_eq] at h
    obtain ⟨⟨⟨⟨⟨⟨h1, h2⟩, h3⟩, h4⟩, h5⟩, h6⟩, h7⟩ := h
    subst h1 h2
    exact snd_lrng O gx (c.calm h0).1 (gl_of hsc h4) (gl_of hsc h5) h6 h3 (subs h7)
  · have h0 : hot = 0 := by simpa [hotOk] using hh
    simp only [Bool.and_eq_true, decide_eq_true_eq] at h
    obtain ⟨⟨⟨⟨h1, h2⟩, h3⟩, h4⟩, h5⟩ := h
    subst h2
    exact snd_bi O (c.good h0) h1 (gl_of hsc h3) h4 (snd_args h4 (subs h5))
  · simp only [Bool.and_eq_true, decide_eq_true_eq, Bool.not_eq_true'] at h
    obtain ⟨⟨⟨⟨⟨h1, h2⟩, h3⟩, h4⟩, h5⟩, h6⟩ := h
    subst h1
    refine tE_congr (snd_me_all gx (sub h5) (sub h6) h3 h4 h2) fun env st => ?_
    show _ = ((evs G.C F L m).E _ env st).bind fun x st => if recvOk _ x st then (evL (evs G.C F L m).E [_] env st).bind fun rs st => meR _ x rs st else .bad
    congr 1
    funext x st1
    split
    · simp only [evL]
      cases (evs G.C F L m).E _ env st1 <;> rfl
    · rfl
  · have h0 : hot = 0 := by simpa [hotOk] using hh
    simp only [Bool.and_eq_true] at h
    exact snd_clo (C := G.C) (F := F) (v := evs G.C F L m) (k := 4 * d) gx (by rw [evs_L]; exact CS) ((c.calm h0).2.mono (by omega)) c.guards c.tk (by rw [hN]; exact ix_of h.1.1) (by rw [hsc]; exact vis_of h.1.2) (plain_of h.2).1 (plain_of h.2).2
  · simp only [Bool.and_eq_true, decide_eq_true_eq] at h
    obtain ⟨⟨⟨h1, h2⟩, h3⟩, h4⟩ := h
    subst h1
    exact snd_what (C := G.C) (F := F) (v := evs G.C F L m) gx EU (by rw [hN]; exact ix_of h2) (by rw [hsc]; exact vis_of h3) (plain_of h4).1 (plain_of h4).2
  · rename_i elt tg iter ifs scope pos mt own k ies itg ic ielt
    simp only [Bool.and_eq_true, decide_eq_true_eq] at h
    obtain ⟨⟨⟨⟨⟨⟨h1, h2⟩, h3⟩, h4⟩, h5⟩, h6⟩, h7⟩ := h
    have ok : BlkOk X.N X.env.scope scope (ownOf N own) := by rw [hN, hsc]; exact blkOk_by h1
    have hs : ∀ i ∈ tgIx itg, i ∈ (ownOf N own).map (·.2) := fun i hi => by
      rw [h2]
      have := List.all_eq_true.mp h5 i hi
      simpa using this
    obtain ⟨hW, hset⟩ := ckW_ok (W := W) O c n m (by omega) (by omega) (fun k hk => ih k (by omega)) tg iter k ies h3
    have hfold : ∀ x, foldedSetIterable iter X.env x = pure x := by cases iter <;> first | (intro _; rfl) | (simp [isSet] at hset)
    have hE : ∀ {s : Shared} {H : Hp} {C : Addr} {cl : List (Str × Addr)} {fp : List Addr}, (hot ≠ 0 → HotB (X.blk s H scope (compEnvC scope cl C X.env) fp)) → PE (X.blk s H scope (compEnvC scope cl C X.env) fp) elt (tEP G ((evs G.C F L m).E ielt)) := fun {s H C cl fp} hb => by
      cases n with
      | zero => simp [ckElt] at h6
      | succ n =>
        unfold ckElt at h6
        exact pe_p (ih n (by omega) m false _ _ WF N _ _ _ (by omega) (by omega) (c.blk hb) h6)
    have hT : ∀ {s : Shared} {H : Hp} {C : Addr} {cl : List (Str × Addr)} {fp : List Addr}, (hot ≠ 0 → HotB (X.blk s H scope (compEnvC scope cl C X.env) fp)) → IfsOk (X.blk s H scope (compEnvC scope cl C X.env) fp) G (evs G.C F L m) ifs ic := fun {s H C cl fp} hb => by
      split at h7
      · trivial
      · exact pt_p (ihT n (Nat.le_refl _) m false _ _ WF N _ _ _ (by omega) (by omega) (c.blk hb) h7)
      · cases h7
    have hG : ∀ {s : Shared} {H : Hp} {C : Addr} {cl : List (Str × Addr)} {fp : List Addr}, TupT (X.blk s H scope (compEnvC scope cl C X.env) fp) → PG (X.blk s H scope (compEnvC scope cl C X.env) fp) tg (gTgP G itg) := fun {s H C cl fp} ht =>
      pg_p (snd_tg ⟨gx.P, gx.w, gx.K, gx.mg, gx.base⟩ hN c.nd ht blk_store h4)
    have fin : PE X (.ListComp elt [⟨tg, iter, ifs, 0⟩] scope pos) (tE G X (stepE G.C F (evs G.C F L m) (.comp mt ((ownOf N own).map (·.2)) k ies itg ic ielt)) W) := by
      by_cases h0 : hot = 0
      · exact snd_comp (c.calm h0).1 c.nd hs hW ok (fun s H C cl fp => hG (tupT_calm (c.calm h0).1)) (fun s H C cl fp => hT fun z => absurd h0 z) (fun s H C cl fp => hE fun z => absurd h0 z) hfold
      · have hk : k = .seqL ∧ hot = 1 := by
          cases k <;> simp_all [hotOk]
        obtain ⟨rfl, h1'⟩ := hk
        cases n with
        | zero => simp [ckW] at h3
        | succ n =>
          cases ies with
          | nil => simp [ckW] at h3
          | cons ie ies => cases ies with
            | cons _ _ => simp [ckW] at h3
            | nil =>
              simp only [ckW, Bool.and_eq_true, Bool.not_eq_true'] at h3
              exact snd_compH gx (c.h1 h1') c.nd hs (ih n (by omega) m lam hot X W N sc _ _ (by omega) (by omega) c h3.2) ok (fun s H C cl fp hb => hG (tupT_hot hb)) (fun s H C cl fp hb => hT fun _ => hb) (fun s H C cl fp hb => hE fun _ => hb) hfold
    rw [h2] at fin
    exact fin
  · cases h
end
end Ev
set_option maxHeartbeats 4000000
/-! The main theorem, part 2: tests. -/
namespace Ev
open PySem PySem.Spec PyProof.Rows L2
section
variable {G : GC} {d : Nat} {F : FEv} {L : IE → Env → Store → Res R}
theorem ckAndT_ok {lam : Bool} {hot : Nat} {X : Cx} {W : WX} {N : List Str} {sc : Scope} {pos : Pos} (c : Cxt G d lam hot X W N sc) : ∀ (n m : Nat), n ≤ m → m ≤ textDepth → (∀ k, k < n → HT G d F L k) → ∀ (es : List Expr) (ie : IE), ckAnd (ncOf G lam hot) N n sc es ie = true → PW X (.BoolOp .And es pos) (tT G X (tstOf ((evs G.C F L m).E ie)) W) := by
  intro n
  induction n with
  | zero => intro m _ _ _ es ie h; simp [ckAnd] at h
  | succ n ihn =>
    intro m hm hmt ih es ie h
    unfold ckAnd at h
    split at h
    · exact pw_and1 (ih n (by omega) m lam hot X W N sc _ _ (by omega) hmt c h)
    · simp only [Bool.and_eq_true] at h
      obtain ⟨m, rfl⟩ : ∃ k, m = k + 1 := ⟨m - 1, by omega⟩
      exact tst_and (ih n (by omega) m lam hot X W N sc _ _ (by omega) (by omega) c h.1) (ihn m (by omega) (by omega) (fun k hk => ih k (by omega)) _ _ h.2)
    · cases h
theorem ckOrT_ok {lam : Bool} {hot : Nat} {X : Cx} {W : WX} {N : List Str} {sc : Scope} {pos : Pos} (c : Cxt G d lam hot X W N sc) : ∀ (n m : Nat), n ≤ m → m ≤ textDepth → (∀ k, k < n → HT G d F L k) → ∀ (es : List Expr) (ie : IE), ckOr (ncOf G lam hot) N n sc es ie = true → PW X (.BoolOp .Or es pos) (tT G X (tstOf ((evs G.C F L m).E ie)) W) := by
  intro n
  induction n with
  | zero => intro m _ _ _ es ie h; simp [ckOr] at h
  | succ n ihn =>
    intro m hm hmt ih es ie h
    unfold ckOr at h
    split at h
    · exact pw_or1 (ih n (by omega) m lam hot X W N sc _ _ (by omega) hmt c h)
    · simp only [Bool.and_eq_true] at h
      obtain ⟨m, rfl⟩ : ∃ k, m = k + 1 := ⟨m - 1, by omega⟩
      exact tst_or (ih n (by omega) m lam hot X W N sc _ _ (by omega) (by omega) c h.1) (ihn m (by omega) (by omega) (fun k hk => ih k (by omega)) _ _ h.2)
    · cases h
theorem main_T (n : Nat) (ihE : HE G d F L (n + 1)) (ih : ∀ k, k ≤ n → HE G d F L k) (ihT : ∀ k, k ≤ n → HT G d F L k) : HT G d F L (n + 1) := by
  intro m lam hot X W N sc e ie hm hmt c h0
  have hPE := ihE m lam hot X W N sc e ie hm hmt c h0
  have gx := c.gx
  have hu := c.un
  have h := h0
  unfold ckE at h
  simp only [Bool.and_eq_true] at h
  obtain ⟨hh, h⟩ := h
  obtain ⟨m, rfl⟩ : ∃ k, m = k + 1 := ⟨m - 1, by omega⟩
  have sub : ∀ {e : Expr} {ie : IE}, ckE (ncOf G lam hot) N n sc e ie = true → PE X e (tE G X ((evs G.C F L m).E ie) W) := fun {e ie} h => ih n (Nat.le_refl _) m lam hot X W N sc e ie (by omega) (by omega) c h
  have subT : ∀ {e : Expr} {ie : IE}, ckE (ncOf G lam hot) N n sc e ie = true → PT X e (tT G X (tstOf ((evs G.C F L m).E ie)) W) := fun {e ie} h => ihT n (Nat.le_refl _) m lam hot X W N sc e ie (by omega) (by omega) c h
  split at h
  case h_8 => exact tst_not (subT h)
  case h_9 =>
    simp only [Bool.and_eq_true] at h
    have hne : ∀ {vs : List Expr} {ib : IE}, ckAnd (ncOf G lam hot) N n sc vs ib = true → ∃ b rest, vs = b :: rest := fun {vs ib} h => by
      cases n with
      | zero => simp [ckAnd] at h
      | succ n =>
        unfold ckAnd at h
        split at h
        · exact ⟨_, _, rfl⟩
        · exact ⟨_, _, rfl⟩
        · cases h
    obtain ⟨b, rest, e⟩ := hne h.2
    subst e
    exact (tst_and (subT h.1) (ckAndT_ok c n m (by omega) (by omega) (fun k hk => ihT k (by omega)) _ _ h.2)).pt
  case h_10 =>
    simp only [Bool.and_eq_true] at h
    have hne : ∀ {vs : List Expr} {ib : IE}, ckOr (ncOf G lam hot) N n sc vs ib = true → ∃ b rest, vs = b :: rest := fun {vs ib} h => by
      cases n with
      | zero => simp [ckOr] at h
      | succ n =>
        unfold ckOr at h
        split at h
        · exact ⟨_, _, rfl⟩
        · exact ⟨_, _, rfl⟩
        · cases h
    obtain ⟨b, rest, e⟩ := hne h.2
    subst e
    exact (tst_or (subT h.1) (ckOrT_ok c n m (by omega) (by omega) (fun k hk => ihT k (by omega)) _ _ h.2)).pt
  case h_11 =>
    simp only [Bool.and_eq_true] at h
    exact tst_cmp h.1.1 gx hu (sub h.1.2) (sub h.2)
  case h_12 => exact tst_isn (sub h)
  case h_13 => exact tst_notn (sub h)
  case h_14 =>
    simp only [Bool.and_eq_true] at h
    exact tst_chain h.1.1.1.1 h.1.1.1.2 (sub h.1.1.2) (sub h.1.2) (sub h.2)
  case h_15 =>
    simp only [Bool.and_eq_true] at h
    exact tst_ite (subT h.1.1) (subT h.1.2) (subT h.2)
  case h_27 => cases h
  all_goals exact tst_truth gx hPE (fun _ => rfl)
end
end Ev
set_option maxHeartbeats 4000000
/-! The main theorem, part 3: statements. -/
namespace Ev
open PySem PySem.Spec PyProof.Rows L2
theorem comp_inv {nc : NC} {N : List Str} {n : Nat} {sc : Scope} {elt : Expr} {gens : List Comprehension} {scope : Scope} {pos : Pos} {ie : IE} (h : ckE nc N (n + 1) sc (.ListComp elt gens scope pos) ie = true) :
    ∃ tg iter ifs mt own k ies itg ic ielt, gens = [⟨tg, iter, ifs, 0⟩] ∧ ie = .comp mt own k ies itg ic ielt := by
  unfold ckE at h
  simp only [Bool.and_eq_true] at h
  obtain ⟨_, h⟩ := h
  split at h
  all_goals first
    | (rename_i e1 _ _; cases e1; done)
    | (rename_i e1 _; cases e1; done)
    | (rename_i e1; cases e1; done)
    | skip
  · rename_i tg iter ifs scope' pos' mt own k ies itg ic ielt he _
    cases he
    exact ⟨_, _, _, _, _, _, _, _, _, _, rfl, rfl⟩
  · cases h
section
variable {G : GC} {d : Nat} {F : FEv} {L : IE → Env → Store → Res R}
/-- a context in which statements run -/
structure CxS (G : GC) (d : Nat) (lam : Bool) (hot : Nat) (X : Cx) (W : WX) (N : List Str) (sc : Scope) : Prop where
  c : Cxt G d lam hot X W N sc
  fn : X.fn = (fun _ => true)
  kind : X.env.scope.kind = .function
  stk : X.stack = X.env :: X.outer
  frm : X.env.frame = some X.env.locals
  ex : X.ex = []
  own : hot = 0 → PassesOwn (model X.prog X.w) X.A X.env X.xe
  hot : hot = 0 ∨ hot = 1
theorem CxS.store {lam : Bool} {hot : Nat} {X : Cx} {W : WX} {N : List Str} {sc : Scope} (c : CxS G d lam hot X W N sc) : StoreOk X sc := by
  intro x h
  refine ⟨?_, .inl (by rw [c.fn])⟩
  unfold locB at h
  rw [c.c.sc]
  split at h
  · exact .inl (by assumption)
  · exact .inr (by assumption)
  · cases h
theorem CxS.blk {lam : Bool} {hot : Nat} {X : Cx} {W : WX} {N : List Str} {sc : Scope} (c : CxS G d lam hot X W N sc) : X.env.blockKind = .function := by
  unfold PySem.Env.blockKind
  rw [c.kind]
  rfl
def HSs (G : GC) (d : Nat) (F : FEv) (L : IE → Env → Store → Res R) (n : Nat) : Prop := ∀ (m : Nat) (lam : Bool) (hot : Nat) (X : Cx) (W : WX) (N : List Str) (sc : Scope) (ss : List Stmt) (is : List IS), n ≤ m + 1 → m ≤ textDepth → CxS G d lam hot X W N sc → ckSs (ncOf G lam hot) N n sc ss is = true → PSs X ss (tS G X (stepS G.C (evs G.C F L m) is) W)
def HS1 (G : GC) (d : Nat) (F : FEv) (L : IE → Env → Store → Res R) (n : Nat) : Prop := ∀ (m : Nat) (lam : Bool) (hot : Nat) (X : Cx) (W : WX) (N : List Str) (sc : Scope) (s : Stmt) (i : IS), n ≤ m + 1 → m ≤ textDepth → CxS G d lam hot X W N sc → ckS (ncOf G lam hot) N n sc s i = true → PS X s (tS G X (stepS1 G.C (evs G.C F L m) i) W)
theorem main_Ss (n : Nat) (h1 : HS1 G d F L n) (h2 : HSs G d F L n) : HSs G d F L (n + 1) := by
  intro m lam hot X W N sc ss is hm hmt c h
  unfold ckSs at h
  split at h
  · exact ss_frz (h2 m lam hot X W N sc _ _ (by omega) hmt c h)
  · exact ss_nil
  · simp only [Bool.and_eq_true] at h
    exact ss_cons (h1 m lam hot X W N sc _ _ (by omega) hmt c h.1) (h2 m lam hot X W N sc _ _ (by omega) hmt c h.2)
  · cases h
theorem main_S (O : GOk G) (EO : ∀ c x, G.nc.cls[c]? = some x → ExcOk G c x) (EA : ExcAll G) (n : Nat) (hm0 : 0 < n) (ihE : ∀ k, k ≤ n → HE G d F L k) (ihT : ∀ k, k ≤ n → HT G d F L k) (ihS : HSs G d F L n) : HS1 G d F L (n + 1) := by
  intro m lam hot X W N sc s i hm hmt cs h
  have c := cs.c
  have gx := c.gx
  have hN := c.N
  have hsc := c.sc
  unfold ckS at h
  simp only [Bool.and_eq_true] at h
  obtain ⟨hh, h⟩ := h
  have sub : ∀ {e : Expr} {ie : IE}, ckE (ncOf G lam hot) N n sc e ie = true → PE X e (tE G X ((evs G.C F L m).E ie) W) := fun {e ie} h => ihE n (Nat.le_refl _) m lam hot X W N sc e ie (by omega) hmt c h
  have subs : ∀ {ss : List Stmt} {is : List IS}, ckSs (ncOf G lam hot) N n sc ss is = true → PSs X ss (tS G X ((evs G.C F L m).S is) W) := fun {ss is} h => by
    obtain ⟨m, rfl⟩ : ∃ k, m = k + 1 := ⟨m - 1, by omega⟩
    exact ihS m lam hot X W N sc ss is (by omega) (by omega) cs h
  have z0 : ∀ {b : Bool}, (hot == 0 || b) = true → b = false → hot = 0 := fun {b} h e => by subst e; simpa using h
  have tgt : ∀ {tg : Expr} {t : Tg}, hot = 0 → ckTg N sc tg t = true → PG X tg (gTg G X t) := fun {tg t} h0 h => snd_tg gx hN c.nd (tupT_calm (c.calm h0).1) cs.store h
  split at h
  · simp only [Bool.and_eq_true] at h
    obtain ⟨⟨h1, h2⟩, h3⟩ := h
    split at h3
    · rename_i elt gens scope lpos
      simp only [Bool.and_eq_true, decide_eq_true_eq, Bool.not_eq_true', beq_iff_eq] at h3
      obtain ⟨⟨⟨h0, h4⟩, h5⟩, h6⟩ := h3
      have h0 : hot = 0 := h0
      subst h0
      obtain ⟨n, rfl⟩ : ∃ k, n = k + 1 := ⟨n - 1, by omega⟩
      obtain ⟨m, rfl⟩ : ∃ k, m = k + 1 := ⟨m - 1, by omega⟩
      obtain ⟨tg, iter, ifs, mt, own, k, ies, itg, ic, ielt, rfl, rfl⟩ := comp_inv h2
      unfold ckE at h2
      simp only [Bool.and_eq_true, decide_eq_true_eq] at h2
      obtain ⟨_, ⟨⟨⟨⟨⟨g1, g2⟩, g3⟩, g4⟩, g5⟩, g6⟩, g7⟩ := h2
      have ok : BlkOk X.N X.env.scope scope (ownOf N own) := by rw [hN, hsc]; exact blkOk_by g1
      have hs : ∀ i ∈ tgIx itg, i ∈ (ownOf N own).map (·.2) := fun i hi => by
        rw [g2]
        have := List.all_eq_true.mp g5 i hi
        simpa using this
      obtain ⟨hW, hset⟩ := ckW_ok (F := F) (L := L) (W := W) O c n m (by omega) (by omega) (fun k hk => ihE k (by omega)) tg iter k ies g3
      have hfold : ∀ x, foldedSetIterable iter X.env x = pure x := by cases iter <;> first | (intro _; rfl) | (simp [isSet] at hset)
      have hE : ∀ {s : Shared} {H : Hp} {C : Addr} {cl : List (Str × Addr)} {fp : List Addr}, PE (X.blk s H scope (compEnvC scope cl C X.env) fp) elt (tEP G ((evs G.C F L m).E ielt)) := fun {s H C cl fp} => by
        cases n with
        | zero => simp [ckElt] at g6
        | succ n =>
          unfold ckElt at g6
          exact pe_p (ihE n (by omega) m false _ _ WF N _ _ _ (by omega) (by omega) (c.blk fun z => absurd rfl z) g6)
      have hT : ∀ {s : Shared} {H : Hp} {C : Addr} {cl : List (Str × Addr)} {fp : List Addr}, IfsOk (X.blk s H scope (compEnvC scope cl C X.env) fp) G (evs G.C F L m) ifs ic := fun {s H C cl fp} => by
        split at g7
        · trivial
        · exact pt_p (ihT n (by omega) m false _ _ WF N _ _ _ (by omega) (by omega) (c.blk fun z => absurd rfl z) g7)
        · cases g7
      have hG : ∀ {s : Shared} {H : Hp} {C : Addr} {cl : List (Str × Addr)} {fp : List Addr}, PG (X.blk s H scope (compEnvC scope cl C X.env) fp) tg (gTgP G itg) := fun {s H C cl fp} =>
        pg_p (snd_tg ⟨gx.P, gx.w, gx.K, gx.mg, gx.base⟩ hN c.nd (tupT_calm (c.calm rfl).1) blk_store g4)
      have fin := fun sp : Pos => snd_setLc (spos := sp) (C := G.C) (F := F) (v := evs G.C F L m) (mt := mt) (ielt := ielt) (c.calm rfl).1 c.nd (by rw [hN]; exact ix_of h1) (by rw [hsc]; exact h4) (sw_true cs.kind (by rw [hsc]; exact h4) (by simpa using h5) h6) hs hW ok (fun s H C cl fp => hG) (fun s H C cl fp => hT) (fun s H C cl fp => hE) hfold
      simp only [g2] at fin
      exact s_setLc (x := "x") (F := F) (v := evs G.C F L (m + 1)) (fin _)
    · simp only [Bool.and_eq_true, Bool.not_eq_true'] at h3
      exact s_set (F := F) c.nd (by rw [hN]; exact ix_of h1) (cs.store _ h3.1) h3.2 (sub h2)
  · have h0 := z0 hh rfl
    simp only [Bool.and_eq_true, decide_eq_true_eq] at h
    obtain ⟨⟨⟨⟨⟨⟨h1, h2⟩, h3⟩, h4⟩, h5⟩, h6⟩, h7⟩ := h
    have ps := ckEs_ok (F := F) (L := L) (W := W) hmt c n (by omega) (fun k hk => ihE k (by omega)) _ _ h6
    exact s_par gx (c.calm h0).1 hN c.nd hsc cs.blk cs.store h2 h3 h4 h5 h7 (snd_args h1 ps) (Paired.length ps).symm
  · have h0 := z0 hh rfl
    simp only [Bool.and_eq_true, Bool.not_eq_true'] at h
    obtain ⟨⟨⟨h1, h2⟩, h3⟩, h4⟩ := h
    exact s_unp h2 (by revert h1; split <;> simp_all [isTupE]) (sub h4) (tgt h0 h3)
  · have h0 := z0 hh rfl
    simp only [Bool.and_eq_true, Bool.not_eq_true'] at h
    obtain ⟨⟨⟨⟨h1, h2⟩, h3⟩, h4⟩, h5⟩ := h
    exact s_setix gx h1 h2 (sub h3) (sub h4) (sub h5)
  · simp only [Bool.and_eq_true] at h
    obtain ⟨⟨⟨h1, h2⟩, h3⟩, h4⟩ := h
    exact s_aug h3 c.nd (by rw [hN]; exact ix_of h1) (cs.store _ h2) (sub h4)
  · simp only [Bool.and_eq_true, Bool.not_eq_true'] at h
    exact s_ex h.1 (sub h.2)
  · simp only [Bool.and_eq_true] at h
    exact s_ite (ihT n (Nat.le_refl _) m lam hot X W N sc _ _ (by omega) hmt c h.1.1) (subs h.1.2) (subs h.2)
  · have h0 := z0 hh rfl
    simp only [Bool.and_eq_true, Bool.not_eq_true'] at h
    obtain ⟨⟨⟨h1, h2⟩, h3⟩, h4⟩ := h
    exact s_for (cs.own h0) (c.calm h0).1 (ckW_ok O c n m (by omega) hmt (fun k hk => ihE k (by omega)) _ _ _ _ h2).1 (tgt h0 h3) (subs h4) h1
  · exact s_ret (sub h)
  · exact s_retN
  · exact s_brk
  · exact s_cont
  · exact s_pass
  · have h0 := z0 hh rfl
    simp only [Bool.and_eq_true, decide_eq_true_eq, Bool.not_eq_true'] at h
    obtain ⟨⟨⟨⟨h1, h2⟩, h3⟩, h4⟩, h5⟩ := h
    exact s_raise gx (EO _ _ h1) (c.calm h0).1 ((c.calm h0).2.mono (by omega)) c.tk (gl_of hsc h2) (plain_of h3).1 h4 (sub h5)
  · have h0 := z0 hh rfl
    simp only [Bool.and_eq_true, decide_eq_true_eq] at h
    obtain ⟨⟨⟨⟨⟨⟨h1, h2⟩, h3⟩, h4⟩, h5⟩, h6⟩, h7⟩ := h
    obtain ⟨m, rfl⟩ : ∃ k, m = k + 1 := ⟨m - 1, by omega⟩
    subst h0
    refine s_try gx EA cs.stk cs.frm c.nd (by rw [hN]; exact ix_of h4) (by rw [← hsc] at h5; exact h5) (gl_of hsc h2) (plain_of h3).1 (EO _ _ h1).mg c.tk (fun W' pn xe tk hp => ?_) fun a oe cls dd pn hz hv => ?_
    · exact ihS m lam 0 (X.tr pn xe) W' N sc _ _ (by omega) (by omega) ⟨⟨⟨gx.P, gx.w, gx.K, gx.mg, gx.base⟩, hN, c.nd, hsc, c.un, c.guards, tk, c.calm, fun z => (by cases z), fun z => absurd rfl z, c.lm⟩, cs.fn, cs.kind, cs.stk, cs.frm, cs.ex, fun _ => hp, .inl rfl⟩ h6
    · obtain ⟨vs, hvs⟩ := hv
      exact ihS m false 1 (X.suite a ((a, oe) :: pn)) WF N sc _ _ (by omega) (by omega) ⟨⟨⟨gx.P, gx.w, gx.K, gx.mg, gx.base⟩, hN, c.nd, hsc, c.un, c.guards, fun u s' ⟨_, _, _, _, _, _, _, _, _, _, _, _, _, _, _, _, z⟩ => (show False from z).elim, fun z => (by cases z), fun _ => ⟨(a, oe), rfl, ⟨vs, hvs, hz.2.2 vs hvs⟩, List.mem_cons_self⟩, fun _ => .inl rfl, fun z => (by cases z)⟩, cs.fn, cs.kind, cs.stk, cs.frm, cs.ex, fun z => (by cases z), .inr rfl⟩ h7
  · cases h
end
end Ev
set_option maxHeartbeats 4000000
/-! All levels: what ck says of the bodies makes the defs sound. -/
namespace Ev
open PySem PySem.Spec PyProof.Rows L2
section
variable {G : GC} {d : Nat} {F : FEv} {L : IE → Env → Store → Res R}
theorem ckE_zero {nc : NC} {N : List Str} {sc : Scope} {e : Expr} {ie : IE} : ckE nc N 0 sc e ie = false := by unfold ckE; rfl
theorem ckSs_zero {nc : NC} {N : List Str} {sc : Scope} {ss : List Stmt} {is : List IS} : ckSs nc N 0 sc ss is = false := by unfold ckSs; rfl
theorem ckS_zero {nc : NC} {N : List Str} {sc : Scope} {s : Stmt} {i : IS} : ckS nc N 0 sc s i = false := by unfold ckS; rfl
theorem ckW_zero {nc : NC} {N : List Str} {sc : Scope} {t e : Expr} {k : Itk} {ies : List IE} : ckW nc N 0 sc t e k ies = false := by unfold ckW; rfl
theorem ckEs_zero {nc : NC} {N : List Str} {sc : Scope} {es : List Expr} {ies : List IE} : ckEs nc N 0 sc es ies = false := by unfold ckEs; rfl
theorem main_ET (O : GOk G) (EU : ExcUse G) (FS : FnSnd G F (4 * d)) (CS : ClSnd G L (4 * d)) : ∀ n, (∀ k, k ≤ n → HE G d F L k) ∧ (∀ k, k ≤ n → HT G d F L k) := by
  intro n
  induction n with
  | zero =>
    refine ⟨fun k hk => ?_, fun k hk => ?_⟩
    · obtain rfl : k = 0 := by omega
      intro m lam hot X W N sc e ie hm hmt c h
      rw [ckE_zero] at h
      cases h
    · obtain rfl : k = 0 := by omega
      intro m lam hot X W N sc e ie hm hmt c h
      rw [ckE_zero] at h
      cases h
  | succ n ih =>
    have hE : HE G d F L (n + 1) := main_E O EU FS CS n ih.1 ih.2
    have hT : HT G d F L (n + 1) := main_T n hE ih.1 ih.2
    refine ⟨fun k hk => ?_, fun k hk => ?_⟩
    · rcases Nat.lt_or_ge n k with h | h
      · obtain rfl : k = n + 1 := by omega
        exact hE
      · exact ih.1 k h
    · rcases Nat.lt_or_ge n k with h | h
      · obtain rfl : k = n + 1 := by omega
        exact hT
      · exact ih.2 k h
theorem main_S1 : HS1 G d F L 1 := by
  intro m lam hot X W N sc s i hm hmt cs h
  unfold ckS at h
  simp only [Bool.and_eq_true] at h
  obtain ⟨_, h⟩ := h
  split at h
  all_goals first
    | exact s_retN
    | exact s_brk
    | exact s_cont
    | exact s_pass
    | (simp only [ckE_zero, ckSs_zero, ckW_zero, ckEs_zero, Bool.and_false, Bool.false_and, Bool.false_eq_true] at h; done)
    | (cases h; done)
theorem main_SS (O : GOk G) (EU : ExcUse G) (EO : ∀ c x, G.nc.cls[c]? = some x → ExcOk G c x) (EA : ExcAll G) (FS : FnSnd G F (4 * d)) (CS : ClSnd G L (4 * d)) : ∀ n, HSs G d F L n ∧ HS1 G d F L n := by
  intro n
  induction n with
  | zero =>
    refine ⟨?_, ?_⟩
    · intro m lam hot X W N sc ss is hm hmt c h
      rw [ckSs_zero] at h
      cases h
    · intro m lam hot X W N sc ss is hm hmt c h
      rw [ckS_zero] at h
      cases h
  | succ n ih =>
    refine ⟨main_Ss n ih.2 ih.1, ?_⟩
    by_cases h0 : 0 < n
    · obtain ⟨hE, hT⟩ := main_ET O EU FS CS n
      exact main_S O EO EA n h0 hE hT ih.1
    · obtain rfl : n = 0 := by omega
      exact main_S1
theorem cxt_of {lam : Bool} {X : Cx} {W : WX} {N : List Str} {sc : Scope} (g : Good G N sc d X) (hu : X.A.units + 64 < cLine) (tk : L2N.Takes X W) (lm : lam = true → LamMk G X ∧ X.ex = []) : Cxt G d lam 0 X W N sc :=
  ⟨g.gx, g.N, g.nd, g.sc, hu, g.guards, tk, fun _ => ⟨g.calm, g.room⟩, fun z => (by cases z), fun z => absurd rfl z, lm⟩
theorem bd_snd (O : GOk G) (EU : ExcUse G) (EO : ∀ c x, G.nc.cls[c]? = some x → ExcOk G c x) (EA : ExcAll G) (FS : FnSnd G F (4 * d)) (CS : ClSnd G L (4 * d)) : BdSnd G F L d := by
  intro X lam N sc n body ib W g hfn hex hpass tk hmk hkind hstk hfrm hu hn h
  have c : Cxt G d lam 0 X W N sc := cxt_of g hu tk fun z => ⟨hmk z, hex⟩
  have cs : CxS G d lam 0 X W N sc := ⟨c, hfn, hkind, hstk, hfrm, hex, fun _ => hpass, .inl rfl⟩
  exact (main_SS O EU EO EA FS CS n).1 39 lam 0 X W N sc body ib hn (by decide) cs h
theorem clSnd_bad {k : Nat} : ClSnd G badL k := by
  intro Y n scope body e W gx nd hs hc hr hg hn tk h
  refine ⟨fun pins s σ H Q I z => ?_⟩
  obtain ⟨ρ, env, st, R, p⟩ := z
  exact p.elim
theorem fnSnd_bad {k : Nat} : FnSnd G (fun _ _ _ => .bad) k := by
  intro f fn hf A outer s H us vs rs ρ st Q E hr hg e0 hv S pr p
  exact p.elim
/-- the defs, the closures at each level are sound -/
theorem lev_snd (O : GOk G) (EU : ExcUse G) (EO : ∀ c x, G.nc.cls[c]? = some x → ExcOk G c x) (EA : ExcAll G) (hd : ∀ f fn, G.nc.fns[f]? = some fn → DefOk G f fn) : ∀ d, FnSnd G (lev G.C d).1 (4 * d) ∧ ClSnd G (lev G.C d).2 (4 * d) := by
  intro d
  induction d with
  | zero => exact ⟨fnSnd_bad, clSnd_bad⟩
  | succ d ih =>
    refine ⟨fn_snd (bd_snd O EU EO EA ih.1 ih.2) hd, ?_⟩
    intro Y n scope body e W gx nd hs hc hr hg hn tk h
    have hu : Y.A.units + 64 < cLine := by have := hr.un; omega
    have c : Cxt G d false 0 Y W Y.N scope := ⟨gx, rfl, nd, hs, hu, hg, tk, fun _ => ⟨hc, hr.mono (by omega)⟩, fun z => (by cases z), fun z => absurd rfl z, fun z => (by cases z)⟩
    exact (main_ET (L := badL) O EU ih.1 clSnd_bad n).1 n (Nat.le_refl _) textDepth false 0 Y W Y.N scope body e hn (Nat.le_refl _) c h
end
end Ev
set_option maxHeartbeats 4000000
/-! The head: what is looked at behind the top, and what it makes of the program. -/
namespace Ev
open PySem PySem.Spec PyProof.Rows L2
/-! ### the call at the top -/
section
variable {P : Program} {w : World} {K : PySem.W.Frag} {mg mb : Str → Option Value} {s1 : Shared} {a : Addr} {us : List Value} {ns : List Int} {cs : List (Addr × Addr)}
abbrev emptyO : Obj := { cls := .none, data := .fields #[] }
abbrev scriptO (us : List Value) : Obj := { cls := .type "list", data := .seq us.toArray }
/-- what is tracked at the law's call: the script, the tables of code -/
def topH (K : PySem.W.Frag) (ts : List Addr) (a : Addr) (us : List Value) (ns : List Int) : Hp := fun b =>
  if b ∈ ts then some (.tbl #[]) else if b = a ∧ K.lookup a = none then some (.frz (scriptO us) (.lst (ns.map V.int))) else none
theorem topH_tab {ts : List Addr} {b : Addr} (h : b ∈ ts) : topH K ts a us ns b = some (.tbl #[]) := if_pos h
theorem topH_cases {ts : List Addr} {b : Addr} {u : HO} (h : topH K ts a us ns b = some u) : (b ∈ ts ∧ u = .tbl #[]) ∨ (b ∉ ts ∧ b = a ∧ K.lookup a = none ∧ u = .frz (scriptO us) (.lst (ns.map V.int))) := by
  unfold topH at h
  by_cases h1 : b ∈ ts
  · rw [if_pos h1] at h
    exact .inl ⟨h1, (Option.some.inj h).symm⟩
  · rw [if_neg h1] at h
    by_cases h2 : b = a ∧ K.lookup a = none
    · rw [if_pos h2] at h
      exact .inr ⟨h1, h2.1, h2.2, (Option.some.inj h).symm⟩
    · rw [if_neg h2] at h
      cases h
/-- where nothing is tracked the base says what the heap says -/
theorem base_ns {h : Heap} {H : Hp} {b : Addr} {m : Str → Option Value} (free : ∀ c o, h.get? c = some o → (∃ es ep, o.data = .dict es ep) → H c = none) (q : h.Ns b m) : (hidT h H).Ns b m := by
  obtain ⟨o, es, ep, e, d, r⟩ := q
  exact ⟨o, es, ep, hidT_get e (free b o e ⟨es, ep, d⟩), d, r⟩
/-- G over a base -/
abbrev GC.at (G : GC) (b : Heap) : GC := { G with base := b }
theorem top_call {G : GC} {F : FEv} {f k : Nat} {x : Str} (KX : G.K.In s1.heap) (hns : s1.heap.Ns mainGlobals G.mg) (hb : s1.heap.Ns builtinsNs mb) (hbb : ∀ x : Str, x ≠ "__name__" → mb x = bootBuiltins x) (hlim : s1.heap.NoLimit) (hgen : s1.gens = #[])
    (hT : ∀ p ∈ cs, s1.heap.get? p.2 = some emptyO) (nT : ∀ p ∈ cs, G.K.lookup p.2 = none) (hC : ∀ p ∈ cs, PySem.W.CodeHd s1.heap p.1 p.2)
    (hbm : ∃ (bm : Addr) (ob : Obj), G.mg "__builtins__" = some (.ref bm) ∧ bm ≠ builtinsNs ∧ s1.heap.get? bm = some ob ∧ ob.cls = .type "module" ∧ ob.dict = some builtinsNs ∧ ob.data = .plain)
    (ha : s1.heap.get? a = some (scriptO us)) (hi : IntsAre us ns) (hl : ns.length ≤ sizeLine) (hr : Room k callerA) (hTT : ∀ p ∈ G.T, p.1 ∈ cs.map (·.2)) (hf : G.nc.fns[f]? = some x)
    (S : ∀ b : Heap, G.K.In b → b.Ns mainGlobals G.mg → (∀ p ∈ cs, LamX.TabB b G.mg p.1 p.2) → FnSnd (G.at b) F k)
    (run : ∃ st, F f [.s ns] [] = .ok (.d (.bool true)) st) :
    codeAny (model G.P G.w) callerA (.call (.ref (G.fa f)) ⟨[.ref a], []⟩) (fun r s' => r = .ok (.ret (.bool true)) ∧ OldK s1.heap s'.heap ∧ s'.os = s1.os ∧ AllBare s'.gens) s1 := by
  obtain ⟨H, hH⟩ : ∃ H, H = topH G.K (cs.map (·.2)) a us ns := ⟨_, rfl⟩
  have vi : Vals (ns.map V.int) us := vals_ints hi
  have hlen := hi.length
  have memT : ∀ p ∈ cs, p.2 ∈ cs.map (·.2) := fun p hp => List.mem_map.mpr ⟨p, hp, rfl⟩
  have isT : ∀ b ∈ cs.map (·.2), s1.heap.get? b = some emptyO := fun b hb => by
    obtain ⟨p, hp, e⟩ := List.mem_map.mp hb
    exact e ▸ hT p hp
  -- what is tracked is no dict, no code, no module
  have free : ∀ (b : Addr) (o : Obj), s1.heap.get? b = some o → o.data ≠ .fields #[] → (∀ xs n, o.data ≠ .seq xs n) → H b = none := fun b o e n1 n2 => by
    cases q : H b with
    | none => rfl
    | some u =>
      rw [hH] at q
      rcases topH_cases q with ⟨z, _⟩ | ⟨_, z, _, _⟩
      · rw [isT b z] at e
        cases e
        exact absurd rfl n1
      · rw [z, ha] at e
        cases e
        exact absurd rfl (n2 _ _)
  have freeD : ∀ (b : Addr) (o : Obj), s1.heap.get? b = some o → (∃ es ep, o.data = .dict es ep) → H b = none := fun b o e ⟨es, ep, d⟩ => free b o e (by rw [d]; intro z; cases z) (fun xs n => by rw [d]; intro z; cases z)
  have hok : HOk G.P G.w H s1.heap := fun b u q => by
    rw [hH] at q
    rcases topH_cases q with ⟨z, e⟩ | ⟨_, z, _, e⟩
    · subst e
      exact isT b z
    · subst e z
      exact ⟨ha, by rw [List.length_map]; exact hl, us, _, vi, ha⟩
  have kin : G.K.In (hidT s1.heap H) := fun b o e => hidT_get (KX b o e) (by
    cases q : H b with
    | none => rfl
    | some u =>
      rw [hH] at q
      rcases topH_cases q with ⟨z, _⟩ | ⟨_, z, e2, _⟩
      · obtain ⟨p, hp, ep⟩ := List.mem_map.mp z
        rw [← ep, nT p hp] at e
        cases e
      · rw [z, e2] at e
        cases e)
  have nsB : (hidT s1.heap H).Ns mainGlobals G.mg := base_ns freeD hns
  have hmod : L2.Mod G.K G.mg (hidT s1.heap H) := ⟨kin, nsB, ⟨mb, base_ns freeD hb, hbb⟩, by
    obtain ⟨mc, h1, h2⟩ := hlim
    exact ⟨mc, base_ns freeD h1, h2⟩⟩
  have e0 : Env0 G.P G.w G.K G.mg (hidT s1.heap H) callerA [] s1 H := ⟨rfl, hmod, fun b o e => of_hidT e, Nat.le_of_eq (hidT_size _ _), trivial, fun b hb => (by cases hb), hok, .of_eq hgen⟩
  have tb : ∀ p ∈ cs, LamX.TabB (hidT s1.heap H) G.mg p.1 p.2 := fun p hp => by
    have ht := hT p hp
    refine ⟨?_, ?_, fun z => ?_⟩
    · obtain ⟨o, vs, file, tf, flags, tg, inF, text, tt, e1, r1, r2, r3, r4⟩ := hC p hp
      refine ⟨o, vs, file, tf, flags, tg, inF, text, tt, hidT_get e1 (free _ _ e1 (fun z => ?_) fun xs n z => ?_), r1, r2, r3, r4⟩
      · rw [r2] at z
        cases z
        simp at r3
      · rw [r2] at z
        cases z
    · obtain ⟨bm, ob, b1, b2, b3, b4, b5, b6⟩ := hbm
      refine ⟨bm, ob, b1, b2, fun q => ?_, fun q => ?_, hidT_get b3 (free _ _ b3 (fun z => ?_) fun xs n z => ?_), b4, b5, b6⟩
      · obtain ⟨o, es, ep, e, hd, _⟩ := hns
        rw [q, e] at b3
        cases b3
        rw [hd] at b6
        cases b6
      · rw [q, ht] at b3
        cases b3
        cases b6
      · rw [b6] at z
        cases z
      · rw [b6] at z
        cases z
    · obtain ⟨o, es, ep, e, hd, _⟩ := hns
      rw [z, ht] at e
      cases e
      cases hd
  have sat : Sat (G.at (hidT s1.heap H)) [] H [] := ⟨⟨rfl, fun i c e => by simp at e, fun i j b e => by simp at e⟩, fun p hp => LamX.TabS.nil (by rw [hH]; exact topH_tab (hTT p hp))⟩
  have argS : Paired (ArgR (G.at (hidT s1.heap H)) H s1 (frs []) [] H) [.s ns] [.ref a] := .cons (fun X' _ _ _ _ => by
    refine ⟨a, rfl, ?_⟩
    cases q : G.K.lookup a with
    | none =>
      refine .inl ⟨by simp, scriptO us, ?_⟩
      have hn : a ∉ cs.map (·.2) := fun z => by
        rw [isT a z] at ha
        cases ha
      rw [hH]
      unfold topH
      rw [if_neg hn, if_pos ⟨rfl, q⟩]
    | some o =>
      have e := KX a o q
      rw [ha] at e
      cases e
      exact .inr ⟨scriptO us, us.toArray, _, by first | exact q | rfl, rfl, rfl, rfl, by rw [List.size_toArray, hlen]; exact hl, by simpa using vi⟩) .nil
  obtain ⟨st, hrun⟩ := run
  refine codeAny_mono (S _ kin nsB tb f x hf callerA [] s1 H [.ref a] [.ref a] [.s ns] [] [] (fun v _ => v = .bl true) (fun _ _ _ => False) hr rfl e0 (.cons rfl .nil) sat argS ?_) fun r s' h => ?_
  · rw [hrun]
    intro u ρ' H' l s' q
    have q : RepD G.K ρ' H' (.bool true) u := q
    simpa only [RepD] using q
  · cases r with
    | error e =>
      obtain ⟨_, _, _, _, _, _, _, _, _, _, _, _, z⟩ := h
      exact z.elim
    | ok fl =>
      cases fl with
      | next => exact False.elim h
      | brk => exact False.elim h
      | cont => exact False.elim h
      | ret u =>
        obtain ⟨v, H', os, bare, un, hok', rv, q⟩ := h
        have q : v = .bl true := q
        subst q
        obtain rfl : u = Value.bool true := rv
        have kept : ∀ b o, b ∉ cs.map (·.2) → s1.heap.get? b = some o → s'.heap.get? b = some o := fun b o nb e => by
          cases q : H b with
          | none => exact un.keep b o e q (by intro z; cases z) (by simp)
          | some u =>
            have q2 := q
            rw [hH] at q2
            rcases topH_cases q2 with ⟨z, _⟩ | ⟨_, _, _, z⟩
            · exact absurd z nb
            · subst z
              have f1 := (hok b _ q).1
              have f2 := (hok' b _ (un.frzs b _ _ q)).1
              rw [e] at f1
              cases f1
              exact f2
        have more : ∀ b ∈ cs.map (·.2), ∃ vs : Array Value, s'.heap.get? b = some { cls := .none, data := .fields vs } := fun b hb => by
          obtain ⟨m, z⟩ := un.tbls b #[] (by rw [hH]; exact topH_tab hb)
          exact ⟨_, hok' b _ z⟩
        refine ⟨rfl, ⟨fun b o e => ?_, fun b o e => ?_⟩, os, bare⟩
        · by_cases hb : b ∈ cs.map (·.2)
          · obtain ⟨vs, hv⟩ := more b hb
            obtain ⟨p, hp, ep⟩ := List.mem_map.mp hb
            subst ep
            rw [hT p hp] at e
            cases e
            exact .inr (.inl ⟨((hC p hp).tab (hT p hp)).isCodeTable, rfl, #[], vs, rfl, by rw [Array.empty_append]; exact hv⟩)
          · exact .inl (kept b o hb e)
        · by_cases hb : b ∈ cs.map (·.2)
          · obtain ⟨vs, hv⟩ := more b hb
            exact ⟨_, hv⟩
          · exact ⟨o, kept b o hb e⟩
end
end Ev
set_option maxHeartbeats 1000000
/-! The arguments of a def with plain parameters are bound one by one. -/
namespace Ev
open PySem PySem.Spec PyProof.Rows L2
theorem lookup_zip_some {x : Str} : ∀ {xs : List Str} {us : List Value}, us.length = xs.length → x ∈ xs → ∃ v, (xs.zip us).lookup x = some v
  | [], us, _, h => by cases h
  | y :: xs, [], hl, h => by simp at hl
  | y :: xs, u :: us, hl, h => by
    rw [List.zip_cons_cons, List.lookup_cons]
    by_cases e : x = y
    · subst e
      exact ⟨u, by simp⟩
    · have : (x == y) = false := by simpa using e
      rw [this]
      exact lookup_zip_some (by simpa using hl) (by simpa [e] using h)
theorem fm_congr {α β : Type} {f g : α → Option β} : ∀ {l : List α}, (∀ x ∈ l, f x = g x) → l.filterMap f = l.filterMap g
  | [], _ => rfl
  | x :: l, h => by
    rw [List.filterMap_cons, List.filterMap_cons, h x List.mem_cons_self, fm_congr fun y hy => h y (List.mem_cons_of_mem _ hy)]
theorem filterMap_zip : ∀ {xs : List Str} {us : List Value}, us.length = xs.length → xs.Nodup → (xs.filterMap fun n => ((xs.zip us).lookup n).map (n, ·)) = xs.zip us
  | [], us, _, _ => by simp
  | y :: xs, [], hl, _ => by simp at hl
  | y :: xs, u :: us, hl, nd => by
    rw [List.zip_cons_cons, List.filterMap_cons]
    have h0 : ((y, u) :: xs.zip us).lookup y = some u := by simp [List.lookup_cons]
    rw [h0]
    simp only [Option.map_some]
    rw [List.cons.injEq]
    refine ⟨rfl, ?_⟩
    have nd' := List.nodup_cons.mp nd
    refine Eq.trans (fm_congr fun n hn => ?_) (filterMap_zip (by simpa using hl) nd'.2)
    have hne : (n == y) = false := by
      have : n ≠ y := fun e => nd'.1 (by rw [← e]; exact hn)
      simpa using this
    rw [List.lookup_cons, hne]
def plainPar (a : Arguments) : Bool := a.posonlyargs.isEmpty && a.vararg.isNone && a.kwonlyargs.isEmpty && a.kwarg.isNone && decide (a.args.map (·.arg)).Nodup
theorem bind_plain {fd : FuncData} {us : List Value} (h : plainPar fd.params = true) (hd : fd.defaults = .none) (hl : us.length = (fd.params.args.map (·.arg)).length) : bindArgs fd ⟨us, []⟩ = pure ((fd.params.args.map (·.arg)).zip us) := by
  unfold plainPar at h
  simp only [Bool.and_eq_true, List.isEmpty_iff, Option.isNone_iff_eq_none, decide_eq_true_eq] at h
  obtain ⟨⟨⟨⟨h1, h2⟩, h3⟩, h4⟩, h5⟩ := h
  have e1 : seqItems? (.none : Value) = pure none := rfl
  have e2 : ((fd.params.args.map (·.arg)).filter fun n => (((fd.params.args.map (·.arg)).zip us).lookup n).isNone) = [] := by
    rw [List.filter_eq_nil_iff]
    intro n hn
    obtain ⟨v, e⟩ := lookup_zip_some hl hn
    rw [e]
    simp
  have e3 := filterMap_zip hl h5
  have e4 : ¬ (us.length > (fd.params.args.map (·.arg)).length) := by omega
  unfold bindArgs
  simp only [h1, h2, h3, h4, hd, e1, List.map_nil, List.nil_append, List.append_nil, pure_bind, Option.getD_none, List.forIn_nil, Array.toList_empty, List.length_nil, Nat.sub_zero, List.drop_nil, List.take_length, e2, List.isEmpty_nil, Bool.not_true, List.drop_length, List.zip_nil_left, List.zip_nil_right, e3, List.zip_eq_nil_iff]
  simp [e4, e3, e2]
  intro z
  simp at hl
  omega
end Ev
set_option maxHeartbeats 4000000
/-! The __init__ of the class that all the program's own exceptions stand beneath. -/
namespace Ev
open PySem PySem.Spec PyProof.Rows L2
/-- its suite, as it stands in the text (p, q: the lines) -/
abbrev initBody (p q : Nat) : List Stmt :=
  [.Expr (.Call (.Attribute (.Name "ValueError" ⟨p, 8, p, 18⟩) "__init__" ⟨p, 8, p, 27⟩) [.Name "self" ⟨p, 28, p, 32⟩, .Name "what" ⟨p, 34, p, 38⟩] [] ⟨p, 8, p, 39⟩) ⟨p, 8, p, 39⟩,
   .Assign [.Attribute (.Name "self" ⟨q, 8, q, 12⟩) "what" ⟨q, 8, q, 17⟩] (.Name "what" ⟨q, 20, q, 24⟩) ⟨q, 8, q, 24⟩]
abbrev initScope : Scope := { kind := .function, names := [("self", .local), ("what", .local), ("ValueError", .globalImplicit)], isGenerator := false, isCoroutine := false, more := [] }
theorem scI : FnScope ["self", "what"] ["self", "what"] initScope := ⟨rfl, rfl, rfl, by decide +kernel, rfl, by decide +kernel, by decide +kernel⟩
section
variable {P : Program} {w : World} {K : PySem.W.Frag} {mg : Str → Option Value} {base : Heap}
theorem ok_init {f : Addr} {fd : FuncData} {qual : Str} {params : Arguments} {C : Addr} (F : FunD K "__init__" qual params (initBody 5 6) initScope [] [] f fd) (hm : mg "ValueError" = none)
    (vV : PySem.W.findCls K (.type "ValueError") (.type "type") "__init__" = some (.val (.builtin "ValueError.__init__"))) : FnOk P w K mg base (L2N.CX P w) 1 f fd ["self", "what"] (spInit K C) := by
  refine F.ok scI (fun vs H Q E h => ?_) (fun cdv A outer s H vs Q E hr h => ⟨_, pss_cons (ps_expr (pe_veinit rfl hm vV (pa_cons (pv 0) (pa_cons (pv 1) pa_nil)))) (pss_one (ps_ost (pv 0) (pv 1))), ?_⟩)
  · obtain ⟨a, y, rfl, _⟩ := h
    rfl
  · obtain ⟨a, y, rfl, oC, fw, ha, q⟩ := h
    refine ⟨_, rfl, _, rfl, a, C, [y], rfl, (by show 1 ≤ 1000; decide), oC, ha, ?_⟩
    exact ⟨_, rfl, _, rfl, a, C, rfl, oC, fw, .inl ⟨ha, fun dx n ne => q dx n ne⟩⟩
end
end Ev
set_option maxHeartbeats 4000000
/-! A program told as data, what is looked at behind its top, and what that gives. -/
namespace Ev
open PySem PySem.Spec PyProof.Rows L2 He
/-- a def: its name, its statement, its names by slot, whether it makes lambdas, its IR -/
structure DI where
  name : Str
  st : Stmt
  N : List Str
  lam : Bool
  body : List IS
abbrev DI.ps (d : DI) : List Str := (defArgs d.st).args.map (·.arg)
abbrev DI.dd (d : DI) : DefD := ⟨(d.name, none), d.name, d.name, defArgs d.st, defBody d.st, defScope d.st, [], []⟩
/-- a program: defs, classes of exceptions (the first has the __init__), which stands beneath which, constants -/
structure PI where
  defs : List DI
  cls : List Str
  tab : List (List Bool)
  globs : List (Str × PyData)
  ini : Stmt
section
variable (p : PI)
def PI.cl (c : Nat) : Nat := if c < p.cls.length then c else 0
def PI.cn (c : Nat) : Str := p.cls.getD (p.cl c) ""
def PI.sub (c c' : Nat) : Bool := ((p.tab.getD (p.cl c) []).getD (p.cl c') false)
def PI.ctx : Ctx := ⟨p.defs.map fun d => ⟨d.N.length, d.ps.length, d.body⟩, p.globs.map (·.2), p.sub⟩
def PI.nc : NC := ⟨p.defs.map (·.name), p.globs.map (·.1), p.cls, true, 0⟩
abbrev PI.iniD : DefD := ⟨(p.cn 0, some "__init__"), "__init__", p.cn 0 ++ ".__init__", defArgs p.ini, defBody p.ini, defScope p.ini, [], []⟩
def PI.fn : List DefD := p.iniD :: p.defs.map DI.dd
def PI.tf : List Defn := (p.defs.filter (·.lam)).map fun d => (d.name, none)
def PI.T (K : PySem.W.Frag) : List (Addr × Str) := p.tf.map fun q => ((cT K q).2, (q.1 ++ ".<locals>.") ++ "<lambda>")
def PI.fa (f : Nat) : Str := (p.defs.map (·.name)).getD f ""
def PI.g (P : Program) (w : World) (K : PySem.W.Frag) (mg : Str → Option Value) (base : Heap) : GC := ⟨P, w, K, mg, base, p.ctx, p.nc, fun f => ga K (p.fa f), fun c => ga K (p.cn c), p.T K⟩
/-! ### what is looked at -/
mutual
def repB (K : PySem.W.Frag) : PyData → Value → Bool
  | .none, .none => true
  | .bool a, .bool b => a == b
  | .int i, .int j _ => decide (i = j)
  | .str x, .str y _ => decide (x = y)
  | .tuple xs, .ref a => (match K.lookup a with
    | some ⟨.type c, _, .seq its _, _⟩ => decide (c = "tuple") && decide (its.size ≤ sizeLine) && repsB K xs its.toList
    | _ => false)
  | _, _ => false
def repsB (K : PySem.W.Frag) : List PyData → List Value → Bool
  | [], [] => true
  | x :: xs, u :: us => repB K x u && repsB K xs us
  | _, _ => false
end
def globB (K : PySem.W.Frag) (x : Str) (d : PyData) : Bool := match PySem.W.nsIn K mainGlobals x with
  | some (some u) => repB K d u
  | _ => false
def oexB (K : PySem.W.Frag) (C : Addr) : Bool := match K.lookup C with
  | some ⟨.type t, _, .cls cd, sl⟩ => decide (t = "type") && (match cd.mro, sl.toList with
    | .ref C' :: bm, [_, _, _, _, some (.builtin n), _] => decide (C' = C) && decide (n = "ValueError.__new__") && !cd.hasDel && cd.hasDict && PySem.HandSPX.refsVE bm
    | _, _ => false)
  | _ => false
def clsB (K : PySem.W.Frag) (C : Addr) (fI : Addr) : Bool :=
  oexB K C && (eqO (PySem.W.findIn K (.ref C) "__setattr__") (some (some (.builtin "object.__setattr__"))) && (decide (PySem.W.typeIn K (.ref C) = some (.type "type")) && (PySem.W.keepIn K (.ref C) &&
  (xfB K C && (eqO (PySem.W.findIn K (.ref C) "__class__") (some (some (.builtin "object.__class__"))) && (decide (PySem.W.mroIn K C (.type "object") = some true) &&
  (eqO (PySem.W.findIn K (.ref C) "what") (some none) && eqO (PySem.W.findIn K (.ref C) "__init__") (some (some (.ref fI))))))))))
def subB (K : PySem.W.Frag) (C D : Addr) (b : Bool) : Bool := decide (PySem.W.subIn K (.ref C) (.ref D) = some b) && decide (PySem.W.kitOne K (.ref C) (.ref D) = some b)
def onceB (K : PySem.W.Frag) : Bool := decide (PySem.W.typeIn K (.ref (ma K (ga K (p.cn 0)) "__init__")) = some (.type "function")) && (eqO (PySem.W.specialIn K (.builtin "object.__class__") "__get__") (some (some (.builtin "getset_descriptor.__get__"))) && (decide (PySem.W.takesIn K (.builtin "object.__class__") = some true) &&
  (match PySem.W.findCls K (.type "ValueError") (.type "type") "__init__" with
    | some (.val (.builtin b)) => decide (b = "ValueError.__init__")
    | _ => false)))
def tabsB2 (K : PySem.W.Frag) : Bool := (p.T K).all fun q => (p.T K).all fun r => !decide (q.1 = r.1) || decide (q.2 = r.2)
def PI.ex (K : PySem.W.Frag) : Bool :=
  (List.range p.cls.length).all (fun c => clsB K (ga K (p.cn c)) (ma K (ga K (p.cn 0)) "__init__")) &&
  ((List.range p.cls.length).all (fun c => (List.range p.cls.length).all fun c' => subB K (ga K (p.cn c)) (ga K (p.cn c')) (p.sub c c')) &&
  (onceB p K && (p.globs.all (fun q => globB K q.1 q.2) && tabsB2 p K)))
def blts : List Str := ["len", "int", "abs", "max", "min", "isinstance", "tuple", "list", "sum", "repr", "range", "enumerate", "zip", "bool", "str", "ValueError"]
def PI.facts : List Fa := p.defs.map (fun d => Fa.glo d.name) ++ (p.defs.map (fun d => Fa.keep d.name) ++ (blts.map Fa.free ++ p.cls.map Fa.glo))
/-! ### what is looked at in the text alone -/
def scopeB (N ps : List Str) (sc : Scope) : Bool := decide (sc.kind = .function) && (!sc.isCoroutine && (!sc.isGenerator && (decide N.Nodup && (decide (N.take ps.length = ps) && (ps.all (fun x => decide (sc.names.lookup x = some .local) || decide (sc.names.lookup x = some .cell)) && sc.names.all fun y => !decide (y.2 = .free))))))
def PI.defB (d : DI) : Bool := scopeB d.N d.ps (defScope d.st) && (plainPar (defArgs d.st) && ckSs { p.nc with lam := d.lam, hot := 0 } d.N textDepth (defScope d.st) (defBody d.st) d.body)
def PI.ok : Bool := decide (0 < p.cls.length) && (p.defs.all fun d => p.defB d)
end
end Ev
set_option maxHeartbeats 4000000
/-! What was looked at makes the defs sound. -/
namespace Ev
open PySem PySem.Spec PyProof.Rows L2 He
mutual
theorem repB_ok {K : PySem.W.Frag} : ∀ (d : PyData) (u : Value), repB K d u = true → ∃ v, RelV v u ∧ ∀ ρ H, RepD K ρ H d v
  | .none, u, h => by
    cases u <;> first | exact ⟨.non, rfl, fun _ _ => by simp only [RepD]⟩ | (simp [repB] at h)
  | .bool b, u, h => by
    cases u <;> first | (simp [repB] at h; done) | skip
    rename_i c
    have e : b = c := by simpa [repB] using h
    subst e
    exact ⟨.bl b, rfl, fun _ _ => by simp only [RepD]⟩
  | .int i, u, h => by
    cases u <;> first | (simp [repB] at h; done) | skip
    rename_i j t
    have e : i = j := by simpa [repB] using h
    subst e
    exact ⟨.int i, ⟨t, rfl⟩, fun _ _ => by simp only [RepD]⟩
  | .str x, u, h => by
    cases u <;> first | (simp [repB] at h; done) | skip
    rename_i y t
    have e : x = y := by simpa [repB] using h
    subst e
    exact ⟨.str x, ⟨t, rfl⟩, fun _ _ => by simp only [RepD]⟩
  | .list xs, u, h => by cases u <;> simp [repB] at h
  | .dict _, u, h => by cases u <;> simp [repB] at h
  | .tuple xs, u, h => by
    cases u <;> first | (simp [repB] at h; done) | skip
    rename_i a
    simp only [repB] at h
    cases q : K.lookup a with
    | none => rw [q] at h; cases h
    | some o =>
      obtain ⟨oc, od, dt, sl⟩ := o
      rw [q] at h
      cases oc with
      | type c =>
        cases dt with
        | seq its n =>
          simp only [Bool.and_eq_true, decide_eq_true_eq] at h
          obtain ⟨⟨h1, h2⟩, h3⟩ := h
          obtain ⟨vs, h4, h5⟩ := repsB_ok xs its.toList h3
          exact ⟨.ref a, rfl, fun ρ H => by
            simp only [RepD]
            exact ⟨a, vs, rfl, .inr ⟨_, its, n, q, congrArg Value.type h1, rfl, h2, h4⟩, h5 ρ H⟩⟩
        | _ => cases h
      | _ => cases dt <;> cases h
theorem repsB_ok {K : PySem.W.Frag} : ∀ (xs : List PyData) (us : List Value), repsB K xs us = true → ∃ vs, Vals vs us ∧ ∀ ρ H, RepDs K ρ H xs vs
  | [], [], _ => ⟨[], .nil, fun _ _ => by simp only [RepDs]⟩
  | [], _ :: _, h => by simp [repsB] at h
  | _ :: _, [], h => by simp [repsB] at h
  | x :: xs, u :: us, h => by
    simp only [repsB, Bool.and_eq_true] at h
    obtain ⟨v, h1, h2⟩ := repB_ok x u h.1
    obtain ⟨vs, h3, h4⟩ := repsB_ok xs us h.2
    exact ⟨v :: vs, .cons h1 h3, fun ρ H => by
      simp only [RepDs]
      exact ⟨v, vs, rfl, h2 ρ H, h4 ρ H⟩⟩
end
theorem globB_ok {K : PySem.W.Frag} {h : Heap} {mg : Str → Option Value} (X : K.In h) (G : h.Ns mainGlobals mg) {x : Str} {d : PyData} (c : globB K x d = true) : ∃ u v, mg x = some u ∧ RelV v u ∧ ∀ ρ H, RepD K ρ H d v := by
  unfold globB at c
  cases e : PySem.W.nsIn K mainGlobals x with
  | none => rw [e] at c; cases c
  | some o =>
    rw [e] at c
    cases o with
    | none => cases c
    | some u =>
      obtain ⟨v, h1, h2⟩ := repB_ok d u c
      exact ⟨u, v, PySem.W.mg_of X G e, h1, h2⟩
theorem oexB_ok {K : PySem.W.Frag} {C : Addr} (h : oexB K C = true) : ∃ nm q N bs bm sn sub ab col dd k0 k1 k2 k3 k5, K.lookup C = some (excClassObj nm q C N bs bm true sn sub ab col dd k0 k1 k2 k3 k5 "ValueError.__new__") ∧ PySem.HandSPX.refsVE bm = true := by
  unfold oexB at h
  cases q : K.lookup C with
  | none => rw [q] at h; cases h
  | some o =>
    obtain ⟨oc, od, dt, sl⟩ := o
    rw [q] at h
    cases oc with
    | type t =>
      cases dt with
      | cls cd =>
        obtain ⟨h1, h2⟩ := ba h
        have h1 := of_decide_eq_true h1
        subst h1
        obtain ⟨nm, bs, mro, ns, qn, hd, sn, sub, ab, col, del⟩ := cd
        obtain ⟨sl⟩ := sl
        split at h2
        · rename_i C' bm k0 k1 k2 k3 n k5 e1 e2
          simp only [Bool.and_eq_true, decide_eq_true_eq, Bool.not_eq_true'] at h2
          obtain ⟨⟨⟨⟨g1, g2⟩, g3⟩, g4⟩, h3⟩ := h2
          have g3 : del = false := g3
          have g4 : hd = true := g4
          have e2 : sl = [k0, k1, k2, k3, some (.builtin n), k5] := e2
          have e1 : mro = .ref C' :: bm := e1
          subst e1 e2 g1 g2 g3 g4
          exact ⟨nm, qn, ns, bs, bm, sn, sub, ab, col, od, k0, k1, k2, k3, k5, rfl, h3⟩
        · cases h2
      | _ => cases h
    | _ => cases dt <;> cases h
structure ClsOk (K : PySem.W.Frag) (C fI : Addr) : Prop where
  ox : OexC K C
  xf : XfC K C
  ha : PySem.W.findIn K (.ref C) "__class__" = some (some (.builtin "object.__class__"))
  hm : PySem.W.mroIn K C (.type "object") = some true
  fw : PySem.W.findIn K (.ref C) "what" = some none
  fi : PySem.W.findIn K (.ref C) "__init__" = some (some (.ref fI))
theorem clsB_ok {K : PySem.W.Frag} {C fI : Addr} (h : clsB K C fI = true) : ClsOk K C fI := by
  obtain ⟨h1, h⟩ := ba h
  obtain ⟨h2, h⟩ := ba h
  obtain ⟨h3, h⟩ := ba h
  obtain ⟨h4, h⟩ := ba h
  obtain ⟨h5, h⟩ := ba h
  obtain ⟨h6, h⟩ := ba h
  obtain ⟨h7, h⟩ := ba h
  obtain ⟨h8, h9⟩ := ba h
  have xf := xfB_ok h5
  exact ⟨⟨oexB_ok h1, eqO_ok h2, xf.exC, of_decide_eq_true h3, h4⟩, xf, eqO_ok h6, of_decide_eq_true h7, eqO_ok h8, eqO_ok h9⟩
theorem scopeB_ok {N ps : List Str} {sc : Scope} (h : scopeB N ps sc = true) : FnScope N ps sc := by
  obtain ⟨h1, h⟩ := ba h
  obtain ⟨h2, h⟩ := ba h
  obtain ⟨h3, h⟩ := ba h
  obtain ⟨h4, h⟩ := ba h
  obtain ⟨h5, h⟩ := ba h
  obtain ⟨h6, h7⟩ := ba h
  refine ⟨of_decide_eq_true h1, by simpa using h2, by simpa using h3, of_decide_eq_true h4, of_decide_eq_true h5, fun x hx => ?_, fun y hy => ?_⟩
  · have z := List.all_eq_true.mp h6 x hx
    simpa only [Bool.or_eq_true, decide_eq_true_eq] using z
  · have z := List.all_eq_true.mp h7 y hy
    simpa only [Bool.not_eq_true', decide_eq_false_iff_not] using z
section
variable {p : PI} {P : Program} {w : World} {K : PySem.W.Frag} {mg : Str → Option Value} {base h : Heap}
theorem PI.cl_lt (hp : 0 < p.cls.length) (c : Nat) : p.cl c < p.cls.length := by
  unfold PI.cl
  split <;> omega
theorem PI.cl_id {c : Nat} (hc : c < p.cls.length) : p.cl c = c := if_pos hc
theorem PI.cl_cl (hp : 0 < p.cls.length) (c : Nat) : p.cl (p.cl c) = p.cl c := PI.cl_id (PI.cl_lt hp c)
theorem PI.cn_cl (hp : 0 < p.cls.length) (c : Nat) : p.cn (p.cl c) = p.cn c := by unfold PI.cn; rw [PI.cl_cl hp]
theorem PI.sub_cl (hp : 0 < p.cls.length) (c c' : Nat) : p.sub (p.cl c) (p.cl c') = p.sub c c' := by unfold PI.sub; rw [PI.cl_cl hp, PI.cl_cl hp]
theorem PI.cn_of {c : Nat} {x : Str} (e : p.cls[c]? = some x) : p.cn c = x := by
  unfold PI.cn
  rw [PI.cl_id (List.getElem?_eq_some_iff.mp e).1, List.getD_eq_getElem?_getD, e]
  rfl
structure Looked (p : PI) (w : World) (h : Heap) (K : PySem.W.Frag) : Prop where
  pos : 0 < p.cls.length
  defs : ∀ d ∈ p.defs, p.defB d = true
  says : SaysX p.facts p.fn [] p.tf p.ex w h K
theorem Looked.fact (S : Looked p w h K) {f : Fa} (hf : f ∈ p.facts) : f.ok K = true := S.says.t.d.facts hf
theorem Looked.ex' (S : Looked p w h K) :
    (∀ c, ClsOk K (ga K (p.cn c)) (ma K (ga K (p.cn 0)) "__init__")) ∧ (∀ c c', PySem.W.subIn K (.ref (ga K (p.cn c))) (.ref (ga K (p.cn c'))) = some (p.sub c c') ∧ PySem.W.kitOne K (.ref (ga K (p.cn c))) (.ref (ga K (p.cn c'))) = some (p.sub c c')) ∧
    onceB p K = true ∧ (∀ q ∈ p.globs, globB K q.1 q.2 = true) ∧ tabsB2 p K = true := by
  obtain ⟨h1, h⟩ := ba S.says.more
  obtain ⟨h2, h⟩ := ba h
  obtain ⟨h3, h⟩ := ba h
  obtain ⟨h4, h5⟩ := ba h
  refine ⟨fun c => ?_, fun c c' => ?_, h3, List.all_eq_true.mp h4, h5⟩
  · have z := List.all_eq_true.mp h1 (p.cl c) (List.mem_range.mpr (PI.cl_lt S.pos c))
    rw [PI.cn_cl S.pos] at z
    exact clsB_ok z
  · have z := List.all_eq_true.mp (List.all_eq_true.mp h2 (p.cl c) (List.mem_range.mpr (PI.cl_lt S.pos c))) (p.cl c') (List.mem_range.mpr (PI.cl_lt S.pos c'))
    rw [PI.cn_cl S.pos, PI.cn_cl S.pos, PI.sub_cl S.pos] at z
    obtain ⟨z1, z2⟩ := ba z
    exact ⟨of_decide_eq_true z1, of_decide_eq_true z2⟩
theorem PI.fa_of {f : Nat} {x : Str} (e : (p.defs.map (·.name))[f]? = some x) : p.fa f = x := by
  unfold PI.fa
  rw [List.getD_eq_getElem?_getD, e]
  rfl
theorem blts_of {x : Str} (h : x ∈ (["len", "int", "abs", "max", "min", "isinstance", "tuple", "list", "sum", "repr", "range", "enumerate", "zip", "bool", "str"] : List Str)) : x ∈ blts := by
  have e : blts = (["len", "int", "abs", "max", "min", "isinstance", "tuple", "list", "sum", "repr", "range", "enumerate", "zip", "bool", "str"] : List Str) ++ (["ValueError"] : List Str) := rfl
  rw [e]
  exact List.mem_append_left _ h
theorem Looked.gok (S : Looked p w h K) (X : K.In base) (N : base.Ns mainGlobals mg) : GOk (p.g P w K mg base) where
  fns := fun f x e => by
    have e : (p.defs.map (·.name))[f]? = some x := e
    have ef : (p.g P w K mg base).fa f = ga K x := by show ga K (p.fa f) = _; rw [PI.fa_of e]
    rw [ef]
    obtain ⟨d, hd, rfl⟩ := List.mem_map.mp (List.mem_of_getElem? e)
    refine ⟨glo_ok X N (S.fact ?_), keep_ok (S.fact ?_)⟩
    · exact List.mem_append_left _ (List.mem_map.mpr ⟨d, hd, rfl⟩)
    · exact List.mem_append_right _ (List.mem_append_left _ (List.mem_map.mpr ⟨d, hd, rfl⟩))
  blt := fun x hx => free_ok X N (S.fact (List.mem_append_right _ (List.mem_append_right _ (List.mem_append_left _ (List.mem_map.mpr ⟨x, blts_of hx, rfl⟩)))))
  globs := fun g x d e1 e2 => by
    have e1 : (p.globs.map (·.1))[g]? = some x := e1
    have e2 : (p.globs.map (·.2))[g]? = some d := e2
    rw [List.getElem?_map] at e1 e2
    cases e : p.globs[g]? with
    | none => rw [e] at e1; cases e1
    | some q =>
      rw [e] at e1 e2
      have a1 : q.1 = x := Option.some.inj e1
      have a2 : q.2 = d := Option.some.inj e2
      subst a1 a2
      exact globB_ok X N (S.ex'.2.2.2.1 q (List.mem_of_getElem? e))
theorem Looked.once (S : Looked p w h K) : PySem.W.typeIn K (.ref (ma K (ga K (p.cn 0)) "__init__")) = some (.type "function") ∧ PySem.W.specialIn K (.builtin "object.__class__") "__get__" = some (some (.builtin "getset_descriptor.__get__")) ∧
    PySem.W.takesIn K (.builtin "object.__class__") = some true ∧ PySem.W.findCls K (.type "ValueError") (.type "type") "__init__" = some (.val (.builtin "ValueError.__init__")) := by
  obtain ⟨h1, h⟩ := ba S.ex'.2.2.1
  obtain ⟨h2, h⟩ := ba h
  obtain ⟨h3, h4⟩ := ba h
  refine ⟨of_decide_eq_true h1, eqO_ok h2, of_decide_eq_true h3, ?_⟩
  split at h4
  · rename_i b e
    rw [e, of_decide_eq_true h4]
  · cases h4
theorem Looked.mgc (S : Looked p w h K) (X : K.In base) (N : base.Ns mainGlobals mg) {c : Nat} {x : Str} (e : p.cls[c]? = some x) : mg x = some (.ref (ga K (p.cn c))) := by
  rw [PI.cn_of e]
  exact glo_ok X N (S.fact (List.mem_append_right _ (List.mem_append_right _ (List.mem_append_right _ (List.mem_map.mpr ⟨x, List.mem_of_getElem? e, rfl⟩)))))
theorem Looked.excUse (S : Looked p w h K) (X : K.In base) (N : base.Ns mainGlobals mg) : ExcUse (p.g P w K mg base) where
  isC := fun c => by
    have C := S.ex'.1 c
    have O := S.once
    exact ⟨C.xf.ga, C.xf.gg, C.xf.exC, C.xf.hdC, C.ha, O.2.1, O.2.2.1, C.hm⟩
  xf := fun c => (S.ex'.1 c).xf
  fw := fun c => (S.ex'.1 c).fw
  kit := fun c c' => (S.ex'.2.1 c c').2
  mg := fun c x e => S.mgc X N e
theorem Looked.excAll (S : Looked p w h K) : ExcAll (p.g P w K mg base) where
  base := fun c => (S.ex'.1 c).ox.exC
  dict := fun c => (S.ex'.1 c).xf.hdC
  type := fun c => (S.ex'.1 c).ox.tyC
  sub := fun c c' => (S.ex'.2.1 c c').1
theorem Looked.excOk (S : Looked p w h K) (hb : defBody p.ini = initBody 5 6) (hs : defScope p.ini = initScope) (hpar : plainPar (defArgs p.ini) = true) (hps : (defArgs p.ini).args.map (·.arg) = (["self", "what"] : List Str)) (X : K.In base) (N : base.Ns mainGlobals mg) (c : Nat) (x : Str) (e : p.cls[c]? = some x) : ExcOk (p.g P w K mg base) c x where
  mg := S.mgc X N e
  oex := (S.ex'.1 c).ox
  fw := (S.ex'.1 c).fw
  init := by
    obtain ⟨fd, F⟩ := S.says.t.d.defs (d := p.iniD) List.mem_cons_self
    have F : FunD K "__init__" (p.cn 0 ++ ".__init__") (defArgs p.ini) (defBody p.ini) (defScope p.ini) [] [] (ma K (ga K (p.cn 0)) "__init__") fd := F
    refine ⟨_, fd, (S.ex'.1 c).fi, S.once.1, ?_, ?_⟩
    · have F2 := F
      rw [hb, hs] at F2
      exact ok_init F2 (free_ok X N (S.fact (List.mem_append_right _ (List.mem_append_right _ (List.mem_append_left _ (List.mem_map.mpr ⟨"ValueError", by decide, rfl⟩)))))) S.once.2.2.2
    · refine F.bindsN fun kV doc pm an cdv ct us hl => ?_
      rw [← hps] at hl ⊢
      exact bind_plain hpar rfl hl
theorem Looked.defOk (S : Looked p w h K) (TB : ∀ q ∈ p.tf.map (cT K), LamX.TabB base mg q.1 q.2) (f : Nat) (x : Str) (e : (p.defs.map (·.name))[f]? = some x) : DefOk (p.g P w K mg base) f x := by
  rw [List.getElem?_map] at e
  cases ed : p.defs[f]? with
  | none => rw [ed] at e; cases e
  | some d =>
    rw [ed] at e
    have ex : d.name = x := Option.some.inj e
    subst ex
    have hd := List.mem_of_getElem? ed
    obtain ⟨fd, F⟩ := S.says.t.d.defs (d := d.dd) (List.mem_cons_of_mem _ (List.mem_map.mpr ⟨d, hd, rfl⟩))
    have F : FunD K d.name d.name (defArgs d.st) (defBody d.st) (defScope d.st) [] [] (ga K d.name) fd := F
    obtain ⟨b1, b2⟩ := ba (S.defs d hd)
    obtain ⟨b2, b3⟩ := ba b2
    have efa : (p.g P w K mg base).fa f = ga K d.name := by
      show ga K (p.fa f) = _
      rw [PI.fa_of (x := d.name) (by rw [List.getElem?_map, ed]; rfl)]
    obtain ⟨oc, od, dV, kV, doc, pm, an, cdv, ct, osl, rfl, lk, hcd, hD, hK⟩ := F.ex
    have dV0 : dV = .none := by
      rcases hD with ⟨_, z⟩ | ⟨z, _⟩
      · exact z
      · exact absurd rfl z
    subst dV0
    refine ⟨⟨⟨d.N.length, d.ps.length, d.body⟩, d.name, d.name, defArgs d.st, defBody d.st, defScope d.st, .none, kV, doc, pm, cdv, ct, oc, an, od, osl, d.N, d.ps, d.lam, textDepth, ?_, by rw [efa]; exact lk, hcd, scopeB_ok b1, fun s us _ hl => .of_eq (bind_plain b2 rfl hl), rfl, rfl, b3, Nat.le_refl _, fun hlam => ?_⟩⟩
    · show (p.defs.map fun d => (⟨d.N.length, d.ps.length, d.body⟩ : Fn))[f]? = _
      rw [List.getElem?_map, ed]
      rfl
    · obtain ⟨c, rfl⟩ := codeIn_ref hcd
      have hm : (d.name, none) ∈ p.tf := List.mem_map.mpr ⟨d, List.mem_filter.mpr ⟨hd, hlam⟩, rfl⟩
      have ec : codeOf K (d.name, none) = c := codeOf_eq lk rfl
      have tb := TB (cT K (d.name, none)) (List.mem_map.mpr ⟨_, hm, rfl⟩)
      have mT : ((cT K (d.name, none)).2, (d.name ++ ".<locals>.") ++ "<lambda>") ∈ p.T K := List.mem_map.mpr ⟨_, hm, rfl⟩
      refine ⟨c, (cT K (d.name, none)).2, rfl, ?_, mT, fun r hr he => ?_⟩
      · have z : (cT K (d.name, none)).1 = c := ec
        rw [z] at tb
        exact tb
      · have z := List.all_eq_true.mp (List.all_eq_true.mp S.ex'.2.2.2.2 r hr) _ mT
        simp only [Bool.or_eq_true, Bool.not_eq_true', decide_eq_false_iff_not, decide_eq_true_eq] at z
        rcases z with z | z
        · exact absurd he z
        · exact z
theorem Looked.snd (S : Looked p w h K) (hb : defBody p.ini = initBody 5 6) (hs : defScope p.ini = initScope) (hpar : plainPar (defArgs p.ini) = true) (hps : (defArgs p.ini).args.map (·.arg) = (["self", "what"] : List Str)) (X : K.In base) (N : base.Ns mainGlobals mg) (TB : ∀ q ∈ p.tf.map (cT K), LamX.TabB base mg q.1 q.2) (d : Nat) : FnSnd (p.g P w K mg base) (fev p.ctx d) (4 * d) :=
  (lev_snd (G := p.g P w K mg base) (S.gok X N) (S.excUse X N) (fun c x e => S.excOk hb hs hpar hps X N c x e) S.excAll (fun f x e => S.defOk TB f x e) d).1
end
end Ev
set_option maxHeartbeats 4000000
/-! The law's row from a run of the evaluator. -/
namespace Ev
open PySem PySem.Spec PyProof.Rows L2 He
theorem walk_prg {l : PySem.W.OpenLaw} {n m d f : Nat} {q : Program} {loose : List Str} {XP : (Str → Option Value) → Heap → Prop} {dr : DefRec} {p : PI} (hn : l.most = some n) (hn2 : n ≤ sizeLine) (hdf : dr.params.defaults = []) (hr : Room (4 * d) callerA)
    (pos : 0 < p.cls.length) (defs : ∀ e ∈ p.defs, p.defB e = true) (hb : defBody p.ini = initBody 5 6) (hs : defScope p.ini = initScope) (hpar : plainPar (defArgs p.ini) = true) (hps : (defArgs p.ini).args.map (·.arg) = (["self", "what"] : List Str))
    (hf : (p.defs.map (·.name))[f]? = some dr.name)
    (run : ∀ ns : List Int, ns.length ≤ n → (∀ z ∈ ns, Builtin.Int.intBits z ≤ 1048576) → ∃ st, fev p.ctx d f [.s ns] [] = .ok (.d (.bool true)) st) :
    PySem.W.WalkO q loose XP (hookX m p.facts p.fn [] p.tf p.ex).says l.row.toRowW dr [] (fun f vs => PySem.call f vs) := by
  refine Att.attach_callB hn hdf fun w s0 s1 mg mb fa o pm cd doc a vs ns G Y ho hd hcd hmg hobj hints hlen hbits hg => ?_
  obtain ⟨K, KX, S⟩ := Y
  have L : Looked p w s1.heap K := ⟨pos, defs, S⟩
  have efa : fa = ga K (p.fa f) := by
    obtain ⟨e, he, en⟩ := List.mem_map.mp (List.mem_of_getElem? hf)
    have z := glo_ok KX G.T.g (L.fact (f := Fa.glo dr.name) (List.mem_append_left _ (List.mem_map.mpr ⟨e, he, by rw [en]⟩)))
    rw [PI.fa_of hf]
    rw [hmg] at z
    cases z
    rfl
  subst efa
  refine top_call (G := p.g l.prog w K mg s1.heap) (F := fev p.ctx d) (f := f) (k := 4 * d) (cs := p.tf.map (cT K)) KX G.T.g G.T.b G.T.builtins G.T.nolimit hg ?_ ?_ ?_ G.T.bmain hobj hints (Nat.le_trans hlen hn2) hr ?_ hf ?_ (run ns hlen hbits)
  · intro r hr
    obtain ⟨t, ht, rfl⟩ := List.mem_map.mp hr
    exact S.empty t ht
  · intro r hr
    obtain ⟨t, ht, rfl⟩ := List.mem_map.mp hr
    exact S.out t ht
  · intro r hr
    obtain ⟨t, ht, rfl⟩ := List.mem_map.mp hr
    exact PySem.W.codeHd_of_K KX (S.hd t ht)
  · intro r hr
    obtain ⟨t, ht, rfl⟩ := List.mem_map.mp hr
    rw [List.map_map]
    exact List.mem_map.mpr ⟨t, ht, rfl⟩
  · intro b X N TB
    exact L.snd hb hs hpar hps X N TB d
end Ev
set_option maxHeartbeats 1000000
/-! What an evaluation must bring about, construct by construct. -/
namespace Ev
open PySem
/-- which class stands beneath which, by their places -/
def subT (n : Nat) (tab : List (List Bool)) (c c' : Nat) : Bool := ((tab.getD (if c < n then c else 0) []).getD (if c' < n then c' else 0) false)
/-- an equation that is no definitional one to the simplifier -/
theorem nr {α : Sort u} {a b : α} (h : a = b) : a = b := h
def Res.wp {α : Type} (m : Res α) (Q : α → Store → Prop) (X : Nat → PyData → Store → Prop) : Prop := match m with
  | .ok a st => Q a st
  | .exc c w st => X c w st
  | .bad => False
structure OQ where
  nx : Env → Store → Prop
  rt : R → Store → Prop
  bk : Env → Store → Prop
  ct : Env → Store → Prop
  ex : Nat → PyData → Env → Store → Prop
def Out.wp (o : Out) (D : OQ) : Prop := match o with
  | .nx env st => D.nx env st
  | .ret r st => D.rt r st
  | .brk env st => D.bk env st
  | .cnt env st => D.ct env st
  | .exc c w env st => D.ex c w env st
  | .bad => False
theorem Res.wp_ok {α : Type} {a : α} {st : Store} {Q : α → Store → Prop} {X : Nat → PyData → Store → Prop} : (Res.ok a st).wp Q X = Q a st := nr rfl
theorem Res.wp_exc {α : Type} {c : Nat} {w : PyData} {st : Store} {Q : α → Store → Prop} {X : Nat → PyData → Store → Prop} : (Res.exc c w st : Res α).wp Q X = X c w st := nr rfl
theorem Res.wp_bad {α : Type} {Q : α → Store → Prop} {X : Nat → PyData → Store → Prop} : (Res.bad : Res α).wp Q X = False := nr rfl
theorem Res.wp_bind {α β : Type} {m : Res α} {f : α → Store → Res β} {Q : β → Store → Prop} {X : Nat → PyData → Store → Prop} : (m.bind f).wp Q X = m.wp (fun a st => (f a st).wp Q X) X := by cases m <;> rfl
theorem Res.wp_out {m : Res R} {f : R → Store → Out} {env : Env} {D : OQ} : (m.out env f).wp D = m.wp (fun a st => (f a st).wp D) (fun c w st => D.ex c w env st) := by cases m <;> rfl
theorem Res.wp_mono {α : Type} {m : Res α} {Q Q' : α → Store → Prop} {X X' : Nat → PyData → Store → Prop} (h : m.wp Q X) (hq : ∀ a st, Q a st → Q' a st) (hx : ∀ c w st, X c w st → X' c w st) : m.wp Q' X' := by
  cases m with
  | ok a st => exact hq a st h
  | exc c w st => exact hx c w st h
  | bad => exact h
theorem Res.wp_mono1 {α : Type} {m : Res α} {Q Q' : α → Store → Prop} {X : Nat → PyData → Store → Prop} (h : m.wp Q X) (hq : ∀ a st, Q a st → Q' a st) : m.wp Q' X := Res.wp_mono h hq fun _ _ _ z => z
theorem Res.wp_ex {α : Type} {m : Res α} {Q : α → Store → Prop} (h : m.wp Q fun _ _ _ => False) : ∃ a st, m = .ok a st ∧ Q a st := by
  cases m with
  | ok a st => exact ⟨a, st, rfl, h⟩
  | exc c w st => exact h.elim
  | bad => exact h.elim
/-! ### what a value must be -/
def bopW (o : Bop) (x y : R) (Q : R → Prop) : Prop := match x, y with
  | .d x, .d y => (match bopD o x y with
    | some z => Q (.d z)
    | none => False)
  | _, _ => False
def truthW (r : R) (st : Store) (Q : Bool → Prop) : Prop := match truth r st with
  | some b => Q b
  | none => False
def cmpW (o : Cop) (x y : R) (st : Store) (Q : Bool → Prop) : Prop := match asD x st, asD y st with
  | some x, some y => (match cmpD o x y with
    | some z => Q z
    | none => False)
  | _, _ => False
def negW (r : R) (Q : R → Prop) : Prop := match r with
  | .d (.int i) => Q (.d (.int (-i)))
  | _ => False
def boolW (r : R) (Q : Bool → Prop) : Prop := match r with
  | .d (.bool b) => Q b
  | _ => False
def intW (r : R) (Q : Int → Prop) : Prop := match r with
  | .d (.int b) => Q b
  | _ => False
def datW (r : R) (Q : PyData → Prop) : Prop := match r with
  | .d b => Q b
  | _ => False
def isnW (p : Bool) (r : R) (Q : Bool → Prop) : Prop := match r with
  | .d .none => Q p
  | .d _ => Q !p
  | .c _ => Q !p
  | _ => False
def ixW (a i : R) (st : Store) (Q : R → Prop) : Prop := match ixR a i st with
  | some r => Q r
  | none => False
def slW (a : R) (l h : Option Int) (Q : R → Prop) : Prop := match slR a l h with
  | some r => Q r
  | none => False
def cbW (r : R) (P : Prop) : Prop := match r with
  | .lam _ _ => False
  | .x _ _ => False
  | _ => P
def cblW (r : R) (P : Prop) : Prop := match r with
  | .x _ _ => False
  | _ => P
def nlW (r : R) (P : Prop) : Prop := match r with
  | .lam _ _ => False
  | _ => P
/-- a slot's value -/
def slotW (o : Option (Option R)) (Q : R → Prop) : Prop := match o with
  | some (some r) => Q r
  | _ => False
def lamW (r : R) (Q : IE → Env → Prop) : Prop := match r with
  | .lam b env => Q b env
  | _ => False
def excW (r : R) (Q : Nat → PyData → Prop) : Prop := match r with
  | .x c w => Q c w
  | _ => False
def optW {α : Type} (o : Option α) (Q : α → Prop) : Prop := match o with
  | some a => Q a
  | none => False
/-- the levels, not to be unfolded by accident -/
@[irreducible] def LF (C : Ctx) (d : Nat) : FEv := (lev C d).1
@[irreducible] def LL (C : Ctx) (d : Nat) : IE → Env → Store → Res R := (lev C d).2
theorem LF_succ {C : Ctx} {d : Nat} : LF C (d + 1) = callF C (LF C d) (LL C d) := by
  unfold LF LL
  rfl
theorem LL_succ {C : Ctx} {d : Nat} : LL C (d + 1) = (evs C (LF C d) badL textDepth).E := by
  unfold LF LL
  rfl
theorem fev_LF {C : Ctx} {d : Nat} : fev C d = LF C d := by
  unfold LF
  rfl
section
variable {C : Ctx} {F : FEv} {L : IE → Env → Store → Res R} {n : Nat} {env : Env} {st : Store} {Q : R → Store → Prop} {X : Nat → PyData → Store → Prop} {D : OQ}
theorem wE_var {i : Nat} : ((evs C F L (n + 1)).E (.var i) env st).wp Q X = slotW env[i]? fun r => Q r st := by
  show Res.wp (match env[i]? with | some (some r) => Res.ok r st | _ => .bad) Q X = _
  cases env[i]? with
  | none => rfl
  | some o => cases o <;> rfl
theorem wE_k {x : PyData} : ((evs C F L (n + 1)).E (.k x) env st).wp Q X = Q (.d x) st := nr rfl
theorem wE_glob {g : Nat} : ((evs C F L (n + 1)).E (.glob g) env st).wp Q X = optW C.globs[g]? fun x => Q (.d x) st := by
  show Res.wp (match C.globs[g]? with | some x => Res.ok (.d x) st | none => .bad) Q X = _
  cases C.globs[g]? <;> rfl
/-- the items of a tuple's display -/
def tupW (rs : List R) (Q : R → Prop) : Prop := match allD rs with
  | some ds => ds.length ≤ sizeLine ∧ Q (.d (.tuple ds))
  | none => False
theorem wE_tup {es : List IE} : ((evs C F L (n + 1)).E (.tup es) env st).wp Q X = (evL (evs C F L n).E es env st).wp (fun rs st => tupW rs fun r => Q r st) X := by
  show Res.wp ((evL (evs C F L n).E es env st).bind _) Q X = _
  rw [Res.wp_bind]
  congr 1
  funext rs st
  unfold tupW
  cases allD rs with
  | none => rfl
  | some ds =>
    dsimp only
    by_cases h : ds.length ≤ sizeLine
    · rw [if_pos h]
      simp only [h, true_and]
      rfl
    · rw [if_neg h]
      simp only [h, false_and]
      rfl
theorem wE_lst {mt : Bool} {es : List IE} : ((evs C F L (n + 1)).E (.lst mt es) env st).wp Q X = (evL (evs C F L n).E es env st).wp (fun rs st => (newList mt rs st).wp Q X) X := Res.wp_bind
theorem wE_bop {o : Bop} {a b : IE} : ((evs C F L (n + 1)).E (.bop o a b) env st).wp Q X = ((evs C F L n).E a env st).wp (fun x st => ((evs C F L n).E b env st).wp (fun y st => bopW o x y fun r => Q r st) X) X := by
  show Res.wp (((evs C F L n).E a env st).bind _) Q X = _
  rw [Res.wp_bind]
  congr 1
  funext x st
  rw [Res.wp_bind]
  congr 1
  funext y st
  unfold bopW
  cases x <;> cases y <;> try rfl
  rename_i x y
  dsimp only
  cases bopD o x y <;> rfl
theorem wE_neg {a : IE} : ((evs C F L (n + 1)).E (.neg a) env st).wp Q X = ((evs C F L n).E a env st).wp (fun x st => negW x fun r => Q r st) X := by
  show Res.wp (((evs C F L n).E a env st).bind _) Q X = _
  rw [Res.wp_bind]
  congr 1
  funext x st
  cases x <;> try rfl
  rename_i x
  cases x <;> rfl
theorem wT {v : Evs} {e : IE} {Q : Bool → Store → Prop} : (v.T e env st).wp Q X = (v.E e env st).wp (fun r st => truthW r st fun b => Q b st) X := by
  show Res.wp ((v.E e env st).bind _) Q X = _
  rw [Res.wp_bind]
  congr 1
  funext r st
  unfold truthW
  cases truth r st <;> rfl
theorem wE_not {a : IE} : ((evs C F L (n + 1)).E (.not a) env st).wp Q X = ((evs C F L n).E a env st).wp (fun r st => truthW r st fun b => Q (.d (.bool !b)) st) X := by
  show Res.wp (((evs C F L n).T a env st).bind _) Q X = _
  rw [Res.wp_bind, wT]
  rfl
theorem wE_and {a b : IE} : ((evs C F L (n + 1)).E (.and a b) env st).wp Q X = ((evs C F L n).E a env st).wp (fun x st => boolW x fun c => if c = true then ((evs C F L n).E b env st).wp Q X else Q (.d (.bool false)) st) X := by
  show Res.wp (((evs C F L n).E a env st).bind _) Q X = _
  rw [Res.wp_bind]
  congr 1
  funext x st
  cases x <;> try rfl
  rename_i x
  cases x <;> try rfl
  rename_i c
  cases c <;> rfl
theorem wE_or {a b : IE} : ((evs C F L (n + 1)).E (.or a b) env st).wp Q X = ((evs C F L n).E a env st).wp (fun x st => boolW x fun c => if c = true then Q (.d (.bool true)) st else ((evs C F L n).E b env st).wp Q X) X := by
  show Res.wp (((evs C F L n).E a env st).bind _) Q X = _
  rw [Res.wp_bind]
  congr 1
  funext x st
  cases x <;> try rfl
  rename_i x
  cases x <;> try rfl
  rename_i c
  cases c <;> rfl
theorem wE_cmp {o : Cop} {a b : IE} : ((evs C F L (n + 1)).E (.cmp o a b) env st).wp Q X = ((evs C F L n).E a env st).wp (fun x st => ((evs C F L n).E b env st).wp (fun y st => cmpW o x y st fun z => Q (.d (.bool z)) st) X) X := by
  show Res.wp (((evs C F L n).E a env st).bind _) Q X = _
  rw [Res.wp_bind]
  congr 1
  funext x st
  rw [Res.wp_bind]
  congr 1
  funext y st
  unfold cmpW
  cases asD x st <;> cases asD y st <;> try rfl
  rename_i x y
  dsimp only
  cases cmpD o x y <;> rfl
theorem wE_isn {p : Bool} {a : IE} : ((evs C F L (n + 1)).E (.isn p a) env st).wp Q X = ((evs C F L n).E a env st).wp (fun x st => isnW p x fun z => Q (.d (.bool z)) st) X := by
  show Res.wp (((evs C F L n).E a env st).bind _) Q X = _
  rw [Res.wp_bind]
  congr 1
  funext x st
  cases x <;> try rfl
  rename_i x
  cases x <;> rfl
theorem wE_chain {o p : Cop} {a b c : IE} : ((evs C F L (n + 1)).E (.chain o p a b c) env st).wp Q X = ((evs C F L n).E a env st).wp (fun x st => ((evs C F L n).E b env st).wp (fun y st => intW x fun i => intW y fun j =>
    if cmpI o i j = true then ((evs C F L n).E c env st).wp (fun z st => intW z fun k => Q (.d (.bool (cmpI p j k))) st) X else Q (.d (.bool false)) st) X) X := by
  show Res.wp (((evs C F L n).E a env st).bind _) Q X = _
  rw [Res.wp_bind]
  congr 1
  funext x st
  rw [Res.wp_bind]
  congr 1
  funext y st
  cases x <;> try rfl
  rename_i x
  cases x <;> try rfl
  cases y <;> try rfl
  rename_i y
  cases y <;> try rfl
  rename_i i j
  dsimp only [intW]
  by_cases h : cmpI o i j = true
  · rw [if_pos h, if_pos h, Res.wp_bind]
    congr 1
    funext z st
    cases z <;> try rfl
    rename_i z
    cases z <;> rfl
  · rw [if_neg h, if_neg h]
    rfl
theorem wE_ite {c a b : IE} : ((evs C F L (n + 1)).E (.ite c a b) env st).wp Q X = ((evs C F L n).E c env st).wp (fun r st => truthW r st fun t => if t = true then ((evs C F L n).E a env st).wp Q X else ((evs C F L n).E b env st).wp Q X) X := by
  show Res.wp (((evs C F L n).T c env st).bind _) Q X = _
  rw [Res.wp_bind, wT]
  congr 1
  funext r st
  congr 1
  funext t
  cases t <;> rfl
theorem wE_ix {a i : IE} : ((evs C F L (n + 1)).E (.ix a i) env st).wp Q X = ((evs C F L n).E a env st).wp (fun x st => ((evs C F L n).E i env st).wp (fun y st => ixW x y st fun r => Q r st) X) X := by
  show Res.wp (((evs C F L n).E a env st).bind _) Q X = _
  rw [Res.wp_bind]
  congr 1
  funext x st
  rw [Res.wp_bind]
  congr 1
  funext y st
  unfold ixW
  cases ixR x y st <;> rfl
def evOW (E : IE → Env → Store → Res R) (o : Option IE) (env : Env) (st : Store) (Q : Option Int → Store → Prop) (X : Nat → PyData → Store → Prop) : Prop := match o with
  | none => Q none st
  | some e => (E e env st).wp (fun r st => intW r fun i => Q (some i) st) X
theorem evOW_none {E : IE → Env → Store → Res R} {Q : Option Int → Store → Prop} : evOW E none env st Q X = Q none st := nr rfl
theorem evOW_some {E : IE → Env → Store → Res R} {e : IE} {Q : Option Int → Store → Prop} : evOW E (some e) env st Q X = (E e env st).wp (fun r st => intW r fun i => Q (some i) st) X := nr rfl
theorem evO_wp {E : IE → Env → Store → Res R} {o : Option IE} {Q : Option Int → Store → Prop} : (evO E o env st).wp Q X = evOW E o env st Q X := by
  cases o with
  | none => rfl
  | some e =>
    show Res.wp ((E e env st).bind _) Q X = _
    rw [Res.wp_bind]
    unfold evOW
    congr 1
    funext r st
    cases r <;> try rfl
    rename_i x
    cases x <;> rfl
theorem wE_sl {a : IE} {lo hi : Option IE} : ((evs C F L (n + 1)).E (.sl a lo hi) env st).wp Q X = ((evs C F L n).E a env st).wp (fun x st => evOW (evs C F L n).E lo env st (fun l st => evOW (evs C F L n).E hi env st (fun h st => slW x l h fun r => Q r st) X) X) X := by
  show Res.wp (((evs C F L n).E a env st).bind _) Q X = _
  rw [Res.wp_bind]
  congr 1
  funext x st
  rw [Res.wp_bind, evO_wp]
  congr 1
  funext l st
  rw [Res.wp_bind, evO_wp]
  congr 1
  funext h st
  unfold slW
  cases slR x l h <;> rfl
theorem wE_call {f : Nat} {es : List IE} : ((evs C F L (n + 1)).E (.call f es) env st).wp Q X = (evL (argE (evs C F L n)) es env st).wp (fun rs st => (F f rs st).wp Q X) X := Res.wp_bind
theorem wE_bi {b : Bi} {mt : Bool} {es : List IE} : ((evs C F L (n + 1)).E (.bi b mt es) env st).wp Q X = (evL (evs C F L n).E es env st).wp (fun rs st => (biR b mt rs st).wp Q X) X := Res.wp_bind
theorem wE_isx {c i : Nat} : ((evs C F L (n + 1)).E (.isx c i) env st).wp Q X = slotW env[i]? fun r => excW r fun k _ => Q (.d (.bool (C.sub k c))) st := by
  show Res.wp (match env[i]? with | some (some (.x cls _)) => Res.ok (.d (.bool (C.sub cls c))) st | _ => .bad) Q X = _
  cases env[i]? with
  | none => rfl
  | some o => cases o with
    | none => rfl
    | some r => cases r <;> rfl
theorem wE_what {i : Nat} : ((evs C F L (n + 1)).E (.what i) env st).wp Q X = slotW env[i]? fun r => excW r fun _ w => Q (.d w) st := by
  show Res.wp (match env[i]? with | some (some (.x _ w)) => Res.ok (.d w) st | _ => .bad) Q X = _
  cases env[i]? with
  | none => rfl
  | some o => cases o with
    | none => rfl
    | some r => cases r <;> rfl
theorem wE_me {m : Me} {o : IE} {es : List IE} : ((evs C F L (n + 1)).E (.me m o es) env st).wp Q X = ((evs C F L n).E o env st).wp (fun x st => recvOk m x st = true ∧ (evL (evs C F L n).E es env st).wp (fun rs st => (meR m x rs st).wp Q X) X) X := by
  show Res.wp (((evs C F L n).E o env st).bind _) Q X = _
  rw [Res.wp_bind]
  congr 1
  funext x st
  by_cases h : recvOk m x st = true
  · rw [if_pos h, Res.wp_bind]
    simp only [h, true_and]
  · rw [if_neg h]
    exact propext ⟨fun z => z.elim, fun z => h z.1⟩
theorem wE_comp {mt : Bool} {own : List Nat} {k : Itk} {es : List IE} {tg : Tg} {cond : Option IE} {elt : IE} : ((evs C F L (n + 1)).E (.comp mt own k es tg cond elt) env st).wp Q X =
    (evL (evs C F L n).E es env st).wp (fun rs st => optW (walks k rs st) fun xs => (compL (same rs st) st.length (compB (evs C F L n) own tg cond elt env) xs (st ++ [.lst []])).wp (fun _ st' => (compEnd mt st.length st').wp Q X) X) X := by
  show Res.wp ((evL (evs C F L n).E es env st).bind _) Q X = _
  rw [Res.wp_bind]
  congr 1
  funext rs st
  cases walks k rs st with
  | none => rfl
  | some xs => exact Res.wp_bind
theorem wE_clo {i : Nat} : ((evs C F L (n + 1)).E (.clo i) env st).wp Q X = slotW env[i]? fun r => lamW r fun b env' => (L b env' st).wp (fun r st => cbW r (Q r st)) X := by
  show Res.wp (match env[i]? with | some (some (.lam b env')) => ((evs C F L n).L b env' st).bind fun r st => if isCB r then Res.ok r st else .bad | _ => .bad) Q X = _
  have e : (evs C F L n).L = L := by cases n <;> rfl
  rw [e]
  cases env[i]? with
  | none => rfl
  | some o => cases o with
    | none => rfl
    | some r => cases r with
      | lam b env' =>
        show Res.wp ((L b env' st).bind _) Q X = _
        rw [Res.wp_bind]
        show _ = (L b env' st).wp _ X
        congr 1
        funext r st
        cases r <;> rfl
      | _ => rfl
/-! ### lists of expressions -/
theorem wL_nil {E : IE → Env → Store → Res R} {Q : List R → Store → Prop} : (evL E [] env st).wp Q X = Q [] st := nr rfl
theorem wL_cons {E : IE → Env → Store → Res R} {e : IE} {es : List IE} {Q : List R → Store → Prop} : (evL E (e :: es) env st).wp Q X = (E e env st).wp (fun r st => (evL E es env st).wp (fun rs st => Q (r :: rs) st) X) X := by
  show Res.wp ((E e env st).bind _) Q X = _
  rw [Res.wp_bind]
  congr 1
  funext r st
  rw [Res.wp_bind]
  rfl
/-- an argument -/
theorem wA_lam {v : Evs} {b : IE} {Q : R → Store → Prop} : (argE v (.lam b) env st).wp Q X = Q (.lam b (wipe [] env)) st := nr rfl
def isLam : IE → Bool
  | .lam _ => true
  | _ => false
theorem wA {v : Evs} {e : IE} {Q : R → Store → Prop} (h : isLam e = false) : (argE v e env st).wp Q X = (v.E e env st).wp (fun r st => cblW r (Q r st)) X := by
  cases e <;> first
    | (simp [isLam] at h; done)
    | (show Res.wp ((v.E _ env st).bind _) Q X = _
       rw [Res.wp_bind]
       congr 1
       funext r st
       cases r <;> rfl)
theorem wA_var {v : Evs} {Q : R → Store → Prop} {i : Nat} : (argE v (.var i) env st).wp Q X = (v.E (.var i) env st).wp (fun r st => cblW r (Q r st)) X := wA rfl
theorem wA_k {v : Evs} {Q : R → Store → Prop} {x : PyData} : (argE v (.k x) env st).wp Q X = (v.E (.k x) env st).wp (fun r st => cblW r (Q r st)) X := wA rfl
theorem wA_glob {v : Evs} {Q : R → Store → Prop} {g : Nat} : (argE v (.glob g) env st).wp Q X = (v.E (.glob g) env st).wp (fun r st => cblW r (Q r st)) X := wA rfl
theorem wA_tup {v : Evs} {Q : R → Store → Prop} {es : List IE} : (argE v (.tup es) env st).wp Q X = (v.E (.tup es) env st).wp (fun r st => cblW r (Q r st)) X := wA rfl
theorem wA_lst {v : Evs} {Q : R → Store → Prop} {mt : Bool} {es : List IE} : (argE v (.lst mt es) env st).wp Q X = (v.E (.lst mt es) env st).wp (fun r st => cblW r (Q r st)) X := wA rfl
theorem wA_bop {v : Evs} {Q : R → Store → Prop} {o : Bop} {a b : IE} : (argE v (.bop o a b) env st).wp Q X = (v.E (.bop o a b) env st).wp (fun r st => cblW r (Q r st)) X := wA rfl
theorem wA_neg {v : Evs} {Q : R → Store → Prop} {a : IE} : (argE v (.neg a) env st).wp Q X = (v.E (.neg a) env st).wp (fun r st => cblW r (Q r st)) X := wA rfl
theorem wA_not {v : Evs} {Q : R → Store → Prop} {a : IE} : (argE v (.not a) env st).wp Q X = (v.E (.not a) env st).wp (fun r st => cblW r (Q r st)) X := wA rfl
theorem wA_and {v : Evs} {Q : R → Store → Prop} {a b : IE} : (argE v (.and a b) env st).wp Q X = (v.E (.and a b) env st).wp (fun r st => cblW r (Q r st)) X := wA rfl
theorem wA_or {v : Evs} {Q : R → Store → Prop} {a b : IE} : (argE v (.or a b) env st).wp Q X = (v.E (.or a b) env st).wp (fun r st => cblW r (Q r st)) X := wA rfl
theorem wA_cmp {v : Evs} {Q : R → Store → Prop} {o : Cop} {a b : IE} : (argE v (.cmp o a b) env st).wp Q X = (v.E (.cmp o a b) env st).wp (fun r st => cblW r (Q r st)) X := wA rfl
theorem wA_isn {v : Evs} {Q : R → Store → Prop} {p : Bool} {a : IE} : (argE v (.isn p a) env st).wp Q X = (v.E (.isn p a) env st).wp (fun r st => cblW r (Q r st)) X := wA rfl
theorem wA_chain {v : Evs} {Q : R → Store → Prop} {o p : Cop} {a b c : IE} : (argE v (.chain o p a b c) env st).wp Q X = (v.E (.chain o p a b c) env st).wp (fun r st => cblW r (Q r st)) X := wA rfl
theorem wA_ite {v : Evs} {Q : R → Store → Prop} {c a b : IE} : (argE v (.ite c a b) env st).wp Q X = (v.E (.ite c a b) env st).wp (fun r st => cblW r (Q r st)) X := wA rfl
theorem wA_ix {v : Evs} {Q : R → Store → Prop} {a i : IE} : (argE v (.ix a i) env st).wp Q X = (v.E (.ix a i) env st).wp (fun r st => cblW r (Q r st)) X := wA rfl
theorem wA_sl {v : Evs} {Q : R → Store → Prop} {a : IE} {lo hi : Option IE} : (argE v (.sl a lo hi) env st).wp Q X = (v.E (.sl a lo hi) env st).wp (fun r st => cblW r (Q r st)) X := wA rfl
theorem wA_call {v : Evs} {Q : R → Store → Prop} {f : Nat} {es : List IE} : (argE v (.call f es) env st).wp Q X = (v.E (.call f es) env st).wp (fun r st => cblW r (Q r st)) X := wA rfl
theorem wA_bi {v : Evs} {Q : R → Store → Prop} {b : Bi} {mt : Bool} {es : List IE} : (argE v (.bi b mt es) env st).wp Q X = (v.E (.bi b mt es) env st).wp (fun r st => cblW r (Q r st)) X := wA rfl
theorem wA_isx {v : Evs} {Q : R → Store → Prop} {c i : Nat} : (argE v (.isx c i) env st).wp Q X = (v.E (.isx c i) env st).wp (fun r st => cblW r (Q r st)) X := wA rfl
theorem wA_me {v : Evs} {Q : R → Store → Prop} {m : Me} {o : IE} {es : List IE} : (argE v (.me m o es) env st).wp Q X = (v.E (.me m o es) env st).wp (fun r st => cblW r (Q r st)) X := wA rfl
theorem wA_comp {v : Evs} {Q : R → Store → Prop} {mt : Bool} {own : List Nat} {k : Itk} {es : List IE} {tg : Tg} {cond : Option IE} {elt : IE} : (argE v (.comp mt own k es tg cond elt) env st).wp Q X = (v.E (.comp mt own k es tg cond elt) env st).wp (fun r st => cblW r (Q r st)) X := wA rfl
theorem wA_clo {v : Evs} {Q : R → Store → Prop} {i : Nat} : (argE v (.clo i) env st).wp Q X = (v.E (.clo i) env st).wp (fun r st => cblW r (Q r st)) X := wA rfl
theorem wA_what {v : Evs} {Q : R → Store → Prop} {i : Nat} : (argE v (.what i) env st).wp Q X = (v.E (.what i) env st).wp (fun r st => cblW r (Q r st)) X := wA rfl
/-! ### statements -/
theorem wS {is : List IS} : ((evs C F L (n + 1)).S is env st).wp D = (stepS C (evs C F L n) is env st).wp D := nr rfl
theorem wS_nil {v : Evs} : (stepS C v [] env st).wp D = D.nx env st := nr rfl
theorem wS_cons {v : Evs} {s : IS} {ss : List IS} : (stepS C v (s :: ss) env st).wp D = (stepS1 C v s env st).wp ⟨fun env st => (stepS C v ss env st).wp D, D.rt, D.bk, D.ct, D.ex⟩ := by
  show Out.wp (match stepS1 C v s env st with | .nx env' st' => stepS C v ss env' st' | o => o) D = _
  cases stepS1 C v s env st <;> rfl
theorem w_set {v : Evs} {i : Nat} {e : IE} : (stepS1 C v (.set i e) env st).wp D = (v.E e env st).wp (fun r st => nlW r (D.nx (env.set i (some r)) st)) (fun c w st => D.ex c w env st) := by
  show Out.wp ((v.E e env st).out env _) D = _
  rw [Res.wp_out]
  congr 1
  funext r st
  cases r <;> rfl
theorem w_par {v : Evs} {is : List Nat} {es : List IE} : (stepS1 C v (.par is es) env st).wp D = (evL v.E es env st).wp (fun rs st => is.length = rs.length ∧ D.nx ((is.zip rs).foldl (fun e p => e.set p.1 (some p.2)) env) st) (fun c w st => D.ex c w env st) := by
  show Out.wp (match evL v.E es env st with | .ok rs st => _ | .exc c w st => _ | .bad => _) D = _
  cases evL v.E es env st with
  | ok rs st =>
    dsimp only
    by_cases h : is.length = rs.length
    · rw [if_pos h]
      show _ = (_ ∧ _)
      simp only [h, true_and]
      rfl
    · rw [if_neg h]
      show _ = (_ ∧ _)
      simp only [h, false_and]
      rfl
  | exc _ _ _ => rfl
  | bad => rfl
theorem w_unp {v : Evs} {is : List Nat} {e : IE} : (stepS1 C v (.unp is e) env st).wp D = (v.E e env st).wp (fun r st => optW (setTg (.tp is) r env) fun env' => D.nx env' st) (fun c w st => D.ex c w env st) := by
  show Out.wp ((v.E e env st).out env _) D = _
  rw [Res.wp_out]
  congr 1
  funext r st
  cases setTg (.tp is) r env <;> rfl
/-- a[k] = r -/
def setixW (o k r : R) (st : Store) (Q : Store → Prop) : Prop := match o, k with
  | .c j, .d (.int k) => (match st[j]? with
    | some (.lst xs) => (match L2.ixN xs.length k with
      | some n => isBelow j r = true ∧ Q (st.set j (.lst (xs.set n r)))
      | none => False)
    | _ => False)
  | _, _ => False
theorem w_setix {v : Evs} {a i e : IE} : (stepS1 C v (.setix a i e) env st).wp D = (v.E e env st).wp (fun r st => (v.E a env st).wp (fun o st => (v.E i env st).wp (fun k st => setixW o k r st fun st => D.nx env st) (fun c w st => D.ex c w env st)) (fun c w st => D.ex c w env st)) (fun c w st => D.ex c w env st) := by
  show Out.wp ((v.E e env st).out env _) D = _
  rw [Res.wp_out]
  congr 1
  funext r st
  rw [Res.wp_out]
  congr 1
  funext o st
  rw [Res.wp_out]
  congr 1
  funext k st
  unfold setixW
  cases o <;> try rfl
  cases k <;> try rfl
  rename_i k
  cases k <;> try rfl
  rename_i j k
  dsimp only
  cases st[j]? with
  | none => rfl
  | some c =>
    cases c with
    | dead => rfl
    | lst xs =>
      dsimp only
      cases L2.ixN xs.length k with
      | none => rfl
      | some m =>
        dsimp only
        by_cases h : isBelow j r = true
        · rw [if_pos h]
          simp only [h, true_and]
          rfl
        · rw [if_neg h]
          exact propext ⟨fun z => z.elim, fun z => h z.1⟩
def augW (o : Bop) (x y : R) (Q : R → Prop) : Prop := match o, x, y with
  | .add, .d (.int a), .d (.int b) => Q (.d (.int (a + b)))
  | .sub, .d (.int a), .d (.int b) => Q (.d (.int (a - b)))
  | _, _, _ => False
theorem w_aug {v : Evs} {i : Nat} {o : Bop} {e : IE} : (stepS1 C v (.aug i o e) env st).wp D = slotW env[i]? fun x => datW x fun x => (v.E e env st).wp (fun r st => augW o (.d x) r fun r => D.nx (env.set i (some r)) st) (fun c w st => D.ex c w env st) := by
  show Out.wp (match env[i]? with | some (some (.d x)) => (v.E e env st).out env fun r st => (match r with | .d y => (match o, x, y with | .add, .int a, .int b => Out.nx (env.set i (some (.d (.int (a + b))))) st | .sub, .int a, .int b => Out.nx (env.set i (some (.d (.int (a - b))))) st | _, _, _ => .bad) | _ => .bad) | _ => .bad) D = _
  cases env[i]? with
  | none => rfl
  | some q => cases q with
    | none => rfl
    | some r => cases r with
      | d x =>
        show Out.wp (Res.out _ _ _) D = _
        rw [Res.wp_out]
        show _ = Res.wp _ _ _
        congr 1
        funext r st
        cases r <;> try (cases o <;> cases x <;> rfl)
        rename_i y
        cases o <;> cases x <;> cases y <;> rfl
      | _ => rfl
theorem w_ex {v : Evs} {e : IE} : (stepS1 C v (.ex e) env st).wp D = (v.E e env st).wp (fun _ st => D.nx env st) (fun c w st => D.ex c w env st) := by
  show Out.wp ((v.E e env st).out env _) D = _
  rw [Res.wp_out]
  rfl
theorem w_ite {v : Evs} {c : IE} {t f : List IS} : (stepS1 C v (.ite c t f) env st).wp D = (v.E c env st).wp (fun r st => truthW r st fun b => if b = true then (v.S t env st).wp D else (v.S f env st).wp D) (fun c w st => D.ex c w env st) := by
  show Out.wp (match v.T c env st with | .ok b st => _ | .exc c w st => _ | .bad => _) D = _
  have e := wT (v := v) (e := c) (env := env) (st := st) (Q := fun b st => if b = true then (v.S t env st).wp D else (v.S f env st).wp D) (X := fun c w st => D.ex c w env st)
  rw [← e]
  cases v.T c env st with
  | ok b st => cases b <;> rfl
  | exc _ _ _ => rfl
  | bad => rfl
theorem w_for {v : Evs} {k : Itk} {es : List IE} {tg : Tg} {body : List IS} : (stepS1 C v (.for k es tg body) env st).wp D = (evL v.E es env st).wp (fun rs st => optW (walks k rs st) fun xs => (forL (same rs st) st.length (forB v tg body) xs env st).wp D) (fun c w st => D.ex c w env st) := by
  show Out.wp (match evL v.E es env st with | .ok rs st => _ | .exc c w st => _ | .bad => _) D = _
  cases evL v.E es env st with
  | ok rs st =>
    show _ = optW _ _
    dsimp only
    cases walks k rs st <;> rfl
  | exc _ _ _ => rfl
  | bad => rfl
theorem w_ret {v : Evs} {e : IE} : (stepS1 C v (.ret e) env st).wp D = (v.E e env st).wp (fun r st => cbW r (D.rt r st)) (fun c w st => D.ex c w env st) := by
  show Out.wp ((v.E e env st).out env _) D = _
  rw [Res.wp_out]
  congr 1
  funext r st
  cases r <;> rfl
theorem w_retN {v : Evs} : (stepS1 C v .retN env st).wp D = D.rt (.d .none) st := nr rfl
theorem w_brk {v : Evs} : (stepS1 C v .brk env st).wp D = D.bk env st := nr rfl
theorem w_cont {v : Evs} : (stepS1 C v .cont env st).wp D = D.ct env st := nr rfl
theorem w_pass {v : Evs} : (stepS1 C v .pass env st).wp D = D.nx env st := nr rfl
theorem w_raise {v : Evs} {cls : Nat} {e : IE} : (stepS1 C v (.raise cls e) env st).wp D = (v.E e env st).wp (fun r st => datW r fun w => D.ex cls w env st) (fun c w st => D.ex c w env st) := by
  show Out.wp ((v.E e env st).out env _) D = _
  rw [Res.wp_out]
  congr 1
  funext r st
  cases r <;> rfl
theorem w_try {v : Evs} {body suite : List IS} {cls i : Nat} : (stepS1 C v (.tryAs body cls i suite) env st).wp D = (v.S body (killX env) st).wp
    ⟨fun env st => D.nx (killX env) st, D.rt, fun env st => D.bk (killX env) st, fun env st => D.ct (killX env) st, fun c w env st => if C.sub c cls = true then (v.S suite ((killX env).set i (some (.x c w))) st).wp
      ⟨fun env st => D.nx ((killX env).set i none) st, D.rt, fun env st => D.bk ((killX env).set i none) st, fun env st => D.ct ((killX env).set i none) st, fun _ _ _ _ => False⟩ else D.ex c w (killX env) st⟩ := by
  show Out.wp (match v.S body (killX env) st with | .exc c w env' st' => _ | .nx env' st' => _ | .brk env' st' => _ | .cnt env' st' => _ | .ret r st' => _ | .bad => _) D = _
  cases v.S body (killX env) st with
  | exc c w env' st' =>
    show Out.wp (if C.sub c cls = true then _ else _) D = if C.sub c cls = true then _ else _
    by_cases h : C.sub c cls = true
    · rw [if_pos h, if_pos h]
      cases v.S suite ((killX env').set i (some (.x c w))) st' <;> rfl
    · rw [if_neg h, if_neg h]
      rfl
  | nx _ _ => rfl
  | brk _ _ => rfl
  | cnt _ _ => rfl
  | ret _ _ => rfl
  | bad => rfl
theorem w_frz {v : Evs} {i : Nat} : (stepS1 C v (.frz i) env st).wp D = slotW env[i]? fun r => (freeze r st).wp (fun r st => D.nx (env.set i (some r)) st) (fun c w st => D.ex c w env st) := by
  show Out.wp (match env[i]? with | some (some r) => (freeze r st).out env fun r st => Out.nx (env.set i (some r)) st | _ => .bad) D = _
  cases env[i]? with
  | none => rfl
  | some o => cases o with
    | none => rfl
    | some r => exact Res.wp_out
/-! ### the call of a def -/
def retW (k : Nat) (r : R) (st : Store) (Q : R → Store → Prop) : Prop := match r with
  | .d x => Q (.d x) (st.take k)
  | .c i => Q (.c i) st
  | _ => False
theorem call_wp {f : Nat} {fn : Fn} {rs : List R} (h : C.fns[f]? = some fn) (hl : rs.length = fn.pars) : (callF C F L f rs st).wp Q X = ((evs C F L textDepth).S fn.body (rs.map some ++ List.replicate (fn.slots - fn.pars) none) st).wp
    ⟨fun _ st' => Q (.d .none) (st'.take st.length), fun r st' => retW st.length r st' Q, fun _ _ => False, fun _ _ => False, fun c w _ st' => X c w (st'.take st.length)⟩ := by
  unfold callF
  rw [h]
  dsimp only
  rw [if_pos hl]
  cases (evs C F L textDepth).S fn.body (rs.map some ++ List.replicate (fn.slots - fn.pars) none) st with
  | ret r st' => cases r <;> rfl
  | _ => rfl
end
end Ev
set_option maxHeartbeats 1000000
/-! Data that are small enough to be shown and compared. -/
namespace Ev
open PySem
mutual
def wt : PyData → Nat
  | .none => 5
  | .bool _ => 5
  | .int _ => 1921
  | .str x => 10 * x.length + 2
  | .list xs => wts xs + 3
  | .tuple xs => wts xs + 3
  | .dict _ => 0
def wts : List PyData → Nat
  | [] => 0
  | x :: xs => wt x + 2 + wts xs
end
theorem listText_len : ∀ (ts : List Str) (k : Nat) (acc : Str), (textFrom k acc ts).length ≤ acc.length + (ts.map fun t => t.length + 2).sum
  | [], k, acc => by simp [textFrom]
  | t :: r, k, acc => by
    have ih := listText_len r (k + 1) (acc ++ (if k > 0 then ", " else "" : String) ++ t)
    have e : (acc ++ (if k > 0 then ", " else "" : String) ++ t).length ≤ acc.length + 2 + t.length := by
      rw [strLen_append, strLen_append]
      split
      · show acc.length + 2 + t.length ≤ _; omega
      · show acc.length + 0 + t.length ≤ _; omega
    show (textFrom (k + 1) (acc ++ (if k > 0 then ", " else "" : String) ++ t) r).length ≤ _
    simp only [List.map_cons, List.sum_cons]
    omega
theorem tupleText_len (ts : List Str) : (tupleText ts).length ≤ (ts.map fun t => t.length + 2).sum + 3 := by
  have e : (tupleText ts).length ≤ 1 + (Str.join ", " ts).length + 2 := by
    unfold tupleText
    rw [strLen_append, strLen_append]
    split
    · show 1 + _ + 2 ≤ _; omega
    · show 1 + _ + 1 ≤ _; omega
  have j : ∀ l : List Str, (Str.join ", " l).length ≤ (l.map fun t => t.length + 2).sum := by
    intro l
    by_cases h : l = []
    · subst h; simp [Str.join]; rfl
    · have := join_length_add l h
      have p : piled l = (l.map fun t => t.length + 2).sum := by
        clear h this
        induction l with
        | nil => rfl
        | cons t r ih => rw [piled_cons, List.map_cons, List.sum_cons, ih]
      omega
  have := j ts
  omega
mutual
theorem shown_wt : ∀ x : PyData, x.showable = true → x.canLay0 = true → x.shown.length ≤ wt x
  | .none, _, _ => by simp only [PyData.shown, wt]; decide
  | .bool b, _, _ => by cases b <;> (simp only [PyData.shown, wt]; decide)
  | .int i, h, _ => by
    simp only [PyData.showable, decide_eq_true_eq] at h
    simp only [PyData.shown, wt]
    exact PyProof.Rows.int_text_len_1921 h
  | .str x, _, h => by
    simp only [PyData.canLay0] at h
    simp only [PyData.shown, wt]
    refine StrLaws.reprText_len x fun c hc => ?_
    have z := (Array.all_eq_true'.mp h) c (by simpa using hc)
    simp at z
    exact Nat.lt_trans z (by decide)
  | .list xs, h, k => by
    simp only [PyData.showable] at h
    simp only [PyData.canLay0] at k
    simp only [PyData.shown, wt]
    have z := shownAll_wts xs h k
    have e : (listText (PyData.shownAll xs)).length ≤ ((PyData.shownAll xs).map fun t => t.length + 2).sum + 2 := by
      unfold listText
      rw [strLen_append]
      have := listText_len (PyData.shownAll xs) 0 "["
      have e1 : ((("[" : String) : Str)).length = 1 := rfl
      have e2 : ((("]" : String) : Str)).length = 1 := rfl
      omega
    omega
  | .tuple xs, h, k => by
    simp only [PyData.showable] at h
    simp only [PyData.canLay0] at k
    simp only [PyData.shown, wt]
    have z := shownAll_wts xs h k
    have e := tupleText_len (PyData.shownAll xs)
    omega
  | .dict _, _, k => by simp [PyData.canLay0] at k
theorem shownAll_wts : ∀ xs : List PyData, PyData.showableAll xs = true → PyData.canLayAll0 xs = true → ((PyData.shownAll xs).map fun t => t.length + 2).sum ≤ wts xs
  | [], _, _ => by simp [PyData.shownAll, wts]
  | x :: xs, h, k => by
    simp only [PyData.showableAll, Bool.and_eq_true] at h
    simp only [PyData.canLayAll0, Bool.and_eq_true] at k
    have a := shown_wt x h.1 k.1
    have b := shownAll_wts xs h.2 k.2
    simp only [PyData.shownAll, List.map_cons, List.sum_cons, wts]
    omega
end
/-- x is data that can be shown, of so much depth and size -/
structure Ok (d n : Nat) (x : PyData) : Prop where
  dep : x.depth ≤ d
  wt : wt x ≤ n
  lay : x.canLay0 = true
  shw : x.showable = true
theorem Ok.mono {d n d' n' : Nat} {x : PyData} (h : Ok d n x) (hd : d ≤ d' := by omega) (hn : n ≤ n' := by omega) : Ok d' n' x := ⟨Nat.le_trans h.dep hd, Nat.le_trans h.wt hn, h.lay, h.shw⟩
theorem ok_none : Ok 0 1921 .none := ⟨by simp [PyData.depth], by simp [Ev.wt], by simp [PyData.canLay0], by simp [PyData.showable]⟩
theorem ok_bool {b : Bool} : Ok 0 1921 (.bool b) := ⟨by simp [PyData.depth], by simp [Ev.wt], by simp [PyData.canLay0], by simp [PyData.showable]⟩
theorem log2_lt {i : Int} {k : Nat} (h : i.natAbs < 2 ^ k) (hk : 0 < k) : i.natAbs.log2 < k := by
  by_cases h0 : i.natAbs = 0
  · rw [h0]
    simpa using hk
  · exact (Nat.log2_lt h0).mpr h
theorem ok_int {i : Int} (h : i.natAbs < 2 ^ 1920) : Ok 0 1921 (.int i) := ⟨by simp [PyData.depth], by simp [Ev.wt], by simp [PyData.canLay0], by simp only [PyData.showable, decide_eq_true_eq]; exact log2_lt h (by decide)⟩
theorem ok_str {x : Str} (h : PyData.strOk x = true) : Ok 0 (10 * x.length + 2) (.str x) := ⟨by simp [PyData.depth], by simp [Ev.wt], by simpa [PyData.canLay0] using h, by simp [PyData.showable]⟩
/-- all of a list -/
structure Oks (d n : Nat) (xs : List PyData) : Prop where
  dep : PyData.depthAll xs ≤ d
  wt : wts xs ≤ n
  lay : PyData.canLayAll0 xs = true
  shw : PyData.showableAll xs = true
theorem oks_nil {d n : Nat} : Oks d n [] := ⟨by simp [PyData.depthAll], by simp [wts], by simp [PyData.canLayAll0], by simp [PyData.showableAll]⟩
theorem oks_cons {d n m k : Nat} {x : PyData} {xs : List PyData} (h : Ok d n x) (t : Oks d m xs) (hk : n + 2 + m ≤ k := by omega) : Oks d k (x :: xs) :=
  ⟨by simp only [PyData.depthAll]; exact Nat.max_le.mpr ⟨h.dep, t.dep⟩, by simp only [wts]; have := h.wt; have := t.wt; omega, by simp [PyData.canLayAll0, h.lay, t.lay], by simp [PyData.showableAll, h.shw, t.shw]⟩
theorem oks_all {d n : Nat} : ∀ {xs : List PyData}, (∀ x ∈ xs, Ok d n x) → Oks d (xs.length * (n + 2)) xs
  | [], _ => oks_nil
  | x :: xs, h => by
    refine oks_cons (h x List.mem_cons_self) (oks_all fun y hy => h y (List.mem_cons_of_mem _ hy)) ?_
    rw [List.length_cons, Nat.add_mul]
    omega
theorem Oks.of {d n m k : Nat} {xs : List PyData} (h : ∀ x ∈ xs, Ok d n x) (hl : xs.length ≤ m) (hk : m * (n + 2) ≤ k := by omega) : Oks d k xs := by
  have z := oks_all h
  have e : xs.length * (n + 2) ≤ m * (n + 2) := Nat.mul_le_mul_right _ hl
  exact ⟨z.dep, Nat.le_trans z.wt (Nat.le_trans e hk), z.lay, z.shw⟩
theorem ok_tuple {d n d' n' : Nat} {xs : List PyData} (h : Oks d n xs) (hd : d + 1 ≤ d' := by omega) (hn : n + 3 ≤ n' := by omega) : Ok d' n' (.tuple xs) :=
  ⟨by simp only [PyData.depth]; have := h.dep; omega, by simp only [Ev.wt]; have := h.wt; omega, by simp [PyData.canLay0, h.lay], by simp [PyData.showable, h.shw]⟩
theorem ok_list {d n d' n' : Nat} {xs : List PyData} (h : Oks d n xs) (hd : d + 1 ≤ d' := by omega) (hn : n + 3 ≤ n' := by omega) : Ok d' n' (.list xs) :=
  ⟨by simp only [PyData.depth]; have := h.dep; omega, by simp only [Ev.wt]; have := h.wt; omega, by simp [PyData.canLay0, h.lay], by simp [PyData.showable, h.shw]⟩
theorem Ok.shaped {d n : Nat} {x : PyData} (h : Ok d n x) (hd : d ≤ 64 := by omega) : SeqAt.shaped x = true := by
  unfold SeqAt.shaped
  rw [Bool.and_eq_true]
  exact ⟨h.lay, decide_eq_true (Nat.le_trans h.dep hd)⟩
theorem Ok.repr {d n : Nat} {x : PyData} (h : Ok d n x) {st : Store} {r : R} (hr : asD r st = some x) (hd : d ≤ 64 := by omega) (hn : n ≤ 16777216 := by omega) : reprK st r = .ok (.d (.str x.shown)) st := by
  unfold reprK
  rw [hr]
  dsimp only
  have e : x.shown.length ≤ sizeLine := by
    rw [sizeLine_eq]
    exact Nat.le_trans (shown_wt x h.shw h.lay) (Nat.le_trans h.wt hn)
  have e2 : x.depth ≤ 64 := Nat.le_trans h.dep hd
  rw [if_pos]
  simp [h.shw, e, e2]
theorem Oks.mem {d n : Nat} : ∀ {xs : List PyData}, Oks d n xs → ∀ x ∈ xs, Ok d n x
  | [], _, x, hx => by cases hx
  | y :: xs, h, x, hx => by
    have h1 := h.dep
    have h2 := h.wt
    have h3 := h.lay
    have h4 := h.shw
    simp only [PyData.depthAll, wts, PyData.canLayAll0, PyData.showableAll, Bool.and_eq_true] at h1 h2 h3 h4
    have hy : Ok d n y := ⟨by omega, by omega, h3.1, h4.1⟩
    rcases List.mem_cons.mp hx with e | e
    · rw [e]; exact hy
    · exact Oks.mem (xs := xs) ⟨by omega, by omega, h3.2, h4.2⟩ x e
end Ev
set_option maxHeartbeats 1000000
/-! The same, by the constructors of values. -/
namespace Ev
open PySem
section
variable {C : Ctx} {F : FEv} {st : Store} {Q : R → Store → Prop} {X : Nat → PyData → Store → Prop} {P : R → Prop} {B : Bool → Prop} {D : PyData → Prop} {i j : Int} {a b : Str} {xs ys : List PyData} {x y : PyData} {c : Bool} {k : Nat} {rs : List R}
theorem b_add : bopW .add (.d (.int i)) (.d (.int j)) P = P (.d (.int (i + j))) := nr rfl
theorem b_sub : bopW .sub (.d (.int i)) (.d (.int j)) P = P (.d (.int (i - j))) := nr rfl
theorem bopW_if {o : Bop} {x y z : PyData} {p : Prop} [Decidable p] (e : bopD o x y = if p then some z else none) : bopW o (.d x) (.d y) P = (p ∧ P (.d z)) := by
  unfold bopW
  dsimp only
  rw [e]
  by_cases h : p
  · rw [if_pos h]
    simp [h]
  · rw [if_neg h]
    simp [h]
theorem cmpW_if {o : Cop} {x y : PyData} {z : Bool} {p : Prop} [Decidable p] (e : cmpD o x y = if p then some z else none) : cmpW o (.d x) (.d y) st B = (p ∧ B z) := by
  show (match cmpD o x y with | some z => B z | none => False) = _
  rw [e]
  by_cases h : p
  · rw [if_pos h]
    simp [h]
  · rw [if_neg h]
    simp [h]
theorem b_mul : bopW .mul (.d (.int i)) (.d (.int j)) P = (mulOk i j = true ∧ P (.d (.int (i * j)))) := bopW_if rfl
theorem b_fdiv : bopW .fdiv (.d (.int i)) (.d (.int j)) P = (divOk j = true ∧ P (.d (.int (i / j)))) := bopW_if rfl
theorem b_mod : bopW .mod (.d (.int i)) (.d (.int j)) P = (0 < j ∧ P (.d (.int (i % j)))) := bopW_if rfl
theorem b_pow : bopW .pow (.d (.int i)) (.d (.int j)) P = (powOk i j = true ∧ P (.d (.int (i ^ j.toNat)))) := bopW_if rfl
theorem b_adds : bopW .add (.d (.str a)) (.d (.str b)) P = (a.length + b.length ≤ sizeLine ∧ P (.d (.str (a ++ b)))) := bopW_if rfl
theorem b_addt : bopW .add (.d (.tuple xs)) (.d (.tuple ys)) P = (xs.length + ys.length ≤ sizeLine ∧ P (.d (.tuple (xs ++ ys)))) := bopW_if rfl
theorem b_addl : bopW .add (.d (.list xs)) (.d (.list ys)) P = (xs.length + ys.length ≤ sizeLine ∧ P (.d (.list (xs ++ ys)))) := bopW_if rfl
theorem b_mult : bopW .mul (.d (.tuple xs)) (.d (.int j)) P = ((0 < xs.length ∧ 2 ≤ j ∧ j ≤ 1000 ∧ xs.length ≤ 1000) ∧ P (.d (.tuple (List.replicate j.toNat xs).flatten))) := bopW_if rfl
theorem t_bool : truthW (.d (.bool c)) st B = B c := nr rfl
theorem t_int : truthW (.d (.int i)) st B = B (decide (i ≠ 0)) := nr rfl
theorem t_none : truthW (.d .none) st B = B false := nr rfl
theorem t_list : truthW (.d (.list xs)) st B = B !xs.isEmpty := nr rfl
theorem t_tuple : truthW (.d (.tuple xs)) st B = B !xs.isEmpty := nr rfl
theorem t_cell (h : st[k]? = some (.lst rs)) : truthW (.c k) st B = B !rs.isEmpty := by
  show (match (match st[k]? with | some (.lst xs) => some !xs.isEmpty | _ => none) with | some b => B b | none => False) = _
  rw [h]
theorem c_int {o : Cop} : cmpW o (.d (.int i)) (.d (.int j)) st B = B (cmpI o i j) := nr rfl
theorem c_str_eq : cmpW .eq (.d (.str a)) (.d (.str b)) st B = B (decide (a = b)) := nr rfl
theorem c_str_ne : cmpW .ne (.d (.str a)) (.d (.str b)) st B = B (!decide (a = b)) := nr rfl
theorem c_list_eq : cmpW .eq (.d (.list xs)) (.d (.list ys)) st B = ((SeqAt.shaped (.list xs) && SeqAt.shaped (.list ys)) = true ∧ B (PyData.eqv (.list xs) (.list ys))) := cmpW_if rfl
theorem c_list_ne : cmpW .ne (.d (.list xs)) (.d (.list ys)) st B = ((SeqAt.shaped (.list xs) && SeqAt.shaped (.list ys)) = true ∧ B !(PyData.eqv (.list xs) (.list ys))) := cmpW_if rfl
theorem c_tup_eq : cmpW .eq (.d (.tuple xs)) (.d (.tuple ys)) st B = ((SeqAt.shaped (.tuple xs) && SeqAt.shaped (.tuple ys)) = true ∧ B (PyData.eqv (.tuple xs) (.tuple ys))) := cmpW_if rfl
theorem c_tup_ne : cmpW .ne (.d (.tuple xs)) (.d (.tuple ys)) st B = ((SeqAt.shaped (.tuple xs) && SeqAt.shaped (.tuple ys)) = true ∧ B !(PyData.eqv (.tuple xs) (.tuple ys))) := cmpW_if rfl
theorem i_eq : cmpI .eq i j = decide (i = j) := nr rfl
theorem i_ne : cmpI .ne i j = !decide (i = j) := nr rfl
theorem i_lt : cmpI .lt i j = decide (i < j) := nr rfl
theorem i_le : cmpI .le i j = decide (i ≤ j) := nr rfl
theorem i_gt : cmpI .gt i j = decide (j < i) := nr rfl
theorem i_ge : cmpI .ge i j = decide (j ≤ i) := nr rfl
theorem n_int : negW (.d (.int i)) P = P (.d (.int (-i))) := nr rfl
theorem bool_d : boolW (.d (.bool c)) B = B c := nr rfl
theorem int_d {I : Int → Prop} : intW (.d (.int i)) I = I i := nr rfl
theorem dat_d : datW (.d x) D = D x := nr rfl
theorem isn_none : isnW c (.d .none) B = B c := nr rfl
theorem isn_bool {e : Bool} : isnW c (.d (.bool e)) B = B !c := nr rfl
theorem isn_int : isnW c (.d (.int i)) B = B !c := nr rfl
theorem isn_str : isnW c (.d (.str a)) B = B !c := nr rfl
theorem isn_list : isnW c (.d (.list xs)) B = B !c := nr rfl
theorem isn_tuple : isnW c (.d (.tuple xs)) B = B !c := nr rfl
theorem isn_cell : isnW c (.c k) B = B !c := nr rfl
theorem atI_map {α β : Type} {f : α → β} {l : List α} {i : Int} : L2.atI (l.map f) i = (L2.atI l i).map f := by
  unfold L2.atI
  rw [List.length_map]
  cases L2.ixN l.length i with
  | none => rfl
  | some j => simp [List.getElem?_map]
theorem ix_tuple : ixW (.d (.tuple xs)) (.d (.int i)) st P = optW (L2.atI xs i) fun x => P (.d x) := by
  show (match L2.atI (xs.map R.d) i with | some r => P r | none => False) = _
  rw [atI_map]
  cases L2.atI xs i <;> rfl
theorem ix_list : ixW (.d (.list xs)) (.d (.int i)) st P = optW (L2.atI xs i) fun x => P (.d x) := by
  show (match L2.atI (xs.map R.d) i with | some r => P r | none => False) = _
  rw [atI_map]
  cases L2.atI xs i <;> rfl
theorem ix_script {ns : List Int} : ixW (.s ns) (.d (.int i)) st P = optW (L2.atI ns i) fun x => P (.d (.int x)) := by
  show (match L2.atI (ns.map fun i => R.d (.int i)) i with | some r => P r | none => False) = _
  rw [atI_map]
  cases L2.atI ns i <;> rfl
/-- the items of a cell -/
def cellW (o : Option Cell) (P : List R → Prop) : Prop := match o with
  | some (.lst xs) => P xs
  | _ => False
theorem cell_lst {P : List R → Prop} : cellW (some (.lst rs)) P = P rs := nr rfl
theorem ix_cell : ixW (.c k) (.d (.int i)) st P = cellW st[k]? fun rs => optW (L2.atI rs i) P := by
  show (match (match (match st[k]? with | some (.lst xs) => some xs | _ => none) with | some xs => L2.atI xs i | none => none) with | some r => P r | none => False) = _
  cases st[k]? with
  | none => rfl
  | some q => cases q with
    | dead => rfl
    | lst ys =>
      show (match L2.atI ys i with | some r => P r | none => False) = optW (L2.atI ys i) P
      cases L2.atI ys i <;> rfl
theorem sl_tuple {l h : Option Int} : slW (.d (.tuple xs)) l h P = P (.d (.tuple (cutR xs l h))) := nr rfl
theorem sl_list {l h : Option Int} : slW (.d (.list xs)) l h P = P (.d (.list (cutR xs l h))) := nr rfl
theorem cb_d {p : Prop} : cbW (.d x) p = p := nr rfl
theorem cb_c {p : Prop} : cbW (.c k) p = p := nr rfl
theorem cb_s {p : Prop} {ns : List Int} : cbW (.s ns) p = p := nr rfl
theorem cbl_d {p : Prop} : cblW (.d x) p = p := nr rfl
theorem cbl_c {p : Prop} : cblW (.c k) p = p := nr rfl
theorem cbl_s {p : Prop} {ns : List Int} : cblW (.s ns) p = p := nr rfl
theorem cbl_l {p : Prop} {e : IE} {env : Env} : cblW (.lam e env) p = p := nr rfl
theorem nl_d {p : Prop} : nlW (.d x) p = p := nr rfl
theorem nl_c {p : Prop} : nlW (.c k) p = p := nr rfl
theorem nl_s {p : Prop} {ns : List Int} : nlW (.s ns) p = p := nr rfl
theorem slot_r {r : R} : slotW (some (some r)) P = P r := nr rfl
theorem lam_l {e : IE} {env : Env} {p : IE → Env → Prop} : lamW (.lam e env) p = p e env := nr rfl
theorem exc_x {p : Nat → PyData → Prop} : excW (.x k x) p = p k x := nr rfl
theorem opt_s {α : Type} {z : α} {p : α → Prop} : optW (some z) p = p z := nr rfl
theorem tup_w : tupW rs P = optW (allD rs) fun ds => ds.length ≤ sizeLine ∧ P (.d (.tuple ds)) := by
  unfold tupW
  cases allD rs <;> rfl
theorem nw_w : (newList false rs st).wp Q X = optW (allD rs) fun ds => rs.length ≤ sizeLine ∧ Q (.d (.list ds)) st := by
  unfold newList
  by_cases hl : rs.length ≤ sizeLine
  · rw [if_pos hl, if_neg (by decide)]
    cases allD rs with
    | none => rfl
    | some ds => exact propext ⟨fun z => ⟨hl, z⟩, fun z => z.2⟩
  · rw [if_neg hl]
    cases allD rs with
    | none => rfl
    | some ds => exact propext ⟨fun z => z.elim, fun z => hl z.1⟩
theorem tup_of {ds : List PyData} (h : allD rs = some ds) : tupW rs P = (ds.length ≤ sizeLine ∧ P (.d (.tuple ds))) := by unfold tupW; rw [h]
theorem allD_nil : allD [] = some [] := nr rfl
theorem allD_cons {rs : List R} : allD (.d x :: rs) = (allD rs).map (x :: ·) := nr rfl
theorem nw_data {ds : List PyData} (h : allD rs = some ds) : (newList false rs st).wp Q X = (rs.length ≤ sizeLine ∧ Q (.d (.list ds)) st) := by
  unfold newList
  by_cases hl : rs.length ≤ sizeLine
  · rw [if_pos hl, if_neg (by decide), h]
    simp [hl]
    rfl
  · rw [if_neg hl]
    exact propext ⟨fun z => z.elim, fun z => hl z.1⟩
theorem nw_cell : (newList true rs st).wp Q X = (rs.length ≤ sizeLine ∧ rs.all (isBelow st.length) = true ∧ Q (.c st.length) (st ++ [.lst rs])) := by
  unfold newList
  by_cases hl : rs.length ≤ sizeLine
  · rw [if_pos hl, if_pos rfl]
    by_cases hb : rs.all (isBelow st.length) = true
    · rw [if_pos hb]
      simp only [hl, hb, true_and]
      rfl
    · rw [if_neg hb]
      exact propext ⟨fun z => z.elim, fun z => hb z.2.1⟩
  · rw [if_neg hl]
    exact propext ⟨fun z => z.elim, fun z => hl z.1⟩
/-! ### built-ins -/
theorem bi_len_tuple {mt : Bool} : (biR .len mt [.d (.tuple xs)] st).wp Q X = Q (.d (.int xs.length)) st := by
  show Res.wp (match (items (.d (.tuple xs)) st).map (fun l : List R => l.length) with | some n => Res.ok (.d (.int n)) st | none => .bad) Q X = _
  simp [items, Res.wp]
theorem bi_len_list {mt : Bool} : (biR .len mt [.d (.list xs)] st).wp Q X = Q (.d (.int xs.length)) st := by
  show Res.wp (match (items (.d (.list xs)) st).map (fun l : List R => l.length) with | some n => Res.ok (.d (.int n)) st | none => .bad) Q X = _
  simp [items, Res.wp]
theorem bi_len_script {mt : Bool} {ns : List Int} : (biR .len mt [.s ns] st).wp Q X = Q (.d (.int ns.length)) st := by
  show Res.wp (match (items (.s ns) st).map (fun l : List R => l.length) with | some n => Res.ok (.d (.int n)) st | none => .bad) Q X = _
  simp [items, Res.wp]
theorem bi_len_cell {mt : Bool} : (biR .len mt [.c k] st).wp Q X = cellW st[k]? fun rs => Q (.d (.int rs.length)) st := by
  show Res.wp (match (match st[k]? with | some (.lst xs) => some xs | _ => (none : Option (List R))).map (fun l : List R => l.length) with | some n => Res.ok (.d (.int n)) st | none => .bad) Q X = _
  cases st[k]? with
  | none => rfl
  | some q => cases q <;> rfl
theorem bi_len_str {mt : Bool} : (biR .len mt [.d (.str a)] st).wp Q X = (a.length ≤ sizeLine ∧ Q (.d (.int a.length)) st) := by
  show Res.wp (match (if a.length ≤ sizeLine then some a.length else none) with | some n => Res.ok (.d (.int n)) st | none => .bad) Q X = _
  by_cases h : a.length ≤ sizeLine
  · rw [if_pos h]; simp [h, Res.wp]
  · rw [if_neg h]; simp [h, Res.wp]
theorem bi_int_int {mt : Bool} : (biR .int mt [.d (.int i)] st).wp Q X = Q (.d (.int i)) st := nr rfl
theorem bi_int_bool {mt : Bool} : (biR .int mt [.d (.bool c)] st).wp Q X = Q (.d (.int (if c then 1 else 0))) st := nr rfl
theorem bi_abs {mt : Bool} : (biR .abs mt [.d (.int i)] st).wp Q X = Q (.d (.int (if i < 0 then -i else i))) st := nr rfl
theorem bi_max {mt : Bool} : (biR .max2 mt [.d (.int i), .d (.int j)] st).wp Q X = Q (.d (.int (if j > i then j else i))) st := nr rfl
theorem bi_min {mt : Bool} : (biR .min2 mt [.d (.int i), .d (.int j)] st).wp Q X = Q (.d (.int (if j < i then j else i))) st := nr rfl
/-- isinstance of data -/
def tyD (t : Ty) : PyData → Bool
  | .none => false
  | .bool _ => t == .int || t == .bool
  | .int _ => t == .int
  | .str _ => t == .str
  | .list _ => t == .list
  | .tuple _ => t == .tuple
  | .dict _ => false
def isDict : PyData → Bool
  | .dict _ => true
  | _ => false
theorem bi_isi {mt : Bool} {t : Ty} (h : isDict x = false) : (biR (.isi t) mt [.d x] st).wp Q X = Q (.d (.bool (tyD t x))) st := by
  cases x <;> first | rfl | (simp [isDict] at h)
theorem isi_int_none {mt : Bool} : (biR (.isi .int) mt [.d .none] st).wp Q X = Q (.d (.bool false)) st := nr rfl
theorem isi_int_bool {mt : Bool} : (biR (.isi .int) mt [.d (.bool c)] st).wp Q X = Q (.d (.bool true)) st := nr rfl
theorem isi_int_int {mt : Bool} : (biR (.isi .int) mt [.d (.int i)] st).wp Q X = Q (.d (.bool true)) st := nr rfl
theorem isi_int_str {mt : Bool} : (biR (.isi .int) mt [.d (.str a)] st).wp Q X = Q (.d (.bool false)) st := nr rfl
theorem isi_int_list {mt : Bool} : (biR (.isi .int) mt [.d (.list xs)] st).wp Q X = Q (.d (.bool false)) st := nr rfl
theorem isi_int_tuple {mt : Bool} : (biR (.isi .int) mt [.d (.tuple xs)] st).wp Q X = Q (.d (.bool false)) st := nr rfl
theorem isi_bool_none {mt : Bool} : (biR (.isi .bool) mt [.d .none] st).wp Q X = Q (.d (.bool false)) st := nr rfl
theorem isi_bool_bool {mt : Bool} : (biR (.isi .bool) mt [.d (.bool c)] st).wp Q X = Q (.d (.bool true)) st := nr rfl
theorem isi_bool_int {mt : Bool} : (biR (.isi .bool) mt [.d (.int i)] st).wp Q X = Q (.d (.bool false)) st := nr rfl
theorem isi_bool_str {mt : Bool} : (biR (.isi .bool) mt [.d (.str a)] st).wp Q X = Q (.d (.bool false)) st := nr rfl
theorem isi_bool_list {mt : Bool} : (biR (.isi .bool) mt [.d (.list xs)] st).wp Q X = Q (.d (.bool false)) st := nr rfl
theorem isi_bool_tuple {mt : Bool} : (biR (.isi .bool) mt [.d (.tuple xs)] st).wp Q X = Q (.d (.bool false)) st := nr rfl
theorem isi_str_none {mt : Bool} : (biR (.isi .str) mt [.d .none] st).wp Q X = Q (.d (.bool false)) st := nr rfl
theorem isi_str_bool {mt : Bool} : (biR (.isi .str) mt [.d (.bool c)] st).wp Q X = Q (.d (.bool false)) st := nr rfl
theorem isi_str_int {mt : Bool} : (biR (.isi .str) mt [.d (.int i)] st).wp Q X = Q (.d (.bool false)) st := nr rfl
theorem isi_str_str {mt : Bool} : (biR (.isi .str) mt [.d (.str a)] st).wp Q X = Q (.d (.bool true)) st := nr rfl
theorem isi_str_list {mt : Bool} : (biR (.isi .str) mt [.d (.list xs)] st).wp Q X = Q (.d (.bool false)) st := nr rfl
theorem isi_str_tuple {mt : Bool} : (biR (.isi .str) mt [.d (.tuple xs)] st).wp Q X = Q (.d (.bool false)) st := nr rfl
theorem isi_tuple_none {mt : Bool} : (biR (.isi .tuple) mt [.d .none] st).wp Q X = Q (.d (.bool false)) st := nr rfl
theorem isi_tuple_bool {mt : Bool} : (biR (.isi .tuple) mt [.d (.bool c)] st).wp Q X = Q (.d (.bool false)) st := nr rfl
theorem isi_tuple_int {mt : Bool} : (biR (.isi .tuple) mt [.d (.int i)] st).wp Q X = Q (.d (.bool false)) st := nr rfl
theorem isi_tuple_str {mt : Bool} : (biR (.isi .tuple) mt [.d (.str a)] st).wp Q X = Q (.d (.bool false)) st := nr rfl
theorem isi_tuple_list {mt : Bool} : (biR (.isi .tuple) mt [.d (.list xs)] st).wp Q X = Q (.d (.bool false)) st := nr rfl
theorem isi_tuple_tuple {mt : Bool} : (biR (.isi .tuple) mt [.d (.tuple xs)] st).wp Q X = Q (.d (.bool true)) st := nr rfl
theorem isi_list_none {mt : Bool} : (biR (.isi .list) mt [.d .none] st).wp Q X = Q (.d (.bool false)) st := nr rfl
theorem isi_list_bool {mt : Bool} : (biR (.isi .list) mt [.d (.bool c)] st).wp Q X = Q (.d (.bool false)) st := nr rfl
theorem isi_list_int {mt : Bool} : (biR (.isi .list) mt [.d (.int i)] st).wp Q X = Q (.d (.bool false)) st := nr rfl
theorem isi_list_str {mt : Bool} : (biR (.isi .list) mt [.d (.str a)] st).wp Q X = Q (.d (.bool false)) st := nr rfl
theorem isi_list_list {mt : Bool} : (biR (.isi .list) mt [.d (.list xs)] st).wp Q X = Q (.d (.bool true)) st := nr rfl
theorem isi_list_tuple {mt : Bool} : (biR (.isi .list) mt [.d (.tuple xs)] st).wp Q X = Q (.d (.bool false)) st := nr rfl
theorem isi_int_cell {mt : Bool} : (biR (.isi .int) mt [.c k] st).wp Q X = cellW st[k]? fun _ => Q (.d (.bool false)) st := by
  show Res.wp (match (match st[k]? with | some (.lst _) => some (Ty.int == .list) | _ => none) with | some b => Res.ok (.d (.bool b)) st | none => .bad) Q X = _
  cases st[k]? with
  | none => rfl
  | some q => cases q <;> rfl
theorem isi_bool_cell {mt : Bool} : (biR (.isi .bool) mt [.c k] st).wp Q X = cellW st[k]? fun _ => Q (.d (.bool false)) st := by
  show Res.wp (match (match st[k]? with | some (.lst _) => some (Ty.bool == .list) | _ => none) with | some b => Res.ok (.d (.bool b)) st | none => .bad) Q X = _
  cases st[k]? with
  | none => rfl
  | some q => cases q <;> rfl
theorem isi_str_cell {mt : Bool} : (biR (.isi .str) mt [.c k] st).wp Q X = cellW st[k]? fun _ => Q (.d (.bool false)) st := by
  show Res.wp (match (match st[k]? with | some (.lst _) => some (Ty.str == .list) | _ => none) with | some b => Res.ok (.d (.bool b)) st | none => .bad) Q X = _
  cases st[k]? with
  | none => rfl
  | some q => cases q <;> rfl
theorem isi_tuple_cell {mt : Bool} : (biR (.isi .tuple) mt [.c k] st).wp Q X = cellW st[k]? fun _ => Q (.d (.bool false)) st := by
  show Res.wp (match (match st[k]? with | some (.lst _) => some (Ty.tuple == .list) | _ => none) with | some b => Res.ok (.d (.bool b)) st | none => .bad) Q X = _
  cases st[k]? with
  | none => rfl
  | some q => cases q <;> rfl
theorem isi_list_cell {mt : Bool} : (biR (.isi .list) mt [.c k] st).wp Q X = cellW st[k]? fun _ => Q (.d (.bool true)) st := by
  show Res.wp (match (match st[k]? with | some (.lst _) => some (Ty.list == .list) | _ => none) with | some b => Res.ok (.d (.bool b)) st | none => .bad) Q X = _
  cases st[k]? with
  | none => rfl
  | some q => cases q <;> rfl
theorem bi_tuple_list {mt : Bool} : (biR .tuple mt [.d (.list xs)] st).wp Q X = Q (.d (.tuple xs)) st := by
  have e : ∀ l : List PyData, allD (l.map R.d) = some l := by
    intro l
    induction l with
    | nil => rfl
    | cons y l ih => simp [allD, ih]
  show Res.wp (match allD (xs.map R.d) with | some ds => Res.ok (.d (.tuple ds)) st | none => .bad) Q X = _
  rw [e]
  rfl
theorem bi_list {mt : Bool} {r : R} (h : items r st = some rs) : (biR .list mt [r] st).wp Q X = (newList mt rs st).wp Q X := by
  show Res.wp (match items r st with | some xs => newList mt xs st | none => .bad) Q X = _
  rw [h]
theorem bi_lrng1 {mt : Bool} : (biR .lrng mt [.d (.int j)] st).wp Q X = ((inB j = true ∧ j.toNat ≤ 2 ^ 24) ∧ (newList mt (rngList 0 j.toNat) st).wp Q X) := by
  show Res.wp (if inB j = true ∧ j.toNat ≤ 2 ^ 24 then newList mt (rngList 0 j.toNat) st else .bad) Q X = _
  by_cases h : inB j = true ∧ j.toNat ≤ 2 ^ 24
  · rw [if_pos h]; simp only [h, true_and]
  · rw [if_neg h]; simp only [h, false_and]; rfl
theorem bi_lrng2 {mt : Bool} : (biR .lrng mt [.d (.int i), .d (.int j)] st).wp Q X = ((inB i = true ∧ inB j = true ∧ (j - i).toNat ≤ 2 ^ 24) ∧ (newList mt (rngList i (j - i).toNat) st).wp Q X) := by
  show Res.wp (if inB i = true ∧ inB j = true ∧ (j - i).toNat ≤ 2 ^ 24 then newList mt (rngList i (j - i).toNat) st else .bad) Q X = _
  by_cases h : inB i = true ∧ inB j = true ∧ (j - i).toNat ≤ 2 ^ 24
  · rw [if_pos h]; simp only [h, true_and]
  · rw [if_neg h]; simp only [h, false_and]; rfl
theorem bi_sum {mt : Bool} {ns : List Int} (h : allInts xs = some ns) : (biR .sum mt [.d (.list xs)] st).wp Q X = Q (.d (.int ns.sum)) st := by
  show Res.wp (match allInts xs with | some ns => Res.ok (.d (.int ns.sum)) st | none => .bad) Q X = _
  rw [h]
  rfl
theorem bi_repr {mt : Bool} {d n : Nat} (h : Ok d n x) (hd : d ≤ 64) (hn : n ≤ 16777216) : (biR .repr mt [.d x] st).wp Q X = Q (.d (.str x.shown)) st := by
  show Res.wp (reprK st (.d x)) Q X = _
  rw [h.repr rfl hd hn]
  rfl
/-! ### methods -/
theorem rv_cell {m : Me} (hm : m ≠ .join) : recvOk m (.c k) st = true ↔ ∃ rs, st[k]? = some (.lst rs) := by
  unfold recvOk
  cases m <;> first | (exact absurd rfl hm) | skip
  all_goals
    simp only
    cases st[k]? with
    | none => simp
    | some q => cases q <;> simp
theorem me_append {r : R} (h : st[k]? = some (.lst rs)) : (meR .append (.c k) [r] st).wp Q X = ((isBelow k r = true ∧ rs.length < sizeLine) ∧ Q (.d .none) (st.set k (.lst (rs ++ [r])))) := by
  show Res.wp (match st[k]? with | some (.lst xs) => (if isBelow k r = true ∧ xs.length < sizeLine then Res.ok (.d .none) (st.set k (.lst (xs ++ [r]))) else .bad) | _ => .bad) Q X = _
  rw [h]
  dsimp only
  by_cases g : isBelow k r = true ∧ rs.length < sizeLine
  · rw [if_pos g]; simp only [g, true_and]; rfl
  · rw [if_neg g]; simp only [g, false_and]; rfl
theorem me_extend (h : st[k]? = some (.lst rs)) : (meR .extend (.c k) [.d (.list ys)] st).wp Q X = (rs.length + ys.length ≤ sizeLine ∧ Q (.d .none) (st.set k (.lst (rs ++ ys.map R.d)))) := by
  show Res.wp (match st[k]? with | some (.lst xs) => (if xs.length + ys.length ≤ sizeLine then Res.ok (.d .none) (st.set k (.lst (xs ++ ys.map R.d))) else .bad) | _ => .bad) Q X = _
  rw [h]
  dsimp only
  by_cases g : rs.length + ys.length ≤ sizeLine
  · rw [if_pos g]; simp only [g, true_and]; rfl
  · rw [if_neg g]; simp only [g, false_and]; rfl
theorem me_pop (h : st[k]? = some (.lst rs)) : (meR .popAt (.c k) [.d (.int i)] st).wp Q X = ((0 ≤ i ∧ i < rs.length ∧ i < 2 ^ 62) ∧ optW rs[i.toNat]? fun y => Q y (st.set k (.lst (rs.eraseIdx i.toNat)))) := by
  show Res.wp (match st[k]? with | some (.lst xs) => (if 0 ≤ i ∧ i < xs.length ∧ i < 2 ^ 62 then (match xs[i.toNat]? with | some y => Res.ok y (st.set k (.lst (xs.eraseIdx i.toNat))) | none => .bad) else .bad) | _ => .bad) Q X = _
  rw [h]
  dsimp only
  by_cases g : 0 ≤ i ∧ i < rs.length ∧ i < 2 ^ 62
  · rw [if_pos g]
    simp only [g, true_and]
    cases rs[i.toNat]? <;> simp [optW, Res.wp]
  · rw [if_neg g]; simp only [g, false_and]; rfl
theorem fr_d : (freeze (.d x) st).wp Q X = Q (.d x) st := nr rfl
theorem fr_cell {ds : List PyData} (h : st[k]? = some (.lst rs)) (hd : allD rs = some ds) : (freeze (.c k) st).wp Q X = Q (.d (.list ds)) (st.set k .dead) := by
  show Res.wp (match st[k]? with | some (.lst xs) => (match allD xs with | some ds => Res.ok (.d (.list ds)) (st.set k .dead) | none => .bad) | _ => .bad) Q X = _
  rw [h]
  dsimp only
  rw [hd]
  rfl
theorem sx_cell {r : R} {S : Store → Prop} (h : st[k]? = some (.lst rs)) : setixW (.c k) (.d (.int i)) r st S = optW (L2.ixN rs.length i) fun n => isBelow k r = true ∧ S (st.set k (.lst (rs.set n r))) := by
  unfold setixW
  dsimp only
  rw [h]
  dsimp only
  cases L2.ixN rs.length i <;> rfl
theorem fr_c : (freeze (.c k) st).wp Q X = cellW st[k]? fun rs => optW (allD rs) fun ds => Q (.d (.list ds)) (st.set k .dead) := by
  show Res.wp (match st[k]? with | some (.lst xs) => (match allD xs with | some ds => Res.ok (.d (.list ds)) (st.set k .dead) | none => .bad) | _ => .bad) Q X = _
  cases st[k]? with
  | none => rfl
  | some q => cases q with
    | dead => rfl
    | lst rs =>
      show _ = optW (allD rs) _
      dsimp only
      cases allD rs <;> rfl
theorem sx_w {r : R} {S : Store → Prop} : setixW (.c k) (.d (.int i)) r st S = cellW st[k]? fun rs => optW (L2.ixN rs.length i) fun n => isBelow k r = true ∧ S (st.set k (.lst (rs.set n r))) := by
  cases e : st[k]? with
  | none => unfold setixW; dsimp only; rw [e]; rfl
  | some q => cases q with
    | dead => unfold setixW; dsimp only; rw [e]; rfl
    | lst rs => exact sx_cell e
theorem rv_append : (recvOk .append (.c k) st = true) = cellW st[k]? fun _ => True := by
  unfold recvOk
  simp only
  cases st[k]? with
  | none => simp [cellW]
  | some q => cases q <;> simp [cellW]
theorem rv_extend : (recvOk .extend (.c k) st = true) = cellW st[k]? fun _ => True := by
  unfold recvOk
  simp only
  cases st[k]? with
  | none => simp [cellW]
  | some q => cases q <;> simp [cellW]
theorem rv_pop : (recvOk .popAt (.c k) st = true) = cellW st[k]? fun _ => True := by
  unfold recvOk
  simp only
  cases st[k]? with
  | none => simp [cellW]
  | some q => cases q <;> simp [cellW]
theorem rv_join : (recvOk .join (.d (.str a)) st = true) = True := by simp [recvOk]
theorem ma_w {r : R} : (meR .append (.c k) [r] st).wp Q X = cellW st[k]? fun rs => (isBelow k r = true ∧ rs.length < sizeLine) ∧ Q (.d .none) (st.set k (.lst (rs ++ [r]))) := by
  cases e : st[k]? with
  | none => show Res.wp (match st[k]? with | some (.lst xs) => _ | _ => .bad) Q X = _; rw [e]; rfl
  | some q => cases q with
    | dead => show Res.wp (match st[k]? with | some (.lst xs) => _ | _ => .bad) Q X = _; rw [e]; rfl
    | lst rs => exact me_append e
theorem mx_w : (meR .extend (.c k) [.d (.list ys)] st).wp Q X = cellW st[k]? fun rs => rs.length + ys.length ≤ sizeLine ∧ Q (.d .none) (st.set k (.lst (rs ++ ys.map R.d))) := by
  cases e : st[k]? with
  | none => show Res.wp (match st[k]? with | some (.lst xs) => _ | _ => .bad) Q X = _; rw [e]; rfl
  | some q => cases q with
    | dead => show Res.wp (match st[k]? with | some (.lst xs) => _ | _ => .bad) Q X = _; rw [e]; rfl
    | lst rs => exact me_extend e
theorem mp_w : (meR .popAt (.c k) [.d (.int i)] st).wp Q X = cellW st[k]? fun rs => (0 ≤ i ∧ i < rs.length ∧ i < 2 ^ 62) ∧ optW rs[i.toNat]? fun y => Q y (st.set k (.lst (rs.eraseIdx i.toNat))) := by
  cases e : st[k]? with
  | none => show Res.wp (match st[k]? with | some (.lst xs) => _ | _ => .bad) Q X = _; rw [e]; rfl
  | some q => cases q with
    | dead => show Res.wp (match st[k]? with | some (.lst xs) => _ | _ => .bad) Q X = _; rw [e]; rfl
    | lst rs => exact me_pop e
theorem isB_d : isBelow k (.d x) = true := nr rfl
theorem isB_c {n : Nat} : (isBelow k (.c n) = true) = (n < k) := by simp [isBelow]
theorem at_nat {α : Type} {l : List α} {n : Nat} : L2.atI l (n : Int) = l[n]? := by
  unfold L2.atI L2.ixN
  rw [if_pos (by omega)]
  by_cases h : n < l.length
  · rw [if_pos (by omega)]
    simp
  · rw [if_neg (by omega), List.getElem?_eq_none (by omega)]
    rfl
theorem at_0 {α : Type} {x : α} {l : List α} : L2.atI (x :: l) 0 = some x := at_nat (n := 0)
theorem at_1 {α : Type} {x y : α} {l : List α} : L2.atI (x :: y :: l) 1 = some y := at_nat (n := 1)
theorem at_2 {α : Type} {x y z : α} {l : List α} : L2.atI (x :: y :: z :: l) 2 = some z := at_nat (n := 2)
theorem xn_30 : L2.ixN 3 0 = some 0 := nr rfl
theorem xn_31 : L2.ixN 3 1 = some 1 := nr rfl
theorem xn_32 : L2.ixN 3 2 = some 2 := nr rfl
theorem pk_6 : powOk 10 6 = true := by decide
theorem pk_9 : powOk 10 9 = true := by decide
theorem pk_12 : powOk 10 12 = true := by decide
theorem pk_18 : powOk 10 18 = true := by decide
theorem pk_20 : powOk 10 20 = true := by decide
theorem pk_30 : powOk 10 30 = true := by decide
theorem pk_40 : powOk 10 40 = true := by decide
theorem pk_50 : powOk 10 50 = true := by decide
theorem pk_60 : powOk 10 60 = true := by decide
theorem pk_100 : powOk 10 100 = true := by decide
theorem tn_6 : Int.toNat 6 = 6 := nr rfl
theorem tn_9 : Int.toNat 9 = 9 := nr rfl
theorem tn_12 : Int.toNat 12 = 12 := nr rfl
theorem tn_18 : Int.toNat 18 = 18 := nr rfl
theorem tn_20 : Int.toNat 20 = 20 := nr rfl
theorem tn_30 : Int.toNat 30 = 30 := nr rfl
theorem tn_40 : Int.toNat 40 = 40 := nr rfl
theorem tn_50 : Int.toNat 50 = 50 := nr rfl
theorem tn_60 : Int.toNat 60 = 60 := nr rfl
theorem tn_100 : Int.toNat 100 = 100 := nr rfl
theorem rt_d : retW k (.d x) st Q = Q (.d x) (st.take k) := nr rfl
theorem rt_c {n : Nat} : retW n (.c k) st Q = Q (.c k) st := nr rfl
/-! ### walks -/
theorem wk_list : walks .seq [.d (.list xs)] st = some (xs.map R.d) := nr rfl
theorem wk_tuple : walks .seq [.d (.tuple xs)] st = some (xs.map R.d) := nr rfl
theorem wk_rng1 : walks .rng [.d (.int j)] st = (if inB j then some (rngList 0 j.toNat) else none) := nr rfl
theorem wk_rng2 : walks .rng [.d (.int i), .d (.int j)] st = (if inB i && inB j then some (rngList i (j - i).toNat) else none) := nr rfl
end
end Ev
set_option maxHeartbeats 1000000
/-! Loops and comprehensions by an invariant. -/
namespace Ev
open PySem
theorem allD_map2 : ∀ xs : List PyData, allD (xs.map R.d) = some xs
  | [] => rfl
  | x :: xs => by simp [allD, allD_map2 xs]
theorem bl_tuple {xs : List PyData} {st : Store} {Q : R → Store → Prop} {X : Nat → PyData → Store → Prop} : (biR .list false [.d (.tuple xs)] st).wp Q X = (xs.length ≤ sizeLine ∧ Q (.d (.list xs)) st) := by
  rw [bi_list (rs := xs.map R.d) rfl, nw_w, allD_map2, opt_s, List.length_map]
theorem bl_list {xs : List PyData} {st : Store} {Q : R → Store → Prop} {X : Nat → PyData → Store → Prop} : (biR .list false [.d (.list xs)] st).wp Q X = (xs.length ≤ sizeLine ∧ Q (.d (.list xs)) st) := by
  rw [bi_list (rs := xs.map R.d) rfl, nw_w, allD_map2, opt_s, List.length_map]
theorem trim_same {n : Nat} {env : Env} {st : Store} (h : st.length ≤ n) : trim n env st = (env, st) := if_pos h
theorem forL_wp {same : Store → Bool} {n : Nat} {body : R → Env → Store → Out} {D : OQ} {xs : List R} (I : Nat → Env → Store → Prop) (hs : ∀ i env st, I i env st → same st = true) (he : ∀ env st, I xs.length env st → D.nx env st)
    (step : ∀ i x env st, xs[i]? = some x → I i env st → (body x env st).wp ⟨fun env st => I (i + 1) (trim n env st).1 (trim n env st).2, D.rt, fun env st => D.nx (trim n env st).1 (trim n env st).2, fun env st => I (i + 1) (trim n env st).1 (trim n env st).2, D.ex⟩) :
    ∀ {env : Env} {st : Store}, I 0 env st → (forL same n body xs env st).wp D := by
  have key : ∀ (ys : List R) (i : Nat) (env : Env) (st : Store), xs.drop i = ys → i ≤ xs.length → I i env st → (forL same n body ys env st).wp D := by
    intro ys
    induction ys with
    | nil =>
      intro i env st e hi h
      have : i = xs.length := by
        have := congrArg List.length e
        simp at this
        omega
      subst this
      unfold forL
      rw [if_pos (hs _ _ _ h)]
      exact he env st h
    | cons y ys ih =>
      intro i env st e hi h
      have hl : i < xs.length := by
        have := congrArg List.length e
        simp at this
        omega
      have hy : xs[i]? = some y := by
        have := congrArg (fun l => l[0]?) e
        simpa using this
      have e2 : xs.drop (i + 1) = ys := by
        have := congrArg List.tail e
        simpa using this
      unfold forL
      rw [if_pos (hs _ _ _ h)]
      have z := step i y env st hy h
      cases q : body y env st with
      | nx env' st' => rw [q] at z; exact ih (i + 1) _ _ e2 hl z
      | cnt env' st' => rw [q] at z; exact ih (i + 1) _ _ e2 hl z
      | brk env' st' => rw [q] at z; exact z
      | ret r st' => rw [q] at z; exact z
      | exc c w env' st' => rw [q] at z; exact z
      | bad => rw [q] at z; exact z.elim
  intro env st h
  exact key xs 0 env st (by simp) (Nat.zero_le _) h
/-- a comprehension: what it made so far are the data ds, laid as the last cell of the store -/
theorem comp_wp {same : Store → Bool} {n : Nat} {body : R → Store → Res (Option R)} {Q : R → Store → Prop} {X : Nat → PyData → Store → Prop} {xs : List R} (I : Nat → List PyData → Store → Prop) (hl : xs.length ≤ sizeLine)
    (hs : ∀ i ds st, I i ds st → st.length = n → same (st ++ [.lst (ds.map R.d)]) = true) (he : ∀ ds st, I xs.length ds st → st.length = n → Q (.d (.list ds)) st)
    (step : ∀ i x ds st, xs[i]? = some x → I i ds st → st.length = n → (body x (st ++ [.lst (ds.map R.d)])).wp (fun o st1 => ∃ st', st1 = st' ++ [.lst (ds.map R.d)] ∧ st'.length = n ∧ (match o with | none => I (i + 1) ds st' | some y => ∃ d, y = .d d ∧ I (i + 1) (ds ++ [d]) st')) fun _ _ _ => False)
    {st : Store} (h0 : I 0 [] st) (hn : st.length = n) : (compL same n body xs (st ++ [.lst []])).wp (fun _ st' => (compEnd false n st').wp Q X) X := by
  have key : ∀ (ys : List R) (i : Nat) (ds : List PyData) (st : Store), xs.drop i = ys → i ≤ xs.length → ds.length ≤ i → I i ds st → st.length = n → (compL same n body ys (st ++ [.lst (ds.map R.d)])).wp (fun _ st' => (compEnd false n st').wp Q X) X := by
    intro ys
    induction ys with
    | nil =>
      intro i ds st e hi hd h hn
      have : i = xs.length := by
        have := congrArg List.length e
        simp at this
        omega
      subst this
      unfold compL
      rw [if_pos (hs _ _ _ h hn)]
      show (compEnd false n (st ++ [.lst (ds.map R.d)])).wp Q X
      unfold compEnd
      have e1 : (st ++ [Cell.lst (ds.map R.d)])[n]? = some (.lst (ds.map R.d)) := by rw [← hn]; simp
      have e2 : allD (ds.map R.d) = some ds := by
        clear hd h hs he step e1 hn e hi
        induction ds with
        | nil => rfl
        | cons d ds ih => simp [allD, ih]
      rw [if_neg (by decide), e1]
      dsimp only
      rw [e2]
      dsimp only
      rw [if_pos (by simp [hn])]
      have e3 : (st ++ [Cell.lst (ds.map R.d)]).take n = st := by rw [← hn]; simp
      rw [e3]
      exact he ds st h hn
    | cons y ys ih =>
      intro i ds st e hi hd h hn
      have hlt : i < xs.length := by
        have := congrArg List.length e
        simp at this
        omega
      have hy : xs[i]? = some y := by
        have := congrArg (fun l => l[0]?) e
        simpa using this
      have e2 : xs.drop (i + 1) = ys := by
        have := congrArg List.tail e
        simpa using this
      unfold compL
      rw [if_pos (hs _ _ _ h hn)]
      have z := step i y ds st hy h hn
      cases q : body y (st ++ [.lst (ds.map R.d)]) with
      | ok o st1 =>
        rw [q] at z
        obtain ⟨st', rfl, hn', z⟩ := z
        cases o with
        | none => exact ih (i + 1) ds st' e2 hlt (by omega) z hn'
        | some y =>
          obtain ⟨d, rfl, z⟩ := z
          have e1 : (st' ++ [Cell.lst (ds.map R.d)])[n]? = some (.lst (ds.map R.d)) := by rw [← hn']; simp
          have ea : addAt n (.d d) (st' ++ [Cell.lst (ds.map R.d)]) = some (st' ++ [.lst ((ds ++ [d]).map R.d)]) := by
            unfold addAt
            rw [e1]
            dsimp only
            rw [if_pos ⟨rfl, by rw [List.length_map]; omega⟩, ← hn']
            simp
          dsimp only
          rw [ea]
          exact ih (i + 1) (ds ++ [d]) st' e2 hlt (by simp; omega) z hn'
      | exc c w st1 => rw [q] at z; exact z.elim
      | bad => rw [q] at z; exact z.elim
  exact key xs 0 [] st (by simp) (Nat.zero_le _) (Nat.le_refl _) h0 hn
/-- a comprehension that changes nothing -/
theorem comp_pure {same : Store → Bool} {body : R → Store → Res (Option R)} {Q : R → Store → Prop} {X : Nat → PyData → Store → Prop} {xs : List R} {st : Store} (g : R → Option PyData) (hl : xs.length ≤ sizeLine)
    (hs : ∀ c, same (st ++ [c]) = true) (step : ∀ x ∈ xs, ∀ c, (body x (st ++ [c])).wp (fun o st1 => st1 = st ++ [c] ∧ o = (g x).map R.d) fun _ _ _ => False) (he : Q (.d (.list (xs.filterMap g))) st) :
    (compL same st.length body xs (st ++ [.lst []])).wp (fun _ st' => (compEnd false st.length st').wp Q X) X := by
  refine comp_wp (fun i ds s => s = st ∧ ds = (xs.take i).filterMap g) hl (fun i ds s ⟨e, _⟩ _ => by rw [e]; exact hs _) ?a ?b ⟨rfl, by simp⟩ rfl
  case a =>
    intro ds s ⟨e1, e2⟩ _
    rw [e1, e2, List.take_length]
    exact he
  case b =>
    intro i x ds s hx ⟨e1, e2⟩ hn
    subst e1 e2
    have hi : i < xs.length := (List.getElem?_eq_some_iff.mp hx).1
    refine Res.wp_mono1 (step x (List.mem_of_getElem? hx) _) fun o st1 h => ?_
    obtain ⟨h1, h2⟩ := h
    refine ⟨s, h1, rfl, ?_⟩
    have et : xs.take (i + 1) = xs.take i ++ [x] := by
      rw [List.take_add_one, hx]
      rfl
    rw [h2]
    cases hg : g x with
    | none => exact ⟨rfl, by rw [et, List.filterMap_append]; simp [hg]⟩
    | some d => exact ⟨d, rfl, rfl, by rw [et, List.filterMap_append]; simp [hg]⟩
/-- every element is made -/
theorem comp_map {same : Store → Bool} {body : R → Store → Res (Option R)} {Q : R → Store → Prop} {X : Nat → PyData → Store → Prop} {xs : List R} {st : Store} (g : R → PyData) (hl : xs.length ≤ sizeLine)
    (hs : ∀ c, same (st ++ [c]) = true) (step : ∀ x ∈ xs, ∀ c, (body x (st ++ [c])).wp (fun o st1 => st1 = st ++ [c] ∧ o = some (.d (g x))) fun _ _ _ => False) (he : Q (.d (.list (xs.map g))) st) :
    (compL same st.length body xs (st ++ [.lst []])).wp (fun _ st' => (compEnd false st.length st').wp Q X) X := by
  refine comp_pure (fun x => some (g x)) hl hs step ?_
  have e : xs.filterMap (fun x => some (g x)) = xs.map g := by simp
  rw [e]
  exact he
theorem compB_wp {v : Evs} {own : List Nat} {tg : Tg} {cond : Option IE} {elt : IE} {env : Env} {x : R} {st : Store} {Q : Option R → Store → Prop} {X : Nat → PyData → Store → Prop} : (compB v own tg cond elt env x st).wp Q X = optW (setTg tg x (wipe own env)) fun env' => match cond with
    | none => (v.E elt env' st).wp (fun r st => Q (some r) st) X
    | some c => (v.E c env' st).wp (fun r st => truthW r st fun b => if b = true then (v.E elt env' st).wp (fun r st => Q (some r) st) X else Q none st) X := by
  unfold compB
  cases setTg tg x (wipe own env) with
  | none => rfl
  | some env' =>
    cases cond with
    | none => exact Res.wp_bind
    | some c =>
      show Res.wp ((v.T c env' st).bind _) Q X = _
      rw [Res.wp_bind, wT]
      show _ = Res.wp _ _ X
      congr 1
      funext r st
      congr 1
      funext b
      cases b
      · rfl
      · exact Res.wp_bind
theorem forB_wp {v : Evs} {tg : Tg} {body : List IS} {x : R} {env : Env} {st : Store} {D : OQ} : (forB v tg body x env st).wp D = optW (setTg tg x env) fun env' => (v.S body env' st).wp D := by
  unfold forB
  cases setTg tg x env <;> rfl
theorem tg_nm {i : Nat} {r : R} {env : Env} : setTg (.nm i) r env = some (env.set i (some r)) := nr rfl
theorem tg_tp {is : List Nat} {xs : List PyData} {env : Env} : setTg (.tp is) (.d (.tuple xs)) env = setAll is xs env := nr rfl
theorem sa_nil {env : Env} : setAll [] [] env = some env := nr rfl
theorem sa_cons {i : Nat} {is : List Nat} {x : PyData} {xs : List PyData} {env : Env} : setAll (i :: is) (x :: xs) env = setAll is xs (env.set i (some (.d x))) := nr rfl
theorem same_d {x : PyData} {old st : Store} : same [.d x] old st = true := nr rfl
theorem same_dd {x y : PyData} {old st : Store} : same [.d x, .d y] old st = true := nr rfl
theorem same_s {ns : List Int} {old st : Store} : same [.s ns] old st = true := nr rfl
theorem get1 {st : Store} {a : Cell} : (st ++ [a])[st.length]? = some a := by simp
theorem set1 {st : Store} {a b : Cell} : (st ++ [a]).set st.length b = st ++ [b] := by simp
theorem mj_w {a : Str} {r : R} {st : Store} {Q : R → Store → Prop} {X : Nat → PyData → Store → Prop} : (meR .join (.d (.str a)) [r] st).wp Q X = optW (strsOf r st) fun ys => (ys.map (·.length)).sum + ys.length * a.length ≤ 16777216 ∧ Q (.d (.str (Txt.join a ys))) st := by
  show Res.wp (match strsOf r st with | some ys => (if (ys.map (·.length)).sum + ys.length * a.length ≤ 16777216 then Res.ok (.d (.str (Txt.join a ys))) st else .bad) | none => .bad) Q X = _
  cases strsOf r st with
  | none => rfl
  | some ys =>
    show Res.wp (if _ then _ else _) Q X = (_ ∧ _)
    by_cases h : (ys.map (·.length)).sum + ys.length * a.length ≤ 16777216
    · rw [if_pos h]
      exact propext ⟨fun z => ⟨h, z⟩, fun z => z.2⟩
    · rw [if_neg h]
      exact propext ⟨fun z => z.elim, fun z => h z.1⟩
theorem same_c {n : Nat} {xs : List R} {old st : Store} (h1 : old[n]? = some (.lst xs)) (h2 : st[n]? = some (.lst xs)) (h : beqRs xs xs = true) : same [.c n] old st = true := by
  show (sameAt old st (.c n) && true) = true
  rw [Bool.and_true]
  show (match old[n]?, st[n]? with | some (.lst xs), some (.lst ys) => beqRs xs ys | _, _ => false) = true
  rw [h1, h2]
  exact h
theorem wk_cell {n : Nat} {xs : List R} {st : Store} (h : st[n]? = some (.lst xs)) : walks .seq [.c n] st = some xs := by
  show (match st[n]? with | some (.lst xs) => some xs | _ => none) = _
  rw [h]
theorem wk_cellL {n : Nat} {xs : List R} {st : Store} (h : st[n]? = some (.lst xs)) : walks .seqL [.c n] st = some xs := by
  show (match st[n]? with | some (.lst xs) => some xs | _ => none) = _
  rw [h]
theorem wk1 {st : Store} {xs : List R} : walks .seq [.c st.length] (st ++ [.lst xs]) = some xs := wk_cell get1
theorem wk1L {st : Store} {xs : List R} : walks .seqL [.c st.length] (st ++ [.lst xs]) = some xs := wk_cellL get1
theorem rng_get {lo : Int} {n i : Nat} {x : R} (h : (rngList lo n)[i]? = some x) : x = .d (.int (lo + (i : Nat))) ∧ i < n := by
  unfold rngList at h
  rw [List.getElem?_map] at h
  cases e : (List.range n)[i]? with
  | none => rw [e] at h; cases h
  | some j =>
    rw [e] at h
    have hi : i < n := by
      have := (List.getElem?_eq_some_iff.mp e).1
      simpa using this
    have ej : j = i := by
      rw [List.getElem?_range hi] at e
      exact (Option.some.inj e).symm
    subst ej
    exact ⟨(Option.some.inj h).symm, hi⟩
theorem rng_len {lo : Int} {n : Nat} : (rngList lo n).length = n := by simp [rngList]
theorem rng_mem {lo : Int} {n : Nat} {x : R} (h : x ∈ rngList lo n) : ∃ i : Nat, i < n ∧ x = .d (.int (lo + (i : Nat))) := by
  unfold rngList at h
  obtain ⟨k, hk, e⟩ := List.mem_map.mp h
  exact ⟨k, by simpa using hk, e.symm⟩
end Ev
set_option maxHeartbeats 1000000
/-! The laws' own helpers: the pool of draws. -/
namespace Ev
open PySem
local macro_rules | `(tactic| walk_at "w") => `(tactic| simp only [↓wE_var, ↓wE_k, ↓wE_glob, ↓wE_tup, ↓wE_lst, ↓wE_bop, ↓wE_neg, ↓wE_not, ↓wE_and, ↓wE_or, ↓wE_cmp, ↓wE_isn, ↓wE_chain, ↓wE_ite, ↓wE_ix, ↓wE_sl, ↓wE_call, ↓wE_bi, ↓wE_isx, ↓wE_what, ↓wE_me, ↓wE_comp, ↓wE_clo, ↓wL_nil, ↓wL_cons, ↓wA_lam, ↓wA_var, ↓wA_k, ↓wA_glob, ↓wA_tup, ↓wA_lst, ↓wA_bop, ↓wA_neg, ↓wA_not, ↓wA_and, ↓wA_or, ↓wA_cmp, ↓wA_isn, ↓wA_chain, ↓wA_ite, ↓wA_ix, ↓wA_sl, ↓wA_call, ↓wA_bi, ↓wA_isx, ↓wA_me, ↓wA_comp, ↓wA_clo, ↓wA_what, ↓wS, ↓wS_nil, ↓wS_cons, ↓w_set, ↓w_par, ↓w_unp, ↓w_setix, ↓w_aug, ↓w_ex, ↓w_ite, ↓w_for, ↓w_ret, ↓w_retN, ↓w_brk, ↓w_cont, ↓w_pass, ↓w_raise, ↓w_try, ↓w_frz, ↓evOW_none, ↓evOW_some,
  ↓b_add, ↓b_sub, ↓b_mul, ↓b_fdiv, ↓b_mod, ↓b_pow, ↓b_adds, ↓b_addt, ↓b_addl, ↓b_mult, ↓t_bool, ↓t_int, ↓t_none, ↓t_list, ↓t_tuple, ↓c_int, ↓c_str_eq, ↓c_str_ne, ↓c_list_eq, ↓c_list_ne, ↓c_tup_eq, ↓c_tup_ne, ↓n_int, ↓bool_d, ↓int_d, ↓dat_d, ↓isn_none, ↓isn_bool, ↓isn_int, ↓isn_str, ↓isn_list, ↓isn_tuple, ↓isn_cell, ↓ix_tuple, ↓ix_list, ↓ix_script, ↓ix_cell, ↓cell_lst, ↓sl_tuple, ↓sl_list, ↓cb_d, ↓cb_c, ↓cb_s, ↓cbl_d, ↓cbl_c, ↓cbl_s, ↓cbl_l, ↓nl_d, ↓nl_c, ↓nl_s, ↓slot_r, ↓lam_l, ↓exc_x, ↓opt_s,
  ↓bi_len_tuple, ↓bi_len_list, ↓bi_len_script, ↓bi_len_cell, ↓bi_len_str, ↓bi_int_int, ↓bi_int_bool, ↓isi_int_none, ↓isi_int_bool, ↓isi_int_int, ↓isi_int_str, ↓isi_int_list, ↓isi_int_tuple, ↓isi_bool_none, ↓isi_bool_bool, ↓isi_bool_int, ↓isi_bool_str, ↓isi_bool_list, ↓isi_bool_tuple, ↓isi_str_none, ↓isi_str_bool, ↓isi_str_int, ↓isi_str_str, ↓isi_str_list, ↓isi_str_tuple, ↓isi_tuple_none, ↓isi_tuple_bool, ↓isi_tuple_int, ↓isi_tuple_str, ↓isi_tuple_list, ↓isi_tuple_tuple, ↓isi_list_none, ↓isi_list_bool, ↓isi_list_int, ↓isi_list_str, ↓isi_list_list, ↓isi_list_tuple, ↓isi_int_cell, ↓isi_bool_cell, ↓isi_str_cell, ↓isi_tuple_cell, ↓isi_list_cell, ↓bi_abs, ↓bi_max, ↓bi_min, ↓bi_tuple_list, ↓bi_lrng1, ↓bi_lrng2, ↓fr_d, ↓rt_d, ↓rt_c, ↓wk_list, ↓wk_tuple, ↓Res.wp_ok, ↓Res.wp_exc,
  ↓tup_w, ↓nw_w, ↓nw_cell, ↓fr_c, ↓sx_w, ↓rv_append, ↓rv_extend, ↓rv_pop, ↓rv_join, ↓ma_w, ↓mx_w, ↓mp_w, allD_nil, allD_cons, Option.map_some, isB_d, isB_c, at_0, at_1, at_2, xn_30, xn_31, xn_32, sizeLine_eq, Nat.reduceLeDiff, Int.reduceNeg, Int.reduceAdd, Int.reduceSub, Int.reduceMul, Int.reduceLE, Int.reduceLT, decide_true, decide_false, and_true, true_and, List.take_succ_cons, List.take_length, List.all_cons, List.all_nil, Bool.and_true, pk_6, pk_9, pk_12, pk_18, pk_20, pk_30, pk_40, pk_50, pk_60, pk_100, tn_6, tn_9, tn_12, tn_18, tn_20, tn_30, tn_40, tn_50, tn_60, tn_100, ↓bl_tuple, ↓bl_list, get1, set1, ↓wk1, ↓wk1L, ↓mj_w, i_eq, i_ne, i_lt, i_le, i_gt, i_ge, List.getElem?_cons_zero, List.getElem?_cons_succ, List.set_cons_zero, List.set_cons_succ, List.map_cons, List.map_nil, List.cons_append, List.nil_append, List.replicate_succ, List.replicate_zero, Nat.reduceSub, Nat.reduceAdd, List.length_cons, List.length_nil, List.zip_cons_cons, List.zip_nil_left, List.foldl_cons, List.foldl_nil, ↓reduceIte, decide_eq_true_eq, Bool.not_eq_true', decide_eq_false_iff_not, Bool.false_eq_true, Bool.true_eq_false, if_true, if_false, Bool.not_true, Bool.not_false])
/-- the pool's cell -/
abbrev J (a b c : Int) : Cell := .lst [.d (.int a), .d (.int b), .d (.int c)]
/-- the store: the pool, at most k draws made, then t -/
def JS (k : Nat) (t st : Store) : Prop := ∃ a b c : Int, st = J a b c :: t ∧ 0 ≤ a ∧ a < 10 ^ 200 ∧ 0 ≤ b ∧ b < 2147483647 ∧ 0 ≤ c ∧ c ≤ k
theorem mul_ok {i j : Int} {m n : Nat} (hi : i.natAbs < 2 ^ m) (hj : j.natAbs < 2 ^ n) (h : m + n < 1000000) : mulOk i j = true := by
  have key : ∀ (z : Int) (k : Nat), z.natAbs < 2 ^ k → z.natAbs.log2 ≤ k := fun z k hz => by
    by_cases h0 : z.natAbs = 0
    · rw [h0]; simp
    · exact Nat.le_of_lt ((Nat.log2_lt h0).mpr hz)
  unfold mulOk
  have := key i m hi
  have := key j n hj
  exact decide_eq_true (by omega)
theorem div_ok {j : Int} (h : 0 < j) (h2 : j.natAbs < 2 ^ 8999) : divOk j = true := by
  unfold divOk
  exact decide_eq_true ⟨h, Nat.lt_of_le_of_lt (Nat.le_of_lt ((Nat.log2_lt (by omega)).mpr h2)) (by decide)⟩
theorem pow_lt {n : Nat} {k m : Nat} (h : n < 2 ^ k) (hk : k ≤ m) : n < 2 ^ m := Nat.lt_of_lt_of_le h (Nat.pow_le_pow_right (by decide) hk)
theorem JS.len {k : Nat} {t st : Store} (h : JS k t st) : st.length = t.length + 1 := by
  obtain ⟨a, b, c, rfl, _⟩ := h
  rfl
theorem JS.mono {k k' : Nat} {t st : Store} (h : JS k t st) (hk : k ≤ k' := by omega) : JS k' t st := by
  obtain ⟨a, b, c, e, h1, h2, h3, h4, h5, h6⟩ := h
  exact ⟨a, b, c, e, h1, h2, h3, h4, h5, by omega⟩
theorem JS.take {k : Nat} {t st : Store} (h : JS k t st) {n : Nat} (hn : n = t.length + 1) : st.take n = st := by
  rw [List.take_of_length_le]
  rw [h.len]
  omega
theorem JS.push {k : Nat} {t st : Store} {c : Cell} (h : JS k t st) : JS k (t ++ [c]) (st ++ [c]) := by
  obtain ⟨a, b, d, rfl, h⟩ := h
  exact ⟨a, b, d, rfl, h⟩
theorem JS.pop {k : Nat} {t st : Store} {c : Cell} (h : JS k (t ++ [c]) st) : ∃ st', st = st' ++ [c] ∧ JS k t st' := by
  obtain ⟨a, b, d, rfl, h⟩ := h
  exact ⟨J a b d :: t, rfl, a, b, d, rfl, h⟩
section
variable {C : Ctx} {F : FEv} {L : IE → Env → Store → Res R} {f k : Nat} {t st : Store} {n : Int} {Q : R → Store → Prop} {X : Nat → PyData → Store → Prop}
def jb_take : List IS := [.ite (.cmp .gt (.ix (.var 0) (.k (PyData.int 0))) (.k (PyData.int 0))) [.set 2 (.bop .mod (.bi .int false [(.ix (.var 0) (.k (PyData.int 0)))]) (.var 1)), .setix (.var 0) (.k (PyData.int 0)) (.bop .fdiv (.ix (.var 0) (.k (PyData.int 0))) (.var 1)), .ret (.var 2)] [], .setix (.var 0) (.k (PyData.int 2)) (.bop .add (.ix (.var 0) (.k (PyData.int 2))) (.k (PyData.int 1))), .setix (.var 0) (.k (PyData.int 1)) (.bop .mod (.bi .int false [(.bop .add (.bop .add (.bop .mul (.ix (.var 0) (.k (PyData.int 1))) (.k (PyData.int 39373))) (.bop .mul (.k (PyData.int 7919)) (.ix (.var 0) (.k (PyData.int 2))))) (.k (PyData.int 7)))]) (.k (PyData.int 2147483647))), .ret (.bop .mod (.bi .int false [(.bop .fdiv (.bop .mod (.bi .int false [(.bop .mul (.ix (.var 0) (.k (PyData.int 1))) (.ix (.var 0) (.k (PyData.int 1))))]) (.k (PyData.int 2147483629))) (.k (PyData.int 32)))]) (.var 1))]
/-- what a draw tells -/
structure TakeS (F : FEv) (f : Nat) : Prop where
  run : ∀ {k : Nat} {t st : Store} {n : Int} {Q : R → Store → Prop} {X : Nat → PyData → Store → Prop}, JS k t st → k < 2 ^ 40 → 0 < n → n.natAbs < 2 ^ 8999 →
  (∀ v st', JS (k + 1) t st' → 0 ≤ v → v < n → Q (.d (.int v)) st') → (F f [.c 0, .d (.int n)] st).wp Q X
theorem take_ok (hf : C.fns[f]? = some ⟨3, 2, jb_take⟩) : TakeS (callF C F L) f := by
  refine ⟨?_⟩
  intro k t st n Q X hJ hk h0 hn h
  obtain ⟨a, b, c, rfl, a0, a1, b0, b1, c0, c1⟩ := hJ
  rw [call_wp hf rfl]
  unfold jb_take textDepth
  walk_at "w"
  by_cases ha : 0 < a
  · rw [if_pos ha]
    refine ⟨h0, div_ok h0 hn, h _ _ ⟨_, _, _, rfl, ?_, ?_, b0, b1, c0, by omega⟩ (Int.emod_nonneg _ (by omega)) (Int.emod_lt_of_pos _ h0)⟩
    · exact Int.ediv_nonneg a0 (by omega)
    · exact Int.lt_of_le_of_lt (Int.ediv_le_self _ a0) a1
  · rw [if_neg ha]
    refine ⟨mul_ok (m := 31) (n := 16) (by omega) (by omega) (by omega), mul_ok (m := 13) (n := 41) (by omega) (by omega) (by omega), mul_ok (m := 31) (n := 31) (by omega) (by omega) (by omega), by decide, h0, h _ _ ⟨_, _, _, rfl, a0, a1, by omega, by omega, by omega, by omega⟩ (Int.emod_nonneg _ (by omega)) (Int.emod_lt_of_pos _ h0)⟩
/-- one of the things of a list -/
def jb_one (f : Nat) : List IS := [.ret (.ix (.var 1) (.call f [(.var 0), (.bi .len false [(.var 1)])]))]
structure OneS (F : FEv) (f : Nat) : Prop where
  run : ∀ {k : Nat} {t st : Store} {xs : List PyData} {Q : R → Store → Prop} {X : Nat → PyData → Store → Prop}, JS k t st → k < 2 ^ 40 → 0 < xs.length → xs.length < 2 ^ 40 →
  (∀ x st', JS (k + 1) t st' → x ∈ xs → Q (.d x) st') → (F f [.c 0, .d (.list xs)] st).wp Q X
theorem one_ok {g : Nat} (hf : C.fns[f]? = some ⟨2, 2, jb_one g⟩) (hT : TakeS F g) : OneS (callF C F L) f := by
  refine ⟨?_⟩
  intro k t st xs Q X hJ hk h0 hl h
  rw [call_wp hf rfl]
  unfold jb_one textDepth
  walk_at "w"
  refine hT.run hJ hk (by omega) (pow_lt (k := 40) (by omega) (by decide)) fun v st' hJ' v0 v1 => ?_
  obtain ⟨m, rfl⟩ := Int.eq_ofNat_of_zero_le v0
  walk_at "w"
  rw [at_nat, List.getElem?_eq_getElem (by omega : m < xs.length)]
  walk_at "w"
  rw [hJ'.take (by rw [hJ.len])]
  exact h _ _ hJ' (List.getElem_mem _)
/-- all the things of a list, in a drawn order -/
def jb_mixed (f : Nat) : List IS := [.par [3, 4] [(.bi .list true [(.var 1)]), (.lst true [])], .for .rng [(.bi .len false [(.var 1)])] (.nm 2) [.ex (.me .append (.var 4) [(.me .popAt (.var 3) [(.call f [(.var 0), (.bi .len false [(.var 3)])])])])], .frz 4, .ret (.var 4)]
structure MixS (F : FEv) (f : Nat) : Prop where
  run : ∀ {k : Nat} {t st : Store} {xs : List PyData} {Q : R → Store → Prop} {X : Nat → PyData → Store → Prop}, JS k t st → k + xs.length < 2 ^ 40 → xs.length < 2 ^ 24 →
  (∀ ys st', JS (k + xs.length) t st' → ys.Perm xs → Q (.d (.list ys)) st') → (F f [.c 0, .d (.list xs)] st).wp Q X
theorem get2a {st : Store} {a b : Cell} {n : Nat} (h : n = st.length) : (st ++ [a] ++ [b])[n]? = some a := by subst h; simp
theorem get2b {st : Store} {a b : Cell} {n : Nat} (h : n = st.length + 1) : (st ++ [a] ++ [b])[n]? = some b := by subst h; simp
theorem set2a {st : Store} {a b c : Cell} {n : Nat} (h : n = st.length) : (st ++ [a] ++ [b]).set n c = st ++ [c] ++ [b] := by subst h; simp
theorem set2b {st : Store} {a b c : Cell} {n : Nat} (h : n = st.length + 1) : (st ++ [a] ++ [b]).set n c = st ++ [a] ++ [c] := by subst h; simp
theorem allD_all : ∀ xs : List PyData, allD (xs.map R.d) = some xs
  | [] => rfl
  | x :: xs => by simp [allD, allD_all xs]
theorem all_below {n : Nat} (xs : List PyData) : (xs.map R.d).all (isBelow n) = true := by simp [isBelow]
theorem perm_pop {α : Type} {l : List α} {i : Nat} {x : α} (h : l[i]? = some x) : (x :: l.eraseIdx i).Perm l := by
  induction l generalizing i with
  | nil => cases h
  | cons y l ih =>
    cases i with
    | zero =>
      have : y = x := by simpa using h
      subst this
      exact List.Perm.refl _
    | succ i =>
      have z := ih (i := i) (by simpa using h)
      rw [List.eraseIdx_cons_succ]
      exact (List.Perm.swap y x _).trans (z.cons y)
theorem map_erase {xs : List PyData} {i : Nat} : (xs.map R.d).eraseIdx i = (xs.eraseIdx i).map R.d := by
  induction xs generalizing i with
  | nil => rfl
  | cons x xs ih => cases i with
    | zero => rfl
    | succ i => simp [ih]
theorem mixed_ok {g : Nat} (hf : C.fns[f]? = some ⟨5, 2, jb_mixed g⟩) (hT : TakeS F g) : MixS (callF C F L) f := by
  refine ⟨?_⟩
  intro k t st xs Q X hJ hk hl h
  rw [call_wp hf rfl]
  unfold jb_mixed textDepth
  walk_at "w"
  rw [bi_list (rs := xs.map R.d) rfl]
  walk_at "w"
  rw [List.length_map]
  refine ⟨by omega, all_below xs, ?_⟩
  have hx : inB (xs.length : Int) = true := by unfold inB; exact decide_eq_true (by omega)
  rw [wk_rng1, if_pos hx]
  walk_at "w"
  have hst := hJ.len
  refine forL_wp (fun i env s => ∃ (o : Option R) (fs ss : List PyData) (s1 : Store), env = [some (.c 0), some (.d (.list xs)), o, some (.c st.length), some (.c (st.length + 1))] ∧ s = s1 ++ [.lst (ss.map R.d)] ++ [.lst (fs.map R.d)] ∧ JS (k + i) t s1 ∧ (fs ++ ss).Perm xs ∧ fs.length = i) (fun i env s _ => rfl) ?_ ?_ ?_
  · rintro env s ⟨o, fs, ss, s1, rfl, rfl, J1, P, hl1⟩
    have l1 := J1.len
    rw [rng_len, Int.toNat_natCast] at hl1 J1
    have ss0 : ss = [] := by
      have := P.length_eq
      rw [List.length_append] at this
      exact List.eq_nil_of_length_eq_zero (by omega)
    subst ss0
    walk_at "w"
    rw [get2b (by omega)]
    walk_at "w"
    rw [allD_all]
    walk_at "w"
    rw [hst, ← l1, List.append_assoc, List.set_append_right _ _ (by omega), List.take_append_of_le_length (Nat.le_refl _), List.take_length]
    exact h _ _ J1 (by simpa using P)
  · rintro i x env s hx ⟨o, fs, ss, s1, rfl, rfl, J1, P, hl1⟩
    obtain ⟨rfl, hi⟩ := rng_get hx
    rw [Int.toNat_natCast] at hi
    have l1 := J1.len
    have hlen : fs.length + ss.length = xs.length := by
      have := P.length_eq
      rwa [List.length_append] at this
    rw [forB_wp, tg_nm]
    walk_at "w"
    rw [get2b (by omega)]
    walk_at "w"
    rw [get2a (by omega)]
    walk_at "w"
    rw [List.length_map]
    refine hT.run J1.push.push (by omega) (by omega) (pow_lt (k := 40) (by omega) (by decide)) fun v st' J2 v0 v1 => ?_
    obtain ⟨s2, e2, J2b⟩ := J2.pop
    obtain ⟨s3, e3, J3⟩ := J2b.pop
    subst e3 e2
    have l3 := J3.len
    obtain ⟨m, rfl⟩ := Int.eq_ofNat_of_zero_le v0
    have hm : m < ss.length := by omega
    walk_at "w"
    rw [get2a (by omega)]
    walk_at "w"
    rw [List.length_map, Int.toNat_natCast, List.getElem?_map, List.getElem?_eq_getElem hm]
    refine ⟨⟨by omega, by omega, by omega⟩, ?_⟩
    walk_at "w"
    rw [set2a (by omega), get2b (by omega)]
    walk_at "w"
    rw [List.length_map]
    refine ⟨by omega, ?_⟩
    rw [set2b (by omega), map_erase, trim_same (by simp; omega)]
    refine ⟨_, fs ++ [ss[m]], ss.eraseIdx m, s3, rfl, by simp, by rw [← Nat.add_assoc]; exact J3, ?_, by simp; omega⟩
    rw [List.append_assoc, List.singleton_append]
    exact ((perm_pop (List.getElem?_eq_getElem hm)).append_left fs).trans P
  · exact ⟨none, [], xs, st, by simp, rfl, hJ, by simp, rfl⟩
end
end Ev
set_option maxHeartbeats 1000000
/-! The laws' own helpers: the pool made of the script; what is heard of a call. -/
namespace Ev
open PySem
local macro_rules | `(tactic| walk_at "w") => `(tactic| simp only [↓wE_var, ↓wE_k, ↓wE_glob, ↓wE_tup, ↓wE_lst, ↓wE_bop, ↓wE_neg, ↓wE_not, ↓wE_and, ↓wE_or, ↓wE_cmp, ↓wE_isn, ↓wE_chain, ↓wE_ite, ↓wE_ix, ↓wE_sl, ↓wE_call, ↓wE_bi, ↓wE_isx, ↓wE_what, ↓wE_me, ↓wE_comp, ↓wE_clo, ↓wL_nil, ↓wL_cons, ↓wA_lam, ↓wA_var, ↓wA_k, ↓wA_glob, ↓wA_tup, ↓wA_lst, ↓wA_bop, ↓wA_neg, ↓wA_not, ↓wA_and, ↓wA_or, ↓wA_cmp, ↓wA_isn, ↓wA_chain, ↓wA_ite, ↓wA_ix, ↓wA_sl, ↓wA_call, ↓wA_bi, ↓wA_isx, ↓wA_me, ↓wA_comp, ↓wA_clo, ↓wA_what, ↓wS, ↓wS_nil, ↓wS_cons, ↓w_set, ↓w_par, ↓w_unp, ↓w_setix, ↓w_aug, ↓w_ex, ↓w_ite, ↓w_for, ↓w_ret, ↓w_retN, ↓w_brk, ↓w_cont, ↓w_pass, ↓w_raise, ↓w_try, ↓w_frz, ↓evOW_none, ↓evOW_some,
  ↓b_add, ↓b_sub, ↓b_mul, ↓b_fdiv, ↓b_mod, ↓b_pow, ↓b_adds, ↓b_addt, ↓b_addl, ↓b_mult, ↓t_bool, ↓t_int, ↓t_none, ↓t_list, ↓t_tuple, ↓c_int, ↓c_str_eq, ↓c_str_ne, ↓c_list_eq, ↓c_list_ne, ↓c_tup_eq, ↓c_tup_ne, ↓n_int, ↓bool_d, ↓int_d, ↓dat_d, ↓isn_none, ↓isn_bool, ↓isn_int, ↓isn_str, ↓isn_list, ↓isn_tuple, ↓isn_cell, ↓ix_tuple, ↓ix_list, ↓ix_script, ↓ix_cell, ↓cell_lst, ↓sl_tuple, ↓sl_list, ↓cb_d, ↓cb_c, ↓cb_s, ↓cbl_d, ↓cbl_c, ↓cbl_s, ↓cbl_l, ↓nl_d, ↓nl_c, ↓nl_s, ↓slot_r, ↓lam_l, ↓exc_x, ↓opt_s,
  ↓bi_len_tuple, ↓bi_len_list, ↓bi_len_script, ↓bi_len_cell, ↓bi_len_str, ↓bi_int_int, ↓bi_int_bool, ↓isi_int_none, ↓isi_int_bool, ↓isi_int_int, ↓isi_int_str, ↓isi_int_list, ↓isi_int_tuple, ↓isi_bool_none, ↓isi_bool_bool, ↓isi_bool_int, ↓isi_bool_str, ↓isi_bool_list, ↓isi_bool_tuple, ↓isi_str_none, ↓isi_str_bool, ↓isi_str_int, ↓isi_str_str, ↓isi_str_list, ↓isi_str_tuple, ↓isi_tuple_none, ↓isi_tuple_bool, ↓isi_tuple_int, ↓isi_tuple_str, ↓isi_tuple_list, ↓isi_tuple_tuple, ↓isi_list_none, ↓isi_list_bool, ↓isi_list_int, ↓isi_list_str, ↓isi_list_list, ↓isi_list_tuple, ↓isi_int_cell, ↓isi_bool_cell, ↓isi_str_cell, ↓isi_tuple_cell, ↓isi_list_cell, ↓bi_abs, ↓bi_max, ↓bi_min, ↓bi_tuple_list, ↓bi_lrng1, ↓bi_lrng2, ↓fr_d, ↓rt_d, ↓rt_c, ↓wk_list, ↓wk_tuple, ↓Res.wp_ok, ↓Res.wp_exc,
  ↓tup_w, ↓nw_w, ↓nw_cell, ↓fr_c, ↓sx_w, ↓rv_append, ↓rv_extend, ↓rv_pop, ↓rv_join, ↓ma_w, ↓mx_w, ↓mp_w, allD_nil, allD_cons, Option.map_some, isB_d, isB_c, at_0, at_1, at_2, xn_30, xn_31, xn_32, sizeLine_eq, Nat.reduceLeDiff, Int.reduceNeg, Int.reduceAdd, Int.reduceSub, Int.reduceMul, Int.reduceLE, Int.reduceLT, decide_true, decide_false, and_true, true_and, List.take_succ_cons, List.take_length, List.all_cons, List.all_nil, Bool.and_true, pk_6, pk_9, pk_12, pk_18, pk_20, pk_30, pk_40, pk_50, pk_60, pk_100, tn_6, tn_9, tn_12, tn_18, tn_20, tn_30, tn_40, tn_50, tn_60, tn_100, ↓bl_tuple, ↓bl_list, get1, set1, ↓wk1, ↓wk1L, ↓mj_w, i_eq, i_ne, i_lt, i_le, i_gt, i_ge, List.getElem?_cons_zero, List.getElem?_cons_succ, List.set_cons_zero, List.set_cons_succ, List.map_cons, List.map_nil, List.cons_append, List.nil_append, List.replicate_succ, List.replicate_zero, Nat.reduceSub, Nat.reduceAdd, List.length_cons, List.length_nil, List.zip_cons_cons, List.zip_nil_left, List.foldl_cons, List.foldl_nil, ↓reduceIte, decide_eq_true_eq, Bool.not_eq_true', decide_eq_false_iff_not, Bool.false_eq_true, Bool.true_eq_false, if_true, if_false, Bool.not_true, Bool.not_false])
section
variable {C : Ctx} {F : FEv} {L : IE → Env → Store → Res R} {f k : Nat} {t st : Store} {n : Int}
def jb_pool : List IS := [.par [2, 3] [(.k (PyData.int 0)), (.k (PyData.int 7))], .for .rng [(.bi .len false [(.var 0)])] (.nm 1) [.set 4 (.bi .int false [(.bi .max2 false [(.ix (.var 0) (.var 1)), (.bop .sub (.neg (.k (PyData.int 1))) (.ix (.var 0) (.var 1)))])]), .set 3 (.bop .mod (.bi .int false [(.bop .add (.bop .add (.bop .mul (.var 3) (.k (PyData.int 48271))) (.bop .mod (.var 4) (.k (PyData.int 2147483629)))) (.k (PyData.int 11)))]) (.k (PyData.int 2147483647))), .set 2 (.ite (.and (.cmp .ge (.var 4) (.bop .pow (.k (PyData.int 10)) (.k (PyData.int 12)))) (.cmp .lt (.var 2) (.bop .pow (.k (PyData.int 10)) (.k (PyData.int 60))))) (.bi .int false [(.bop .add (.bop .mul (.var 2) (.bop .pow (.k (PyData.int 10)) (.k (PyData.int 60)))) (.bop .mod (.var 4) (.bop .pow (.k (PyData.int 10)) (.k (PyData.int 60)))))]) (.var 2))], .ret (.lst true [(.var 2), (.var 3), (.k (PyData.int 0))])]
structure PoolS (F : FEv) (f : Nat) : Prop where
  run : ∀ {ns : List Int} {Q : R → Store → Prop} {X : Nat → PyData → Store → Prop}, ns.length ≤ 63 → (∀ st', JS 0 [] st' → Q (.c 0) st') → (F f [.s ns] []).wp Q X
theorem pool_ok (hf : C.fns[f]? = some ⟨5, 1, jb_pool⟩) : PoolS (callF C F L) f := by
  refine ⟨?_⟩
  intro ns Q X hl h
  rw [call_wp hf rfl]
  unfold jb_pool textDepth
  walk_at "w"
  have hx : inB (ns.length : Int) = true := by unfold inB; exact decide_eq_true (by omega)
  rw [wk_rng1, if_pos hx]
  walk_at "w"
  refine forL_wp (fun i env s => ∃ (o1 o4 : Option R) (dg sr : Int), env = [some (.s ns), o1, some (.d (.int dg)), some (.d (.int sr)), o4] ∧ s = [] ∧ 0 ≤ dg ∧ dg < 10 ^ 120 ∧ 0 ≤ sr ∧ sr < 2147483647) (fun i env s _ => rfl) ?_ ?_ ?_
  · rintro env s ⟨o1, o4, dg, sr, rfl, rfl, d0, d1, s0, s1⟩
    walk_at "w"
    exact h _ ⟨dg, sr, 0, rfl, d0, Int.lt_of_lt_of_le d1 (by decide), s0, s1, by omega, by omega⟩
  · rintro i x env s hx ⟨o1, o4, dg, sr, rfl, rfl, d0, d1, s0, s1⟩
    obtain ⟨rfl, hi⟩ := rng_get hx
    rw [Int.toNat_natCast] at hi
    rw [forB_wp, tg_nm]
    walk_at "w"
    rw [Int.zero_add, at_nat, List.getElem?_eq_getElem hi]
    walk_at "w"
    generalize hcell : (if -1 - ns[i] > ns[i] then -1 - ns[i] else ns[i]) = cell
    have hc : 0 ≤ cell := by rw [← hcell]; split <;> omega
    have hm := Int.emod_nonneg cell (show (10 : Int) ^ 60 ≠ 0 by decide)
    have hm2 := Int.emod_lt_of_pos cell (show (0 : Int) < 10 ^ 60 by decide)
    have hsr := Int.emod_nonneg (sr * 48271 + cell % 2147483629 + 11) (show (2147483647 : Int) ≠ 0 by decide)
    have hsr2 := Int.emod_lt_of_pos (sr * 48271 + cell % 2147483629 + 11) (show (0 : Int) < 2147483647 by decide)
    refine ⟨mul_ok (m := 31) (n := 16) (by omega) (by omega) (by omega), ?_⟩
    by_cases h1 : 10 ^ 12 ≤ cell
    · rw [if_pos h1]
      by_cases h2 : dg < 10 ^ 60
      · rw [if_pos h2]
        refine ⟨mul_ok (m := 200) (n := 200) (by omega) (by decide) (by omega), by decide, _, _, _, _, rfl, rfl, ?_, ?_, hsr, hsr2⟩
        · have : 0 ≤ dg * 10 ^ 60 := Int.mul_nonneg d0 (by decide)
          omega
        · have : dg * 10 ^ 60 ≤ (10 ^ 60 - 1) * 10 ^ 60 := Int.mul_le_mul_of_nonneg_right (by omega) (by decide)
          have e : (10 ^ 60 - 1) * 10 ^ 60 + 10 ^ 60 = (10 : Int) ^ 120 := by decide
          omega
      · rw [if_neg h2]
        exact ⟨_, _, _, _, rfl, rfl, d0, d1, hsr, hsr2⟩
    · rw [if_neg h1]
      exact ⟨_, _, _, _, rfl, rfl, d0, d1, hsr, hsr2⟩
  · exact ⟨none, none, 0, 7, rfl, rfl, by decide, by decide, by decide, by decide⟩
/-- the classes that a law hears of, by their places -/
def cname : Nat → Option Str
  | 1 => some "BadMany"
  | 2 => some "TooMany"
  | 3 => some "BadForm"
  | 4 => some "BadEffect"
  | 5 => some "BadIndex"
  | 6 => some "BadKinds"
  | 7 => some "BadPlan"
  | 8 => some "BadSeason"
  | 9 => some "BadMoves"
  | 10 => some "BadErrors"
  | 11 => some "Torn"
  | _ => none
def jb_heard : List IS := [.tryAs [.ret (.tup [(.k (PyData.str (PySem.Str.ofString "told"))), (.clo 0)])] 0 1 [.set 2 (.lst true [(.tup [(.k (PyData.str (PySem.Str.ofString "BadMany"))), (.isx 1 1)]), (.tup [(.k (PyData.str (PySem.Str.ofString "TooMany"))), (.isx 2 1)])]), .ex (.me .extend (.var 2) [(.lst false [(.tup [(.k (PyData.str (PySem.Str.ofString "BadForm"))), (.isx 3 1)]), (.tup [(.k (PyData.str (PySem.Str.ofString "BadEffect"))), (.isx 4 1)])])]), .ex (.me .extend (.var 2) [(.lst false [(.tup [(.k (PyData.str (PySem.Str.ofString "BadIndex"))), (.isx 5 1)]), (.tup [(.k (PyData.str (PySem.Str.ofString "BadKinds"))), (.isx 6 1)])])]), .ex (.me .extend (.var 2) [(.lst false [(.tup [(.k (PyData.str (PySem.Str.ofString "BadPlan"))), (.isx 7 1)]), (.tup [(.k (PyData.str (PySem.Str.ofString "BadSeason"))), (.isx 8 1)])])]), .ex (.me .extend (.var 2) [(.lst false [(.tup [(.k (PyData.str (PySem.Str.ofString "BadMoves"))), (.isx 9 1)]), (.tup [(.k (PyData.str (PySem.Str.ofString "BadErrors"))), (.isx 10 1)])])]), .ex (.me .append (.var 2) [(.tup [(.k (PyData.str (PySem.Str.ofString "Torn"))), (.isx 11 1)])]), .ret (.tup [(.me .join (.k (PyData.str (PySem.Str.ofString " "))) [(.comp false [3, 4] .seqL [(.var 2)] (.tp [3, 4]) (some (.var 4)) (.var 3))]), (.what 1)])]]
/-- a closure that changes nothing tells what is due -/
def CloR (L : IE → Env → Store → Res R) (b : IE) (env : Env) (st : Store) (due : PyData) : Prop := (L b env st).wp (fun r st' => st' = st ∧ ∃ x, r = .d x ∧ due = .tuple [.str (Str.ofString "told"), x]) (fun c w st' => st' = st ∧ ∃ nm, cname c = some nm ∧ due = .tuple [.str nm, w])
structure HeardS (F : FEv) (L : IE → Env → Store → Res R) (f : Nat) : Prop where
  run : ∀ {b : IE} {env : Env} {st : Store} {due : PyData} {Q : R → Store → Prop} {X : Nat → PyData → Store → Prop}, CloR L b env st due → Q (.d due) st → (F f [.lam b env] st).wp Q X
def SubS (C : Ctx) : Prop := ∀ c j, c ≤ 11 → j ≤ 11 → C.sub c j = (c == j || j == 0)
def named (x : R) : Option PyData := match x with
  | .d (.tuple [.str n, .bool true]) => some (.str n)
  | _ => none
theorem heard_ok (hf : C.fns[f]? = some ⟨5, 1, jb_heard⟩) (hs : SubS C) : HeardS (callF C F L) L f := by
  refine ⟨?_⟩
  intro b env st due Q X h hq
  rw [call_wp hf rfl]
  unfold jb_heard textDepth
  simp only [↓wS, ↓wS_cons, ↓w_try, ↓w_ret, ↓wE_tup, ↓wL_cons, ↓wE_k, killX, List.map_cons, List.map_nil, List.cons_append, List.nil_append, List.replicate_succ, List.replicate_zero, Nat.reduceSub, ↓wE_clo, List.getElem?_cons_zero, ↓slot_r, ↓lam_l]
  refine Res.wp_mono h (fun r st' ⟨e, x, e1, e2⟩ => ?_) (fun c w st' ⟨e, nm, e1, e2⟩ => ?_)
  · subst e e1 e2
    walk_at "w"
    exact hq
  · subst e e2
    have hc : c = 1 ∨ c = 2 ∨ c = 3 ∨ c = 4 ∨ c = 5 ∨ c = 6 ∨ c = 7 ∨ c = 8 ∨ c = 9 ∨ c = 10 ∨ c = 11 := by
      unfold cname at e1
      split at e1 <;> simp at e1 ⊢
    have hc11 : c ≤ 11 := by omega
    rw [if_pos (by rw [hs c 0 hc11 (by omega)]; simp)]
    walk_at "w"
    refine ⟨by decide, ?_⟩
    refine comp_pure named (by simp only [List.length_cons, List.length_nil]; decide) (fun c => same_c get1 (by rw [List.append_assoc, List.getElem?_append_right (Nat.le_refl _), Nat.sub_self]; rfl) (by simp [beqRs, beqR, beqD, beqDs])) ?_ ?_
    · have key : ∀ (x : R) (z : Cell) (st : Store) (env : Env), (∃ n b, x = .d (.tuple [.str n, .bool b])) → (compB (evs C F L 35) [3, 4] (.tp [3, 4]) (some (.var 4)) (.var 3) [some (.lam b env), some (.x c w), some (.c st'.length), none, none] x st).wp (fun o st1 => st1 = st ∧ o = (named x).map R.d) fun _ _ _ => False := by
        rintro x z st env ⟨n, b, rfl⟩
        rw [compB_wp, tg_tp]
        simp only [wipe, List.map_cons, List.map_nil, List.foldl_cons, List.foldl_nil, List.set_cons_succ, List.set_cons_zero, sa_cons, sa_nil]
        walk_at "w"
        cases b
        · first | rfl | exact ⟨rfl, rfl⟩
        · first | rfl | exact ⟨rfl, rfl⟩
      intro x hx z
      refine key x z _ env ?_
      simp only [List.mem_cons, List.not_mem_nil, or_false] at hx
      rcases hx with rfl | rfl | rfl | rfl | rfl | rfl | rfl | rfl | rfl | rfl | rfl <;> exact ⟨_, _, rfl⟩
    · have fin : ∀ st2 : Store, optW (strsOf (.d (.list ([R.d (.tuple [.str (Str.ofString "BadMany"), .bool (C.sub c 1)]), R.d (.tuple [.str (Str.ofString "TooMany"), .bool (C.sub c 2)]), R.d (.tuple [.str (Str.ofString "BadForm"), .bool (C.sub c 3)]), R.d (.tuple [.str (Str.ofString "BadEffect"), .bool (C.sub c 4)]), R.d (.tuple [.str (Str.ofString "BadIndex"), .bool (C.sub c 5)]), R.d (.tuple [.str (Str.ofString "BadKinds"), .bool (C.sub c 6)]), R.d (.tuple [.str (Str.ofString "BadPlan"), .bool (C.sub c 7)]), R.d (.tuple [.str (Str.ofString "BadSeason"), .bool (C.sub c 8)]), R.d (.tuple [.str (Str.ofString "BadMoves"), .bool (C.sub c 9)]), R.d (.tuple [.str (Str.ofString "BadErrors"), .bool (C.sub c 10)]), R.d (.tuple [.str (Str.ofString "Torn"), .bool (C.sub c 11)])].filterMap named))) st2) (fun ys => ys = [nm]) := by
        intro st2
        have s1 := hs c 1 hc11 (by omega)
        have s2 := hs c 2 hc11 (by omega)
        have s3 := hs c 3 hc11 (by omega)
        have s4 := hs c 4 hc11 (by omega)
        have s5 := hs c 5 hc11 (by omega)
        have s6 := hs c 6 hc11 (by omega)
        have s7 := hs c 7 hc11 (by omega)
        have s8 := hs c 8 hc11 (by omega)
        have s9 := hs c 9 hc11 (by omega)
        have s10 := hs c 10 hc11 (by omega)
        have s11 := hs c 11 hc11 (by omega)
        rw [s1, s2, s3, s4, s5, s6, s7, s8, s9, s10, s11]
        rcases hc with rfl | rfl | rfl | rfl | rfl | rfl | rfl | rfl | rfl | rfl | rfl <;> (rw [← Option.some.inj e1]; rfl)
      have z := fin (st' ++ [.lst [R.d (.tuple [.str (Str.ofString "BadMany"), .bool (C.sub c 1)]), R.d (.tuple [.str (Str.ofString "TooMany"), .bool (C.sub c 2)]), R.d (.tuple [.str (Str.ofString "BadForm"), .bool (C.sub c 3)]), R.d (.tuple [.str (Str.ofString "BadEffect"), .bool (C.sub c 4)]), R.d (.tuple [.str (Str.ofString "BadIndex"), .bool (C.sub c 5)]), R.d (.tuple [.str (Str.ofString "BadKinds"), .bool (C.sub c 6)]), R.d (.tuple [.str (Str.ofString "BadPlan"), .bool (C.sub c 7)]), R.d (.tuple [.str (Str.ofString "BadSeason"), .bool (C.sub c 8)]), R.d (.tuple [.str (Str.ofString "BadMoves"), .bool (C.sub c 9)]), R.d (.tuple [.str (Str.ofString "BadErrors"), .bool (C.sub c 10)]), R.d (.tuple [.str (Str.ofString "Torn"), .bool (C.sub c 11)])]])
      revert z
      generalize strsOf _ _ = o
      intro z
      cases o with
      | none => exact z.elim
      | some ys =>
        have z : ys = [nm] := z
        subst z
        have hn : nm.length ≤ 9 := by
          rcases hc with rfl | rfl | rfl | rfl | rfl | rfl | rfl | rfl | rfl | rfl | rfl <;> (rw [← Option.some.inj e1]; decide)
        have ej : Txt.join (Str.ofString " ") [nm] = nm := by
          rw [TL.join_eq]
          rfl
        refine ⟨?_, ?_⟩
        · have : (Str.ofString " ").length = 1 := by decide
          simp only [List.map_cons, List.map_nil, List.sum_cons, List.sum_nil, List.length_cons, List.length_nil, this]
          omega
        · rw [ej, List.take_append_of_le_length (Nat.le_refl _), List.take_length]
          exact hq
/-- whether what is heard of a call is what is due -/
def jb_says (f : Nat) : List IS := [.ret (.cmp .eq (.bi .repr false [(.call f [(.var 0)])]) (.bi .repr false [(.var 1)]))]
structure SaysS (F : FEv) (L : IE → Env → Store → Res R) (f : Nat) : Prop where
  run : ∀ {b : IE} {env : Env} {st : Store} {due : PyData} {d n : Nat} {Q : R → Store → Prop} {X : Nat → PyData → Store → Prop}, CloR L b env st due → Ok d n due → d ≤ 64 → n ≤ 16777216 → Q (.d (.bool true)) st → (F f [.lam b env, .d due] st).wp Q X
theorem says_ok {g : Nat} {L' : IE → Env → Store → Res R} (hf : C.fns[f]? = some ⟨2, 2, jb_says g⟩) (hH : HeardS F L' g) : SaysS (callF C F L) L' f := by
  refine ⟨?_⟩
  intro b env st due d n Q X hc hd h1 h2 hq
  rw [call_wp hf rfl]
  unfold jb_says textDepth
  walk_at "w"
  refine hH.run hc ?_
  rw [bi_repr hd h1 h2, bi_repr hd h1 h2]
  walk_at "w"
  exact hq
end
end Ev
namespace K01
open PySem Ev
def b_whole : List IS := [.ret (.and (.bi (.isi .int) false [(.var 0)]) (.and (.not (.bi (.isi .bool) false [(.var 0)])) (.chain .le .le (.var 1) (.var 0) (.var 2))))]
def b_many : List IS := [.ite (.not (.call 0 [(.var 0), (.var 1), (.var 2)])) [.raise 1 (.var 0)] []]
def b_is_number : List IS := [.ite (.or (.not (.bi (.isi .int) false [(.var 0)])) (.bi (.isi .bool) false [(.var 0)])) [.ret (.k (PyData.bool false))] [], .ret (.or (.isn true (.var 1)) (.chain .le .le (.neg (.var 1)) (.var 0) (.var 1)))]
def b_asked_counts : List IS := [.ex (.call 1 [(.var 0), (.k (PyData.int 0)), (.glob 1)])]
def b_wrong_numbers : List IS := [.ite (.or (.not (.bi (.isi .tuple) false [(.var 1)])) (.cmp .ne (.bi .len false [(.var 1)]) (.var 0))) [.ret (.neg (.k (PyData.int 1)))] [], .for .enum [(.var 1)] (.tp [3, 4]) [.ite (.not (.call 2 [(.var 4), (.var 2)])) [.ret (.var 3)] []], .ret (.k PyData.none)]
def b_wrong_form : List IS := [.ret (.call 4 [(.var 0), (.var 1), (.glob 2)])]
def b_asked_weights : List IS := [.set 2 (.call 5 [(.var 0), (.var 1)]), .ite (.isn false (.var 2)) [.raise 3 (.var 2)] []]
def b_dot : List IS := [.ret (.bi .sum false [(.comp false [2, 3] .zip [(.var 0), (.var 1)] (.tp [2, 3]) none (.bop .mul (.var 2) (.var 3)))])]
def b_made_form : List IS := [.ex (.call 3 [(.var 0)]), .ex (.call 6 [(.var 0), (.var 1)]), .ret (.var 1)]
def b_is_form : List IS := [.ex (.call 3 [(.var 0)]), .ret (.isn true (.call 5 [(.var 0), (.var 1)]))]
def b_value : List IS := [.ex (.call 3 [(.var 0)]), .ex (.call 6 [(.var 0), (.var 1)]), .set 3 (.call 4 [(.var 0), (.var 2), (.glob 0)]), .ite (.isn false (.var 3)) [.raise 4 (.var 3)] [], .ret (.call 7 [(.var 1), (.var 2)])]
def b_unit : List IS := [.ex (.call 3 [(.var 0)]), .ite (.not (.call 0 [(.var 1), (.k (PyData.int 0)), (.bop .sub (.var 0) (.k (PyData.int 1)))])) [.raise 5 (.var 1)] [], .ret (.bi .tuple false [(.comp false [2] .rng [(.var 0)] (.nm 2) none (.bi .int false [(.cmp .eq (.var 2) (.var 1))]))])]
def b_law_pool : List IS := [.par [2, 3] [(.k (PyData.int 0)), (.k (PyData.int 7))], .for .rng [(.bi .len false [(.var 0)])] (.nm 1) [.set 4 (.bi .int false [(.bi .max2 false [(.ix (.var 0) (.var 1)), (.bop .sub (.neg (.k (PyData.int 1))) (.ix (.var 0) (.var 1)))])]), .set 3 (.bop .mod (.bi .int false [(.bop .add (.bop .add (.bop .mul (.var 3) (.k (PyData.int 48271))) (.bop .mod (.var 4) (.k (PyData.int 2147483629)))) (.k (PyData.int 11)))]) (.k (PyData.int 2147483647))), .set 2 (.ite (.and (.cmp .ge (.var 4) (.bop .pow (.k (PyData.int 10)) (.k (PyData.int 12)))) (.cmp .lt (.var 2) (.bop .pow (.k (PyData.int 10)) (.k (PyData.int 60))))) (.bi .int false [(.bop .add (.bop .mul (.var 2) (.bop .pow (.k (PyData.int 10)) (.k (PyData.int 60)))) (.bop .mod (.var 4) (.bop .pow (.k (PyData.int 10)) (.k (PyData.int 60)))))]) (.var 2))], .ret (.lst true [(.var 2), (.var 3), (.k (PyData.int 0))])]
def b_law_take : List IS := [.ite (.cmp .gt (.ix (.var 0) (.k (PyData.int 0))) (.k (PyData.int 0))) [.set 2 (.bop .mod (.bi .int false [(.ix (.var 0) (.k (PyData.int 0)))]) (.var 1)), .setix (.var 0) (.k (PyData.int 0)) (.bop .fdiv (.ix (.var 0) (.k (PyData.int 0))) (.var 1)), .ret (.var 2)] [], .setix (.var 0) (.k (PyData.int 2)) (.bop .add (.ix (.var 0) (.k (PyData.int 2))) (.k (PyData.int 1))), .setix (.var 0) (.k (PyData.int 1)) (.bop .mod (.bi .int false [(.bop .add (.bop .add (.bop .mul (.ix (.var 0) (.k (PyData.int 1))) (.k (PyData.int 39373))) (.bop .mul (.k (PyData.int 7919)) (.ix (.var 0) (.k (PyData.int 2))))) (.k (PyData.int 7)))]) (.k (PyData.int 2147483647))), .ret (.bop .mod (.bi .int false [(.bop .fdiv (.bop .mod (.bi .int false [(.bop .mul (.ix (.var 0) (.k (PyData.int 1))) (.ix (.var 0) (.k (PyData.int 1))))]) (.k (PyData.int 2147483629))) (.k (PyData.int 32)))]) (.var 1))]
def b_law_one : List IS := [.ret (.ix (.var 1) (.call 13 [(.var 0), (.bi .len false [(.var 1)])]))]
def b_law_mixed : List IS := [.par [3, 4] [(.bi .list true [(.var 1)]), (.lst true [])], .for .rng [(.bi .len false [(.var 1)])] (.nm 2) [.ex (.me .append (.var 4) [(.me .popAt (.var 3) [(.call 13 [(.var 0), (.bi .len false [(.var 3)])])])])], .frz 4, .ret (.var 4)]
def b_law_vq_heard : List IS := [.tryAs [.ret (.tup [(.k (PyData.str (PySem.Str.ofString "told"))), (.clo 0)])] 0 1 [.set 2 (.lst true [(.tup [(.k (PyData.str (PySem.Str.ofString "BadMany"))), (.isx 1 1)]), (.tup [(.k (PyData.str (PySem.Str.ofString "TooMany"))), (.isx 2 1)])]), .ex (.me .extend (.var 2) [(.lst false [(.tup [(.k (PyData.str (PySem.Str.ofString "BadForm"))), (.isx 3 1)]), (.tup [(.k (PyData.str (PySem.Str.ofString "BadEffect"))), (.isx 4 1)])])]), .ex (.me .extend (.var 2) [(.lst false [(.tup [(.k (PyData.str (PySem.Str.ofString "BadIndex"))), (.isx 5 1)]), (.tup [(.k (PyData.str (PySem.Str.ofString "BadKinds"))), (.isx 6 1)])])]), .ex (.me .extend (.var 2) [(.lst false [(.tup [(.k (PyData.str (PySem.Str.ofString "BadPlan"))), (.isx 7 1)]), (.tup [(.k (PyData.str (PySem.Str.ofString "BadSeason"))), (.isx 8 1)])])]), .ex (.me .extend (.var 2) [(.lst false [(.tup [(.k (PyData.str (PySem.Str.ofString "BadMoves"))), (.isx 9 1)]), (.tup [(.k (PyData.str (PySem.Str.ofString "BadErrors"))), (.isx 10 1)])])]), .ex (.me .append (.var 2) [(.tup [(.k (PyData.str (PySem.Str.ofString "Torn"))), (.isx 11 1)])]), .ret (.tup [(.me .join (.k (PyData.str (PySem.Str.ofString " "))) [(.comp false [3, 4] .seqL [(.var 2)] (.tp [3, 4]) (some (.var 4)) (.var 3))]), (.what 1)])]]
def b_law_vq_says : List IS := [.ret (.cmp .eq (.bi .repr false [(.call 16 [(.var 0)])]) (.bi .repr false [(.var 1)]))]
def b_law_vw_is : List IS := [.ret (.and (.bi (.isi .int) false [(.var 0)]) (.and (.not (.bi (.isi .bool) false [(.var 0)])) (.chain .le .le (.var 1) (.var 0) (.var 2))))]
def b_law_vw_first : List IS := [.set 1 (.comp false [2] .seq [(.var 0)] (.nm 2) (some (.isn false (.var 2))) (.var 2)), .ret (.ite (.cmp .ne (.var 1) (.lst false [])) (.ix (.var 1) (.k (PyData.int 0))) (.k PyData.none))]
def b_law_vw_many_due : List IS := [.ret (.ite (.call 18 [(.var 0), (.k (PyData.int 0)), (.k (PyData.int 8))]) (.k PyData.none) (.tup [(.k (PyData.str (PySem.Str.ofString "BadMany"))), (.var 0)]))]
def b_law_vw_row_due : List IS := [.ite (.or (.not (.bi (.isi .tuple) false [(.var 1)])) (.cmp .ne (.bi .len false [(.var 1)]) (.var 2))) [.ret (.tup [(.var 0), (.neg (.k (PyData.int 1)))])] [], .set 4 (.comp false [5] .rng [(.var 2)] (.nm 5) (some (.not (.call 18 [(.ix (.var 1) (.var 5)), (.neg (.var 3)), (.var 3)]))) (.var 5)), .ret (.ite (.cmp .ne (.var 4) (.lst false [])) (.tup [(.var 0), (.ix (.var 4) (.k (PyData.int 0)))]) (.k PyData.none))]
def b_law_vw_form_due : List IS := [.ret (.call 21 [(.k (PyData.str (PySem.Str.ofString "BadForm"))), (.var 1), (.var 0), (.k (PyData.int 9))])]
def b_law_vw_value : List IS := [.ret (.bi .sum false [(.comp false [2] .rng [(.bi .len false [(.var 0)])] (.nm 2) none (.bop .mul (.ix (.var 0) (.var 2)) (.ix (.var 1) (.var 2))))])]
def b_law_vw_plus : List IS := [.ret (.bi .tuple false [(.comp false [3] .rng [(.bi .len false [(.var 0)])] (.nm 3) none (.bop .add (.ix (.var 0) (.var 3)) (.bop .mul (.var 2) (.ix (.var 1) (.var 3)))))])]
def b_law_vw_put : List IS := [.ret (.bop .add (.bop .add (.sl (.var 0) none (some (.var 1))) (.tup [(.var 2)])) (.sl (.var 0) (some (.bop .add (.var 1) (.k (PyData.int 1)))) none))]
def b_law_odd_number : List IS := [.ret (.call 14 [(.var 0), (.lst false [(.bop .add (.var 1) (.k (PyData.int 1))), (.bop .sub (.neg (.var 1)) (.k (PyData.int 1))), (.bop .pow (.k (PyData.int 10)) (.k (PyData.int 50))), (.neg (.bop .pow (.k (PyData.int 10)) (.k (PyData.int 50)))), (.k (PyData.bool true)), (.k (PyData.bool false)), (.k PyData.none), (.k (PyData.str (PySem.Str.ofString "1"))), (.k (PyData.str (PySem.Str.ofString ""))), (.tup [(.k (PyData.int 1))]), (.lst false [(.k (PyData.int 1))]), (.tup [])])])]
def b_law_odd_many : List IS := [.ret (.call 14 [(.var 0), (.lst false [(.k (PyData.int 9)), (.neg (.k (PyData.int 1))), (.k (PyData.int 10)), (.bop .pow (.k (PyData.int 10)) (.k (PyData.int 30))), (.k (PyData.bool true)), (.k (PyData.bool false)), (.k PyData.none), (.k (PyData.str (PySem.Str.ofString "2"))), (.tup [(.k (PyData.int 2))]), (.lst false []), (.tup [])])])]
def b_law_row : List IS := [.set 3 (.lst false [(.k (PyData.int 0)), (.k (PyData.int 1)), (.neg (.k (PyData.int 1))), (.var 2), (.neg (.var 2)), (.bop .sub (.var 2) (.k (PyData.int 1)))]), .ret (.bi .tuple false [(.comp false [4] .rng [(.var 1)] (.nm 4) none (.call 14 [(.var 0), (.bop .add (.var 3) (.lst false [(.bop .sub (.call 13 [(.var 0), (.bop .add (.bop .mul (.k (PyData.int 2)) (.var 2)) (.k (PyData.int 1)))]) (.var 2))]))]))])]
def b_law_bent : List IS := [.set 3 (.call 13 [(.var 0), (.k (PyData.int 7))]), .ite (.or (.cmp .eq (.var 3) (.k (PyData.int 0))) (.cmp .eq (.var 1) (.tup []))) [.ret (.call 14 [(.var 0), (.lst false [(.bi .list false [(.var 1)]), (.bop .add (.var 1) (.tup [(.k (PyData.int 0))])), (.bop .add (.var 1) (.tup [(.k PyData.none)])), (.k PyData.none), (.k (PyData.int 0)), (.k (PyData.str (PySem.Str.ofString ""))), (.k (PyData.str (PySem.Str.ofString "12"))), (.lst false [(.var 1)]), (.tup [(.var 1)]), (.k (PyData.bool true))])])] [], .ite (.cmp .eq (.var 3) (.k (PyData.int 1))) [.ret (.call 14 [(.var 0), (.lst false [(.sl (.var 1) (some (.k (PyData.int 1))) none), (.sl (.var 1) none (some (.neg (.k (PyData.int 1))))), (.bop .add (.var 1) (.var 1)), (.bop .add (.var 1) (.tup [(.bop .add (.var 2) (.k (PyData.int 1)))]))])])] [], .set 4 (.var 1), .for .rng [(.bop .add (.k (PyData.int 1)) (.call 13 [(.var 0), (.k (PyData.int 2))]))] (.nm 5) [.set 4 (.call 25 [(.var 4), (.call 13 [(.var 0), (.bi .len false [(.var 1)])]), (.call 26 [(.var 0), (.var 2)])])], .ret (.ite (.cmp .lt (.var 3) (.k (PyData.int 6))) (.var 4) (.var 1))]
def b_law_made_right : List IS := [.set 2 (.call 28 [(.var 0), (.var 1), (.k (PyData.int 9))]), .for .seq [(.bop .add (.lst false [(.var 2)]) (.comp false [7] .rng [(.k (PyData.int 7))] (.nm 7) none (.call 29 [(.var 0), (.var 2), (.k (PyData.int 9))])))] (.nm 3) [.set 5 (.call 22 [(.var 1), (.var 3)]), .set 6 (.bi .repr false [(.var 3)]), .ite (.not (.call 17 [(.lam (.call 8 [(.var 1), (.var 3)])), (.ite (.isn false (.var 5)) (.var 5) (.tup [(.k (PyData.str (PySem.Str.ofString "told"))), (.var 3)]))])) [.ret (.k (PyData.bool false))] [], .ite (.or (.not (.call 17 [(.lam (.call 9 [(.var 1), (.var 3)])), (.tup [(.k (PyData.str (PySem.Str.ofString "told"))), (.isn true (.var 5))])])) (.cmp .ne (.bi .repr false [(.var 3)]) (.var 6))) [.ret (.k (PyData.bool false))] []], .set 4 (.call 27 [(.var 0)]), .for .seq [(.lst false [(.var 2), (.k PyData.none), (.call 29 [(.var 0), (.var 2), (.k (PyData.int 9))])])] (.nm 3) [.ite (.not (.call 17 [(.lam (.call 8 [(.var 4), (.var 3)])), (.tup [(.k (PyData.str (PySem.Str.ofString "BadMany"))), (.var 4)])])) [.ret (.k (PyData.bool false))] [], .ite (.not (.call 17 [(.lam (.call 9 [(.var 4), (.var 3)])), (.tup [(.k (PyData.str (PySem.Str.ofString "BadMany"))), (.var 4)])])) [.ret (.k (PyData.bool false))] []], .ret (.k (PyData.bool true))]
def b_law_value_due : List IS := [.set 3 (.call 19 [(.lst false [(.call 20 [(.var 0)]), (.ite (.call 18 [(.var 0), (.k (PyData.int 0)), (.k (PyData.int 8))]) (.call 22 [(.var 0), (.var 1)]) (.k PyData.none))])]), .ite (.isn false (.var 3)) [.ret (.var 3)] [], .set 3 (.call 21 [(.k (PyData.str (PySem.Str.ofString "BadEffect"))), (.var 2), (.var 0), (.bop .pow (.k (PyData.int 10)) (.k (PyData.int 40)))]), .ret (.ite (.isn false (.var 3)) (.var 3) (.tup [(.k (PyData.str (PySem.Str.ofString "told"))), (.call 23 [(.var 1), (.var 2)])]))]
def b_law_values_right : List IS := [.par [8, 9] [(.call 28 [(.var 0), (.var 1), (.k (PyData.int 9))]), (.call 28 [(.var 0), (.var 1), (.call 14 [(.var 0), (.lst false [(.k (PyData.int 5)), (.bop .pow (.k (PyData.int 10)) (.k (PyData.int 6))), (.bop .pow (.k (PyData.int 10)) (.k (PyData.int 40)))])])])], .for .rng [(.k (PyData.int 8))] (.nm 2) [.set 10 (.bop .pow (.k (PyData.int 10)) (.k (PyData.int 40))), .set 11 (.ite (.cmp .eq (.call 13 [(.var 0), (.k (PyData.int 2))]) (.k (PyData.int 0))) (.call 29 [(.var 0), (.var 8), (.k (PyData.int 9))]) (.var 8)), .set 12 (.ite (.cmp .eq (.call 13 [(.var 0), (.k (PyData.int 2))]) (.k (PyData.int 0))) (.call 29 [(.var 0), (.var 9), (.var 10)]) (.var 9)), .set 13 (.ite (.cmp .eq (.call 13 [(.var 0), (.k (PyData.int 6))]) (.k (PyData.int 0))) (.call 27 [(.var 0)]) (.var 1)), .ite (.not (.call 17 [(.lam (.call 10 [(.var 13), (.var 11), (.var 12)])), (.call 31 [(.var 13), (.var 11), (.var 12)])])) [.ret (.k (PyData.bool false))] []], .set 3 (.call 28 [(.var 0), (.var 1), (.k (PyData.int 4))]), .set 4 (.call 24 [(.bi .tuple false [(.comp false [14] .seq [(.var 8)] (.nm 14) none (.bop .fdiv (.var 14) (.k (PyData.int 2))))]), (.var 3), (.neg (.k (PyData.int 1)))]), .set 5 (.bi .tuple false [(.comp false [14] .seq [(.var 8)] (.nm 14) none (.bop .fdiv (.var 14) (.k (PyData.int 2))))]), .set 6 (.bop .sub (.call 23 [(.var 5), (.var 9)]) (.call 23 [(.var 3), (.var 9)])), .set 7 (.call 16 [(.lam (.lst false [(.call 10 [(.var 1), (.var 4), (.var 9)]), (.bop .sub (.call 10 [(.var 1), (.var 5), (.var 9)]) (.call 10 [(.var 1), (.var 3), (.var 9)]))]))]), .ret (.cmp .eq (.bi .repr false [(.var 7)]) (.bi .repr false [(.tup [(.k (PyData.str (PySem.Str.ofString "told"))), (.lst false [(.var 6), (.var 6)])])]))]
def b_law_units_right : List IS := [.set 2 (.call 28 [(.var 0), (.var 1), (.bop .pow (.k (PyData.int 10)) (.k (PyData.int 40)))]), .for .seq [(.bop .add (.bi .lrng false [(.neg (.k (PyData.int 2))), (.bop .add (.var 1) (.k (PyData.int 2)))]) (.lst false [(.bop .pow (.k (PyData.int 10)) (.k (PyData.int 30))), (.k (PyData.bool true)), (.k PyData.none), (.k (PyData.str (PySem.Str.ofString "0"))), (.tup [(.k (PyData.int 0))]), (.lst false [(.k (PyData.int 0))])]))] (.nm 3) [.set 5 (.tup [(.k (PyData.str (PySem.Str.ofString "BadIndex"))), (.var 3)]), .ite (.call 18 [(.var 3), (.k (PyData.int 0)), (.bop .sub (.var 1) (.k (PyData.int 1)))]) [.set 5 (.tup [(.k (PyData.str (PySem.Str.ofString "told"))), (.bi .tuple false [(.comp false [6] .rng [(.var 1)] (.nm 6) none (.bi .int false [(.cmp .eq (.var 6) (.var 3))]))])]), .ite (.not (.call 17 [(.lam (.call 10 [(.var 1), (.call 11 [(.var 1), (.var 3)]), (.var 2)])), (.tup [(.k (PyData.str (PySem.Str.ofString "told"))), (.ix (.var 2) (.var 3))])])) [.ret (.k (PyData.bool false))] []] [], .ite (.not (.call 17 [(.lam (.call 11 [(.var 1), (.var 3)])), (.var 5)])) [.ret (.k (PyData.bool false))] []], .set 4 (.call 27 [(.var 0)]), .ret (.call 17 [(.lam (.call 11 [(.var 4), (.k PyData.none)])), (.tup [(.k (PyData.str (PySem.Str.ofString "BadMany"))), (.var 4)])])]
def b_law_hand_right : List IS := [.set 0 (.lst true [(.tup [(.k (PyData.int 2)), (.tup [(.k (PyData.int 9)), (.neg (.k (PyData.int 9)))]), (.k (PyData.bool true))]), (.tup [(.k (PyData.int 2)), (.tup [(.k (PyData.int 0)), (.neg (.k (PyData.int 10)))]), (.k (PyData.bool false))]), (.tup [(.k (PyData.int 2)), (.tup [(.k (PyData.bool true)), (.k (PyData.int 0))]), (.k (PyData.bool false))]), (.tup [(.k (PyData.int 0)), (.tup []), (.k (PyData.bool true))]), (.tup [(.k (PyData.int 0)), (.lst false []), (.k (PyData.bool false))])]), .ex (.me .extend (.var 0) [(.lst false [(.tup [(.k (PyData.int 1)), (.tup [(.k (PyData.int 1)), (.k (PyData.int 1))]), (.k (PyData.bool false))]), (.tup [(.k (PyData.int 2)), (.tup [(.tup [(.k (PyData.int 1))]), (.k (PyData.int 0))]), (.k (PyData.bool false))]), (.tup [(.k (PyData.int 2)), (.k (PyData.str (PySem.Str.ofString "12"))), (.k (PyData.bool false))]), (.tup [(.k (PyData.int 8)), (.bop .mul (.tup [(.k (PyData.int 9))]) (.k (PyData.int 8))), (.k (PyData.bool true))])])]), .ex (.me .append (.var 0) [(.tup [(.k (PyData.int 8)), (.bop .add (.bop .mul (.tup [(.k (PyData.int 9))]) (.k (PyData.int 7))) (.tup [(.k (PyData.int 10))])), (.k (PyData.bool false))])]), .for .seq [(.var 0)] (.tp [4, 5, 6]) [.ite (.not (.call 17 [(.lam (.call 9 [(.var 4), (.var 5)])), (.tup [(.k (PyData.str (PySem.Str.ofString "told"))), (.var 6)])])) [.ret (.k (PyData.bool false))] []], .set 1 (.bop .pow (.k (PyData.int 10)) (.k (PyData.int 40))), .set 2 (.lst false [(.tup [(.k (PyData.str (PySem.Str.ofString "told"))), (.bop .mul (.k (PyData.int 72)) (.var 1))]), (.tup [(.k (PyData.str (PySem.Str.ofString "told"))), (.k (PyData.int 0))]), (.tup [(.k (PyData.str (PySem.Str.ofString "BadEffect"))), (.k (PyData.int 7))])]), .set 3 (.lst true [(.call 16 [(.lam (.call 10 [(.k (PyData.int 8)), (.bop .mul (.tup [(.k (PyData.int 9))]) (.k (PyData.int 8))), (.bop .mul (.tup [(.var 1)]) (.k (PyData.int 8)))]))])]), .ex (.me .append (.var 3) [(.call 16 [(.lam (.call 10 [(.k (PyData.int 0)), (.tup []), (.tup [])]))])]), .ex (.me .append (.var 3) [(.call 16 [(.lam (.call 10 [(.k (PyData.int 8)), (.bop .mul (.tup [(.k (PyData.int 9))]) (.k (PyData.int 8))), (.bop .add (.bop .mul (.tup [(.var 1)]) (.k (PyData.int 7))) (.tup [(.bop .add (.var 1) (.k (PyData.int 1)))]))]))])]), .ret (.cmp .eq (.bi .repr false [(.var 3)]) (.bi .repr false [(.var 2)]))]
def b_law : List IS := [.set 1 (.call 12 [(.var 0)]), .for .seq [(.call 15 [(.var 1), (.bi .lrng false [(.k (PyData.int 9))])])] (.nm 2) [.ite (.or (.not (.call 30 [(.var 1), (.var 2)])) (.or (.not (.call 32 [(.var 1), (.var 2)])) (.not (.call 33 [(.var 1), (.var 2)])))) [.ret (.k (PyData.bool false))] []], .ret (.call 34 [])]
def fns0 : List Fn := [⟨3, 3, b_whole⟩, ⟨3, 3, b_many⟩, ⟨2, 2, b_is_number⟩, ⟨1, 1, b_asked_counts⟩, ⟨5, 3, b_wrong_numbers⟩, ⟨2, 2, b_wrong_form⟩, ⟨3, 2, b_asked_weights⟩, ⟨4, 2, b_dot⟩, ⟨2, 2, b_made_form⟩, ⟨2, 2, b_is_form⟩, ⟨4, 3, b_value⟩, ⟨3, 2, b_unit⟩, ⟨5, 1, b_law_pool⟩, ⟨3, 2, b_law_take⟩, ⟨2, 2, b_law_one⟩, ⟨5, 2, b_law_mixed⟩, ⟨5, 1, b_law_vq_heard⟩, ⟨2, 2, b_law_vq_says⟩, ⟨3, 3, b_law_vw_is⟩, ⟨3, 1, b_law_vw_first⟩, ⟨1, 1, b_law_vw_many_due⟩, ⟨6, 4, b_law_vw_row_due⟩, ⟨2, 2, b_law_vw_form_due⟩, ⟨3, 2, b_law_vw_value⟩, ⟨4, 3, b_law_vw_plus⟩, ⟨3, 3, b_law_vw_put⟩, ⟨2, 2, b_law_odd_number⟩, ⟨1, 1, b_law_odd_many⟩, ⟨5, 3, b_law_row⟩, ⟨6, 3, b_law_bent⟩, ⟨8, 2, b_law_made_right⟩, ⟨4, 3, b_law_value_due⟩, ⟨15, 2, b_law_values_right⟩, ⟨7, 2, b_law_units_right⟩, ⟨7, 0, b_law_hand_right⟩, ⟨3, 1, b_law⟩]
def ctx0 : Ev.Ctx := ⟨fns0, [PyData.int 10000000000000000000000000000000000000000, PyData.int 8, PyData.int 9], subT 12 [[true, false, false, false, false, false, false, false, false, false, false, false], [true, true, false, false, false, false, false, false, false, false, false, false], [true, false, true, false, false, false, false, false, false, false, false, false], [true, false, false, true, false, false, false, false, false, false, false, false], [true, false, false, false, true, false, false, false, false, false, false, false], [true, false, false, false, false, true, false, false, false, false, false, false], [true, false, false, false, false, false, true, false, false, false, false, false], [true, false, false, false, false, false, false, true, false, false, false, false], [true, false, false, false, false, false, false, false, true, false, false, false], [true, false, false, false, false, false, false, false, false, true, false, false], [true, false, false, false, false, false, false, false, false, false, true, false], [true, false, false, false, false, false, false, false, false, false, false, true]]⟩
end K01
open PySem Ev
local macro_rules | `(tactic| walk_at "w") => `(tactic| simp only [↓wE_var, ↓wE_k, ↓wE_glob, ↓wE_tup, ↓wE_lst, ↓wE_bop, ↓wE_neg, ↓wE_not, ↓wE_and, ↓wE_or, ↓wE_cmp, ↓wE_isn, ↓wE_chain, ↓wE_ite, ↓wE_ix, ↓wE_sl, ↓wE_call, ↓wE_bi, ↓wE_isx, ↓wE_what, ↓wE_me, ↓wE_comp, ↓wE_clo, ↓wL_nil, ↓wL_cons, ↓wA_lam, ↓wA_var, ↓wA_k, ↓wA_glob, ↓wA_tup, ↓wA_lst, ↓wA_bop, ↓wA_neg, ↓wA_not, ↓wA_and, ↓wA_or, ↓wA_cmp, ↓wA_isn, ↓wA_chain, ↓wA_ite, ↓wA_ix, ↓wA_sl, ↓wA_call, ↓wA_bi, ↓wA_isx, ↓wA_me, ↓wA_comp, ↓wA_clo, ↓wA_what, ↓wS, ↓wS_nil, ↓wS_cons, ↓w_set, ↓w_par, ↓w_unp, ↓w_setix, ↓w_aug, ↓w_ex, ↓w_ite, ↓w_for, ↓w_ret, ↓w_retN, ↓w_brk, ↓w_cont, ↓w_pass, ↓w_raise, ↓w_try, ↓w_frz, ↓evOW_none, ↓evOW_some,
  ↓b_add, ↓b_sub, ↓b_mul, ↓b_fdiv, ↓b_mod, ↓b_pow, ↓b_adds, ↓b_addt, ↓b_addl, ↓b_mult, ↓t_bool, ↓t_int, ↓t_none, ↓t_list, ↓t_tuple, ↓c_int, ↓c_str_eq, ↓c_str_ne, ↓c_list_eq, ↓c_list_ne, ↓c_tup_eq, ↓c_tup_ne, ↓n_int, ↓bool_d, ↓int_d, ↓dat_d, ↓isn_none, ↓isn_bool, ↓isn_int, ↓isn_str, ↓isn_list, ↓isn_tuple, ↓isn_cell, ↓ix_tuple, ↓ix_list, ↓ix_script, ↓ix_cell, ↓cell_lst, ↓sl_tuple, ↓sl_list, ↓cb_d, ↓cb_c, ↓cb_s, ↓cbl_d, ↓cbl_c, ↓cbl_s, ↓cbl_l, ↓nl_d, ↓nl_c, ↓nl_s, ↓slot_r, ↓lam_l, ↓exc_x, ↓opt_s,
  ↓bi_len_tuple, ↓bi_len_list, ↓bi_len_script, ↓bi_len_cell, ↓bi_len_str, ↓bi_int_int, ↓bi_int_bool, ↓isi_int_none, ↓isi_int_bool, ↓isi_int_int, ↓isi_int_str, ↓isi_int_list, ↓isi_int_tuple, ↓isi_bool_none, ↓isi_bool_bool, ↓isi_bool_int, ↓isi_bool_str, ↓isi_bool_list, ↓isi_bool_tuple, ↓isi_str_none, ↓isi_str_bool, ↓isi_str_int, ↓isi_str_str, ↓isi_str_list, ↓isi_str_tuple, ↓isi_tuple_none, ↓isi_tuple_bool, ↓isi_tuple_int, ↓isi_tuple_str, ↓isi_tuple_list, ↓isi_tuple_tuple, ↓isi_list_none, ↓isi_list_bool, ↓isi_list_int, ↓isi_list_str, ↓isi_list_list, ↓isi_list_tuple, ↓isi_int_cell, ↓isi_bool_cell, ↓isi_str_cell, ↓isi_tuple_cell, ↓isi_list_cell, ↓bi_abs, ↓bi_max, ↓bi_min, ↓bi_tuple_list, ↓bi_lrng1, ↓bi_lrng2, ↓fr_d, ↓rt_d, ↓rt_c, ↓wk_list, ↓wk_tuple, ↓Res.wp_ok, ↓Res.wp_exc,
  ↓tup_w, ↓nw_w, ↓nw_cell, ↓fr_c, ↓sx_w, ↓rv_append, ↓rv_extend, ↓rv_pop, ↓rv_join, ↓ma_w, ↓mx_w, ↓mp_w, allD_nil, allD_cons, Option.map_some, isB_d, isB_c, at_0, at_1, at_2, xn_30, xn_31, xn_32, sizeLine_eq, Nat.reduceLeDiff, Int.reduceNeg, Int.reduceAdd, Int.reduceSub, Int.reduceMul, Int.reduceLE, Int.reduceLT, decide_true, decide_false, and_true, true_and, List.take_succ_cons, List.take_length, List.all_cons, List.all_nil, Bool.and_true, pk_6, pk_9, pk_12, pk_18, pk_20, pk_30, pk_40, pk_50, pk_60, pk_100, tn_6, tn_9, tn_12, tn_18, tn_20, tn_30, tn_40, tn_50, tn_60, tn_100, ↓bl_tuple, ↓bl_list, get1, set1, ↓wk1, ↓wk1L, ↓mj_w, i_eq, i_ne, i_lt, i_le, i_gt, i_ge, List.getElem?_cons_zero, List.getElem?_cons_succ, List.set_cons_zero, List.set_cons_succ, List.map_cons, List.map_nil, List.cons_append, List.nil_append, List.replicate_succ, List.replicate_zero, Nat.reduceSub, Nat.reduceAdd, List.length_cons, List.length_nil, List.zip_cons_cons, List.zip_nil_left, List.foldl_cons, List.foldl_nil, ↓reduceIte, decide_eq_true_eq, Bool.not_eq_true', decide_eq_false_iff_not, Bool.false_eq_true, Bool.true_eq_false, if_true, if_false, Bool.not_true, Bool.not_false])

namespace K01
open PySem Ev
/-! ### the program's functions -/
abbrev C : Ev.Ctx := ctx0
def isIn (x : PyData) (lo hi : Int) : Bool := match x with
  | .int i => decide (lo ≤ i) && decide (i ≤ hi)
  | _ => false
section
variable {d : Nat} {x thing : PyData} {lo hi m most : Int} {st : Store} {Q : R → Store → Prop} {X : Nat → PyData → Store → Prop}
theorem lev_f {d f : Nat} {rs : List R} {st : Store} : LF C (d + 1) f rs st = callF C (LF C d) (LL C d) f rs st := by rw [LF_succ]
theorem if_and {p q : Prop} [Decidable p] [Decidable q] {P : Bool → Prop} (h : P (decide p && decide q)) : if p then P (decide q) else P false := by
  by_cases hp : p
  · rw [if_pos hp]; simpa [hp] using h
  · rw [if_neg hp]; simpa [hp] using h
theorem whole_ok (hx : isDict x = false) (h : Q (.d (.bool (isIn x lo hi))) st) : (LF C (d + 1) 0 [.d x, .d (.int lo), .d (.int hi)] st).wp Q X := by
  rw [lev_f, call_wp (fn := ⟨3, 3, b_whole⟩) rfl rfl]
  unfold b_whole textDepth
  cases x with
  | int i =>
    walk_at "w"
    exact if_and (P := fun b => Q (.d (.bool b)) st) h
  | dict _ => cases hx
  | _ =>
    walk_at "w"
    exact h
theorem many_ok (hx : isDict x = false) (h : if isIn x lo hi = true then Q (.d .none) st else X 1 x st) : (LF C (d + 2) 1 [.d x, .d (.int lo), .d (.int hi)] st).wp Q X := by
  rw [lev_f, call_wp (fn := ⟨3, 3, b_many⟩) rfl rfl]
  unfold b_many textDepth
  walk_at "w"
  refine whole_ok hx ?_
  walk_at "w"
  cases e : isIn x lo hi <;> rw [e] at h <;> simpa using h
theorem number_ok (hx : isDict x = false) (h : Q (.d (.bool (isIn x (-most) most))) st) : (LF C (d + 1) 2 [.d x, .d (.int most)] st).wp Q X := by
  rw [lev_f, call_wp (fn := ⟨2, 2, b_is_number⟩) rfl rfl]
  unfold b_is_number textDepth
  cases x with
  | int i =>
    walk_at "w"
    exact if_and (P := fun b => Q (.d (.bool b)) st) h
  | dict _ => cases hx
  | _ =>
    walk_at "w"
    exact h
theorem counts_ok (hx : isDict x = false) (h : if isIn x 0 8 = true then Q (.d .none) st else X 1 x st) : (LF C (d + 3) 3 [.d x] st).wp Q X := by
  rw [lev_f, call_wp (fn := ⟨1, 1, b_asked_counts⟩) rfl rfl]
  unfold b_asked_counts textDepth
  walk_at "w"
  have e : C.globs[1]? = some (.int 8) := rfl
  rw [e]
  walk_at "w"
  refine many_ok hx ?_
  walk_at "w"
  exact h
def badAt (xs : List PyData) (most : Int) : Option Nat := xs.findIdx? fun x => !isIn x (-most) most
/-- the first that is wrong -/
def wrongN (m : Int) (thing : PyData) (most : Int) : PyData := match thing with
  | .tuple xs => if (xs.length : Int) = m then (match badAt xs most with
    | some k => .int k
    | none => .none) else .int (-1)
  | _ => .int (-1)
theorem wk_enum {xs : List PyData} : walks .enum [.d (.tuple xs)] st = some (enumFrom 0 xs) := by
  show (match some (xs.map R.d) with | some ys => (allD ys).map (enumFrom 0) | none => none) = _
  simp only [allD_all, Option.map_some]
theorem enum_len : ∀ (xs : List PyData) (n : Nat), (enumFrom n xs).length = xs.length
  | [], _ => rfl
  | x :: xs, n => by simp [enumFrom, enum_len xs]
theorem enum_get : ∀ (xs : List PyData) (n i : Nat), (enumFrom n xs)[i]? = (xs[i]?).map fun x => R.d (.tuple [.int ((n + i : Nat) : Int), x])
  | [], _, _ => by simp [enumFrom]
  | x :: xs, n, 0 => by simp [enumFrom]
  | x :: xs, n, i + 1 => by
    simp only [enumFrom, List.getElem?_cons_succ]
    rw [enum_get xs (n + 1) i]
    congr 1
    funext y
    rw [show n + 1 + i = n + (i + 1) by omega]
theorem numbers_ok (ht : isDict thing = false) (hx : ∀ xs, thing = .tuple xs → ∀ x ∈ xs, isDict x = false) (h : Q (.d (wrongN m thing most)) st) : (LF C (d + 2) 4 [.d (.int m), .d thing, .d (.int most)] st).wp Q X := by
  rw [lev_f, call_wp (fn := ⟨5, 3, b_wrong_numbers⟩) rfl rfl]
  unfold b_wrong_numbers textDepth
  cases thing with
  | dict _ => cases ht
  | tuple xs =>
    walk_at "w"
    unfold wrongN at h
    dsimp only at h
    by_cases hl : (xs.length : Int) = m
    · rw [if_pos hl] at h
      rw [if_neg (fun z => z hl), wk_enum]
      walk_at "w"
      refine forL_wp (fun i env s => ∃ o3 o4, env = [some (.d (.int m)), some (.d (.tuple xs)), some (.d (.int most)), o3, o4] ∧ s = st ∧ ∀ j, j < i → ∀ y, xs[j]? = some y → isIn y (-most) most = true) (fun i env s _ => rfl) ?_ ?_ ⟨none, none, rfl, rfl, fun j hj => absurd hj (Nat.not_lt_zero _)⟩
      · rintro env s ⟨o3, o4, rfl, rfl, hs⟩
        rw [enum_len] at hs
        have e : badAt xs most = none := by
          unfold badAt
          rw [List.findIdx?_eq_none_iff]
          intro y hy
          obtain ⟨j, hj, rfl⟩ := List.mem_iff_getElem.mp hy
          rw [hs j hj _ (List.getElem?_eq_getElem hj)]
          rfl
        rw [e] at h
        walk_at "w"
        exact h
      · rintro i y env s hy ⟨o3, o4, rfl, rfl, hs⟩
        rw [enum_get] at hy
        cases ey : xs[i]? with
        | none => rw [ey] at hy; cases hy
        | some z =>
          rw [ey] at hy
          have hy : R.d (.tuple [.int ((0 + i : Nat) : Int), z]) = y := Option.some.inj hy
          subst hy
          rw [forB_wp, tg_tp]
          simp only [sa_cons, sa_nil, List.set_cons_succ, List.set_cons_zero]
          walk_at "w"
          refine number_ok (hx xs rfl z (List.mem_of_getElem? ey)) ?_
          walk_at "w"
          by_cases hz : isIn z (-most) most = true
          · rw [hz]
            walk_at "w"
            rw [trim_same (Nat.le_refl _)]
            refine ⟨_, _, rfl, rfl, fun j hj w hw => ?_⟩
            rcases Nat.lt_or_ge j i with q | q
            · exact hs j q w hw
            · obtain rfl : j = i := by omega
              rw [ey] at hw
              cases hw
              exact hz
          · have hz' : isIn z (-most) most = false := by simpa using hz
            rw [hz']
            walk_at "w"
            have e : badAt xs most = some i := by
              unfold badAt
              rw [List.findIdx?_eq_some_iff_getElem]
              have hi := (List.getElem?_eq_some_iff.mp ey).1
              refine ⟨hi, ?_, fun j hj => ?_⟩
              · have : xs[i] = z := (List.getElem?_eq_some_iff.mp ey).2
                rw [this, hz']
                rfl
              · rw [hs j hj _ (List.getElem?_eq_getElem (by omega))]
                simp
            rw [e] at h
            simpa using h
    · rw [if_neg hl] at h
      rw [if_pos hl]
      exact h
  | _ =>
    walk_at "w"
    exact h
end
end K01
namespace K01
open PySem Ev
section
variable {d : Nat} {x thing : PyData} {lo hi m most : Int} {st : Store} {Q : R → Store → Prop} {X : Nat → PyData → Store → Prop} {xs ys : List PyData}
def isNo : PyData → Bool
  | .none => true
  | _ => false
theorem isNo_eq {x : PyData} (h : isNo x = true) : x = .none := by cases x <;> first | rfl | cases h
/-- nothing of it is a dict, its items neither -/
def NoD (x : PyData) : Prop := isDict x = false ∧ ∀ xs, x = .tuple xs → ∀ y ∈ xs, isDict y = false
theorem wrongN_cases (m : Int) (thing : PyData) (most : Int) : wrongN m thing most = .none ∨ ∃ k, wrongN m thing most = .int k := by
  unfold wrongN
  split
  · split
    · split
      · exact .inr ⟨_, rfl⟩
      · exact .inl rfl
    · exact .inr ⟨_, rfl⟩
  · exact .inr ⟨_, rfl⟩
theorem form_ok (hn : NoD thing) (h : Q (.d (wrongN m thing 9)) st) : (LF C (d + 3) 5 [.d (.int m), .d thing] st).wp Q X := by
  rw [lev_f, call_wp (fn := ⟨2, 2, b_wrong_form⟩) rfl rfl]
  unfold b_wrong_form textDepth
  walk_at "w"
  have e : C.globs[2]? = some (.int 9) := rfl
  rw [e]
  walk_at "w"
  refine numbers_ok hn.1 hn.2 ?_
  walk_at "w"
  exact h
theorem weights_ok (hn : NoD thing) (h : if isNo (wrongN m thing 9) = true then Q (.d .none) st else X 3 (wrongN m thing 9) st) : (LF C (d + 4) 6 [.d (.int m), .d thing] st).wp Q X := by
  rw [lev_f, call_wp (fn := ⟨3, 2, b_asked_weights⟩) rfl rfl]
  unfold b_asked_weights textDepth
  walk_at "w"
  refine form_ok hn ?_
  walk_at "w"
  rcases wrongN_cases m thing 9 with e | ⟨k, e⟩
  · rw [e] at h ⊢
    walk_at "w"
    simpa [isNo] using h
  · rw [e] at h ⊢
    walk_at "w"
    simpa [isNo] using h
def toI : PyData → Int
  | .int i => i
  | _ => 0
def dotV (xs ys : List PyData) : Int := (List.zipWith (fun x y => toI x * toI y) xs ys).sum
theorem isIn_int (h : isIn x lo hi = true) : ∃ i, x = .int i ∧ lo ≤ i ∧ i ≤ hi := by
  cases x with
  | int i =>
    simp only [isIn, Bool.and_eq_true, decide_eq_true_eq] at h
    exact ⟨i, rfl, h.1, h.2⟩
  | _ => simp [isIn] at h
/-- a row of whole numbers -/
def Row (xs : List PyData) (most : Int) : Prop := ∀ x ∈ xs, isIn x (-most) most = true
theorem Row.get {n : Nat} (h : Row xs most) (hx : xs[n]? = some x) : ∃ i, x = .int i ∧ -most ≤ i ∧ i ≤ most := isIn_int (h x (List.mem_of_getElem? hx))
theorem wrongN_none (h : wrongN m thing most = .none) : ∃ xs, thing = .tuple xs ∧ (xs.length : Int) = m ∧ Row xs most := by
  unfold wrongN at h
  split at h
  · rename_i xs
    split at h
    · rename_i hl
      split at h
      · cases h
      · rename_i e
        refine ⟨xs, rfl, hl, fun x hx => ?_⟩
        unfold badAt at e
        rw [List.findIdx?_eq_none_iff] at e
        simpa using e x hx
    · cases h
  · cases h
theorem row_none (h : Row xs most) (hl : (xs.length : Int) = m) : wrongN m (.tuple xs) most = .none := by
  unfold wrongN
  dsimp only
  rw [if_pos hl]
  have e : badAt xs most = none := by
    unfold badAt
    rw [List.findIdx?_eq_none_iff]
    intro x hx
    rw [h x hx]
    rfl
  rw [e]
def prodG (r : R) : PyData := match r with
  | .d (.tuple [.int a, .int b]) => .int (a * b)
  | _ => .none
theorem zip2_map : ∀ {xs ys : List PyData}, Row xs 9 → Row ys (10 ^ 40) → (zip2 xs ys).map prodG = (List.zipWith (fun x y => toI x * toI y) xs ys).map PyData.int
  | [], ys, _, _ => by simp [zip2]
  | x :: xs, [], _, _ => by simp [zip2]
  | x :: xs, y :: ys, h1, h2 => by
    obtain ⟨i, rfl, _⟩ := isIn_int (h1 x List.mem_cons_self)
    obtain ⟨j, rfl, _⟩ := isIn_int (h2 y List.mem_cons_self)
    simp only [zip2, List.map_cons, List.zipWith_cons_cons]
    rw [zip2_map (fun z hz => h1 z (List.mem_cons_of_mem _ hz)) (fun z hz => h2 z (List.mem_cons_of_mem _ hz))]
    rfl
theorem zip2_mem : ∀ {xs ys : List PyData}, Row xs 9 → Row ys (10 ^ 40) → ∀ r ∈ zip2 xs ys, ∃ i j : Int, r = .d (.tuple [.int i, .int j]) ∧ i.natAbs < 2 ^ 4 ∧ j.natAbs < 2 ^ 140
  | [], ys, _, _, r, h => by simp [zip2] at h
  | x :: xs, [], _, _, r, h => by simp [zip2] at h
  | x :: xs, y :: ys, h1, h2, r, h => by
    obtain ⟨i, rfl, a1, a2⟩ := isIn_int (h1 x List.mem_cons_self)
    obtain ⟨j, rfl, b1, b2⟩ := isIn_int (h2 y List.mem_cons_self)
    simp only [zip2, List.mem_cons] at h
    rcases h with rfl | h
    · exact ⟨i, j, rfl, by omega, by omega⟩
    · exact zip2_mem (fun z hz => h1 z (List.mem_cons_of_mem _ hz)) (fun z hz => h2 z (List.mem_cons_of_mem _ hz)) r h
theorem zip2_len : ∀ {xs ys : List PyData}, (zip2 xs ys).length ≤ xs.length
  | [], ys => by simp [zip2]
  | x :: xs, [] => by simp [zip2]
  | x :: xs, y :: ys => by simp only [zip2, List.length_cons]; have := zip2_len (xs := xs) (ys := ys); omega
theorem allInts_map : ∀ l : List Int, allInts (l.map PyData.int) = some l
  | [] => rfl
  | i :: l => by simp [allInts, allInts_map l]
theorem wk_zip : walks .zip [.d (.tuple xs), .d (.tuple ys)] st = some (zip2 xs ys) := by
  show (match allD (xs.map R.d), allD (ys.map R.d) with | some a, some b => some (zip2 a b) | _, _ => none) = _
  rw [allD_all, allD_all]
theorem dot_ok (h1 : Row xs 9) (h2 : Row ys (10 ^ 40)) (hl : xs.length ≤ 1000) (h : Q (.d (.int (dotV xs ys))) st) : (LF C (d + 1) 7 [.d (.tuple xs), .d (.tuple ys)] st).wp Q X := by
  rw [lev_f, call_wp (fn := ⟨4, 2, b_dot⟩) rfl rfl]
  unfold b_dot textDepth
  walk_at "w"
  rw [wk_zip]
  walk_at "w"
  refine comp_map prodG (by have := zip2_len (xs := xs) (ys := ys); rw [sizeLine_eq]; omega) (fun _ => rfl) (fun r hr c => ?_) ?_
  · obtain ⟨i, j, rfl, hi, hj⟩ := zip2_mem h1 h2 r hr
    rw [compB_wp, tg_tp]
    simp only [wipe, List.map_cons, List.map_nil, List.foldl_cons, List.foldl_nil, List.set_cons_succ, List.set_cons_zero, sa_cons, sa_nil]
    walk_at "w"
    exact ⟨mul_ok hi hj (by omega), rfl⟩
  · rw [zip2_map h1 h2, bi_sum (allInts_map _)]
    walk_at "w"
    exact h
theorem made_ok (hx : isDict x = false) (hn : NoD thing) (h : if isIn x 0 8 = true then (if isNo (wrongN (toI x) thing 9) = true then Q (.d thing) st else X 3 (wrongN (toI x) thing 9) st) else X 1 x st) : (LF C (d + 5) 8 [.d x, .d thing] st).wp Q X := by
  rw [lev_f, call_wp (fn := ⟨2, 2, b_made_form⟩) rfl rfl]
  unfold b_made_form textDepth
  walk_at "w"
  refine counts_ok (d := d + 1) hx ?_
  walk_at "w"
  by_cases hi : isIn x 0 8 = true
  · rw [if_pos hi] at h ⊢
    obtain ⟨i, rfl, _⟩ := isIn_int hi
    refine weights_ok hn ?_
    walk_at "w"
    exact h
  · rw [if_neg hi] at h ⊢
    exact h
theorem isform_ok (hx : isDict x = false) (hn : NoD thing) (h : if isIn x 0 8 = true then Q (.d (.bool (isNo (wrongN (toI x) thing 9)))) st else X 1 x st) : (LF C (d + 4) 9 [.d x, .d thing] st).wp Q X := by
  rw [lev_f, call_wp (fn := ⟨2, 2, b_is_form⟩) rfl rfl]
  unfold b_is_form textDepth
  walk_at "w"
  refine counts_ok hx ?_
  walk_at "w"
  by_cases hi : isIn x 0 8 = true
  · rw [if_pos hi] at h ⊢
    obtain ⟨i, rfl, _⟩ := isIn_int hi
    refine form_ok hn ?_
    rcases wrongN_cases (toI (.int i)) thing 9 with e | ⟨k, e⟩
    · rw [e] at h
      have e : wrongN i thing 9 = .none := e
      rw [e]
      walk_at "w"
      simpa [isNo] using h
    · rw [e] at h
      have e : wrongN i thing 9 = .int k := e
      rw [e]
      walk_at "w"
      simpa [isNo] using h
  · rw [if_neg hi] at h ⊢
    exact h
theorem value_ok {form effect : PyData} (hx : isDict x = false) (hn : NoD form) (hn2 : NoD effect) (h : if isIn x 0 8 = true then (if isNo (wrongN (toI x) form 9) = true then (if isNo (wrongN (toI x) effect (10 ^ 40)) = true then (∀ xs ys, form = .tuple xs → effect = .tuple ys → Q (.d (.int (dotV xs ys))) st) else X 4 (wrongN (toI x) effect (10 ^ 40)) st) else X 3 (wrongN (toI x) form 9) st) else X 1 x st) :
    (LF C (d + 5) 10 [.d x, .d form, .d effect] st).wp Q X := by
  rw [lev_f, call_wp (fn := ⟨4, 3, b_value⟩) rfl rfl]
  unfold b_value textDepth
  walk_at "w"
  refine counts_ok (d := d + 1) hx ?_
  walk_at "w"
  by_cases hi : isIn x 0 8 = true
  · rw [if_pos hi] at h ⊢
    obtain ⟨i, rfl, h0, h8⟩ := isIn_int hi
    refine weights_ok hn ?_
    walk_at "w"
    by_cases hf : isNo (wrongN (toI (.int i)) form 9) = true
    · rw [if_pos hf] at h
      have hf : isNo (wrongN i form 9) = true := hf
      rw [if_pos hf]
      have hf := isNo_eq hf
      have e : C.globs[0]? = some (.int (10 ^ 40)) := rfl
      rw [e]
      walk_at "w"
      refine numbers_ok (d := d + 2) hn2.1 hn2.2 ?_
      walk_at "w"
      rcases wrongN_cases i effect (10 ^ 40) with e | ⟨k, e⟩
      · rw [if_pos (show isNo (wrongN (toI (.int i)) effect (10 ^ 40)) = true by rw [show wrongN (toI (.int i)) effect (10 ^ 40) = .none from e]; rfl)] at h
        rw [e]
        walk_at "w"
        obtain ⟨xs, rfl, l1, r1⟩ := wrongN_none hf
        obtain ⟨ys, rfl, l2, r2⟩ := wrongN_none e
        refine dot_ok (d := d + 3) r1 r2 (by omega) ?_
        walk_at "w"
        exact h xs ys rfl rfl
      · have en : ¬ isNo (wrongN (toI (.int i)) effect (10 ^ 40)) = true := by rw [show wrongN (toI (.int i)) effect (10 ^ 40) = .int k from e]; simp [isNo]
        rw [if_neg en] at h
        have h : X 4 (wrongN i effect (10 ^ 40)) st := h
        rw [e] at h ⊢
        walk_at "w"
        exact h
    · rw [if_neg hf] at h
      rw [if_neg (show ¬ isNo (wrongN i form 9) = true from hf)]
      exact h
  · rw [if_neg hi] at h ⊢
    exact h
/-- the form that is 1 at one count -/
def unitV (m i : Int) : List PyData := (List.range m.toNat).map fun k => .int (if ((k : Nat) : Int) = i then 1 else 0)
theorem unit_ok {i : PyData} (hx : isDict x = false) (hd : isDict i = false) (h : if isIn x 0 8 = true then (if isIn i 0 (toI x - 1) = true then Q (.d (.tuple (unitV (toI x) (toI i)))) st else X 5 i st) else X 1 x st) : (LF C (d + 4) 11 [.d x, .d i] st).wp Q X := by
  rw [lev_f, call_wp (fn := ⟨3, 2, b_unit⟩) rfl rfl]
  unfold b_unit textDepth
  walk_at "w"
  refine counts_ok hx ?_
  walk_at "w"
  by_cases hi : isIn x 0 8 = true
  · rw [if_pos hi] at h ⊢
    obtain ⟨m, rfl, h0, h8⟩ := isIn_int hi
    walk_at "w"
    refine whole_ok (d := d + 2) hd ?_
    walk_at "w"
    by_cases h2 : isIn i 0 (m - 1) = true
    · rw [if_pos (show isIn i 0 (toI (.int m) - 1) = true from h2)] at h
      rw [h2]
      obtain ⟨j, rfl, _⟩ := isIn_int h2
      walk_at "w"
      have hb : inB m = true := by unfold inB; exact decide_eq_true (by omega)
      rw [wk_rng1, if_pos hb]
      walk_at "w"
      refine comp_map (fun r => match r with | .d (.int k) => .int (if k = j then 1 else 0) | _ => .none) (by rw [rng_len, sizeLine_eq]; omega) (fun _ => rfl) (fun r hr c => ?_) ?_
      · obtain ⟨k, hk, rfl⟩ := rng_mem hr
        rw [compB_wp, tg_nm]
        simp only [wipe, List.map_cons, List.map_nil, List.foldl_cons, List.foldl_nil, List.set_cons_succ, List.set_cons_zero]
        walk_at "w"
      · walk_at "w"
        have e : (rngList 0 m.toNat).map (fun r => match r with | .d (.int k) => PyData.int (if k = j then 1 else 0) | _ => .none) = unitV m j := by
          unfold rngList unitV
          rw [List.map_map]
          congr 1
          funext k
          simp
        rw [e]
        exact h
    · rw [if_neg (show ¬ isIn i 0 (toI (.int m) - 1) = true from h2)] at h
      have h2' : isIn i 0 (m - 1) = false := by simpa using h2
      rw [h2']
      walk_at "w"
      exact h
  · rw [if_neg hi] at h ⊢
    exact h
end
end K01
namespace K01
open PySem Ev
/-! ### the law's own functions, drawing nothing -/
section
variable {d : Nat} {x thing : PyData} {lo hi m most : Int} {st : Store} {Q : R → Store → Prop} {X : Nat → PyData → Store → Prop} {xs ys : List PyData} {name : Str}
theorem is_ok (hx : isDict x = false) (h : Q (.d (.bool (isIn x lo hi))) st) : (LF C (d + 1) 18 [.d x, .d (.int lo), .d (.int hi)] st).wp Q X := by
  rw [lev_f, call_wp (fn := ⟨3, 3, b_law_vw_is⟩) rfl rfl]
  unfold b_law_vw_is textDepth
  cases x with
  | int i =>
    walk_at "w"
    exact if_and (P := fun b => Q (.d (.bool b)) st) h
  | dict _ => cases hx
  | _ =>
    walk_at "w"
    exact h
/-- what is due of what is wrong -/
def dueOf (name : Str) (w : PyData) : PyData := match w with
  | .none => .none
  | w => .tuple [.str name, w]
theorem shaped_nil : SeqAt.shaped (.list []) = true := by decide
theorem eqv_nil : ∀ l : List PyData, PyData.eqv (.list l) (.list []) = l.isEmpty
  | [] => by simp [PyData.eqv, PyData.eqvAll]
  | x :: l => by simp [PyData.eqv, PyData.eqvAll]
theorem first_ok {n : Nat} (hk : ∀ x ∈ xs, Ok 20 n x) (hl : xs.length ≤ 1000) (h : Q (.d (((xs.filter fun x => !isNo x).head?).getD .none)) st) : (LF C (d + 1) 19 [.d (.list xs)] st).wp Q X := by
  rw [lev_f, call_wp (fn := ⟨3, 1, b_law_vw_first⟩) rfl rfl]
  unfold b_law_vw_first textDepth
  walk_at "w"
  refine comp_pure (fun r => match r with | .d x => if isNo x then none else some x | _ => none) (by rw [List.length_map, sizeLine_eq]; omega) (fun _ => rfl) (fun r hr c => ?_) ?_
  · obtain ⟨y, hy, rfl⟩ := List.mem_map.mp hr
    rw [compB_wp, tg_nm]
    simp only [wipe, List.map_cons, List.map_nil, List.foldl_cons, List.foldl_nil, List.set_cons_succ, List.set_cons_zero]
    cases y with
    | dict _ => have := (hk _ hy).lay; simp [PyData.canLay0] at this
    | _ =>
      walk_at "w"
      first | rfl | exact ⟨rfl, rfl⟩
  · have e : (xs.map R.d).filterMap (fun r => match r with | .d x => if isNo x then none else some x | _ => none) = xs.filter fun x => !isNo x := by
      clear h hl hk
      induction xs with
      | nil => rfl
      | cons x xs ih =>
        rw [List.map_cons, List.filterMap_cons, List.filter_cons]
        cases e : isNo x <;> simp [e, ih]
    rw [e]
    have hf : ∀ x ∈ xs.filter (fun x => !isNo x), Ok 20 n x := fun x hx => hk x (List.mem_filter.mp hx).1
    revert h hf
    generalize xs.filter (fun x => !isNo x) = fs
    intro h hf
    walk_at "w"
    have hs : SeqAt.shaped (.list fs) = true := (ok_list (d' := 21) (oks_all hf) (by omega) (Nat.le_refl _)).shaped
    rw [hs, shaped_nil, eqv_nil]
    cases fs with
    | nil =>
      refine ⟨rfl, ?_⟩
      (try walk_at "w")
      exact h
    | cons f fs =>
      refine ⟨rfl, ?_⟩
      simp only [List.isEmpty_cons, Bool.not_false, ↓reduceIte]
      (try walk_at "w")
      exact h
theorem manydue_ok (hx : isDict x = false) (h : Q (.d (if isIn x 0 8 = true then .none else .tuple [.str (Str.ofString "BadMany"), x])) st) : (LF C (d + 2) 20 [.d x] st).wp Q X := by
  rw [lev_f, call_wp (fn := ⟨1, 1, b_law_vw_many_due⟩) rfl rfl]
  unfold b_law_vw_many_due textDepth
  walk_at "w"
  refine is_ok hx ?_
  walk_at "w"
  by_cases hi : isIn x 0 8 = true
  · rw [if_pos hi] at h ⊢
    exact h
  · rw [if_neg hi] at h ⊢
    exact h
theorem fm_if {α β : Type} (p : α → Bool) (f : α → β) : ∀ l : List α, l.filterMap (fun x => if p x = true then none else some (f x)) = (l.filter fun x => !p x).map f
  | [] => rfl
  | x :: l => by
    rw [List.filterMap_cons, List.filter_cons, fm_if p f l]
    cases p x <;> simp
/-- the places of what is wrong -/
def bads (p : PyData → Bool) (xs : List PyData) : List Nat := (List.range xs.length).filter fun i => p (xs.getD i .none)
theorem bads_head (p : PyData → Bool) : ∀ xs : List PyData, (bads p xs).head? = xs.findIdx? p
  | [] => rfl
  | x :: xs => by
    have ih := bads_head p xs
    unfold bads at ih ⊢
    rw [List.length_cons, List.range_succ_eq_map, List.filter_cons, List.findIdx?_cons]
    have e : (List.map Nat.succ (List.range xs.length)).filter (fun i => p ((x :: xs).getD i .none)) = ((List.range xs.length).filter fun i => p (xs.getD i .none)).map Nat.succ := by
      rw [List.filter_map]
      rfl
    rw [e]
    cases hp : p x with
    | true => simp [hp]
    | false =>
      simp only [List.getD_cons_zero, hp]
      simp only [Bool.false_eq_true, ↓reduceIte, List.head?_map, ih]
theorem rowdue_ok (hn : NoD thing) (hs : m ≤ 1000) (h : Q (.d (dueOf name (wrongN m thing most))) st) : (LF C (d + 2) 21 [.d (.str name), .d thing, .d (.int m), .d (.int most)] st).wp Q X := by
  rw [lev_f, call_wp (fn := ⟨6, 4, b_law_vw_row_due⟩) rfl rfl]
  unfold b_law_vw_row_due textDepth
  cases thing with
  | dict _ => cases hn.1
  | tuple xs =>
    walk_at "w"
    unfold wrongN at h
    dsimp only at h
    by_cases hl : (xs.length : Int) = m
    · rw [if_pos hl] at h
      rw [if_neg (fun z => z hl)]
      have hb : inB m = true := by unfold inB; exact decide_eq_true (by omega)
      rw [wk_rng1, if_pos hb]
      walk_at "w"
      have em : m.toNat = xs.length := by omega
      refine comp_pure (fun r => match r with | .d (.int k) => if isIn (xs.getD k.toNat .none) (-most) most then none else some (.int k) | _ => none) (by rw [rng_len, sizeLine_eq]; omega) (fun _ => rfl) (fun r hr c => ?_) ?_
      · obtain ⟨k, hk, rfl⟩ := rng_mem hr
        rw [compB_wp, tg_nm]
        simp only [wipe, List.map_cons, List.map_nil, List.foldl_cons, List.foldl_nil, List.set_cons_succ, List.set_cons_zero]
        walk_at "w"
        have hk2 : k < xs.length := by omega
        rw [Int.zero_add, at_nat, List.getElem?_eq_getElem hk2]
        walk_at "w"
        refine is_ok (hn.2 xs rfl _ (List.getElem_mem hk2)) ?_
        walk_at "w"
        rw [Int.toNat_natCast, List.getD_eq_getElem?_getD, List.getElem?_eq_getElem hk2, Option.getD_some]
        cases isIn xs[k] (-most) most <;> simp
      · have e : (rngList 0 m.toNat).filterMap (fun r => match r with | .d (.int k) => if isIn (xs.getD k.toNat .none) (-most) most then none else some (.int k) | _ => none) = (bads (fun x => !isIn x (-most) most) xs).map fun k => PyData.int (k : Nat) := by
          rw [em]
          unfold rngList bads
          rw [List.filterMap_map, ← fm_if]
          congr 1
          funext k
          simp only [Function.comp, Int.zero_add, Int.toNat_natCast]
        rw [e]
        have hh := bads_head (fun x => !isIn x (-most) most) xs
        have hlen : (bads (fun x => !isIn x (-most) most) xs).length ≤ 1000 := by
          unfold bads
          refine Nat.le_trans (List.length_filter_le _ _) ?_
          rw [List.length_range]
          omega
        have hlt : ∀ k ∈ bads (fun x => !isIn x (-most) most) xs, k < 1001 := fun k hk => by
          unfold bads at hk
          have := List.mem_range.mp (List.mem_filter.mp hk).1
          omega
        unfold badAt at h
        rw [← hh] at h
        revert h hlen hlt
        generalize bads (fun x => !isIn x (-most) most) xs = bs
        intro h hlen hlt
        walk_at "w"
        have hs2 : SeqAt.shaped (.list (bs.map fun k => PyData.int (k : Nat))) = true := by
          refine (ok_list (d' := 1) (oks_all (d := 0) (n := 1921) fun x hx => ?_) (by omega) (Nat.le_refl _)).shaped
          obtain ⟨k, hk, rfl⟩ := List.mem_map.mp hx
          exact ok_int (by have := hlt k hk; exact pow_lt (k := 20) (by omega) (by decide))
        rw [hs2, shaped_nil, eqv_nil]
        cases bs with
        | nil =>
          refine ⟨rfl, ?_⟩
          (try walk_at "w")
          exact h
        | cons f fs =>
          refine ⟨rfl, ?_⟩
          simp only [List.map_cons, List.isEmpty_cons, Bool.not_false, ↓reduceIte]
          (try walk_at "w")
          exact h
    · rw [if_neg hl] at h
      rw [if_pos hl]
      exact h
  | _ =>
    walk_at "w"
    exact h
theorem formdue_ok (hn : NoD thing) (hs : m ≤ 1000) (h : Q (.d (dueOf (Str.ofString "BadForm") (wrongN m thing 9))) st) : (LF C (d + 3) 22 [.d (.int m), .d thing] st).wp Q X := by
  rw [lev_f, call_wp (fn := ⟨2, 2, b_law_vw_form_due⟩) rfl rfl]
  unfold b_law_vw_form_due textDepth
  walk_at "w"
  refine rowdue_ok hn hs ?_
  walk_at "w"
  exact h
end
end K01
namespace K01
open PySem Ev
/-! ### the law's own functions that draw -/
section
variable {d k : Nat} {x thing : PyData} {lo hi m most : Int} {t st : Store} {Q : R → Store → Prop} {X : Nat → PyData → Store → Prop} {xs ys : List PyData} {name : Str}
theorem takeS : TakeS (LF C (d + 1)) 13 := by rw [LF_succ]; exact take_ok rfl
theorem oneS : OneS (LF C (d + 2)) 14 := by rw [LF_succ]; exact one_ok (g := 13) rfl takeS
theorem mixS : MixS (LF C (d + 2)) 15 := by rw [LF_succ]; exact mixed_ok (g := 13) rfl takeS
theorem poolS : PoolS (LF C (d + 1)) 12 := by rw [LF_succ]; exact pool_ok rfl
theorem subS : SubS C := by
  have h : ∀ c, c < 12 → ∀ j, j < 12 → C.sub c j = (c == j || j == 0) := by decide
  exact fun c j hc hj => h c (by omega) j (by omega)
theorem heardS : HeardS (LF C (d + 1)) (LL C d) 16 := by rw [LF_succ]; exact heard_ok rfl subS
theorem saysS : SaysS (LF C (d + 2)) (LL C d) 17 := by rw [LF_succ]; exact says_ok (g := 16) rfl heardS
theorem oks2 {x : PyData} {n : Nat} (h : n ≤ 2000) (z : Ok 0 n x) : Ok 1 2000 x := z.mono
theorem ok1_int {i : Int} (h : i.natAbs < 2 ^ 400) : Ok 1 2000 (.int i) := (ok_int (pow_lt h (by decide))).mono
theorem ok1_tup1 {i : Int} (h : i.natAbs < 2 ^ 400) : Ok 1 2000 (.tuple [.int i]) := ok_tuple (d := 0) (n := 1923) (oks_cons (m := 0) (ok_int (pow_lt h (by decide))) oks_nil) (by omega) (by omega)
theorem ok1_list1 {i : Int} (h : i.natAbs < 2 ^ 400) : Ok 1 2000 (.list [.int i]) := ok_list (d := 0) (n := 1923) (oks_cons (m := 0) (ok_int (pow_lt h (by decide))) oks_nil) (by omega) (by omega)
theorem ok1_tup0 : Ok 1 2000 (.tuple []) := ok_tuple (d := 0) (n := 0) oks_nil (by omega) (by omega)
theorem ok1_list0 : Ok 1 2000 (.list []) := ok_list (d := 0) (n := 0) oks_nil (by omega) (by omega)
theorem ok1_none : Ok 1 2000 .none := ok_none.mono
theorem ok1_bool {b : Bool} : Ok 1 2000 (.bool b) := ok_bool.mono
theorem ok1_str {s : Str} (h : PyData.strOk s = true) (hl : s.length ≤ 100) : Ok 1 2000 (.str s) := (ok_str h).mono
theorem oddnum_ok (hJ : JS k t st) (hk : k < 2 ^ 30) (h0 : 1 ≤ most) (h1 : most ≤ 10 ^ 40) (h : ∀ x st', JS (k + 1) t st' → Ok 1 2000 x → Q (.d x) st') : (LF C (d + 3) 26 [.c 0, .d (.int most)] st).wp Q X := by
  rw [lev_f, call_wp (fn := ⟨2, 2, b_law_odd_number⟩) rfl rfl]
  unfold b_law_odd_number textDepth
  walk_at "w"
  refine oneS.run hJ (by omega) (by simp only [List.length_cons, List.length_nil]; omega) (by simp only [List.length_cons, List.length_nil]; omega) fun x st' hJ' hx => ?_
  (try walk_at "w")
  rw [hJ'.take (by rw [hJ.len])]
  refine h x st' hJ' ?_
  simp only [List.mem_cons, List.not_mem_nil, or_false] at hx
  rcases hx with rfl | rfl | rfl | rfl | rfl | rfl | rfl | rfl | rfl | rfl | rfl | rfl
  · exact ok1_int (pow_lt (k := 200) (by omega) (by decide))
  · exact ok1_int (pow_lt (k := 200) (by omega) (by decide))
  · exact ok1_int (by decide)
  · exact ok1_int (by decide)
  · exact ok1_bool
  · exact ok1_bool
  · exact ok1_none
  · exact ok1_str (by decide +kernel) (by decide +kernel)
  · exact ok1_str (by decide +kernel) (by decide +kernel)
  · exact ok1_tup1 (by decide)
  · exact ok1_list1 (by decide)
  · exact ok1_tup0
theorem oddmany_ok (hJ : JS k t st) (hk : k < 2 ^ 30) (h : ∀ x st', JS (k + 1) t st' → Ok 1 2000 x → isIn x 0 8 = false → Q (.d x) st') : (LF C (d + 3) 27 [.c 0] st).wp Q X := by
  rw [lev_f, call_wp (fn := ⟨1, 1, b_law_odd_many⟩) rfl rfl]
  unfold b_law_odd_many textDepth
  walk_at "w"
  refine oneS.run hJ (by omega) (by simp only [List.length_cons, List.length_nil]; omega) (by simp only [List.length_cons, List.length_nil]; omega) fun x st' hJ' hx => ?_
  (try walk_at "w")
  rw [hJ'.take (by rw [hJ.len])]
  refine h x st' hJ' ?_ ?_
  · simp only [List.mem_cons, List.not_mem_nil, or_false] at hx
    rcases hx with rfl | rfl | rfl | rfl | rfl | rfl | rfl | rfl | rfl | rfl | rfl
    · exact ok1_int (by decide)
    · exact ok1_int (by decide)
    · exact ok1_int (by decide)
    · exact ok1_int (by decide)
    · exact ok1_bool
    · exact ok1_bool
    · exact ok1_none
    · exact ok1_str (by decide +kernel) (by decide +kernel)
    · exact ok1_tup1 (by decide)
    · exact ok1_list0
    · exact ok1_tup0
  · simp only [List.mem_cons, List.not_mem_nil, or_false] at hx
    rcases hx with rfl | rfl | rfl | rfl | rfl | rfl | rfl | rfl | rfl | rfl | rfl <;> decide
end
end K01
namespace K01
open PySem Ev
section
variable {d k : Nat} {x thing : PyData} {lo hi m most : Int} {t st : Store} {Q : R → Store → Prop} {X : Nat → PyData → Store → Prop} {xs ys : List PyData} {name : Str}
theorem isIn_of {i : Int} (h1 : lo ≤ i) (h2 : i ≤ hi) : isIn (.int i) lo hi = true := by simp [isIn, h1, h2]
theorem rowdraw_ok (hJ : JS k t st) (hk : k < 2 ^ 30) (h0 : 1 ≤ most) (h1 : most ≤ 10 ^ 40) (m0 : 0 ≤ m) (m8 : m ≤ 8) (h : ∀ xs st', JS (k + 16) t st' → (xs.length : Int) = m → Row xs most → Q (.d (.tuple xs)) st') : (LF C (d + 3) 28 [.c 0, .d (.int m), .d (.int most)] st).wp Q X := by
  rw [lev_f, call_wp (fn := ⟨5, 3, b_law_row⟩) rfl rfl]
  unfold b_law_row textDepth
  walk_at "w"
  have hb : inB m = true := by unfold inB; exact decide_eq_true (by omega)
  rw [wk_rng1, if_pos hb]
  walk_at "w"
  refine comp_wp (fun i ds s => JS (k + 2 * i) t s ∧ ds.length = i ∧ Row ds most) (by rw [rng_len, sizeLine_eq]; omega) (fun _ _ _ _ _ => rfl) ?a ?b ⟨hJ, rfl, fun x hx => nomatch hx⟩ rfl
  case a =>
    intro ds s ⟨J1, hl, hr⟩ _
    rw [rng_len] at J1 hl
    walk_at "w"
    rw [J1.take (by rw [hJ.len])]
    exact h ds s (J1.mono (by omega)) (by omega) hr
  case b =>
    intro i x ds s hx ⟨J1, hl, hr⟩ hn
    obtain ⟨rfl, hi⟩ := rng_get hx
    rw [compB_wp, tg_nm]
    simp only [wipe, List.map_cons, List.map_nil, List.foldl_cons, List.foldl_nil, List.set_cons_succ, List.set_cons_zero]
    walk_at "w"
    refine ⟨mul_ok (m := 3) (n := 140) (by omega) (by omega) (by omega), ?_⟩
    refine takeS.run J1.push (by omega) (by omega) (pow_lt (k := 200) (by omega) (by decide)) fun v s1 J2 v0 v1 => ?_
    walk_at "w"
    refine oneS.run J2 (by omega) (by simp only [List.length_cons, List.length_nil]; omega) (by simp only [List.length_cons, List.length_nil]; omega) fun y s2 J3 hy => ?_
    obtain ⟨s3, e3, J4⟩ := J3.pop
    have l3 := J4.len
    have l1 := J1.len
    refine ⟨s3, e3, by omega, y, rfl, J4.mono (by omega), by simp [hl], fun z hz => ?_⟩
    rcases List.mem_append.mp hz with q | q
    · exact hr z q
    · rw [List.mem_singleton] at q
      subst q
      simp only [List.mem_cons, List.not_mem_nil, or_false] at hy
      rcases hy with rfl | rfl | rfl | rfl | rfl | rfl | rfl <;> exact isIn_of (by omega) (by omega)
/-- row[:at] + (thing,) + row[at + 1:] -/
theorem put_ok {n : Nat} (hl : xs.length ≤ 1000) (h : ∀ ys, ys.length ≤ 2 * xs.length + 1 → (∀ y ∈ ys, y = thing ∨ y ∈ xs) → Q (.d (.tuple ys)) st) : (LF C (d + 1) 25 [.d (.tuple xs), .d (.int (n : Int)), .d thing] st).wp Q X := by
  rw [lev_f, call_wp (fn := ⟨3, 3, b_law_vw_put⟩) rfl rfl]
  unfold b_law_vw_put textDepth
  walk_at "w"
  have c1 : ∀ lo hi : Option Int, (cutR xs lo hi).length ≤ xs.length := fun lo hi => by
    unfold cutR
    simp
    omega
  have c2 : ∀ (lo hi : Option Int) (y : PyData), y ∈ cutR xs lo hi → y ∈ xs := fun lo hi y hy => by
    unfold cutR at hy
    exact List.mem_of_mem_drop (List.mem_of_mem_take hy)
  have a1 := c1 none (some (n : Int))
  have a2 := c1 (some ((n : Int) + 1)) none
  refine ⟨by omega, by simp only [List.length_append, List.length_cons, List.length_nil]; omega, ?_⟩
  refine h _ (by simp only [List.length_append, List.length_cons, List.length_nil]; omega) fun y hy => ?_
  rcases List.mem_append.mp hy with q | q
  · rcases List.mem_append.mp q with q | q
    · exact .inr (c2 _ _ _ q)
    · rw [List.mem_singleton] at q
      exact .inl q
  · exact .inr (c2 _ _ _ q)
end
end K01
namespace K01
open PySem Ev
section
variable {d k : Nat} {x thing : PyData} {lo hi m most : Int} {t st : Store} {Q : R → Store → Prop} {X : Nat → PyData → Store → Prop} {xs ys : List PyData} {name : Str}
theorem Row.ok1 (h : Row xs most) (hm : most ≤ 10 ^ 40) : ∀ y ∈ xs, Ok 1 2000 y := fun y hy => by
  obtain ⟨i, rfl, h1, h2⟩ := isIn_int (h y hy)
  exact ok1_int (pow_lt (k := 200) (by omega) (by decide))
theorem okt (h : ∀ y ∈ xs, Ok 1 2000 y) (hl : xs.length ≤ 40) : Ok 3 100000 (.tuple xs) := ok_tuple (d := 1) (Oks.of (n := 2000) (m := 40) h hl (Nat.le_refl _)) (by omega) (by omega)
theorem okl (h : ∀ y ∈ xs, Ok 1 2000 y) (hl : xs.length ≤ 40) : Ok 3 100000 (.list xs) := ok_list (d := 1) (Oks.of (n := 2000) (m := 40) h hl (Nat.le_refl _)) (by omega) (by omega)
theorem eqv_tnil : ∀ l : List PyData, PyData.eqv (.tuple l) (.tuple []) = l.isEmpty
  | [] => by simp [PyData.eqv, PyData.eqvAll]
  | x :: l => by simp [PyData.eqv, PyData.eqvAll]
theorem shaped_tnil : SeqAt.shaped (.tuple []) = true := by decide
theorem all_app (h : ∀ y ∈ xs, Ok 1 2000 y) (h2 : ∀ y ∈ ys, Ok 1 2000 y) : ∀ y ∈ xs ++ ys, Ok 1 2000 y := fun y hy => by
  rcases List.mem_append.mp hy with q | q
  · exact h y q
  · exact h2 y q
theorem all_one {y : PyData} (h : Ok 1 2000 y) : ∀ z ∈ [y], Ok 1 2000 z := fun z hz => by
  rw [List.mem_singleton] at hz
  rw [hz]
  exact h
theorem all_cut (h : ∀ y ∈ xs, Ok 1 2000 y) {lo hi : Option Int} : ∀ y ∈ cutR xs lo hi, Ok 1 2000 y := fun y hy => by
  unfold cutR at hy
  exact h y (List.mem_of_mem_drop (List.mem_of_mem_take hy))
theorem len_cut {lo hi : Option Int} : (cutR xs lo hi).length ≤ xs.length := by
  unfold cutR
  simp
  omega
theorem bent_ok (hJ : JS k t st) (hk : k < 2 ^ 29) (h0 : 1 ≤ most) (h1 : most ≤ 10 ^ 40) (hl : xs.length ≤ 8) (hr : Row xs most) (h : ∀ x st', JS (k + 8) t st' → Ok 3 100000 x → Q (.d x) st') : (LF C (d + 4) 29 [.c 0, .d (.tuple xs), .d (.int most)] st).wp Q X := by
  rw [lev_f, call_wp (fn := ⟨6, 3, b_law_bent⟩) rfl rfl]
  unfold b_law_bent textDepth
  have ho := hr.ok1 h1
  have fin : ∀ {j : Nat} {x : PyData} {s : Store}, JS j t s → j ≤ k + 8 → Ok 3 100000 x → Q (.d x) (s.take st.length) := fun {j x s} J1 hj hx => by
    rw [J1.take (by rw [hJ.len])]
    exact h x s (J1.mono hj) hx
  walk_at "w"
  refine takeS.run hJ (by omega) (by omega) (pow_lt (k := 4) (by omega) (by decide)) fun v s1 J1 v0 v1 => ?_
  walk_at "w"
  have A : ∀ {Y : Nat → PyData → Store → Prop}, (xs.length ≤ 16777216 ∧ xs.length ≤ 16777215 ∧ xs.length ≤ 16777215 ∧ (LF C (d + 3) 14 [.c 0, .d (.list [.list xs, .tuple (xs ++ [.int 0]), .tuple (xs ++ [.none]), .none, .int 0, .str (Str.ofString ""), .str (Str.ofString "12"), .list [.tuple xs], .tuple [.tuple xs], .bool true])] s1).wp (fun r st_2 => cbW r (retW st.length r st_2 Q)) Y) := by
    intro Y
    refine ⟨by omega, by omega, by omega, oneS.run J1 (by omega) (by simp only [List.length_cons, List.length_nil]; omega) (by simp only [List.length_cons, List.length_nil]; omega) fun x s2 J2 hx => ?_⟩
    (try walk_at "w")
    refine fin J2 (by omega) ?_
    simp only [List.mem_cons, List.not_mem_nil, or_false] at hx
    rcases hx with rfl | rfl | rfl | rfl | rfl | rfl | rfl | rfl | rfl | rfl
    · exact okl ho (by omega)
    · exact okt (all_app ho (all_one (ok1_int (by decide)))) (by simp; omega)
    · exact okt (all_app ho (all_one ok1_none)) (by simp; omega)
    · exact ok1_none.mono
    · exact (ok1_int (by decide)).mono
    · exact (ok1_str (by decide +kernel) (by decide +kernel)).mono
    · exact (ok1_str (by decide +kernel) (by decide +kernel)).mono
    · exact ok_list (d := 2) (n := 90000) (oks_cons (n := 80000) (m := 0) (ok_tuple (d' := 2) (n' := 80000) (Oks.of (n := 2000) (m := 8) ho hl (Nat.le_refl _)) (by omega) (by omega)) oks_nil) (by omega) (by omega)
    · exact ok_tuple (d := 2) (n := 90000) (oks_cons (n := 80000) (m := 0) (ok_tuple (d' := 2) (n' := 80000) (Oks.of (n := 2000) (m := 8) ho hl (Nat.le_refl _)) (by omega) (by omega)) oks_nil) (by omega) (by omega)
    · exact ok1_bool.mono
  by_cases c0 : v = 0
  · rw [if_pos c0]
    exact A
  · rw [if_neg c0]
    refine ⟨by rw [(okt ho (by omega)).shaped, shaped_tnil]; rfl, ?_⟩
    rw [eqv_tnil]
    by_cases c1 : xs = []
    · rw [if_pos (by rw [c1]; rfl)]
      exact A
    · rw [if_neg (by simpa using c1)]
      have hl0 : 0 < xs.length := List.length_pos_iff.mpr c1
      by_cases c2 : v = 1
      · rw [if_pos c2]
        refine ⟨by omega, by omega, oneS.run J1 (by omega) (by simp only [List.length_cons, List.length_nil]; omega) (by simp only [List.length_cons, List.length_nil]; omega) fun x s2 J2 hx => ?_⟩
        (try walk_at "w")
        refine fin J2 (by omega) ?_
        simp only [List.mem_cons, List.not_mem_nil, or_false] at hx
        rcases hx with rfl | rfl | rfl | rfl
        · exact okt (all_cut ho) (Nat.le_trans len_cut (by omega))
        · exact okt (all_cut ho) (Nat.le_trans len_cut (by omega))
        · exact okt (all_app ho ho) (by simp; omega)
        · exact okt (all_app ho (all_one (ok1_int (pow_lt (k := 200) (by omega) (by decide))))) (by simp; omega)
      · rw [if_neg c2]
        refine takeS.run J1 (by omega) (by omega) (pow_lt (k := 4) (by omega) (by decide)) fun w s2 J2 w0 w1 => ?_
        walk_at "w"
        have hb : inB (1 + w) = true := by unfold inB; exact decide_eq_true (by omega)
        rw [wk_rng1, if_pos hb]
        walk_at "w"
        refine forL_wp (fun i env s => ∃ (o : Option R) (ys : List PyData), env = [some (.c 0), some (.d (.tuple xs)), some (.d (.int most)), some (.d (.int v)), some (.d (.tuple ys)), o] ∧ JS (k + 2 + 2 * i) t s ∧ (∀ y ∈ ys, Ok 1 2000 y) ∧ (i = 0 → ys.length ≤ 8) ∧ (i = 1 → ys.length ≤ 17) ∧ (i = 2 → ys.length ≤ 35)) (fun i env s _ => rfl) ?_ ?_ ?_
        · rintro env s ⟨o, ys, rfl, J3, hy, l0, l1, l2⟩
          rw [rng_len] at J3 l0 l1 l2
          walk_at "w"
          have hlen : ys.length ≤ 35 := by
            have : (1 + w).toNat = 1 ∨ (1 + w).toNat = 2 := by omega
            rcases this with e | e
            · have := l1 e; omega
            · exact l2 e
          by_cases c3 : v < 6
          · rw [if_pos c3]
            exact fin J3 (by omega) (okt hy (by omega))
          · rw [if_neg c3]
            exact fin J3 (by omega) (okt ho (by omega))
        · rintro i y env s hy ⟨o, ys, rfl, J3, hyy, l0, l1, l2⟩
          obtain ⟨rfl, hi⟩ := rng_get hy
          have hi2 : i ≤ 1 := by omega
          have hlen : ys.length ≤ 17 := by
            have : i = 0 ∨ i = 1 := by omega
            rcases this with e | e
            · have := l0 e; omega
            · exact l1 e
          rw [forB_wp, tg_nm]
          walk_at "w"
          refine takeS.run J3 (by omega) (by omega) (pow_lt (k := 4) (by omega) (by decide)) fun u s3 J4 u0 u1 => ?_
          walk_at "w"
          refine oddnum_ok J4 (by omega) h0 h1 fun z s4 J5 hz => ?_
          walk_at "w"
          obtain ⟨n, rfl⟩ := Int.eq_ofNat_of_zero_le u0
          refine put_ok (by omega) fun zs hzl hzm => ?_
          walk_at "w"
          rw [trim_same (by rw [J5.len, J2.len]; exact Nat.le_refl _)]
          refine ⟨_, zs, rfl, J5.mono (by omega), fun q hq => ?_, fun e => absurd e (by omega), fun e => ?_, fun e => ?_⟩
          · rcases hzm q hq with rfl | hq
            · exact hz
            · exact hyy q hq
          · have := l0 (by omega)
            omega
          · have := l1 (by omega)
            omega
        · exact ⟨none, xs, rfl, J2.mono (by omega), ho, fun _ => hl, fun e => absurd e (by omega), fun e => absurd e (by omega)⟩
end
end K01
namespace K01
open PySem Ev
section
variable {d k : Nat} {x thing form effect : PyData} {lo hi m most : Int} {t st : Store} {Q : R → Store → Prop} {X : Nat → PyData → Store → Prop} {xs ys : List PyData} {name : Str}
theorem dot_range : ∀ {xs ys : List PyData}, xs.length = ys.length → ((List.range xs.length).map fun i => toI (xs.getD i .none) * toI (ys.getD i .none)).sum = dotV xs ys
  | [], ys, _ => by simp [dotV]
  | x :: xs, [], h => by simp at h
  | x :: xs, y :: ys, h => by
    have ih := dot_range (xs := xs) (ys := ys) (by simpa using h)
    unfold dotV at ih ⊢
    rw [List.length_cons, List.range_succ_eq_map, List.map_cons, List.sum_cons, List.zipWith_cons_cons, List.sum_cons, ← ih, List.map_map]
    rfl
theorem val_ok (h1 : Row xs (10 ^ 41)) (h2 : Row ys (10 ^ 41)) (hl : xs.length ≤ 1000) (he : xs.length = ys.length) (h : Q (.d (.int (dotV xs ys))) st) : (LF C (d + 1) 23 [.d (.tuple xs), .d (.tuple ys)] st).wp Q X := by
  rw [lev_f, call_wp (fn := ⟨3, 2, b_law_vw_value⟩) rfl rfl]
  unfold b_law_vw_value textDepth
  walk_at "w"
  have hb : inB (xs.length : Int) = true := by unfold inB; exact decide_eq_true (by omega)
  rw [wk_rng1, if_pos hb]
  walk_at "w"
  refine comp_map (fun r => match r with | .d (.int k) => .int (toI (xs.getD k.toNat .none) * toI (ys.getD k.toNat .none)) | _ => .none) (by rw [rng_len, sizeLine_eq]; omega) (fun _ => rfl) (fun r hr c => ?_) ?_
  · obtain ⟨k, hk, rfl⟩ := rng_mem hr
    have k1 : k < xs.length := by omega
    have k2 : k < ys.length := by omega
    rw [compB_wp, tg_nm]
    simp only [wipe, List.map_cons, List.map_nil, List.foldl_cons, List.foldl_nil, List.set_cons_succ, List.set_cons_zero]
    walk_at "w"
    rw [Int.zero_add, at_nat, at_nat, List.getElem?_eq_getElem k1, List.getElem?_eq_getElem k2]
    obtain ⟨i, ei, i0, i1⟩ := h1.get (List.getElem?_eq_getElem k1)
    obtain ⟨j, ej, j0, j1⟩ := h2.get (List.getElem?_eq_getElem k2)
    rw [Int.toNat_natCast, List.getD_eq_getElem?_getD, List.getD_eq_getElem?_getD, List.getElem?_eq_getElem k1, List.getElem?_eq_getElem k2, Option.getD_some, Option.getD_some, ei, ej]
    walk_at "w"
    exact ⟨mul_ok (m := 150) (n := 150) (by omega) (by omega) (by omega), rfl⟩
  · have e : (rngList 0 (xs.length : Int).toNat).map (fun r => match r with | .d (.int k) => PyData.int (toI (xs.getD k.toNat .none) * toI (ys.getD k.toNat .none)) | _ => .none) = ((List.range xs.length).map fun i => toI (xs.getD i .none) * toI (ys.getD i .none)).map PyData.int := by
      unfold rngList
      rw [List.map_map, List.map_map, Int.toNat_natCast]
      refine List.map_congr_left fun k _ => ?_
      simp only [Function.comp, Int.zero_add, Int.toNat_natCast]
    rw [e, bi_sum (allInts_map _)]
    walk_at "w"
    rw [dot_range he]
    exact h
def plusV (xs ys : List PyData) (by_ : Int) : List PyData := (List.range xs.length).map fun i => .int (toI (xs.getD i .none) + by_ * toI (ys.getD i .none))
theorem plus_ok (h1 : Row xs (10 ^ 41)) (h2 : Row ys (10 ^ 41)) (hl : xs.length ≤ 1000) (he : xs.length = ys.length) (h : Q (.d (.tuple (plusV xs ys (-1)))) st) : (LF C (d + 1) 24 [.d (.tuple xs), .d (.tuple ys), .d (.int (-1))] st).wp Q X := by
  rw [lev_f, call_wp (fn := ⟨4, 3, b_law_vw_plus⟩) rfl rfl]
  unfold b_law_vw_plus textDepth
  walk_at "w"
  have hb : inB (xs.length : Int) = true := by unfold inB; exact decide_eq_true (by omega)
  rw [wk_rng1, if_pos hb]
  walk_at "w"
  refine comp_map (fun r => match r with | .d (.int k) => .int (toI (xs.getD k.toNat .none) + (-1) * toI (ys.getD k.toNat .none)) | _ => .none) (by rw [rng_len, sizeLine_eq]; omega) (fun _ => rfl) (fun r hr c => ?_) ?_
  · obtain ⟨k, hk, rfl⟩ := rng_mem hr
    have k1 : k < xs.length := by omega
    have k2 : k < ys.length := by omega
    rw [compB_wp, tg_nm]
    simp only [wipe, List.map_cons, List.map_nil, List.foldl_cons, List.foldl_nil, List.set_cons_succ, List.set_cons_zero]
    walk_at "w"
    rw [Int.zero_add, at_nat, at_nat, List.getElem?_eq_getElem k1, List.getElem?_eq_getElem k2]
    obtain ⟨i, ei, i0, i1⟩ := h1.get (List.getElem?_eq_getElem k1)
    obtain ⟨j, ej, j0, j1⟩ := h2.get (List.getElem?_eq_getElem k2)
    rw [Int.toNat_natCast, List.getD_eq_getElem?_getD, List.getD_eq_getElem?_getD, List.getElem?_eq_getElem k1, List.getElem?_eq_getElem k2, Option.getD_some, Option.getD_some, ei, ej]
    walk_at "w"
    exact ⟨mul_ok (m := 150) (n := 150) (by decide) (by omega) (by omega), rfl⟩
  · have e : (rngList 0 (xs.length : Int).toNat).map (fun r => match r with | .d (.int k) => PyData.int (toI (xs.getD k.toNat .none) + (-1) * toI (ys.getD k.toNat .none)) | _ => .none) = plusV xs ys (-1) := by
      unfold rngList plusV
      rw [List.map_map, Int.toNat_natCast]
      refine List.map_congr_left fun k _ => ?_
      simp only [Function.comp, Int.zero_add, Int.toNat_natCast]
    rw [e]
    walk_at "w"
    exact h
theorem wts_len : ∀ xs : List PyData, xs.length ≤ wts xs
  | [] => Nat.zero_le _
  | x :: xs => by
    have := wts_len xs
    simp only [wts, List.length_cons]
    omega
theorem wrongN_ok {dd n : Nat} (h : Ok dd n thing) (hn : n < 2 ^ 60) : Ok 0 1921 (wrongN m thing most) := by
  have hm1 : Ok 0 1921 (.int (-1)) := ok_int (by decide)
  unfold wrongN
  split
  · rename_i xs
    split
    · split
      · rename_i k e
        unfold badAt at e
        rw [List.findIdx?_eq_some_iff_getElem] at e
        obtain ⟨hk, _⟩ := e
        have := wts_len xs
        have := h.wt
        simp only [Ev.wt] at this
        exact ok_int (pow_lt (k := 60) (by omega) (by decide))
      · exact ok_none
    · exact hm1
  · exact hm1
theorem nod_of {dd n : Nat} (h : Ok dd n x) : isDict x = false := by
  cases x <;> first | rfl | (have := h.lay; simp [PyData.canLay0] at this)
theorem NoD.of {dd n : Nat} (h : Ok dd n x) : NoD x := ⟨nod_of h, fun xs e y hy => by
  subst e
  have h1 := h.dep
  have h2 := h.wt
  have h3 := h.lay
  have h4 := h.shw
  simp only [PyData.depth, Ev.wt, PyData.canLay0, PyData.showable] at h1 h2 h3 h4
  exact nod_of (Oks.mem (d := dd) (n := n) ⟨by omega, by omega, h3, h4⟩ y hy)⟩
def dotP (form effect : PyData) : Int := match form, effect with
  | .tuple xs, .tuple ys => dotV xs ys
  | _, _ => 0
abbrev told : PyData := .str (Str.ofString "told")
/-- what is due of value -/
def valueDue (x form effect : PyData) : PyData :=
  if isIn x 0 8 = true then (if isNo (wrongN (toI x) form 9) = true then (if isNo (wrongN (toI x) effect (10 ^ 40)) = true then .tuple [told, .int (dotP form effect)] else .tuple [.str (Str.ofString "BadEffect"), wrongN (toI x) effect (10 ^ 40)]) else .tuple [.str (Str.ofString "BadForm"), wrongN (toI x) form 9]) else .tuple [.str (Str.ofString "BadMany"), x]
theorem ok_pair {dd n : Nat} {s : Str} (hs : PyData.strOk s = true) (hl : s.length ≤ 20) (h : Ok dd n x) : Ok (dd + 1) (n + 300) (.tuple [.str s, x]) :=
  ok_tuple (d := dd) (n := n + 280) (oks_cons (n := 210) (m := n + 5) (ok_str hs).mono (oks_cons (n := n) (m := 0) h oks_nil)) (by omega) (by omega)
theorem row_mono {a b : Int} (h : Row xs a) (hab : a ≤ b) : Row xs b := fun x hx => by
  obtain ⟨i, rfl, h1, h2⟩ := isIn_int (h x hx)
  exact isIn_of (by omega) (by omega)
theorem valP_ok (e1 : wrongN m form 9 = .none) (e2 : wrongN m effect (10 ^ 40) = .none) (hm : m ≤ 1000) (h : Q (.d (.int (dotP form effect))) st) : (LF C (d + 1) 23 [.d form, .d effect] st).wp Q X := by
  obtain ⟨zs, ez, l1, r1⟩ := wrongN_none e1
  obtain ⟨ws, ew, l2, r2⟩ := wrongN_none e2
  rw [ez, ew] at h ⊢
  exact val_ok (row_mono r1 (by omega)) (row_mono r2 (by omega)) (by omega) (by omega) h
theorem first_ok' {n : Nat} {r : PyData} (hk : ∀ x ∈ xs, Ok 20 n x) (hl : xs.length ≤ 1000) (e : ((xs.filter fun x => !isNo x).head?).getD .none = r) (h : Q (.d r) st) : (LF C (d + 1) 19 [.d (.list xs)] st).wp Q X := first_ok hk hl (by rw [e]; exact h)
theorem valdue_ok (hx : Ok 3 100000 x) (hf : Ok 3 100000 form) (he : Ok 3 100000 effect) (h : Q (.d (valueDue x form effect)) st) : (LF C (d + 4) 31 [.d x, .d form, .d effect] st).wp Q X := by
  rw [lev_f, call_wp (fn := ⟨4, 3, b_law_value_due⟩) rfl rfl]
  unfold b_law_value_due textDepth
  walk_at "w"
  refine manydue_ok (d := d + 1) (nod_of hx) ?_
  walk_at "w"
  refine is_ok (d := d + 2) (nod_of hx) ?_
  walk_at "w"
  unfold valueDue at h
  by_cases hi : isIn x 0 8 = true
  · rw [if_pos hi] at h ⊢
    obtain ⟨i, rfl, i0, i8⟩ := isIn_int hi
    rw [if_pos hi]
    refine formdue_ok (NoD.of hf) (by omega) ?_
    walk_at "w"
    have hw := wrongN_ok (m := i) (most := 9) hf (by omega)
    rcases wrongN_cases i form 9 with e | ⟨k, e⟩
    · rw [show wrongN (toI (.int i)) form 9 = .none from e, if_pos (show isNo .none = true from rfl)] at h
      rw [e]
      show (LF C (d + 3) 19 [.d (.list [.none, .none])] st).wp _ _
      refine first_ok' (n := 100000) (r := .none) (fun y hy => ?_) (by simp) rfl ?_
      · simp only [List.mem_cons, List.not_mem_nil, or_false, or_self] at hy
        subst hy
        exact ok_none.mono
      · walk_at "w"
        refine rowdue_ok (d := d + 1) (NoD.of he) (by omega) ?_
        walk_at "w"
        rcases wrongN_cases i effect (10 ^ 40) with e2 | ⟨k, e2⟩
        · rw [show wrongN (toI (.int i)) effect (10 ^ 40) = .none from e2, if_pos (show isNo .none = true from rfl)] at h
          rw [e2]
          simp only [dueOf]
          walk_at "w"
          refine valP_ok (d := d + 2) e e2 (by omega) ?_
          walk_at "w"
          exact h
        · have z : wrongN (toI (.int i)) effect (10 ^ 40) = .int k := e2
          rw [z, if_neg (show ¬ isNo (.int k) = true by simp [isNo])] at h
          rw [e2]
          simp only [dueOf]
          walk_at "w"
          exact h
    · have z : wrongN (toI (.int i)) form 9 = .int k := e
      rw [z, if_neg (show ¬ isNo (.int k) = true by simp [isNo])] at h
      rw [e] at hw ⊢
      show (LF C (d + 3) 19 [.d (.list [.none, .tuple [.str (Str.ofString "BadForm"), .int k]])] st).wp _ _
      refine first_ok' (n := 100000) (r := .tuple [.str (Str.ofString "BadForm"), .int k]) (fun y hy => ?_) (by simp) rfl ?_
      · simp only [List.mem_cons, List.not_mem_nil, or_false] at hy
        rcases hy with rfl | rfl
        · exact ok_none.mono
        · exact (ok_pair (by decide +kernel) (by decide +kernel) hw).mono
      · walk_at "w"
        exact h
  · rw [if_neg hi] at h ⊢
    rw [if_neg hi]
    show (LF C (d + 3) 19 [.d (.list [.tuple [.str (Str.ofString "BadMany"), x], .none])] st).wp _ _
    refine first_ok' (n := 200000) (r := .tuple [.str (Str.ofString "BadMany"), x]) (fun y hy => ?_) (by simp) rfl ?_
    · simp only [List.mem_cons, List.not_mem_nil, or_false] at hy
      rcases hy with rfl | rfl
      · exact (ok_pair (by decide +kernel) (by decide +kernel) hx).mono
      · exact ok_none.mono
    · walk_at "w"
      exact h
end
end K01
namespace K01
open PySem Ev
section
variable {d k : Nat} {x thing form effect : PyData} {lo hi m most : Int} {t st : Store} {Q : R → Store → Prop} {X : Nat → PyData → Store → Prop} {xs ys : List PyData} {name : Str} {env : Ev.Env} {i j n : Nat}
/-- what is due of made_form, is_form, unit -/
def madeDue (x thing : PyData) : PyData := if isIn x 0 8 = true then (if isNo (wrongN (toI x) thing 9) = true then .tuple [told, thing] else .tuple [.str (Str.ofString "BadForm"), wrongN (toI x) thing 9]) else .tuple [.str (Str.ofString "BadMany"), x]
def isDue (x thing : PyData) : PyData := if isIn x 0 8 = true then .tuple [told, .bool (isNo (wrongN (toI x) thing 9))] else .tuple [.str (Str.ofString "BadMany"), x]
theorem clo_made (h1 : env[i]? = some (some (.d x))) (h2 : env[j]? = some (some (.d thing))) (hx : isDict x = false) (hn : NoD thing) : CloR (LL C (d + 7)) (.call 8 [.var i, .var j]) env st (madeDue x thing) := by
  unfold CloR madeDue
  rw [LL_succ]
  unfold textDepth
  walk_at "w"
  rw [h1]
  walk_at "w"
  rw [h2]
  walk_at "w"
  refine made_ok (d := d + 1) hx hn ?_
  by_cases hi : isIn x 0 8 = true
  · rw [if_pos hi, if_pos hi]
    by_cases hw : isNo (wrongN (toI x) thing 9) = true
    · rw [if_pos hw, if_pos hw]
      exact ⟨rfl, _, rfl, rfl⟩
    · rw [if_neg hw, if_neg hw]
      exact ⟨rfl, _, rfl, rfl⟩
  · rw [if_neg hi, if_neg hi]
    exact ⟨rfl, _, rfl, rfl⟩
theorem clo_is (h1 : env[i]? = some (some (.d x))) (h2 : env[j]? = some (some (.d thing))) (hx : isDict x = false) (hn : NoD thing) : CloR (LL C (d + 7)) (.call 9 [.var i, .var j]) env st (isDue x thing) := by
  unfold CloR isDue
  rw [LL_succ]
  unfold textDepth
  walk_at "w"
  rw [h1]
  walk_at "w"
  rw [h2]
  walk_at "w"
  refine isform_ok (d := d + 2) hx hn ?_
  by_cases hi : isIn x 0 8 = true
  · rw [if_pos hi, if_pos hi]
    exact ⟨rfl, _, rfl, rfl⟩
  · rw [if_neg hi, if_neg hi]
    exact ⟨rfl, _, rfl, rfl⟩
theorem clo_value (h1 : env[i]? = some (some (.d x))) (h2 : env[j]? = some (some (.d form))) (h3 : env[n]? = some (some (.d effect))) (hx : isDict x = false) (hn : NoD form) (hn2 : NoD effect) : CloR (LL C (d + 7)) (.call 10 [.var i, .var j, .var n]) env st (valueDue x form effect) := by
  unfold CloR valueDue
  rw [LL_succ]
  unfold textDepth
  walk_at "w"
  rw [h1]
  walk_at "w"
  rw [h2]
  walk_at "w"
  rw [h3]
  walk_at "w"
  refine value_ok (d := d + 1) hx hn hn2 ?_
  by_cases hi : isIn x 0 8 = true
  · rw [if_pos hi, if_pos hi]
    by_cases hw : isNo (wrongN (toI x) form 9) = true
    · rw [if_pos hw, if_pos hw]
      by_cases hv : isNo (wrongN (toI x) effect (10 ^ 40)) = true
      · rw [if_pos hv, if_pos hv]
        intro xs ys e1 e2
        rw [e1, e2]
        exact ⟨rfl, _, rfl, rfl⟩
      · rw [if_neg hv, if_neg hv]
        exact ⟨rfl, _, rfl, rfl⟩
    · rw [if_neg hw, if_neg hw]
      exact ⟨rfl, _, rfl, rfl⟩
  · rw [if_neg hi, if_neg hi]
    exact ⟨rfl, _, rfl, rfl⟩
theorem madeDue_ok (hx : Ok 3 100000 x) (ht : Ok 3 100000 thing) : Ok 4 100300 (madeDue x thing) := by
  unfold madeDue
  split
  · split
    · exact ok_pair (by decide +kernel) (by decide +kernel) ht
    · exact (ok_pair (by decide +kernel) (by decide +kernel) (wrongN_ok ht (by omega))).mono
  · exact ok_pair (by decide +kernel) (by decide +kernel) hx
theorem isDue_ok (hx : Ok 3 100000 x) : Ok 4 100300 (isDue x thing) := by
  unfold isDue
  split
  · exact (ok_pair (by decide +kernel) (by decide +kernel) ok_bool).mono
  · exact ok_pair (by decide +kernel) (by decide +kernel) hx
theorem row_okt (h : Row xs most) (hm : most ≤ 10 ^ 40) (hl : xs.length ≤ 8) : Ok 3 100000 (.tuple xs) := okt (h.ok1 hm) (by omega)
theorem maderight_ok (hJ : JS k t st) (hk : k < 2 ^ 28) (m0 : 0 ≤ m) (m8 : m ≤ 8) (h : ∀ st', JS (k + 100) t st' → Q (.d (.bool true)) st') : (LF C (d + 10) 30 [.c 0, .d (.int m)] st).wp Q X := by
  rw [lev_f, call_wp (fn := ⟨8, 2, b_law_made_right⟩) rfl rfl]
  unfold b_law_made_right textDepth
  have hm : isIn (.int m) 0 8 = true := isIn_of m0 m8
  walk_at "w"
  refine rowdraw_ok (d := d + 6) hJ (by omega) (by omega) (by omega) m0 m8 fun xs s1 J1 hl hr => ?_
  have hxl : xs.length ≤ 8 := by omega
  have hrow := row_okt hr (by omega) hxl
  walk_at "w"
  rw [wk_rng1, if_pos (by decide)]
  walk_at "w"
  refine comp_wp (fun i ds s => JS (k + 16 + 8 * i) t s ∧ ds.length = i ∧ ∀ x ∈ ds, Ok 3 100000 x) (by rw [rng_len, sizeLine_eq]; decide) (fun _ _ _ _ _ => rfl) ?a ?b ⟨J1, rfl, fun x hx => nomatch hx⟩ rfl
  case b =>
    intro i x ds s hx ⟨J2, hl2, hr2⟩ hn
    obtain ⟨rfl, hi⟩ := rng_get hx
    have hi : i < 7 := hi
    rw [compB_wp, tg_nm]
    simp only [wipe, List.map_cons, List.map_nil, List.foldl_cons, List.foldl_nil, List.set_cons_succ, List.set_cons_zero]
    walk_at "w"
    refine bent_ok (d := d + 5) J2.push (by omega) (by omega) (by omega) hxl hr fun y s2 J3 hy => ?_
    obtain ⟨s3, e3, J4⟩ := J3.pop
    have l3 := J4.len
    have l1 := J2.len
    refine ⟨s3, e3, by omega, y, rfl, J4.mono (by omega), by simp [hl2], fun z hz => ?_⟩
    rcases List.mem_append.mp hz with q | q
    · exact hr2 z q
    · rw [List.mem_singleton] at q
      rw [q]
      exact hy
  case a =>
    intro ds s ⟨J2, hl2, hr2⟩ hn
    have J2 : JS (k + 16 + 8 * 7) t s := J2
    have hl2 : ds.length = 7 := hl2
    have hall : ∀ x ∈ PyData.tuple xs :: ds, Ok 3 100000 x := fun x hx => by
      rcases List.mem_cons.mp hx with e | e
      · rw [e]; exact hrow
      · exact hr2 x e
    walk_at "w"
    refine ⟨by omega, ?_⟩
    refine forL_wp (fun i env s => ∃ o3 o5 o6 : Option R, env = [some (.c 0), some (.d (.int m)), some (.d (.tuple xs)), o3, none, o5, o6, none] ∧ JS (k + 72) t s) (fun i env s _ => rfl) ?_ ?_ ⟨none, none, none, rfl, J2.mono (by omega)⟩
    · rintro env s2 ⟨o3, o5, o6, rfl, J3⟩
      walk_at "w"
      refine oddmany_ok (d := d + 6) J3 (by omega) fun odd s3 J4 ho hodd => ?_
      have ho3 : Ok 3 100000 odd := ho.mono
      walk_at "w"
      refine bent_ok (d := d + 5) J4 (by omega) (by omega) (by omega) hxl hr fun y s4 J5 hy => ?_
      walk_at "w"
      refine forL_wp (fun i env s => ∃ o3 o5 o6 : Option R, env = [some (.c 0), some (.d (.int m)), some (.d (.tuple xs)), o3, some (.d odd), o5, o6, none] ∧ JS (k + 81) t s) (fun i env s _ => rfl) ?_ ?_ ⟨o3, o5, o6, rfl, J5.mono (by omega)⟩
      · rintro env s5 ⟨p3, p5, p6, rfl, J6⟩
        walk_at "w"
        rw [J6.take (by rw [hJ.len])]
        exact h s5 (J6.mono (by omega))
      · rintro i z env s5 hz ⟨p3, p5, p6, rfl, J6⟩
        have hz2 := List.mem_of_getElem? hz
        obtain ⟨z, hz3, rfl⟩ : ∃ q, q ∈ [PyData.tuple xs, .none, y] ∧ R.d q = z := by
          simp only [List.map_cons, List.map_nil, List.mem_cons, List.not_mem_nil, or_false] at hz2
          rcases hz2 with rfl | rfl | rfl
          · exact ⟨_, by simp, rfl⟩
          · exact ⟨_, by simp, rfl⟩
          · exact ⟨_, by simp, rfl⟩
        have hzo : Ok 3 100000 z := by
          simp only [List.mem_cons, List.not_mem_nil, or_false] at hz3
          rcases hz3 with rfl | rfl | rfl
          · exact hrow
          · exact ok_none.mono
          · exact hy
        have e1 : madeDue odd z = .tuple [.str (Str.ofString "BadMany"), odd] := by unfold madeDue; rw [hodd]; rfl
        have e2 : isDue odd z = .tuple [.str (Str.ofString "BadMany"), odd] := by unfold isDue; rw [hodd]; rfl
        rw [forB_wp, tg_nm]
        walk_at "w"
        refine saysS.run (d := 4) (n := 100300) ?_ (e1 ▸ madeDue_ok ho3 hzo) (by omega) (by omega) ?_
        · rw [← e1]
          exact clo_made rfl rfl (nod_of ho3) (NoD.of hzo)
        · walk_at "w"
          refine saysS.run (d := 4) (n := 100300) ?_ (e1 ▸ madeDue_ok ho3 hzo) (by omega) (by omega) ?_
          · rw [← e2]
            exact clo_is rfl rfl (nod_of ho3) (NoD.of hzo)
          · walk_at "w"
            rw [trim_same (by rw [J5.len, J6.len]; exact Nat.le_refl _)]
            exact ⟨_, _, _, rfl, J6⟩
    · rintro i z env s2 hz ⟨o3, o5, o6, rfl, J3⟩
      have hz2 := List.mem_of_getElem? hz
      obtain ⟨z, hz3, rfl⟩ : ∃ q, q ∈ PyData.tuple xs :: ds ∧ R.d q = z := by
        rcases List.mem_cons.mp hz2 with e | e
        · exact ⟨_, List.mem_cons_self, e.symm⟩
        · obtain ⟨q, hq, e⟩ := List.mem_map.mp e
          exact ⟨q, List.mem_cons_of_mem _ hq, e⟩
      have hzo := hall z hz3
      have hmo : Ok 3 100000 (.int m) := (ok_int (pow_lt (k := 10) (by omega) (by decide))).mono
      rw [forB_wp, tg_nm]
      walk_at "w"
      refine formdue_ok (d := d + 6) (NoD.of hzo) (by omega) ?_
      walk_at "w"
      rw [bi_repr hzo (by omega) (by omega)]
      walk_at "w"
      have last : ∀ o5 : PyData, ∃ p3 p5 p6 : Option R, (trim s.length [some (.c 0), some (.d (.int m)), some (.d (.tuple xs)), some (.d z), none, some (.d o5), some (.d (.str z.shown)), none] s2).1 = [some (.c 0), some (.d (.int m)), some (.d (.tuple xs)), p3, none, p5, p6, none] ∧ JS (k + 72) t (trim s.length [some (.c 0), some (.d (.int m)), some (.d (.tuple xs)), some (.d z), none, some (.d o5), some (.d (.str z.shown)), none] s2).2 := fun o5 => by
        rw [trim_same (by rw [J2.len, J3.len]; exact Nat.le_refl _)]
        exact ⟨_, _, _, rfl, J3⟩
      rcases wrongN_cases m z 9 with e | ⟨w, e⟩
      · have e1 : madeDue (.int m) z = .tuple [told, z] := by
          unfold madeDue
          rw [if_pos hm, show wrongN (toI (.int m)) z 9 = .none from e]
          rfl
        have e2 : isDue (.int m) z = .tuple [told, .bool true] := by
          unfold isDue
          rw [if_pos hm, show wrongN (toI (.int m)) z 9 = .none from e]
          rfl
        rw [e]
        simp only [dueOf] at last ⊢
        walk_at "w"
        refine saysS.run (d := 4) (n := 100300) ?_ (e1 ▸ madeDue_ok hmo hzo) (by omega) (by omega) ?_
        · rw [← e1]
          exact clo_made rfl rfl rfl (NoD.of hzo)
        · walk_at "w"
          refine saysS.run (d := 4) (n := 100300) ?_ (e2 ▸ isDue_ok hmo) (by omega) (by omega) ?_
          · rw [← e2]
            exact clo_is rfl rfl rfl (NoD.of hzo)
          · walk_at "w"
            rw [bi_repr hzo (by omega) (by omega)]
            walk_at "w"
            exact last .none
      · have e1 : madeDue (.int m) z = .tuple [.str (Str.ofString "BadForm"), .int w] := by
          unfold madeDue
          rw [if_pos hm, show wrongN (toI (.int m)) z 9 = .int w from e]
          rfl
        have e2 : isDue (.int m) z = .tuple [told, .bool false] := by
          unfold isDue
          rw [if_pos hm, show wrongN (toI (.int m)) z 9 = .int w from e]
          rfl
        rw [e]
        simp only [dueOf] at last ⊢
        walk_at "w"
        refine saysS.run (d := 4) (n := 100300) ?_ (e1 ▸ madeDue_ok hmo hzo) (by omega) (by omega) ?_
        · rw [← e1]
          exact clo_made rfl rfl rfl (NoD.of hzo)
        · walk_at "w"
          refine saysS.run (d := 4) (n := 100300) ?_ (e2 ▸ isDue_ok hmo) (by omega) (by omega) ?_
          · rw [← e2]
            exact clo_is rfl rfl rfl (NoD.of hzo)
          · walk_at "w"
            rw [bi_repr hzo (by omega) (by omega)]
            walk_at "w"
            exact last _
end
end K01
namespace K01
open PySem Ev
section
variable {d k : Nat} {x thing form effect : PyData} {lo hi m most : Int} {t st : Store} {Q : R → Store → Prop} {X : Nat → PyData → Store → Prop} {xs ys : List PyData} {name : Str} {env : Ev.Env} {i j n : Nat}
theorem value_row (m0 : 0 ≤ m) (m8 : m ≤ 8) (h1 : Row xs 9) (h2 : Row ys (10 ^ 40)) (l1 : (xs.length : Int) = m) (l2 : (ys.length : Int) = m) (h : Q (.d (.int (dotV xs ys))) st) : (LF C (d + 5) 10 [.d (.int m), .d (.tuple xs), .d (.tuple ys)] st).wp Q X := by
  have a1 := row_okt h1 (by omega) (by omega)
  have a2 := row_okt h2 (by omega) (by omega)
  refine value_ok rfl (NoD.of a1) (NoD.of a2) ?_
  rw [if_pos (isIn_of m0 m8), show wrongN (toI (.int m)) (.tuple xs) 9 = .none from row_none h1 l1, show wrongN (toI (.int m)) (.tuple ys) (10 ^ 40) = .none from row_none h2 l2, if_pos (show isNo .none = true from rfl), if_pos (show isNo .none = true from rfl)]
  intro zs ws e1 e2
  cases e1
  cases e2
  exact h
def halfV (xs : List PyData) : List PyData := xs.map fun x => .int (toI x / 2)
theorem half_row (h : Row xs 9) : Row (halfV xs) 5 := fun x hx => by
  obtain ⟨y, hy, rfl⟩ := List.mem_map.mp hx
  obtain ⟨i, rfl, a, b⟩ := isIn_int (h y hy)
  exact isIn_of (by simp only [toI]; omega) (by simp only [toI]; omega)
theorem half_len : (halfV xs).length = xs.length := List.length_map _
theorem plus_len {b : Int} : (plusV xs ys b).length = xs.length := by unfold plusV; simp
theorem plus_get {b : Int} (hi : i < xs.length) : (plusV xs ys b).getD i .none = .int (toI (xs.getD i .none) + b * toI (ys.getD i .none)) := by
  unfold plusV
  rw [List.getD_eq_getElem?_getD, List.getElem?_map, List.getElem?_range hi]
  rfl
theorem row_getD {a : Int} (h : Row xs a) (hi : i < xs.length) : -a ≤ toI (xs.getD i .none) ∧ toI (xs.getD i .none) ≤ a := by
  rw [List.getD_eq_getElem?_getD, List.getElem?_eq_getElem hi]
  obtain ⟨z, e, h1, h2⟩ := h.get (List.getElem?_eq_getElem hi)
  rw [Option.getD_some, e]
  exact ⟨h1, h2⟩
theorem less_row (h1 : Row xs 5) (h2 : Row ys 4) (he : xs.length = ys.length) : Row (plusV xs ys (-1)) 9 := fun x hx => by
  unfold plusV at hx
  obtain ⟨i, hi, rfl⟩ := List.mem_map.mp hx
  have hi := List.mem_range.mp hi
  obtain ⟨a1, a2⟩ := row_getD h1 hi
  obtain ⟨b1, b2⟩ := row_getD h2 (show i < ys.length by omega)
  exact isIn_of (by omega) (by omega)
theorem sum_sub {l : List Nat} {f g : Nat → Int} : (l.map fun i => f i - g i).sum = (l.map f).sum - (l.map g).sum := by
  induction l with
  | nil => rfl
  | cons a l ih =>
    simp only [List.map_cons, List.sum_cons, ih]
    omega
theorem dot_less {zs : List PyData} (h1 : xs.length = ys.length) (h2 : xs.length = zs.length) : dotV (plusV xs ys (-1)) zs = dotV xs zs - dotV ys zs := by
  rw [← dot_range (xs := plusV xs ys (-1)) (ys := zs) (by rw [plus_len]; exact h2), ← dot_range h2, ← dot_range (xs := ys) (ys := zs) (by omega), plus_len, ← h1, ← sum_sub]
  refine congrArg List.sum (List.map_congr_left fun i hi => ?_)
  rw [plus_get (List.mem_range.mp hi)]
  show (toI (xs.getD i .none) + -1 * toI (ys.getD i .none)) * toI (zs.getD i .none) = _
  rw [Int.add_mul, Int.neg_mul, Int.one_mul, Int.neg_mul]
  omega
theorem dot_bound (h1 : Row xs 9) (h2 : Row ys (10 ^ 40)) (hl : xs.length ≤ 8) : (dotV xs ys).natAbs < 2 ^ 200 := by
  have key : ∀ {xs ys : List PyData}, Row xs 9 → Row ys (10 ^ 40) → (dotV xs ys).natAbs ≤ xs.length * (9 * 10 ^ 40) := by
    intro xs
    induction xs with
    | nil => intro ys _ _; simp [dotV]
    | cons x xs ih =>
      intro ys h1 h2
      cases ys with
      | nil => simp [dotV]
      | cons y ys =>
        have a := ih (fun z hz => h1 z (List.mem_cons_of_mem _ hz)) (fun z hz => h2 z (List.mem_cons_of_mem _ hz))
        obtain ⟨p, rfl, p0, p1⟩ := isIn_int (h1 _ List.mem_cons_self)
        obtain ⟨q, rfl, q0, q1⟩ := isIn_int (h2 _ List.mem_cons_self)
        have e : dotV (.int p :: xs) (.int q :: ys) = p * q + dotV xs ys := by simp [dotV, toI]
        have b : (p * q).natAbs ≤ 9 * 10 ^ 40 := by
          rw [Int.natAbs_mul]
          exact Nat.mul_le_mul (by omega) (by omega)
        rw [e, List.length_cons]
        have := Int.natAbs_add_le (p * q) (dotV xs ys)
        omega
  have := key h1 h2
  have e : 8 * (9 * 10 ^ 40) < 2 ^ 200 := by decide
  have : xs.length * (9 * 10 ^ 40) ≤ 8 * (9 * 10 ^ 40) := Nat.mul_le_mul_right _ hl
  omega
theorem valueDue_ok (hx : Ok 3 100000 x) (hf : Ok 3 100000 form) (he : Ok 3 100000 effect) : Ok 4 100300 (valueDue x form effect) := by
  unfold valueDue
  split
  · rename_i hi
    obtain ⟨i, rfl, i0, i8⟩ := isIn_int hi
    split
    · rename_i h1
      split
      · rename_i h2
        obtain ⟨as, e1, l1, r1⟩ := wrongN_none (isNo_eq h1)
        obtain ⟨bs, e2, l2, r2⟩ := wrongN_none (isNo_eq h2)
        rw [e1, e2]
        have l1 : (as.length : Int) = i := l1
        exact (ok_pair (by decide +kernel) (by decide +kernel) (ok_int (pow_lt (dot_bound r1 r2 (by omega)) (by decide)))).mono
      · exact (ok_pair (by decide +kernel) (by decide +kernel) (wrongN_ok he (by omega))).mono
    · exact (ok_pair (by decide +kernel) (by decide +kernel) (wrongN_ok hf (by omega))).mono
  · exact ok_pair (by decide +kernel) (by decide +kernel) hx
theorem clo_less {as bs cs es : List PyData} (m0 : 0 ≤ m) (m8 : m ≤ 8) (h1 : env[1]? = some (some (.d (.int m)))) (h4 : env[4]? = some (some (.d (.tuple as)))) (h5 : env[5]? = some (some (.d (.tuple bs)))) (h3 : env[3]? = some (some (.d (.tuple cs)))) (h9 : env[9]? = some (some (.d (.tuple es))))
    (ra : Row as 9) (rb : Row bs 9) (rc : Row cs 9) (re : Row es (10 ^ 40)) (la : (as.length : Int) = m) (lb : (bs.length : Int) = m) (lc : (cs.length : Int) = m) (le : (es.length : Int) = m) :
    CloR (LL C (d + 8)) (.lst false [(.call 10 [(.var 1), (.var 4), (.var 9)]), (.bop .sub (.call 10 [(.var 1), (.var 5), (.var 9)]) (.call 10 [(.var 1), (.var 3), (.var 9)]))]) env st (.tuple [told, .list [.int (dotV as es), .int (dotV bs es - dotV cs es)]]) := by
  unfold CloR
  rw [LL_succ]
  unfold textDepth
  (try walk_at "w")
  rw [h1]
  (try walk_at "w")
  rw [h4]
  (try walk_at "w")
  rw [h9]
  (try walk_at "w")
  refine value_row (d := d + 2) m0 m8 ra re la le ?_
  (try walk_at "w")
  rw [h5]
  (try walk_at "w")
  refine value_row (d := d + 2) m0 m8 rb re lb le ?_
  (try walk_at "w")
  rw [h3]
  (try walk_at "w")
  refine value_row (d := d + 2) m0 m8 rc re lc le ?_
  (try walk_at "w")
  exact ⟨_, rfl, rfl⟩
end
end K01
namespace K01
open PySem Ev
section
variable {d k : Nat} {x thing form effect : PyData} {lo hi m most : Int} {t st : Store} {Q : R → Store → Prop} {X : Nat → PyData → Store → Prop} {xs ys : List PyData} {name : Str} {env : Ev.Env} {i j n : Nat}
theorem half_comp (hl : xs.length ≤ 8) (hr : Row xs 9) {st : Store} {C : Ev.Ctx} {F : FEv} {L : IE → Ev.Env → Store → Res R} {n : Nat} {Q : R → Store → Prop} {X : Nat → PyData → Store → Prop} (hlen : env.length = 15) (h : Q (.d (.list (halfV xs))) st) :
    (compL (same [.d (.tuple xs)] st) st.length (compB (evs C F L (n + 2)) [14] (.nm 14) none (.bop .fdiv (.var 14) (.k (PyData.int 2))) env) (xs.map R.d) (st ++ [.lst []])).wp (fun _ st' => (compEnd false st.length st').wp Q X) X := by
  refine comp_map (fun r => match r with | .d x => .int (toI x / 2) | _ => .none) (by rw [List.length_map, sizeLine_eq]; omega) (fun _ => rfl) (fun r hr2 c => ?_) ?_
  · obtain ⟨y, hy, rfl⟩ := List.mem_map.mp hr2
    obtain ⟨i, rfl, _⟩ := isIn_int (hr y hy)
    rw [compB_wp, tg_nm]
    (try walk_at "w")
    have e : ((wipe [14] env).set 14 (some (R.d (.int i))))[14]? = some (some (.d (.int i))) := by
      rw [List.getElem?_set_self]
      unfold wipe
      simp [hlen]
    rw [e]
    (try walk_at "w")
    exact ⟨by decide, rfl⟩
  · rw [List.map_map]
    exact h
theorem pick_ok {c : Int} {a : IE} {x0 : PyData} {L : IE → Ev.Env → Store → Res R} (h0 : env[0]? = some (some (.c 0))) (hj : env[j]? = some (some (.d x0))) (hx0 : Ok 3 100000 x0) (c0 : 0 < c) (c1 : c < 100) (hk : k < 2 ^ 30) (hJ : JS k t st)
    (ha : ∀ (s1 : Store) (Q' : R → Store → Prop), JS (k + 1) t s1 → (∀ x s, JS (k + 9) t s → Ok 3 100000 x → Q' (.d x) s) → ((evs C (LF C (d + 9)) L (n + 3)).E a env s1).wp Q' X) (h : ∀ x s, JS (k + 9) t s → Ok 3 100000 x → Q (.d x) s) :
    ((evs C (LF C (d + 9)) L (n + 4)).E (.ite (.cmp .eq (.call 13 [.var 0, .k (.int c)]) (.k (.int 0))) a (.var j)) env st).wp Q X := by
  (try walk_at "w")
  rw [h0]
  (try walk_at "w")
  refine takeS.run hJ (by omega) c0 (pow_lt (k := 10) (by omega) (by decide)) fun v s1 J1 v0 v1 => ?_
  (try walk_at "w")
  by_cases hv : v = 0
  · rw [if_pos hv]
    exact ha s1 Q J1 h
  · rw [if_neg hv, hj]
    (try walk_at "w")
    exact h x0 s1 (J1.mono (by omega)) hx0
theorem valuesright_ok (hJ : JS k t st) (hk : k < 2 ^ 28) (m0 : 0 ≤ m) (m8 : m ≤ 8) (h : ∀ st', JS (k + 400) t st' → Q (.d (.bool true)) st') : (LF C (d + 10) 32 [.c 0, .d (.int m)] st).wp Q X := by
  rw [lev_f, call_wp (fn := ⟨15, 2, b_law_values_right⟩) rfl rfl]
  unfold b_law_values_right textDepth
  have hm : isIn (.int m) 0 8 = true := isIn_of m0 m8
  have hmo : Ok 3 100000 (.int m) := (ok_int (pow_lt (k := 10) (by omega) (by decide))).mono
  (try walk_at "w")
  refine rowdraw_ok (d := d + 6) hJ (by omega) (by omega) (by omega) m0 m8 fun xs s1 J1 hl hr => ?_
  (try walk_at "w")
  refine oneS.run J1 (by omega) (by simp only [List.length_cons, List.length_nil]; omega) (by simp only [List.length_cons, List.length_nil]; omega) fun w s2 J2 hw => ?_
  obtain ⟨big, rfl, b0, b1⟩ : ∃ big : Int, w = .int big ∧ 1 ≤ big ∧ big ≤ 10 ^ 40 := by
    simp only [List.mem_cons, List.not_mem_nil, or_false] at hw
    rcases hw with rfl | rfl | rfl
    · exact ⟨_, rfl, by omega, by omega⟩
    · exact ⟨_, rfl, by omega, by omega⟩
    · exact ⟨_, rfl, by omega, by omega⟩
  (try walk_at "w")
  refine rowdraw_ok (d := d + 6) J2 (by omega) b0 b1 m0 m8 fun ys s3 J3 hl2 hr2 => ?_
  have hr3 : Row ys (10 ^ 40) := row_mono hr2 b1
  have hxl : xs.length ≤ 8 := by omega
  have hyl : ys.length ≤ 8 := by omega
  have hxo := row_okt hr (by omega) hxl
  have hyo := row_okt hr3 (by omega) hyl
  (try walk_at "w")
  rw [wk_rng1, if_pos (by decide)]
  (try walk_at "w")
  refine forL_wp (fun i env s => ∃ o2 o10 o11 o12 o13 : Option R, env = [some (.c 0), some (.d (.int m)), o2, none, none, none, none, none, some (.d (.tuple xs)), some (.d (.tuple ys)), o10, o11, o12, o13, none] ∧ JS (k + 33 + 27 * i) t s) (fun i env s _ => rfl) ?_ ?_ ⟨none, none, none, none, none, rfl, J3.mono (by omega)⟩
  · rintro env s ⟨o2, o10, o11, o12, o13, rfl, J4⟩
    have J4 : JS (k + 33 + 27 * 8) t s := J4
    (try walk_at "w")
    refine rowdraw_ok (d := d + 6) J4 (by omega) (by omega) (by omega) m0 m8 fun zs s5 J5 hl3 hr4 => ?_
    have hzl : zs.length ≤ 8 := by omega
    have hh := half_row hr
    have hhl : (halfV xs).length = xs.length := half_len
    (try walk_at "w")
    refine half_comp hxl hr rfl ?_
    (try walk_at "w")
    refine plus_ok (d := d + 8) (row_mono hh (by omega)) (row_mono hr4 (by omega)) (by omega) (by omega) ?_
    (try walk_at "w")
    refine half_comp hxl hr rfl ?_
    (try walk_at "w")
    refine val_ok (d := d + 8) (row_mono hh (by omega)) (row_mono hr3 (by omega)) (by omega) (by omega) ?_
    (try walk_at "w")
    refine val_ok (d := d + 8) (row_mono hr4 (by omega)) (row_mono hr3 (by omega)) (by omega) (by omega) ?_
    (try walk_at "w")
    have el : dotV (plusV (halfV xs) zs (-1)) ys = dotV (halfV xs) ys - dotV zs ys := dot_less (by omega) (by omega)
    have b1 := dot_bound (row_mono hh (by omega)) hr3 (show (halfV xs).length ≤ 8 by omega)
    have b2 := dot_bound (row_mono hr4 (by omega)) hr3 hzl
    have hb : (dotV (halfV xs) ys - dotV zs ys).natAbs < 2 ^ 201 := by omega
    have hc := @clo_less (d) m s5 (wipe [] [some (.c 0), some (.d (.int m)), o2, some (.d (.tuple zs)), some (.d (.tuple (plusV (halfV xs) zs (-1)))), some (.d (.tuple (halfV xs))), some (.d (.int (dotV (halfV xs) ys - dotV zs ys))), none, some (.d (.tuple xs)), some (.d (.tuple ys)), o10, o11, o12, o13, none]) _ _ _ _ m0 m8 rfl rfl rfl rfl rfl (less_row hh hr4 (by omega)) (row_mono hh (by omega)) (row_mono hr4 (by omega)) hr3 (by rw [plus_len]; omega) (by omega) (by omega) (by omega)
    rw [el] at hc
    refine heardS.run hc ?_
    (try walk_at "w")
    have oi : Ok 0 1921 (.int (dotV (halfV xs) ys - dotV zs ys)) := ok_int (pow_lt hb (by decide))
    have ol : Ok 2 10000 (.tuple [told, .list [.int (dotV (halfV xs) ys - dotV zs ys), .int (dotV (halfV xs) ys - dotV zs ys)]]) :=
      (ok_pair (dd := 1) (n := 5000) (by decide +kernel) (by decide +kernel) (ok_list (d := 0) (n := 4000) (oks_cons (n := 1921) (m := 2000) oi (oks_cons (n := 1921) (m := 0) oi oks_nil)) (by omega) (by omega))).mono
    rw [bi_repr ol (by omega) (by omega)]
    (try walk_at "w")
    rw [bi_repr ol (by omega) (by omega)]
    (try walk_at "w")
    rw [J5.take (by rw [hJ.len])]
    exact h s5 (J5.mono (by omega))
  · rintro i z env s hz ⟨o2, o10, o11, o12, o13, rfl, J4⟩
    obtain ⟨rfl, hi⟩ := rng_get hz
    have hi : i < 8 := hi
    rw [forB_wp, tg_nm, opt_s, wS, wS_cons, w_set, wE_bop, wE_k, wE_k, b_pow]
    refine ⟨pk_40, ?_⟩
    rw [nl_d, tn_40]
    show (stepS C _ _ _ _).wp _
    rw [wS_cons, w_set]
    refine pick_ok (j := 8) (x0 := .tuple xs) rfl rfl hxo (by omega) (by omega) (by omega) J4 (fun s5 Q' J5 hq => ?_) fun one s5 J5 ho1 => ?_
    · (try walk_at "w")
      exact bent_ok (d := d + 5) J5 (by omega) (by omega) (by omega) hxl hr fun x s6 J6 hx => hq x s6 (J6.mono (by omega)) hx
    rw [nl_d]
    show (stepS C _ _ _ _).wp _
    rw [wS_cons, w_set]
    refine pick_ok (j := 9) (x0 := .tuple ys) rfl rfl hyo (by omega) (by omega) (by omega) J5 (fun s6 Q' J6 hq => ?_) fun two s6 J6 ho2 => ?_
    · (try walk_at "w")
      exact bent_ok (d := d + 5) J6 (by omega) (by omega) (by omega) hyl hr3 fun x s7 J7 hx => hq x s7 (J7.mono (by omega)) hx
    rw [nl_d]
    show (stepS C _ _ _ _).wp _
    rw [wS_cons, w_set]
    refine pick_ok (j := 1) (x0 := .int m) rfl rfl hmo (by omega) (by omega) (by omega) J6 (fun s7 Q' J7 hq => ?_) fun mm s7 J7 ho3 => ?_
    · (try walk_at "w")
      exact oddmany_ok (d := d + 6) J7 (by omega) fun x s8 J8 hx _ => hq x s8 (J8.mono (by omega)) hx.mono
    rw [nl_d]
    show (stepS C _ _ _ _).wp _
    (try walk_at "w")
    refine valdue_ok (d := d + 5) ho3 ho1 ho2 ?_
    (try walk_at "w")
    refine saysS.run (d := 4) (n := 100300) (clo_value rfl rfl rfl (nod_of ho3) (NoD.of ho1) (NoD.of ho2)) (valueDue_ok ho3 ho1 ho2) (by omega) (by omega) ?_
    (try walk_at "w")
    rw [trim_same (by rw [J3.len, J7.len]; exact Nat.le_refl _)]
    exact ⟨_, _, _, _, _, rfl, J7.mono (by omega)⟩
end
end K01
namespace K01
open PySem Ev
section
variable {d k : Nat} {x thing form effect : PyData} {lo hi m most : Int} {t st : Store} {Q : R → Store → Prop} {X : Nat → PyData → Store → Prop} {xs ys : List PyData} {name : Str} {env : Ev.Env} {i j n : Nat}
theorem hand_run (a b c : Int) : (lev C 11).1 34 [] [J a b c] = .ok (.d (.bool true)) [J a b c] := by kernel_rfl
/-- what is due of unit -/
def unitDue (x i : PyData) : PyData := if isIn x 0 8 = true then (if isIn i 0 (toI x - 1) = true then .tuple [told, .tuple (unitV (toI x) (toI i))] else .tuple [.str (Str.ofString "BadIndex"), i]) else .tuple [.str (Str.ofString "BadMany"), x]
theorem clo_unit {y : PyData} (h1 : env[i]? = some (some (.d x))) (h2 : env[j]? = some (some (.d y))) (hx : isDict x = false) (hy : isDict y = false) : CloR (LL C (d + 7)) (.call 11 [.var i, .var j]) env st (unitDue x y) := by
  unfold CloR unitDue
  rw [LL_succ]
  unfold textDepth
  walk_at "w"
  rw [h1]
  walk_at "w"
  rw [h2]
  walk_at "w"
  refine unit_ok (d := d + 2) hx hy ?_
  by_cases hi : isIn x 0 8 = true
  · rw [if_pos hi, if_pos hi]
    by_cases hw : isIn y 0 (toI x - 1) = true
    · rw [if_pos hw, if_pos hw]
      exact ⟨rfl, _, rfl, rfl⟩
    · rw [if_neg hw, if_neg hw]
      exact ⟨rfl, _, rfl, rfl⟩
  · rw [if_neg hi, if_neg hi]
    exact ⟨rfl, _, rfl, rfl⟩
theorem clo_unitn (h1 : env[i]? = some (some (.d x))) (hx : isDict x = false) (hi : isIn x 0 8 = false) : CloR (LL C (d + 7)) (.call 11 [.var i, .k .none]) env st (.tuple [.str (Str.ofString "BadMany"), x]) := by
  unfold CloR
  rw [LL_succ]
  unfold textDepth
  walk_at "w"
  rw [h1]
  walk_at "w"
  refine unit_ok (d := d + 2) hx rfl ?_
  rw [if_neg (by rw [hi]; simp)]
  exact ⟨rfl, _, rfl, rfl⟩
theorem unit_len (m0 : 0 ≤ m) {q : Int} : ((unitV m q).length : Int) = m := by unfold unitV; simp; omega
theorem unit_row {q : Int} : Row (unitV m q) 9 := fun x hx => by
  unfold unitV at hx
  obtain ⟨i, hi, rfl⟩ := List.mem_map.mp hx
  split <;> exact isIn_of (by omega) (by omega)
theorem unit_dot (hl : (ys.length : Int) = m) {q : Nat} (hq : q < ys.length) : dotV (unitV m (q : Int)) ys = toI (ys.getD q .none) := by
  have hu : (unitV m (q : Int)).length = ys.length := by have := unit_len (m := m) (q := (q : Int)) (by omega); omega
  rw [← dot_range hu, hu]
  have e : (List.range ys.length).map (fun i => toI ((unitV m (q : Int)).getD i .none) * toI (ys.getD i .none)) = (List.range ys.length).map fun i => if i = q then toI (ys.getD q .none) else 0 := by
    refine List.map_congr_left fun i hi => ?_
    have hi := List.mem_range.mp hi
    have eu : (unitV m (q : Int)).getD i .none = .int (if (i : Int) = (q : Int) then 1 else 0) := by
      unfold unitV
      rw [List.getD_eq_getElem?_getD, List.getElem?_map, List.getElem?_range (by omega)]
      rfl
    rw [eu]
    by_cases h : i = q
    · subst h
      simp [toI]
    · rw [if_neg h, if_neg (by omega)]
      simp [toI]
  rw [e]
  have key : ∀ (n q : Nat) (v : Int), ((List.range n).map fun i => if i = q then v else 0).sum = if q < n then v else 0 := by
    intro n
    induction n with
    | zero => intro q v; simp
    | succ n ih =>
      intro q v
      rw [List.range_succ, List.map_append, List.sum_append, ih]
      simp only [List.map_cons, List.map_nil, List.sum_cons, List.sum_nil, Int.add_zero]
      by_cases h1 : q < n
      · rw [if_pos h1, if_neg (by omega), if_pos (by omega)]
        omega
      · rw [if_neg h1]
        by_cases h2 : n = q
        · rw [if_pos h2, if_pos (by omega)]
          omega
        · rw [if_neg h2, if_neg (by omega)]
          omega
  rw [key, if_pos hq]
theorem clo_uv {q : Nat} (m0 : 0 ≤ m) (m8 : m ≤ 8) (h1 : env[1]? = some (some (.d (.int m)))) (h2 : env[2]? = some (some (.d (.tuple ys)))) (h3 : env[3]? = some (some (.d (.int (q : Int))))) (hr : Row ys (10 ^ 40)) (hl : (ys.length : Int) = m) (hq : q < ys.length) :
    CloR (LL C (d + 7)) (.call 10 [.var 1, .call 11 [.var 1, .var 3], .var 2]) env st (.tuple [told, .int (toI (ys.getD q .none))]) := by
  unfold CloR
  rw [LL_succ]
  unfold textDepth
  walk_at "w"
  rw [h1]
  walk_at "w"
  rw [h3]
  walk_at "w"
  refine unit_ok (d := d + 2) rfl rfl ?_
  rw [if_pos (isIn_of m0 m8), if_pos (isIn_of (by omega) (by show (q : Int) ≤ m - 1; omega))]
  (try walk_at "w")
  rw [h2]
  (try walk_at "w")
  refine value_row (d := d + 1) m0 m8 unit_row hr (unit_len m0) hl ?_
  rw [show (toI (.int (q : Int))) = (q : Int) from rfl, show toI (.int m) = m from rfl, unit_dot hl hq]
  first | exact ⟨rfl, _, rfl, rfl⟩ | exact ⟨_, rfl, rfl⟩
theorem unitDue_ok (hx : Ok 3 100000 x) (hy : Ok 3 100000 thing) : Ok 4 100300 (unitDue x thing) := by
  unfold unitDue
  split
  · rename_i hi
    obtain ⟨m, rfl, m0, m8⟩ := isIn_int hi
    split
    · have hl := unit_len (m := m) (q := toI thing) m0
      exact (ok_pair (dd := 3) (n := 100000) (by decide +kernel) (by decide +kernel) (row_okt unit_row (by omega) (by show (unitV m (toI thing)).length ≤ 8; omega))).mono
    · exact ok_pair (by decide +kernel) (by decide +kernel) hy
  · exact ok_pair (by decide +kernel) (by decide +kernel) hx
theorem int_bool {p : Prop} [Decidable p] : (if decide p = true then (1 : Int) else 0) = if p then 1 else 0 := by by_cases h : p <;> simp [h]
theorem unitsright_ok (hJ : JS k t st) (hk : k < 2 ^ 28) (m0 : 0 ≤ m) (m8 : m ≤ 8) (h : ∀ st', JS (k + 20) t st' → Q (.d (.bool true)) st') : (LF C (d + 10) 33 [.c 0, .d (.int m)] st).wp Q X := by
  rw [lev_f, call_wp (fn := ⟨7, 2, b_law_units_right⟩) rfl rfl]
  unfold b_law_units_right textDepth
  have hm : isIn (.int m) 0 8 = true := isIn_of m0 m8
  have hmo : Ok 3 100000 (.int m) := (ok_int (pow_lt (k := 10) (by omega) (by decide))).mono
  walk_at "w"
  refine rowdraw_ok (d := d + 6) hJ (by omega) (by omega) (by omega) m0 m8 fun ys s1 J1 hl hr => ?_
  have hyl : ys.length ≤ 8 := by omega
  (try walk_at "w")
  have e1 : allD (rngList (-2) (m + 2 - -2).toNat) = some ((List.range (m + 2 - -2).toNat).map fun i => PyData.int (-2 + (i : Nat))) := by
    unfold rngList
    rw [show (fun k : Nat => R.d (.int (-2 + (k : Nat)))) = R.d ∘ fun k : Nat => PyData.int (-2 + (k : Nat)) from rfl, ← List.map_map, allD_all]
  rw [e1]
  refine ⟨⟨by decide, by unfold inB; exact decide_eq_true (by omega), by omega⟩, ?_⟩
  (try walk_at "w")
  refine ⟨by rw [rng_len]; omega, by simp only [List.length_map, List.length_range]; omega, ?_⟩
  (try walk_at "w")
  have hall : ∀ x ∈ ((List.range (m + 2 - -2).toNat).map fun i => PyData.int (-2 + (i : Nat))) ++ [PyData.int (10 ^ 30), .bool true, .none, .str (Str.ofString "0"), .tuple [.int 0], .list [.int 0]], Ok 3 100000 x := fun x hx => by
    rcases List.mem_append.mp hx with q | q
    · obtain ⟨i, hi, rfl⟩ := List.mem_map.mp q
      have hi := List.mem_range.mp hi
      exact (ok_int (pow_lt (k := 10) (by omega) (by decide))).mono
    · simp only [List.mem_cons, List.not_mem_nil, or_false] at q
      rcases q with rfl | rfl | rfl | rfl | rfl | rfl
      · exact (ok_int (pow_lt (k := 110) (by decide) (by decide))).mono
      · exact ok1_bool.mono
      · exact ok1_none.mono
      · exact (ok1_str (by decide +kernel) (by decide +kernel)).mono
      · exact (ok1_tup1 (by decide)).mono
      · exact (ok1_list1 (by decide)).mono
  revert hall
  generalize ((List.range (m + 2 - -2).toNat).map fun i => PyData.int (-2 + (i : Nat))) ++ [PyData.int (10 ^ 30), .bool true, .none, .str (Str.ofString "0"), .tuple [.int 0], .list [.int 0]] = is
  intro hall
  refine forL_wp (fun i env s => ∃ o3 o5 : Option R, env = [some (.c 0), some (.d (.int m)), some (.d (.tuple ys)), o3, none, o5, none] ∧ JS (k + 16) t s) (fun i env s _ => rfl) ?_ ?_ ⟨none, none, rfl, J1⟩
  · rintro env s ⟨o3, o5, rfl, J2⟩
    (try walk_at "w")
    refine oddmany_ok (d := d + 6) J2 (by omega) fun odd s3 J3 ho hodd => ?_
    have ho3 : Ok 3 100000 odd := ho.mono
    (try walk_at "w")
    refine saysS.run (d := 4) (n := 100300) (clo_unitn rfl (nod_of ho3) hodd) (ok_pair (by decide +kernel) (by decide +kernel) ho3) (by omega) (by omega) ?_
    (try walk_at "w")
    rw [J3.take (by rw [hJ.len])]
    exact h s3 (J3.mono (by omega))
  · rintro i z env s hz ⟨o3, o5, rfl, J2⟩
    obtain ⟨x, hx, rfl⟩ := List.mem_map.mp (List.mem_of_getElem? hz)
    have hxo := hall x hx
    rw [forB_wp, tg_nm]
    (try walk_at "w")
    refine is_ok (d := d + 8) (nod_of hxo) ?_
    (try walk_at "w")
    have last : ∀ y : PyData, ∃ p3 p5 : Option R, (trim s1.length [some (.c 0), some (.d (.int m)), some (.d (.tuple ys)), some (.d x), none, some (.d y), none] s).1 = [some (.c 0), some (.d (.int m)), some (.d (.tuple ys)), p3, none, p5, none] ∧ JS (k + 16) t (trim s1.length [some (.c 0), some (.d (.int m)), some (.d (.tuple ys)), some (.d x), none, some (.d y), none] s).2 := fun y => by
      rw [trim_same (by rw [J1.len, J2.len]; exact Nat.le_refl _)]
      exact ⟨_, _, rfl, J2⟩
    by_cases hi : isIn x 0 (m - 1) = true
    · rw [if_pos hi]
      obtain ⟨q0, rfl, q1, q2⟩ := isIn_int hi
      obtain ⟨q, rfl⟩ := Int.eq_ofNat_of_zero_le q1
      have hq : q < ys.length := by omega
      have hb : inB m = true := by unfold inB; exact decide_eq_true (by omega)
      rw [wk_rng1, if_pos hb]
      (try walk_at "w")
      refine comp_map (fun r => match r with | .d (.int k) => .int (if k = (q : Int) then 1 else 0) | _ => .none) (by rw [rng_len, sizeLine_eq]; omega) (fun _ => rfl) (fun r hr c => ?_) ?_
      · obtain ⟨k, hk, rfl⟩ := rng_mem hr
        rw [compB_wp, tg_nm]
        simp only [wipe, List.map_cons, List.map_nil, List.foldl_cons, List.foldl_nil, List.set_cons_succ, List.set_cons_zero]
        (try walk_at "w")
        first | done | simp
      · have e : (rngList 0 m.toNat).map (fun r => match r with | .d (.int k) => PyData.int (if k = (q : Int) then 1 else 0) | _ => .none) = unitV m (q : Int) := by
          unfold rngList unitV
          rw [List.map_map]
          refine List.map_congr_left fun k _ => ?_
          simp only [Function.comp, Int.zero_add]
        rw [e]
        (try walk_at "w")
        rw [at_nat, List.getElem?_eq_getElem hq]
        (try walk_at "w")
        have ey : ys[q] = .int (toI (ys.getD q .none)) := by
          obtain ⟨v, ev, _⟩ := hr.get (List.getElem?_eq_getElem hq)
          rw [List.getD_eq_getElem?_getD, List.getElem?_eq_getElem hq, Option.getD_some, ev]
          rfl
        have hye : Ok 3 100000 ys[q] := (hr.ok1 (by omega) _ (List.getElem_mem hq)).mono
        refine saysS.run (d := 4) (n := 100300) (due := .tuple [told, ys[q]]) ?_ (ok_pair (by decide +kernel) (by decide +kernel) hye) (by omega) (by omega) ?_
        · rw [ey]
          exact clo_uv m0 m8 rfl rfl rfl hr hl hq
        · (try walk_at "w")
          have eu : unitDue (.int m) (.int (q : Int)) = .tuple [told, .tuple (unitV m (q : Int))] := by
            unfold unitDue
            rw [if_pos hm, if_pos (show isIn (.int (q : Int)) 0 (toI (.int m) - 1) = true from hi)]
            rfl
          refine saysS.run (d := 4) (n := 100300) (due := .tuple [told, .tuple (unitV m (q : Int))]) ?_ (eu ▸ unitDue_ok hmo hxo) (by omega) (by omega) ?_
          · rw [← eu]
            exact clo_unit rfl rfl rfl rfl
          · (try walk_at "w")
            exact last _
    · rw [if_neg hi]
      have eu : unitDue (.int m) x = .tuple [.str (Str.ofString "BadIndex"), x] := by
        unfold unitDue
        rw [if_pos hm, if_neg (show ¬ isIn x 0 (toI (.int m) - 1) = true from hi)]
      refine saysS.run (d := 4) (n := 100300) (due := .tuple [.str (Str.ofString "BadIndex"), x]) ?_ (eu ▸ unitDue_ok hmo hxo) (by omega) (by omega) ?_
      · rw [← eu]
        exact clo_unit rfl rfl rfl (nod_of hxo)
      · (try walk_at "w")
        exact last _
/-- the whole law -/
theorem law_ok {ns : List Int} (hl : ns.length ≤ 63) : (LF C 12 35 [.s ns] []).wp (fun r _ => r = .d (.bool true)) (fun _ _ _ => False) := by
  rw [show (12 : Nat) = 11 + 1 from rfl, lev_f, call_wp (fn := ⟨3, 1, b_law⟩) rfl rfl]
  unfold b_law textDepth
  walk_at "w"
  refine (poolS (d := 10)).run hl fun s J0 => ?_
  (try walk_at "w")
  have e1 : allD (rngList 0 9) = some ((List.range 9).map fun i => PyData.int (i : Nat)) := rfl
  rw [e1]
  refine ⟨⟨by decide, by decide⟩, ?_⟩
  (try walk_at "w")
  refine ⟨by rw [rng_len]; decide, ?_⟩
  refine (mixS (d := 9)).run J0 (by simp) (by simp) fun ys s1 J1 hp => ?_
  have J1 : JS 9 [] s1 := by simpa using J1
  (try walk_at "w")
  refine forL_wp (fun i env s => ∃ o : Option R, env = [some (.s ns), some (.c 0), o] ∧ JS (9 + 520 * i) [] s) (fun i env s _ => rfl) ?_ ?_ ⟨none, rfl, J1⟩
  · rintro env s2 ⟨o, rfl, a, b, c, rfl, _⟩
    (try walk_at "w")
    have e : LF C 11 34 [] [J a b c] = .ok (.d (.bool true)) [J a b c] := by
      unfold LF
      exact hand_run a b c
    rw [e]
    (try walk_at "w")
    try rfl
  · rintro i z env s2 hz ⟨o, rfl, J2⟩
    have hi : i < 9 := by
      have h1 := (List.getElem?_eq_some_iff.mp hz).1
      rw [List.length_map, hp.length_eq] at h1
      simpa using h1
    obtain ⟨x, hx, rfl⟩ := List.mem_map.mp (List.mem_of_getElem? hz)
    obtain ⟨q, hq, rfl⟩ := List.mem_map.mp (hp.mem_iff.mp hx)
    have hq := List.mem_range.mp hq
    rw [forB_wp, tg_nm]
    (try walk_at "w")
    refine maderight_ok (d := 1) J2 (by omega) (by omega) (by omega) fun s3 J3 => ?_
    (try walk_at "w")
    refine valuesright_ok (d := 1) J3 (by omega) (by omega) (by omega) fun s4 J4 => ?_
    (try walk_at "w")
    refine unitsright_ok (d := 1) J4 (by omega) (by omega) (by omega) fun s5 J5 => ?_
    (try walk_at "w")
    rw [trim_same (by rw [J1.len, J5.len]; exact Nat.le_refl _)]
    exact ⟨_, rfl, J5.mono (by omega)⟩
end
theorem law_runs0 : ∀ ns : List Int, ns.length ≤ 63 → ∃ st, fev ctx0 12 35 [.s ns] [] = .ok (.d (.bool true)) st := by
  intro ns hl
  obtain ⟨r, st, e, rfl⟩ := Res.wp_ex (law_ok hl)
  rw [fev_LF]
  exact ⟨st, e⟩
end K01
namespace K01
open PySem PySem.Spec PyProof.Rows L2 Ev
def top (i : Nat) : Stmt := PySem.Challenge.pw_duechances_k01_forms_and_their_values.main.body.getD i (.Pass ⟨0, 0, 0, 0⟩)
def d_whole : DI := ⟨"whole", top 13, ["thing", "low", "high"], false, b_whole⟩
def d_many : DI := ⟨"many", top 14, ["thing", "low", "high"], false, b_many⟩
def d_is_number : DI := ⟨"is_number", top 17, ["thing", "most"], false, b_is_number⟩
def d_asked_counts : DI := ⟨"asked_counts", top 21, ["m"], false, b_asked_counts⟩
def d_wrong_numbers : DI := ⟨"wrong_numbers", top 22, ["m", "thing", "most", "at", "number"], false, b_wrong_numbers⟩
def d_wrong_form : DI := ⟨"wrong_form", top 23, ["m", "thing"], false, b_wrong_form⟩
def d_asked_weights : DI := ⟨"asked_weights", top 24, ["m", "form", "wrong"], false, b_asked_weights⟩
def d_dot : DI := ⟨"dot", top 25, ["form", "effect", "weight", "number"], false, b_dot⟩
def d_made_form : DI := ⟨"made_form", top 26, ["m", "thing"], false, b_made_form⟩
def d_is_form : DI := ⟨"is_form", top 27, ["m", "thing"], false, b_is_form⟩
def d_value : DI := ⟨"value", top 28, ["m", "form", "effect", "wrong"], false, b_value⟩
def d_unit : DI := ⟨"unit", top 29, ["m", "i", "at"], false, b_unit⟩
def d_law_pool : DI := ⟨"_law_pool", top 31, ["script", "at", "digits", "stirred", "cell"], false, b_law_pool⟩
def d_law_take : DI := ⟨"_law_take", top 32, ["jar", "many_v", "found"], false, b_law_take⟩
def d_law_one : DI := ⟨"_law_one", top 33, ["jar", "things"], false, b_law_one⟩
def d_law_mixed : DI := ⟨"_law_mixed", top 34, ["jar", "things", "go", "spare", "found"], false, b_law_mixed⟩
def d_law_vq_heard : DI := ⟨"_law_vq_heard", top 35, ["call", "odd", "some", "name", "is_one"], false, b_law_vq_heard⟩
def d_law_vq_says : DI := ⟨"_law_vq_says", top 36, ["call", "due"], false, b_law_vq_says⟩
def d_law_vw_is : DI := ⟨"_law_vw_is", top 37, ["thing", "low", "high"], false, b_law_vw_is⟩
def d_law_vw_first : DI := ⟨"_law_vw_first", top 38, ["dues", "found", "due"], false, b_law_vw_first⟩
def d_law_vw_many_due : DI := ⟨"_law_vw_many_due", top 39, ["m"], false, b_law_vw_many_due⟩
def d_law_vw_row_due : DI := ⟨"_law_vw_row_due", top 40, ["name", "thing", "size", "most", "bad", "at"], false, b_law_vw_row_due⟩
def d_law_vw_form_due : DI := ⟨"_law_vw_form_due", top 41, ["m", "thing"], false, b_law_vw_form_due⟩
def d_law_vw_value : DI := ⟨"_law_vw_value", top 42, ["form", "row", "at"], false, b_law_vw_value⟩
def d_law_vw_plus : DI := ⟨"_law_vw_plus", top 43, ["one", "two", "by", "at"], false, b_law_vw_plus⟩
def d_law_vw_put : DI := ⟨"_law_vw_put", top 44, ["row", "at", "thing"], false, b_law_vw_put⟩
def d_law_odd_number : DI := ⟨"_law_odd_number", top 45, ["jar", "most"], false, b_law_odd_number⟩
def d_law_odd_many : DI := ⟨"_law_odd_many", top 46, ["jar"], false, b_law_odd_many⟩
def d_law_row : DI := ⟨"_law_row", top 47, ["jar", "m", "most", "some", "at"], false, b_law_row⟩
def d_law_bent : DI := ⟨"_law_bent", top 48, ["jar", "row", "most", "sort", "made", "go"], false, b_law_bent⟩
def d_law_made_right : DI := ⟨"_law_made_right", top 49, ["jar", "m", "row", "thing", "odd", "due", "kept", "go"], true, b_law_made_right⟩
def d_law_value_due : DI := ⟨"_law_value_due", top 50, ["m", "form", "effect", "due"], false, b_law_value_due⟩
def d_law_values_right : DI := ⟨"_law_values_right", top 51, ["jar", "m", "go", "other", "less", "half", "owed", "heard", "form", "effect", "most", "one", "two", "many_v", "x"], true, b_law_values_right⟩
def d_law_units_right : DI := ⟨"_law_units_right", top 52, ["jar", "m", "effect", "i", "odd", "due", "at"], true, b_law_units_right⟩
def d_law_hand_right : DI := ⟨"_law_hand_right", top 53, ["some", "great", "owed", "heard", "m", "thing", "is_one"], true, b_law_hand_right⟩
def d_law : DI := ⟨"law", top 54, ["script", "jar", "m"], false, b_law⟩
def iniSt : Stmt := match top 1 with
  | .ClassDef _ _ _ (s :: _) _ _ _ _ _ _ _ => s
  | s => s
def prg : PI := ⟨[d_whole, d_many, d_is_number, d_asked_counts, d_wrong_numbers, d_wrong_form, d_asked_weights, d_dot, d_made_form, d_is_form, d_value, d_unit, d_law_pool, d_law_take, d_law_one, d_law_mixed, d_law_vq_heard, d_law_vq_says, d_law_vw_is, d_law_vw_first, d_law_vw_many_due, d_law_vw_row_due, d_law_vw_form_due, d_law_vw_value, d_law_vw_plus, d_law_vw_put, d_law_odd_number, d_law_odd_many, d_law_row, d_law_bent, d_law_made_right, d_law_value_due, d_law_values_right, d_law_units_right, d_law_hand_right, d_law], ["Refused", "BadMany", "TooMany", "BadForm", "BadEffect", "BadIndex", "BadKinds", "BadPlan", "BadSeason", "BadMoves", "BadErrors", "Torn"], [[true, false, false, false, false, false, false, false, false, false, false, false], [true, true, false, false, false, false, false, false, false, false, false, false], [true, false, true, false, false, false, false, false, false, false, false, false], [true, false, false, true, false, false, false, false, false, false, false, false], [true, false, false, false, true, false, false, false, false, false, false, false], [true, false, false, false, false, true, false, false, false, false, false, false], [true, false, false, false, false, false, true, false, false, false, false, false], [true, false, false, false, false, false, false, true, false, false, false, false], [true, false, false, false, false, false, false, false, true, false, false, false], [true, false, false, false, false, false, false, false, false, true, false, false], [true, false, false, false, false, false, false, false, false, false, true, false], [true, false, false, false, false, false, false, false, false, false, false, true]], [("LONG", PyData.int 10000000000000000000000000000000000000000), ("MOST_COUNTS", PyData.int 8), ("MOST_WEIGHT", PyData.int 9)], iniSt⟩
theorem ctx_eq : prg.ctx = ctx0 := by kernel_rfl
end K01
namespace K01
open PySem PySem.Spec PyProof.Rows L2 Ev
theorem law_runs : ∀ ns : List Int, ns.length ≤ 63 → (∀ z ∈ ns, Builtin.Int.intBits z ≤ 1048576) → ∃ st, fev prg.ctx 12 35 [.s ns] [] = .ok (.d (.bool true)) st := by
  intro ns hl _
  rw [ctx_eq]
  exact law_runs0 ns hl
end K01
set_option maxHeartbeats 0
namespace K01
open PySem PySem.Spec PyProof.Rows L2 Ev
def loose0 : List PySem.Str := ["Refused", "BadMany", "TooMany", "BadForm", "BadEffect", "BadIndex", "BadKinds", "BadPlan", "BadSeason", "BadMoves", "BadErrors", "Torn", "whole", "many", "LONG", "is_number", "MOST_COUNTS", "MOST_WEIGHT", "asked_counts", "wrong_numbers", "wrong_form", "asked_weights", "dot", "made_form", "is_form", "value", "unit", "_law_pool", "_law_take", "_law_one"]
def loose1 : List PySem.Str := ["_law_mixed", "_law_vq_heard", "_law_vq_says", "_law_vw_is", "_law_vw_first", "_law_vw_many_due", "_law_vw_row_due", "_law_vw_form_due", "_law_vw_value", "_law_vw_plus", "_law_vw_put", "_law_odd_number", "_law_odd_many", "_law_row", "_law_bent", "_law_made_right", "_law_value_due", "_law_values_right", "_law_units_right", "_law_hand_right"]
abbrev loose : List PySem.Str := loose0 ++ loose1
abbrev R : PySem.W.OpenRow := PySem.W.OpenLaw.row PySem.Challenge.rw_duechances_k01_forms_and_their_values
abbrev hk : PySem.W.Hook := He.hookX 5 prg.facts prg.fn [] prg.tf prg.ex
def ob (s : PySem.W.SharedT) : He.AlX := He.obsX 5 prg.facts prg.fn [] prg.tf prg.ex (HandSHeadRun.getT s)
theorem ob_eq (s : PySem.W.SharedT) : ob s = hk.obs s.abs := He.obsX_eq (HandSHeadRun.getT_eq s)
theorem run (w : World) : HandSHeadRun.RunEq R (PySem.W.view R.prog [54]) hk ob 6000 loose w := by
  intro os
  kernel_rfl
theorem okB : prg.ok = true := by decide +kernel
theorem okD : 0 < prg.cls.length ∧ ∀ e ∈ prg.defs, prg.defB e = true := by
  have h := okB
  unfold PI.ok at h
  rw [Bool.and_eq_true, decide_eq_true_eq] at h
  exact ⟨h.1, List.all_eq_true.mp h.2⟩
end K01
open PySem PySem.W PySem.Calls PyProof.Rows
set_option maxRecDepth 100000 in
set_option maxHeartbeats 0 in
theorem PySem.Challenge.cw_duechances_k01_forms_and_their_values_holds : PySem.Challenge.rw_duechances_k01_forms_and_their_values.Holds := by
  w_on; o_law
  refine HandSHeadRun.head_any (r := OpenLaw.row PySem.Challenge.rw_duechances_k01_forms_and_their_values) (q := view (OpenLaw.row PySem.Challenge.rw_duechances_k01_forms_and_their_values).prog [54]) (H := K01.hk) (ob := K01.ob) (M := 6000) (loose := K01.loose) (d := HandSHeadRun.topDef (OpenLaw.row PySem.Challenge.rw_duechances_k01_forms_and_their_values).prog 54) (kwd := []) K01.ob_eq
    (by kernel_rfl) (fun s => by kernel_rfl) K01.run (by kernel_rfl) (by kernel_rfl) (by kernel_rfl) (by rfl) (by first | assumption | decide +kernel) (by decide +kernel) ⟨rfl, rfl, rfl, rfl, rfl, by decide +kernel⟩ ?hw ?hc
  case hw => w_witness2
  case hc =>
    exact Ev.walk_prg (l := PySem.Challenge.rw_duechances_k01_forms_and_their_values) (n := 63) (m := 5) (d := 12) (f := 35) (p := K01.prg) rfl (by decide) (by kernel_rfl) ⟨rfl, by decide, by decide⟩ K01.okD.1 K01.okD.2 (by kernel_rfl) (by kernel_rfl) (by decide +kernel) (by decide +kernel) (by kernel_rfl) K01.law_runs
