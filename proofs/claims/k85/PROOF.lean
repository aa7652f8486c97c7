import PyProof.Rows.All
import Wide.All
import OpenK.AllK
import Wide.FinOn
import HandS.ForMost
import HandS.ForExc
import HandS.Deep
import HandS.TupAny
import HandS.TupSets
import HandS.TryMany
import HandS.Iter
import HandS.Zip
import HandS.Rev
import HandS.SortOrd
import HandS.Conv
import HandS.Flow
import KE.SortData
import PyProof.ReprBulk
import PyProof.ReprRoom
import PyProof.ReprRoads
import PySem.Challenge.RW_commonground_k85_hitting_sets
set_option Elab.async false
set_option linter.all false
set_option autoImplicit false
set_option maxRecDepth 100000
/-! Iv: data values and a shallow semantics of the Python subset. -/
namespace Iv
open PySem

/-- values: data are trees; lst, dct, set as values are frozen (nobody changes them any more) -/
inductive Val where
  | non | bool (b : Bool) | int (i : Int) | str (s : Str)
  | tup (xs : List Val) | lst (xs : List Val)
  | dct (kvs : List (Val × Val)) | set (xs : List Val)
  | obj (i : Nat) | cls (c : Nat)
  /-- the law's script -/
  | scr (xs : List Int)
  deriving Inhabited

/-- containers that may change -/
inductive Cell where
  | lst (xs : List Val) | dct (kvs : List (Val × Val)) | set (xs : List Val)
  deriving Inhabited
def Cell.fz : Cell → Val
  | .lst xs => .lst xs
  | .dct kvs => .dct kvs
  | .set xs => .set xs

/-- a local name: no value, a value, a container of its own, a container of an outer frame (by reference) -/
inductive Slot where
  | no | val (v : Val) | own (c : Cell) | rf (d i : Nat) | lock (c : Cell)
  deriving Inhabited
def Slot.idle : Slot → Bool
  | .no => true
  | .val _ => true
  | _ => false
def Slot.locked : Slot → Bool
  | .lock _ => true
  | _ => false
/-- the container that stands in the slot -/
def Slot.cell : Slot → Option Cell
  | .own c => some c
  | .lock c => some c
  | _ => none
abbrev Env := List Slot
structure Obj where
  cls : Nat
  flds : List (Str × Slot)
  deriving Inhabited
/-- what a call hands through: the outer frames, the objects -/
structure Glob where
  stk : List Env
  objs : List Obj
  deriving Inhabited
structure Mem where
  stk : List Env
  env : Env
  objs : List Obj
  deriving Inhabited
inductive Res where
  | val (v : Val) | new (c : Cell)
  deriving Inhabited
def Res.fz : Res → Val
  | .val v => v
  | .new c => c.fz
inductive Out (α : Type) where
  | ok (a : α) | exc (c : Nat) (fs : List (Str × Val))
inductive Arg where
  | val (v : Val) | rf (d i : Nat)
  deriving Inhabited
def Arg.slot : Arg → Slot
  | .val v => .val v
  | .rf d i => .rf d i
inductive Flow where
  | nx | rt (r : Res) | bk | ct

/-- calls of the program's defs, by their numbers -/
abbrev CallF := Nat → List Arg → Glob → Option (Out Res × Glob)
def M (α : Type) : Type := CallF → Mem → Option (Out α × Mem)
def ret {α : Type} (a : α) : M α := fun _ m => some (.ok a, m)
def bnd {α β : Type} (x : M α) (f : α → M β) : M β := fun k m => match x k m with
  | some (.ok a, m') => f a k m'
  | some (.exc c fs, m') => some (.exc c fs, m')
  | none => none
def stuck {α : Type} : M α := fun _ _ => none
def lift {α : Type} (o : Option α) : M α := fun _ m => match o with
  | some a => some (.ok a, m)
  | none => none

/-! ### equality -/
mutual
/-- Python's == of data -/
def Val.eq : Val → Val → Bool
  | .non, .non => true
  | .bool a, .bool b => a == b
  | .bool a, .int j => (if a then 1 else 0) == j
  | .int i, .bool b => i == (if b then 1 else 0)
  | .int i, .int j => i == j
  | .str x, .str y => decide (x = y)
  | .tup xs, .tup ys => Val.eqs xs ys
  | .lst xs, .lst ys => Val.eqs xs ys
  | _, _ => false
def Val.eqs : List Val → List Val → Bool
  | [], [] => true
  | x :: xs, y :: ys => Val.eq x y && Val.eqs xs ys
  | _, _ => false
end
mutual
/-- data of a depth below n -/
def Val.ok : Nat → Val → Bool
  | _, .non => true
  | _, .bool _ => true
  | _, .int _ => true
  | _, .str s => PyData.strOk s
  | n + 1, .tup xs => Val.oks n xs
  | n + 1, .lst xs => Val.oks n xs
  | _, _ => false
def Val.oks : Nat → List Val → Bool
  | _, [] => true
  | n, x :: xs => Val.ok n x && Val.oks n xs
end
mutual
def Val.data : Val → PyData
  | .bool b => .bool b
  | .int i => .int i
  | .str s => .str s
  | .tup xs => .tuple (Val.datas xs)
  | .lst xs => .list (Val.datas xs)
  | _ => .none
def Val.datas : List Val → List PyData
  | [] => []
  | x :: xs => Val.data x :: Val.datas xs
end
theorem Val.datas_map (xs : List Val) : Val.datas xs = xs.map Val.data := by
  induction xs with
  | nil => rfl
  | cons x xs ih => simp [Val.datas, ih]
theorem Val.oks_all (n : Nat) (xs : List Val) : Val.oks n xs = xs.all (Val.ok n) := by
  induction xs with
  | nil => rfl
  | cons x xs ih => simp [Val.oks, ih]

/-! ### order -/
def Val.alike (a b : Val) : Bool := PySem.W.alike a.data b.data
def Val.lt (a b : Val) : Bool := PySem.W.dataLt a.data b.data
def Val.le (a b : Val) : Bool := !Val.lt b a
def isNon : Val → Bool
  | .non => true
  | _ => false
def sortOk (xs : List Val) : Bool := xs.all (fun x => Val.ok 60 x && !isNon x && xs.all (fun y => Val.alike x y)) && decide (xs.length ≤ 1000000)
def sortV (xs : List Val) : Option (List Val) := if sortOk xs then some (xs.mergeSort Val.le) else none

def lim : Nat := 1000000

/-! ### names -/
/-- the name as a value that is kept: a container is frozen -/
def nameC (i : Nat) : M Res := fun _ m => match m.env[i]? with
  | some (.val v) => some (.ok (.val v), m)
  | some (.own c) => some (.ok (.val c.fz), { m with env := m.env.set i (.val c.fz) })
  | some (.rf d j) => match (m.stk[d]?).bind (·[j]?) with
    | some (.own c) => some (.ok (.val c.fz), { m with stk := m.stk.modify d (·.set j (.val c.fz)) })
    | some (.val v) => some (.ok (.val v), m)
    | _ => none
  | _ => none
/-- the name that is returned: a container of its own goes out with the call -/
def nameR (i : Nat) : M Res := fun k m => match m.env[i]? with
  | some (.own c) => some (.ok (.new c), { m with env := m.env.set i .no })
  | _ => nameC i k m
/-- the name's value as it stands, to be looked at -/
def peekE (stk : List Env) (env : Env) (i : Nat) : Option Val := match env[i]? with
  | some (.val v) => some v
  | some (.own c) => some c.fz
  | some (.lock c) => some c.fz
  | some (.rf d j) => match (stk[d]?).bind (·[j]?) with
    | some (.own c) => some c.fz
    | some (.lock c) => some c.fz
    | some (.val v) => some v
    | _ => none
  | _ => none
def peek (i : Nat) : M Val := fun _ m => match peekE m.stk m.env i with
  | some v => some (.ok v, m)
  | none => none
def Res.slot : Res → Slot
  | .val v => .val v
  | .new c => .own c
def setSlot (i : Nat) (s : Slot) : M Unit := fun _ m => match m.env[i]? with
  | some s0 => if s0.locked then none else some (.ok (), { m with env := m.env.set i s })
  | none => none
def setName (i : Nat) (r : Res) : M Unit := setSlot i r.slot
/-- a target: a name, a tuple of targets -/
inductive Tgt where
  | name (i : Nat) | tup (ts : List Tgt)
mutual
def Tgt.put : Tgt → Val → M Unit
  | .name i, v => setSlot i (.val v)
  | .tup ts, .tup vs => if ts.length = vs.length then Tgt.puts ts vs else stuck
  | .tup _, _ => stuck
def Tgt.puts : List Tgt → List Val → M Unit
  | [], _ => ret ()
  | t :: ts, v :: vs => bnd (Tgt.put t v) fun _ => Tgt.puts ts vs
  | _ :: _, [] => stuck
end
/-- the container of slot i is changed -/
def chg {α : Type} (i : Nat) (f : Cell → Option (Cell × α)) : M α := fun _ m => match m.env[i]? with
  | some (.own c) => match f c with
    | some (c', a) => some (.ok a, { m with env := m.env.set i (.own c') })
    | none => none
  | some (.rf d j) => match (m.stk[d]?).bind (·[j]?) with
    | some (.own c) => match f c with
      | some (c', a) => some (.ok a, { m with stk := m.stk.modify d (·.set j (.own c')) })
      | none => none
    | _ => none
  | _ => none

/-! ### calls -/
def argC (e : M Res) : M Arg := bnd e fun r => ret (.val r.fz)
/-- a name handed by reference, where it is a container that may change -/
def argR (i : Nat) : M Arg := fun k m => match m.env[i]? with
  | some (.own _) => some (.ok (.rf m.stk.length i), m)
  | some (.lock _) => some (.ok (.rf m.stk.length i), m)
  | some (.rf d j) => some (.ok (.rf d j), m)
  | some (.val v) => some (.ok (.val v), m)
  | _ => none
def callM (f : Nat) (args : List Arg) : M Res := fun k m =>
  match k f args ⟨m.stk ++ [m.env], m.objs⟩ with
  | some (.ok r, g) => match g.stk[m.stk.length]? with
    | some env => some (.ok r, ⟨g.stk.take m.stk.length, env, g.objs⟩)
    | none => none
  | some (.exc c fs, g) => match g.stk[m.stk.length]? with
    | some env => some (.exc c fs, ⟨g.stk.take m.stk.length, env, g.objs⟩)
    | none => none
  | none => none
/-- a def: its slots, its body -/
def defM (n : Nat) (body : M Flow) (args : List Arg) : CallF → Glob → Option (Out Res × Glob) := fun k g =>
  match body k ⟨g.stk, args.map Arg.slot ++ List.replicate (n - args.length) .no, g.objs⟩ with
  | some (.ok (.rt r), m) => some (.ok r, ⟨m.stk, m.objs⟩)
  | some (.ok .nx, m) => some (.ok (.val .non), ⟨m.stk, m.objs⟩)
  | some (.exc c fs, m) => some (.exc c fs, ⟨m.stk, m.objs⟩)
  | _ => none
def run (prog : Nat → Option (List Arg → CallF → Glob → Option (Out Res × Glob))) : Nat → CallF
  | 0 => fun _ _ _ => none
  | k + 1 => fun f args g => match prog f with
    | some d => d args (run prog k) g
    | none => none

/-! ### statements -/
def seqM (x y : M Flow) : M Flow := bnd x fun f => match f with
  | .nx => y
  | f => ret f
def doM {α : Type} (x : M α) : M Flow := bnd x fun _ => ret .nx
def retM (x : M Res) : M Flow := bnd x fun r => ret (.rt r)
def ifM {α : Type} (c : M Bool) (x y : M α) : M α := bnd c fun b => if b then x else y
def andM (x y : M Bool) : M Bool := bnd x fun b => if b then y else ret false
def orM (x y : M Bool) : M Bool := bnd x fun b => if b then ret true else y
def notM (x : M Bool) : M Bool := bnd x fun b => ret (!b)
/-- a value that is True or False, as a test -/
def boolM (x : M Res) : M Bool := bnd x fun r => match r with
  | .val (.bool b) => ret b
  | _ => stuck
def resB (x : M Bool) : M Res := bnd x fun b => ret (.val (.bool b))
def forL (tgt : Val → M Unit) (body : M Flow) : List Val → M Flow
  | [] => ret .nx
  | x :: xs => bnd (tgt x) fun _ => bnd body fun f => match f with
    | .nx => forL tgt body xs
    | .ct => forL tgt body xs
    | .bk => ret .nx
    | .rt r => ret (.rt r)
def forM (items : M (List Val)) (tgt : Val → M Unit) (body : M Flow) : M Flow := bnd items (forL tgt body)
def whileN (c : M Bool) (body : M Flow) : Nat → M Flow
  | 0 => stuck
  | n + 1 => bnd c fun b => if b then bnd body fun f => (match f with
    | .nx => whileN c body n
    | .ct => whileN c body n
    | .bk => ret .nx
    | .rt r => ret (.rt r)) else ret .nx
open Classical in
noncomputable def whileM (c : M Bool) (body : M Flow) : M Flow := fun k m =>
  if h : ∃ n r, whileN c body n k m = some r then whileN c body (Classical.choose h) k m else none

/-! ### comprehensions -/
def wipeE (e : Env) : List Nat → Env
  | [] => e
  | i :: is => (wipeE e is).set i .no
/-- the slots is of e as they stand in e0 -/
def backE (e0 e : Env) : List Nat → Env
  | [] => e
  | i :: is => (backE e0 e is).set i (e0.getD i .no)
def wipeM (own : List Nat) : M Unit := fun _ m => if own.all (fun i => !(m.env.getD i .no).locked) then some (.ok (), { m with env := wipeE m.env own }) else none
def compL (own : List Nat) (tgt : Val → M Unit) (test : M Bool) (elt : M Res) : List Val → List Val → M (List Val)
  | acc, [] => bnd (wipeM own) fun _ => ret acc
  | acc, x :: xs => bnd (wipeM own) fun _ => bnd (tgt x) fun _ => bnd test fun b =>
    if b then bnd elt fun r => if acc.length < lim then compL own tgt test elt (acc ++ [r.fz]) xs else stuck else compL own tgt test elt acc xs
def compR (own : List Nat) (tgt : Val → M Unit) (test : M Bool) (elt : M Res) (xs : List Val) : M Res := fun k m =>
  if own.all (fun i => (m.env.getD i .no).idle) then match compL own tgt test elt [] xs k m with
    | some (.ok vs, m') => some (.ok (.new (.lst vs)), { m' with env := backE m.env m'.env own })
    | _ => none
  else none
def compM (items : M (List Val)) (own : List Nat) (tgt : Val → M Unit) (test : M Bool) (elt : M Res) : M Res := bnd items (compR own tgt test elt)

/-! ### iteration -/
def iterV : Val → Option (List Val)
  | .lst xs => some xs
  | .tup xs => some xs
  | _ => none
/-- the container of slot i is locked while its items are walked -/
def lockM {α : Type} (i : Nat) (f : List Val → M α) : M α := fun k m => match m.env[i]? with
  | some (.own c) => match iterV c.fz with
    | some xs => match f xs k { m with env := m.env.set i (.lock c) } with
      | some (r, m') => some (r, { m' with env := m'.env.set i (.own c) })
      | none => none
    | none => none
  | some (.rf d j) => match (m.stk[d]?).bind (·[j]?) with
    | some (.own c) => match iterV c.fz with
      | some xs => match f xs k { m with stk := m.stk.modify d (·.set j (.lock c)) } with
        | some (r, m') => some (r, { m' with stk := m'.stk.modify d (·.set j (.own c)) })
        | none => none
      | none => none
    | some (.lock c) => match iterV c.fz with
      | some xs => f xs k m
      | none => none
    | some (.val v) => match iterV v with
      | some xs => f xs k m
      | none => none
    | _ => none
  | some (.lock c) => match iterV c.fz with
    | some xs => f xs k m
    | none => none
  | some (.val v) => match iterV v with
    | some xs => f xs k m
    | none => none
  | _ => none
def itemsM (e : M Res) : M (List Val) := bnd e fun r => lift (iterV r.fz)
def rangeL (lo : Int) (c : Int) : Nat → List Val
  | 0 => []
  | n + 1 => .int lo :: rangeL (lo + c) c n
def small (i : Int) : Bool := decide (-1000000000 ≤ i ∧ i ≤ 1000000000)
def rangeV (lo hi : Int) : Option (List Val) := if small lo && small hi then some (rangeL lo 1 (hi - lo).toNat) else none
/-- range(lo, hi, -1) -/
def rangeD (lo hi : Int) : Option (List Val) := if small lo && small hi then some (rangeL lo (-1) (lo - hi).toNat) else none
def enumL : Nat → List Val → List Val
  | _, [] => []
  | n, x :: xs => .tup [.int n, x] :: enumL (n + 1) xs
def intM {α : Type} (x : M Res) (f : Int → M α) : M α := bnd x fun r => match r with
  | .val (.int i) => f i
  | _ => stuck

/-! ### operations -/
def opAdd : Val → Val → Option Res
  | .int a, .int b => some (.val (.int (a + b)))
  | .str a, .str b => if a.length + b.length ≤ lim then some (.val (.str (a ++ b))) else none
  | .lst a, .lst b => if a.length + b.length ≤ lim then some (.new (.lst (a ++ b))) else none
  | .tup a, .tup b => if a.length + b.length ≤ lim then some (.val (.tup (a ++ b))) else none
  | _, _ => none
def opSub : Val → Val → Option Res
  | .int a, .int b => some (.val (.int (a - b)))
  | _, _ => none
def mulOk (a : Int) : Bool := decide (-(2 ^ 64) < a ∧ a < 2 ^ 64)
def opMul : Val → Val → Option Res
  | .int a, .int b => if mulOk a || mulOk b then some (.val (.int (a * b))) else none
  | _, _ => none
def divOk (b : Int) : Bool := decide (b ≠ 0 ∧ b.natAbs < 1073741824)
def opDiv : Val → Val → Option Res
  | .int a, .int b => if divOk b then some (.val (.int (a.fdiv b))) else none
  | _, _ => none
def opMod : Val → Val → Option Res
  | .int a, .int b => if b ≠ 0 then some (.val (.int (a.fmod b))) else none
  | _, _ => none
def opPow : Val → Val → Option Res
  | .int a, .int b => if 0 ≤ b ∧ b ≤ 1000 ∧ a.natAbs < 2 ^ 64 then some (.val (.int (a ^ b.toNat))) else none
  | _, _ => none
def opNeg : Val → Option Res
  | .int a => some (.val (.int (-a)))
  | _ => none
def bin (f : Val → Val → Option Res) (x y : M Res) : M Res := bnd x fun a => bnd y fun b => lift (f a.fz b.fz)
def un (f : Val → Option Res) (x : M Res) : M Res := bnd x fun a => lift (f a.fz)
def binB (f : Val → Val → Option Bool) (x y : M Res) : M Bool := bnd x fun a => bnd y fun b => lift (f a.fz b.fz)
def cEqD (a b : Val) : Option Bool := if Val.ok 60 a && Val.ok 60 b then some (Val.eq a b) else none
def cEq : Val → Val → Option Bool
  | .str x, .str y => some (decide (x = y))
  | a, b => cEqD a b
def cNe (a b : Val) : Option Bool := (cEq a b).map (!·)
def cLt : Val → Val → Option Bool
  | .int a, .int b => some (decide (a < b))
  | _, _ => none
def cLe : Val → Val → Option Bool
  | .int a, .int b => some (decide (a ≤ b))
  | _, _ => none
def cGt : Val → Val → Option Bool
  | .int a, .int b => some (decide (b < a))
  | _, _ => none
def cGe : Val → Val → Option Bool
  | .int a, .int b => some (decide (b ≤ a))
  | _, _ => none
/-- keys of dicts: ints and texts; or tuples of them -/
def Val.key1 : Val → Bool
  | .int _ => true
  | .str _ => true
  | _ => false
def Val.keyT : Val → Bool
  | .tup xs => xs.all Val.key1
  | _ => false
def look (k : Val) : List (Val × Val) → Option Val
  | [] => none
  | (a, v) :: r => if Val.eq a k then some v else look k r
/-- may k be asked for in a dict with these entries -/
def keyFit (k : Val) (kvs : List (Val × Val)) : Bool := (k.key1 && kvs.all (fun p => p.1.key1)) || (k.keyT && kvs.all (fun p => p.1.keyT))
def cIn (x : Val) : Val → Option Bool
  | .lst ys => if Val.ok 60 x && Val.oks 60 ys then some (ys.any fun y => Val.eq y x) else none
  | .tup ys => if Val.ok 60 x && Val.oks 60 ys then some (ys.any fun y => Val.eq y x) else none
  | .dct kvs => if keyFit x kvs then some (look x kvs).isSome else none
  | _ => none
def cNotIn (x y : Val) : Option Bool := (cIn x y).map (!·)
def cIsN (x : Val) : Bool := match x with
  | .non => true
  | _ => false
def isN (x : M Res) : M Bool := bnd x fun r => ret (cIsN r.fz)
def notN (x : M Res) : M Bool := bnd x fun r => ret (!cIsN r.fz)
def atV {α : Type} (xs : List α) (i : Int) : Option α := L2.atI xs i
def index : Val → Val → Option Val
  | .lst xs, .int i => atV xs i
  | .tup xs, .int i => atV xs i
  | .dct kvs, k => if keyFit k kvs then look k kvs else none
  | .str s, .int i => if s.length ≤ lim then (atV s.cps.toList i).map fun c => .str ⟨#[c]⟩ else none
  | _, _ => none
/-- e[e'] -/
def subM (x y : M Res) : M Res := bnd x fun a => bnd y fun b => lift ((index a.fz b.fz).map .val)
/-- name[e'] -/
def subN (i : Nat) (y : M Res) : M Res := bnd (peek i) fun _ => bnd y fun b => bnd (peek i) fun a => lift ((index a b.fz).map .val)
def cutL {α : Type} (xs : List α) (lo hi : Option Int) : List α := (xs.drop (HT.sIx xs.length 0 lo)).take (HT.sIx xs.length xs.length hi - HT.sIx xs.length 0 lo)
def cut : Val → Option Int → Option Int → Option Res
  | .lst xs, lo, hi => some (.new (.lst (cutL xs lo hi)))
  | .tup xs, lo, hi => some (.val (.tup (cutL xs lo hi)))
  | _, _, _ => none

/-! ### displays -/
def argsM : List (M Res) → M (List Val)
  | [] => ret []
  | x :: xs => bnd x fun a => bnd (argsM xs) fun as => ret (a.fz :: as)
def tupM (xs : List (M Res)) : M Res := bnd (argsM xs) fun as => ret (.val (.tup as))
def lstM (xs : List (M Res)) : M Res := bnd (argsM xs) fun as => ret (.new (.lst as))
def argL : List (M Arg) → M (List Arg)
  | [] => ret []
  | x :: xs => bnd x fun a => bnd (argL xs) fun as => ret (a :: as)

/-! ### built-in functions -/
def intsOf : List Val → Option (List Int)
  | [] => some []
  | .int i :: xs => (intsOf xs).map (i :: ·)
  | _ => none
def bools : List Val → Option (List Bool)
  | [] => some []
  | .bool i :: xs => (bools xs).map (i :: ·)
  | _ => none
def bLen : Val → Option Res
  | .lst xs => some (.val (.int xs.length))
  | .tup xs => some (.val (.int xs.length))
  | .dct xs => some (.val (.int xs.length))
  | .str s => if s.length ≤ lim then some (.val (.int s.length)) else none
  | _ => none
def bTuple : Val → Option Res
  | .lst xs => some (.val (.tup xs))
  | .tup xs => some (.val (.tup xs))
  | _ => none
def bList : Val → Option Res
  | .lst xs => some (.new (.lst xs))
  | .tup xs => some (.new (.lst xs))
  | .dct kvs => some (.new (.lst (kvs.map (·.1))))
  | .scr is => some (.new (.lst (is.map .int)))
  | _ => none
def bSorted : Val → Option Res
  | .lst xs => (sortV xs).map fun ys => .new (.lst ys)
  | .tup xs => (sortV xs).map fun ys => .new (.lst ys)
  | _ => none
def dedup : List Val → List Val → List Val
  | acc, [] => acc
  | acc, x :: xs => if acc.any (fun y => Val.eq y x) then dedup acc xs else dedup (acc ++ [x]) xs
def isInt : Val → Bool
  | .int _ => true
  | _ => false
def isStr : Val → Bool
  | .str _ => true
  | _ => false
def isIntTup : Val → Bool
  | .tup xs => xs.all isInt
  | _ => false
def setOk (xs : List Val) : Bool := decide (xs.length < 64) && xs.all isIntTup
/-- sorted(set(x)) -/
def bSortedSet : Val → Option Res
  | .lst xs => if setOk xs then some (.new (.lst ((dedup [] xs).mergeSort Val.le))) else none
  | _ => none
/-- len(set(x)) -/
def bLenSet : Val → Option Res
  | .lst xs => if setOk xs then some (.val (.int (dedup [] xs).length)) else none
  | _ => none
def bAny : Val → Option Res
  | .lst xs => (bools xs).map fun bs => .val (.bool (bs.any id))
  | _ => none
def bAll : Val → Option Res
  | .lst xs => (bools xs).map fun bs => .val (.bool (bs.all id))
  | _ => none
def bSum : Val → Option Res
  | .lst xs => (intsOf xs).map fun is => .val (.int is.sum)
  | _ => none
def maxI : List Int → Option Int
  | [] => none
  | x :: xs => some (xs.foldl (fun a b => if b > a then b else a) x)
def minI : List Int → Option Int
  | [] => none
  | x :: xs => some (xs.foldl (fun a b => if b < a then b else a) x)
def bMax : Val → Option Res
  | .lst xs => (intsOf xs).bind fun is => (maxI is).map fun i => .val (.int i)
  | .tup xs => (intsOf xs).bind fun is => (maxI is).map fun i => .val (.int i)
  | _ => none
def bMin : Val → Option Res
  | .lst xs => (intsOf xs).bind fun is => (minI is).map fun i => .val (.int i)
  | .tup xs => (intsOf xs).bind fun is => (minI is).map fun i => .val (.int i)
  | _ => none
def bMax2 : Val → Val → Option Res
  | .int m, .int n => some (.val (.int (if n > m then n else m)))
  | _, _ => none
def bMin2 : Val → Val → Option Res
  | .int m, .int n => some (.val (.int (if n < m then n else m)))
  | _, _ => none
def bInt : Val → Option Res
  | .int i => some (.val (.int i))
  | .bool b => some (.val (.int (if b then 1 else 0)))
  | _ => none
def bAbs : Val → Option Res
  | .int i => some (.val (.int (if i < 0 then -i else i)))
  | _ => none
def bStr : Val → Option Res
  | .int i => if i.natAbs.log2 < 1920 then some (.val (.str (toString i))) else none
  | _ => none
def bRepr (v : Val) : Option Res := if Val.ok 60 v && PyData.showable v.data && decide ((PyData.shown v.data).length ≤ lim) then some (.val (.str (PyData.shown v.data))) else none

/-! ### methods of lists -/
def lAppend (v : Val) : Cell → Option (Cell × Val)
  | .lst xs => if xs.length < lim then some (.lst (xs ++ [v]), .non) else none
  | _ => none
def lPop : Val → Cell → Option (Cell × Val)
  | .int i, .lst xs => if small i then (L2.ixN xs.length i).bind fun j => (xs[j]?).map fun v => (.lst (xs.eraseIdx j), v) else none
  | _, _ => none
def lPop0 : Cell → Option (Cell × Val)
  | .lst xs => (xs[xs.length - 1]?).map fun v => (.lst xs.dropLast, v)
  | _ => none
def lReverse : Cell → Option (Cell × Val)
  | .lst xs => some (.lst xs.reverse, .non)
  | _ => none
def lExtend : Val → Cell → Option (Cell × Val)
  | .lst ys, .lst xs => if xs.length + ys.length ≤ lim then some (.lst (xs ++ ys), .non) else none
  | _, _ => none
/-- the name must hold a list -/
def peekL (i : Nat) : M Unit := bnd (peek i) fun d => match d with
  | .lst _ => ret ()
  | _ => stuck
/-- name.append(e) and the like: the receiver, the argument, then the change -/
def mth1 (i : Nat) (F : Val → Cell → Option (Cell × Val)) (x : M Res) : M Res := bnd (peekL i) fun _ => bnd x fun r => bnd (chg i (F r.fz)) fun v => ret (.val v)
def mth0 (i : Nat) (F : Cell → Option (Cell × Val)) : M Res := bnd (peekL i) fun _ => bnd (chg i F) fun v => ret (.val v)
def put (k v : Val) : List (Val × Val) → List (Val × Val)
  | [] => [(k, v)]
  | (a, w) :: r => if Val.eq a k then (a, v) :: r else (a, w) :: put k v r
/-- name[k] = v -/
def cStore (k v : Val) : Cell → Option (Cell × Unit)
  | .lst xs => match k with
    | .int i => (L2.ixN xs.length i).map fun j => (.lst (xs.set j v), ())
    | _ => none
  | .dct kvs => if keyFit k kvs && decide (kvs.length < lim) then some (.dct (put k v kvs), ()) else none
  | _ => none
def dSetdefault (k v : Val) : Cell → Option (Cell × Val)
  | .dct kvs => if keyFit k kvs && decide (kvs.length < lim) then match look k kvs with
      | some w => some (.dct kvs, w)
      | none => some (.dct (put k v kvs), v)
    else none
  | _ => none
def dGet (k v : Val) : Val → Option Val
  | .dct kvs => if keyFit k kvs then some ((look k kvs).getD v) else none
  | _ => none
end Iv

/-! Iv: how values, slots and frames stand in the abstract heap. -/
namespace Iv
open PySem L2

/-- what stays the same through a def: the written part, where the program's classes stand -/
structure Ctx where
  K : PySem.W.Frag
  cl : Nat → Option Addr

def keyOf : Val → Option Key
  | .int i => some (.inl i)
  | .str x => some (.inr x)
  | _ => none
def keysOf : List Val → Option (List Key)
  | [] => some []
  | x :: xs => match keyOf x, keysOf xs with
    | some k, some ks => some (k :: ks)
    | _, _ => none
def keyTup : Val → Option (List Key)
  | .tup xs => keysOf xs
  | _ => none

mutual
/-- v stands for the value d: trees are read off what is fixed (G), objects off ob -/
def RV (C : Ctx) (G : Hp) (ob : List Addr) : Val → V → Prop
  | .non, v => v = .non
  | .bool b, v => v = .bl b
  | .int i, v => v = .int i
  | .str s, v => v = .str s
  | .tup xs, v => ∃ a vs, v = .ref a ∧ SqT C.K G a vs ∧ RVs C G ob xs vs
  | .lst xs, v => ∃ a vs, v = .ref a ∧ G a = some (.lst vs) ∧ RVs C G ob xs vs
  | .dct kvs, v => ∃ a, v = .ref a ∧ ((∃ ps, G a = some (.dK ps) ∧ RKs C G ob kvs ps) ∨ (∃ ps, G a = some (.dT ps) ∧ RTs C G ob kvs ps))
  | .set _, _ => False
  | .obj i, v => ∃ a, ob[i]? = some a ∧ v = .ref a
  | .cls c, v => ∃ a, C.cl c = some a ∧ v = .ref a
  | .scr xs, v => ∃ a, v = .ref a ∧ SqL C.K G a (xs.map V.int)
def RVs (C : Ctx) (G : Hp) (ob : List Addr) : List Val → List V → Prop
  | [], vs => vs = []
  | x :: xs, vs => ∃ v r, vs = v :: r ∧ RV C G ob x v ∧ RVs C G ob xs r
def RKs (C : Ctx) (G : Hp) (ob : List Addr) : List (Val × Val) → List (Key × V) → Prop
  | [], ps => ps = []
  | (k, x) :: xs, ps => ∃ q v r, ps = (q, v) :: r ∧ keyOf k = some q ∧ RV C G ob x v ∧ RKs C G ob xs r
def RTs (C : Ctx) (G : Hp) (ob : List Addr) : List (Val × Val) → List (List Key × V) → Prop
  | [], ps => ps = []
  | (k, x) :: xs, ps => ∃ q v r, ps = (q, v) :: r ∧ keyTup k = some q ∧ RV C G ob x v ∧ RTs C G ob xs r
end

theorem SqT.same {K : PySem.W.Frag} {H H' : Hp} {a : Addr} {xs : List V} (e : Same H H') (h : SqT K H a xs) : SqT K H' a xs := by
  rcases h with (h | ⟨o, h⟩) | h
  · exact .inl (.inl (e _ _ h))
  · exact .inl (.inr ⟨o, e _ _ h⟩)
  · exact .inr h
/-- objects are only added -/
def Pre (a b : List Addr) : Prop := ∀ (i : Nat) (x : Addr), a[i]? = some x → b[i]? = some x
theorem Pre.refl (a : List Addr) : Pre a a := fun _ _ h => h
theorem Pre.trans {a b c : List Addr} (h : Pre a b) (h' : Pre b c) : Pre a c := fun i x e => h' i x (h i x e)

section
variable {C : Ctx} {G G' : Hp} {ob ob' : List Addr}
mutual
theorem RV.mono (hG : Same G G') (ho : Pre ob ob') : ∀ (d : Val) (v : V), RV C G ob d v → RV C G' ob' d v
  | .non, v, h => by simpa [RV] using h
  | .bool _, v, h => by simpa [RV] using h
  | .int _, v, h => by simpa [RV] using h
  | .str _, v, h => by simpa [RV] using h
  | .tup xs, v, h => by
    simp only [RV] at h ⊢
    obtain ⟨a, vs, e, h1, h2⟩ := h
    exact ⟨a, vs, e, SqT.same hG h1, RVs.mono hG ho xs vs h2⟩
  | .lst xs, v, h => by
    simp only [RV] at h ⊢
    obtain ⟨a, vs, e, h1, h2⟩ := h
    exact ⟨a, vs, e, hG _ _ h1, RVs.mono hG ho xs vs h2⟩
  | .dct kvs, v, h => by
    simp only [RV] at h ⊢
    obtain ⟨a, e, h⟩ := h
    refine ⟨a, e, ?_⟩
    rcases h with ⟨ps, h1, h2⟩ | ⟨ps, h1, h2⟩
    · exact .inl ⟨ps, hG _ _ h1, RKs.mono hG ho kvs ps h2⟩
    · exact .inr ⟨ps, hG _ _ h1, RTs.mono hG ho kvs ps h2⟩
  | .set _, v, h => by simp [RV] at h
  | .obj i, v, h => by
    simp only [RV] at h ⊢
    obtain ⟨a, e, h⟩ := h
    exact ⟨a, ho _ _ e, h⟩
  | .cls c, v, h => by
    simp only [RV] at h ⊢
    exact h
  | .scr xs, v, h => by
    simp only [RV] at h ⊢
    obtain ⟨a, e, h⟩ := h
    exact ⟨a, e, hG.seq h⟩
theorem RVs.mono (hG : Same G G') (ho : Pre ob ob') : ∀ (ds : List Val) (vs : List V), RVs C G ob ds vs → RVs C G' ob' ds vs
  | [], vs, h => by simpa [RVs] using h
  | x :: xs, vs, h => by
    simp only [RVs] at h ⊢
    obtain ⟨v, r, e, h1, h2⟩ := h
    exact ⟨v, r, e, RV.mono hG ho x v h1, RVs.mono hG ho xs r h2⟩
theorem RKs.mono (hG : Same G G') (ho : Pre ob ob') : ∀ (ds : List (Val × Val)) (ps : List (Key × V)), RKs C G ob ds ps → RKs C G' ob' ds ps
  | [], vs, h => by simpa [RKs] using h
  | (k, x) :: xs, vs, h => by
    simp only [RKs] at h ⊢
    obtain ⟨q, v, r, e, h0, h1, h2⟩ := h
    exact ⟨q, v, r, e, h0, RV.mono hG ho x v h1, RKs.mono hG ho xs r h2⟩
theorem RTs.mono (hG : Same G G') (ho : Pre ob ob') : ∀ (ds : List (Val × Val)) (ps : List (List Key × V)), RTs C G ob ds ps → RTs C G' ob' ds ps
  | [], vs, h => by simpa [RTs] using h
  | (k, x) :: xs, vs, h => by
    simp only [RTs] at h ⊢
    obtain ⟨q, v, r, e, h0, h1, h2⟩ := h
    exact ⟨q, v, r, e, h0, RV.mono hG ho x v h1, RTs.mono hG ho xs r h2⟩
end

theorem RVs.length : ∀ {ds : List Val} {vs : List V}, RVs C G ob ds vs → ds.length = vs.length
  | [], vs, h => by simp only [RVs] at h; subst h; rfl
  | x :: xs, vs, h => by
    simp only [RVs] at h
    obtain ⟨v, r, rfl, _, h2⟩ := h
    simp [RVs.length h2]
theorem RVs.get : ∀ {ds : List Val} {vs : List V} {i : Nat} {d : Val}, RVs C G ob ds vs → ds[i]? = some d → ∃ v, vs[i]? = some v ∧ RV C G ob d v
  | [], _, _, _, _, e => by simp at e
  | x :: xs, vs, 0, d, h, e => by
    simp only [RVs] at h
    obtain ⟨v, r, rfl, h1, h2⟩ := h
    simp only [List.getElem?_cons_zero, Option.some.injEq] at e
    subst e
    exact ⟨v, by simp, h1⟩
  | x :: xs, vs, i + 1, d, h, e => by
    simp only [RVs] at h
    obtain ⟨v, r, rfl, h1, h2⟩ := h
    simp only [List.getElem?_cons_succ] at e
    obtain ⟨w, e', h'⟩ := RVs.get h2 e
    exact ⟨w, by simpa using e', h'⟩
theorem RVs.get2 : ∀ {ds : List Val} {vs : List V} {i : Nat} {v : V}, RVs C G ob ds vs → vs[i]? = some v → ∃ d, ds[i]? = some d ∧ RV C G ob d v
  | [], vs, i, _, h, e => by simp only [RVs] at h; subst h; simp at e
  | x :: xs, vs, 0, w, h, e => by
    simp only [RVs] at h
    obtain ⟨v, r, rfl, h1, h2⟩ := h
    simp only [List.getElem?_cons_zero, Option.some.injEq] at e
    subst e
    exact ⟨x, by simp, h1⟩
  | x :: xs, vs, i + 1, w, h, e => by
    simp only [RVs] at h
    obtain ⟨v, r, rfl, h1, h2⟩ := h
    simp only [List.getElem?_cons_succ] at e
    obtain ⟨d, e', h'⟩ := RVs.get2 h2 e
    exact ⟨d, by simpa using e', h'⟩
theorem RVs.append : ∀ {ds es : List Val} {vs ws : List V}, RVs C G ob ds vs → RVs C G ob es ws → RVs C G ob (ds ++ es) (vs ++ ws)
  | [], es, vs, ws, h, h' => by simp only [RVs] at h; subst h; exact h'
  | x :: xs, es, vs, ws, h, h' => by
    simp only [RVs] at h
    obtain ⟨v, r, rfl, h1, h2⟩ := h
    simp only [List.cons_append, RVs]
    exact ⟨v, r ++ ws, rfl, h1, RVs.append h2 h'⟩
theorem RVs.one {d : Val} {v : V} (h : RV C G ob d v) : RVs C G ob [d] [v] := by
  simp only [RVs]
  exact ⟨v, [], rfl, h, rfl⟩
theorem RVs.nil : RVs C G ob [] [] := by simp only [RVs]
theorem RVs.cons {d : Val} {ds : List Val} {v : V} {vs : List V} (h : RV C G ob d v) (h' : RVs C G ob ds vs) : RVs C G ob (d :: ds) (v :: vs) := by
  simp only [RVs]
  exact ⟨v, vs, rfl, h, h'⟩
theorem RVs.take : ∀ {ds : List Val} {vs : List V} (n : Nat), RVs C G ob ds vs → RVs C G ob (ds.take n) (vs.take n)
  | _, _, 0, _ => by simp [RVs]
  | [], vs, n + 1, h => by simp only [RVs] at h; subst h; simp [RVs]
  | x :: xs, vs, n + 1, h => by
    simp only [RVs] at h
    obtain ⟨v, r, rfl, h1, h2⟩ := h
    simp only [List.take_succ_cons]
    exact .cons h1 (RVs.take n h2)
theorem RVs.drop : ∀ {ds : List Val} {vs : List V} (n : Nat), RVs C G ob ds vs → RVs C G ob (ds.drop n) (vs.drop n)
  | _, _, 0, h => by simpa using h
  | [], vs, n + 1, h => by simp only [RVs] at h; subst h; simp [RVs]
  | x :: xs, vs, n + 1, h => by
    simp only [RVs] at h
    obtain ⟨v, r, rfl, h1, h2⟩ := h
    simp only [List.drop_succ_cons]
    exact RVs.drop n h2
theorem RVs.set : ∀ {ds : List Val} {vs : List V} (n : Nat) {d : Val} {v : V}, RV C G ob d v → RVs C G ob ds vs → RVs C G ob (ds.set n d) (vs.set n v)
  | [], vs, n, _, _, _, h => by simp only [RVs] at h; subst h; simp [RVs]
  | x :: xs, vs, 0, _, _, hd, h => by
    simp only [RVs] at h
    obtain ⟨v, r, rfl, h1, h2⟩ := h
    exact .cons hd h2
  | x :: xs, vs, n + 1, _, _, hd, h => by
    simp only [RVs] at h
    obtain ⟨v, r, rfl, h1, h2⟩ := h
    exact .cons h1 (RVs.set n hd h2)
theorem RVs.reverse : ∀ {ds : List Val} {vs : List V}, RVs C G ob ds vs → RVs C G ob ds.reverse vs.reverse
  | [], vs, h => by simp only [RVs] at h; subst h; simp [RVs]
  | x :: xs, vs, h => by
    simp only [RVs] at h
    obtain ⟨v, r, rfl, h1, h2⟩ := h
    simp only [List.reverse_cons]
    exact RVs.append (RVs.reverse h2) (.one h1)
theorem RVs.eraseIdx : ∀ {ds : List Val} {vs : List V} (n : Nat), RVs C G ob ds vs → RVs C G ob (ds.eraseIdx n) (vs.eraseIdx n)
  | [], vs, n, h => by simp only [RVs] at h; subst h; simp [RVs]
  | x :: xs, vs, 0, h => by
    simp only [RVs] at h
    obtain ⟨v, r, rfl, h1, h2⟩ := h
    exact h2
  | x :: xs, vs, n + 1, h => by
    simp only [RVs] at h
    obtain ⟨v, r, rfl, h1, h2⟩ := h
    exact .cons h1 (RVs.eraseIdx n h2)
end

/-- a container that may change stands at a, in the heap H; its items are fixed -/
def CR (C : Ctx) (G : Hp) (ob : List Addr) (H : Hp) (a : Addr) : Cell → Prop
  | .lst xs => ∃ vs, H a = some (.lst vs) ∧ RVs C G ob xs vs
  | .dct kvs => (∃ ps, H a = some (.dK ps) ∧ RKs C G ob kvs ps) ∨ (∃ ps, H a = some (.dT ps) ∧ RTs C G ob kvs ps)
  | .set _ => False
theorem CR.mono {C : Ctx} {G G' H H' : Hp} {ob ob' : List Addr} {a : Addr} {c : Cell} (hG : Same G G') (ho : Pre ob ob') (hH : H' a = H a) (h : CR C G ob H a c) : CR C G' ob' H' a c := by
  cases c with
  | lst xs =>
    obtain ⟨vs, e, r⟩ := h
    exact ⟨vs, hH.trans e, RVs.mono hG ho _ _ r⟩
  | dct kvs =>
    rcases h with ⟨ps, e, r⟩ | ⟨ps, e, r⟩
    · exact .inl ⟨ps, hH.trans e, RKs.mono hG ho _ _ r⟩
    · exact .inr ⟨ps, hH.trans e, RTs.mono hG ho _ _ r⟩
  | set xs => exact h
theorem CR.some {C : Ctx} {G H : Hp} {ob : List Addr} {a : Addr} {c : Cell} (h : CR C G ob H a c) : ∃ o, H a = some o ∧ Mut (some o) ∧ ∀ Ca dx fs, o ≠ .ins Ca dx fs := by
  cases c with
  | lst xs => obtain ⟨vs, e, r⟩ := h; exact ⟨_, e, trivial, fun _ _ _ z => nomatch z⟩
  | dct kvs =>
    rcases h with ⟨ps, e, r⟩ | ⟨ps, e, r⟩
    · exact ⟨_, e, trivial, fun _ _ _ z => nomatch z⟩
    · exact ⟨_, e, trivial, fun _ _ _ z => nomatch z⟩
  | set xs => exact h.elim
/-- once it is fixed, it reads as a value -/
theorem CR.rv {C : Ctx} {G H : Hp} {ob : List Addr} {a : Addr} {c : Cell} (h : CR C G ob H a c) (hG : G a = H a) : RV C G ob c.fz (.ref a) := by
  cases c with
  | lst xs =>
    obtain ⟨vs, e, r⟩ := h
    simp only [Cell.fz, RV]
    exact ⟨a, vs, rfl, hG.trans e, r⟩
  | dct kvs =>
    simp only [Cell.fz, RV]
    rcases h with ⟨ps, e, r⟩ | ⟨ps, e, r⟩
    · exact ⟨a, rfl, .inl ⟨ps, hG.trans e, r⟩⟩
    · exact ⟨a, rfl, .inr ⟨ps, hG.trans e, r⟩⟩
  | set xs => exact h.elim

/-- ghosts: G what is fixed (frozen trees), F other things that stay, lk what is locked, ob where the objects stand -/
inductive Loc where
  | st (d i : Nat) | ob (o i : Nat)
  deriving DecidableEq
structure Gh where
  G : Hp
  F : Hp
  lk : List (Loc × Addr × Cell)
  ob : List Addr

/-- the slots as they stand: of the frames, of the objects -/
structure Fs where
  st : List (List (Option V))
  ob : List (List (Option V))
def at2 {α : Type} (l : List (List α)) (d i : Nat) : Option α := (l[d]?).bind (·[i]?)
theorem at2_some {α : Type} {l : List (List α)} {d i : Nat} {x : α} (h : at2 l d i = some x) : ∃ r, l[d]? = some r ∧ r[i]? = some x := by
  unfold at2 at h
  cases e : l[d]? with
  | none => rw [e] at h; cases h
  | some r => rw [e] at h; exact ⟨r, rfl, h⟩
def Fs.at (f : Fs) : Loc → Option (Option V)
  | .st d i => at2 f.st d i
  | .ob o i => at2 f.ob o i
def Obj.slots (o : Obj) : Env := o.flds.map (·.2)
def Glob.at (g : Glob) : Loc → Option Slot
  | .st d i => at2 g.stk d i
  | .ob o i => at2 (g.objs.map Obj.slots) o i

def SlotOk (C : Ctx) (γ : Gh) (f : Fs) (H : Hp) (l : Loc) : Slot → Prop
  | .no => True
  | .val v => ∃ x, f.at l = some (some x) ∧ RV C γ.G γ.ob v x
  | .own c => ∃ a, f.at l = some (some (.ref a)) ∧ CR C γ.G γ.ob H a c ∧ γ.G a = none ∧ γ.F a = none
  | .lock c => ∃ a, f.at l = some (some (.ref a)) ∧ CR C γ.G γ.ob H a c ∧ γ.G a = none ∧ γ.F a = none ∧ (l, a, c) ∈ γ.lk
  | .rf d' j => ∃ d i, l = .st d i ∧ d' < d ∧ ∃ a, f.at l = some (some (.ref a)) ∧ f.at (.st d' j) = some (some (.ref a))

/-- an object of the program: its place, class, own dict, fields -/
structure ObjOk' (C : Ctx) (H : Hp) (a : Addr) (o : Obj) (xs : List (Option V)) : Prop where
  ins : ∃ Ca dx vs, C.cl o.cls = some Ca ∧ xs = vs.map some ∧ vs.length = o.flds.length ∧ H a = some (.ins Ca dx ((o.flds.map (·.1)).zip vs))
  nd : (o.flds.map (·.1)).Nodup

structure Rel (C : Ctx) (γ : Gh) (f : Fs) (H : Hp) (g : Glob) : Prop where
  len : f.st.length = g.stk.length
  lens : ∀ (d : Nat) (σ : List (Option V)) (e : Env), f.st[d]? = some σ → g.stk[d]? = some e → σ.length = e.length
  G : Same γ.G H
  F : Same γ.F H
  GF : ∀ a o, γ.G a = some o → γ.F a = none
  slot : ∀ l s, g.at l = some s → SlotOk C γ f H l s
  uniq : ∀ l l' s s' c c' a, g.at l = some s → g.at l' = some s' → s.cell = some c → s'.cell = some c' → f.at l = some (some (.ref a)) → f.at l' = some (some (.ref a)) → l = l'
  lk : ∀ l a c, (l, a, c) ∈ γ.lk → g.at l = some (.lock c) ∧ f.at l = some (some (.ref a))
  olen : γ.ob.length = g.objs.length ∧ f.ob.length = g.objs.length
  obj : ∀ (i : Nat) a o xs, γ.ob[i]? = some a → g.objs[i]? = some o → f.ob[i]? = some xs → ObjOk' C H a o xs ∧ γ.G a = none ∧ γ.F a = none
  oinj : ∀ (i j : Nat) a, γ.ob[i]? = some a → γ.ob[j]? = some a → i = j

/-- a has an owner -/
def Owned (f : Fs) (g : Glob) (a : Addr) : Prop := ∃ l s c, g.at l = some s ∧ s.cell = some c ∧ f.at l = some (some (.ref a))

structure Ext (γ γ' : Gh) : Prop where
  G : Same γ.G γ'.G
  F : γ'.F = γ.F
  lk : γ'.lk = γ.lk
  ob : Pre γ.ob γ'.ob
theorem Ext.refl (γ : Gh) : Ext γ γ := ⟨Same.refl _, rfl, rfl, Pre.refl _⟩
theorem Ext.trans {a b c : Gh} (h : Ext a b) (h' : Ext b c) : Ext a c := ⟨h.G.trans h'.G, h'.F.trans h.F, h'.lk.trans h.lk, h.ob.trans h'.ob⟩

section
variable {C : Ctx} {γ γ' : Gh} {f f' : Fs} {H H' : Hp} {g : Glob} {a p : Addr} {o : HO} {c : Cell} {l : Loc} {s : Slot}
theorem RV.ext {v : Val} {x : V} (e : Ext γ γ') (h : RV C γ.G γ.ob v x) : RV C γ'.G γ'.ob v x := RV.mono e.G e.ob _ _ h
theorem RVs.ext {v : List Val} {x : List V} (e : Ext γ γ') (h : RVs C γ.G γ.ob v x) : RVs C γ'.G γ'.ob v x := RVs.mono e.G e.ob _ _ h
theorem Rel.cr (R : Rel C γ f H g) (h : g.at l = some s) (hc : s.cell = some c) : ∃ a, f.at l = some (some (.ref a)) ∧ CR C γ.G γ.ob H a c ∧ γ.G a = none ∧ γ.F a = none := by
  have q := R.slot l s h
  cases s with
  | no => cases hc
  | val v => cases hc
  | own c' => cases hc; exact q
  | lock c' => cases hc; obtain ⟨a, h1, h2, h3, h4, _⟩ := q; exact ⟨a, h1, h2, h3, h4⟩
  | rf _ _ => cases hc
theorem Rel.owned (R : Rel C γ f H g) (h : Owned f g a) : (∃ o, H a = some o ∧ ∀ Ca dx fs, o ≠ .ins Ca dx fs) ∧ γ.G a = none ∧ γ.F a = none := by
  obtain ⟨l, s, c, h1, h2, h3⟩ := h
  obtain ⟨a', e1, e2, e3, e4⟩ := R.cr h1 h2
  rw [h3] at e1
  cases e1
  obtain ⟨o, q, _, q'⟩ := e2.some
  exact ⟨⟨o, q, q'⟩, e3, e4⟩
/-- the address of an object -/
def IsOb (γ : Gh) (a : Addr) : Prop := ∃ i : Nat, γ.ob[i]? = some a
theorem Rel.isOb (R : Rel C γ f H g) (h : IsOb γ a) : (∃ Ca dx fs, H a = some (.ins Ca dx fs)) ∧ γ.G a = none ∧ γ.F a = none := by
  obtain ⟨i, e⟩ := h
  have hl := (List.getElem?_eq_some_iff.mp e).1
  have l1 : i < g.objs.length := by rw [← R.olen.1]; exact hl
  have l2 : i < f.ob.length := by rw [R.olen.2]; exact l1
  have e1 : g.objs[i]? = some g.objs[i] := List.getElem?_eq_getElem l1
  have e2 : f.ob[i]? = some f.ob[i] := List.getElem?_eq_getElem l2
  obtain ⟨⟨⟨Ca, dx, vs, _, _, _, q⟩, _⟩, q1, q2⟩ := R.obj i a _ _ e e1 e2
  exact ⟨⟨_, _, _, q⟩, q1, q2⟩
/-- neither an owned container nor an object -/
structure Free (γ : Gh) (f : Fs) (g : Glob) (p : Addr) : Prop where
  own : ¬ Owned f g p
  ob : ¬ IsOb γ p
theorem Rel.fresh (R : Rel C γ f H g) (h : H p = none) : Free γ f g p ∧ γ.G p = none ∧ γ.F p = none := by
  refine ⟨⟨fun z => ?_, fun z => ?_⟩, ?_, ?_⟩
  · obtain ⟨⟨o, e, _⟩, _⟩ := R.owned z
    rw [h] at e; cases e
  · obtain ⟨⟨_, _, _, e⟩, _⟩ := R.isOb z
    rw [h] at e; cases e
  · cases e : γ.G p with
    | none => rfl
    | some o => have := R.G _ _ e; rw [h] at this; cases this
  · cases e : γ.F p with
    | none => rfl
    | some o => have := R.F _ _ e; rw [h] at this; cases this

theorem SlotOk.keep (q : SlotOk C γ f H l s) (hG : Same γ.G γ'.G) (ho : Pre γ.ob γ'.ob) (he : f'.at l = f.at l) (hrf : ∀ d i d' j, l = .st d i → d' < d → f'.at (.st d' j) = f.at (.st d' j))
    (hc : ∀ a c, s.cell = some c → f.at l = some (some (.ref a)) → H' a = H a ∧ γ'.G a = none ∧ γ'.F a = none)
    (hl : ∀ a c, s = .lock c → (l, a, c) ∈ γ.lk → (l, a, c) ∈ γ'.lk) : SlotOk C γ' f' H' l s := by
  cases s with
  | no => trivial
  | val v =>
    obtain ⟨x, h1, h2⟩ := q
    exact ⟨x, he.trans h1, RV.mono hG ho _ _ h2⟩
  | own c' =>
    obtain ⟨a, h1, h2, h3, h4⟩ := q
    obtain ⟨k1, k2, k3⟩ := hc a c' rfl h1
    exact ⟨a, he.trans h1, h2.mono hG ho k1, k2, k3⟩
  | lock c' =>
    obtain ⟨a, h1, h2, h3, h4, h5⟩ := q
    obtain ⟨k1, k2, k3⟩ := hc a c' rfl h1
    exact ⟨a, he.trans h1, h2.mono hG ho k1, k2, k3, hl a c' rfl h5⟩
  | rf d' j =>
    obtain ⟨d, i, e, h1, a, h2, h3⟩ := q
    exact ⟨d, i, e, h1, a, he.trans h2, (hrf _ _ _ _ e h1).trans h3⟩
theorem ObjOk'.keep {o : Obj} {xs : List (Option V)} (h : ObjOk' C H a o xs) (e : H' a = H a) : ObjOk' C H' a o xs := by
  obtain ⟨⟨Ca, dx, vs, h1, h2, h3, h4⟩, h5⟩ := h
  exact ⟨⟨Ca, dx, vs, h1, h2, h3, e.trans h4⟩, h5⟩

/-- the heap changes at an address that nobody owns and that is neither fixed nor kept -/
theorem Rel.heap (R : Rel C γ f H g) (ho : Free γ f g p) (hG : γ.G p = none) (hF : γ.F p = none) : Rel C γ f (upd H p o) g := by
  refine ⟨R.len, R.lens, fun b u e => ?_, fun b u e => ?_, R.GF, fun l s h => ?_, R.uniq, R.lk, R.olen, fun i a ob xs h1 h2 h3 => ?_, R.oinj⟩
  · rw [upd_ne (ne_of_none e hG)]; exact R.G _ _ e
  · rw [upd_ne (ne_of_none e hF)]; exact R.F _ _ e
  · refine (R.slot l s h).keep (Same.refl _) (Pre.refl _) rfl (fun _ _ _ _ _ _ => rfl) (fun b c hc hb => ⟨upd_ne fun z => ho.own ?_, ?_⟩) (fun _ _ _ q => q)
    · subst z; exact ⟨l, s, _, h, hc, hb⟩
    · obtain ⟨b', q1, _, q3, q4⟩ := R.cr h hc
      rw [hb] at q1; cases q1; exact ⟨q3, q4⟩
  · obtain ⟨q1, q2⟩ := R.obj i a ob xs h1 h2 h3
    exact ⟨q1.keep (upd_ne fun z => ho.ob ⟨i, by rw [h1, z]⟩), q2⟩
theorem Rel.alloc (R : Rel C γ f H g) (hp : H p = none) : Rel C γ f (upd H p o) g :=
  let ⟨h1, h2, h3⟩ := R.fresh hp
  R.heap h1 h2 h3
def Gh.fix (γ : Gh) (p : Addr) (o : HO) : Gh := { γ with G := upd γ.G p o }
theorem Gh.fix_ext (h : γ.G p = none ∨ γ.G p = some o) : Ext γ (γ.fix p o) := by
  refine ⟨fun b u e => ?_, rfl, rfl, Pre.refl _⟩
  by_cases hb : b = p
  · subst hb
    rcases h with h | h
    · rw [h] at e; cases e
    · rw [h] at e; cases e; exact upd_same
  · show upd γ.G p o b = some u
    rw [upd_ne hb]; exact e
/-- what nobody owns is fixed -/
theorem Rel.fix (R : Rel C γ f H g) (hp : H p = some o) (ho : Free γ f g p) (hF : γ.F p = none) : Ext γ (γ.fix p o) ∧ Rel C (γ.fix p o) f H g := by
  have ext : Ext γ (γ.fix p o) := by
    refine Gh.fix_ext ?_
    cases e : γ.G p with
    | none => exact .inl rfl
    | some u => have := R.G _ _ e; rw [hp] at this; cases this; exact .inr rfl
  refine ⟨ext, R.len, R.lens, fun b u e => ?_, R.F, fun b u e => ?_, fun l s h => ?_, R.uniq, R.lk, R.olen, fun i a ob xs h1 h2 h3 => ?_, R.oinj⟩
  · by_cases hb : b = p
    · subst hb
      have e' : upd γ.G b o b = some u := e
      rw [upd_same] at e'; cases e'; exact hp
    · have e' : upd γ.G p o b = some u := e
      rw [upd_ne hb] at e'; exact R.G _ _ e'
  · by_cases hb : b = p
    · subst hb; exact hF
    · have e' : upd γ.G p o b = some u := e
      rw [upd_ne hb] at e'; exact R.GF _ _ e'
  · refine (R.slot l s h).keep ext.G (Pre.refl _) rfl (fun _ _ _ _ _ _ => rfl) (fun b c hc hb => ⟨rfl, ?_⟩) (fun _ _ _ q => q)
    obtain ⟨b', q1, _, q3, q4⟩ := R.cr h hc
    rw [hb] at q1; cases q1
    refine ⟨?_, q4⟩
    show upd γ.G p o b = none
    rw [upd_ne fun z => ho.own (by subst z; exact ⟨l, s, _, h, hc, hb⟩)]
    exact q3
  · obtain ⟨q1, q2, q3⟩ := R.obj i a ob xs h1 h2 h3
    refine ⟨q1, ?_, q3⟩
    show upd γ.G p o a = none
    rw [upd_ne fun z => ho.ob ⟨i, by rw [← z]; exact h1⟩]
    exact q2
end
end Iv

/-! Iv: slots change. -/
namespace Iv
open PySem L2

def set2 {α : Type} (l : List (List α)) (d i : Nat) (x : α) : List (List α) := l.modify d (·.set i x)
theorem set2_length {α : Type} (l : List (List α)) (d i : Nat) (x : α) : (set2 l d i x).length = l.length := by simp [set2]
theorem set2_get {α : Type} (l : List (List α)) (d i e : Nat) (x : α) : (set2 l d i x)[e]? = if d = e then (l[e]?).map (·.set i x) else l[e]? := by
  unfold set2
  rw [List.getElem?_modify]
  by_cases h : d = e
  · simp [h]
  · simp [h]
theorem at2_set2 {α : Type} {l : List (List α)} {d i : Nat} {x y : α} (h : at2 l d i = some y) (d' i' : Nat) : at2 (set2 l d i x) d' i' = if d = d' ∧ i = i' then some x else at2 l d' i' := by
  obtain ⟨r, h1, h2⟩ := at2_some h
  unfold at2
  rw [set2_get]
  by_cases hd : d = d'
  · subst hd
    rw [if_pos rfl, h1]
    simp only [Option.map_some, Option.bind_some]
    rw [List.getElem?_set]
    by_cases hi : i = i'
    · subst hi
      have := (List.getElem?_eq_some_iff.mp h2).1
      simp [this]
    · simp [hi]
  · simp [hd]
theorem set2_lt {α : Type} (l : List (List α)) (r : List α) (d i : Nat) (x : α) (h : d < l.length) : set2 (l ++ [r]) d i x = set2 l d i x ++ [r] := by
  unfold set2
  apply List.ext_getElem?
  intro e
  rw [List.getElem?_modify, List.getElem?_append, List.getElem?_append, List.getElem?_modify]
  by_cases hd : d = e
  · subst hd
    simp [h]
  · simp [hd]
theorem set2_last {α : Type} (l : List (List α)) (r : List α) (i : Nat) (x : α) : set2 (l ++ [r]) l.length i x = l ++ [r.set i x] := by
  unfold set2
  apply List.ext_getElem?
  intro e
  rw [List.getElem?_modify, List.getElem?_append, List.getElem?_append]
  by_cases h1 : e < l.length
  · have : l.length ≠ e := by omega
    simp [h1, this]
  · by_cases h2 : l.length = e
    · subst h2; simp
    · have : e - l.length ≠ 0 := by omega
      simp [h1, h2]
      rw [List.getElem?_eq_none (by simp; omega), List.getElem?_eq_none (by simp; omega)]
theorem at2_last {α : Type} (l : List (List α)) (r : List α) (i : Nat) : at2 (l ++ [r]) l.length i = r[i]? := by
  unfold at2; simp
theorem at2_lt {α : Type} (l : List (List α)) (r : List α) {d : Nat} (i : Nat) (h : d < l.length) : at2 (l ++ [r]) d i = at2 l d i := by
  unfold at2; rw [List.getElem?_append_left h]
def Fs.set (f : Fs) (l : Loc) (x : Option V) : Fs := match l with
  | .st d i => { f with st := set2 f.st d i x }
  | .ob o i => { f with ob := set2 f.ob o i x }
def setFld : List (Str × Slot) → Nat → Slot → List (Str × Slot)
  | [], _, _ => []
  | (n, _) :: r, 0, s => (n, s) :: r
  | p :: r, i + 1, s => p :: setFld r i s
theorem setFld_names : ∀ (l : List (Str × Slot)) (i : Nat) (s : Slot), (setFld l i s).map (·.1) = l.map (·.1)
  | [], _, _ => rfl
  | (n, _) :: r, 0, s => rfl
  | p :: r, i + 1, s => by simp [setFld, setFld_names r i s]
theorem setFld_slots : ∀ (l : List (Str × Slot)) (i : Nat) (s : Slot), (setFld l i s).map (·.2) = (l.map (·.2)).set i s
  | [], _, _ => rfl
  | (n, _) :: r, 0, s => rfl
  | p :: r, i + 1, s => by simp [setFld, setFld_slots r i s]
def Obj.set (o : Obj) (i : Nat) (s : Slot) : Obj := { o with flds := setFld o.flds i s }
theorem Obj.set_slots (o : Obj) (i : Nat) (s : Slot) : (o.set i s).slots = o.slots.set i s := setFld_slots _ _ _
def Glob.set (g : Glob) (l : Loc) (s : Slot) : Glob := match l with
  | .st d i => { g with stk := set2 g.stk d i s }
  | .ob o i => { g with objs := g.objs.modify o (·.set i s) }
theorem objs_set (os : List Obj) (o i : Nat) (s : Slot) : (os.modify o (·.set i s)).map Obj.slots = set2 (os.map Obj.slots) o i s := by
  unfold set2
  apply List.ext_getElem?
  intro e
  rw [List.getElem?_map, List.getElem?_modify, List.getElem?_modify, List.getElem?_map]
  by_cases h : o = e
  · simp only [h, if_true]
    cases os[e]? with
    | none => rfl
    | some ob => simp [Obj.set_slots]
  · simp [h]
theorem at2_len {α : Type} {l : List (List α)} {d i : Nat} {x : α} (h : at2 l d i = some x) : d < l.length := by
  obtain ⟨r, h1, _⟩ := at2_some h
  exact (List.getElem?_eq_some_iff.mp h1).1
theorem Fs.at_set {f : Fs} {l : Loc} {x y : Option V} (h : f.at l = some y) (l' : Loc) : (f.set l x).at l' = if l = l' then some x else f.at l' := by
  cases l with
  | st d i =>
    cases l' with
    | st d' i' =>
      show at2 (set2 f.st d i x) d' i' = _
      rw [at2_set2 h]
      simp only [Loc.st.injEq] <;> rfl
    | ob o j => simp [Fs.set, Fs.at]
  | ob o i =>
    cases l' with
    | st d' i' => simp [Fs.set, Fs.at]
    | ob o' i' =>
      show at2 (set2 f.ob o i x) o' i' = _
      rw [at2_set2 h]
      simp only [Loc.ob.injEq] <;> rfl
theorem Glob.at_set {g : Glob} {l : Loc} {x y : Slot} (h : g.at l = some y) (l' : Loc) : (g.set l x).at l' = if l = l' then some x else g.at l' := by
  cases l with
  | st d i =>
    cases l' with
    | st d' i' =>
      show at2 (set2 g.stk d i x) d' i' = _
      rw [at2_set2 h]
      simp only [Loc.st.injEq] <;> rfl
    | ob o j => simp [Glob.set, Glob.at]
  | ob o i =>
    cases l' with
    | st d' i' => simp [Glob.set, Glob.at]
    | ob o' i' =>
      show at2 ((g.objs.modify o (·.set i x)).map Obj.slots) o' i' = _
      rw [objs_set, at2_set2 h]
      simp only [Loc.ob.injEq] <;> rfl
theorem Glob.set_len (g : Glob) (l : Loc) (s : Slot) : (g.set l s).stk.length = g.stk.length ∧ (g.set l s).objs.length = g.objs.length := by
  cases l <;> simp [Glob.set, set2_length]

section
variable {C : Ctx} {γ γ' : Gh} {f f' : Fs} {H H' : Hp} {g : Glob} {a p : Addr} {o : HO} {c : Cell} {l : Loc} {s : Slot}

theorem lens_set (R : Rel C γ f H g) (l : Loc) (s : Slot) : ∀ (e : Nat) (σ : List (Option V)) (en : Env), f.st[e]? = some σ → (g.set l s).stk[e]? = some en → σ.length = en.length := by
  intro e σ en h1 h2
  cases l with
  | ob o i => exact R.lens e σ en h1 h2
  | st d i =>
    have h2 : (set2 g.stk d i s)[e]? = some en := h2
    rw [set2_get] at h2
    by_cases hd : d = e
    · rw [if_pos hd] at h2
      cases h3 : g.stk[e]? with
      | none => rw [h3] at h2; cases h2
      | some r =>
        rw [h3] at h2
        cases h2
        rw [List.length_set]
        exact R.lens e σ r h1 h3
    · rw [if_neg hd] at h2
      exact R.lens e σ en h1 h2
/-- an object behind a slot's change -/
theorem obj_set {i : Nat} {ob : Obj} (h : (g.set l s).objs[i]? = some ob) : ∃ ob', g.objs[i]? = some ob' ∧ ob'.cls = ob.cls ∧ ob'.flds.map (·.1) = ob.flds.map (·.1) := by
  cases l with
  | st d j => exact ⟨ob, h, rfl, rfl⟩
  | ob o j =>
    have h : (g.objs.modify o (·.set j s))[i]? = some ob := h
    rw [List.getElem?_modify] at h
    cases e : g.objs[i]? with
    | none => rw [e] at h; cases h
    | some ob' =>
      rw [e] at h
      refine ⟨ob', rfl, ?_⟩
      by_cases ho : o = i
      · simp only [ho, if_true] at h
        cases h
        exact ⟨rfl, (setFld_names _ _ _).symm⟩
      · simp only [ho, if_false] at h
        cases h
        exact ⟨rfl, rfl⟩
theorem ObjOk'.like {o o' : Obj} {xs : List (Option V)} (h : ObjOk' C H a o xs) (e1 : o.cls = o'.cls) (e2 : o.flds.map (·.1) = o'.flds.map (·.1)) : ObjOk' C H a o' xs := by
  obtain ⟨⟨Ca, dx, vs, h1, h2, h3, h4⟩, h5⟩ := h
  have e3 : o.flds.length = o'.flds.length := by simpa using congrArg List.length e2
  exact ⟨⟨Ca, dx, vs, by rw [← e1]; exact h1, h2, by rw [← e3]; exact h3, by rw [← e2]; exact h4⟩, by rw [← e2]; exact h5⟩
theorem Rel.objs_set (R : Rel C γ f H g) (l : Loc) (s : Slot) : ∀ (i : Nat) a o xs, γ.ob[i]? = some a → (g.set l s).objs[i]? = some o → f.ob[i]? = some xs → ObjOk' C H a o xs ∧ γ.G a = none ∧ γ.F a = none := by
  intro i a o xs h1 h2 h3
  obtain ⟨o', k1, k2, k3⟩ := obj_set h2
  obtain ⟨q1, q2⟩ := R.obj i a o' xs h1 k1 h3
  exact ⟨q1.like k2 k3, q2⟩

/-- (A) a container is frozen -/
theorem Rel.freeze (R : Rel C γ f H g) (h0 : g.at l = some (.own c)) (ha : f.at l = some (some (.ref a))) (hH : H a = some o) :
    Ext γ (γ.fix a o) ∧ Rel C (γ.fix a o) f H (g.set l (.val c.fz)) ∧ RV C (γ.fix a o).G γ.ob c.fz (.ref a) := by
  obtain ⟨a', e1, cr, g0, f0⟩ := R.slot l _ h0
  rw [ha] at e1; cases e1
  have ext : Ext γ (γ.fix a o) := Gh.fix_ext (.inl g0)
  have rv : RV C (γ.fix a o).G γ.ob c.fz (.ref a) := (cr.mono ext.G (Pre.refl _) rfl).rv (by show upd γ.G a o a = H a; rw [upd_same, hH])
  have oth : ∀ l' s c' b, g.at l' = some s → s.cell = some c' → f.at l' = some (some (V.ref b)) → ¬ l = l' → b ≠ a := fun l' s c' b h1 h2 h3 hne z => by
    subst z
    exact hne (R.uniq l l' _ _ _ _ _ h0 h1 rfl h2 ha h3)
  have nob : ¬ IsOb γ a := fun z => by
    obtain ⟨⟨Ca, dx, fs, q⟩, _⟩ := R.isOb z
    obtain ⟨u, q1, _, q2⟩ := cr.some
    rw [q] at q1; cases q1
    exact q2 _ _ _ rfl
  refine ⟨ext, ⟨by rw [(g.set_len l _).1]; exact R.len, lens_set R l _, fun b u e => ?_, R.F, fun b u e => ?_, fun l' s h => ?_, fun l1 l2 s1 s2 c1 c2 b h1 h2 h3 h4 h5 h6 => ?_, fun l' b c' hm => ?_, by rw [(g.set_len l _).2]; exact R.olen, fun i b ob xs h1 h2 h3 => ?_, R.oinj⟩, rv⟩
  · by_cases hb : b = a
    · subst hb
      have e' : upd γ.G b o b = some u := e
      rw [upd_same] at e'; cases e'; exact hH
    · have e' : upd γ.G a o b = some u := e
      rw [upd_ne hb] at e'; exact R.G _ _ e'
  · by_cases hb : b = a
    · subst hb; exact f0
    · have e' : upd γ.G a o b = some u := e
      rw [upd_ne hb] at e'; exact R.GF _ _ e'
  · rw [g.at_set h0] at h
    by_cases hd : l = l'
    · rw [if_pos hd] at h
      cases h
      subst hd
      exact ⟨_, ha, rv⟩
    · rw [if_neg hd] at h
      refine (R.slot l' s h).keep ext.G (Pre.refl _) rfl (fun _ _ _ _ _ _ => rfl) (fun b c' hc hb => ⟨rfl, ?_, ?_⟩) (fun _ _ _ q => q)
      · show upd γ.G a o b = none
        rw [upd_ne (oth l' s c' b h hc hb hd)]
        obtain ⟨b', q1, _, q3, _⟩ := R.cr h hc
        rw [hb] at q1; cases q1; exact q3
      · obtain ⟨b', q1, _, _, q4⟩ := R.cr h hc
        rw [hb] at q1; cases q1; exact q4
  · rw [g.at_set h0] at h1 h2
    by_cases e1 : l = l1
    · rw [if_pos e1] at h1; cases h1; cases h3
    · by_cases e2 : l = l2
      · rw [if_pos e2] at h2; cases h2; cases h4
      · rw [if_neg e1] at h1
        rw [if_neg e2] at h2
        exact R.uniq _ _ _ _ _ _ _ h1 h2 h3 h4 h5 h6
  · obtain ⟨q1, q2⟩ := R.lk l' b c' hm
    refine ⟨?_, q2⟩
    rw [g.at_set h0, if_neg]
    · exact q1
    · rintro rfl
      rw [h0] at q1; cases q1
  · obtain ⟨q1, q2, q3⟩ := R.objs_set l _ i b ob xs h1 h2 h3
    refine ⟨q1, ?_, q3⟩
    show upd γ.G a o b = none
    rw [upd_ne fun z => nob ⟨i, by rw [← z]; exact h1⟩]
    exact q2

/-- (B) a container is changed -/
theorem Rel.chg {c' : Cell} {o' : HO} (R : Rel C γ f H g) (h0 : g.at l = some (.own c)) (ha : f.at l = some (some (.ref a))) (hc' : CR C γ.G γ.ob (upd H a o') a c') :
    Rel C γ f (upd H a o') (g.set l (.own c')) := by
  obtain ⟨a', e1, cr, g0, f0⟩ := R.slot l _ h0
  rw [ha] at e1; cases e1
  have oth : ∀ l' s c' b, g.at l' = some s → s.cell = some c' → f.at l' = some (some (V.ref b)) → ¬ l = l' → b ≠ a := fun l' s c' b h1 h2 h3 hne z => by
    subst z
    exact hne (R.uniq l l' _ _ _ _ _ h0 h1 rfl h2 ha h3)
  have nob : ¬ IsOb γ a := fun z => by
    obtain ⟨⟨Ca, dx, fs, q⟩, _⟩ := R.isOb z
    obtain ⟨u, q1, _, q2⟩ := cr.some
    rw [q] at q1; cases q1
    exact q2 _ _ _ rfl
  refine ⟨by rw [(g.set_len l _).1]; exact R.len, lens_set R l _, fun b u e => ?_, fun b u e => ?_, R.GF, fun l' s h => ?_, fun l1 l2 s1 s2 c1 c2 b h1 h2 h3 h4 h5 h6 => ?_, fun l' b c'' hm => ?_, by rw [(g.set_len l _).2]; exact R.olen, fun i b ob xs h1 h2 h3 => ?_, R.oinj⟩
  · rw [upd_ne (ne_of_none e g0)]; exact R.G _ _ e
  · rw [upd_ne (ne_of_none e f0)]; exact R.F _ _ e
  · rw [g.at_set h0] at h
    by_cases hd : l = l'
    · rw [if_pos hd] at h
      cases h
      subst hd
      exact ⟨_, ha, hc', g0, f0⟩
    · rw [if_neg hd] at h
      refine (R.slot l' s h).keep (Same.refl _) (Pre.refl _) rfl (fun _ _ _ _ _ _ => rfl) (fun b c'' hc hb => ⟨upd_ne (oth l' s c'' b h hc hb hd), ?_, ?_⟩) (fun _ _ _ q => q)
      · obtain ⟨b', q1, _, q3, _⟩ := R.cr h hc
        rw [hb] at q1; cases q1; exact q3
      · obtain ⟨b', q1, _, _, q4⟩ := R.cr h hc
        rw [hb] at q1; cases q1; exact q4
  · rw [g.at_set h0] at h1 h2
    by_cases e1 : l = l1
    · by_cases e2 : l = l2
      · exact e1.symm.trans e2
      · rw [if_neg e2] at h2
        subst e1
        exact R.uniq _ _ _ _ _ _ _ h0 h2 rfl h4 h5 h6
    · rw [if_neg e1] at h1
      by_cases e2 : l = l2
      · subst e2
        exact R.uniq _ _ _ _ _ _ _ h1 h0 h3 rfl h5 h6
      · rw [if_neg e2] at h2
        exact R.uniq _ _ _ _ _ _ _ h1 h2 h3 h4 h5 h6
  · obtain ⟨q1, q2⟩ := R.lk l' b c'' hm
    refine ⟨?_, q2⟩
    rw [g.at_set h0, if_neg]
    · exact q1
    · rintro rfl
      rw [h0] at q1; cases q1
  · obtain ⟨q1, q2⟩ := R.objs_set l _ i b ob xs h1 h2 h3
    exact ⟨q1.keep (upd_ne fun z => nob ⟨i, by rw [h1, z]⟩), q2⟩

/-- a container's slot, own or locked, is told anew as own or locked -/
theorem Rel.relock {s1 : Slot} {lk' : List (Loc × Addr × Cell)} (R : Rel C γ f H g) (h0 : g.at l = some s) (hs : s.cell = some c) (hs1 : s1.cell = some c) (ha : f.at l = some (some (.ref a)))
    (h1 : s1 = .lock c → (l, a, c) ∈ lk') (h2 : ∀ l' b c', ¬ l = l' → ((l', b, c') ∈ lk' ↔ (l', b, c') ∈ γ.lk)) (h3 : ∀ b c', (l, b, c') ∈ lk' → s1 = .lock c ∧ b = a ∧ c' = c) :
    Rel C { γ with lk := lk' } f H (g.set l s1) := by
  obtain ⟨a', e1, cr, g0, f0⟩ := R.cr h0 hs
  rw [ha] at e1; cases e1
  refine ⟨by rw [(g.set_len l _).1]; exact R.len, lens_set R l _, R.G, R.F, R.GF, fun l' s' h => ?_, fun l1 l2 s1' s2' c1 c2 b k1 k2 k3 k4 k5 k6 => ?_, fun l' b c' hm => ?_, by rw [(g.set_len l _).2]; exact R.olen, fun i b ob xs k1 k2 k3 => R.objs_set l _ i b ob xs k1 k2 k3, R.oinj⟩
  · rw [g.at_set h0] at h
    by_cases hd : l = l'
    · rw [if_pos hd] at h
      cases h
      subst hd
      cases s1 with
      | no => cases hs1
      | val _ => cases hs1
      | rf _ _ => cases hs1
      | own _ => cases hs1; exact ⟨a, ha, cr, g0, f0⟩
      | lock _ => cases hs1; exact ⟨a, ha, cr, g0, f0, h1 rfl⟩
    · rw [if_neg hd] at h
      refine (R.slot l' s' h).keep (Same.refl _) (Pre.refl _) rfl (fun _ _ _ _ _ _ => rfl) (fun b c'' hc hb => ⟨rfl, ?_, ?_⟩) (fun b c' _ q => (h2 _ _ _ hd).mpr q)
      · obtain ⟨b', q1, _, q3, _⟩ := R.cr h hc
        rw [hb] at q1; cases q1; exact q3
      · obtain ⟨b', q1, _, _, q4⟩ := R.cr h hc
        rw [hb] at q1; cases q1; exact q4
  · rw [g.at_set h0] at k1 k2
    by_cases e1 : l = l1
    · by_cases e2 : l = l2
      · exact e1.symm.trans e2
      · rw [if_neg e2] at k2
        subst e1
        exact R.uniq _ _ _ _ _ _ _ h0 k2 hs k4 k5 k6
    · rw [if_neg e1] at k1
      by_cases e2 : l = l2
      · subst e2
        exact R.uniq _ _ _ _ _ _ _ k1 h0 k3 hs k5 k6
      · rw [if_neg e2] at k2
        exact R.uniq _ _ _ _ _ _ _ k1 k2 k3 k4 k5 k6
  · by_cases hd : l = l'
    · subst hd
      obtain ⟨q1, rfl, rfl⟩ := h3 b c' hm
      refine ⟨?_, ha⟩
      rw [g.at_set h0, if_pos rfl, q1]
    · obtain ⟨q1, q2⟩ := R.lk l' b c' ((h2 _ _ _ hd).mp hm)
      refine ⟨?_, q2⟩
      rw [g.at_set h0, if_neg hd]
      exact q1

/-- (E) a slot of the last frame is stored: forgotten, a value, a new container -/
theorem Rel.store {i : Nat} {s0 s1 : Slot} {x : Option V} {d : Nat} (R : Rel C γ f H g) (hd : g.stk.length = d + 1) (h0 : g.at (.st d i) = some s0) (hl : s0.locked = false)
    (h1 : s1 = .no ∨ (∃ v y, s1 = .val v ∧ x = some y ∧ RV C γ.G γ.ob v y) ∨ ∃ c a, s1 = .own c ∧ x = some (.ref a) ∧ CR C γ.G γ.ob H a c ∧ γ.G a = none ∧ γ.F a = none ∧ ¬ Owned f g a) :
    Rel C γ (f.set (.st d i) x) H (g.set (.st d i) s1) := by
  obtain ⟨e0, q1, q2⟩ := at2_some (show at2 g.stk d i = some s0 from h0)
  have hdf : d < f.st.length := by rw [R.len, hd]; omega
  have q3 : f.st[d]? = some f.st[d] := List.getElem?_eq_getElem hdf
  have hlen := R.lens d _ _ q3 q1
  have hi : i < (f.st[d]).length := by rw [hlen]; exact (List.getElem?_eq_some_iff.mp q2).1
  have b0 : f.at (.st d i) = some (f.st[d][i]) := by
    show at2 f.st d i = _
    unfold at2
    rw [q3]
    exact List.getElem?_eq_getElem hi
  have dlt : ∀ d' i' y, g.at (.st d' i') = some y → d' < d + 1 := fun d' i' y h => by rw [← hd]; exact at2_len h
  refine ⟨?_, fun e σ' en k1 k2 => ?_, R.G, R.F, R.GF, fun l' s' h => ?_, fun l1 l2 s1' s2' c1 c2 b k1 k2 k3 k4 k5 k6 => ?_, fun l' b c' hm => ?_, R.olen, fun j a o xs k1 k2 k3 => R.obj j a o xs k1 k2 k3, R.oinj⟩
  · show (set2 f.st d i x).length = (set2 g.stk d i s1).length
    rw [set2_length, set2_length]; exact R.len
  · have k1 : (set2 f.st d i x)[e]? = some σ' := k1
    have k2 : (set2 g.stk d i s1)[e]? = some en := k2
    rw [set2_get] at k1 k2
    by_cases he : d = e
    · rw [if_pos he] at k1 k2
      subst he
      rw [q3] at k1
      rw [q1] at k2
      cases k1
      cases k2
      rw [List.length_set, List.length_set]
      exact hlen
    · rw [if_neg he] at k1 k2
      exact R.lens e σ' en k1 k2
  · rw [g.at_set h0] at h
    by_cases hd' : Loc.st d i = l'
    · rw [if_pos hd'] at h
      cases h
      subst hd'
      have ea : (f.set (.st d i) x).at (.st d i) = some x := by rw [f.at_set b0, if_pos rfl]
      rcases h1 with rfl | ⟨v, y, rfl, rfl, rv⟩ | ⟨c, a, rfl, rfl, cr, g0, f0, _⟩
      · trivial
      · exact ⟨y, ea, rv⟩
      · exact ⟨a, ea, cr, g0, f0⟩
    · rw [if_neg hd'] at h
      refine (R.slot l' s' h).keep (Same.refl _) (Pre.refl _) (by rw [f.at_set b0, if_neg hd']) (fun d1 i1 d2 j e1 hlt => ?_) (fun b c'' hc hb => ⟨rfl, ?_, ?_⟩) (fun _ _ _ q => q)
      · rw [f.at_set b0, if_neg]
        intro z
        cases z
        subst e1
        have := dlt _ _ _ h
        omega
      · obtain ⟨b', q1, _, q3, _⟩ := R.cr h hc
        rw [hb] at q1; cases q1; exact q3
      · obtain ⟨b', q1, _, _, q4⟩ := R.cr h hc
        rw [hb] at q1; cases q1; exact q4
  · rw [g.at_set h0] at k1 k2
    rw [f.at_set b0] at k5 k6
    have new : ∀ (l3 : Loc) (s3 : Slot) (c3 c4 : Cell), s1.cell = some c3 → x = some (V.ref b) → g.at l3 = some s3 → s3.cell = some c4 → f.at l3 = some (some (V.ref b)) → False := by
      intro l3 s3 c3 c4 hc hx' j2 j4 j6
      rcases h1 with z | ⟨v, y, z, _, _⟩ | ⟨c, a, z, z2, cr, g0, f0, no⟩
      · rw [z] at hc; cases hc
      · rw [z] at hc; cases hc
      · rw [hx'] at z2
        cases z2
        exact no ⟨l3, s3, _, j2, j4, j6⟩
    by_cases e1 : Loc.st d i = l1
    · by_cases e2 : Loc.st d i = l2
      · exact e1.symm.trans e2
      · rw [if_pos e1] at k1 k5
        rw [if_neg e2] at k2 k6
        cases k1
        cases k5
        exact (new l2 s2' _ _ k3 rfl k2 k4 k6).elim
    · rw [if_neg e1] at k1 k5
      by_cases e2 : Loc.st d i = l2
      · rw [if_pos e2] at k2 k6
        cases k2
        cases k6
        exact (new l1 s1' _ _ k4 rfl k1 k3 k5).elim
      · rw [if_neg e2] at k2 k6
        exact R.uniq _ _ _ _ _ _ _ k1 k2 k3 k4 k5 k6
  · obtain ⟨q1, q2⟩ := R.lk l' b c' hm
    have hne : ¬ Loc.st d i = l' := by
      rintro rfl
      rw [h0] at q1
      cases q1
      cases hl
    rw [g.at_set h0, if_neg hne, f.at_set b0, if_neg hne]
    exact ⟨q1, q2⟩
end
end Iv

/-! Iv: what a piece of the semantics says of the heap. -/
namespace Iv
open PySem L2

structure Sg where
  C : Ctx
  fr : List L2.St
  k : CallF
  W : L2.WX

def Mem.g (m : Mem) : Glob := ⟨m.stk ++ [m.env], m.objs⟩
abbrev Sg.f (S : Sg) (of : List (List (Option V))) (σ : L2.St) : Fs := ⟨S.fr ++ [σ], of⟩
abbrev Sg.R (S : Sg) (γ : Gh) (of : List (List (Option V))) (σ : L2.St) (H : Hp) (m : Mem) : Prop := Rel S.C γ (S.f of σ) H m.g

/-- an exception's class and its own fields -/
def ExcRel (C : Ctx) (γ : Gh) (H : Hp) (c : Nat) (fs : List (Str × Val)) (cls : Value) (d : Option Addr) : Prop :=
  ∃ a, C.cl c = some a ∧ cls = .ref a ∧ ((fs = [] ∧ d = none) ∨ ∃ dx vs, d = some dx ∧ H dx = some (.xd ((fs.map (·.1)).zip vs)) ∧ RVs C γ.G γ.ob (fs.map (·.2)) vs)

/-- what x does from m: R of its end -/
def Post {α : Type} (S : Sg) (γ : Gh) (σ : L2.St) (x : M α) (m : Mem) (R : Gh → List (List (Option V)) → Hp → Mem → α → Prop) : Prop :=
  ∃ r m', x S.k m = some (r, m') ∧ match r with
    | .ok a => ∀ γ' of' H', Ext γ γ' → S.R γ' of' σ H' m' → R γ' of' H' m' a
    | .exc c fs => ∀ γ' of' H' cls d, Ext γ γ' → S.R γ' of' σ H' m' → ExcRel S.C γ' H' c fs cls d → S.W cls d σ H'

def RR (C : Ctx) (γ : Gh) (f : Fs) (H : Hp) (g : Glob) (v : V) : Res → Prop
  | .val d => RV C γ.G γ.ob d v
  | .new c => ∃ a, v = .ref a ∧ CR C γ.G γ.ob H a c ∧ γ.G a = none ∧ γ.F a = none ∧ Free γ f g a

def tE (S : Sg) (x : M Res) : TE := fun σ H Q => ∃ γ of m, S.R γ of σ H m ∧ Post S γ σ x m fun γ' of' H' m' r => ∀ v, RR S.C γ' (S.f of' σ) H' m'.g v r → Q v H'
def tT (S : Sg) (x : M Bool) : TT := fun σ H Q => ∃ γ of m, S.R γ of σ H m ∧ Post S γ σ x m fun γ' of' H' m' b => Q b H'

section
variable {S : Sg} {γ γ' : Gh} {of of' : List (List (Option V))} {σ : L2.St} {H H' : Hp} {m m' : Mem} {α β : Type}

theorem Post.mono {x : M α} {R R' : Gh → List (List (Option V)) → Hp → Mem → α → Prop} (h : Post S γ σ x m R) (e : Ext γ γ') (hR : ∀ γ2 of2 H2 m2 a, Ext γ' γ2 → S.R γ2 of2 σ H2 m2 → R γ2 of2 H2 m2 a → R' γ2 of2 H2 m2 a) : Post S γ' σ x m R' := by
  obtain ⟨r, m', h1, h2⟩ := h
  refine ⟨r, m', h1, ?_⟩
  cases r with
  | ok a => exact fun γ2 of2 H2 e2 r2 => hR _ _ _ _ _ e2 r2 (h2 γ2 of2 H2 (e.trans e2) r2)
  | exc c fs => exact fun γ2 of2 H2 cls d e2 r2 => h2 γ2 of2 H2 cls d (e.trans e2) r2
theorem Post.ext {x : M α} {R : Gh → List (List (Option V)) → Hp → Mem → α → Prop} (h : Post S γ σ x m R) (e : Ext γ γ') : Post S γ' σ x m R := h.mono e fun _ _ _ _ _ _ _ q => q
theorem Post.bnd {x : M α} {f : α → M β} {R : Gh → List (List (Option V)) → Hp → Mem → β → Prop} (h : Post S γ σ (bnd x f) m R) : Post S γ σ x m fun γ1 _ _ m1 a => Post S γ1 σ (f a) m1 R := by
  obtain ⟨r, m', h1, h2⟩ := h
  have h1 : (match x S.k m with
    | some (.ok a, m') => f a S.k m'
    | some (.exc c fs, m') => some (.exc c fs, m')
    | none => none) = some (r, m') := h1
  cases e : x S.k m with
  | none => rw [e] at h1; cases h1
  | some p =>
    obtain ⟨o, m1⟩ := p
    rw [e] at h1
    refine ⟨o, m1, e, ?_⟩
    cases o with
    | ok a =>
      intro γ1 of1 H1 e1 r1
      refine ⟨r, m', h1, ?_⟩
      cases r with
      | ok b => exact fun γ2 of2 H2 e2 r2 => h2 γ2 of2 H2 (e1.trans e2) r2
      | exc c fs => exact fun γ2 of2 H2 cls d e2 r2 => h2 γ2 of2 H2 cls d (e1.trans e2) r2
    | exc c fs =>
      cases h1
      exact h2
theorem Post.ret {a : α} {R : Gh → List (List (Option V)) → Hp → Mem → α → Prop} (h : Post S γ σ (ret a) m R) (r : S.R γ of σ H m) : R γ of H m a := by
  obtain ⟨o, m', h1, h2⟩ := h
  cases h1
  exact h2 γ of H (Ext.refl γ) r
theorem Post.lift {o : Option α} {R : Gh → List (List (Option V)) → Hp → Mem → α → Prop} (h : Post S γ σ (lift o) m R) : ∃ a, o = some a ∧ ∀ γ' of' H', Ext γ γ' → S.R γ' of' σ H' m → R γ' of' H' m a := by
  obtain ⟨r, m', h1, h2⟩ := h
  cases o with
  | none => cases h1
  | some a =>
    cases h1
    exact ⟨a, rfl, h2⟩
theorem Post.stuck {R : Gh → List (List (Option V)) → Hp → Mem → α → Prop} (h : Post S γ σ (stuck : M α) m R) : False := by
  obtain ⟨r, m', h1, h2⟩ := h
  cases h1

/-- a result is fixed: it stands for its value -/
theorem RR.fix {C : Ctx} {f : Fs} {g : Glob} {v : V} {r : Res} (R : Rel C γ f H g) (h : RR C γ f H g v r) : ∃ γ', Ext γ γ' ∧ Rel C γ' f H g ∧ RV C γ'.G γ'.ob r.fz v := by
  cases r with
  | val d => exact ⟨γ, Ext.refl γ, R, h⟩
  | new c =>
    obtain ⟨a, rfl, cr, g0, f0, fr⟩ := h
    obtain ⟨o, ho, _, _⟩ := cr.some
    obtain ⟨e, R'⟩ := R.fix ho fr f0
    exact ⟨γ.fix a o, e, R', (cr.mono e.G e.ob rfl).rv (by show upd γ.G a o a = H a; rw [upd_same, ho])⟩

/-- the first part of a sequence; its result is fixed -/
theorem split {x : M Res} {f : Res → M β} {R : Gh → List (List (Option V)) → Hp → Mem → β → Prop} (hR : S.R γ of σ H m) (h : Post S γ σ (Iv.bnd x f) m R) :
    tE S x σ H fun v H1 => ∃ γ1 of1 m1 a, Ext γ γ1 ∧ S.R γ1 of1 σ H1 m1 ∧ RV S.C γ1.G γ1.ob a.fz v ∧ Post S γ1 σ (f a) m1 R := by
  refine ⟨γ, of, m, hR, h.bnd.mono (Ext.refl γ) fun γ1 of1 H1 m1 a e1 r1 q v rr => ?_⟩
  obtain ⟨γ2, e2, r2, rv⟩ := rr.fix r1
  exact ⟨γ2, of1, m1, a, e1.trans e2, r2, rv, q.ext e2⟩
theorem splitT {x : M Bool} {f : Bool → M β} {R : Gh → List (List (Option V)) → Hp → Mem → β → Prop} (hR : S.R γ of σ H m) (h : Post S γ σ (Iv.bnd x f) m R) :
    tT S x σ H fun b H1 => ∃ γ1 of1 m1, Ext γ γ1 ∧ S.R γ1 of1 σ H1 m1 ∧ Post S γ1 σ (f b) m1 R :=
  ⟨γ, of, m, hR, h.bnd.mono (Ext.refl γ) fun γ1 of1 H1 m1 a e1 r1 q => ⟨γ1, of1, m1, e1, r1, q⟩⟩
end

theorem PE.imp {X : Cx} {e : Expr} {t t' : TE} (h : PE X e t) (hi : ∀ σ H Q, t' σ H Q → t σ H Q) : PE X e t' := ⟨fun pins s σ H Q I q => h.run pins s σ H Q I (hi σ H Q q)⟩
theorem PT.imp {X : Cx} {e : Expr} {t t' : TT} (h : PT X e t) (hi : ∀ σ H Q, t' σ H Q → t σ H Q) : PT X e t' := ⟨fun pins s σ H Q I q => h.run pins s σ H Q I (hi σ H Q q)⟩
theorem PW.imp {X : Cx} {e : Expr} {t t' : TT} (h : PW X e t) (hi : ∀ σ H Q, t' σ H Q → t σ H Q) : PW X e t' := ⟨fun wh pins s σ H Q I q => h.run wh pins s σ H Q I (hi σ H Q q)⟩
theorem PS.imp {X : Cx} {e : Stmt} {t t' : TS} (h : PS X e t) (hi : ∀ D σ H, t' D σ H → t D σ H) : PS X e t' := ⟨fun pins s σ H D I q => h.run pins s σ H D I (hi D σ H q)⟩
theorem PSs.imp {X : Cx} {e : List Stmt} {t t' : TS} (h : PSs X e t) (hi : ∀ D σ H, t' D σ H → t D σ H) : PSs X e t' := ⟨fun pins s σ H D I q => h.run pins s σ H D I (hi D σ H q)⟩

/-! ### operations by values -/
/-- a value as it may be looked at now: a container's items are fixed, itself it stands in H -/
def RB (C : Ctx) (γ : Gh) (H : Hp) : Val → V → Prop
  | .lst xs, v => ∃ a vs, v = .ref a ∧ H a = some (.lst vs) ∧ RVs C γ.G γ.ob xs vs
  | .dct kvs, v => ∃ a, v = .ref a ∧ ((∃ ps, H a = some (.dK ps) ∧ RKs C γ.G γ.ob kvs ps) ∨ (∃ ps, H a = some (.dT ps) ∧ RTs C γ.G γ.ob kvs ps))
  | d, v => RV C γ.G γ.ob d v
theorem RV.b {C : Ctx} {γ : Gh} {f : Fs} {H : Hp} {g : Glob} {d : Val} {v : V} (R : Rel C γ f H g) (h : RV C γ.G γ.ob d v) : RB C γ H d v := by
  cases d with
  | lst xs =>
    simp only [RV] at h
    obtain ⟨a, vs, e, h1, h2⟩ := h
    exact ⟨a, vs, e, R.G _ _ h1, h2⟩
  | dct kvs =>
    simp only [RV] at h
    obtain ⟨a, e, h⟩ := h
    refine ⟨a, e, ?_⟩
    rcases h with ⟨ps, h1, h2⟩ | ⟨ps, h1, h2⟩
    · exact .inl ⟨ps, R.G _ _ h1, h2⟩
    · exact .inr ⟨ps, R.G _ _ h1, h2⟩
  | _ => exact h
theorem CR.b {C : Ctx} {γ : Gh} {H : Hp} {c : Cell} {a : Addr} (h : CR C γ.G γ.ob H a c) : RB C γ H c.fz (.ref a) := by
  cases c with
  | lst xs => obtain ⟨vs, h1, h2⟩ := h; exact ⟨a, vs, rfl, h1, h2⟩
  | dct kvs => exact ⟨a, rfl, h⟩
  | set xs => exact h.elim

def Yield (C : Ctx) (γ : Gh) (f : Fs) (g : Glob) (r : Res) (Q : VK) : Prop := ∀ γ' H' v, Ext γ γ' → Rel C γ' f H' g → RR C γ' f H' g v r → Q v H'
/-- a two-place operation on values -/
def rOp (C : Ctx) (F : Val → Val → Option Res) : R2 := fun x y H Q => ∃ γ f g a b r, Rel C γ f H g ∧ RB C γ H a x ∧ RB C γ H b y ∧ F a b = some r ∧ Yield C γ f g r Q
def rOpB (C : Ctx) (F : Val → Val → Option Bool) : R2 := fun x y H Q => ∃ γ f g a b r, Rel C γ f H g ∧ RB C γ H a x ∧ RB C γ H b y ∧ F a b = some r ∧ Q (.bl r) H
def rUn (C : Ctx) (F : Val → Option Res) : V → Hp → VK → Prop := fun x H Q => ∃ γ f g a r, Rel C γ f H g ∧ RB C γ H a x ∧ F a = some r ∧ Yield C γ f g r Q
/-- a call of a built-in with values -/
def rFn (C : Ctx) (F : List Val → Option Res) : List V → Hp → VK → Prop := fun xs H Q => ∃ γ f g as r, Rel C γ f H g ∧ Paired (RB C γ H) as xs ∧ F as = some r ∧ Yield C γ f g r Q
end Iv

/-! Iv: names and constants. -/
namespace Iv
open PySem L2

section
variable {S : Sg} {γ γ' : Gh} {of of' : List (List (Option V))} {σ : L2.St} {H H' : Hp} {m m' : Mem}

theorem Mem.at_cur (m : Mem) (i : Nat) : m.g.at (.st m.stk.length i) = m.env[i]? := at2_last _ _ _
theorem Mem.at_out (m : Mem) {d : Nat} (i : Nat) (h : d < m.stk.length) : m.g.at (.st d i) = (m.stk[d]?).bind (·[i]?) := at2_lt _ _ _ h
theorem Sg.len (R : S.R γ of σ H m) : S.fr.length = m.stk.length := by have := R.len; simpa [Mem.g] using this
theorem Sg.at_cur (R : S.R γ of σ H m) (i : Nat) : (S.f of σ).at (.st m.stk.length i) = σ[i]? := by
  rw [← Sg.len R]
  exact at2_last _ _ _
theorem Mem.set_cur (m : Mem) (i : Nat) (s : Slot) : m.g.set (.st m.stk.length i) s = Mem.g { m with env := m.env.set i s } := by
  show Glob.mk (set2 (m.stk ++ [m.env]) m.stk.length i s) m.objs = _
  rw [set2_last]
  rfl
theorem Mem.set_out (m : Mem) {d : Nat} (i : Nat) (s : Slot) (h : d < m.stk.length) : m.g.set (.st d i) s = Mem.g { m with stk := m.stk.modify d (·.set i s) } := by
  show Glob.mk (set2 (m.stk ++ [m.env]) d i s) m.objs = _
  rw [set2_lt _ _ _ _ _ h]
  rfl
theorem Sg.set_cur (R : S.R γ of σ H m) (i : Nat) (x : Option V) : (S.f of σ).set (.st m.stk.length i) x = S.f of (σ.set i x) := by
  rw [← Sg.len R]
  show Fs.mk (set2 (S.fr ++ [σ]) S.fr.length i x) of = _
  rw [set2_last]
/-- an outer name is a name of an outer frame -/
theorem out_lt {d j : Nat} {s : Slot} (h : (m.stk[d]?).bind (·[j]?) = some s) : d < m.stk.length := by
  cases e : m.stk[d]? with
  | none => rw [e] at h; cases h
  | some r => exact (List.getElem?_eq_some_iff.mp e).1
/-- the container behind a name: its place, its address -/
theorem Sg.rf_at (R : S.R γ of σ H m) {i d j : Nat} (h : m.env[i]? = some (.rf d j)) : ∃ a, σ[i]? = some (some (.ref a)) ∧ (S.f of σ).at (.st d j) = some (some (.ref a)) := by
  have q := R.slot (.st m.stk.length i) _ (by rw [m.at_cur]; exact h)
  obtain ⟨d', i', e, _, a, h1, h2⟩ := q
  rw [Sg.at_cur R] at h1
  exact ⟨a, h1, h2⟩

theorem post_some {α : Type} {x : M α} {R : Gh → List (List (Option V)) → Hp → Mem → α → Prop} (h : Post S γ σ x m R) {a : α} {m' : Mem} (e : x S.k m = some (.ok a, m')) : ∀ γ' of' H', Ext γ γ' → S.R γ' of' σ H' m' → R γ' of' H' m' a := by
  obtain ⟨r, m2, h1, h2⟩ := h
  rw [e] at h1
  cases h1
  exact h2
theorem post_none {α : Type} {x : M α} {R : Gh → List (List (Option V)) → Hp → Mem → α → Prop} (h : Post S γ σ x m R) (e : x S.k m = none) : False := by
  obtain ⟨r, m2, h1, h2⟩ := h
  rw [e] at h1
  cases h1

/-- the name frozen, as a value -/
theorem nameC_ok {i : Nat} {R : Gh → List (List (Option V)) → Hp → Mem → Res → Prop} (hR : S.R γ of σ H m) (h : Post S γ σ (nameC i) m R) :
    ∃ v γ1 m1 r, σ[i]? = some (some v) ∧ Ext γ γ1 ∧ S.R γ1 of σ H m1 ∧ RV S.C γ1.G γ1.ob r v ∧ R γ1 of H m1 (.val r) := by
  cases e : m.env[i]? with
  | none => exact (post_none h (by simp [nameC, e])).elim
  | some s =>
    have q := hR.slot (.st m.stk.length i) s (by rw [m.at_cur]; exact e)
    cases s with
    | no => exact (post_none h (by simp [nameC, e])).elim
    | lock c => exact (post_none h (by simp [nameC, e])).elim
    | val v =>
      have p := post_some h (a := .val v) (m' := m) (by simp [nameC, e])
      obtain ⟨x, h1, h2⟩ := q
      rw [Sg.at_cur hR] at h1
      exact ⟨x, γ, m, v, h1, Ext.refl γ, hR, h2, p γ of H (Ext.refl γ) hR⟩
    | own c =>
      have p := post_some h (a := .val c.fz) (m' := { m with env := m.env.set i (.val c.fz) }) (by simp [nameC, e])
      obtain ⟨a, h1, cr, g0, f0⟩ := q
      obtain ⟨o, ho, _, _⟩ := cr.some
      obtain ⟨ext, R', rv⟩ := hR.freeze (by rw [m.at_cur]; exact e) h1 ho
      rw [m.set_cur] at R'
      rw [Sg.at_cur hR] at h1
      exact ⟨.ref a, γ.fix a o, _, c.fz, h1, ext, R', rv, p _ of H ext R'⟩
    | rf d j =>
      obtain ⟨a, ha, hb⟩ := Sg.rf_at hR e
      cases e2 : (m.stk[d]?).bind (·[j]?) with
      | none => exact (post_none h (by simp [nameC, e, e2])).elim
      | some s2 =>
        have hd := out_lt e2
        have q2 := hR.slot (.st d j) s2 (by rw [m.at_out _ hd]; exact e2)
        cases s2 with
        | no => exact (post_none h (by simp [nameC, e, e2])).elim
        | lock c => exact (post_none h (by simp [nameC, e, e2])).elim
        | rf _ _ => exact (post_none h (by simp [nameC, e, e2])).elim
        | val v =>
          have p := post_some h (a := .val v) (m' := m) (by simp [nameC, e, e2])
          obtain ⟨x, h1, h2⟩ := q2
          rw [hb] at h1
          cases h1
          exact ⟨_, γ, m, v, ha, Ext.refl γ, hR, h2, p γ of H (Ext.refl γ) hR⟩
        | own c =>
          have p := post_some h (a := .val c.fz) (m' := { m with stk := m.stk.modify d (·.set j (.val c.fz)) }) (by simp [nameC, e, e2])
          obtain ⟨a', h1, cr, g0, f0⟩ := q2
          rw [hb] at h1
          cases h1
          obtain ⟨o, ho, _, _⟩ := cr.some
          obtain ⟨ext, R', rv⟩ := hR.freeze (by rw [m.at_out _ hd]; exact e2) hb ho
          rw [m.set_out _ _ hd] at R'
          exact ⟨.ref a, γ.fix a o, _, c.fz, ha, ext, R', rv, p _ of H ext R'⟩

/-- a name looked at -/
theorem peek_ok {i : Nat} {d : Val} (hR : S.R γ of σ H m) (h : peekE m.stk m.env i = some d) : ∃ v, σ[i]? = some (some v) ∧ RB S.C γ H d v := by
  unfold peekE at h
  cases e : m.env[i]? with
  | none => rw [e] at h; cases h
  | some s =>
    rw [e] at h
    have q := hR.slot (.st m.stk.length i) s (by rw [m.at_cur]; exact e)
    cases s with
    | no => cases h
    | val v =>
      cases h
      obtain ⟨x, h1, h2⟩ := q
      rw [Sg.at_cur hR] at h1
      exact ⟨x, h1, h2.b hR⟩
    | own c =>
      cases h
      obtain ⟨a, h1, cr, _⟩ := q
      rw [Sg.at_cur hR] at h1
      exact ⟨_, h1, cr.b⟩
    | lock c =>
      cases h
      obtain ⟨a, h1, cr, _⟩ := q
      rw [Sg.at_cur hR] at h1
      exact ⟨_, h1, cr.b⟩
    | rf d' j =>
      obtain ⟨a, ha, hb⟩ := Sg.rf_at hR e
      cases e2 : (m.stk[d']?).bind (·[j]?) with
      | none => dsimp only at h; rw [e2] at h; cases h
      | some s2 =>
        dsimp only at h
        rw [e2] at h
        have hd := out_lt e2
        have q2 := hR.slot (.st d' j) s2 (by rw [m.at_out _ hd]; exact e2)
        cases s2 with
        | no => cases h
        | rf _ _ => cases h
        | val v =>
          cases h
          obtain ⟨x, h1, h2⟩ := q2
          rw [hb] at h1
          cases h1
          exact ⟨_, ha, h2.b hR⟩
        | own c =>
          cases h
          obtain ⟨a', h1, cr, _⟩ := q2
          rw [hb] at h1
          cases h1
          exact ⟨_, ha, cr.b⟩
        | lock c =>
          cases h
          obtain ⟨a', h1, cr, _⟩ := q2
          rw [hb] at h1
          cases h1
          exact ⟨_, ha, cr.b⟩

/-- a container behind a name is changed: at its address, whatever its new content is -/
theorem chg_ok {α : Type} {i : Nat} {F : Cell → Option (Cell × α)} {R : Gh → List (List (Option V)) → Hp → Mem → α → Prop} (hR : S.R γ of σ H m) (h : Post S γ σ (chg i F) m R) :
    ∃ a c c' r, σ[i]? = some (some (.ref a)) ∧ CR S.C γ.G γ.ob H a c ∧ F c = some (c', r) ∧ ∀ o', CR S.C γ.G γ.ob (upd H a o') a c' → ∃ m', S.R γ of σ (upd H a o') m' ∧ R γ of (upd H a o') m' r := by
  cases e : m.env[i]? with
  | none => exact (post_none h (by simp [chg, e])).elim
  | some s =>
    have q := hR.slot (.st m.stk.length i) s (by rw [m.at_cur]; exact e)
    cases s with
    | no => exact (post_none h (by simp [chg, e])).elim
    | lock c => exact (post_none h (by simp [chg, e])).elim
    | val v => exact (post_none h (by simp [chg, e])).elim
    | own c =>
      obtain ⟨a, h1, cr, g0, f0⟩ := q
      cases e2 : F c with
      | none => exact (post_none h (by simp [chg, e, e2])).elim
      | some p =>
        obtain ⟨c', r⟩ := p
        have p := post_some h (a := r) (m' := { m with env := m.env.set i (.own c') }) (by simp [chg, e, e2])
        have h1' := h1
        rw [Sg.at_cur hR] at h1'
        refine ⟨a, c, c', r, h1', cr, e2, fun o' hc' => ?_⟩
        have R' := hR.chg (by rw [m.at_cur]; exact e) h1 hc'
        rw [m.set_cur] at R'
        exact ⟨_, R', p γ of _ (Ext.refl γ) R'⟩
    | rf d j =>
      obtain ⟨a, ha, hb⟩ := Sg.rf_at hR e
      cases e2 : (m.stk[d]?).bind (·[j]?) with
      | none => exact (post_none h (by simp [chg, e, e2])).elim
      | some s2 =>
        have hd := out_lt e2
        have q2 := hR.slot (.st d j) s2 (by rw [m.at_out _ hd]; exact e2)
        cases s2 with
        | no => exact (post_none h (by simp [chg, e, e2])).elim
        | lock c => exact (post_none h (by simp [chg, e, e2])).elim
        | rf _ _ => exact (post_none h (by simp [chg, e, e2])).elim
        | val v => exact (post_none h (by simp [chg, e, e2])).elim
        | own c =>
          obtain ⟨a', h1, cr, g0, f0⟩ := q2
          rw [hb] at h1
          cases h1
          cases e3 : F c with
          | none => exact (post_none h (by simp [chg, e, e2, e3])).elim
          | some p =>
            obtain ⟨c', r⟩ := p
            have p := post_some h (a := r) (m' := { m with stk := m.stk.modify d (·.set j (.own c')) }) (by simp [chg, e, e2, e3])
            refine ⟨a, c, c', r, ha, cr, e3, fun o' hc' => ?_⟩
            have R' := hR.chg (by rw [m.at_out _ hd]; exact e2) hb hc'
            rw [m.set_out _ _ hd] at R'
            exact ⟨_, R', p γ of _ (Ext.refl γ) R'⟩
/-- a name stored -/
theorem setSlot_ok {i : Nat} {s : Slot} {x : V} {R : Gh → List (List (Option V)) → Hp → Mem → Unit → Prop} (hR : S.R γ of σ H m)
    (hs : (∃ v, s = .val v ∧ RV S.C γ.G γ.ob v x) ∨ ∃ c a, s = .own c ∧ x = .ref a ∧ CR S.C γ.G γ.ob H a c ∧ γ.G a = none ∧ γ.F a = none ∧ Free γ (S.f of σ) m.g a)
    (h : Post S γ σ (setSlot i s) m R) : ∃ m', setSlot i s S.k m = some (.ok (), m') ∧ m' = { m with env := m.env.set i s } ∧ i < σ.length ∧ S.R γ of (σ.set i (some x)) H m' := by
  cases e : m.env[i]? with
  | none => exact (post_none h (by simp [setSlot, e])).elim
  | some s0 =>
    cases hl : s0.locked with
    | true => exact (post_none h (by simp [setSlot, e, hl])).elim
    | false =>
      refine ⟨{ m with env := m.env.set i s }, by simp [setSlot, e, hl], rfl, ?_, ?_⟩
      · have hlen := hR.lens m.stk.length σ m.env (by rw [← Sg.len hR]; simp) (by simp [Mem.g])
        rw [hlen]
        exact (List.getElem?_eq_some_iff.mp e).1
      · have R' := hR.store (i := i) (s0 := s0) (s1 := s) (x := some x) (d := m.stk.length) (by simp [Mem.g]) (by rw [m.at_cur]; exact e) hl (by
          rcases hs with ⟨v, e1, rv⟩ | ⟨c, a, e1, e2, cr, g0, f0, fr⟩
          · exact .inr (.inl ⟨v, x, e1, rfl, rv⟩)
          · exact .inr (.inr ⟨c, a, e1, by rw [e2], cr, g0, f0, fr.own⟩))
        rw [m.set_cur, Sg.set_cur hR] at R'
        exact R'
end

section
variable {X : Cx} {S : Sg}
theorem te_int {i : Int} {j pos} : PE X (.Constant (.int i) j pos) (tE S (ret (.val (.int i)))) := PE.imp pe_int fun σ H Q ⟨γ, of, m, hR, p⟩ => p.ret hR _ (by simp [RR, RV])
theorem te_bool {b : Bool} {j pos} : PE X (.Constant (.bool b) j pos) (tE S (ret (.val (.bool b)))) := PE.imp pe_bl fun σ H Q ⟨γ, of, m, hR, p⟩ => p.ret hR _ (by simp [RR, RV])
theorem te_str {x : Str} {j pos} : PE X (.Constant (.str x) j pos) (tE S (ret (.val (.str x)))) := PE.imp pe_str fun σ H Q ⟨γ, of, m, hR, p⟩ => p.ret hR _ (by simp [RR, RV])
theorem te_non {j pos} : PE X (.Constant .none j pos) (tE S (ret (.val .non))) := PE.imp pe_non fun σ H Q ⟨γ, of, m, hR, p⟩ => p.ret hR _ (by simp [RR, RV])
theorem te_name {i : Nat} {x : Str} {pos : Pos} (hN : X.N[i]? = some x) (hv : Vis X.env.scope x) (hd : (x == ("__debug__" : Str)) = false) (hcd : (x == ("__classdict__" : Str)) = false) : PE X (.Name x pos) (tE S (nameC i)) :=
  PE.imp (pe_var hN hv hd hcd) fun σ H Q ⟨γ, of, m, hR, p⟩ => by
    obtain ⟨v, γ1, m1, r, e, _, _, rv, q⟩ := nameC_ok hR p
    exact ⟨v, e, q v rv⟩
end
end Iv

/-! Iv: operations, by values. -/
namespace Iv
open PySem L2

section
variable {X : Cx} {C : Ctx} {γ γ' : Gh} {f : Fs} {g : Glob} {H : Hp} {Q : VK}

theorem Yield.val {d : Val} {v : V} (y : Yield C γ f g (.val d) Q) (R : Rel C γ f H g) (h : RV C γ.G γ.ob d v) : Q v H := y γ H v (Ext.refl γ) R h
/-- a new list -/
theorem Yield.lst {xs : List Val} {vs : List V} {p : Addr} (y : Yield C γ f g (.new (.lst xs)) Q) (R : Rel C γ f H g) (h : RVs C γ.G γ.ob xs vs) (hp : H p = none) : Q (.ref p) (upd H p (.lst vs)) := by
  obtain ⟨h1, h2, h3⟩ := R.fresh hp
  exact y γ _ _ (Ext.refl γ) (R.alloc hp) ⟨p, rfl, ⟨vs, upd_same, h⟩, h2, h3, h1⟩
/-- a new tuple -/
theorem Yield.tup {xs : List Val} {vs : List V} {p : Addr} (y : Yield C γ f g (.val (.tup xs)) Q) (R : Rel C γ f H g) (h : RVs C γ.G γ.ob xs vs) (hp : H p = none) : Q (.ref p) (upd H p (.tup vs)) := by
  obtain ⟨h1, h2, h3⟩ := R.fresh hp
  obtain ⟨e, R'⟩ := (R.alloc (o := .tup vs) hp).fix (p := p) upd_same h1 h3
  refine y _ _ _ e R' ?_
  simp only [RR, RV]
  exact ⟨p, vs, rfl, SqT.of (by show upd γ.G p _ p = _; exact upd_same), RVs.ext e h⟩
theorem RB.int {i : Int} {v : V} (h : RB C γ H (.int i) v) : v = .int i := by simpa [RB, RV] using h
theorem RB.bool {i : Bool} {v : V} (h : RB C γ H (.bool i) v) : v = .bl i := by simpa [RB, RV] using h
theorem RB.str {i : Str} {v : V} (h : RB C γ H (.str i) v) : v = .str i := by simpa [RB, RV] using h
theorem RB.lst {xs : List Val} {v : V} (h : RB C γ H (.lst xs) v) : ∃ a vs, v = .ref a ∧ H a = some (.lst vs) ∧ RVs C γ.G γ.ob xs vs := h
theorem RB.tup {xs : List Val} {v : V} (R : Rel C γ f H g) (h : RB C γ H (.tup xs) v) : ∃ a vs, v = .ref a ∧ SqT C.K H a vs ∧ RVs C γ.G γ.ob xs vs := by
  have h : RV C γ.G γ.ob (.tup xs) v := h
  simp only [RV] at h
  obtain ⟨a, vs, e, h1, h2⟩ := h
  exact ⟨a, vs, e, SqT.same R.G h1, h2⟩
theorem rv_int (i : Int) : RV C γ.G γ.ob (.int i) (.int i) := by simp [RV]
theorem rv_bool (i : Bool) : RV C γ.G γ.ob (.bool i) (.bl i) := by simp [RV]
theorem rv_str (i : Str) : RV C γ.G γ.ob (.str i) (.str i) := by simp [RV]
theorem rv_non : RV C γ.G γ.ob .non .non := by simp [RV]

theorem OpR.imp {F : Value → Value → Sem Value} {r r' : R2} (h : OpR X F r) (hi : ∀ x y H Q, r' x y H Q → r x y H Q) : OpR X F r' := fun pins s σ H x y v u Q I rx ry q => h pins s σ H x y v u Q I rx ry (hi x y H Q q)
theorem OpR.either {F : Value → Value → Sem Value} {r1 r2 : R2} (h1 : OpR X F r1) (h2 : OpR X F r2) : OpR X F (fun x y H Q => r1 x y H Q ∨ r2 x y H Q) := fun pins s σ H x y v u Q I rx ry q => q.elim (h1 pins s σ H x y v u Q I rx ry) (h2 pins s σ H x y v u Q I rx ry)
theorem CallR.imp {F : Value} {r r' : List V → Hp → VK → Prop} (h : CallR X F r) (hi : ∀ x H Q, r' x H Q → r x H Q) : CallR X F r' := fun pins s σ H xs us Q I rx q => h pins s σ H xs us Q I rx (hi xs H Q q)
theorem CallR.either {F : Value} {r r' : List V → Hp → VK → Prop} (h : CallR X F r) (h' : CallR X F r') : CallR X F (fun x H Q => r x H Q ∨ r' x H Q) := fun pins s σ H xs us Q I rx q => q.elim (h pins s σ H xs us Q I rx) (h' pins s σ H xs us Q I rx)

theorem limLe {n : Nat} (h : n ≤ lim) : n ≤ sizeLine := by rw [sizeLine_eq]; unfold lim at h; omega

theorem os_add (hK : X.K = C.K) : OpR X (binaryOp .Add) (rOp C opAdd) := by
  refine OpR.imp (OpR.either (OpR.either op_add op_add_str) (OpR.either op_cat op_catA)) fun x y H Q h => ?_
  obtain ⟨γ, f, g, a, b, r, R, ha, hb, e, y'⟩ := h
  cases a with
  | int i =>
    cases b with
    | int j =>
      cases e
      exact .inl (.inl ⟨i, j, ha.int, hb.int, y'.val R (rv_int _)⟩)
    | _ => cases e
  | str i =>
    cases b with
    | str j =>
      simp only [opAdd] at e
      split at e
      · cases e
        rename_i hl
        exact .inl (.inr ⟨i, j, ha.str, hb.str, limLe hl, y'.val R (rv_str _)⟩)
      · cases e
    | _ => cases e
  | lst xs =>
    cases b with
    | lst ys =>
      simp only [opAdd] at e
      split at e
      · cases e
        rename_i hl
        obtain ⟨p, vs, rfl, h1, h2⟩ := ha.lst
        obtain ⟨q, ws, rfl, h3, h4⟩ := hb.lst
        exact .inr (.inl ⟨p, q, vs, ws, rfl, rfl, h1, h3, by rw [← h2.length, ← h4.length]; exact limLe hl, fun z hz => y'.lst R (h2.append h4) hz⟩)
      · cases e
    | _ => cases e
  | tup xs =>
    cases b with
    | tup ys =>
      simp only [opAdd] at e
      split at e
      · cases e
        rename_i hl
        obtain ⟨p, vs, rfl, h1, h2⟩ := ha.tup R
        obtain ⟨q, ws, rfl, h3, h4⟩ := hb.tup R
        refine .inr (.inr ⟨p, q, vs, ws, rfl, rfl, by rw [hK]; exact h1, by rw [hK]; exact h3, by rw [← h2.length, ← h4.length]; exact limLe hl, fun e1 => ?_, fun _ e2 => ?_, fun _ _ z hz => y'.tup R (h2.append h4) hz⟩)
        · have : xs = [] := by have := h2.length; rw [e1] at this; exact List.length_eq_zero_iff.mp this
          subst this
          exact y'.val R hb
        · have : ys = [] := by have := h4.length; rw [e2] at this; exact List.length_eq_zero_iff.mp this
          subst this
          rw [List.append_nil] at y'
          exact y'.val R ha
      · cases e
    | _ => cases e
  | _ => cases b <;> cases e
theorem os_ii {F : Value → Value → Sem Value} {P : Int → Int → Prop} {G : Int → Int → V} {F' : Val → Val → Option Res} (h : OpR X F (rI P G))
    (hF : ∀ a b r, F' a b = some r → ∃ i j d, a = .int i ∧ b = .int j ∧ P i j ∧ r = .val d ∧ ∀ (C : Ctx) (γ : Gh), RV C γ.G γ.ob d (G i j)) : OpR X F (rOp C F') := by
  refine OpR.imp h fun x y H Q h => ?_
  obtain ⟨γ, f, g, a, b, r, R, ha, hb, e, y'⟩ := h
  obtain ⟨i, j, d, rfl, rfl, p, rfl, rv⟩ := hF a b r e
  exact ⟨i, j, ha.int, hb.int, p, y'.val R (rv C γ)⟩
theorem os_sub : OpR X (binaryOp .Sub) (rOp C opSub) := by
  refine os_ii (P := fun _ _ => True) (OpR.imp op_sub fun x y H Q ⟨i, j, e1, e2, _, q⟩ => ⟨i, j, e1, e2, q⟩) fun a b r e => ?_
  cases a <;> cases b <;> cases e
  exact ⟨_, _, _, rfl, rfl, trivial, rfl, fun _ _ => rv_int _⟩
theorem os_mul : OpR X (binaryOp .Mult) (rOp C opMul) := by
  refine os_ii op_mul fun a b r e => ?_
  cases a <;> cases b <;> simp only [opMul] at e <;> (try cases e)
  split at e
  · cases e
    rename_i h
    refine ⟨_, _, _, rfl, rfl, ?_, rfl, fun _ _ => rv_int _⟩
    simpa [mulOk, CMul] using h
  · cases e
theorem os_div : OpR X (binaryOp .FloorDiv) (rOp C opDiv) := by
  refine os_ii op_fdivN fun a b r e => ?_
  cases a <;> cases b <;> simp only [opDiv] at e <;> (try cases e)
  split at e
  · cases e
    rename_i h
    refine ⟨_, _, _, rfl, rfl, ?_, rfl, fun _ _ => rv_int _⟩
    simpa [divOk, CDivN] using h
  · cases e
theorem os_mod : OpR X (binaryOp .Mod) (rOp C opMod) := by
  refine os_ii op_modN fun a b r e => ?_
  cases a <;> cases b <;> simp only [opMod] at e <;> (try cases e)
  split at e
  · cases e
    rename_i h
    exact ⟨_, _, _, rfl, rfl, h, rfl, fun _ _ => rv_int _⟩
  · cases e
theorem os_pow : OpR X (binaryOp .Pow) (rOp C opPow) := by
  refine os_ii op_pow fun a b r e => ?_
  cases a <;> cases b <;> simp only [opPow] at e <;> (try cases e)
  split at e
  · cases e
    rename_i h
    refine ⟨_, _, _, rfl, rfl, ?_, rfl, fun _ _ => rv_int _⟩
    exact ⟨h.1, by omega, h.2.2⟩
  · cases e
theorem os_neg : UnR X (unaryOp .USub) (rUn C opNeg) := by
  intro pins s σ H x v Q I rx h
  refine un_neg pins s σ H x v Q I rx ?_
  obtain ⟨γ, f, g, a, r, R, ha, e, y'⟩ := h
  cases a <;> cases e
  exact ⟨_, ha.int, y'.val R (rv_int _)⟩

/-! ### comparisons -/
theorem oc_ii {F : Value → Value → Sem Value} {G : Int → Int → Bool} {F' : Val → Val → Option Bool} (h : OpR X F (rI0 fun i j => .bl (G i j)))
    (hF : ∀ a b r, F' a b = some r → ∃ i j, a = .int i ∧ b = .int j ∧ r = G i j) : OpR X F (rOpB C F') := by
  refine OpR.imp h fun x y H Q h => ?_
  obtain ⟨γ, f, g, a, b, r, R, ha, hb, e, q⟩ := h
  obtain ⟨i, j, rfl, rfl, rfl⟩ := hF a b r e
  exact ⟨i, j, ha.int, hb.int, q⟩
theorem oc_lt : OpR X (compareOp .Lt) (rOpB C cLt) := oc_ii op_lt fun a b r e => by cases a <;> cases b <;> cases e; exact ⟨_, _, rfl, rfl, rfl⟩
theorem oc_le : OpR X (compareOp .LtE) (rOpB C cLe) := oc_ii op_le fun a b r e => by cases a <;> cases b <;> cases e; exact ⟨_, _, rfl, rfl, rfl⟩
theorem oc_gt : OpR X (compareOp .Gt) (rOpB C cGt) := oc_ii op_gt fun a b r e => by cases a <;> cases b <;> cases e; exact ⟨_, _, rfl, rfl, rfl⟩
theorem oc_ge : OpR X (compareOp .GtE) (rOpB C cGe) := oc_ii op_ge fun a b r e => by cases a <;> cases b <;> cases e; exact ⟨_, _, rfl, rfl, rfl⟩

/-! data -/
mutual
theorem dp_of {n : Nat} (R : Rel C γ f H g) : ∀ (d : Val) (v : V), Val.ok n d = true → RV C γ.G γ.ob d v → Dp C.K H v d.data
  | .non, v, _, h => by simp only [RV] at h; subst h; exact .non
  | .bool b, v, _, h => by simp only [RV] at h; subst h; exact .bl b
  | .int b, v, _, h => by simp only [RV] at h; subst h; exact .int b
  | .str b, v, _, h => by simp only [RV] at h; subst h; exact .str b
  | .tup xs, v, ho, h => by
    simp only [RV] at h
    obtain ⟨a, vs, rfl, h1, h2⟩ := h
    cases n with
    | zero => simp [Val.ok] at ho
    | succ n =>
      simp only [Val.ok] at ho
      exact .tup (SqT.same R.G h1) (dps_of R xs vs ho h2)
  | .lst xs, v, ho, h => by
    simp only [RV] at h
    obtain ⟨a, vs, rfl, h1, h2⟩ := h
    cases n with
    | zero => simp [Val.ok] at ho
    | succ n =>
      simp only [Val.ok] at ho
      exact .lst (.of (R.G _ _ h1)) (dps_of R xs vs ho h2)
  | .dct _, v, ho, h => by cases n <;> simp [Val.ok] at ho
  | .set _, v, ho, h => by cases n <;> simp [Val.ok] at ho
  | .obj _, v, ho, h => by cases n <;> simp [Val.ok] at ho
  | .cls _, v, ho, h => by cases n <;> simp [Val.ok] at ho
  | .scr _, v, ho, h => by cases n <;> simp [Val.ok] at ho
theorem dps_of {n : Nat} (R : Rel C γ f H g) : ∀ (ds : List Val) (vs : List V), Val.oks n ds = true → RVs C γ.G γ.ob ds vs → DpAll C.K H vs (Val.datas ds)
  | [], vs, _, h => by simp only [RVs] at h; subst h; exact .nil
  | x :: xs, vs, ho, h => by
    simp only [RVs] at h
    obtain ⟨v, r, rfl, h1, h2⟩ := h
    simp only [Val.oks, Bool.and_eq_true] at ho
    exact .cons (dp_of R x v ho.1 h1) (dps_of R xs r ho.2 h2)
end
theorem dpb_of {n : Nat} {d : Val} {v : V} (R : Rel C γ f H g) (ho : Val.ok n d = true) (h : RB C γ H d v) : Dp C.K H v d.data := by
  cases d with
  | lst xs =>
    obtain ⟨a, vs, rfl, h1, h2⟩ := h.lst
    cases n with
    | zero => simp [Val.ok] at ho
    | succ n =>
      simp only [Val.ok] at ho
      exact .lst (.of h1) (dps_of R xs vs ho h2)
  | dct _ => cases n <;> simp [Val.ok] at ho
  | _ => exact dp_of R _ _ ho h
mutual
theorem ok_depth : ∀ (n : Nat) (d : Val), Val.ok n d = true → d.data.canLay0 = true ∧ d.data.depth ≤ n
  | n, .non, _ => by simp [Val.data, PyData.canLay0, PyData.depth]
  | n, .bool b, _ => by simp [Val.data, PyData.canLay0, PyData.depth]
  | n, .int b, _ => by simp [Val.data, PyData.canLay0, PyData.depth]
  | n, .str b, h => by
    simp only [Val.ok] at h
    simp [Val.data, PyData.canLay0, PyData.depth, h]
  | n, .tup xs, h => by
    cases n with
    | zero => simp [Val.ok] at h
    | succ n =>
      simp only [Val.ok] at h
      obtain ⟨h1, h2⟩ := oks_depth n xs h
      simp only [Val.data, PyData.canLay0, PyData.depth]
      exact ⟨h1, by omega⟩
  | n, .lst xs, h => by
    cases n with
    | zero => simp [Val.ok] at h
    | succ n =>
      simp only [Val.ok] at h
      obtain ⟨h1, h2⟩ := oks_depth n xs h
      simp only [Val.data, PyData.canLay0, PyData.depth]
      exact ⟨h1, by omega⟩
  | n, .dct _, h => by cases n <;> simp [Val.ok] at h
  | n, .set _, h => by cases n <;> simp [Val.ok] at h
  | n, .obj _, h => by cases n <;> simp [Val.ok] at h
  | n, .cls _, h => by cases n <;> simp [Val.ok] at h
  | n, .scr _, h => by cases n <;> simp [Val.ok] at h
theorem oks_depth : ∀ (n : Nat) (ds : List Val), Val.oks n ds = true → PyData.canLayAll0 (Val.datas ds) = true ∧ PyData.depthAll (Val.datas ds) ≤ n
  | n, [], _ => by simp [Val.datas, PyData.canLayAll0, PyData.depthAll]
  | n, x :: xs, h => by
    simp only [Val.oks, Bool.and_eq_true] at h
    obtain ⟨h1, h2⟩ := ok_depth n x h.1
    obtain ⟨h3, h4⟩ := oks_depth n xs h.2
    simp only [Val.datas, PyData.canLayAll0, PyData.depthAll, Bool.and_eq_true]
    exact ⟨⟨h1, h3⟩, by omega⟩
end
theorem shaped_of {n : Nat} {d : Val} (hn : n ≤ 64) (h : Val.ok n d = true) : SeqAt.shaped d.data = true := by
  obtain ⟨h1, h2⟩ := ok_depth n d h
  show (d.data.canLay0 && decide (d.data.depth ≤ 64)) = true
  rw [Bool.and_eq_true]
  exact ⟨h1, decide_eq_true (by omega)⟩
mutual
theorem eqv_of : ∀ (n : Nat) (a b : Val), Val.ok n a = true → Val.ok n b = true → PyData.eqv a.data b.data = Val.eq a b
  | n, .tup xs, .tup ys, ha, hb => by
    cases n with
    | zero => simp [Val.ok] at ha
    | succ n =>
      simp only [Val.ok] at ha hb
      simp only [Val.data, PyData.eqv, Val.eq]
      exact eqvs_of n xs ys ha hb
  | n, .lst xs, .lst ys, ha, hb => by
    cases n with
    | zero => simp [Val.ok] at ha
    | succ n =>
      simp only [Val.ok] at ha hb
      simp only [Val.data, PyData.eqv, Val.eq]
      exact eqvs_of n xs ys ha hb
  | n, .non, b, ha, hb => by cases b <;> cases n <;> simp_all [Val.ok, Val.data, PyData.eqv, Val.eq]
  | n, .bool _, b, ha, hb => by cases b <;> cases n <;> simp_all [Val.ok, Val.data, PyData.eqv, Val.eq]
  | n, .int _, b, ha, hb => by cases b <;> cases n <;> simp_all [Val.ok, Val.data, PyData.eqv, Val.eq]
  | n, .str _, b, ha, hb => by cases b <;> cases n <;> simp_all [Val.ok, Val.data, PyData.eqv, Val.eq] <;> exact Bool.beq_eq_decide_eq _ _
  | n, .tup _, .non, ha, hb => by simp [Val.data, PyData.eqv, Val.eq]
  | n, .tup _, .bool _, ha, hb => by simp [Val.data, PyData.eqv, Val.eq]
  | n, .tup _, .int _, ha, hb => by simp [Val.data, PyData.eqv, Val.eq]
  | n, .tup _, .str _, ha, hb => by simp [Val.data, PyData.eqv, Val.eq]
  | n, .tup _, .lst _, ha, hb => by simp [Val.data, PyData.eqv, Val.eq]
  | n, .lst _, .non, ha, hb => by simp [Val.data, PyData.eqv, Val.eq]
  | n, .lst _, .bool _, ha, hb => by simp [Val.data, PyData.eqv, Val.eq]
  | n, .lst _, .int _, ha, hb => by simp [Val.data, PyData.eqv, Val.eq]
  | n, .lst _, .str _, ha, hb => by simp [Val.data, PyData.eqv, Val.eq]
  | n, .lst _, .tup _, ha, hb => by simp [Val.data, PyData.eqv, Val.eq]
  | n, _, .dct _, ha, hb => by cases n <;> simp [Val.ok] at hb
  | n, _, .set _, ha, hb => by cases n <;> simp [Val.ok] at hb
  | n, _, .obj _, ha, hb => by cases n <;> simp [Val.ok] at hb
  | n, _, .cls _, ha, hb => by cases n <;> simp [Val.ok] at hb
  | n, _, .scr _, ha, hb => by cases n <;> simp [Val.ok] at hb
  | n, .dct _, _, ha, hb => by cases n <;> simp [Val.ok] at ha
  | n, .set _, _, ha, hb => by cases n <;> simp [Val.ok] at ha
  | n, .obj _, _, ha, hb => by cases n <;> simp [Val.ok] at ha
  | n, .cls _, _, ha, hb => by cases n <;> simp [Val.ok] at ha
  | n, .scr _, _, ha, hb => by cases n <;> simp [Val.ok] at ha
theorem eqvs_of : ∀ (n : Nat) (a b : List Val), Val.oks n a = true → Val.oks n b = true → PyData.eqvAll (Val.datas a) (Val.datas b) = Val.eqs a b
  | n, [], [], _, _ => by simp [Val.datas, PyData.eqvAll, Val.eqs]
  | n, [], _ :: _, _, _ => by simp [Val.datas, PyData.eqvAll, Val.eqs]
  | n, _ :: _, [], _, _ => by simp [Val.datas, PyData.eqvAll, Val.eqs]
  | n, x :: xs, y :: ys, ha, hb => by
    simp only [Val.oks, Bool.and_eq_true] at ha hb
    simp only [Val.datas, PyData.eqvAll, Val.eqs]
    rw [eqv_of n x y ha.1 hb.1, eqvs_of n xs ys ha.2 hb.2]
end
theorem cEq_cases {a b : Val} {r : Bool} (h : cEq a b = some r) : (∃ x y, a = .str x ∧ b = .str y ∧ r = decide (x = y)) ∨ cEqD a b = some r := by
  unfold cEq at h
  split at h
  · cases h; exact .inl ⟨_, _, rfl, rfl, rfl⟩
  · exact .inr h
theorem oc_eq (hK : X.K = C.K) (hu : X.A.units + 64 < cLine) : OpR X (compareOp .Eq) (rOpB C cEq) := by
  refine OpR.imp (OpR.either L2.op_eq (op_eqD hu)) fun x y H Q h => ?_
  obtain ⟨γ, f, g, a, b, r, R, ha, hb, e, q⟩ := h
  rcases cEq_cases e with ⟨x, y, rfl, rfl, rfl⟩ | e
  · left
    rw [ha.str, hb.str]
    refine ⟨rfl, ?_⟩
    have : decide (V.str x = V.str y) = decide (x = y) := by simp
    rw [this]
    exact q
  right
  simp only [cEqD] at e
  split at e
  · rename_i h
    rw [Bool.and_eq_true] at h
    cases e
    refine ⟨a.data, b.data, by rw [hK]; exact dpb_of R h.1 ha, by rw [hK]; exact dpb_of R h.2 hb, shaped_of (by decide) h.1, shaped_of (by decide) h.2, ?_⟩
    rw [eqv_of 60 a b h.1 h.2]
    exact q
  · cases e
theorem oc_ne (hK : X.K = C.K) (hu : X.A.units + 64 < cLine) : OpR X (compareOp .NotEq) (rOpB C cNe) := by
  refine OpR.imp (OpR.either L2.op_ne (op_neD hu)) fun x y H Q h => ?_
  obtain ⟨γ, f, g, a, b, r, R, ha, hb, e, q⟩ := h
  simp only [cNe, Option.map_eq_some_iff] at e
  obtain ⟨r', e, rfl⟩ := e
  rcases cEq_cases e with ⟨x, y, rfl, rfl, rfl⟩ | e
  · left
    rw [ha.str, hb.str]
    refine ⟨rfl, ?_⟩
    have : decide (V.str x = V.str y) = decide (x = y) := by simp
    rw [this]
    exact q
  right
  simp only [cEqD] at e
  split at e
  · rename_i h
    rw [Bool.and_eq_true] at h
    cases e
    refine ⟨a.data, b.data, by rw [hK]; exact dpb_of R h.1 ha, by rw [hK]; exact dpb_of R h.2 hb, shaped_of (by decide) h.1, shaped_of (by decide) h.2, ?_⟩
    rw [eqv_of 60 a b h.1 h.2]
    exact q
  · cases e
end
end Iv

/-! Iv: built-in functions, methods of lists, subscripts: by values. -/
namespace Iv
open PySem L2

section
variable {X : Cx} {C : Ctx} {γ γ' : Gh} {f : Fs} {g : Glob} {H : Hp} {Q : VK}

theorem any_eqv {n : Nat} {x : Val} (hx : Val.ok n x = true) : ∀ {ys : List Val}, Val.oks n ys = true → ((Val.datas ys).any fun z => PyData.eqv z x.data) = ys.any fun y => Val.eq y x
  | [], _ => rfl
  | y :: ys, h => by
    simp only [Val.oks, Bool.and_eq_true] at h
    simp only [Val.datas, List.any_cons]
    rw [eqv_of n y x h.1 hx, any_eqv hx h.2]
theorem oks_lst {n : Nat} {ys : List Val} (h : Val.oks n ys = true) : Val.ok (n + 1) (.lst ys) = true := by simpa [Val.ok] using h
theorem oks_tup {n : Nat} {ys : List Val} (h : Val.oks n ys = true) : Val.ok (n + 1) (.tup ys) = true := by simpa [Val.ok] using h

/-- x in t, t a tuple of data -/
def rInT (K : PySem.W.Frag) : R2 := fun x y H Q => ∃ d ds, Dp K H x d ∧ Dp K H y (.tuple ds) ∧ SeqAt.shaped d = true ∧ SeqAt.shaped (.tuple ds) = true ∧ Q (.bl (ds.any fun z => PyData.eqv z d)) H
theorem op_inT (hu : X.A.units + 65 < cLine) : OpR X (compareOp .In) (rInT X.K) := by
  intro pins s σ H x y v u Q I rx ry ⟨d, ds, hd, he, sd, se, q⟩
  obtain ⟨as, k1⟩ := Dp.reads I d x v hd rx
  obtain ⟨bs, k2⟩ := Dp.reads I _ y u he ry
  have c2 := SeqAt.canLay_of_shaped se
  have room := PyProof.Rows.room_in_shaped (xs := ds) sd hu
  exact SeqAt.in_tuple_reads k2 k1 c2 (SeqAt.canLay_of_shaped sd) room ⟨.bl _, H, I, rfl, q⟩
theorem op_notInT (hu : X.A.units + 65 < cLine) : OpR X (compareOp .NotIn) (fun x y H Q => rInT X.K x y H (fun v H' => ∃ b, v = .bl b ∧ Q (.bl (!b)) H')) := by
  intro pins s σ H x y v u Q I rx ry ⟨d, ds, hd, he, sd, se, b, hb, q⟩
  cases hb
  obtain ⟨as, k1⟩ := Dp.reads I d x v hd rx
  obtain ⟨bs, k2⟩ := Dp.reads I _ y u he ry
  have c2 := SeqAt.canLay_of_shaped se
  have room := PyProof.Rows.room_in_shaped (xs := ds) sd hu
  exact SeqAt.notIn_tuple_reads k2 k1 c2 (SeqAt.canLay_of_shaped sd) room ⟨.bl _, H, I, rfl, q⟩

theorem in_seq (R : Rel C γ f H g) {x : Val} {y : Val} {v u : V} {b : Bool} (hx : RB C γ H x v) (hy : RB C γ H y u) (hd : ∀ kvs, y ≠ .dct kvs) (e : cIn x y = some b) :
    ∃ ys, Dp C.K H v x.data ∧ SeqAt.shaped x.data = true ∧ b = (ys.any fun z => PyData.eqv z x.data) ∧
      ((Dp C.K H u (.list ys) ∧ SeqAt.shaped (.list ys) = true) ∨ (Dp C.K H u (.tuple ys) ∧ SeqAt.shaped (.tuple ys) = true)) := by
  cases y with
  | lst ys =>
    simp only [cIn] at e
    split at e
    · rename_i h
      rw [Bool.and_eq_true] at h
      cases e
      refine ⟨Val.datas ys, dpb_of R h.1 hx, shaped_of (by decide) h.1, (any_eqv h.1 h.2).symm, .inl ⟨?_, ?_⟩⟩
      · have := dpb_of (n := 61) R (oks_lst h.2) hy
        simpa [Val.data] using this
      · have := shaped_of (n := 61) (by decide) (oks_lst h.2)
        simpa [Val.data] using this
    · cases e
  | tup ys =>
    simp only [cIn] at e
    split at e
    · rename_i h
      rw [Bool.and_eq_true] at h
      cases e
      refine ⟨Val.datas ys, dpb_of R h.1 hx, shaped_of (by decide) h.1, (any_eqv h.1 h.2).symm, .inr ⟨?_, ?_⟩⟩
      · have := dpb_of (n := 61) R (oks_tup h.2) hy
        simpa [Val.data] using this
      · have := shaped_of (n := 61) (by decide) (oks_tup h.2)
        simpa [Val.data] using this
    · cases e
  | dct kvs => exact (hd kvs rfl).elim
  | _ => cases e

/-! ### functions -/
theorem p1 {α β : Type} {F : α → β → Prop} {as : List α} {y : β} (h : Paired F as [y]) : ∃ a, as = [a] ∧ F a y := by
  cases h with
  | cons h1 h2 => cases h2; exact ⟨_, rfl, h1⟩
/-- one argument -/
def rFn1 (C : Ctx) (F : Val → Option Res) : List V → Hp → VK → Prop := fun xs H Q => ∃ v, xs = [v] ∧ rUn C F v H Q
def rFn2 (C : Ctx) (F : Val → Val → Option Res) : List V → Hp → VK → Prop := fun xs H Q => ∃ v u, xs = [v, u] ∧ rOp C F v u H Q

theorem fn_lenSeq (hK : X.K = C.K) : CallR X (.builtin "len") (rFn1 C fun d => match d with
    | .dct _ => none
    | d => bLen d) := by
  refine CallR.imp (CallR.either call_len_seq call_len_str) fun xs H Q h => ?_
  obtain ⟨v, rfl, γ, f, g, a, r, R, ha, e, y⟩ := h
  cases a with
  | lst ds =>
    cases e
    obtain ⟨p, vs, rfl, h1, h2⟩ := ha.lst
    exact .inl ⟨p, vs, rfl, .inl (by rw [hK]; exact .of h1), by rw [← h2.length]; exact y.val R (rv_int _)⟩
  | tup ds =>
    cases e
    obtain ⟨p, vs, rfl, h1, h2⟩ := ha.tup R
    exact .inl ⟨p, vs, rfl, .inr (by rw [hK]; exact h1), by rw [← h2.length]; exact y.val R (rv_int _)⟩
  | str z =>
    simp only [bLen] at e
    split at e
    · rename_i hl
      cases e
      exact .inr ⟨z, by rw [ha.str], limLe hl, y.val R (rv_int _)⟩
    · cases e
  | _ => cases e
theorem fn_tuple (hK : X.K = C.K) : CallR X (.type "tuple") (rFn1 C bTuple) := by
  refine CallR.imp call_tuple_of fun xs H Q h => ?_
  obtain ⟨v, rfl, γ, f, g, a, r, R, ha, e, y⟩ := h
  cases a with
  | lst ds =>
    cases e
    obtain ⟨p, vs, rfl, h1, h2⟩ := ha.lst
    exact ⟨p, vs, rfl, .inl ⟨by rw [hK]; exact .of h1, fun l hl => y.tup R h2 hl⟩⟩
  | tup ds =>
    cases e
    have ha' := ha
    obtain ⟨p, vs, rfl, h1, h2⟩ := ha.tup R
    exact ⟨p, vs, rfl, .inr ⟨by rw [hK]; exact h1, y.val R ha'⟩⟩
  | _ => cases e
theorem rvs_ints : ∀ (is : List Int), RVs C γ.G γ.ob (is.map Val.int) (is.map V.int)
  | [] => RVs.nil
  | i :: is => .cons (rv_int i) (rvs_ints is)
theorem fn_listSeq (hK : X.K = C.K) : CallR X (.type "list") (rFn1 C fun d => match d with
    | .dct _ => none
    | d => bList d) := by
  refine CallR.imp call_list_of fun xs H Q h => ?_
  obtain ⟨v, rfl, γ, f, g, a, r, R, ha, e, y⟩ := h
  cases a with
  | lst ds =>
    cases e
    obtain ⟨p, vs, rfl, h1, h2⟩ := ha.lst
    exact ⟨p, vs, rfl, .inl (by rw [hK]; exact .of h1), fun l hl => y.lst R h2 hl⟩
  | tup ds =>
    cases e
    obtain ⟨p, vs, rfl, h1, h2⟩ := ha.tup R
    exact ⟨p, vs, rfl, .inr (by rw [hK]; exact h1), fun l hl => y.lst R h2 hl⟩
  | scr is =>
    cases e
    have ha : RV C γ.G γ.ob (.scr is) v := ha
    simp only [RV] at ha
    obtain ⟨p, rfl, h1⟩ := ha
    exact ⟨p, _, rfl, .inl (by rw [hK]; exact R.G.seq h1), fun l hl => y.lst R (rvs_ints is) hl⟩
  | _ => cases e
theorem intsOf_map : ∀ {ds : List Val} {is : List Int}, intsOf ds = some is → ds = is.map Val.int
  | [], is, h => by cases h; rfl
  | d :: ds, is, h => by
    cases d with
    | int i =>
      simp only [intsOf, Option.map_eq_some_iff] at h
      obtain ⟨js, h1, rfl⟩ := h
      rw [intsOf_map h1]; rfl
    | _ => cases h
theorem boolsOf_map : ∀ {ds : List Val} {is : List Bool}, bools ds = some is → ds = is.map Val.bool
  | [], is, h => by cases h; rfl
  | d :: ds, is, h => by
    cases d with
    | bool i =>
      simp only [bools, Option.map_eq_some_iff] at h
      obtain ⟨js, h1, rfl⟩ := h
      rw [boolsOf_map h1]; rfl
    | _ => cases h
theorem rvs_int_eq : ∀ {is : List Int} {vs : List V}, RVs C γ.G γ.ob (is.map Val.int) vs → vs = is.map V.int
  | [], vs, h => by simpa [RVs] using h
  | i :: is, vs, h => by
    simp only [List.map_cons, RVs, RV] at h
    obtain ⟨v, r, rfl, rfl, h2⟩ := h
    rw [rvs_int_eq h2]; rfl
theorem rvs_bool_eq : ∀ {is : List Bool} {vs : List V}, RVs C γ.G γ.ob (is.map Val.bool) vs → vs = is.map V.bl
  | [], vs, h => by simpa [RVs] using h
  | i :: is, vs, h => by
    simp only [List.map_cons, RVs, RV] at h
    obtain ⟨v, r, rfl, rfl, h2⟩ := h
    rw [rvs_bool_eq h2]; rfl
theorem fn_any (hK : X.K = C.K) (hc : X.calm = true) : CallR X (.builtin "any") (rFn1 C bAny) := by
  refine CallR.imp (cr_any hc) fun xs H Q h => ?_
  obtain ⟨v, rfl, γ, f, g, a, r, R, ha, e, y⟩ := h
  cases a with
  | lst ds =>
    simp only [bAny, Option.map_eq_some_iff] at e
    obtain ⟨bs, h0, rfl⟩ := e
    obtain ⟨p, vs, rfl, h1, h2⟩ := ha.lst
    rw [boolsOf_map h0] at h2
    rw [rvs_bool_eq h2] at h1
    exact ⟨p, bs, rfl, by rw [hK]; exact .of h1, y.val R (rv_bool _)⟩
  | _ => cases e
theorem fn_all (hK : X.K = C.K) (hc : X.calm = true) : CallR X (.builtin "all") (rFn1 C bAll) := by
  refine CallR.imp (cr_all hc) fun xs H Q h => ?_
  obtain ⟨v, rfl, γ, f, g, a, r, R, ha, e, y⟩ := h
  cases a with
  | lst ds =>
    simp only [bAll, Option.map_eq_some_iff] at e
    obtain ⟨bs, h0, rfl⟩ := e
    obtain ⟨p, vs, rfl, h1, h2⟩ := ha.lst
    rw [boolsOf_map h0] at h2
    rw [rvs_bool_eq h2] at h1
    exact ⟨p, bs, rfl, by rw [hK]; exact .of h1, y.val R (rv_bool _)⟩
  | _ => cases e
theorem fn_sum (hK : X.K = C.K) (hc : X.calm = true) : CallR X (.builtin "sum") (rFn1 C bSum) := by
  refine CallR.imp (cr_sum hc) fun xs H Q h => ?_
  obtain ⟨v, rfl, γ, f, g, a, r, R, ha, e, y⟩ := h
  cases a with
  | lst ds =>
    simp only [bSum, Option.map_eq_some_iff] at e
    obtain ⟨bs, h0, rfl⟩ := e
    obtain ⟨p, vs, rfl, h1, h2⟩ := ha.lst
    rw [intsOf_map h0] at h2
    rw [rvs_int_eq h2] at h1
    exact ⟨p, bs, rfl, by rw [hK]; exact .of h1, y.val R (rv_int _)⟩
  | _ => cases e
theorem maxI_spec : ∀ {is : List Int} {m : Int}, maxI is = some m → m ∈ is ∧ ∀ y, y ∈ is → y ≤ m := by
  have go : ∀ (xs : List Int) (a : Int), (xs.foldl (fun a b => if b > a then b else a) a = a ∨ xs.foldl (fun a b => if b > a then b else a) a ∈ xs) ∧ a ≤ xs.foldl (fun a b => if b > a then b else a) a ∧ ∀ y ∈ xs, y ≤ xs.foldl (fun a b => if b > a then b else a) a := by
    intro xs
    induction xs with
    | nil => intro a; simp
    | cons x xs ih =>
      intro a
      simp only [List.foldl_cons]
      obtain ⟨h1, h2, h3⟩ := ih (if x > a then x else a)
      refine ⟨?_, ?_, ?_⟩
      · rcases h1 with h1 | h1
        · rw [h1]
          by_cases hx : x > a
          · rw [if_pos hx]; right; simp
          · rw [if_neg hx]; left; rfl
        · right; exact List.mem_cons_of_mem _ h1
      · refine Int.le_trans ?_ h2
        by_cases hx : x > a
        · rw [if_pos hx]; omega
        · rw [if_neg hx]; omega
      · intro y hy
        rcases List.mem_cons.mp hy with rfl | hy
        · refine Int.le_trans ?_ h2
          by_cases hx : y > a
          · rw [if_pos hx]; omega
          · rw [if_neg hx]; omega
        · exact h3 y hy
  intro is m h
  cases is with
  | nil => cases h
  | cons x xs =>
    simp only [maxI, Option.some.injEq] at h
    obtain ⟨h1, h2, h3⟩ := go xs x
    rw [h] at h1 h2 h3
    refine ⟨?_, fun y hy => ?_⟩
    · rcases h1 with h1 | h1
      · rw [h1]; simp
      · exact List.mem_cons_of_mem _ h1
    · rcases List.mem_cons.mp hy with rfl | hy
      · exact h2
      · exact h3 y hy
theorem minI_spec : ∀ {is : List Int} {m : Int}, minI is = some m → m ∈ is ∧ ∀ y, y ∈ is → m ≤ y := by
  have go : ∀ (xs : List Int) (a : Int), (xs.foldl (fun a b => if b < a then b else a) a = a ∨ xs.foldl (fun a b => if b < a then b else a) a ∈ xs) ∧ xs.foldl (fun a b => if b < a then b else a) a ≤ a ∧ ∀ y ∈ xs, xs.foldl (fun a b => if b < a then b else a) a ≤ y := by
    intro xs
    induction xs with
    | nil => intro a; simp
    | cons x xs ih =>
      intro a
      simp only [List.foldl_cons]
      obtain ⟨h1, h2, h3⟩ := ih (if x < a then x else a)
      refine ⟨?_, ?_, ?_⟩
      · rcases h1 with h1 | h1
        · rw [h1]
          by_cases hx : x < a
          · rw [if_pos hx]; right; simp
          · rw [if_neg hx]; left; rfl
        · right; exact List.mem_cons_of_mem _ h1
      · refine Int.le_trans h2 ?_
        by_cases hx : x < a
        · rw [if_pos hx]; omega
        · rw [if_neg hx]; omega
      · intro y hy
        rcases List.mem_cons.mp hy with rfl | hy
        · refine Int.le_trans h2 ?_
          by_cases hx : y < a
          · rw [if_pos hx]; omega
          · rw [if_neg hx]; omega
        · exact h3 y hy
  intro is m h
  cases is with
  | nil => cases h
  | cons x xs =>
    simp only [minI, Option.some.injEq] at h
    obtain ⟨h1, h2, h3⟩ := go xs x
    rw [h] at h1 h2 h3
    refine ⟨?_, fun y hy => ?_⟩
    · rcases h1 with h1 | h1
      · rw [h1]; simp
      · exact List.mem_cons_of_mem _ h1
    · rcases List.mem_cons.mp hy with rfl | hy
      · exact h2
      · exact h3 y hy
theorem maxI_uniq {is : List Int} {m n : Int} (h : maxI is = some m) (h1 : n ∈ is) (h2 : ∀ y, y ∈ is → y ≤ n) : n = m := by
  obtain ⟨q1, q2⟩ := maxI_spec h
  have := h2 m q1
  have := q2 n h1
  omega
theorem minI_uniq {is : List Int} {m n : Int} (h : minI is = some m) (h1 : n ∈ is) (h2 : ∀ y, y ∈ is → n ≤ y) : n = m := by
  obtain ⟨q1, q2⟩ := minI_spec h
  have := h2 m q1
  have := q2 n h1
  omega
theorem fn_maxL (hK : X.K = C.K) (hc : X.calm = true) : CallR X (.builtin "max") (rFn1 C fun d => match d with
    | .lst _ => bMax d
    | _ => none) := by
  refine CallR.imp (cr_max hc) fun xs H Q h => ?_
  obtain ⟨v, rfl, γ, f, g, a, r, R, ha, e, y⟩ := h
  cases a with
  | lst ds =>
    simp only [bMax, Option.bind_eq_some_iff, Option.map_eq_some_iff] at e
    obtain ⟨is, h0, i, h00, rfl⟩ := e
    obtain ⟨p, vs, rfl, h1, h2⟩ := ha.lst
    rw [intsOf_map h0] at h2
    rw [rvs_int_eq h2] at h1
    exact ⟨p, is, rfl, by rw [hK]; exact .of h1, List.length_pos_of_mem (maxI_spec h00).1, fun n n1 n2 => by rw [maxI_uniq h00 n1 n2]; exact y.val R (rv_int _)⟩
  | _ => cases e
theorem fn_minL (hK : X.K = C.K) (hc : X.calm = true) : CallR X (.builtin "min") (rFn1 C fun d => match d with
    | .lst _ => bMin d
    | _ => none) := by
  refine CallR.imp (cr_min hc) fun xs H Q h => ?_
  obtain ⟨v, rfl, γ, f, g, a, r, R, ha, e, y⟩ := h
  cases a with
  | lst ds =>
    simp only [bMin, Option.bind_eq_some_iff, Option.map_eq_some_iff] at e
    obtain ⟨is, h0, i, h00, rfl⟩ := e
    obtain ⟨p, vs, rfl, h1, h2⟩ := ha.lst
    rw [intsOf_map h0] at h2
    rw [rvs_int_eq h2] at h1
    exact ⟨p, is, rfl, by rw [hK]; exact .of h1, List.length_pos_of_mem (minI_spec h00).1, fun n n1 n2 => by rw [minI_uniq h00 n1 n2]; exact y.val R (rv_int _)⟩
  | _ => cases e
theorem fn_max2 (hc : X.calm = true) : CallR X (.builtin "max") (rFn2 C bMax2) := by
  refine CallR.imp (call_max2 hc) fun xs H Q h => ?_
  obtain ⟨v, u, rfl, γ, f, g, a, b, r, R, ha, hb, e, y⟩ := h
  cases a <;> cases b <;> cases e
  exact ⟨_, _, by rw [ha.int, hb.int], y.val R (rv_int _)⟩
theorem fn_min2 (hc : X.calm = true) : CallR X (.builtin "min") (rFn2 C bMin2) := by
  refine CallR.imp (call_min2 hc) fun xs H Q h => ?_
  obtain ⟨v, u, rfl, γ, f, g, a, b, r, R, ha, hb, e, y⟩ := h
  cases a <;> cases b <;> cases e
  exact ⟨_, _, by rw [ha.int, hb.int], y.val R (rv_int _)⟩
theorem fn_abs : CallR X (.builtin "abs") (rFn1 C bAbs) := by
  refine CallR.imp call_abs fun xs H Q h => ?_
  obtain ⟨v, rfl, γ, f, g, a, r, R, ha, e, y⟩ := h
  cases a <;> cases e
  exact ⟨_, by rw [ha.int], y.val R (rv_int _)⟩
theorem fn_int : CallR X (.type "int") (rFn1 C bInt) := by
  refine CallR.imp call_int1 fun xs H Q h => ?_
  obtain ⟨v, rfl, γ, f, g, a, r, R, ha, e, y⟩ := h
  cases a <;> cases e
  · exact .inr ⟨_, by rw [ha.bool], y.val R (rv_int _)⟩
  · exact .inl ⟨_, by rw [ha.int], y.val R (rv_int _)⟩
theorem fn_str : CallR X (.type "str") (rFn1 C bStr) := by
  refine CallR.imp call_str_int fun xs H Q h => ?_
  obtain ⟨v, rfl, γ, f, g, a, r, R, ha, e, y⟩ := h
  cases a <;> simp only [bStr] at e <;> (try cases e)
  split at e
  · rename_i hl
    cases e
    exact ⟨_, by rw [ha.int], hl, y.val R (rv_str _)⟩
  · cases e

/-! ### subscripts -/
theorem atI_get2 {ds : List Val} {vs : List V} {i : Int} {d : Val} (h : RVs C γ.G γ.ob ds vs) (e : atV ds i = some d) : ∃ v, atI vs i = some v ∧ RV C γ.G γ.ob d v := by
  unfold atV atI at e
  cases q : ixN ds.length i with
  | none => rw [q] at e; cases e
  | some j =>
    rw [q] at e
    obtain ⟨v, e1, e2⟩ := h.get e
    refine ⟨v, ?_, e2⟩
    unfold atI
    rw [← h.length, q]
    exact e1
/-- lists, tuples, texts by a number -/
def indexS : Val → Val → Option Res
  | .lst xs, .int i => (atV xs i).map .val
  | .tup xs, .int i => (atV xs i).map .val
  | .str s, .int i => if s.length ≤ lim then (atV s.cps.toList i).map fun c => .val (.str ⟨#[c]⟩) else none
  | _, _ => none
theorem IxR.imp {r r' : R2} (h : IxR X r) (hi : ∀ x y H Q, r' x y H Q → r x y H Q) : IxR X r' := fun a b pins s σ H x y v u Q I rx ry q hs => h a b pins s σ H x y v u Q I rx ry (hi x y H Q q) hs
theorem ix_seq (hK : X.K = C.K) : IxR X (rOp C indexS) := by
  refine IxR.imp (IxR.or ix_list (IxR.or ix_tup ix_str)) fun x y H Q h => ?_
  obtain ⟨γ, f, g, a, b, r, R, ha, hb, e, y'⟩ := h
  cases a with
  | lst xs =>
    cases b with
    | int i =>
      simp only [indexS, Option.map_eq_some_iff] at e
      obtain ⟨d, e, rfl⟩ := e
      obtain ⟨p, vs, rfl, h1, h2⟩ := ha.lst
      obtain ⟨v, e1, rv⟩ := atI_get2 h2 e
      exact .inl ⟨p, vs, i, v, rfl, hb.int, by rw [hK]; exact .of h1, e1, y'.val R rv⟩
    | _ => cases e
  | tup xs =>
    cases b with
    | int i =>
      simp only [indexS, Option.map_eq_some_iff] at e
      obtain ⟨d, e, rfl⟩ := e
      obtain ⟨p, vs, rfl, h1, h2⟩ := ha.tup R
      obtain ⟨v, e1, rv⟩ := atI_get2 h2 e
      exact .inr (.inl ⟨p, vs, i, v, rfl, hb.int, by rw [hK]; exact h1, e1, y'.val R rv⟩)
    | _ => cases e
  | str z =>
    cases b with
    | int i =>
      simp only [indexS] at e
      split at e
      · rename_i hl
        simp only [Option.map_eq_some_iff] at e
        obtain ⟨c, e, rfl⟩ := e
        exact .inr (.inr ⟨z, i, c, ha.str, hb.int, limLe hl, e, y'.val R (rv_str _)⟩)
      · cases e
    | _ => cases e
  | _ => cases b <;> cases e

/-! ### slices -/
theorem SlR.imp {r r' : V → Option Int → Option Int → Hp → VK → Prop} (h : SlR X r) (hi : ∀ x lo up H Q, r' x lo up H Q → r x lo up H Q) : SlR X r' := fun pins s σ H x v vl vu lo up sl Q I rx hs p1 p2 q => h pins s σ H x v vl vu lo up sl Q I rx hs p1 p2 (hi x lo up H Q q)
def rCut (C : Ctx) : V → Option Int → Option Int → Hp → VK → Prop := fun x lo up H Q => ∃ γ f g a r, Rel C γ f H g ∧ RB C γ H a x ∧ cut a lo up = some r ∧ Yield C γ f g r Q
theorem sl_seq (hK : X.K = C.K) : SlR X (rCut C) := by
  refine SlR.imp (SlR.or sl_list sl_tupA) fun x lo up H Q h => ?_
  obtain ⟨γ, f, g, a, r, R, ha, e, y⟩ := h
  cases a with
  | lst xs =>
    cases e
    obtain ⟨p, vs, rfl, h1, h2⟩ := ha.lst
    refine .inl ⟨p, vs, rfl, by rw [hK]; exact .of h1, fun z hz => y.lst R ?_ hz⟩
    unfold cutL cutV
    rw [h2.length]
    exact (h2.drop _).take _
  | tup xs =>
    cases e
    have ha' := ha
    obtain ⟨p, vs, rfl, h1, h2⟩ := ha.tup R
    refine .inr ⟨p, vs, rfl, by rw [hK]; exact h1, fun hw => ?_, fun _ z hz => y.tup R ?_ hz⟩
    · have e1 : cutL xs lo up = xs := by
        unfold cutL
        rw [h2.length, hw.1, hw.2, ← h2.length]
        simp
      rw [e1] at y
      exact y.val R ha'
    · unfold cutL cutV
      rw [h2.length]
      exact (h2.drop _).take _
  | _ => cases e
end
end Iv

/-! Iv: sorting data. -/
namespace Iv
open PySem PySem.Calls PyProof.Rows PySem.SeqAt PySem.W

section
variable {prog : Program} {w : World} {A : Around} {E : Value → Shared → Prop} {s : Shared}
/-- tuple's own __lt__, as sorting calls it -/
theorem tup_lt_call {Q : Value → Shared → Prop} {l b : Addr} {items items2 : Array Value} {e r : Nat → Bool} (hl : s.heap.IsTuple l items) (hb : s.heap.IsTuple b items2)
    (he : ∀ j (h1 : j < items.size) (h2 : j < items2.size), EqAt A.in1 s items[j] items2[j] (e j)) (hr : ∀ j (h1 : j < items.size) (h2 : j < items2.size), e j = false → RcLt A.in1 s items[j] items2[j] (r j))
    (hq : Q (.bool (firstLt e r (decide (items.size < items2.size)) (List.range (min items.size items2.size)))) s) : wpAny (model prog w) A (call (.builtin "tuple.__lt__") [.ref l, .ref b]) Q E s := by
  obtain ⟨⟨k1, d1, t1, z1⟩, g1, rfl, n1, rfl⟩ := id hl
  obtain ⟨⟨k2, d2, t2, z2⟩, g2, rfl, n2, rfl⟩ := id hb
  exact call_meets F.slot_tuple_lt ⟨_, g1, rfl⟩ F.entry_tuple_lt (F.args_tuple_lt_2 _ _) (tuple_ltAt l b items items2 n1 n2 d1 d2 z1 z2 e r) ⟨g1, g2, he, hr, hq⟩
theorem oneLt_tup {xs ys : List PyData} {a b : Value} {as bs : List Addr} {Q : Bool → Shared → Prop} (ra : Reads s.heap a (.tuple xs) as) (rb : Reads s.heap b (.tuple ys) bs) (h : alikeAll xs ys = true)
    (hu : A.units + min (PyData.tuple xs).depth (PyData.tuple ys).depth < cLine) (hq : Q (dataLt (.tuple xs) (.tuple ys)) s) : wpAny (model prog w) A (oneLt' true a b) Q E s := by
  cases ra with
  | @tuple l o vs n _ as₁ h1 h2 h3 h4 =>
    cases rb with
    | @tuple l' o' vs' n' _ bs₁ k1 k2 k3 k4 =>
      have n1 : vs.size = xs.length := by simpa using ReadsAll.length _ _ _ h4
      have n2 : vs'.size = ys.length := by simpa using ReadsAll.length _ _ _ k4
      rw [dataLt_tuple, ← firstLt_toks xs ys h, ← n1, ← n2] at hq
      rw [oneLt'_eq, if_pos rfl]
      refine wpAny_bind (wpAny_cRoomFor (room_here hu) (wpAny_bind (wpAny_callSpecialIfBound?_slot (T := "tuple") ⟨_, h1, h2⟩ F.slot_tuple_lt ?_)))
      refine tup_lt_call (e := pairEq xs ys) (r := fun j => dataLt (xs.getD j .none) (ys.getD j .none)) ⟨_, h1, h2, _, h3⟩ ⟨_, k1, k2, _, k3⟩ (fun j j1 j2 => ?_) (fun j j1 j2 hj => ?_) (wpAny_truthy_bool hq)
      · have q := eqAt_alikeAll xs ys A.in1 s vs.toList vs'.toList _ _ h4 k4 h (room_in hu) j (by simpa using j1) (by simpa using j2)
        rwa [Array.getElem_toList, Array.getElem_toList] at q
      · have q := rcLt_alikeAll xs ys A.in1 s vs.toList vs'.toList _ _ h4 k4 h (room_in hu) j (by simpa using j1) (by simpa using j2) hj
        rwa [Array.getElem_toList, Array.getElem_toList] at q

/-- what firstOfTuple' says of a tuple of data -/
theorem first_tup {M : Model} {v : Value} {xs : List PyData} {as : List Addr} {Q : Option Value → Shared → Prop} (r : Reads s.heap v (.tuple xs) as) (h : ∀ f : Option Value, f.isSome = !xs.isEmpty → Q f s) : wpAny M A (firstOfTuple' v) Q E s := by
  cases r with
  | @tuple a o ys n _ as₁ ho hc hd hr =>
    rw [kas_first_eq]
    refine wpAny_bind (Looks.here (show Looks M s.heap (typeOf (.ref a)) o.cls from (Looks.ld ho).andThen .now) ?_)
    rw [hc, if_neg (by decide)]
    refine wpAny_bind (listItems_at ho hd (wpAny_pure (h _ ?_)))
    have e : ys.size = xs.length := by simpa using ReadsAll.length _ _ _ hr
    cases xs with
    | nil =>
      have : ys.size = 0 := by simpa using e
      simp [this]
    | cons x xs =>
      have : 0 < ys.size := by rw [e]; simp
      simp [this]
theorem firsts_tup {M : Model} : ∀ (vs : List Value) (ds : List PyData) {Q : List (Option Value) → Shared → Prop}, EachIs (fun v d => ∃ as, Reads s.heap v d as) vs ds → (∀ d ∈ ds, ∃ xs, d = .tuple xs) →
    (∀ fs : List (Option Value), fs.map (·.isSome) = ds.map (fun d => match d with | .tuple xs => !xs.isEmpty | _ => false) → Q fs s) → wpAny M A (vs.mapM firstOfTuple') Q E s
  | [], [], _, _, _, h => by rw [List.mapM_nil]; exact wpAny_pure (h [] rfl)
  | v :: vs, d :: ds, Q, e, ht, h => by
    cases e with
    | cons h1 h2 =>
      obtain ⟨as, r⟩ := h1
      obtain ⟨xs, rfl⟩ := ht d List.mem_cons_self
      rw [List.mapM_cons]
      refine wpAny_bind (first_tup r fun f hf => wpAny_bind ?_)
      refine firsts_tup vs ds h2 (fun d hd => ht d (List.mem_cons_of_mem _ hd)) fun fs hfs => wpAny_pure (h (f :: fs) ?_)
      rw [List.map_cons, List.map_cons, hfs, hf]
/-- tuples of alike data, empty ones too -/
theorem sortsAt_tups {vs : List Value} {ds : List PyData} (e : EachIs (fun v d => ∃ as, Reads s.heap v d as) vs ds) (hal : AllAlike ds) (ht : ∀ d ∈ ds, ∃ xs, d = .tuple xs) (hu : ∀ d, d ∈ ds → A.units + d.depth < cLine) : ∃ κ : PyProof.Rows.KeyKind, κ = dataKind s.heap ds ∧ SortsAt prog w A s κ vs := by
  refine ⟨_, rfl, ?_⟩
  by_cases hall : ∀ d ∈ ds, ∃ x r, d = .tuple (x :: r)
  · exact SortsAt.data e hal (.inl hall) hu
  have room : ∀ {d d' : PyData}, d ∈ ds → A.units + min d.depth d'.depth < cLine := fun {d d'} hd => Nat.lt_of_le_of_lt (Nat.add_le_add_left (Nat.min_le_left _ _) _) (hu d hd)
  refine ⟨fun v hv => ?_, ?_⟩
  · obtain ⟨d, hd, as, r⟩ := e.left v hv
    exact ⟨_, dataKind_some hal hd r⟩
  have nall : ∀ fs : List (Option Value), fs.map (·.isSome) = ds.map (fun d => match d with | .tuple xs => !xs.isEmpty | _ => false) → (fs.toArray.all fun x => x.isSome) = false := by
    intro fs hfs
    cases hb : (fs.toArray.all fun x => x.isSome) with
    | false => rfl
    | true =>
      exfalso
      refine hall fun d hd => ?_
      obtain ⟨xs, rfl⟩ := ht d hd
      have : (!xs.isEmpty) ∈ ds.map (fun d => match d with | .tuple xs => !xs.isEmpty | _ => false) := List.mem_map.mpr ⟨_, hd, rfl⟩
      rw [← hfs] at this
      obtain ⟨f, hf, ef⟩ := List.mem_map.mp this
      have hb' : ∀ x ∈ fs, x.isSome = true := by simpa using hb
      rw [hb' f hf] at ef
      cases xs with
      | nil => simp at ef
      | cons x r => exact ⟨x, r, rfl⟩
  cases hds : ds with
  | nil =>
    subst hds
    exact absurd (fun d hd => absurd hd (by simp)) hall
  | cons d₀ ds₀ =>
    obtain ⟨xs₀, e₀⟩ := ht d₀ (by rw [hds]; exact List.mem_cons_self)
    rw [← hds]
    cases h0 : xs₀ with
    | cons x₀ r₀ =>
      refine ⟨general', ?_, fun h2 E Q hq => ?_⟩
      · intro E x y a b Q ha hb hq
        obtain ⟨d, as, hd, ra, rfl⟩ := dataKind_inv ha
        obtain ⟨d', as', hd', rb, rfl⟩ := dataKind_inv hb
        obtain ⟨xs, rfl⟩ := ht d hd
        show wpAny _ _ (oneLt' false x y) _ _ _
        exact oneLt_alike (fun z => by cases z) ra rb (hal _ hd _ hd') (by intro z; cases z) (room hd) hq
      · rw [keyKind'_eq, List.mapM_toArray, map_eq_pure_bind]
        refine wpAny_bind (wpAny_bind (firsts_tup vs ds e ht fun fs hfs => wpAny_pure ?_))
        rw [if_neg (by rw [nall fs hfs]; decide)]
        have hf0 : (fs.toArray[0]?.bind id).isSome = true := by
          rw [hds, e₀, h0] at hfs
          cases fs with
          | nil => cases hfs
          | cons f fr =>
            have : f.isSome = true := by simpa using (List.cons.inj hfs).1
            simpa using this
        rw [if_pos hf0]
        exact wpAny_pure hq
    | nil =>
      refine ⟨oneType', ?_, fun h2 E Q hq => ?_⟩
      · intro E x y a b Q ha hb hq
        obtain ⟨d, as, hd, ra, rfl⟩ := dataKind_inv ha
        obtain ⟨d', as', hd', rb, rfl⟩ := dataKind_inv hb
        obtain ⟨xs, rfl⟩ := ht d hd
        obtain ⟨ys, rfl⟩ := ht d' hd'
        rw [keyLt'_oneType]
        exact oneLt_tup ra rb (by simpa [alike] using hal _ hd _ hd') (room hd) hq
      · rw [keyKind'_eq, List.mapM_toArray, map_eq_pure_bind]
        refine wpAny_bind (wpAny_bind (firsts_tup vs ds e ht fun fs hfs => wpAny_pure ?_))
        rw [if_neg (by rw [nall fs hfs]; decide)]
        have hf0 : ¬ (fs.toArray[0]?.bind id).isSome = true := by
          rw [hds, e₀, h0] at hfs
          cases fs with
          | nil => cases hfs
          | cons f fr =>
            have : f.isSome = false := by simpa using (List.cons.inj hfs).1
            simpa using this
        rw [if_neg hf0, oneTypeOnly'_eq, List.mapM_toArray, map_eq_pure_bind]
        refine wpAny_bind (wpAny_bind (wpAny_bind (kas_mapM (r := Value.type "tuple") _ (fun v hv Q' hq' => ?_) (wpAny_pure ?_))))
        · obtain ⟨d, hd, as, r⟩ := e.left v hv
          obtain ⟨xs, rfl⟩ := ht d hd
          exact (looks_reads r).here hq'
        have hl : 0 < vs.length := by omega
        have h1 : (List.map (fun _ => Value.type "tuple") vs).toArray[0]? = some (Value.type "tuple") := by
          cases vs with
          | nil => simp at hl
          | cons v vs => simp
        rw [h1]
        have h2 : ((List.map (fun _ => Value.type "tuple") vs).toArray.all fun x => x == Value.type "tuple") = true := by
          simp only [List.all_toArray, List.all_map, List.all_eq_true]
          intro _ _
          rfl
        simp only [h2, if_true]
        exact wpAny_pure (wpAny_pure hq)
/-- alike data, no None -/
theorem sortsAt_data {vs : List Value} {ds : List PyData} (e : EachIs (fun v d => ∃ as, Reads s.heap v d as) vs ds) (hal : AllAlike ds) (hn : ∀ d ∈ ds, d ≠ .none) (hu : ∀ d, d ∈ ds → A.units + d.depth < cLine) : SortsAt prog w A s (dataKind s.heap ds) vs := by
  by_cases h : ∃ xs, PyData.tuple xs ∈ ds
  · obtain ⟨xs, hx⟩ := h
    obtain ⟨κ, rfl, q⟩ := sortsAt_tups (prog := prog) (w := w) (A := A) e hal (fun d hd => by
      have q := hal _ hx _ hd
      cases d with
      | tuple ys => exact ⟨ys, rfl⟩
      | _ => exact absurd q (by simp [alike])) hu
    exact q
  · exact SortsAt.data e hal (.inr fun d hd => ⟨hn d hd, fun xs z => h ⟨xs, z ▸ hd⟩⟩) hu
/-- xs.sort() of a new list -/
theorem sort_new {bs : List Val} {vs : List Value} {R : Value → Val → Prop} {Q : Value → Shared → Prop} (e : EachIs R vs bs) (er : EachIs (fun v b => ∃ as, Reads s.heap v (Val.data b) as) vs bs) (hal : AllAlike (bs.map Val.data)) (hn : ∀ b ∈ bs, b.data ≠ .none) (hL : bs.length ≤ sizeLine)
    (hu : ∀ b, b ∈ bs → A.units + 1 + (Val.data b).depth < cLine) (h : ∀ out c h', (∀ b o, s.heap.get? b = some o → h'.get? b = some o) → h'.get? s.heap.objs.size = some (seqObj "list" (List.toArray out) c) → EachIs R out (bs.mergeSort Val.le) → Q .none { s with heap := h' }) :
    wpAny (model prog w) A (call (.builtin "list.sort") [.ref s.heap.objs.size]) Q E { s with heap := s.heap.push (seqObj "list" vs.toArray 0) } := by
  have ho : (s.heap.push (seqObj "list" vs.toArray 0)).get? s.heap.objs.size = some (seqObj "list" vs.toArray 0) := Heap.get?_push_size _ rfl
  have old : ∀ b o, s.heap.get? b = some o → (sortingHeap (s.heap.push (seqObj "list" vs.toArray 0)) s.heap.objs.size vs).get? b = some o := fun b o q => sortingHeap_old (Nat.ne_of_lt (Heap.lt_size q)) (Heap.get?_push_of_some _ q)
  have er' : EachIs (fun v b => ∃ as, Reads (sortingHeap (s.heap.push (seqObj "list" vs.toArray 0)) s.heap.objs.size vs) v (Val.data b) as) vs bs := er.mono fun _ _ ⟨as, r⟩ => ⟨as, PyProof.Rows.Reads.keeps old r⟩
  refine wpAny_call_entry slot_list_sort ⟨_, ho, rfl⟩ entry_list_sort (list_sort_vals (s := { s with heap := s.heap.push (seqObj "list" vs.toArray 0) }) (κ := dataKind (sortingHeap (s.heap.push (seqObj "list" vs.toArray 0)) s.heap.objs.size vs) (bs.map Val.data)) ho
    (sortsAt_data (each_map (R := fun v d => ∃ as, Reads (sortingHeap (s.heap.push (seqObj "list" vs.toArray 0)) s.heap.objs.size vs) v d as) Val.data er') hal (fun d hd => ?_) fun d hd => ?_) (by rw [e.length]; exact hL) ⟨.none, rfl, ?_⟩) (args_list_sort _)
  · obtain ⟨b, hb, rfl⟩ := List.mem_map.mp hd
    exact hn b hb
  · obtain ⟨b, hb, rfl⟩ := List.mem_map.mp hd
    have q := hu b hb
    show A.in1.units + _ < _
    rw [Around.in1_units]
    exact q
  · obtain ⟨c, hc⟩ := sortedHeap_at (vs := vs) (out := (sortVals (dataKind (sortingHeap (s.heap.push (seqObj "list" vs.toArray 0)) s.heap.objs.size vs) (bs.map Val.data)) false vs vs).toArray) ho
    refine h _ c _ (fun b o q => ?_) hc (sortVals_data (enc := Val.data) false e er' hal)
    have hlt := Heap.lt_size q
    rw [sortedHeap_old (Nat.ne_of_lt hlt) (by rw [size_push']; exact Nat.lt_succ_of_lt hlt)]
    exact Heap.get?_push_of_some _ q
/-- sorted(x), x what can be gathered -/
theorem sorted_gen {x : Value} {P : List Value → Shared → Prop} {R : Value → Val → Prop} {Q : Value → Shared → Prop} (hcol : wpAny (model prog w) A.in1 (collect x) P (fun e s' => E e s') s)
    (hP : ∀ vs s1, P vs s1 → ∃ bs : List Val, EachIs R vs bs ∧ EachIs (fun v b => ∃ as, Reads s1.heap v (Val.data b) as) vs bs ∧ AllAlike (bs.map Val.data) ∧ (∀ b ∈ bs, b.data ≠ .none) ∧ bs.length ≤ sizeLine ∧ (∀ b ∈ bs, A.units + 2 + (Val.data b).depth < cLine) ∧
      ∀ out c h', (∀ b o, s1.heap.get? b = some o → h'.get? b = some o) → h'.get? s1.heap.objs.size = some (seqObj "list" (List.toArray out) c) → EachIs R out (bs.mergeSort Val.le) → Q (.ref s1.heap.objs.size) { s1 with heap := h' }) :
    wpAny (model prog w) A (call (.builtin "sorted") [x]) Q E s := by
  refine Calls.call_function_entry kind_sorted plain_sorted entry_sorted (args_sorted1 _) ?_
  unfold Builtin.«sorted»
  refine wpAny_bind (m := checkCount "sorted" 1 1 _) (wpAny_pure ?_)
  refine wpAny_bind (wpAny_mono hcol (fun vs s1 hp => ?_) fun _ _ z => z)
  obtain ⟨bs, e, er, hal, hn, hL, hu, k⟩ := hP vs s1 hp
  refine wpAny_bind (wpAny_newList ?_ (by rw [e.length]; exact hL))
  refine wpAny_bind (wpAny_holding (sort_new (A := A.in1) e er hal hn hL (fun b hb => ?_) fun out c h' h1 h2 h3 => ?_))
  · rw [Around.in1_units]
    have := hu b hb
    omega
  · exact wpAny_pure ⟨_, rfl, k out c h' h1 h2 h3⟩
end

section
open L2
variable {X : Cx} {C : Ctx} {γ : Gh} {f : Fs} {g : Glob} {H : Hp}
/-- a value and what it stands for -/
def Stands (C : Ctx) (γ : Gh) (v : Value) (d : Val) : Prop := ∃ x, RelV x v ∧ RV C γ.G γ.ob d x
theorem stands_of : ∀ {ds : List Val} {xs : List V} {us : List Value}, RVs C γ.G γ.ob ds xs → Vals xs us → EachIs (Stands C γ) us ds
  | [], xs, us, h, r => by
    simp only [RVs] at h
    subst h
    cases r
    exact .nil
  | d :: ds, xs, us, h, r => by
    simp only [RVs] at h
    obtain ⟨v, q, rfl, h1, h2⟩ := h
    cases r with
    | cons r1 r2 => exact .cons ⟨v, r1, h1⟩ (stands_of h2 r2)
theorem of_stands : ∀ {ds : List Val} {us : List Value}, EachIs (Stands C γ) us ds → ∃ xs, Vals xs us ∧ RVs C γ.G γ.ob ds xs
  | _, _, .nil => ⟨[], .nil, RVs.nil⟩
  | _, _, .cons ⟨x, h1, h2⟩ t => by
    obtain ⟨xs, q1, q2⟩ := of_stands t
    exact ⟨x :: xs, .cons h1 q1, .cons h2 q2⟩
theorem sortOk_iff {ds : List Val} (h : sortOk ds = true) : (∀ d ∈ ds, Val.ok 60 d = true) ∧ (∀ d ∈ ds, isNon d = false) ∧ (∀ a ∈ ds, ∀ b ∈ ds, Val.alike a b = true) ∧ ds.length ≤ 1000000 := by
  simp only [sortOk, Bool.and_eq_true, List.all_eq_true, decide_eq_true_eq, Bool.not_eq_true'] at h
  exact ⟨fun d hd => (h.1 d hd).1.1, fun d hd => (h.1 d hd).1.2, fun a ha b hb => (h.1 a ha).2 b hb, h.2⟩
/-- what sorting wants, of data -/
theorem sort_data_ok {pins : List (Addr × PySem.Obj)} {σ : L2.St} {s : Shared} {ds : List Val} {us : List Value} (hK : X.K = C.K) (hu : X.A.units + 65 < cLine) (I : L2.Inv X pins σ H s) (R : Rel C γ f H g) (e : EachIs (Stands C γ) us ds) (hs : sortOk ds = true) :
    EachIs (fun v b => ∃ as, Reads s.heap v (Val.data b) as) us ds ∧ AllAlike (ds.map Val.data) ∧ (∀ b ∈ ds, b.data ≠ .none) ∧ ds.length ≤ sizeLine ∧ ∀ b ∈ ds, X.A.units + 2 + (Val.data b).depth < cLine := by
  obtain ⟨h1, h2, h3, h4⟩ := sortOk_iff hs
  refine ⟨(each_mem e).mono fun v d ⟨⟨x, r, q⟩, hd⟩ => Dp.reads I _ x v (by rw [hK]; exact dp_of R d x (h1 d hd) q) r, fun a ha b hb => ?_, fun b hb z => ?_, by rw [sizeLine_eq]; omega, fun b hb => ?_⟩
  · obtain ⟨a', ha', rfl⟩ := List.mem_map.mp ha
    obtain ⟨b', hb', rfl⟩ := List.mem_map.mp hb
    exact h3 a' ha' b' hb'
  · have q1 := h1 b hb
    have q2 := h2 b hb
    cases b <;> simp [Val.data, Val.ok, isNon] at z q1 q2
  · have := (ok_depth 60 b (h1 b hb)).2
    omega
theorem cr_sortData (hK : X.K = C.K) (hu : X.A.units + 65 < cLine) : CallR X (.builtin "sorted") (rFn1 C bSorted) := by
  intro pins s σ H xs us Q I r h
  obtain ⟨v, rfl, γ, f, g, a, res, R, ha, e, y⟩ := h
  have go : ∀ (l : Addr) (ds : List Val) (vs : List V) (its : List Value) (T : String) (hT : T = "list" ∨ T = "tuple"), a = .lst ds ∨ a = .tup ds → RVs C γ.G γ.ob ds vs → Vals vs its → (∃ o n, s.heap.get? l = some o ∧ o.cls = .type T ∧ o.data = .seq its.toArray n) → its.length ≤ sizeLine →
      wpAny (model X.prog X.w) X.A (call (.builtin "sorted") [.ref l]) (EP X pins σ Q) X.xe s := by
    intro l ds vs its T hT hads rv hv ⟨o, n, ho, hc, hd⟩ hz
    have e' : (sortV ds).map (fun ys => Res.new (.lst ys)) = some res := by
      rcases hads with rfl | rfl <;> exact e
    simp only [sortV, Option.map_eq_some_iff] at e'
    obtain ⟨ys, e1, rfl⟩ := e'
    split at e1
    · rename_i hs
      cases e1
      refine sorted_gen (R := Stands C γ) (P := fun us s1 => us = its ∧ ∃ h', (∀ b o', s.heap.get? b = some o' → h'.get? b = some o') ∧ s1 = { s with heap := h' }) (wpAny_collect_seq l hT ho hc hd (fun h' k => ⟨by simp, h', k, rfl⟩) (by simpa using hz)) fun us s1 ⟨e1, h', k, e2⟩ => ?_
      subst e1 e2
      have I1 : L2.Inv X pins σ H { s with heap := h' } := I.kept (t' := s.toks) k
      obtain ⟨q1, q2, q3, q4, q5⟩ := sort_data_ok hK hu I1 R (stands_of rv hv) hs
      refine ⟨ds, stands_of rv hv, q1, q2, q3, q4, q5, fun out c h2 k2 hp eo => ?_⟩
      obtain ⟨zs, hz1, hz2⟩ := of_stands eo
      have hn : H h'.objs.size = none := I1.hok.fresh (Nat.le_refl _)
      have hl : zs.length ≤ sizeLine := by
        rw [← hz2.length, List.length_mergeSort]
        exact q4
      refine ⟨.ref h'.objs.size, upd H h'.objs.size (.lst zs), I1.laid (t' := s.toks) k2 (Nat.le_refl _) ⟨hl, out, c, hz1, hp⟩, rfl, y.lst R hz2 hn⟩
    · cases e1
  cases a with
  | lst ds =>
    obtain ⟨p, vs, rfl, h1, h2⟩ := ha.lst
    rw [Vals.ref1 r]
    obtain ⟨its, rv, pl, hz⟩ := I.list (SqL.of h1)
    obtain ⟨o, ho, hc, n, hd⟩ := pl.isList
    exact go p ds vs its "list" (.inl rfl) (.inl rfl) h2 rv ⟨o, n, ho, hc, hd⟩ (rv.length ▸ hz)
  | tup ds =>
    obtain ⟨p, vs, rfl, h1, h2⟩ := ha.tup R
    rw [Vals.ref1 r]
    obtain ⟨its, rv, ⟨o, ho, hc, n, hd⟩, hz⟩ := I.tuple (by rw [hK]; exact h1)
    exact go p ds vs its "tuple" (.inr rfl) (.inr rfl) h2 rv ⟨o, n, ho, hc, hd⟩ (rv.length ▸ hz)
  | _ => cases e
end
end Iv

/-! Iv: the order of data, equality of data, in plain words. -/
namespace Iv
open PySem

theorem le_trans {a b c : Val} (h1 : Val.le a b = true) (h2 : Val.le b c = true) : Val.le a c = true := by
  simp only [Val.le, Bool.not_eq_true', Val.lt] at *
  cases h : PySem.W.dataLt c.data a.data with
  | false => rfl
  | true =>
    rcases PyProof.Rows.lex_negTrans (O := PyProof.Rows.itemOrd) _ (PySem.W.keyToks b.data) _ h with q | q
    · exact absurd (show PySem.W.dataLt c.data b.data = true from q) (by rw [h2]; decide)
    · exact absurd (show PySem.W.dataLt b.data a.data = true from q) (by rw [h1]; decide)
theorem lt_irrefl (a : Val) : Val.lt a a = false := PyProof.Rows.lex_irrefl (O := PyProof.Rows.itemOrd) _
theorem lt_asymm {a b : Val} (h : Val.lt a b = true) : Val.lt b a = false := by
  cases h2 : Val.lt b a with
  | false => rfl
  | true =>
    have := PyProof.Rows.lex_trans (O := PyProof.Rows.itemOrd) _ _ _ h h2
    have q := lt_irrefl a
    rw [show Val.lt a a = true from this] at q
    cases q
theorem le_total (a b : Val) : (Val.le a b || Val.le b a) = true := by
  simp only [Val.le]
  cases h : Val.lt b a with
  | false => rfl
  | true => rw [lt_asymm h]; rfl
mutual
theorem eq_alike : ∀ (n : Nat) (a b : Val), Val.ok n a = true → Val.ok n b = true → PySem.W.alike a.data b.data = true → PyData.eqv a.data b.data = true → a = b
  | n, .non, b, ha, hb, hl, he => by cases b <;> cases n <;> simp_all [Val.ok, Val.data, PySem.W.alike]
  | n, .bool _, b, ha, hb, hl, he => by cases b <;> cases n <;> simp_all [Val.ok, Val.data, PySem.W.alike, PyData.eqv]
  | n, .int _, b, ha, hb, hl, he => by cases b <;> cases n <;> simp_all [Val.ok, Val.data, PySem.W.alike, PyData.eqv]
  | n, .str _, b, ha, hb, hl, he => by cases b <;> cases n <;> simp_all [Val.ok, Val.data, PySem.W.alike, PyData.eqv]
  | n, .tup xs, b, ha, hb, hl, he => by
    cases n with
    | zero => simp [Val.ok] at ha
    | succ n =>
      cases b with
      | tup ys =>
        simp only [Val.ok, Val.data, PySem.W.alike, PyData.eqv] at ha hb hl he
        rw [eqs_alike n xs ys ha hb hl he]
      | _ => simp [Val.data, PySem.W.alike] at hl
  | n, .lst xs, b, ha, hb, hl, he => by
    cases n with
    | zero => simp [Val.ok] at ha
    | succ n =>
      cases b with
      | lst ys =>
        simp only [Val.ok, Val.data, PySem.W.alike, PyData.eqv] at ha hb hl he
        rw [eqs_alike n xs ys ha hb hl he]
      | _ => simp [Val.data, PySem.W.alike] at hl
  | n, .dct _, _, ha, hb, hl, he => by cases n <;> simp [Val.ok] at ha
  | n, .set _, _, ha, hb, hl, he => by cases n <;> simp [Val.ok] at ha
  | n, .obj _, _, ha, hb, hl, he => by cases n <;> simp [Val.ok] at ha
  | n, .cls _, _, ha, hb, hl, he => by cases n <;> simp [Val.ok] at ha
  | n, .scr _, _, ha, hb, hl, he => by cases n <;> simp [Val.ok] at ha
theorem eqs_alike : ∀ (n : Nat) (a b : List Val), Val.oks n a = true → Val.oks n b = true → PySem.W.alikeAll (Val.datas a) (Val.datas b) = true → PyData.eqvAll (Val.datas a) (Val.datas b) = true → a = b
  | n, [], [], _, _, _, _ => rfl
  | n, [], _ :: _, _, _, _, h => by simp [Val.datas, PyData.eqvAll] at h
  | n, _ :: _, [], _, _, _, h => by simp [Val.datas, PyData.eqvAll] at h
  | n, x :: xs, y :: ys, ha, hb, hl, he => by
    simp only [Val.oks, Bool.and_eq_true] at ha hb
    simp only [Val.datas] at hl he
    simp only [PyData.eqvAll, Bool.and_eq_true] at he
    obtain ⟨l1, l2⟩ := PySem.W.alike_all_cons hl
    rw [eq_alike n x y ha.1 hb.1 l1 he.1, eqs_alike n xs ys ha.2 hb.2 l2 he.2]
end
theorem le_antisymm {n : Nat} {a b : Val} (ha : Val.ok n a = true) (hb : Val.ok n b = true) (hl : Val.alike a b = true) (h1 : Val.le a b = true) (h2 : Val.le b a = true) : a = b := by
  simp only [Val.le, Bool.not_eq_true', Val.lt] at h1 h2
  have e := PyProof.Rows.lex_total (O := PyProof.Rows.itemOrd) _ _ h2 h1
  refine eq_alike n a b ha hb hl ?_
  cases he : PyData.eqv a.data b.data with
  | true => rfl
  | false =>
    have q := (PySem.W.toks_eqv _ _ hl).2 he [] [Sum.inl 1]
    have e' : PySem.W.keyToks a.data = PySem.W.keyToks b.data := e
    rw [e', PyProof.Rows.lex_irrefl] at q
    have q2 : ∀ l : List (Int ⊕ List Nat), PyProof.Rows.lexLt PyProof.Rows.itemOrd (l ++ []) (l ++ [Sum.inl 1]) = true := by
      intro l
      induction l with
      | nil => rfl
      | cons x l ih => exact (PyProof.Rows.lex_self (O := PyProof.Rows.itemOrd) x _ _).trans ih
    rw [q2] at q
    cases q
/-- two lists with the same items, each once, have the same sorted list -/
theorem sort_perm {n : Nat} {xs ys : List Val} (hp : xs.Perm ys) (ho : ∀ x ∈ xs, Val.ok n x = true) (hl : ∀ x ∈ xs, ∀ y ∈ xs, Val.alike x y = true) : xs.mergeSort Val.le = ys.mergeSort Val.le := by
  have p1 := List.mergeSort_perm xs Val.le
  have p2 := List.mergeSort_perm ys Val.le
  refine List.Perm.eq_of_pairwise (le := fun a b => Val.le a b = true) (fun a b ha hb h1 h2 => ?_) (List.pairwise_mergeSort (le := Val.le) (fun a b c => le_trans) le_total xs) (List.pairwise_mergeSort (le := Val.le) (fun a b c => le_trans) le_total ys) ((p1.trans hp).trans p2.symm)
  have ha' : a ∈ xs := p1.mem_iff.mp ha
  have hb' : b ∈ xs := hp.mem_iff.mpr (p2.mem_iff.mp hb)
  exact le_antisymm (ho a ha') (ho b hb') (hl a ha' b hb') h1 h2
mutual
theorem eq_val : ∀ (n : Nat) (a b : Val), Val.ok n a = true → Val.ok n b = true → Val.eq a b = PyData.eqv a.data b.data
  | n, .tup xs, .tup ys, ha, hb => by
    cases n with
    | zero => simp [Val.ok] at ha
    | succ n =>
      simp only [Val.ok] at ha hb
      simp only [Val.data, PyData.eqv, Val.eq]
      exact eqs_val n xs ys ha hb
  | n, .lst xs, .lst ys, ha, hb => by
    cases n with
    | zero => simp [Val.ok] at ha
    | succ n =>
      simp only [Val.ok] at ha hb
      simp only [Val.data, PyData.eqv, Val.eq]
      exact eqs_val n xs ys ha hb
  | n, .non, b, ha, hb => by cases b <;> cases n <;> simp_all [Val.ok, Val.data, PyData.eqv, Val.eq]
  | n, .bool _, b, ha, hb => by cases b <;> cases n <;> simp_all [Val.ok, Val.data, PyData.eqv, Val.eq]
  | n, .int _, b, ha, hb => by cases b <;> cases n <;> simp_all [Val.ok, Val.data, PyData.eqv, Val.eq]
  | n, .str _, b, ha, hb => by cases b <;> cases n <;> simp_all [Val.ok, Val.data, PyData.eqv, Val.eq] <;> exact (Bool.beq_eq_decide_eq _ _).symm
  | n, .tup _, .non, ha, hb => by simp [Val.data, PyData.eqv, Val.eq]
  | n, .tup _, .bool _, ha, hb => by simp [Val.data, PyData.eqv, Val.eq]
  | n, .tup _, .int _, ha, hb => by simp [Val.data, PyData.eqv, Val.eq]
  | n, .tup _, .str _, ha, hb => by simp [Val.data, PyData.eqv, Val.eq]
  | n, .tup _, .lst _, ha, hb => by simp [Val.data, PyData.eqv, Val.eq]
  | n, .lst _, .non, ha, hb => by simp [Val.data, PyData.eqv, Val.eq]
  | n, .lst _, .bool _, ha, hb => by simp [Val.data, PyData.eqv, Val.eq]
  | n, .lst _, .int _, ha, hb => by simp [Val.data, PyData.eqv, Val.eq]
  | n, .lst _, .str _, ha, hb => by simp [Val.data, PyData.eqv, Val.eq]
  | n, .lst _, .tup _, ha, hb => by simp [Val.data, PyData.eqv, Val.eq]
  | n, _, .dct _, ha, hb => by cases n <;> simp [Val.ok] at hb
  | n, _, .set _, ha, hb => by cases n <;> simp [Val.ok] at hb
  | n, _, .obj _, ha, hb => by cases n <;> simp [Val.ok] at hb
  | n, _, .cls _, ha, hb => by cases n <;> simp [Val.ok] at hb
  | n, _, .scr _, ha, hb => by cases n <;> simp [Val.ok] at hb
  | n, .dct _, _, ha, hb => by cases n <;> simp [Val.ok] at ha
  | n, .set _, _, ha, hb => by cases n <;> simp [Val.ok] at ha
  | n, .obj _, _, ha, hb => by cases n <;> simp [Val.ok] at ha
  | n, .cls _, _, ha, hb => by cases n <;> simp [Val.ok] at ha
  | n, .scr _, _, ha, hb => by cases n <;> simp [Val.ok] at ha
theorem eqs_val : ∀ (n : Nat) (a b : List Val), Val.oks n a = true → Val.oks n b = true → Val.eqs a b = PyData.eqvAll (Val.datas a) (Val.datas b)
  | n, [], [], _, _ => by simp [Val.datas, PyData.eqvAll, Val.eqs]
  | n, [], _ :: _, _, _ => by simp [Val.datas, PyData.eqvAll, Val.eqs]
  | n, _ :: _, [], _, _ => by simp [Val.datas, PyData.eqvAll, Val.eqs]
  | n, x :: xs, y :: ys, ha, hb => by
    simp only [Val.oks, Bool.and_eq_true] at ha hb
    simp only [Val.datas, PyData.eqvAll, Val.eqs]
    rw [eq_val n x y ha.1 hb.1, eqs_val n xs ys ha.2 hb.2]
end
/-- alike data are equal in Python where they are equal -/
theorem eq_iff {n : Nat} {a b : Val} (ha : Val.ok n a = true) (hb : Val.ok n b = true) (hl : Val.alike a b = true) : Val.eq a b = true ↔ a = b := by
  rw [eq_val n a b ha hb]
  constructor
  · exact eq_alike n a b ha hb hl
  · rintro rfl
    exact PySem.W.eqv_refl_alike _ hl
/-! dedup -/
theorem dedup_mem {n : Nat} : ∀ (xs acc : List Val), (∀ x ∈ xs, Val.ok n x = true) → (∀ x ∈ acc, Val.ok n x = true) → (∀ x, x ∈ acc ++ xs → ∀ y, y ∈ acc ++ xs → Val.alike x y = true) → acc.Nodup →
    (dedup acc xs).Nodup ∧ ∀ x, x ∈ dedup acc xs ↔ x ∈ acc ∨ x ∈ xs
  | [], acc, _, _, _, hn => by simp [dedup, hn]
  | x :: xs, acc, h1, h2, h3, hn => by
    have hany : (acc.any fun y => Val.eq y x) = true ↔ x ∈ acc := by
      rw [List.any_eq_true]
      constructor
      · rintro ⟨y, hy, e⟩
        have := (eq_iff (h2 y hy) (h1 x List.mem_cons_self) (h3 y (by simp [hy]) x (by simp))).mp e
        exact this ▸ hy
      · intro hx
        exact ⟨x, hx, (eq_iff (h2 x hx) (h2 x hx) (h3 x (by simp) x (by simp))).mpr rfl⟩
    unfold dedup
    by_cases hx : x ∈ acc
    · rw [if_pos (hany.mpr hx)]
      obtain ⟨q1, q2⟩ := dedup_mem xs acc (fun y hy => h1 y (List.mem_cons_of_mem _ hy)) h2 (fun a ha b hb => h3 a (by grind) b (by grind)) hn
      refine ⟨q1, fun y => ?_⟩
      rw [q2]
      constructor
      · rintro (q | q)
        · exact .inl q
        · exact .inr (List.mem_cons_of_mem _ q)
      · rintro (q | q)
        · exact .inl q
        · rcases List.mem_cons.mp q with rfl | q
          · exact .inl hx
          · exact .inr q
    · rw [if_neg fun z => hx (hany.mp z)]
      obtain ⟨q1, q2⟩ := dedup_mem xs (acc ++ [x]) (fun y hy => h1 y (List.mem_cons_of_mem _ hy)) (fun y hy => by
          rcases List.mem_append.mp hy with hy | hy
          · exact h2 y hy
          · rw [List.mem_singleton.mp hy]; exact h1 x List.mem_cons_self) (fun a ha b hb => h3 a (by grind) b (by grind)) (by
          rw [List.nodup_append]
          refine ⟨hn, by simp, fun a ha b hb => ?_⟩
          rw [List.mem_singleton.mp hb]
          intro e
          exact hx (e ▸ ha))
      refine ⟨q1, fun y => ?_⟩
      rw [q2]
      grind
end Iv

/-! Iv: expressions. -/
namespace Iv
open PySem L2

theorem rr_bool {C : Ctx} {γ : Gh} {f : Fs} {H : Hp} {g : Glob} {b : Bool} : RR C γ f H g (.bl b) (.val (.bool b)) := by simp [RR, RV]
theorem tE.mono {S : Sg} {x : M Res} {σ : L2.St} {H : Hp} {Q Q' : VK} (h : tE S x σ H Q) (hq : ∀ v H, Q v H → Q' v H) : tE S x σ H Q' := by
  obtain ⟨γ, of, m, hR, p⟩ := h
  exact ⟨γ, of, m, hR, p.mono (Ext.refl _) fun _ _ _ _ _ _ _ q v rr => hq _ _ (q v rr)⟩
theorem tT.mono {S : Sg} {x : M Bool} {σ : L2.St} {H : Hp} {Q Q' : Bool → Hp → Prop} (h : tT S x σ H Q) (hq : ∀ v H, Q v H → Q' v H) : tT S x σ H Q' := by
  obtain ⟨γ, of, m, hR, p⟩ := h
  exact ⟨γ, of, m, hR, p.mono (Ext.refl _) fun _ _ _ _ _ _ _ q => hq _ _ q⟩
/-- the end of a lift -/
theorem post_yield {S : Sg} {γ : Gh} {of : List (List (Option V))} {σ : L2.St} {m : Mem} {o : Option Res} {Q : VK}
    (h : Post S γ σ (lift o) m fun γ' of' H' m' r => ∀ v, RR S.C γ' (S.f of' σ) H' m'.g v r → Q v H') : ∃ r, o = some r ∧ Yield S.C γ (S.f of σ) m.g r Q := by
  obtain ⟨r, e, q⟩ := h.lift
  exact ⟨r, e, fun γ' H' v e' R' rr => q γ' of H' e' R' v rr⟩

/-- a name is looked at -/
theorem post_peek2 {S : Sg} {γ : Gh} {of : List (List (Option V))} {σ : L2.St} {H : Hp} {m : Mem} {i : Nat} {α : Type} {F : Val → M α} {R : Gh → List (List (Option V)) → Hp → Mem → α → Prop} (hR : S.R γ of σ H m) (p : Post S γ σ (bnd (peek i) F) m R) :
    ∃ d w, Post S γ σ (F d) m R ∧ σ[i]? = some (some w) ∧ RB S.C γ H d w := by
  obtain ⟨o, m3, h1, h2⟩ := p.bnd
  have h1 : (match peekE m.stk m.env i with
    | some v => some (Out.ok v, m)
    | none => none) = some (o, m3) := h1
  cases e : peekE m.stk m.env i with
  | none => rw [e] at h1; cases h1
  | some d =>
    rw [e] at h1
    cases h1
    obtain ⟨v, hv, rb⟩ := peek_ok hR e
    exact ⟨d, v, h2 γ of H (Ext.refl _) hR, hv, rb⟩
theorem post_peek {S : Sg} {γ : Gh} {of : List (List (Option V))} {σ : L2.St} {H : Hp} {m : Mem} {i : Nat} {α : Type} {F : Val → M α} {R : Gh → List (List (Option V)) → Hp → Mem → α → Prop} (hR : S.R γ of σ H m) (p : Post S γ σ (bnd (peek i) F) m R) :
    ∃ d w, Post S γ σ (F d) m R ∧ σ[i]? = some (some w) :=
  let ⟨d, w, h1, h2, _⟩ := post_peek2 hR p
  ⟨d, w, h1, h2⟩

section
variable {X : Cx} {S : Sg} {a b c : Expr} {xa xb xc : M Res} {ya yb : M Bool} {pos : Pos}

theorem te_bin {op : Operator} {F : Val → Val → Option Res} (ho : OpR X (binaryOp op) (rOp S.C F)) (ha : PE X a (tE S xa)) (hb : PE X b (tE S xb)) : PE X (.BinOp a op b pos) (tE S (bin F xa xb)) :=
  PE.imp (pe_op ho ha hb) fun σ H Q ⟨γ, of, m, hR, p⟩ => by
    refine (split hR p).mono fun v H1 ⟨γ1, of1, m1, a1, e1, R1, rv1, p1⟩ => ?_
    refine (split R1 p1).mono fun u H2 ⟨γ2, of2, m2, a2, e2, R2, rv2, p2⟩ => ?_
    obtain ⟨r, er, y⟩ := post_yield p2
    exact ⟨γ2, S.f of2 σ, m2.g, a1.fz, a2.fz, r, R2, (rv1.ext e2).b R2, rv2.b R2, er, y⟩
theorem te_un {op : UnaryOp} {F : Val → Option Res} (ho : UnR X (unaryOp op) (rUn S.C F)) (ha : PE X a (tE S xa)) : PE X (.UnaryOp op a pos) (tE S (un F xa)) :=
  PE.imp (pe_un ho ha) fun σ H Q ⟨γ, of, m, hR, p⟩ => by
    refine (split hR p).mono fun v H1 ⟨γ1, of1, m1, a1, e1, R1, rv1, p1⟩ => ?_
    obtain ⟨r, er, y⟩ := post_yield p1
    exact ⟨γ1, S.f of1 σ, m1.g, a1.fz, r, R1, rv1.b R1, er, y⟩

/-! ### comparisons -/
theorem tt_cmp {op : CmpOp} {F : Val → Val → Option Bool} (ho : OpR X (compareOp op) (rOpB S.C F)) (hm : behindInMarks op b = false) (ha : PE X a (tE S xa)) (hb : PE X b (tE S xb)) : PT X (.Compare a [op] [b] pos) (tT S (binB F xa xb)) :=
  PT.imp (pt_cmpR ho ha hb hm) fun σ H Q ⟨γ, of, m, hR, p⟩ => by
    refine (split hR p).mono fun v H1 ⟨γ1, of1, m1, a1, e1, R1, rv1, p1⟩ => ?_
    refine (split R1 p1).mono fun u H2 ⟨γ2, of2, m2, a2, e2, R2, rv2, p2⟩ => ?_
    obtain ⟨r, er, q⟩ := p2.lift
    exact ⟨γ2, S.f of2 σ, m2.g, a1.fz, a2.fz, r, R2, (rv1.ext e2).b R2, rv2.b R2, er, r, rfl, q γ2 of2 H2 (Ext.refl _) R2⟩
theorem te_cmp {op : CmpOp} {F : Val → Val → Option Bool} (ho : OpR X (compareOp op) (rOpB S.C F)) (hm : behindInMarks op b = false) (ha : PE X a (tE S xa)) (hb : PE X b (tE S xb)) : PE X (.Compare a [op] [b] pos) (tE S (resB (binB F xa xb))) :=
  PE.imp (pe_cmpR ho ha hb hm) fun σ H Q ⟨γ, of, m, hR, p⟩ => by
    have p' : Post S γ σ (bnd xa fun r1 => bnd xb fun r2 => bnd (lift (F r1.fz r2.fz)) fun r => ret (Res.val (Val.bool r))) m (fun γ' of' H' m' r => ∀ v, RR S.C γ' (S.f of' σ) H' m'.g v r → Q v H') := by
      obtain ⟨r, m', h1, h2⟩ := p
      refine ⟨r, m', ?_, h2⟩
      rw [← h1]
      simp only [resB, binB, bnd]
      cases xa S.k m with
      | none => rfl
      | some q =>
        obtain ⟨o, m2⟩ := q
        cases o with
        | exc c fs => rfl
        | ok r1 =>
          simp only
          cases xb S.k m2 with
          | none => rfl
          | some q =>
            obtain ⟨o, m3⟩ := q
            cases o with
            | exc c fs => rfl
            | ok r2 => rfl
    refine (split hR p').mono fun v H1 ⟨γ1, of1, m1, a1, e1, R1, rv1, p1⟩ => ?_
    refine (split R1 p1).mono fun u H2 ⟨γ2, of2, m2, a2, e2, R2, rv2, p2⟩ => ?_
    obtain ⟨r, er, q⟩ := p2.bnd.lift
    exact ⟨γ2, S.f of2 σ, m2.g, a1.fz, a2.fz, r, R2, (rv1.ext e2).b R2, rv2.b R2, er, (q γ2 of2 H2 (Ext.refl _) R2).ret R2 _ rr_bool⟩
theorem tt_isN {j pos'} (ha : PE X a (tE S xa)) : PT X (.Compare a [.Is] [.Constant .none j pos'] pos) (tT S (isN xa)) :=
  PT.imp (pt_cmp (pc_isN ha)) fun σ H Q ⟨γ, of, m, hR, p⟩ => by
    refine (split hR p).mono fun v H1 ⟨γ1, of1, m1, a1, e1, R1, rv1, p1⟩ => ⟨_, rfl, ?_⟩
    have q := p1.ret R1
    have e : cIsN a1.fz = decide (v = .non) := by
      cases h : a1.fz <;> rw [h] at rv1 <;> simp only [RV] at rv1
      case non => subst rv1; rfl
      all_goals (symm; simp only [cIsN]; apply decide_eq_false; intro z; subst z; simp at rv1)
    rw [← e]
    exact q
theorem tt_notN {j pos'} (ha : PE X a (tE S xa)) : PT X (.Compare a [.IsNot] [.Constant .none j pos'] pos) (tT S (notN xa)) :=
  PT.imp (pt_cmp (pc_notN ha)) fun σ H Q ⟨γ, of, m, hR, p⟩ => by
    refine (split hR p).mono fun v H1 ⟨γ1, of1, m1, a1, e1, R1, rv1, p1⟩ => ⟨_, rfl, ?_⟩
    have q := p1.ret R1
    have e : cIsN a1.fz = decide (v = .non) := by
      cases h : a1.fz <;> rw [h] at rv1 <;> simp only [RV] at rv1
      case non => subst rv1; rfl
      all_goals (symm; simp only [cIsN]; apply decide_eq_false; intro z; subst z; simp at rv1)
    rw [← e]
    exact q
/-- a comparison as a value, whatever its kind -/
theorem te_isN {j pos'} (ha : PE X a (tE S xa)) : PE X (.Compare a [.Is] [.Constant .none j pos'] pos) (tE S (resB (isN xa))) :=
  PE.imp (pe_cmp (pc_isN ha)) fun σ H Q ⟨γ, of, m, hR, p⟩ => by
    have p' : Post S γ σ (bnd xa fun r => ret (Res.val (Val.bool (cIsN r.fz)))) m (fun γ' of' H' m' r => ∀ v, RR S.C γ' (S.f of' σ) H' m'.g v r → Q v H') := by
      obtain ⟨r, m', h1, h2⟩ := p
      refine ⟨r, m', ?_, h2⟩
      rw [← h1]
      simp only [resB, isN, bnd]
      cases xa S.k m with
      | none => rfl
      | some q => obtain ⟨o, m2⟩ := q; cases o <;> rfl
    refine (split hR p').mono fun v H1 ⟨γ1, of1, m1, a1, e1, R1, rv1, p1⟩ => ?_
    have q := p1.ret R1 _ rr_bool
    have e : cIsN a1.fz = decide (v = .non) := by
      cases h : a1.fz <;> rw [h] at rv1 <;> simp only [RV] at rv1
      case non => subst rv1; rfl
      all_goals (symm; simp only [cIsN]; apply decide_eq_false; intro z; subst z; simp at rv1)
    rw [← e]
    exact q
theorem te_notN {j pos'} (ha : PE X a (tE S xa)) : PE X (.Compare a [.IsNot] [.Constant .none j pos'] pos) (tE S (resB (notN xa))) :=
  PE.imp (pe_cmp (pc_notN ha)) fun σ H Q ⟨γ, of, m, hR, p⟩ => by
    have p' : Post S γ σ (bnd xa fun r => ret (Res.val (Val.bool (!cIsN r.fz)))) m (fun γ' of' H' m' r => ∀ v, RR S.C γ' (S.f of' σ) H' m'.g v r → Q v H') := by
      obtain ⟨r, m', h1, h2⟩ := p
      refine ⟨r, m', ?_, h2⟩
      rw [← h1]
      simp only [resB, notN, bnd]
      cases xa S.k m with
      | none => rfl
      | some q => obtain ⟨o, m2⟩ := q; cases o <;> rfl
    refine (split hR p').mono fun v H1 ⟨γ1, of1, m1, a1, e1, R1, rv1, p1⟩ => ?_
    have q := p1.ret R1 _ rr_bool
    have e : cIsN a1.fz = decide (v = .non) := by
      cases h : a1.fz <;> rw [h] at rv1 <;> simp only [RV] at rv1
      case non => subst rv1; rfl
      all_goals (symm; simp only [cIsN]; apply decide_eq_false; intro z; subst z; simp at rv1)
    rw [← e]
    exact q

/-! ### tests -/
/-- a value that is True or False -/
theorem tt_bool (ha : PE X a (tE S xa)) (he : ∀ whole, isTrue a X.env whole = (do let v ← whole; standAt a.pos; holding [v] (truthy v))) : PT X a (tT S (boolM xa)) :=
  PT.imp (pt_val ha he) fun σ H Q ⟨γ, of, m, hR, p⟩ => by
    refine ⟨γ, of, m, hR, p.bnd.mono (Ext.refl _) fun γ1 of1 H1 m1 r e1 R1 q v rr => ?_⟩
    cases r with
    | new c => exact q.stuck.elim
    | val d =>
      cases d with
      | bool k =>
        simp only [RR, RV] at rr
        subst rr
        exact ⟨k, rfl, q.ret R1⟩
      | _ => exact q.stuck.elim
theorem tt_not (ha : PT X a (tT S ya)) : PT X (.UnaryOp .Not a pos) (tT S (notM ya)) :=
  PT.imp (pt_not ha) fun σ H Q ⟨γ, of, m, hR, p⟩ => by
    exact (splitT hR p).mono fun b H1 ⟨γ1, of1, m1, e1, R1, p1⟩ => p1.ret R1
theorem tw_and1 (ha : PT X a (tT S ya)) : PW X (.BoolOp .And [a] pos) (tT S ya) := pw_and1 ha
theorem tw_or1 (ha : PT X a (tT S ya)) : PW X (.BoolOp .Or [a] pos) (tT S ya) := pw_or1 ha
theorem tw_and {rest : List Expr} (ha : PT X a (tT S ya)) (hb : PW X (.BoolOp .And (b :: rest) pos) (tT S yb)) : PW X (.BoolOp .And (a :: b :: rest) pos) (tT S (andM ya yb)) :=
  PW.imp (pw_and ha hb) fun σ H Q ⟨γ, of, m, hR, p⟩ => by
    refine (splitT hR p).mono fun k H1 ⟨γ1, of1, m1, e1, R1, p1⟩ => ?_
    cases k with
    | true => exact iteT ⟨γ1, of1, m1, R1, p1⟩
    | false => exact iteF (p1.ret R1)
theorem tw_or {rest : List Expr} (ha : PT X a (tT S ya)) (hb : PW X (.BoolOp .Or (b :: rest) pos) (tT S yb)) : PW X (.BoolOp .Or (a :: b :: rest) pos) (tT S (orM ya yb)) :=
  PW.imp (pw_or ha hb) fun σ H Q ⟨γ, of, m, hR, p⟩ => by
    refine (splitT hR p).mono fun k H1 ⟨γ1, of1, m1, e1, R1, p1⟩ => ?_
    cases k with
    | true => exact iteT (p1.ret R1)
    | false => exact iteF ⟨γ1, of1, m1, R1, p1⟩
/-! .. as values -/
def andV (x y : M Res) : M Res := bnd x fun r => match r with
  | .val (.bool b) => if b then y else ret (.val (.bool false))
  | _ => stuck
def orV (x y : M Res) : M Res := bnd x fun r => match r with
  | .val (.bool b) => if b then ret (.val (.bool true)) else y
  | _ => stuck
def notV (x : M Res) : M Res := bnd x fun r => match r with
  | .val (.bool b) => ret (.val (.bool !b))
  | _ => stuck
theorem te_one {op} (ha : PE X a (tE S xa)) : PE X (.BoolOp op [a] pos) (tE S xa) := pe_one ha
theorem te_and {rest : List Expr} (ha : PE X a (tE S xa)) (hb : PE X (.BoolOp .And (b :: rest) pos) (tE S xb)) : PE X (.BoolOp .And (a :: b :: rest) pos) (tE S (andV xa xb)) :=
  PE.imp (pe_and ha hb) fun σ H Q ⟨γ, of, m, hR, p⟩ => by
    refine ⟨γ, of, m, hR, p.bnd.mono (Ext.refl _) fun γ1 of1 H1 m1 r e1 R1 q v rr => ?_⟩
    cases r with
    | new c => exact q.stuck.elim
    | val d =>
      cases d with
      | bool k =>
        simp only [RR, RV] at rr
        subst rr
        refine ⟨k, rfl, ?_⟩
        cases k with
        | true => exact iteT ⟨γ1, of1, m1, R1, q⟩
        | false => exact iteF (q.ret R1 _ rr_bool)
      | _ => exact q.stuck.elim
theorem te_or {rest : List Expr} (ha : PE X a (tE S xa)) (hb : PE X (.BoolOp .Or (b :: rest) pos) (tE S xb)) : PE X (.BoolOp .Or (a :: b :: rest) pos) (tE S (orV xa xb)) :=
  PE.imp (pe_or ha hb) fun σ H Q ⟨γ, of, m, hR, p⟩ => by
    refine ⟨γ, of, m, hR, p.bnd.mono (Ext.refl _) fun γ1 of1 H1 m1 r e1 R1 q v rr => ?_⟩
    cases r with
    | new c => exact q.stuck.elim
    | val d =>
      cases d with
      | bool k =>
        simp only [RR, RV] at rr
        subst rr
        refine ⟨k, rfl, ?_⟩
        cases k with
        | true => exact iteT (q.ret R1 _ rr_bool)
        | false => exact iteF ⟨γ1, of1, m1, R1, q⟩
      | _ => exact q.stuck.elim
theorem te_not (ha : PE X a (tE S xa)) : PE X (.UnaryOp .Not a pos) (tE S (notV xa)) :=
  PE.imp (pe_not ha) fun σ H Q ⟨γ, of, m, hR, p⟩ => by
    refine ⟨γ, of, m, hR, p.bnd.mono (Ext.refl _) fun γ1 of1 H1 m1 r e1 R1 q v rr => ?_⟩
    cases r with
    | new c => exact q.stuck.elim
    | val d =>
      cases d with
      | bool k =>
        simp only [RR, RV] at rr
        subst rr
        exact ⟨k, rfl, q.ret R1 _ rr_bool⟩
      | _ => exact q.stuck.elim
theorem te_ifExp {t : Expr} {yt : M Bool} (ht : PT X t (tT S yt)) (ha : PE X a (tE S xa)) (hb : PE X b (tE S xb)) : PE X (.IfExp t a b pos) (tE S (ifM yt xa xb)) :=
  PE.imp (pe_ifExp ht ha hb) fun σ H Q ⟨γ, of, m, hR, p⟩ => by
    refine (splitT hR p).mono fun k H1 ⟨γ1, of1, m1, e1, R1, p1⟩ => ?_
    cases k with
    | true => exact iteT ⟨γ1, of1, m1, R1, p1⟩
    | false => exact iteF ⟨γ1, of1, m1, R1, p1⟩

/-! ### displays, arguments -/
def tA (S : Sg) (x : M (List Val)) : TA := fun σ H Q => ∃ γ of m, S.R γ of σ H m ∧ Post S γ σ x m fun γ' of' H' m' ds => ∀ vs, RVs S.C γ'.G γ'.ob ds vs → Q vs H'
theorem ta_nil : PA X [] (tA S (argsM [])) := ⟨fun ps pins s σ H Q I ⟨γ, of, m, hR, p⟩ => pa_nil.run ps pins s σ H Q I (p.ret hR [] RVs.nil)⟩
theorem PA.imp {es : List Expr} {t t' : TA} (h : PA X es t) (hi : ∀ σ H Q, t' σ H Q → t σ H Q) : PA X es t' := ⟨fun ps pins s σ H Q I q => h.run ps pins s σ H Q I (hi σ H Q q)⟩
theorem ta_cons {es : List Expr} {xs : List (M Res)} (ha : PE X a (tE S xa)) (hr : PA X es (tA S (argsM xs))) (hs : starEach (a :: es) X.env = (false, eval a X.env) :: starEach es X.env) : PA X (a :: es) (tA S (argsM (xa :: xs))) :=
  PA.imp (pa_cons ha hr hs) fun σ H Q ⟨γ, of, m, hR, p⟩ => by
    refine (split hR p).mono fun v H1 ⟨γ1, of1, m1, a1, e1, R1, rv1, p1⟩ => ?_
    refine ⟨γ1, of1, m1, R1, p1.bnd.mono (Ext.refl _) fun γ2 of2 H2 m2 ds e2 R2 q vs rvs => ?_⟩
    exact q.ret R2 _ (.cons (rv1.ext e2) rvs)
theorem te_tup {es : List Expr} {xs : List (M Res)} {k : Nat} (h : PA X es (tA S (argsM xs))) (hl : xs.length ≤ 1000) : PE X (.Tuple es k pos) (tE S (tupM xs)) :=
  PE.imp (pe_tup h) fun σ H Q ⟨γ, of, m, hR, p⟩ => by
    refine ⟨γ, of, m, hR, ?_⟩
    have len : ∀ (ys : List (M Res)) (k : CallF) (m m' : Mem) (ds : List Val), argsM ys k m = some (.ok ds, m') → ds.length = ys.length := by
      intro ys
      induction ys with
      | nil => intro k m m' ds h; simp [argsM, ret] at h; simp [h.1]
      | cons y ys ih =>
        intro k m m' ds h
        simp only [argsM, bnd] at h
        split at h
        · split at h
          · rename_i e2
            simp [ret] at h
            rw [← h.1, List.length_cons, List.length_cons, ih _ _ _ _ e2]
          · cases h
          · cases h
        · cases h
        · cases h
    obtain ⟨r, m1, e1, h1⟩ := p.bnd
    refine ⟨r, m1, e1, ?_⟩
    cases r with
    | exc c fs => exact h1
    | ok ds =>
      intro γ1 of1 H1 e2 R1 vs rvs
      have hl2 : ds.length ≤ 1000 := by rw [len _ _ _ _ _ e1]; exact hl
      refine ⟨by rw [← rvs.length]; exact Nat.le_trans hl2 (by rw [sizeLine_eq]; decide), fun p hp => ?_⟩
      have q := h1 γ1 of1 H1 e2 R1
      obtain ⟨f1, f2, f3⟩ := R1.fresh hp
      obtain ⟨e', R'⟩ := (R1.alloc (o := .tup vs) hp).fix (p := p) upd_same f1 f3
      refine (q.ext e').ret R' _ ?_
      simp only [RR, RV]
      exact ⟨p, vs, rfl, SqT.of (by show upd γ1.G p _ p = _; exact upd_same), RVs.ext e' rvs⟩
theorem te_lst {es : List Expr} {xs : List (M Res)} (h : PA X es (tA S (argsM xs))) (hl : xs.length ≤ 1000) : PE X (.List es pos) (tE S (lstM xs)) :=
  PE.imp (pe_lst h) fun σ H Q ⟨γ, of, m, hR, p⟩ => by
    refine ⟨γ, of, m, hR, ?_⟩
    have len : ∀ (ys : List (M Res)) (k : CallF) (m m' : Mem) (ds : List Val), argsM ys k m = some (.ok ds, m') → ds.length = ys.length := by
      intro ys
      induction ys with
      | nil => intro k m m' ds h; simp [argsM, ret] at h; simp [h.1]
      | cons y ys ih =>
        intro k m m' ds h
        simp only [argsM, bnd] at h
        split at h
        · split at h
          · rename_i e2
            simp [ret] at h
            rw [← h.1, List.length_cons, List.length_cons, ih _ _ _ _ e2]
          · cases h
          · cases h
        · cases h
        · cases h
    obtain ⟨r, m1, e1, h1⟩ := p.bnd
    refine ⟨r, m1, e1, ?_⟩
    cases r with
    | exc c fs => exact h1
    | ok ds =>
      intro γ1 of1 H1 e2 R1 vs rvs
      have hl2 : ds.length ≤ 1000 := by rw [len _ _ _ _ _ e1]; exact hl
      refine ⟨by rw [← rvs.length]; exact Nat.le_trans hl2 (by rw [sizeLine_eq]; decide), fun p hp => ?_⟩
      have q := h1 γ1 of1 H1 e2 R1
      obtain ⟨f1, f2, f3⟩ := R1.fresh hp
      exact q.ret (H := upd H1 p (.lst vs)) (R1.alloc hp) _ ⟨p, rfl, ⟨vs, upd_same, rvs⟩, f2, f3, f1⟩

/-! ### subscripts -/
theorem te_sub {F : Val → Val → Option Res} (hi : IxR X (rOp S.C F)) (hF : ∀ a b r, (index a b).map Res.val = some r → F a b = some r) (ha : PE X a (tE S xa)) (hb : PE X b (tE S xb)) (hs : PlainIx b) : PE X (.Subscript a b pos) (tE S (subM xa xb)) :=
  PE.imp (pe_ix hi ha hb hs) fun σ H Q ⟨γ, of, m, hR, p⟩ => by
    refine (split hR p).mono fun v H1 ⟨γ1, of1, m1, a1, e1, R1, rv1, p1⟩ => ?_
    refine (split R1 p1).mono fun u H2 ⟨γ2, of2, m2, a2, e2, R2, rv2, p2⟩ => ?_
    obtain ⟨r, er, y⟩ := post_yield p2
    exact ⟨γ2, S.f of2 σ, m2.g, a1.fz, a2.fz, r, R2, (rv1.ext e2).b R2, rv2.b R2, hF _ _ _ er, y⟩
/-- a name's container is looked at when the index is known -/
theorem te_subN {i : Nat} {x : Str} {p0 : Pos} {F : Val → Val → Option Res} (hi : IxR X (rOp S.C F)) (hF : ∀ a b r, (index a b).map Res.val = some r → F a b = some r) (hN : X.N[i]? = some x) (hv : Vis X.env.scope x) (hd : (x == ("__debug__" : Str)) = false)
    (hcd : (x == ("__classdict__" : Str)) = false) (hb : PE X b (tE S xb)) (hs : PlainIx b) : PE X (.Subscript (.Name x p0) b pos) (tE S (subN i xb)) :=
  PE.imp (pe_ix hi (pe_var hN hv hd hcd) hb hs) fun σ H Q ⟨γ, of, m, hR, p⟩ => by
    obtain ⟨d0, w, p, e0⟩ := post_peek hR p
    refine ⟨w, e0, (split hR p).mono fun u H2 ⟨γ2, of2, m2, a2, e2, R2, rv2, p2⟩ => ?_⟩
    obtain ⟨d, w2, p3, e3, rb⟩ := post_peek2 R2 p2
    rw [e0] at e3
    cases e3
    obtain ⟨r, er, y⟩ := post_yield p3
    exact ⟨γ2, S.f of2 σ, m2.g, d, a2.fz, r, R2, rb, rv2.b R2, hF _ _ _ er, y⟩
end
end Iv

/-! Iv: statements. -/
namespace Iv
open PySem L2

/-- what x does from m, the slots of the frame free to change -/
def PostF {α : Type} (S : Sg) (γ : Gh) (x : M α) (m : Mem) (R : Gh → List (List (Option V)) → L2.St → Hp → Mem → α → Prop) : Prop :=
  ∃ r m', x S.k m = some (r, m') ∧ match r with
    | .ok a => ∀ γ' of' σ' H', Ext γ γ' → S.R γ' of' σ' H' m' → R γ' of' σ' H' m' a
    | .exc c fs => ∀ γ' of' σ' H' cls d, Ext γ γ' → S.R γ' of' σ' H' m' → ExcRel S.C γ' H' c fs cls d → S.W cls d σ' H'
def RF (S : Sg) (D : Ends) (γ : Gh) (of : List (List (Option V))) (σ : L2.St) (H : Hp) (m : Mem) : Flow → Prop
  | .nx => D.nx σ H
  | .bk => D.bk σ H
  | .ct => D.ct σ H
  | .rt r => ∀ v, RR S.C γ (S.f of σ) H m.g v r → D.rt v H
def tS (S : Sg) (x : M Flow) : TS := fun D σ H => ∃ γ of m, S.R γ of σ H m ∧ PostF S γ x m (RF S D)
def tG (S : Sg) (t : Val → M Unit) : TG := fun v σ H Q => ∃ γ of m d, S.R γ of σ H m ∧ RV S.C γ.G γ.ob d v ∧ PostF S γ (t d) m fun _ _ σ' H' _ _ => Q σ' H'

section
variable {S : Sg} {γ γ' : Gh} {of of' : List (List (Option V))} {σ : L2.St} {H H' : Hp} {m m' : Mem} {α β : Type}
theorem PostF.mono {x : M α} {R R' : Gh → List (List (Option V)) → L2.St → Hp → Mem → α → Prop} (h : PostF S γ x m R) (e : Ext γ γ') (hR : ∀ γ2 of2 σ2 H2 m2 a, Ext γ' γ2 → S.R γ2 of2 σ2 H2 m2 → R γ2 of2 σ2 H2 m2 a → R' γ2 of2 σ2 H2 m2 a) : PostF S γ' x m R' := by
  obtain ⟨r, m', h1, h2⟩ := h
  refine ⟨r, m', h1, ?_⟩
  cases r with
  | ok a => exact fun γ2 of2 σ2 H2 e2 r2 => hR _ _ _ _ _ _ e2 r2 (h2 γ2 of2 σ2 H2 (e.trans e2) r2)
  | exc c fs => exact fun γ2 of2 σ2 H2 cls d e2 r2 => h2 γ2 of2 σ2 H2 cls d (e.trans e2) r2
theorem PostF.ext {x : M α} {R : Gh → List (List (Option V)) → L2.St → Hp → Mem → α → Prop} (h : PostF S γ x m R) (e : Ext γ γ') : PostF S γ' x m R := h.mono e fun _ _ _ _ _ _ _ _ q => q
theorem PostF.bnd {x : M α} {f : α → M β} {R : Gh → List (List (Option V)) → L2.St → Hp → Mem → β → Prop} (h : PostF S γ (bnd x f) m R) : PostF S γ x m fun γ1 _ _ _ m1 a => PostF S γ1 (f a) m1 R := by
  obtain ⟨r, m', h1, h2⟩ := h
  have h1 : (match x S.k m with
    | some (.ok a, m') => f a S.k m'
    | some (.exc c fs, m') => some (.exc c fs, m')
    | none => none) = some (r, m') := h1
  cases e : x S.k m with
  | none => rw [e] at h1; cases h1
  | some p =>
    obtain ⟨o, m1⟩ := p
    rw [e] at h1
    refine ⟨o, m1, e, ?_⟩
    cases o with
    | ok a =>
      intro γ1 of1 σ1 H1 e1 r1
      refine ⟨r, m', h1, ?_⟩
      cases r with
      | ok b => exact fun γ2 of2 σ2 H2 e2 r2 => h2 γ2 of2 σ2 H2 (e1.trans e2) r2
      | exc c fs => exact fun γ2 of2 σ2 H2 cls d e2 r2 => h2 γ2 of2 σ2 H2 cls d (e1.trans e2) r2
    | exc c fs =>
      cases h1
      exact h2
theorem PostF.at {x : M α} {R : Gh → List (List (Option V)) → L2.St → Hp → Mem → α → Prop} (h : PostF S γ x m R) : Post S γ σ x m fun γ' of' H' m' a => R γ' of' σ H' m' a := by
  obtain ⟨r, m', h1, h2⟩ := h
  refine ⟨r, m', h1, ?_⟩
  cases r with
  | ok a => exact fun γ2 of2 H2 e2 r2 => h2 γ2 of2 σ H2 e2 r2
  | exc c fs => exact fun γ2 of2 H2 cls d e2 r2 => h2 γ2 of2 σ H2 cls d e2 r2
theorem PostF.ret {a : α} {R : Gh → List (List (Option V)) → L2.St → Hp → Mem → α → Prop} (h : PostF S γ (ret a) m R) (r : S.R γ of σ H m) : R γ of σ H m a := by
  obtain ⟨o, m', h1, h2⟩ := h
  cases h1
  exact h2 γ of σ H (Ext.refl γ) r
theorem PostF.stuck {R : Gh → List (List (Option V)) → L2.St → Hp → Mem → α → Prop} (h : PostF S γ (stuck : M α) m R) : False := by
  obtain ⟨r, m', h1, h2⟩ := h
  cases h1
/-- the first part of a sequence is an expression; its result is fixed -/
theorem splitF {x : M Res} {f : Res → M β} {R : Gh → List (List (Option V)) → L2.St → Hp → Mem → β → Prop} (hR : S.R γ of σ H m) (h : PostF S γ (Iv.bnd x f) m R) :
    tE S x σ H fun v H1 => ∃ γ1 of1 m1 a, Ext γ γ1 ∧ S.R γ1 of1 σ H1 m1 ∧ RV S.C γ1.G γ1.ob a.fz v ∧ PostF S γ1 (f a) m1 R := by
  refine ⟨γ, of, m, hR, h.bnd.at.mono (Ext.refl γ) fun γ1 of1 H1 m1 a e1 r1 q v rr => ?_⟩
  obtain ⟨γ2, e2, r2, rv⟩ := rr.fix r1
  exact ⟨γ2, of1, m1, a, e1.trans e2, r2, rv, q.ext e2⟩
/-- .. its result as it is -/
theorem splitK {x : M Res} {f : Res → M β} {R : Gh → List (List (Option V)) → L2.St → Hp → Mem → β → Prop} (hR : S.R γ of σ H m) (h : PostF S γ (Iv.bnd x f) m R) :
    tE S x σ H fun v H1 => ∃ γ1 of1 m1 a, Ext γ γ1 ∧ S.R γ1 of1 σ H1 m1 ∧ RR S.C γ1 (S.f of1 σ) H1 m1.g v a ∧ PostF S γ1 (f a) m1 R :=
  ⟨γ, of, m, hR, h.bnd.at.mono (Ext.refl γ) fun γ1 of1 H1 m1 a e1 r1 q v rr => ⟨γ1, of1, m1, a, e1, r1, rr, q⟩⟩
theorem splitFT {x : M Bool} {f : Bool → M β} {R : Gh → List (List (Option V)) → L2.St → Hp → Mem → β → Prop} (hR : S.R γ of σ H m) (h : PostF S γ (Iv.bnd x f) m R) :
    tT S x σ H fun b H1 => ∃ γ1 of1 m1, Ext γ γ1 ∧ S.R γ1 of1 σ H1 m1 ∧ PostF S γ1 (f b) m1 R :=
  ⟨γ, of, m, hR, h.bnd.at.mono (Ext.refl γ) fun γ1 of1 H1 m1 b e1 r1 q => ⟨γ1, of1, m1, e1, r1, q⟩⟩
theorem postF_some {x : M α} {R : Gh → List (List (Option V)) → L2.St → Hp → Mem → α → Prop} (h : PostF S γ x m R) {a : α} {m' : Mem} (e : x S.k m = some (.ok a, m')) : ∀ γ' of' σ' H', Ext γ γ' → S.R γ' of' σ' H' m' → R γ' of' σ' H' m' a := by
  obtain ⟨r, m2, h1, h2⟩ := h
  rw [e] at h1
  cases h1
  exact h2
theorem postF_none {x : M α} {R : Gh → List (List (Option V)) → L2.St → Hp → Mem → α → Prop} (h : PostF S γ x m R) (e : x S.k m = none) : False := by
  obtain ⟨r, m2, h1, h2⟩ := h
  rw [e] at h1
  cases h1
/-- a name stored -/
theorem setName_ok {i : Nat} {r : Res} {v : V} {R : Gh → List (List (Option V)) → L2.St → Hp → Mem → Unit → Prop} (hR : S.R γ of σ H m) (rr : RR S.C γ (S.f of σ) H m.g v r) (h : PostF S γ (setName i r) m R) :
    ∃ m', S.R γ of (σ.set i (some v)) H m' ∧ R γ of (σ.set i (some v)) H m' () := by
  have hs : (∃ d, r.slot = .val d ∧ RV S.C γ.G γ.ob d v) ∨ ∃ c a, r.slot = .own c ∧ v = .ref a ∧ CR S.C γ.G γ.ob H a c ∧ γ.G a = none ∧ γ.F a = none ∧ Free γ (S.f of σ) m.g a := by
    cases r with
    | val d => exact .inl ⟨d, rfl, rr⟩
    | new c =>
      obtain ⟨a, e, cr, g0, f0, fr⟩ := rr
      exact .inr ⟨c, a, rfl, e, cr, g0, f0, fr⟩
  have h' : PostF S γ (setSlot i r.slot) m R := h
  obtain ⟨m', e, _, _, R'⟩ := setSlot_ok hR hs (h'.at (σ := σ))
  exact ⟨m', R', postF_some h' e γ of _ H (Ext.refl γ) R'⟩
end

section
variable {X : Cx} {S : Sg} {st : Stmt} {rest : List Stmt} {a b : Expr} {xa xb : M Res} {y z : M Flow} {pos : Pos}
theorem ts_nil : PSs X [] (tS S (ret .nx)) := PSs.imp pss_nil fun D σ H ⟨γ, of, m, hR, p⟩ => p.ret hR
theorem ts_cons (h1 : PS X st (tS S y)) (h2 : PSs X rest (tS S z)) : PSs X (st :: rest) (tS S (seqM y z)) :=
  PSs.imp (pss_cons h1 h2) fun D σ H ⟨γ, of, m, hR, p⟩ => by
    refine ⟨γ, of, m, hR, p.bnd.mono (Ext.refl _) fun γ1 of1 σ1 H1 m1 f e1 R1 q => ?_⟩
    cases f with
    | nx => exact ⟨γ1, of1, m1, R1, q⟩
    | bk => exact q.ret R1
    | ct => exact q.ret R1
    | rt r => exact q.ret R1
theorem ts_one (h1 : PS X st (tS S y)) : PSs X [st] (tS S y) := pss_one h1
theorem ts_pass : PS X (.Pass pos) (tS S (ret .nx)) := PS.imp ps_pass fun D σ H ⟨γ, of, m, hR, p⟩ => p.ret hR
theorem ts_break : PS X (.Break pos) (tS S (ret .bk)) := PS.imp ps_break fun D σ H ⟨γ, of, m, hR, p⟩ => p.ret hR
theorem ts_continue : PS X (.Continue pos) (tS S (ret .ct)) := PS.imp ps_continue fun D σ H ⟨γ, of, m, hR, p⟩ => p.ret hR
theorem ts_expr (ha : PE X a (tE S xa)) (hs : swapsWith a none pos.line X.env = pure false) : PS X (.Expr a pos) (tS S (doM xa)) :=
  PS.imp (ps_expr ha hs) fun D σ H ⟨γ, of, m, hR, p⟩ => (splitF hR p).mono fun v H1 ⟨γ1, of1, m1, a1, e1, R1, rv1, p1⟩ => p1.ret R1
theorem ts_ret (ha : PE X a (tE S xa)) : PS X (.Return (some a) pos) (tS S (retM xa)) :=
  PS.imp (ps_ret ha) fun D σ H ⟨γ, of, m, hR, p⟩ => (splitK hR p).mono fun v H1 ⟨γ1, of1, m1, a1, e1, R1, rr, p1⟩ => p1.ret R1 v rr
theorem ts_retN : PS X (.Return none pos) (tS S (ret (.rt (.val .non)))) := PS.imp ps_retN fun D σ H ⟨γ, of, m, hR, p⟩ => p.ret hR _ (by simp [RR, RV])
theorem ts_if {t : Expr} {yt : M Bool} {sa sb : List Stmt} (ht : PT X t (tT S yt)) (ha : PSs X sa (tS S y)) (hb : PSs X sb (tS S z)) : PS X (.If t sa sb pos) (tS S (ifM yt y z)) :=
  PS.imp (ps_if ht ha hb) fun D σ H ⟨γ, of, m, hR, p⟩ => (splitFT hR p).mono fun k H1 ⟨γ1, of1, m1, e1, R1, p1⟩ => by
    cases k with
    | true => exact iteT ⟨γ1, of1, m1, R1, p1⟩
    | false => exact iteF ⟨γ1, of1, m1, R1, p1⟩
/-- name = e -/
def asgM (i : Nat) (x : M Res) : M Flow := bnd x fun r => doM (setName i r)
theorem ts_set {i : Nat} {x : Str} {pos' : Pos} (hN : X.N.Nodup) (hi : X.N[i]? = some x) (hx : L2.Loc X.env.scope x) (ha : PE X a (tE S xa)) (hs : swapsWith a (some (.Name x pos')) pos.line X.env = pure false) (hf : X.fn x = true ∨ X.env.scope.names.lookup x = some .local) :
    PS X (.Assign [.Name x pos'] a pos) (tS S (asgM i xa)) :=
  PS.imp (ps_set hN hi hx ha hs hf) fun D σ H ⟨γ, of, m, hR, p⟩ => (splitK hR p).mono fun v H1 ⟨γ1, of1, m1, a1, e1, R1, rr, p1⟩ => by
    obtain ⟨m2, R2, p2⟩ := setName_ok R1 rr p1.bnd
    exact p2.ret R2
/-- a, b = e and the like -/
def asgT (t : Val → M Unit) (x : M Res) : M Flow := bnd x fun r => doM (t r.fz)
theorem ts_asg {tg : Expr} {t : Val → M Unit} (ha : PE X a (tE S xa)) (hg : PG X tg (tG S t)) (hs : swapsWithSole [tg] a pos.line X.env = pure false) (hw : swappedStores [tg] a X.env = pure none)
    (h1 : (assignEach [tg] X.env).map (·.2) = [assign tg X.env]) : PS X (.Assign [tg] a pos) (tS S (asgT t xa)) :=
  PS.imp (ps_asg ha hg hs hw h1) fun D σ H ⟨γ, of, m, hR, p⟩ => (splitF hR p).mono fun v H1 ⟨γ1, of1, m1, a1, e1, R1, rv1, p1⟩ => by
    exact ⟨γ1, of1, m1, a1.fz, R1, rv1, p1.bnd.mono (Ext.refl _) fun γ2 of2 σ2 H2 m2 _ e2 R2 q => q.ret R2⟩

/-! ### targets -/
theorem tg_name {i : Nat} {x : Str} (hN : X.N.Nodup) (hi : X.N[i]? = some x) (hx : L2.Loc X.env.scope x) (hf : X.fn x = true ∨ X.env.scope.names.lookup x = some .local) : PG X (.Name x pos) (tG S (Tgt.put (.name i))) := by
  refine ⟨fun pins s σ H v u Q I r h => (pg_name hN hi hx hf).run pins s σ H v u Q I r ?_⟩
  obtain ⟨γ, of, m, d, hR, rv, p⟩ := h
  have p' : PostF S γ (setName i (.val d)) m fun _ _ σ' H' _ _ => Q σ' H' := p
  obtain ⟨m', R', q⟩ := setName_ok (r := .val d) hR rv p'
  exact q
def tGs (S : Sg) (ts : List Tgt) : TGs := fun vs σ H Q => ∃ γ of m ds, S.R γ of σ H m ∧ RVs S.C γ.G γ.ob ds vs ∧ ds.length = ts.length ∧ PostF S γ (Tgt.puts ts ds) m fun _ _ σ' H' _ _ => Q σ' H'
theorem tgs_nil : PGs X [] (tGs S []) := by
  refine ⟨fun pins s σ H vs us Q I r h => pgs_nil.run pins s σ H vs us Q I r ?_⟩
  obtain ⟨γ, of, m, ds, hR, rv, hl, p⟩ := h
  have : ds = [] := List.length_eq_zero_iff.mp hl
  subst this
  simp only [RVs] at rv
  exact ⟨rv, p.ret (a := ()) hR⟩
theorem tgs_cons {e : Expr} {es : List Expr} {t : Tgt} {ts : List Tgt} (h1 : PG X e (tG S (Tgt.put t))) (h2 : PGs X es (tGs S ts)) (hs : (assignEach (e :: es) X.env).map (·.2) = assign e X.env :: (assignEach es X.env).map (·.2)) : PGs X (e :: es) (tGs S (t :: ts)) := by
  refine ⟨fun pins s σ H vs us Q I r h => (pgs_cons h1 h2 hs).run pins s σ H vs us Q I r ?_⟩
  obtain ⟨γ, of, m, ds, hR, rv, hl, p⟩ := h
  cases ds with
  | nil => cases hl
  | cons d ds =>
    simp only [RVs] at rv
    obtain ⟨v, r', rfl, rv1, rv2⟩ := rv
    refine ⟨v, r', rfl, γ, of, m, d, hR, rv1, ?_⟩
    have p' : PostF S γ (bnd (Tgt.put t d) fun _ => Tgt.puts ts ds) m fun _ _ σ' H' _ _ => Q σ' H' := p
    exact p'.bnd.mono (Ext.refl _) fun γ1 of1 σ1 H1 m1 _ e1 R1 q => ⟨γ1, of1, m1, ds, R1, RVs.ext e1 rv2, by simpa using hl, q⟩
theorem tg_tup {es : List Expr} {k : Nat} {ts : List Tgt} (hK : X.K = S.C.K) (hc : X.calm = true) (h : PGs X es (tGs S ts)) (hn : (assignEach es X.env).length = ts.length) (hst : (assignEach es X.env).findIdx? (·.1) = none) : PG X (.Tuple es k pos) (tG S (Tgt.put (.tup ts))) := by
  refine ⟨fun pins s σ H v u Q I r hq => (pg_tup hc h hn hst).run pins s σ H v u Q I r ?_⟩
  obtain ⟨γ, of, m, d, hR, rv, p⟩ := hq
  cases d with
  | tup ds =>
    have p' : PostF S γ (if ts.length = ds.length then Tgt.puts ts ds else stuck) m fun _ _ σ' H' _ _ => Q σ' H' := p
    by_cases hl : ts.length = ds.length
    · rw [if_pos hl] at p'
      have rb := RB.tup hR (RV.b hR rv)
      obtain ⟨a, vs, rfl, h1, h2⟩ := rb
      exact ⟨a, vs, rfl, by rw [hK]; exact h1, by rw [← h2.length, hl], γ, of, m, ds, hR, h2, hl.symm, p'⟩
    · rw [if_neg hl] at p'
      exact p'.stuck.elim
  | _ => exact (PostF.stuck (α := Unit) p).elim

/-! ### lists changed by their methods -/
theorem post_peekL {S : Sg} {γ : Gh} {of : List (List (Option V))} {σ : L2.St} {H : Hp} {m : Mem} {i : Nat} {α : Type} {F : Unit → M α} {R : Gh → List (List (Option V)) → Hp → Mem → α → Prop} (hR : S.R γ of σ H m) (p : Post S γ σ (bnd (peekL i) F) m R) :
    ∃ a vs, Post S γ σ (F ()) m R ∧ σ[i]? = some (some (.ref a)) ∧ H a = some (.lst vs) := by
  have p' : Post S γ σ (bnd (peek i) fun d => match d with
    | .lst _ => F ()
    | _ => stuck) m R := by
    obtain ⟨r, m', h1, h2⟩ := p
    refine ⟨r, m', ?_, h2⟩
    rw [← h1]
    simp only [peekL, bnd]
    cases peek i S.k m with
    | none => rfl
    | some q =>
      obtain ⟨o, m2⟩ := q
      cases o with
      | exc c fs => rfl
      | ok d => cases d <;> rfl
  obtain ⟨d, w, q, e, rb⟩ := post_peek2 hR p'
  cases d with
  | lst ds =>
    obtain ⟨a, vs, rfl, h1, _⟩ := rb.lst
    exact ⟨a, vs, q, e, h1⟩
  | _ => exact q.stuck.elim
/-- a method's rule over my cells -/
def MLink (C : Ctx) (F : List Val → Cell → Option (Cell × Val)) (r : V → List V → Hp → VK → Prop) : Prop := ∀ γ f g H a c c' ds res vs Q, Rel C γ f H g → CR C γ.G γ.ob H a c → RVs C γ.G γ.ob ds vs → F ds c = some (c', res) →
  (∀ o' w, CR C γ.G γ.ob (upd H a o') a c' → RV C γ.G γ.ob res w → Q w (upd H a o')) → r (.ref a) vs H Q
theorem chg_meth {S : Sg} {γ : Gh} {of : List (List (Option V))} {σ : L2.St} {H : Hp} {m : Mem} {i : Nat} {a0 : Addr} {ds : List Val} {vs : List V} {F : List Val → Cell → Option (Cell × Val)} {r : V → List V → Hp → VK → Prop} {Q : VK} (hR : S.R γ of σ H m) (hl : MLink S.C F r)
    (ha : σ[i]? = some (some (.ref a0))) (hv : RVs S.C γ.G γ.ob ds vs) (p : Post S γ σ (bnd (chg i (F ds)) fun v => ret (Res.val v)) m fun γ' of' H' m' r => ∀ v, RR S.C γ' (S.f of' σ) H' m'.g v r → Q v H') : r (.ref a0) vs H Q := by
  obtain ⟨a, c, c', res, e1, cr, e2, k⟩ := chg_ok hR p.bnd
  rw [ha] at e1
  cases e1
  refine hl γ _ _ H a0 c c' ds res vs Q hR cr hv e2 fun o' w cr' rw' => ?_
  obtain ⟨m', R', q⟩ := k o' cr'
  exact q.ret R' w rw'
theorem te_mth1 {i : Nat} {x : Str} {p0 apos : Pos} {name : Str} {id : String} {F : Val → Cell → Option (Cell × Val)} {r : V → List V → Hp → VK → Prop} (slot : PySem.Slot "list" name id) (hty : typeOf (.builtin id) = pure (.type "method_descriptor")) (hm : MtM X id r)
    (hl : MLink S.C (fun ds => match ds with | [d] => F d | _ => fun _ => none) r) (hK : X.K = S.C.K) (hN : X.N[i]? = some x) (hv : Vis X.env.scope x) (hd : (x == ("__debug__" : Str)) = false) (hcd : (x == ("__classdict__" : Str)) = false) (ha : PE X a (tE S xa))
    (hline : (apos.endLine == pos.line) = true) (hs : starEach [a] X.env = [(false, eval a X.env)]) : PE X (.Call (.Attribute (.Name x p0) name apos) [a] [] pos) (tE S (mth1 i F xa)) :=
  PE.imp (pe_bm PySem.F.plainAttrs_list slot hty hm (pe_var hN hv hd hcd) (pa_cons ha pa_nil hs) rfl (by rw [hs]; rfl) hline hs (by rfl)) fun σ H Q ⟨γ, of, m, hR, p⟩ => by
    obtain ⟨a0, vs0, p1, e0, h0⟩ := post_peekL hR p
    refine ⟨_, e0, .inl ⟨rfl, vs0, by rw [hK]; exact .of h0⟩, (split hR p1).mono fun u H2 ⟨γ2, of2, m2, a2, e2, R2, rv2, p2⟩ => ?_⟩
    exact chg_meth (ds := [a2.fz]) (F := fun ds => match ds with | [d] => F d | _ => fun _ => none) R2 hl e0 (.one rv2) p2
theorem te_mth0 {i : Nat} {x : Str} {p0 apos : Pos} {name : Str} {id : String} {F : Cell → Option (Cell × Val)} {r : V → List V → Hp → VK → Prop} (slot : PySem.Slot "list" name id) (hty : typeOf (.builtin id) = pure (.type "method_descriptor")) (hm : MtM X id r)
    (hl : MLink S.C (fun ds => match ds with | [] => F | _ => fun _ => none) r) (hK : X.K = S.C.K) (hN : X.N[i]? = some x) (hv : Vis X.env.scope x) (hd : (x == ("__debug__" : Str)) = false) (hcd : (x == ("__classdict__" : Str)) = false)
    (hline : (apos.endLine == pos.line) = true) : PE X (.Call (.Attribute (.Name x p0) name apos) [] [] pos) (tE S (mth0 i F)) :=
  PE.imp (pe_bm0 PySem.F.plainAttrs_list slot hty hm (pe_var hN hv hd hcd) rfl hline) fun σ H Q ⟨γ, of, m, hR, p⟩ => by
    obtain ⟨a0, vs0, p1, e0, h0⟩ := post_peekL hR p
    exact ⟨_, e0, .inl ⟨rfl, vs0, by rw [hK]; exact .of h0⟩, chg_meth (ds := []) (F := fun ds => match ds with | [] => F | _ => fun _ => none) hR hl e0 .nil p1⟩
theorem ml_append {C : Ctx} : MLink C (fun ds => match ds with | [d] => lAppend d | _ => fun _ => none) rAppend := by
  intro γ f g H a c c' ds res vs Q R cr hv e k
  cases ds with
  | nil => cases e
  | cons d ds =>
    cases ds with
    | cons _ _ => cases e
    | nil =>
      simp only [RVs] at hv
      obtain ⟨v, r, rfl, h1, rfl⟩ := hv
      cases c with
      | lst xs =>
        simp only [lAppend] at e
        split at e
        · rename_i hlt
          cases e
          obtain ⟨ws, hw, rw'⟩ := cr
          refine ⟨a, ws, v, rfl, rfl, hw, by rw [← rw'.length, sizeLine_eq]; unfold lim at hlt; omega, k _ _ ⟨_, upd_same, rw'.append (.one h1)⟩ (by simp [RV])⟩
        · cases e
      | _ => cases e
theorem ml_popAt {C : Ctx} : MLink C (fun ds => match ds with | [d] => lPop d | _ => fun _ => none) rPopAt := by
  intro γ f g H a c c' ds res vs Q R cr hv e k
  cases ds with
  | nil => cases e
  | cons d ds =>
    cases ds with
    | cons _ _ => cases e
    | nil =>
      simp only [RVs] at hv
      obtain ⟨v, r, rfl, h1, rfl⟩ := hv
      cases d with
      | int i =>
        cases c with
        | lst xs =>
          simp only [RV] at h1
          subst h1
          simp only [lPop] at e
          split at e
          · rename_i hsm
            simp only [Option.bind_eq_some_iff, Option.map_eq_some_iff] at e
            obtain ⟨j, e1, y, e2, e3⟩ := e
            cases e3
            obtain ⟨ws, hw, rw'⟩ := cr
            obtain ⟨w, e4, rv⟩ := rw'.get e2
            have q := (ixN_seq e1).1
            simp only [small, decide_eq_true_eq] at hsm
            exact ⟨a, ws, i, j, w, rfl, rfl, hw, by omega, by omega, by rw [← rw'.length]; exact q, e4, k _ _ ⟨_, upd_same, rw'.eraseIdx j⟩ rv⟩
          · cases e
        | _ => cases e
      | _ => cases e
theorem ml_pop0 {C : Ctx} : MLink C (fun ds => match ds with | [] => lPop0 | _ => fun _ => none) rPop := by
  intro γ f g H a c c' ds res vs Q R cr hv e k
  cases ds with
  | cons _ _ => cases e
  | nil =>
    simp only [RVs] at hv
    subst hv
    cases c with
    | lst xs =>
      simp only [lPop0, Option.map_eq_some_iff] at e
      obtain ⟨y, e2, e3⟩ := e
      cases e3
      obtain ⟨ws, hw, rw'⟩ := cr
      obtain ⟨w, e4, rv⟩ := rw'.get e2
      refine ⟨a, ws, w, rfl, rfl, hw, by rw [← rw'.length]; exact e4, k _ _ ⟨_, upd_same, ?_⟩ rv⟩
      rw [List.dropLast_eq_take, List.dropLast_eq_take, ← rw'.length]
      exact rw'.take _
    | _ => cases e
theorem ml_reverse {C : Ctx} : MLink C (fun ds => match ds with | [] => lReverse | _ => fun _ => none) rReverse := by
  intro γ f g H a c c' ds res vs Q R cr hv e k
  cases ds with
  | cons _ _ => cases e
  | nil =>
    simp only [RVs] at hv
    subst hv
    cases c with
    | lst xs =>
      cases e
      obtain ⟨ws, hw, rw'⟩ := cr
      exact ⟨a, ws, rfl, rfl, hw, k _ _ ⟨_, upd_same, rw'.reverse⟩ (by simp [RV])⟩
    | _ => cases e
theorem ml_extend {C : Ctx} : MLink C (fun ds => match ds with | [d] => lExtend d | _ => fun _ => none) rExtend := by
  intro γ f g H a c c' ds res vs Q R cr hv e k
  cases ds with
  | nil => cases e
  | cons d ds =>
    cases ds with
    | cons _ _ => cases e
    | nil =>
      simp only [RVs] at hv
      obtain ⟨v, r, rfl, h1, rfl⟩ := hv
      cases d with
      | lst ys =>
        cases c with
        | lst xs =>
          simp only [RV] at h1
          obtain ⟨b, us, rfl, hb, rb⟩ := h1
          simp only [lExtend] at e
          split at e
          · rename_i hlt
            cases e
            obtain ⟨ws, hw, rw'⟩ := cr
            refine ⟨a, b, ws, us, rfl, rfl, hw, R.G _ _ hb, by rw [← rw'.length, ← rb.length]; exact limLe hlt, k _ _ ⟨_, upd_same, rw'.append rb⟩ (by simp [RV])⟩
          · cases e
        | _ => cases e
      | _ => cases e

/-! ### name[k] = e, a list -/
theorem ts_store {i : Nat} {x : Str} {p0 p1 : Pos} {F : Val → Val → Cell → Option (Cell × Unit)} {t : TSet} (hset : PSet X t)
    (hl : ∀ γ f g H (a : Addr) c c' k v kv vv Q, Rel S.C γ f H g → CR S.C γ.G γ.ob H a c → RV S.C γ.G γ.ob k kv → RV S.C γ.G γ.ob v vv → F k v c = some (c', ()) → (∀ o', CR S.C γ.G γ.ob (upd H a o') a c' → Q (upd H a o')) → t (.ref a) kv vv H Q)
    (hN : X.N[i]? = some x) (hv : Vis X.env.scope x) (hd : (x == ("__debug__" : Str)) = false) (hcd : (x == ("__classdict__" : Str)) = false) (hb : PE X b (tE S xb)) (ha : PE X a (tE S xa))
    (hs : swapsWithSole [.Subscript (.Name x p0) b p1] a pos.line X.env = pure false) (hw : swappedStores [.Subscript (.Name x p0) b p1] a X.env = pure none) (h1 : (assignEach [.Subscript (.Name x p0) b p1] X.env).map (·.2) = [assign (.Subscript (.Name x p0) b p1) X.env])
    (h2 : ∀ v, assign (.Subscript (.Name x p0) b p1) X.env v = (do
      let ov ← holding [v] (eval (.Name x p0) X.env)
      let iv ← holding [v, ov] (eval b X.env)
      standAt p1
      holding [v, ov, iv] (setItem ov iv v)
      release [v, ov, iv] [])) :
    PS X (.Assign [.Subscript (.Name x p0) b p1] a pos) (tS S (bnd xa fun v => bnd (peek i) fun _ => bnd xb fun k => doM (chg i (F k.fz v.fz)))) :=
  PS.imp (ps_asg ha (pg_sub (pe_var hN hv hd hcd) hb hset h2) hs hw h1) fun D σ H ⟨γ, of, m, hR, p⟩ => (splitF hR p).mono fun v H1 ⟨γ1, of1, m1, a1, e1, R1, rv1, p1⟩ => by
    have p1' := p1.at (σ := σ)
    obtain ⟨d, w, p2, e0⟩ := post_peek R1 p1'
    refine ⟨w, e0, (split R1 p2).mono fun u H2 ⟨γ2, of2, m2, a2, e2, R2, rv2, p3⟩ => ?_⟩
    obtain ⟨aa, c, c', res, e3, cr, e4, k⟩ := chg_ok R2 p3.bnd
    rw [e0] at e3
    cases e3
    refine hl γ2 _ _ H2 aa c c' _ _ u v _ R2 cr rv2 (rv1.ext e2) e4 fun o' cr' => ?_
    obtain ⟨m', R', q⟩ := k o' cr'
    exact q.ret R'
theorem sl_list_store {C : Ctx} : ∀ γ f g H (a : Addr) c c' k v kv vv Q, Rel C γ f H g → CR C γ.G γ.ob H a c → RV C γ.G γ.ob k kv → RV C γ.G γ.ob v vv → (match k, c with
    | .int i, .lst xs => (ixN xs.length i).map fun j => (Cell.lst (xs.set j v), ())
    | _, _ => none) = some (c', ()) → (∀ o', CR C γ.G γ.ob (upd H a o') a c' → Q (upd H a o')) → rSetL (.ref a) kv vv H Q := by
  intro γ f g H a c c' k v kv vv Q R cr rk rv e q
  cases k with
  | int i =>
    cases c with
    | lst xs =>
      simp only [Option.map_eq_some_iff] at e
      obtain ⟨j, e1, e2⟩ := e
      cases e2
      simp only [RV] at rk
      subst rk
      obtain ⟨ws, hw, rw'⟩ := cr
      exact ⟨a, ws, i, j, rfl, rfl, hw, by rw [← rw'.length]; exact e1, q _ ⟨_, upd_same, rw'.set j rv⟩⟩
    | _ => cases e
  | _ => cases e
end
end Iv

/-! Iv: calls. -/
namespace Iv
open PySem L2

/-- an argument: a value, or a container of some frame -/
def RA (C : Ctx) (γ : Gh) (f : Fs) : Arg → V → Prop
  | .val d, v => RV C γ.G γ.ob d v
  | .rf d i, v => d < f.st.length ∧ ∃ a, v = .ref a ∧ f.at (.st d i) = some (some (.ref a))
/-- the promise of a def whose semantics is k's f -/
def spD (C : Ctx) (k : CallF) (fid n : Nat) : Sp := fun vs H Q E => vs.length = n ∧ ∃ γ f g args r g', Rel C γ f H g ∧ Paired (RA C γ f) args vs ∧ k fid args g = some (r, g') ∧ match r with
  | .ok res => ∀ γ' of' H' v, Ext γ γ' → Rel C γ' ⟨f.st, of'⟩ H' g' → RR C γ' ⟨f.st, of'⟩ H' g' v res → Q v H'
  | .exc c fs => ∀ γ' of' H' cls d, Ext γ γ' → Rel C γ' ⟨f.st, of'⟩ H' g' → ExcRel C γ' H' c fs cls d → E cls d H'

def tR (S : Sg) (x : M (List Arg)) : TA := fun σ H Q => ∃ γ of m, S.R γ of σ H m ∧ Post S γ σ x m fun γ' of' H' m' as => ∀ vs, Paired (RA S.C γ' (S.f of' σ)) as vs → Q vs H'
def tR1 (S : Sg) (x : M Arg) : TE := fun σ H Q => ∃ γ of m, S.R γ of σ H m ∧ Post S γ σ x m fun γ' of' H' m' a => ∀ v, RA S.C γ' (S.f of' σ) a v → Q v H'

section
variable {X : Cx} {S : Sg} {a b : Expr} {es : List Expr} {xa xb : M Res} {ra : M Arg} {rs : List (M Arg)} {pos : Pos}
theorem RA.ext {C : Ctx} {γ γ' : Gh} {st : List (List (Option V))} {of of' : List (List (Option V))} {a : Arg} {v : V} (e : Ext γ γ') (h : RA C γ ⟨st, of⟩ a v) : RA C γ' ⟨st, of'⟩ a v := by
  cases a with
  | val d => exact RV.ext e h
  | rf d i => exact h
theorem tr_val (ha : PE X a (tE S xa)) : PE X a (tR1 S (argC xa)) := PE.imp ha fun σ H Q ⟨γ, of, m, hR, p⟩ => (split hR p).mono fun v H1 ⟨γ1, of1, m1, a1, e1, R1, rv1, p1⟩ => p1.ret R1 v rv1
theorem argR_ok {γ : Gh} {of : List (List (Option V))} {σ : L2.St} {H : Hp} {m : Mem} {i : Nat} {R : Gh → List (List (Option V)) → Hp → Mem → Arg → Prop} (hR : S.R γ of σ H m) (h : Post S γ σ (argR i) m R) :
    ∃ v a, σ[i]? = some (some v) ∧ RA S.C γ (S.f of σ) a v ∧ R γ of H m a := by
  have hl : (S.f of σ).st.length = m.stk.length + 1 := by
    show (S.fr ++ [σ]).length = _
    rw [List.length_append, Sg.len hR]; rfl
  cases e : m.env[i]? with
  | none => exact (post_none h (by simp [argR, e])).elim
  | some s =>
    have q := hR.slot (.st m.stk.length i) s (by rw [m.at_cur]; exact e)
    cases s with
    | no => exact (post_none h (by simp [argR, e])).elim
    | val d =>
      have p := post_some h (a := .val d) (m' := m) (by simp [argR, e])
      obtain ⟨x, h1, h2⟩ := q
      rw [Sg.at_cur hR] at h1
      exact ⟨x, .val d, h1, h2, p γ of H (Ext.refl γ) hR⟩
    | own c =>
      have p := post_some h (a := .rf m.stk.length i) (m' := m) (by simp [argR, e])
      obtain ⟨x, h1, _⟩ := q
      have h1' := h1
      rw [Sg.at_cur hR] at h1'
      exact ⟨_, .rf m.stk.length i, h1', ⟨by omega, x, rfl, h1⟩, p γ of H (Ext.refl γ) hR⟩
    | lock c =>
      have p := post_some h (a := .rf m.stk.length i) (m' := m) (by simp [argR, e])
      obtain ⟨x, h1, _⟩ := q
      have h1' := h1
      rw [Sg.at_cur hR] at h1'
      exact ⟨_, .rf m.stk.length i, h1', ⟨by omega, x, rfl, h1⟩, p γ of H (Ext.refl γ) hR⟩
    | rf d j =>
      have p := post_some h (a := .rf d j) (m' := m) (by simp [argR, e])
      obtain ⟨x, h1, h2⟩ := Sg.rf_at hR e
      obtain ⟨d', i', e', hlt, _⟩ := q
      cases e'
      exact ⟨_, .rf d j, h1, ⟨by omega, x, rfl, h2⟩, p γ of H (Ext.refl γ) hR⟩
theorem tr_ref {i : Nat} {x : Str} (hN : X.N[i]? = some x) (hv : Vis X.env.scope x) (hd : (x == ("__debug__" : Str)) = false) (hcd : (x == ("__classdict__" : Str)) = false) : PE X (.Name x pos) (tR1 S (argR i)) :=
  PE.imp (pe_var hN hv hd hcd) fun σ H Q ⟨γ, of, m, hR, p⟩ => by
    obtain ⟨v, a, e, ra, q⟩ := argR_ok hR p
    exact ⟨v, e, q v ra⟩
theorem trs_nil : PA X [] (tR S (argL [])) := PA.imp pa_nil fun σ H Q ⟨γ, of, m, hR, p⟩ => p.ret hR [] .nil
theorem trs_cons (ha : PE X a (tR1 S ra)) (hr : PA X es (tR S (argL rs))) (hs : starEach (a :: es) X.env = (false, eval a X.env) :: starEach es X.env) : PA X (a :: es) (tR S (argL (ra :: rs))) :=
  PA.imp (pa_cons ha hr hs) fun σ H Q ⟨γ, of, m, hR, p⟩ => by
    refine ⟨γ, of, m, hR, p.bnd.mono (Ext.refl _) fun γ1 of1 H1 m1 a1 e1 R1 q v rv => ?_⟩
    exact ⟨γ1, of1, m1, R1, q.bnd.mono (Ext.refl _) fun γ2 of2 H2 m2 as e2 R2 q2 vs rvs => q2.ret R2 _ (.cons (RA.ext e2 rv) rvs)⟩

/-- behind the arguments: the callee -/
theorem call_sp {γ : Gh} {of : List (List (Option V))} {σ : L2.St} {H : Hp} {m : Mem} {fid n : Nat} {as : List Arg} {vs : List V} {Q : VK} (hR : S.R γ of σ H m) (hv : Paired (RA S.C γ (S.f of σ)) as vs) (hn : vs.length = n)
    (p : Post S γ σ (callM fid as) m fun γ' of' H' m' r => ∀ v, RR S.C γ' (S.f of' σ) H' m'.g v r → Q v H') : spD S.C S.k fid n vs H Q (WE S.W σ) := by
  obtain ⟨r, m', h1, h2⟩ := p
  unfold callM at h1
  cases e : S.k fid as ⟨m.stk ++ [m.env], m.objs⟩ with
  | none => rw [e] at h1; cases h1
  | some q =>
    obtain ⟨o, g'⟩ := q
    rw [e] at h1
    refine ⟨hn, γ, S.f of σ, m.g, as, o, g', hR, hv, e, ?_⟩
    have glen : ∀ {γ' : Gh} {of' : List (List (Option V))} {H' : Hp}, Rel S.C γ' ⟨(S.f of σ).st, of'⟩ H' g' → ∀ env, g'.stk[m.stk.length]? = some env → Mem.g ⟨g'.stk.take m.stk.length, env, g'.objs⟩ = g' := by
      intro γ' of' H' R env he
      have l1 : g'.stk.length = m.stk.length + 1 := by
        rw [← R.len]
        show (S.fr ++ [σ]).length = _
        rw [List.length_append, Sg.len hR]; rfl
      show Glob.mk (g'.stk.take m.stk.length ++ [env]) g'.objs = g'
      have : g'.stk.take m.stk.length ++ [env] = g'.stk := by
        have e1 : g'.stk.take (m.stk.length + 1) = g'.stk.take m.stk.length ++ [env] := by rw [List.take_add_one, he]; rfl
        rw [← e1]
        exact List.take_of_length_le (by omega)
      rw [this]
    cases o with
    | ok res =>
      simp only at h1 ⊢
      cases he : g'.stk[m.stk.length]? with
      | none => rw [he] at h1; cases h1
      | some env =>
        rw [he] at h1
        cases h1
        intro γ' of' H' v ext R' rr
        have eg := glen R' env he
        exact h2 γ' of' H' ext (by show Rel _ _ _ _ (Mem.g _); rw [eg]; exact R') v (by rw [eg]; exact rr)
    | exc c fs =>
      simp only at h1 ⊢
      cases he : g'.stk[m.stk.length]? with
      | none => rw [he] at h1; cases h1
      | some env =>
        rw [he] at h1
        cases h1
        intro γ' of' H' cls d ext R' er
        have eg := glen R' env he
        exact h2 γ' of' H' cls d ext (by show Rel _ _ _ _ (Mem.g _); rw [eg]; exact R') er

/-- f(e, ..) -/
theorem argL_len : ∀ {rs : List (M Arg)} {k : CallF} {m m' : Mem} {as : List Arg}, argL rs k m = some (.ok as, m') → as.length = rs.length
  | [], k, m, m', as, h => by simp [argL, ret] at h; simp [h.1]
  | r :: rs, k, m, m', as, h => by
    simp only [argL, bnd] at h
    split at h
    · split at h
      · rename_i e2
        simp [ret] at h
        rw [← h.1, List.length_cons, List.length_cons, argL_len e2]
      · cases h
      · cases h
    · cases h
    · cases h
theorem tR_call {σ : L2.St} {H : Hp} {Q : VK} {fid n : Nat} (hn : rs.length = n) (h : tE S (bnd (argL rs) (callM fid)) σ H Q) : tR S (argL rs) σ H fun vs H1 => spD S.C S.k fid n vs H1 Q (WE S.W σ) := by
  obtain ⟨γ, of, m, hR, p⟩ := h
  obtain ⟨r, m1, e1, h1⟩ := p.bnd
  refine ⟨γ, of, m, hR, r, m1, e1, ?_⟩
  cases r with
  | exc c fs => exact h1
  | ok as => exact fun γ1 of1 H1 e2 R1 vs hv => call_sp R1 hv (by rw [← hv.length, argL_len e1, hn]) (h1 γ1 of1 H1 e2 R1)
theorem te_call {CX : CXT} {k : Nat} {f : Addr} {fd : FuncData} {ps : List Str} {x : Str} {p : Pos} {fid n : Nat} {e : Expr} (F : FnOk X.prog X.w X.K X.mg X.base (L2.CX X.prog X.w) k f fd ps (spD S.C S.k fid n)) (hr : Room k X.A) (hg : Gl X x) (hm : X.mg x = some (.ref f))
    (hk : PySem.W.keepIn X.K (.ref f) = true) (hb : Binds X.K fd ps []) (tk : Takes X S.W) (ha : PA X (e :: es) (tR S (argL rs))) (hn : rs.length = n) (hdb : (x == ("__debug__" : Str)) = false)
    (he : starEach (e :: es) X.env = (false, eval e X.env) :: starEach es X.env) (hpl : (backTo pos (starEach es X.env)).any (·.1) = false) : PE X (.Call (.Name x p) (e :: es) [] pos) (tE S (bnd (argL rs) (callM fid))) :=
  PE.imp (pe_callS F hr hg hm hk hb (fun σ => passAt tk σ) ha hdb he hpl) fun σ H Q h => tR_call hn h
theorem pe_callS0 {CX : CXT} {k : Nat} {f : Addr} {fd : FuncData} {ps : List Str} {x : Str} {p : Pos} {sp : Sp} {E : L2.St → XK} (F : FnOk X.prog X.w X.K X.mg X.base CX k f fd ps sp) (hr : Room k X.A) (hg : Gl X x) (hm : X.mg x = some (.ref f))
    (hk : PySem.W.keepIn X.K (.ref f) = true) (hb : Binds X.K fd ps []) (hx : ∀ σ, PassesAt CX X σ (E σ)) (hdb : (x == ("__debug__" : Str)) = false) : PE X (.Call (.Name x p) [] [] pos) (tCallS sp E tNil) := by
  refine ⟨fun pins s σ H Q I h => ?_⟩
  have go := run_fnS (us := []) (Q := Q) F hr hb (hx σ) I .nil h
  exact wpAny_Call_Name_kw (ld_glob I hg hm (PySem.W.callWith_K0 I.kIn hk go) hdb)
theorem te_call0 {k : Nat} {f : Addr} {fd : FuncData} {ps : List Str} {x : Str} {p : Pos} {fid : Nat} (F : FnOk X.prog X.w X.K X.mg X.base (L2.CX X.prog X.w) k f fd ps (spD S.C S.k fid 0)) (hr : Room k X.A) (hg : Gl X x) (hm : X.mg x = some (.ref f))
    (hk : PySem.W.keepIn X.K (.ref f) = true) (hb : Binds X.K fd ps []) (tk : Takes X S.W) (hdb : (x == ("__debug__" : Str)) = false) : PE X (.Call (.Name x p) [] [] pos) (tE S (bnd (argL []) (callM fid))) :=
  PE.imp (pe_callS0 F hr hg hm hk hb (fun σ => passAt tk σ) hdb) fun σ H Q ⟨γ, of, m, hR, p⟩ => call_sp hR .nil rfl (p.bnd.ret hR)

/-! ### built-in functions -/
def fn1 (F : Val → Option Res) (x : M Res) : M Res := bnd x fun r => lift (F r.fz)
def fn2 (F : Val → Val → Option Res) (x y : M Res) : M Res := bnd x fun r => bnd y fun s => lift (F r.fz s.fz)
theorem te_fn1B {id : String} {x : Str} {p : Pos} {F : Val → Option Res} (hc : CallR X (.builtin id) (rFn1 S.C F)) (hg : Gl X x) (hm : X.mg x = none) (hv : bootBuiltins x = some (.builtin id)) (ha : PE X a (tE S xa)) (hn : x ≠ "__name__") (hdb : (x == ("__debug__" : Str)) = false)
    (hs : starEach [a] X.env = [(false, eval a X.env)]) : PE X (.Call (.Name x p) [a] [] pos) (tE S (fn1 F xa)) :=
  PE.imp (pe_callB hc hg hm hv (pa_cons ha pa_nil hs) hn hdb hs (by rfl)) fun σ H Q ⟨γ, of, m, hR, p⟩ => (split hR p).mono fun v H1 ⟨γ1, of1, m1, a1, e1, R1, rv1, p1⟩ => by
    obtain ⟨r, er, y⟩ := post_yield p1
    exact ⟨v, rfl, γ1, _, m1.g, a1.fz, r, R1, rv1.b R1, er, y⟩
theorem te_fn1T {T : String} {x : Str} {p : Pos} {F : Val → Option Res} (hc : CallR X (.type T) (rFn1 S.C F)) (hg : Gl X x) (hm : X.mg x = none) (hv : bootBuiltins x = some (.type T)) (ha : PE X a (tE S xa)) (hn : x ≠ "__name__") (hdb : (x == ("__debug__" : Str)) = false)
    (hs : starEach [a] X.env = [(false, eval a X.env)]) : PE X (.Call (.Name x p) [a] [] pos) (tE S (fn1 F xa)) :=
  PE.imp (pe_callTy hc hg hm hv (pa_cons ha pa_nil hs) hn hdb hs (by rfl)) fun σ H Q ⟨γ, of, m, hR, p⟩ => (split hR p).mono fun v H1 ⟨γ1, of1, m1, a1, e1, R1, rv1, p1⟩ => by
    obtain ⟨r, er, y⟩ := post_yield p1
    exact ⟨v, rfl, γ1, _, m1.g, a1.fz, r, R1, rv1.b R1, er, y⟩
theorem te_fn2B {id : String} {x : Str} {p : Pos} {F : Val → Val → Option Res} (hc : CallR X (.builtin id) (rFn2 S.C F)) (hg : Gl X x) (hm : X.mg x = none) (hv : bootBuiltins x = some (.builtin id)) (ha : PE X a (tE S xa)) (hb : PE X b (tE S xb)) (hn : x ≠ "__name__") (hdb : (x == ("__debug__" : Str)) = false)
    (hs1 : starEach [a, b] X.env = (false, eval a X.env) :: starEach [b] X.env) (hs2 : starEach [b] X.env = [(false, eval b X.env)]) : PE X (.Call (.Name x p) [a, b] [] pos) (tE S (fn2 F xa xb)) :=
  PE.imp (pe_callB hc hg hm hv (pa_cons ha (pa_cons hb pa_nil hs2) hs1) hn hdb hs1 (by rw [hs2]; rfl)) fun σ H Q ⟨γ, of, m, hR, p⟩ => (split hR p).mono fun v H1 ⟨γ1, of1, m1, a1, e1, R1, rv1, p1⟩ =>
    (split R1 p1).mono fun u H2 ⟨γ2, of2, m2, a2, e2, R2, rv2, p2⟩ => by
      obtain ⟨r, er, y⟩ := post_yield p2
      exact ⟨v, u, rfl, γ2, _, m2.g, a1.fz, a2.fz, r, R2, (rv1.ext e2).b R2, rv2.b R2, er, y⟩
/-- a name's container is looked at -/
def fnN (F : Val → Option Res) (i : Nat) : M Res := bnd (peek i) fun d => lift (F d)
theorem te_fnNB {id : String} {x y : Str} {p p0 : Pos} {i : Nat} {F : Val → Option Res} (hc : CallR X (.builtin id) (rFn1 S.C F)) (hg : Gl X x) (hm : X.mg x = none) (hv : bootBuiltins x = some (.builtin id)) (hN : X.N[i]? = some y) (hvy : Vis X.env.scope y) (hd : (y == ("__debug__" : Str)) = false)
    (hcd : (y == ("__classdict__" : Str)) = false) (hn : x ≠ "__name__") (hdb : (x == ("__debug__" : Str)) = false) : PE X (.Call (.Name x p) [.Name y p0] [] pos) (tE S (fnN F i)) :=
  PE.imp (pe_callB hc hg hm hv (pa_cons (pe_var hN hvy hd hcd) pa_nil) hn hdb (by rfl) (by rfl)) fun σ H Q ⟨γ, of, m, hR, p⟩ => by
    obtain ⟨d, w, p1, e0, rb⟩ := post_peek2 hR p
    obtain ⟨r, er, y⟩ := post_yield p1
    exact ⟨w, e0, w, rfl, γ, _, m.g, d, r, hR, rb, er, y⟩
theorem te_fnNT {T : String} {x y : Str} {p p0 : Pos} {i : Nat} {F : Val → Option Res} (hc : CallR X (.type T) (rFn1 S.C F)) (hg : Gl X x) (hm : X.mg x = none) (hv : bootBuiltins x = some (.type T)) (hN : X.N[i]? = some y) (hvy : Vis X.env.scope y) (hd : (y == ("__debug__" : Str)) = false)
    (hcd : (y == ("__classdict__" : Str)) = false) (hn : x ≠ "__name__") (hdb : (x == ("__debug__" : Str)) = false) : PE X (.Call (.Name x p) [.Name y p0] [] pos) (tE S (fnN F i)) :=
  PE.imp (pe_callTy hc hg hm hv (pa_cons (pe_var hN hvy hd hcd) pa_nil) hn hdb (by rfl) (by rfl)) fun σ H Q ⟨γ, of, m, hR, p⟩ => by
    obtain ⟨d, w, p1, e0, rb⟩ := post_peek2 hR p
    obtain ⟨r, er, y⟩ := post_yield p1
    exact ⟨w, e0, w, rfl, γ, _, m.g, d, r, hR, rb, er, y⟩

/-! ### a name is returned -/
theorem nameR_ok {γ : Gh} {of : List (List (Option V))} {σ : L2.St} {H : Hp} {m : Mem} {i : Nat} {D : Ends} (hR : S.R γ of σ H m) (h : PostF S γ (retM (nameR i)) m (RF S D)) : ∃ v, σ[i]? = some (some v) ∧ D.rt v H := by
  cases e : m.env[i]? with
  | none => exact (postF_none h (by simp [retM, bnd, nameR, nameC, e])).elim
  | some s =>
    have other : (∀ c, s ≠ .own c) → ∃ v, σ[i]? = some (some v) ∧ D.rt v H := fun hs => by
      have e' : nameR i S.k m = nameC i S.k m := by
        unfold nameR
        rw [e]
        cases s <;> first | rfl | (rename_i c; exact (hs c rfl).elim)
      have h' : PostF S γ (retM (nameC i)) m (RF S D) := by
        obtain ⟨r, m', h1, h2⟩ := h
        refine ⟨r, m', ?_, h2⟩
        rw [← h1]
        simp only [retM, bnd, e']
      obtain ⟨v, γ1, m1, r, e1, ext, R1, rv, q⟩ := nameC_ok hR (h'.bnd.at (σ := σ))
      exact ⟨v, e1, q.ret R1 v rv⟩
    cases s with
    | own c =>
      obtain ⟨a, h1, cr, g0, f0⟩ := hR.slot (.st m.stk.length i) _ (by rw [m.at_cur]; exact e)
      have h1' := h1
      rw [Sg.at_cur hR] at h1'
      refine ⟨.ref a, h1', ?_⟩
      have q := postF_some h.bnd (a := .new c) (m' := { m with env := m.env.set i .no }) (by simp [nameR, e])
      have R' := hR.store (i := i) (s0 := .own c) (s1 := .no) (x := none) (d := m.stk.length) (by simp [Mem.g]) (by rw [m.at_cur]; exact e) rfl (.inl rfl)
      rw [m.set_cur, Sg.set_cur hR] at R'
      refine (q γ of _ H (Ext.refl γ) R').ret R' _ ⟨a, rfl, cr, g0, f0, ?_, fun z => ?_⟩
      · rintro ⟨l, s, c', k1, k2, k3⟩
        have a0 : m.g.at (.st m.stk.length i) = some (.own c) := by rw [m.at_cur]; exact e
        rw [← m.set_cur, m.g.at_set a0] at k1
        by_cases hl : Loc.st m.stk.length i = l
        · rw [if_pos hl] at k1; cases k1; cases k2
        · rw [if_neg hl] at k1
          rw [← Sg.set_cur hR, Fs.at_set h1, if_neg hl] at k3
          exact hl (hR.uniq _ _ _ _ _ _ _ a0 k1 rfl k2 h1 k3)
      · obtain ⟨⟨_, _, _, q1⟩, _⟩ := hR.isOb z
        obtain ⟨o, q2, _, q3⟩ := cr.some
        rw [q1] at q2
        cases q2
        exact q3 _ _ _ rfl
    | _ => exact other fun c z => by cases z
theorem ts_retName {i : Nat} {x : Str} {p0 : Pos} (hN : X.N[i]? = some x) (hv : Vis X.env.scope x) (hd : (x == ("__debug__" : Str)) = false) (hcd : (x == ("__classdict__" : Str)) = false) : PS X (.Return (some (.Name x p0)) pos) (tS S (retM (nameR i))) :=
  PS.imp (ps_ret (pe_var hN hv hd hcd)) fun D σ H ⟨γ, of, m, hR, p⟩ => nameR_ok hR p
end
end Iv

/-! Iv: the promises of defs where no repr runs around (guards are known). -/
namespace Iv
open PySem L2 PySem.Spec PyProof.Rows

structure FnG (P : Program) (w : World) (K : PySem.W.Frag) (mg : Str → Option Value) (base : Heap) (k : Nat) (f : Addr) (fd : FuncData) (ps : List Str) (sp : Sp) : Prop where
  len : ∀ xs H Q E, sp xs H Q E → xs.length = ps.length
  run : ∀ (A : Around) (outer : List PySem.Env) (z : Shared) (H : Hp) (args : Args) (us : List Value) (xs : List V) (Q : VK) (E : XK), A.guards = some [] → Room k A → Env0 P w K mg base A outer z H → BindsTo z fd args (ps.zip us) → Vals xs us → sp xs H Q E →
    codeAny (model P w) A (.call (.ref f) args) (L2.CR (L2.CX P w) outer P w H z Q E) z
section
variable {P : Program} {w : World} {K : PySem.W.Frag} {mg : Str → Option Value} {base : Heap}
theorem FnG.of {x qual : Str} {st : Stmt} {f : Addr} {fd : FuncData} {N ps : List Str} {k : Nat} {sp : Sp} (F : Fun K x qual st f fd) (S : FnScope N ps (defScope st)) (len : ∀ xs H Q E, sp xs H Q E → xs.length = ps.length)
    (hb : ∀ (cdv : Value) (A : Around) (outer : List PySem.Env) (z : Shared) (H : Hp) (xs : List V) (Q : VK) (E : XK), A.guards = some [] → Room k (A.deeper (envOfC qual (defScope st) z.heap.objs.size f cdv)) → sp xs H Q E →
      ∃ t, PSs (cxOf (L2.CX P w) P w K mg base N qual (defScope st) f cdv A outer z H E) (defBody st) t ∧ t { nx := fun _ H' => Q .non H', rt := Q } (start N xs) H) : FnG P w K mg base (k + 1) f fd ps sp := by
  obtain ⟨oc, od, kV, doc, pm, an, cdv, ct, osl, rfl, lk, hcd⟩ := F.ex
  refine ⟨len, fun A outer z H args us xs Q E hgd room e0 bt r hsp => ?_⟩
  have keep0 : ∀ b o, base.get? b = some o → z.heap.get? b = some o := fun b o e => (e0.bs b o e).1
  have inK : K.In z.heap := e0.mod.kin.keeps keep0
  have kinds : ∀ y ∈ ps.zip us, (defScope st).names.lookup y.1 = some .local ∨ ((defScope st).names.lookup y.1 = some .cell ∧ ((cellsFrom (z.heap.objs.size + 1) (defScope st).names []).lookup y.1).isSome = true) := by
    rintro ⟨n, v⟩ hy
    exact (S.par n (List.of_mem_zip hy).1).elim .inl fun q => .inr ⟨q, PySem.W.cellsFrom_some _ _ _ (.inl q)⟩
  refine codeAny_call_function room.depth (inK _ _ lk) rfl S.co S.gen rfl (PySem.W.codeRec_of inK hcd) (bt _ _ _ _ (wpAny_newFunctionEnv_cells S.kind kinds fun env he z1 ic => ?_))
  subst he
  refine ⟨(e0.mod.nolimit.keeps keep0).keeps ic.toInCall.keep, codeAny_func ?_⟩
  obtain ⟨t, ht, hq⟩ := hb cdv A outer z H xs Q E hgd (room.deeper _) hsp
  have I0 := inv_start (CX := L2.CX P w) (E := E) (qual := qual) (f := f) (cd := cdv) S room.hd e0 (len _ _ _ _ hsp) r ic
  refine wpAny_mono (ht.run [] z1 (start N xs) H _ I0 hq) (fun fl z' hs => ?_) fun _ _ hs => hs
  match fl, hs with
  | .ret u, hs =>
    obtain ⟨v, σ', H', J, rv, q⟩ := hs
    exact ⟨v, H', J.os, J.bare, J.base, J.hok, rv, q⟩
  | .next, hs =>
    obtain ⟨σ', H', J, q⟩ := hs
    exact ⟨.non, H', J.os, J.bare, J.base, J.hok, rfl, q⟩
  | .brk, hs => obtain ⟨_, _, _, q⟩ := hs; exact False.elim q
  | .cont, hs => obtain ⟨_, _, _, q⟩ := hs; exact False.elim q
theorem FnG.mono {j k : Nat} {f : Addr} {fd : FuncData} {ps : List Str} {sp : Sp} (F : FnG P w K mg base j f fd ps sp) (h : j ≤ k) : FnG P w K mg base k f fd ps sp := ⟨F.len, fun A outer z H args us xs Q E hg hr => F.run A outer z H args us xs Q E hg (hr.mono h)⟩
end

section
variable {X : Cx} {S : Sg} {k : Nat} {f : Addr} {fd : FuncData} {ps : List Str} {sp : Sp} {x : Str} {p pos : Pos} {e : Expr} {es : List Expr} {rs : List (M Arg)} {fid n : Nat}
theorem FnG.call {pins : List (Addr × PySem.Obj)} {σ : L2.St} {H : Hp} {z : Shared} {Q : VK} {us : List Value} {xs : List V} (F : FnG X.prog X.w X.K X.mg X.base k f fd ps sp) (hgd : X.A.guards = some []) (hr : Room k X.A) (hb : Binds X.K fd ps []) (tk : Takes X S.W)
    (I : L2.Inv X pins σ H z) (r : Vals xs us) (h : sp xs H Q (WE S.W σ)) : wpAny (model X.prog X.w) X.A (call (.ref f) us) (EP X pins σ Q) X.xe z := by
  have b := hb z us I.kIn (by rw [List.append_nil, ← r.length]; exact F.len _ _ _ _ h)
  rw [List.append_nil] at b
  refine wpAny_call (codeAny_mono (F.run X.A X.stack z H ⟨us, []⟩ us xs Q (WE S.W σ) hgd hr I.env0 b r h) fun r z' hq => ?_)
  match r, hq with
  | .error u, hq => exact passAt tk σ pins H z u z' I hq
  | .ok (.ret u), hq => exact I.after hq
  | .ok .next, hq => exact False.elim hq
  | .ok .brk, hq => exact False.elim hq
  | .ok .cont, hq => exact False.elim hq
theorem te_callG (F : FnG X.prog X.w X.K X.mg X.base k f fd ps (spD S.C S.k fid n)) (hgd : X.A.guards = some []) (hr : Room k X.A) (hg : Gl X x) (hm : X.mg x = some (.ref f)) (hk : PySem.W.keepIn X.K (.ref f) = true) (hb : Binds X.K fd ps []) (tk : Takes X S.W)
    (ha : PA X (e :: es) (tR S (argL rs))) (hn : rs.length = n) (hdb : (x == ("__debug__" : Str)) = false) (he : starEach (e :: es) X.env = (false, eval e X.env) :: starEach es X.env) (hpl : (backTo pos (starEach es X.env)).any (·.1) = false) :
    PE X (.Call (.Name x p) (e :: es) [] pos) (tE S (bnd (argL rs) (callM fid))) :=
  ⟨fun pins z σ H Q I h => wpAny_Call_Name_kw (ld_glob I hg hm (PySem.W.callWith_K (h₀ := X.base) I.ok.mod.kin hk (thn (ha.run pos pins z σ H _ I (tR_call hn h)) fun us z1 ⟨xs, H1, I1, r, q⟩ => ⟨I1.kIn, F.call hgd hr hb tk I1 r q⟩) he hpl) hdb)⟩
theorem te_call0G (F : FnG X.prog X.w X.K X.mg X.base k f fd ps (spD S.C S.k fid 0)) (hgd : X.A.guards = some []) (hr : Room k X.A) (hg : Gl X x) (hm : X.mg x = some (.ref f)) (hk : PySem.W.keepIn X.K (.ref f) = true) (hb : Binds X.K fd ps []) (tk : Takes X S.W)
    (hdb : (x == ("__debug__" : Str)) = false) : PE X (.Call (.Name x p) [] [] pos) (tE S (bnd (argL []) (callM fid))) :=
  ⟨fun pins z σ H Q I ⟨γ, of, m, hR, p⟩ => wpAny_Call_Name_kw (ld_glob I hg hm (PySem.W.callWith_K0 I.kIn hk (F.call (us := []) hgd hr hb tk I .nil (call_sp hR .nil rfl (p.bnd.ret hR)))) hdb)⟩
end
end Iv

/-! Iv: repr, membership. -/
namespace Iv
open PySem L2

section
variable {X : Cx} {C : Ctx}
theorem cr_repr (hK : X.K = C.K) (hgd : X.A.guards = some []) (hu : X.A.units + 65 < cLine) : CallR X (.builtin "repr") (rFn1 C bRepr) := by
  intro pins s σ H xs us Q I r h
  obtain ⟨v, rfl, γ, f, g, a, res, R, ha, e, y⟩ := h
  simp only [bRepr] at e
  split at e
  · rename_i hc
    cases e
    simp only [Bool.and_eq_true, decide_eq_true_eq] at hc
    obtain ⟨⟨h1, h2⟩, h3⟩ := hc
    have q : Q (.str (PyData.shown a.data)) H := y.val R (rv_str _)
    have fin : ∀ h' (u : Tok) tk, (∀ b o, s.heap.get? b = some o → h'.get? b = some o) → EP X pins σ Q (.str (PyData.shown a.data) u) { s with heap := h', toks := tk } := fun h' u tk k => ⟨.str (PyData.shown a.data), H, I.kept k, ⟨_, rfl⟩, q⟩
    have ref : ∀ p, us = [.ref p] → v = .ref p → wpAny (model X.prog X.w) X.A (call (.builtin "repr") us) (EP X pins σ Q) X.xe s := by
      rintro p rfl rfl
      have hd := dpb_of R h1 ha
      obtain ⟨as, rd⟩ := Dp.reads I a.data (.ref p) (.ref p) (by rw [hK]; exact hd) (show RelV (.ref p) (.ref p) from rfl)
      have dep := (ok_depth 60 a h1)
      exact repr_of_reads' rd h2 (fun z => by rw [PyData.hasDict_of_canLay _ dep.1] at z; cases z) hgd (by omega) (fun _ _ e => e) (fun h' u tk k => fin h' u tk k) (limLe h3)
    cases a with
    | non =>
      have := ha
      simp only [RB, RV] at this
      subst this
      obtain ⟨u, rfl, hu⟩ := vals1 r
      cases hu
      exact PySem.P.repr_of_none ⟨.str (PyData.shown Val.non.data), H, I.tok _, ⟨_, rfl⟩, q⟩
    | bool b =>
      have := ha.bool
      subst this
      obtain ⟨u, rfl, hu⟩ := vals1 r
      cases hu
      exact PySem.P.repr_of_bool ⟨.str (PyData.shown (Val.bool b).data), H, I.tok _, ⟨_, rfl⟩, q⟩
    | int i =>
      have := ha.int
      subst this
      obtain ⟨u, rfl, t, rfl⟩ := vals1 r
      exact PySem.P.repr_of_int (by simpa [Val.data, PyData.showable] using h2) ⟨.str (PyData.shown (Val.int i).data), H, I.tok _, ⟨_, rfl⟩, q⟩
    | str x =>
      have := ha.str
      subst this
      obtain ⟨u, rfl, t, rfl⟩ := vals1 r
      exact PySem.P.repr_of_str ⟨.str (PyData.shown (Val.str x).data), H, I.tok _, ⟨_, rfl⟩, q⟩ (limLe h3)
    | tup ds =>
      obtain ⟨p, vs, rfl, _⟩ := ha.tup R
      exact ref p (Vals.ref1 r) rfl
    | lst ds =>
      obtain ⟨p, vs, rfl, _⟩ := ha.lst
      exact ref p (Vals.ref1 r) rfl
    | _ => simp [Val.ok] at h1
  · cases e
/-! membership in lists and tuples -/
def cInS (x y : Val) : Option Bool := match y with
  | .dct _ => none
  | y => cIn x y
def cNotInS (x y : Val) : Option Bool := (cInS x y).map (!·)
theorem cInS_some {x y : Val} {b : Bool} (h : cInS x y = some b) : cIn x y = some b ∧ ∀ kvs, y ≠ .dct kvs := by
  cases y <;> first | exact ⟨h, fun _ z => by cases z⟩ | cases h
theorem oc_in (hK : X.K = C.K) (hu : X.A.units + 65 < cLine) : OpR X (compareOp .In) (rOpB C cInS) := by
  refine OpR.imp (OpR.either (op_inD hu) (op_inT hu)) fun x y H Q h => ?_
  obtain ⟨γ, f, g, a, b, r, R, ha, hb, e, q⟩ := h
  obtain ⟨e1, e2⟩ := cInS_some e
  obtain ⟨ys, h1, h2, rfl, h3⟩ := in_seq R ha hb e2 e1
  rcases h3 with ⟨h3, h4⟩ | ⟨h3, h4⟩
  · exact .inl ⟨_, ys, by rw [hK]; exact h1, by rw [hK]; exact h3, h2, h4, q⟩
  · exact .inr ⟨_, ys, by rw [hK]; exact h1, by rw [hK]; exact h3, h2, h4, q⟩
theorem oc_notIn (hK : X.K = C.K) (hu : X.A.units + 65 < cLine) : OpR X (compareOp .NotIn) (rOpB C cNotInS) := by
  refine OpR.imp (OpR.either (op_notInD hu) (op_notInT hu)) fun x y H Q h => ?_
  obtain ⟨γ, f, g, a, b, r, R, ha, hb, e, q⟩ := h
  simp only [cNotInS, Option.map_eq_some_iff] at e
  obtain ⟨r', e, rfl⟩ := e
  obtain ⟨e1, e2⟩ := cInS_some e
  obtain ⟨ys, h1, h2, rfl, h3⟩ := in_seq R ha hb e2 e1
  rcases h3 with ⟨h3, h4⟩ | ⟨h3, h4⟩
  · exact .inl ⟨_, ys, by rw [hK]; exact h1, by rw [hK]; exact h3, h2, h4, q⟩
  · exact .inr ⟨_, ys, by rw [hK]; exact h1, by rw [hK]; exact h3, h2, h4, _, rfl, q⟩
end
end Iv

/-! Iv: operands: a name is only looked at. -/
namespace Iv
open PySem L2

inductive Opd where
  | n (i : Nat) | e (x : M Res)
def opd1 {α : Type} : Opd → (Val → M α) → M α
  | .n i, f => bnd (peek i) f
  | .e x, f => bnd x fun r => f r.fz
def opd2 {α : Type} : Opd → Opd → (Val → Val → M α) → M α
  | .e x, .e y, f => bnd x fun a => bnd y fun b => f a.fz b.fz
  | .e x, .n j, f => bnd x fun a => bnd (peek j) fun b => f a.fz b
  | .n i, .e y, f => bnd (peek i) fun _ => bnd y fun b => bnd (peek i) fun a => f a b.fz
  | .n i, .n j, f => bnd (peek i) fun a => bnd (peek j) fun b => f a b
def Opd.t (S : Sg) : Opd → TE
  | .n i => tVar i
  | .e x => tE S x

section
variable {S : Sg} {γ γ' : Gh} {of of' : List (List (Option V))} {σ : L2.St} {H H' : Hp} {m m' : Mem} {α β : Type}
theorem Opd.t_mono {o : Opd} {Q Q' : VK} (h : o.t S σ H Q) (hq : ∀ v H, Q v H → Q' v H) : o.t S σ H Q' := by
  cases o with
  | n i => obtain ⟨v, e, q⟩ := h; exact ⟨v, e, hq _ _ q⟩
  | e x => exact tE.mono h hq
theorem opd1_raw {o : Opd} {f : Val → M α} {R : Gh → List (List (Option V)) → Hp → Mem → α → Prop} (hR : S.R γ of σ H m) (p : Post S γ σ (opd1 o f) m R) :
    o.t S σ H fun x H1 => ∃ γ' of' m' a, S.R γ' of' σ H1 m' ∧ RB S.C γ' H1 a x ∧ Ext γ γ' ∧ Post S γ' σ (f a) m' R := by
  cases o with
  | n i =>
    obtain ⟨d, w, p1, e0, rb⟩ := post_peek2 hR p
    exact ⟨w, e0, γ, of, m, d, hR, rb, Ext.refl _, p1⟩
  | e x => exact (split hR p).mono fun v H1 ⟨γ1, of1, m1, a1, e1, R1, rv1, p1⟩ => ⟨γ1, of1, m1, a1.fz, R1, rv1.b R1, e1, p1⟩
theorem opd2_raw {o o' : Opd} {f : Val → Val → M α} {R : Gh → List (List (Option V)) → Hp → Mem → α → Prop} (hR : S.R γ of σ H m) (p : Post S γ σ (opd2 o o' f) m R) :
    o.t S σ H fun x H1 => o'.t S σ H1 fun y H2 => ∃ γ' of' m' a b, S.R γ' of' σ H2 m' ∧ RB S.C γ' H2 a x ∧ RB S.C γ' H2 b y ∧ Ext γ γ' ∧ Post S γ' σ (f a b) m' R := by
  cases o with
  | e x =>
    cases o' with
    | e y =>
      exact (split hR p).mono fun v H1 ⟨γ1, of1, m1, a1, e1, R1, rv1, p1⟩ => (split R1 p1).mono fun u H2 ⟨γ2, of2, m2, a2, e2, R2, rv2, p2⟩ => ⟨γ2, of2, m2, a1.fz, a2.fz, R2, (rv1.ext e2).b R2, rv2.b R2, e1.trans e2, p2⟩
    | n j =>
      refine (split hR p).mono fun v H1 ⟨γ1, of1, m1, a1, e1, R1, rv1, p1⟩ => ?_
      obtain ⟨d, w, p2, e0, rb⟩ := post_peek2 R1 p1
      exact ⟨w, e0, γ1, of1, m1, a1.fz, d, R1, rv1.b R1, rb, e1, p2⟩
  | n i =>
    cases o' with
    | e y =>
      obtain ⟨d0, w, p1, e0⟩ := post_peek hR p
      refine ⟨w, e0, (split hR p1).mono fun u H2 ⟨γ2, of2, m2, a2, e2, R2, rv2, p2⟩ => ?_⟩
      obtain ⟨d, w2, p3, e3, rb⟩ := post_peek2 R2 p2
      rw [e0] at e3
      cases e3
      exact ⟨γ2, of2, m2, d, a2.fz, R2, rb, rv2.b R2, e2, p3⟩
    | n j =>
      obtain ⟨d, w, p1, e0, rb⟩ := post_peek2 hR p
      obtain ⟨d', w', p2, e1, rb'⟩ := post_peek2 hR p1
      exact ⟨w, e0, w', e1, γ, of, m, d, d', hR, rb, rb', Ext.refl _, p2⟩
end

def oBin (f : Val → Val → Option Res) (a b : Opd) : M Res := opd2 a b fun x y => lift (f x y)
def oUn (f : Val → Option Res) (a : Opd) : M Res := opd1 a fun x => lift (f x)
def oCmp (f : Val → Val → Option Bool) (a b : Opd) : M Bool := opd2 a b fun x y => lift (f x y)
def oCmpV (f : Val → Val → Option Bool) (a b : Opd) : M Res := opd2 a b fun x y => lift ((f x y).map fun r => .val (.bool r))
def oIs (a : Opd) : M Bool := opd1 a fun x => ret (cIsN x)
def oIsV (a : Opd) : M Res := opd1 a fun x => ret (.val (.bool (cIsN x)))
def oNot (a : Opd) : M Bool := opd1 a fun x => ret (!cIsN x)
def oNotV (a : Opd) : M Res := opd1 a fun x => ret (.val (.bool (!cIsN x)))
theorem rb_isN {C : Ctx} {γ : Gh} {H : Hp} {d : Val} {v : V} (h : RB C γ H d v) : cIsN d = decide (v = .non) := by
  cases d with
  | non =>
    have h : RV C γ.G γ.ob .non v := h
    simp only [RV] at h
    subst h
    rfl
  | lst xs =>
    obtain ⟨a, vs, rfl, _⟩ := h
    exact (decide_eq_false (by intro z; cases z)).symm
  | dct kvs =>
    obtain ⟨a, rfl, _⟩ := h
    exact (decide_eq_false (by intro z; cases z)).symm
  | bool b => rw [h.bool]; exact (decide_eq_false (by intro z; cases z)).symm
  | int b => rw [h.int]; exact (decide_eq_false (by intro z; cases z)).symm
  | str b => rw [h.str]; exact (decide_eq_false (by intro z; cases z)).symm
  | set xs =>
    have h : RV C γ.G γ.ob (.set xs) v := h
    simp [RV] at h
  | tup xs =>
    have h : RV C γ.G γ.ob (.tup xs) v := h
    simp only [RV] at h
    obtain ⟨a, vs, rfl, _⟩ := h
    exact (decide_eq_false (by intro z; cases z)).symm
  | obj i =>
    have h : RV C γ.G γ.ob (.obj i) v := h
    simp only [RV] at h
    obtain ⟨a, _, rfl⟩ := h
    exact (decide_eq_false (by intro z; cases z)).symm
  | cls i =>
    have h : RV C γ.G γ.ob (.cls i) v := h
    simp only [RV] at h
    obtain ⟨a, _, rfl⟩ := h
    exact (decide_eq_false (by intro z; cases z)).symm
  | scr i =>
    have h : RV C γ.G γ.ob (.scr i) v := h
    simp only [RV] at h
    obtain ⟨a, rfl, _⟩ := h
    exact (decide_eq_false (by intro z; cases z)).symm

section
variable {X : Cx} {S : Sg} {a b c : Expr} {oa ob oc : Opd} {pos : Pos}
theorem to_bin {op : Operator} {F : Val → Val → Option Res} (ho : OpR X (binaryOp op) (rOp S.C F)) (ha : PE X a (oa.t S)) (hb : PE X b (ob.t S)) : PE X (.BinOp a op b pos) (tE S (oBin F oa ob)) :=
  PE.imp (pe_op ho ha hb) fun σ H Q ⟨γ, of, m, hR, p⟩ => Opd.t_mono (opd2_raw hR p) fun x H1 h => Opd.t_mono h fun y H2 ⟨γ2, of2, m2, d, d', R2, r1, r2, e2, p2⟩ => by
    obtain ⟨r, er, y⟩ := post_yield p2
    exact ⟨γ2, S.f of2 σ, m2.g, d, d', r, R2, r1, r2, er, y⟩
theorem to_un {op : UnaryOp} {F : Val → Option Res} (ho : UnR X (unaryOp op) (rUn S.C F)) (ha : PE X a (oa.t S)) : PE X (.UnaryOp op a pos) (tE S (oUn F oa)) :=
  PE.imp (pe_un ho ha) fun σ H Q ⟨γ, of, m, hR, p⟩ => Opd.t_mono (opd1_raw hR p) fun x H1 ⟨γ2, of2, m2, d, R2, r1, e2, p2⟩ => by
    obtain ⟨r, er, y⟩ := post_yield p2
    exact ⟨γ2, S.f of2 σ, m2.g, d, r, R2, r1, er, y⟩
theorem to_sub {F : Val → Val → Option Res} (hi : IxR X (rOp S.C F)) (ha : PE X a (oa.t S)) (hb : PE X b (ob.t S)) (hs : PlainIx b) : PE X (.Subscript a b pos) (tE S (oBin F oa ob)) :=
  PE.imp (pe_ix hi ha hb hs) fun σ H Q ⟨γ, of, m, hR, p⟩ => Opd.t_mono (opd2_raw hR p) fun x H1 h => Opd.t_mono h fun y H2 ⟨γ2, of2, m2, d, d', R2, r1, r2, e2, p2⟩ => by
    obtain ⟨r, er, y⟩ := post_yield p2
    exact ⟨γ2, S.f of2 σ, m2.g, d, d', r, R2, r1, r2, er, y⟩
theorem to_cmpT {op : CmpOp} {F : Val → Val → Option Bool} (ho : OpR X (compareOp op) (rOpB S.C F)) (hm : behindInMarks op b = false) (ha : PE X a (oa.t S)) (hb : PE X b (ob.t S)) : PT X (.Compare a [op] [b] pos) (tT S (oCmp F oa ob)) :=
  PT.imp (pt_cmpR ho ha hb hm) fun σ H Q ⟨γ, of, m, hR, p⟩ => Opd.t_mono (opd2_raw hR p) fun x H1 h => Opd.t_mono h fun y H2 ⟨γ2, of2, m2, d, d', R2, r1, r2, e2, p2⟩ => by
    obtain ⟨r, er, q⟩ := p2.lift
    exact ⟨γ2, S.f of2 σ, m2.g, d, d', r, R2, r1, r2, er, r, rfl, q γ2 of2 H2 (Ext.refl _) R2⟩
theorem to_cmpV {op : CmpOp} {F : Val → Val → Option Bool} (ho : OpR X (compareOp op) (rOpB S.C F)) (hm : behindInMarks op b = false) (ha : PE X a (oa.t S)) (hb : PE X b (ob.t S)) : PE X (.Compare a [op] [b] pos) (tE S (oCmpV F oa ob)) :=
  PE.imp (pe_cmpR ho ha hb hm) fun σ H Q ⟨γ, of, m, hR, p⟩ => Opd.t_mono (opd2_raw hR p) fun x H1 h => Opd.t_mono h fun y H2 ⟨γ2, of2, m2, d, d', R2, r1, r2, e2, p2⟩ => by
    obtain ⟨r, er, q⟩ := p2.lift
    simp only [Option.map_eq_some_iff] at er
    obtain ⟨t, er, rfl⟩ := er
    exact ⟨γ2, S.f of2 σ, m2.g, d, d', t, R2, r1, r2, er, q γ2 of2 H2 (Ext.refl _) R2 _ rr_bool⟩
theorem to_isT {j pos'} (ha : PE X a (oa.t S)) : PT X (.Compare a [.Is] [.Constant .none j pos'] pos) (tT S (oIs oa)) :=
  PT.imp (pt_cmp (pc_isN ha)) fun σ H Q ⟨γ, of, m, hR, p⟩ => Opd.t_mono (opd1_raw hR p) fun x H1 ⟨γ2, of2, m2, d, R2, r1, e2, p2⟩ => ⟨_, rfl, by
    have q := p2.ret R2
    rw [rb_isN r1] at q
    exact q⟩
theorem to_notT {j pos'} (ha : PE X a (oa.t S)) : PT X (.Compare a [.IsNot] [.Constant .none j pos'] pos) (tT S (oNot oa)) :=
  PT.imp (pt_cmp (pc_notN ha)) fun σ H Q ⟨γ, of, m, hR, p⟩ => Opd.t_mono (opd1_raw hR p) fun x H1 ⟨γ2, of2, m2, d, R2, r1, e2, p2⟩ => ⟨_, rfl, by
    have q := p2.ret R2
    rw [rb_isN r1] at q
    exact q⟩
theorem to_isV {j pos'} (ha : PE X a (oa.t S)) : PE X (.Compare a [.Is] [.Constant .none j pos'] pos) (tE S (oIsV oa)) :=
  PE.imp (pe_cmp (pc_isN ha)) fun σ H Q ⟨γ, of, m, hR, p⟩ => Opd.t_mono (opd1_raw hR p) fun x H1 ⟨γ2, of2, m2, d, R2, r1, e2, p2⟩ => by
    have q := p2.ret R2 _ rr_bool
    rw [rb_isN r1] at q
    exact q
theorem to_notV {j pos'} (ha : PE X a (oa.t S)) : PE X (.Compare a [.IsNot] [.Constant .none j pos'] pos) (tE S (oNotV oa)) :=
  PE.imp (pe_cmp (pc_notN ha)) fun σ H Q ⟨γ, of, m, hR, p⟩ => Opd.t_mono (opd1_raw hR p) fun x H1 ⟨γ2, of2, m2, d, R2, r1, e2, p2⟩ => by
    have q := p2.ret R2 _ rr_bool
    rw [rb_isN r1] at q
    exact q
theorem to_fn1B {id : String} {x : Str} {p : Pos} {F : Val → Option Res} (hc : CallR X (.builtin id) (rFn1 S.C F)) (hg : Gl X x) (hm : X.mg x = none) (hv : bootBuiltins x = some (.builtin id)) (ha : PE X a (oa.t S)) (hn : x ≠ "__name__") (hdb : (x == ("__debug__" : Str)) = false)
    (hs : starEach [a] X.env = [(false, eval a X.env)]) : PE X (.Call (.Name x p) [a] [] pos) (tE S (oUn F oa)) :=
  PE.imp (pe_callB hc hg hm hv (pa_cons ha pa_nil hs) hn hdb hs (by rfl)) fun σ H Q ⟨γ, of, m, hR, p⟩ => Opd.t_mono (opd1_raw hR p) fun x H1 ⟨γ2, of2, m2, d, R2, r1, e2, p2⟩ => by
    obtain ⟨r, er, y⟩ := post_yield p2
    exact ⟨x, rfl, γ2, S.f of2 σ, m2.g, d, r, R2, r1, er, y⟩
theorem to_fn1T {T : String} {x : Str} {p : Pos} {F : Val → Option Res} (hc : CallR X (.type T) (rFn1 S.C F)) (hg : Gl X x) (hm : X.mg x = none) (hv : bootBuiltins x = some (.type T)) (ha : PE X a (oa.t S)) (hn : x ≠ "__name__") (hdb : (x == ("__debug__" : Str)) = false)
    (hs : starEach [a] X.env = [(false, eval a X.env)]) : PE X (.Call (.Name x p) [a] [] pos) (tE S (oUn F oa)) :=
  PE.imp (pe_callTy hc hg hm hv (pa_cons ha pa_nil hs) hn hdb hs (by rfl)) fun σ H Q ⟨γ, of, m, hR, p⟩ => Opd.t_mono (opd1_raw hR p) fun x H1 ⟨γ2, of2, m2, d, R2, r1, e2, p2⟩ => by
    obtain ⟨r, er, y⟩ := post_yield p2
    exact ⟨x, rfl, γ2, S.f of2 σ, m2.g, d, r, R2, r1, er, y⟩
theorem to_fn2B {id : String} {x : Str} {p : Pos} {F : Val → Val → Option Res} (hc : CallR X (.builtin id) (rFn2 S.C F)) (hg : Gl X x) (hm : X.mg x = none) (hv : bootBuiltins x = some (.builtin id)) (ha : PE X a (oa.t S)) (hb : PE X b (ob.t S)) (hn : x ≠ "__name__") (hdb : (x == ("__debug__" : Str)) = false)
    (hs1 : starEach [a, b] X.env = (false, eval a X.env) :: starEach [b] X.env) (hs2 : starEach [b] X.env = [(false, eval b X.env)]) : PE X (.Call (.Name x p) [a, b] [] pos) (tE S (oBin F oa ob)) :=
  PE.imp (pe_callB hc hg hm hv (pa_cons ha (pa_cons hb pa_nil hs2) hs1) hn hdb hs1 (by rw [hs2]; rfl)) fun σ H Q ⟨γ, of, m, hR, p⟩ => Opd.t_mono (opd2_raw hR p) fun x H1 h => Opd.t_mono h fun y H2 ⟨γ2, of2, m2, d, d', R2, r1, r2, e2, p2⟩ => by
    obtain ⟨r, er, z⟩ := post_yield p2
    exact ⟨x, y, rfl, γ2, S.f of2 σ, m2.g, d, d', r, R2, r1, r2, er, z⟩
end
end Iv

/-! Iv: sorted(set(x)). -/
namespace Iv
open PySem L2

def intTup (p : Addr × List Int) : Val := .tup (p.2.map .int)
section
variable {X : Cx} {C : Ctx} {γ : Gh} {f : Fs} {g : Glob} {H : Hp}
theorem ints_all : ∀ {ds : List Val}, ds.all isInt = true → ∃ is : List Int, ds = is.map Val.int
  | [], _ => ⟨[], rfl⟩
  | d :: ds, h => by
    simp only [List.all_cons, Bool.and_eq_true] at h
    obtain ⟨is, rfl⟩ := ints_all h.2
    cases d with
    | int i => exact ⟨i :: is, rfl⟩
    | _ => simp [isInt] at h
theorem intTups_of : ∀ {ds : List Val} {vs : List V}, ds.all isIntTup = true → RVs C γ.G γ.ob ds vs → ∃ ks : List (Addr × List Int), ds = ks.map intTup ∧ vs = ks.map (fun p => V.ref p.1) ∧ ∀ p ∈ ks, SqT C.K γ.G p.1 (p.2.map V.int)
  | [], vs, _, h => ⟨[], rfl, by simpa [RVs] using h, by simp⟩
  | d :: ds, vs, ha, h => by
    simp only [List.all_cons, Bool.and_eq_true] at ha
    simp only [RVs] at h
    obtain ⟨v, r, rfl, h1, h2⟩ := h
    obtain ⟨ks, rfl, rfl, hk⟩ := intTups_of ha.2 h2
    cases d with
    | tup xs =>
      obtain ⟨is, rfl⟩ := ints_all (show xs.all isInt = true from ha.1)
      simp only [RV] at h1
      obtain ⟨a, ws, rfl, q1, q2⟩ := h1
      rw [rvs_int_eq q2] at q1
      exact ⟨(a, is) :: ks, rfl, rfl, fun p hp => by
        rcases List.mem_cons.mp hp with rfl | hp
        · exact q1
        · exact hk p hp⟩
    | _ => simp [isIntTup] at ha
theorem intTup_ok (p : Addr × List Int) : Val.ok 60 (intTup p) = true := by
  have : ∀ is : List Int, Val.oks 59 (is.map Val.int) = true := by
    intro is
    induction is with
    | nil => rfl
    | cons i is ih => simp only [List.map_cons, Val.oks, ih, Bool.and_true]; rfl
  exact this _
theorem datas_ints : ∀ is : List Int, Val.datas (is.map Val.int) = is.map PyData.int
  | [] => rfl
  | i :: is => by simp only [List.map_cons, Val.datas, Val.data, datas_ints is]
theorem intTup_alike (p q : Addr × List Int) : Val.alike (intTup p) (intTup q) = true := by
  show PySem.W.alike (.tuple _) (.tuple _) = true
  rw [PySem.W.alike, datas_ints, datas_ints]
  exact PySem.W.alike_ints _ _
theorem intTup_inj {p q : Addr × List Int} (h : intTup p = intTup q) : p.2 = q.2 := by
  have h : Val.tup (p.2.map .int) = .tup (q.2.map .int) := h
  injection h with h
  have : ∀ a b : List Int, a.map Val.int = b.map Val.int → a = b := by
    intro a
    induction a with
    | nil => intro b hb; cases b with
      | nil => rfl
      | cons _ _ => cases hb
    | cons x a ih => intro b hb; cases b with
      | nil => cases hb
      | cons y b =>
        injection hb with h1 h2
        injection h1 with h1
        rw [h1, ih b h2]
  exact this _ _ h
/-- sorted(s), s a set of tuples of ints -/
def rSortSetT (C : Ctx) (P : Program) (w : World) : List V → Hp → VK → Prop := fun vs H Q => ∃ (a : Addr) (L : List (Addr × List Int)) (γ : Gh) (f : Fs) (g : Glob), vs = [V.ref a] ∧ H a = some (SetTO P w a L) ∧ Rel C γ f H g ∧ (∀ p ∈ L, SqT C.K γ.G p.1 (p.2.map V.int)) ∧
  ((L.map (·.2)).Nodup → L.length < 64 → Yield C γ f g (.new (.lst ((L.map intTup).mergeSort Val.le))) Q)
theorem cr_sortSetT (hK : X.K = C.K) (hc : X.calm = true) (hu : X.A.units + 65 < cLine) : CallR X (.builtin "sorted") (rSortSetT C X.prog X.w) := by
  intro pins s σ H vs us Q I r h
  obtain ⟨a, L, γ, f, g, rfl, ha, R, hk, y⟩ := h
  have R0 : SetT0 X.prog X.w s.heap a L := (I.hok a _ ha).1
  obtain ⟨es, ep, t, RT⟩ := R0.full fun p hp => I.isT (by rw [hK]; exact SqT.same R.G (hk p hp))
  rw [Vals.ref1 r]
  obtain ⟨o, ho, hex, hd⟩ := RT.ob
  have hsz := RT.size
  have hfew := RT.few
  have hes : es.toList.map (·.2) = L.map fun q => Value.ref q.1 := by
    rw [RT.rows]
    unfold rowsOf
    rw [List.map_map] <;> rfl
  have y := y RT.nd hfew
  refine sorted_gen (R := Stands C γ) (P := fun us s1 => (∀ b o, s.heap.get? b = some o → s1.heap.get? b = some o) ∧ s.heap.objs.size ≤ s1.heap.objs.size ∧ s1.gens = s.gens ∧ s1.os = s.os ∧ us.Perm (L.map fun q => Value.ref q.1))
    (collect_set (A := X.A.in1) (I.ok.hd hc) ⟨o, ho, hex.1, hd⟩ RT.fits (by unfold scanBound; omega) RT.tab.ris RT.led fun s1 vs k1 hz g1 o1 pm => ⟨k1, hz, g1, o1, by rw [← hes]; exact pm⟩) fun us s1 ⟨k1, hz, g1, o1, pm⟩ => ?_
  -- the values are the addresses of the rows, in some order
  have ord : ∀ us : List Value, us.Perm (L.map fun q => Value.ref q.1) → ∃ L1 : List (Addr × List Int), us = L1.map (fun q => Value.ref q.1) ∧ ∀ q ∈ L1, q ∈ L := by
    intro us hp
    have hm : ∀ v ∈ us, ∃ q ∈ L, v = Value.ref q.1 := fun v hv => by
      obtain ⟨q, hq, e⟩ := List.mem_map.mp (hp.mem_iff.mp hv)
      exact ⟨q, hq, e.symm⟩
    clear hp
    induction us with
    | nil => exact ⟨[], rfl, by simp⟩
    | cons v us ih =>
      obtain ⟨q, hq, rfl⟩ := hm v List.mem_cons_self
      obtain ⟨L1, rfl, h1⟩ := ih fun u hu => hm u (List.mem_cons_of_mem _ hu)
      exact ⟨q :: L1, rfl, fun p hp => by
        rcases List.mem_cons.mp hp with rfl | hp
        · exact hq
        · exact h1 p hp⟩
  obtain ⟨L1, rfl, hs⟩ := ord us pm
  have one : ∀ q ∈ L, ∀ r ∈ L, q.1 = r.1 → q = r := fun q hq r hr e => by
    have a1 := RT.tup q hq
    have a2 := RT.tup r hr
    rw [e] at a1
    exact Prod.ext e (a1.inj a2)
  have pmL : L1.Perm L := by
    have nL : L.Nodup := nodup_of_map RT.nd
    have nref : (L.map fun q => Value.ref q.1).Nodup := by
      refine List.pairwise_map.mpr (List.Pairwise.imp_of_mem (fun {q r} hq hr hne e => ?_) nL)
      injection e with e
      exact hne (one q hq r hr e)
    have n1 : L1.Nodup := nodup_of_map (pm.nodup_iff.mpr nref)
    refine (List.perm_ext_iff_of_nodup n1 nL).mpr fun q => ⟨hs q, fun hq => ?_⟩
    have hm : Value.ref q.1 ∈ L1.map (fun q => Value.ref q.1) := pm.mem_iff.mpr (List.mem_map.mpr ⟨q, hq, rfl⟩)
    obtain ⟨r, hr, e⟩ := List.mem_map.mp hm
    injection e with e
    rw [← one r (hs r hr) q hq e]
    exact hr
  have sortp : (L1.map intTup).mergeSort Val.le = (L.map intTup).mergeSort Val.le := sort_perm (n := 60) (pmL.map _) (fun x hx => by
    obtain ⟨p, _, rfl⟩ := List.mem_map.mp hx
    exact intTup_ok p) fun x hx y hy => by
    obtain ⟨p, _, rfl⟩ := List.mem_map.mp hx
    obtain ⟨q, _, rfl⟩ := List.mem_map.mp hy
    exact intTup_alike p q
  have I1 : L2.Inv X pins σ H s1 := by
    have J : L2.Inv X pins σ H { s with heap := s1.heap, gens := s1.gens, drawn := s1.drawn, toks := s1.toks } := I.call (ch := []) (Un.kept k1) (I.hok.kept k1) (by rw [g1]; exact I.bare) (fun _ z => nomatch z)
    have e : s1 = { s with heap := s1.heap, gens := s1.gens, drawn := s1.drawn, toks := s1.toks } := by
      cases s1
      cases s
      cases o1
      rfl
    rw [e]
    exact J
  have st : PySem.W.EachIs (Stands C γ) (L1.map fun q => Value.ref q.1) (L1.map intTup) := by
    have : ∀ M : List (Addr × List Int), (∀ q ∈ M, q ∈ L) → PySem.W.EachIs (Stands C γ) (M.map fun q => Value.ref q.1) (M.map intTup) := by
      intro M
      induction M with
      | nil => intro _; exact .nil
      | cons q M ih =>
        intro hM
        refine .cons ⟨.ref q.1, rfl, ?_⟩ (ih fun p hp => hM p (List.mem_cons_of_mem _ hp))
        simp only [intTup, RV]
        exact ⟨q.1, _, rfl, hk q (hM q List.mem_cons_self), rvs_ints q.2⟩
    exact this L1 hs
  have hok : sortOk (L1.map intTup) = true := by
    simp only [sortOk, Bool.and_eq_true, List.all_eq_true, decide_eq_true_eq, Bool.not_eq_true']
    refine ⟨fun x hx => ?_, by rw [List.length_map, pmL.length_eq]; omega⟩
    obtain ⟨p, _, rfl⟩ := List.mem_map.mp hx
    refine ⟨⟨intTup_ok p, rfl⟩, fun y hy => ?_⟩
    obtain ⟨q, _, rfl⟩ := List.mem_map.mp hy
    exact intTup_alike p q
  obtain ⟨q1, q2, q3, q4, q5⟩ := sort_data_ok hK hu I1 R st hok
  refine ⟨L1.map intTup, st, q1, q2, q3, q4, q5, fun out c h2 k2 hp eo => ?_⟩
  obtain ⟨zs, hz1, hz2⟩ := of_stands eo
  have hn : H s1.heap.objs.size = none := I1.hok.fresh (Nat.le_refl _)
  have hl : zs.length ≤ sizeLine := by
    rw [← hz2.length, List.length_mergeSort]
    exact q4
  rw [sortp] at hz2
  exact ⟨.ref s1.heap.objs.size, upd H s1.heap.objs.size (.lst zs), I1.laid (t' := s1.toks) k2 (Nat.le_refl _) ⟨hl, out, c, hz1, hp⟩, rfl, y.lst R hz2 hn⟩
/-- sorted(set(e)) -/
theorem te_sortedSet {S : Sg} {a : Expr} {oa : Opd} {p p2 q pos : Pos} (hK : X.K = S.C.K) (hc : X.calm = true) (hu : X.A.units + 65 < cLine) (hg : Gl X "sorted") (hm : X.mg "sorted" = none) (hg2 : Gl X "set") (hm2 : X.mg "set" = none) (ha : PE X a (oa.t S)) (hs : starEach [a] X.env = [(false, eval a X.env)]) :
    PE X (.Call (.Name "sorted" p) [.Call (.Name "set" p2) [a] [] q] [] pos) (tE S (oUn bSortedSet oa)) :=
  PE.imp (pe_callB (cr_sortSetT (C := S.C) hK hc hu) hg hm PyProof.Rows.boot_sorted (pa_cons (pe_callTy (cr_setOfT hc (by omega)) hg2 hm2 PyProof.Rows.boot_set (pa_cons ha pa_nil hs) (by decide) (by decide) hs (by rfl)) pa_nil (by rfl)) (by decide) (by decide) (by rfl) (by rfl))
    fun σ H Q ⟨γ, of, m, hR, p⟩ => Opd.t_mono (opd1_raw hR p) fun v H1 ⟨γ1, of1, m1, d, R1, rb, e2, p2⟩ => by
      obtain ⟨r, er, y⟩ := post_yield p2
      cases h : d with
      | lst ds =>
        rw [h] at er rb
        simp only [bSortedSet] at er
        split at er
        · rename_i hok
          cases er
          simp only [setOk, Bool.and_eq_true, decide_eq_true_eq] at hok
          obtain ⟨l, vs, rfl, hl, hvs⟩ := rb.lst
          obtain ⟨ks, rfl, rfl, hk⟩ := intTups_of hok.2 hvs
          refine ⟨l, ks, rfl, .of hl, fun p hp => by rw [hK]; exact SqT.same R1.G (hk p hp), by simpa using hok.1, fun b L hb hsub hall => ?_⟩
          refine ⟨b, L, γ1, _, m1.g, rfl, upd_same, R1.alloc hb, fun p hp => hk p (hsub p hp), fun nd hlen => ?_⟩
          have dd := dedup_mem (n := 60) (ks.map intTup) [] (fun x hx => by
            obtain ⟨p, _, rfl⟩ := List.mem_map.mp hx
            exact intTup_ok p) (by simp) (fun x hx y hy => by
            rw [List.nil_append] at hx hy
            obtain ⟨p, _, rfl⟩ := List.mem_map.mp hx
            obtain ⟨q, _, rfl⟩ := List.mem_map.mp hy
            exact intTup_alike p q) List.nodup_nil
          have ndL : (L.map intTup).Nodup := by
            refine List.pairwise_map.mpr (List.Pairwise.imp (fun {p q} hne e => hne (intTup_inj e)) (List.pairwise_map.mp nd))
          have pm : (L.map intTup).Perm (dedup [] (ks.map intTup)) := by
            refine (List.perm_ext_iff_of_nodup ndL dd.1).mpr fun x => ?_
            rw [dd.2]
            constructor
            · intro hx
              obtain ⟨p, hp, rfl⟩ := List.mem_map.mp hx
              exact .inr (List.mem_map.mpr ⟨p, hsub p hp, rfl⟩)
            · rintro (hx | hx)
              · cases hx
              · obtain ⟨p, hp, rfl⟩ := List.mem_map.mp hx
                obtain ⟨q, hq, e⟩ := List.mem_map.mp (hall p hp)
                refine List.mem_map.mpr ⟨q, hq, ?_⟩
                show Val.tup (q.2.map .int) = .tup (p.2.map .int)
                rw [e]
          have es : (L.map intTup).mergeSort Val.le = (dedup [] (ks.map intTup)).mergeSort Val.le := sort_perm (n := 60) pm (fun x hx => by
            obtain ⟨p, _, rfl⟩ := List.mem_map.mp hx
            exact intTup_ok p) fun x hx y hy => by
            obtain ⟨p, _, rfl⟩ := List.mem_map.mp hx
            obtain ⟨q, _, rfl⟩ := List.mem_map.mp hy
            exact intTup_alike p q
          rw [es]
          exact y
        · cases er
      | _ => rw [h] at er; cases er
end
end Iv

/-! Iv: loops. -/
namespace Iv
open PySem L2

/-- the iterator gives the values ds, whatever the heap becomes -/
structure ExtG (γ γ' : Gh) : Prop where
  G : Same γ.G γ'.G
  lk : γ'.lk = γ.lk
  ob : Pre γ.ob γ'.ob
theorem Ext.g {γ γ' : Gh} (e : Ext γ γ') : ExtG γ γ' := ⟨e.G, e.lk, e.ob⟩
theorem ExtG.trans {a b c : Gh} (h : ExtG a b) (h' : ExtG b c) : ExtG a c := ⟨h.G.trans h'.G, h'.lk.trans h.lk, h.ob.trans h'.ob⟩
def Walks (C : Ctx) (γ : Gh) (J : It) (ds : List Val) : Prop := ∀ γ' f H g, ExtG γ γ' → Rel C γ' f H g →
  J.stop ds.length H ∧ ∀ i d, ds[i]? = some d → J.go i H ∧ ∀ x H', J.yld i H x H' → ∃ γ'', Ext γ' γ'' ∧ Rel C γ'' f H' g ∧ RV C γ''.G γ''.ob d x
def iI (S : Sg) (items : M (List Val)) : TI := fun σ H R => ∃ γ of m, S.R γ of σ H m ∧ Post S γ σ items m fun γ' of' H' m' ds => ∀ J, Walks S.C γ' J ds → R J H'

section
variable {X : Cx} {S : Sg} {tg a b c : Expr} {xa xb xc : M Res} {pos : Pos}
theorem PI.imp {iter : Expr} {t t' : TI} (h : PI X tg iter t) (hi : ∀ σ H R, t' σ H R → t σ H R) : PI X tg iter t' := ⟨fun pins s σ H R I q => h.run pins s σ H R I (hi σ H R q)⟩

theorem walks_list {C : Ctx} {γ : Gh} {a : Addr} {vs : List V} {ds : List Val} (h : γ.G a = some (.lst vs)) (rv : RVs C γ.G γ.ob ds vs) : Walks C γ (Itl C.K a) ds := by
  intro γ' f H g e R
  have hs : SqL C.K H a vs := .of (R.G _ _ (e.G _ _ h))
  refine ⟨⟨vs, hs, by rw [rv.length]; exact Nat.le_refl _⟩, fun i d hd => ?_⟩
  obtain ⟨x, hx, hxd⟩ := rv.get hd
  refine ⟨⟨vs, x, hs, hx⟩, fun y H' ⟨e1, e2⟩ => ?_⟩
  subst e1
  have e3 := e2 vs hs
  rw [hx] at e3
  cases e3
  exact ⟨γ', Ext.refl _, R, RV.mono e.G e.ob _ _ hxd⟩
theorem walks_tup {C : Ctx} {γ : Gh} {a : Addr} {vs : List V} {ds : List Val} (h : SqT C.K γ.G a vs) (rv : RVs C γ.G γ.ob ds vs) : Walks C γ (Itt C.K a) ds := by
  intro γ' f H g e R
  have hs : SqT C.K H a vs := SqT.same R.G (SqT.same e.G h)
  refine ⟨⟨vs, hs, by rw [rv.length]; exact Nat.le_refl _⟩, fun i d hd => ?_⟩
  obtain ⟨x, hx, hxd⟩ := rv.get hd
  refine ⟨⟨vs, x, hs, hx⟩, fun y H' ⟨e1, e2⟩ => ?_⟩
  subst e1
  have e3 := e2 vs hs
  rw [hx] at e3
  cases e3
  exact ⟨γ', Ext.refl _, R, RV.mono e.G e.ob _ _ hxd⟩
theorem rangeL_get : ∀ (n : Nat) (lo c : Int) (i : Nat) (d : Val), (rangeL lo c n)[i]? = some d ↔ i < n ∧ d = .int (lo + i * c)
  | 0, lo, c, i, d => by simp [rangeL]
  | n + 1, lo, c, 0, d => by
    simp only [rangeL, List.getElem?_cons_zero, Option.some.injEq]
    constructor
    · rintro rfl; exact ⟨Nat.succ_pos _, by simp⟩
    · rintro ⟨_, rfl⟩; simp
  | n + 1, lo, c, i + 1, d => by
    simp only [rangeL, List.getElem?_cons_succ]
    rw [rangeL_get n (lo + c) c i d]
    constructor
    · rintro ⟨h1, h2⟩
      refine ⟨by omega, ?_⟩
      rw [h2]
      congr 1
      rw [Int.natCast_add, Int.add_mul]
      simp
      omega
    · rintro ⟨h1, h2⟩
      refine ⟨by omega, ?_⟩
      rw [h2]
      congr 1
      rw [Int.natCast_add, Int.add_mul]
      simp
      omega
theorem rangeL_len : ∀ (n : Nat) (lo c : Int), (rangeL lo c n).length = n
  | 0, _, _ => rfl
  | n + 1, lo, c => by simp [rangeL, rangeL_len n]
theorem walks_range {C : Ctx} {γ : Gh} {lo : Int} {n : Nat} : Walks C γ (Itr lo n) (rangeL lo 1 n) := by
  intro γ' f H g e R
  refine ⟨by show n ≤ _; rw [rangeL_len]; exact Nat.le_refl _, fun i d hd => ?_⟩
  obtain ⟨h1, h2⟩ := (rangeL_get n lo 1 i d).mp hd
  refine ⟨h1, fun x H' ⟨e1, e2⟩ => ?_⟩
  subst e1
  refine ⟨γ', Ext.refl _, R, ?_⟩
  rw [h2, e2]
  simp [RV]
theorem walks_rangeC {C : Ctx} {γ : Gh} {lo c : Int} {n : Nat} : Walks C γ (Itc lo c n) (rangeL lo c n) := by
  intro γ' f H g e R
  refine ⟨by show n ≤ _; rw [rangeL_len]; exact Nat.le_refl _, fun i d hd => ?_⟩
  obtain ⟨h1, h2⟩ := (rangeL_get n lo c i d).mp hd
  refine ⟨h1, fun x H' ⟨e1, e2⟩ => ?_⟩
  subst e1
  refine ⟨γ', Ext.refl _, R, ?_⟩
  rw [h2, e2]
  simp [RV]

/-- a list or a tuple, walked -/
def iSeq (K : PySem.W.Frag) (tl : TE) : TI := fun σ H R => tl σ H fun x H1 => ∃ p, x = .ref p ∧ ((∃ xs, SqL K H1 p xs) ∧ R (Itl K p) H1 ∨ (∃ xs, SqT K H1 p xs) ∧ R (Itt K p) H1)
theorem pi_seq {l : Expr} {tl : TE} (hl : PE X l tl) : PI X tg l (iSeq X.K tl) := by
  constructor
  intro pins s σ H R I h
  refine thn (hl.run pins s σ H _ I h) fun v s1 ⟨x, H1, I1, r1, p, e, q⟩ => ?_
  subst e
  cases r1
  have new : ∀ bb, bb ∈ [s1.heap.objs.size] → FpOk X pins H1 bb := fun bb hb => by
    rw [List.mem_singleton.mp hb]
    exact I1.fpOk (Nat.le_refl _) (I1.hok.fresh (Nat.le_refl _))
  rcases q with ⟨⟨xs, hq⟩, q⟩ | ⟨⟨xs, hq⟩, q⟩
  · obtain ⟨its, rv, pl, hz⟩ := I1.list hq
    exact wpAny_pyIter_list pl.isList ⟨_, [s1.heap.objs.size], _, _, H1, rfl, I1.kept (t' := s1.toks) (fun bb o e => Heap.get?_push_of_some _ e), turn_list p _, ⟨_, Heap.get?_push_size _ rfl, rfl, rfl⟩, new, q⟩
  · obtain ⟨its, rv, pl, hz⟩ := I1.tuple hq
    have tt : s1.heap.IsTuple p its.toArray := pl
    exact wpAny_pyIter_tuple tt ⟨_, [s1.heap.objs.size], _, _, H1, rfl, I1.kept (t' := s1.toks) (fun bb o e => Heap.get?_push_of_some _ e), turn_tuple p _, ⟨_, Heap.get?_push_size _ rfl, rfl, rfl⟩, new, q⟩
theorem ti_items (hK : X.K = S.C.K) (ha : PE X a (tE S xa)) : PI X tg a (iI S (itemsM xa)) :=
  PI.imp (pi_seq ha) fun σ H R ⟨γ, of, m, hR, p⟩ => (split hR p).mono fun v H1 ⟨γ1, of1, m1, a1, e1, R1, rv1, p1⟩ => by
    obtain ⟨ds, e2, q⟩ := p1.lift
    have q := q γ1 of1 H1 (Ext.refl _) R1
    cases h : a1.fz with
    | lst xs =>
      rw [h] at rv1 e2
      cases e2
      simp only [RV] at rv1
      obtain ⟨p, vs, rfl, h1, h2⟩ := rv1
      refine ⟨p, rfl, .inl ⟨⟨vs, .of (R1.G _ _ h1)⟩, ?_⟩⟩
      rw [hK]
      exact q _ (walks_list h1 h2)
    | tup xs =>
      rw [h] at rv1 e2
      cases e2
      simp only [RV] at rv1
      obtain ⟨p, vs, rfl, h1, h2⟩ := rv1
      refine ⟨p, rfl, .inr ⟨⟨vs, by rw [hK]; exact SqT.same R1.G h1⟩, ?_⟩⟩
      rw [hK]
      exact q _ (walks_tup h1 h2)
    | _ => rw [h] at e2; cases e2
/-! ranges -/
def range1 (x : M Res) : M (List Val) := bnd x fun r => match r.fz with
  | .int n => lift (rangeV 0 n)
  | _ => stuck
def range2 (x y : M Res) : M (List Val) := bnd x fun r => bnd y fun s => match r.fz, s.fz with
  | .int a, .int b => lift (rangeV a b)
  | _, _ => stuck
/-- range(a, b, -1) -/
def range3 (x y : M Res) : M (List Val) := bnd x fun r => bnd y fun s => match r.fz, s.fz with
  | .int a, .int b => lift (rangeD a b)
  | _, _ => stuck
theorem small_iff {i : Int} (h : small i = true) : -(2 ^ 62) ≤ i ∧ i < 2 ^ 62 := by
  unfold small at h
  have := of_decide_eq_true h
  omega
theorem ti_range1 {p : Pos} (hg : Gl X "range") (hm : X.mg "range" = none) (ha : PE X a (tE S xa)) (hs : starEach [a] X.env = [(false, eval a X.env)]) : PI X tg (.Call (.Name "range" p) [a] [] pos) (iI S (range1 xa)) :=
  PI.imp (pi_range1 hg hm (pa_cons ha pa_nil hs) hs) fun σ H R ⟨γ, of, m, hR, p⟩ => (split hR p).mono fun v H1 ⟨γ1, of1, m1, a1, e1, R1, rv1, p1⟩ => by
    cases h : a1.fz with
    | int n =>
      rw [h] at rv1 p1
      simp only [RV] at rv1
      subst rv1
      obtain ⟨ds, e2, q⟩ := Post.lift p1
      unfold rangeV at e2
      split at e2
      · rename_i hs
        cases e2
        rw [Bool.and_eq_true] at hs
        obtain ⟨h1, h2⟩ := small_iff hs.2
        have q := q γ1 of1 H1 (Ext.refl _) R1
        rw [Int.sub_zero] at q
        exact ⟨n, rfl, h1, h2, q _ walks_range⟩
      · cases e2
    | _ => rw [h] at p1; exact (Post.stuck p1).elim
theorem ti_range2 {p : Pos} (hg : Gl X "range") (hm : X.mg "range" = none) (ha : PE X a (tE S xa)) (hb : PE X b (tE S xb)) (hs : starEach [a, b] X.env = [(false, eval a X.env), (false, eval b X.env)]) (hs2 : starEach [b] X.env = [(false, eval b X.env)]) : PI X tg (.Call (.Name "range" p) [a, b] [] pos) (iI S (range2 xa xb)) :=
  PI.imp (pi_range2 hg hm (pa_cons ha (pa_cons hb pa_nil hs2) (by rw [hs, hs2])) hs hs2) fun σ H R ⟨γ, of, m, hR, p⟩ => (split hR p).mono fun v H1 ⟨γ1, of1, m1, a1, e1, R1, rv1, p1⟩ => (split R1 p1).mono fun u H2 ⟨γ2, of2, m2, a2, e2, R2, rv2, p2⟩ => by
    cases h : a1.fz with
    | int n =>
      cases h' : a2.fz with
      | int n2 =>
        rw [h] at rv1 p2
        rw [h'] at rv2 p2
        simp only [RV] at rv1 rv2
        subst rv1 rv2
        obtain ⟨ds, e2, q⟩ := Post.lift p2
        unfold rangeV at e2
        split at e2
        · rename_i hs
          cases e2
          rw [Bool.and_eq_true] at hs
          obtain ⟨h1, h2⟩ := small_iff hs.2
          obtain ⟨h3, h4⟩ := small_iff hs.1
          exact ⟨n, n2, rfl, ⟨h3, h4, h1, h2⟩, q γ2 of2 H2 (Ext.refl _) R2 _ walks_range⟩
        · cases e2
      | _ => rw [h, h'] at p2; exact (Post.stuck p2).elim
    | _ => rw [h] at p2; exact (Post.stuck p2).elim

/-! ### for -/
theorem drop_get {α : Type} {l : List α} {i : Nat} {x : α} (h : l[i]? = some x) : l.drop i = x :: l.drop (i + 1) := by
  obtain ⟨h1, h2⟩ := List.getElem?_eq_some_iff.mp h
  rw [List.drop_eq_getElem_cons h1, h2]
theorem ts_for {iter : Expr} {body : List Stmt} {items : M (List Val)} {t : Val → M Unit} {y : M Flow} (hp : PassesOwn (model X.prog X.w) X.A X.env X.xe) (hc : X.calm = true) (hi : PI X tg iter (iI S items)) (hg : PG X tg (tG S t)) (hb : PSs X body (tS S y))
    (hs : ∀ x, foldedSetIterable iter X.env x = pure x) : PS X (.For tg iter body [] pos) (tS S (forM items t y)) :=
  PS.imp (ps_for hp hc hi hg hb hs) fun D σ H ⟨γ, of, m, hR, p⟩ => by
    refine ⟨γ, of, m, hR, p.bnd.at.mono (Ext.refl _) fun γ1 of1 H1 m1 ds e1 R1 q J hw => ?_⟩
    refine ⟨fun i n σ H => n = ds.length - i ∧ i ≤ ds.length ∧ ∃ γ' of' mm, Ext γ1 γ' ∧ S.R γ' of' σ H mm ∧ PostF S γ' (forL t y (ds.drop i)) mm (RF S D), ⟨_, rfl, Nat.zero_le _, γ1, of1, m1, Ext.refl _, R1, by simpa using q⟩, ?_⟩
    rintro i n σ2 H2 ⟨rfl, hle, γ2, of2, m2, e2, R2, q2⟩
    obtain ⟨w1, w2⟩ := hw γ2 _ H2 _ e2.g R2
    by_cases hi : i < ds.length
    · have hd : ds[i]? = some ds[i] := List.getElem?_eq_getElem hi
      obtain ⟨g1, g2⟩ := w2 i _ hd
      refine .inr ⟨g1, fun σ' H' => i + 1 ≤ ds.length ∧ ∃ γ' of' mm, Ext γ1 γ' ∧ S.R γ' of' σ' H' mm ∧ PostF S γ' (forL t y (ds.drop (i + 1))) mm (RF S D), fun σ' H' ⟨k1, k2⟩ => ⟨_, by omega, rfl, k1, k2⟩, fun x H' hy => ?_⟩
      obtain ⟨γ3, e3, R3, rv⟩ := g2 x H' hy
      rw [drop_get hd] at q2
      have q3 : PostF S γ2 (bnd (t ds[i]) fun _ => bnd y fun f => match f with
        | .nx => forL t y (ds.drop (i + 1))
        | .ct => forL t y (ds.drop (i + 1))
        | .bk => ret .nx
        | .rt r => ret (.rt r)) m2 (RF S D) := q2
      refine ⟨γ3, of2, m2, ds[i], R3, rv, (q3.ext e3).bnd.mono (Ext.refl _) fun γ4 of4 σ4 H4 m4 _ e4 R4 q4 => ?_⟩
      refine ⟨γ4, of4, m4, R4, q4.bnd.mono (Ext.refl _) fun γ5 of5 σ5 H5 m5 f e5 R5 q5 => ?_⟩
      have ee : Ext γ1 γ5 := ((e2.trans e3).trans e4).trans e5
      cases f with
      | nx => exact ⟨hi, γ5, of5, m5, ee, R5, q5⟩
      | ct => exact ⟨hi, γ5, of5, m5, ee, R5, q5⟩
      | bk => exact q5.ret R5
      | rt r => exact q5.ret R5
    · have : i = ds.length := by omega
      subst this
      refine .inl ⟨w1, ?_⟩
      rw [List.drop_eq_nil_of_le (Nat.le_refl _)] at q2
      exact PostF.ret (a := Flow.nx) q2 R2

/-! ### while -/
theorem whileM_some {c : M Bool} {y : M Flow} {k : CallF} {m : Mem} {r : Out Flow × Mem} (h : whileM c y k m = some r) : ∃ n, whileN c y n k m = some r := by
  unfold whileM at h
  split at h
  · exact ⟨_, h⟩
  · cases h
theorem ts_while {t : Expr} {body : List Stmt} {yt : M Bool} {y : M Flow} (hp : PassesOwn (model X.prog X.w) X.A X.env X.xe) (ht : PT X t (tT S yt)) (hb : PSs X body (tS S y)) : PS X (.While t body [] pos) (tS S (whileM yt y)) :=
  PS.imp (ps_while hp ht hb) fun D σ H ⟨γ, of, m, hR, r, m', h1, h2⟩ => by
    obtain ⟨n0, hn⟩ := whileM_some h1
    refine ⟨fun n σ H => ∃ γ' of' mm, S.R γ' of' σ H mm ∧ PostF S γ' (whileN yt y n) mm (RF S D), ⟨n0, γ, of, m, hR, r, m', hn, h2⟩, ?_⟩
    rintro n σ1 H1 ⟨γ1, of1, m1, R1, p1⟩
    cases n with
    | zero => exact (PostF.stuck (α := Flow) p1).elim
    | succ n =>
      have p2 : PostF S γ1 (bnd yt fun b => if b then bnd y fun f => (match f with
        | .nx => whileN yt y n
        | .ct => whileN yt y n
        | .bk => ret .nx
        | .rt r => ret (.rt r)) else ret .nx) m1 (RF S D) := p1
      refine (splitFT R1 p2).mono fun k H2 ⟨γ2, of2, m2, e2, R2, p3⟩ => ?_
      cases k with
      | false => exact iteF (p3.ret R2)
      | true =>
        refine iteT ⟨fun σ' H' => ∃ γ' of' mm, S.R γ' of' σ' H' mm ∧ PostF S γ' (whileN yt y n) mm (RF S D), fun σ' H' h => ⟨n, Nat.lt_succ_self _, h⟩, γ2, of2, m2, R2, ?_⟩
        refine PostF.mono (PostF.bnd p3) (Ext.refl _) fun γ5 of5 σ5 H5 m5 f e5 R5 q5 => ?_
        cases f with
        | nx => exact ⟨γ5, of5, m5, R5, q5⟩
        | ct => exact ⟨γ5, of5, m5, R5, q5⟩
        | bk => exact q5.ret R5
        | rt r => exact q5.ret R5
end
end Iv

/-! Iv: list comprehensions. -/
namespace Iv
open PySem L2

abbrev Sg.in (S : Sg) : Sg := { S with W := fun _ _ _ _ => False }
def backS (s0 s : L2.St) : List Nat → L2.St
  | [] => s
  | i :: is => (backS s0 s is).set i (s0.getD i none)
theorem backS_len (s0 s : L2.St) : ∀ is : List Nat, (backS s0 s is).length = s.length
  | [] => rfl
  | i :: is => by simp [backS, backS_len s0 s is]
theorem backE_len (e0 e : Env) : ∀ is : List Nat, (backE e0 e is).length = e.length
  | [] => rfl
  | i :: is => by simp [backE, backE_len e0 e is]
theorem wipeE_len (e : Env) : ∀ is : List Nat, (wipeE e is).length = e.length
  | [] => rfl
  | i :: is => by simp [wipeE, wipeE_len e is]
theorem backS_get (s0 s : L2.St) (hl : s0.length = s.length) : ∀ (is : List Nat) (j : Nat), (backS s0 s is)[j]? = if j ∈ is then s0[j]? else s[j]?
  | [], j => by simp [backS]
  | i :: is, j => by
    simp only [backS]
    rw [List.getElem?_set, backS_len, backS_get s0 s hl is j]
    by_cases h : i = j
    · subst h
      by_cases h2 : i < s.length
      · simp [h2, List.getD, List.getElem?_eq_getElem (show i < s0.length by omega)]
      · simp [h2, List.getElem?_eq_none (show s0.length ≤ i by omega)]
    · have : j ≠ i := fun e => h e.symm
      simp [h, this]
theorem wipe_get (s : L2.St) : ∀ (is : List Nat) (j : Nat), j ∉ is → (wipe s is)[j]? = s[j]?
  | [], j, _ => rfl
  | i :: is, j, h => by
    simp only [List.mem_cons, not_or] at h
    show ((wipe s is).set i none)[j]? = _
    rw [List.getElem?_set_ne (Ne.symm h.1), wipe_get s is j h.2]
theorem back_wipe (s : L2.St) (is : List Nat) : backS s (wipe s is) is = s := by
  apply List.ext_getElem?
  intro j
  rw [backS_get _ _ (by rw [wipe_length])]
  by_cases h : j ∈ is
  · rw [if_pos h]
  · rw [if_neg h, wipe_get s is j h]
section
variable {S : Sg} {γ γ' : Gh} {of of' : List (List (Option V))} {σ : L2.St} {H H' : Hp} {m m' : Mem}

theorem Sg.lens (R : S.R γ of σ H m) : σ.length = m.env.length := R.lens m.stk.length σ m.env (by rw [← Sg.len R]; simp) (by simp [Mem.g])
theorem store_any {i : Nat} {s1 : Slot} {x : Option V} (R : S.R γ of σ H m) (hl : (m.env.getD i .no).locked = false) (h1 : s1 = .no ∨ ∃ v y, s1 = .val v ∧ x = some y ∧ RV S.C γ.G γ.ob v y) : S.R γ of (σ.set i x) H { m with env := m.env.set i s1 } := by
  by_cases hi : i < m.env.length
  · have e : m.env[i]? = some m.env[i] := List.getElem?_eq_getElem hi
    have R' := Rel.store (i := i) (s0 := m.env[i]) (s1 := s1) (x := x) (d := m.stk.length) R (by simp [Mem.g]) (by rw [m.at_cur]; exact e) (by rw [← hl]; simp [List.getD, e]) (by
      rcases h1 with h | ⟨v, y, h⟩
      · exact .inl h
      · exact .inr (.inl ⟨v, y, h⟩))
    rw [m.set_cur, Sg.set_cur R] at R'
    exact R'
  · have e1 : σ.set i x = σ := List.set_eq_of_length_le (by rw [Sg.lens R]; omega)
    have e2 : m.env.set i s1 = m.env := List.set_eq_of_length_le (by omega)
    rw [e1, e2]
    exact R
theorem wipeE_locked (e : Env) (i : Nat) (h : (e.getD i .no).locked = false) : ∀ is : List Nat, ((wipeE e is).getD i .no).locked = false
  | [] => h
  | j :: is => by
    simp only [wipeE, List.getD, List.getElem?_set]
    by_cases hj : j = i
    · subst hj
      by_cases h2 : j < (wipeE e is).length
      · simp [h2, Slot.locked]
      · simp [h2, Slot.locked]
    · simp only [hj, if_false]
      exact wipeE_locked e i h is
theorem wipe_ok (R : S.R γ of σ H m) : ∀ (is : List Nat), (∀ i ∈ is, (m.env.getD i .no).locked = false) → S.R γ of (wipe σ is) H { m with env := wipeE m.env is }
  | [], _ => R
  | i :: is, h => by
    have R1 := wipe_ok R is fun j hj => h j (List.mem_cons_of_mem _ hj)
    exact store_any R1 (wipeE_locked m.env i (h i List.mem_cons_self) is) (.inl rfl)
theorem backE_locked (e0 e : Env) (h0 : ∀ i, (e0.getD i .no).idle = true → (e0.getD i .no).locked = false) (i : Nat) (h : (e.getD i .no).locked = false) : ∀ is : List Nat, (∀ j ∈ is, (e0.getD j .no).idle = true) → ((backE e0 e is).getD i .no).locked = false
  | [], _ => h
  | j :: is, hi => by
    have ih := backE_locked e0 e h0 i h is fun k hk => hi k (List.mem_cons_of_mem _ hk)
    simp only [backE, List.getD, List.getElem?_set] at ih ⊢
    by_cases hj : j = i
    · subst hj
      by_cases h2 : j < (backE e0 e is).length
      · have := h0 j (hi j List.mem_cons_self)
        simpa [h2, List.getD] using this
      · simp [h2, Slot.locked]
    · simp only [hj, if_false]
      exact ih
theorem idle_free {s : Slot} (h : s.idle = true) : s.locked = false := by cases s <;> first | rfl | cases h
/-- the slots is come back -/
theorem back_ok {σ0 : L2.St} {m0 : Mem} {γ0 : Gh} {of0 : List (List (Option V))} {H0 : Hp} (R0 : S.R γ0 of0 σ0 H0 m0) (ext : Same γ0.G γ.G ∧ Pre γ0.ob γ.ob) (hl : σ0.length = σ.length) (hk : m0.stk.length = m.stk.length) (R : S.R γ of σ H m) : ∀ (is : List Nat), (∀ i ∈ is, (m0.env.getD i .no).idle = true) → (∀ i ∈ is, (m.env.getD i .no).locked = false) → S.R γ of (backS σ0 σ is) H { m with env := backE m0.env m.env is }
  | [], _, _ => R
  | i :: is, h, h2 => by
    have R1 := back_ok R0 ext hl hk R is (fun j hj => h j (List.mem_cons_of_mem _ hj)) fun j hj => h2 j (List.mem_cons_of_mem _ hj)
    have hi := h i List.mem_cons_self
    refine store_any R1 (backE_locked _ _ (fun j hj => idle_free hj) i (h2 i List.mem_cons_self) is fun j hj => h j (List.mem_cons_of_mem _ hj)) ?_
    cases e : m0.env[i]? with
    | none => left; simp [List.getD, e]
    | some s =>
      have q := R0.slot (.st m0.stk.length i) s (by rw [m0.at_cur]; exact e)
      simp only [List.getD, e, Option.getD_some] at hi ⊢
      cases s with
      | no => exact .inl rfl
      | val v =>
        obtain ⟨x, h3, h4⟩ := q
        rw [Sg.at_cur R0] at h3
        exact .inr ⟨v, x, rfl, by rw [h3]; rfl, RV.mono ext.1 ext.2 _ _ h4⟩
      | _ => cases hi

/-- a kept object -/
theorem Rel.setF {C : Ctx} {f : Fs} {g : Glob} {F' : Hp} (R : Rel C γ f H g) (h1 : Same F' H) (h2 : ∀ a, F' a ≠ none → γ.F a = none → Free γ f g a ∧ γ.G a = none) : Rel C { γ with F := F' } f H g := by
  have key : ∀ a, (∃ o, H a = some o) → (Owned f g a ∨ IsOb γ a ∨ γ.G a ≠ none) → γ.F a = none → F' a = none := fun a _ ho hF => by
    cases e : F' a with
    | none => rfl
    | some o =>
      obtain ⟨fr, g0⟩ := h2 a (by rw [e]; simp) hF
      rcases ho with z | z | z
      · exact (fr.own z).elim
      · exact (fr.ob z).elim
      · exact (z g0).elim
  refine ⟨R.len, R.lens, R.G, h1, fun a o e => key a ⟨o, R.G _ _ e⟩ (.inr (.inr (by rw [e]; simp))) (R.GF a o e), fun l s hs => ?_, R.uniq, R.lk, R.olen, fun i a o xs k1 k2 k3 => ?_, R.oinj⟩
  · refine (R.slot l s hs).keep (Same.refl _) (Pre.refl _) rfl (fun _ _ _ _ _ _ => rfl) (fun a c hc ha => ?_) (fun _ _ _ q => q)
    obtain ⟨a', e1, e2, e3, e4⟩ := R.cr hs hc
    rw [ha] at e1
    cases e1
    obtain ⟨o, ho, _⟩ := e2.some
    exact ⟨rfl, e3, key a ⟨o, ho⟩ (.inl ⟨l, s, c, hs, hc, ha⟩) e4⟩
  · obtain ⟨q1, q2, q3⟩ := R.obj i a o xs k1 k2 k3
    obtain ⟨⟨Ca, dx, fs, q4⟩, _⟩ := R.isOb ⟨i, k1⟩
    exact ⟨q1, q2, key a ⟨_, q4⟩ (.inr (.inl ⟨i, k1⟩)) q3⟩
end

theorem free_of_F {C : Ctx} {γ : Gh} {f : Fs} {H : Hp} {g : Glob} {D : Addr} {o : HO} (R : Rel C γ f H g) (h : γ.F D = some o) : Free γ f g D ∧ γ.G D = none := by
  refine ⟨⟨fun z => ?_, fun z => ?_⟩, ?_⟩
  · rw [(R.owned z).2.2] at h; cases h
  · rw [(R.isOb z).2.2] at h; cases h
  · cases e : γ.G D with
    | none => rfl
    | some u => rw [R.GF _ _ e] at h; cases h

/-! ### targets, as they store -/
mutual
def Tgt.names : Tgt → List Nat
  | .name i => [i]
  | .tup ts => Tgt.namess ts
def Tgt.namess : List Tgt → List Nat
  | [] => []
  | t :: ts => Tgt.names t ++ Tgt.namess ts
end
mutual
def tgRaw (K : PySem.W.Frag) : Tgt → TG
  | .name i => gName i
  | .tup ts => gTup K ts.length (tgsRaw K ts)
def tgsRaw (K : PySem.W.Frag) : List Tgt → TGs
  | [] => gNil
  | t :: ts => gCons (tgRaw K t) (tgsRaw K ts)
end
section
variable {S : Sg} {γ : Gh} {of : List (List (Option V))} {m : Mem}
mutual
theorem raw_run {K : PySem.W.Frag} (hK : K = S.C.K) : ∀ (T : Tgt) {σ : L2.St} {H : Hp} {m m' : Mem} {d : Val} {v : V} {Q : L2.St → Hp → Prop}, S.R γ of σ H m → RV S.C γ.G γ.ob d v → Tgt.put T d S.k m = some (.ok (), m') →
    (∀ σ', (∀ j, j ∉ T.names → σ'[j]? = σ[j]?) → σ'.length = σ.length → S.R γ of σ' H m' → Q σ' H) → tgRaw K T v σ H Q
  | .name i, σ, H, m, m', d, v, Q, hR, rv, e, q => by
    simp only [tgRaw, gName]
    have e' : setSlot i (.val d) S.k m = some (.ok (), m') := e
    have hi : ∃ s0, m.env[i]? = some s0 ∧ s0.locked = false ∧ m' = { m with env := m.env.set i (.val d) } := by
      unfold setSlot at e'
      split at e'
      · rename_i s0 h0
        split at e'
        · cases e'
        · rename_i hl
          cases e'
          exact ⟨s0, h0, by simpa using hl, rfl⟩
      · cases e'
    obtain ⟨s0, h0, hl, rfl⟩ := hi
    refine q _ (fun j hj => ?_) (by simp) (store_any hR (by simp [List.getD, h0, hl]) (.inr ⟨d, v, rfl, rfl, rv⟩))
    simp only [Tgt.names, List.mem_singleton] at hj
    exact List.getElem?_set_ne (Ne.symm hj)
  | .tup ts, σ, H, m, m', d, v, Q, hR, rv, e, q => by
    cases d with
    | tup ds =>
      have e' : (if ts.length = ds.length then Tgt.puts ts ds else stuck) S.k m = some (.ok (), m') := e
      by_cases hl : ts.length = ds.length
      · rw [if_pos hl] at e'
        obtain ⟨a, vs, rfl, h1, h2⟩ := RB.tup hR (RV.b hR rv)
        simp only [tgRaw, gTup]
        exact ⟨a, vs, rfl, by rw [hK]; exact h1, by rw [← h2.length, hl], raws_run hK ts hR h2 hl e' q⟩
      · rw [if_neg hl] at e'
        cases e'
    | _ => exact absurd e (by intro z; cases z)
theorem raws_run {K : PySem.W.Frag} (hK : K = S.C.K) : ∀ (ts : List Tgt) {σ : L2.St} {H : Hp} {m m' : Mem} {ds : List Val} {vs : List V} {Q : L2.St → Hp → Prop}, S.R γ of σ H m → RVs S.C γ.G γ.ob ds vs → ts.length = ds.length → Tgt.puts ts ds S.k m = some (.ok (), m') →
    (∀ σ', (∀ j, j ∉ Tgt.namess ts → σ'[j]? = σ[j]?) → σ'.length = σ.length → S.R γ of σ' H m' → Q σ' H) → tgsRaw K ts vs σ H Q
  | [], σ, H, m, m', ds, vs, Q, hR, rv, hl, e, q => by
    have : ds = [] := List.length_eq_zero_iff.mp hl.symm
    subst this
    simp only [RVs] at rv
    subst rv
    have e' : m = m' := by
      have : (some (Out.ok (), m) : Option (Out Unit × Mem)) = some (.ok (), m') := e
      cases this; rfl
    subst e'
    show gNil [] σ H Q
    exact ⟨rfl, q σ (fun _ _ => rfl) rfl hR⟩
  | t :: ts, σ, H, m, m', ds, vs, Q, hR, rv, hl, e, q => by
    cases ds with
    | nil => cases hl
    | cons d ds =>
      simp only [RVs] at rv
      obtain ⟨v, r, rfl, h1, h2⟩ := rv
      simp only [Tgt.puts, bnd] at e
      split at e
      · rename_i u m1 e1
        simp only [tgsRaw, gCons]
        refine ⟨v, r, rfl, raw_run hK t hR h1 e1 fun σ1 k1 k2 R1 => raws_run hK ts R1 h2 (by simpa using hl) e fun σ2 k3 k4 R2 => q σ2 (fun j hj => ?_) (by rw [k4, k2]) R2⟩
        simp only [Tgt.namess, List.mem_append, not_or] at hj
        rw [k3 j hj.2, k1 j hj.1]
      · cases e
      · cases e
end
theorem PG.imp {X : Cx} {tg : Expr} {t t' : TG} (h : PG X tg t) (hi : ∀ v σ H Q, t' v σ H Q → t v σ H Q) : PG X tg t' := ⟨fun pins s σ H v u Q I r q => h.run pins s σ H v u Q I r (hi v σ H Q q)⟩
mutual
theorem put_ok : ∀ (T : Tgt) (d : Val) (k : CallF) (m : Mem) (r : Out Unit) (m' : Mem), Tgt.put T d k m = some (r, m') → r = .ok ()
  | .name i, d, k, m, r, m', e => by
    have e' : setSlot i (.val d) k m = some (r, m') := e
    unfold setSlot at e'
    split at e'
    · split at e'
      · cases e'
      · cases e'; rfl
    · cases e'
  | .tup ts, d, k, m, r, m', e => by
    cases d with
    | tup ds =>
      have e' : (if ts.length = ds.length then Tgt.puts ts ds else stuck) k m = some (r, m') := e
      split at e'
      · exact puts_ok ts ds k m r m' e'
      · cases e'
    | _ => exact absurd e (by intro z; cases z)
theorem puts_ok : ∀ (ts : List Tgt) (ds : List Val) (k : CallF) (m : Mem) (r : Out Unit) (m' : Mem), Tgt.puts ts ds k m = some (r, m') → r = .ok ()
  | [], ds, k, m, r, m', e => by
    have : (some (Out.ok (), m) : Option (Out Unit × Mem)) = some (r, m') := e
    cases this; rfl
  | t :: ts, [], k, m, r, m', e => by cases (show (none : Option (Out Unit × Mem)) = some (r, m') from e)
  | t :: ts, d :: ds, k, m, r, m', e => by
    simp only [Tgt.puts, bnd] at e
    split at e
    · exact puts_ok ts ds _ _ _ _ e
    · rename_i c fs m1 e1
      have := put_ok t d k m _ _ e1
      cases this
    · cases e
end
theorem tg_raw {X : Cx} {tg : Expr} {T : Tgt} (hK : X.K = S.C.K) (h : PG X tg (tgRaw X.K T)) : PG X tg (tG S (Tgt.put T)) :=
  PG.imp h fun v σ H Q ⟨γ, of, m, d, hR, rv, r, m', e1, e2⟩ => by
    have := put_ok T d _ _ _ _ e1
    subst this
    exact raw_run hK T hR rv e1 fun σ' _ _ R' => e2 γ of σ' H (Ext.refl _) R'
end

section
variable {X : Cx} {S : Sg}
theorem run_bnd {α β : Type} {x : M α} {f : α → M β} {k : CallF} {m m' : Mem} {b : β} (h : bnd x f k m = some (.ok b, m')) : ∃ a m1, x k m = some (.ok a, m1) ∧ f a k m1 = some (.ok b, m') := by
  simp only [bnd] at h
  split at h
  · rename_i a m1 e
    exact ⟨a, m1, e, h⟩
  · cases h
  · cases h
theorem wipe_eq {σ σ' : L2.St} (own : List Nat) (hl : σ'.length = σ.length) (h : ∀ j, j ∉ own → σ'[j]? = σ[j]?) : wipe σ' own = wipe σ own := by
  have go : ∀ (is : List Nat) (j : Nat), (wipe σ' is)[j]? = if j ∈ is then (if j < σ.length then some none else none) else σ'[j]? := by
    intro is
    induction is with
    | nil => intro j; simp [wipe]
    | cons i is ih =>
      intro j
      show ((wipe σ' is).set i none)[j]? = _
      rw [List.getElem?_set, wipe_length, ih j]
      by_cases h1 : i = j
      · subst h1
        by_cases h2 : i < σ.length
        · simp [h2, hl]
        · simp [h2, hl]
      · have : j ≠ i := fun e => h1 e.symm
        simp [h1, this]
  have go2 : ∀ (is : List Nat) (j : Nat), (wipe σ is)[j]? = if j ∈ is then (if j < σ.length then some none else none) else σ[j]? := by
    intro is
    induction is with
    | nil => intro j; simp [wipe]
    | cons i is ih =>
      intro j
      show ((wipe σ is).set i none)[j]? = _
      rw [List.getElem?_set, wipe_length, ih j]
      by_cases h1 : i = j
      · subst h1
        by_cases h2 : i < σ.length
        · simp [h2]
        · simp [h2]
      · have : j ≠ i := fun e => h1 e.symm
        simp [h1, this]
  apply List.ext_getElem?
  intro j
  rw [go, go2]
  by_cases hj : j ∈ own
  · simp [hj]
  · simp [hj, h j hj]
/-- the reading of a comprehension -/
theorem lc_of {K : PySem.W.Frag} (hK : K = S.C.K) {items : M (List Val)} {own : List Nat} {T : Tgt} {yt : M Bool} {xe : M Res} {σ : L2.St} {H : Hp} {Q : VK} (hT : ∀ i ∈ T.names, i ∈ own) (h : tE S (compM items own (Tgt.put T) yt xe) σ H Q) :
    tLc (iI S items) (tgRaw K T) (tT S.in yt) (tE S.in xe) own σ H Q := by
  obtain ⟨γ, of, m, hR, p⟩ := h
  refine ⟨γ, of, m, hR, p.bnd.mono (Ext.refl _) fun γ1 of1 H1 m1 ds e1 R1 q J hJ D hD => ?_⟩
  obtain ⟨r, m2, h1, h2⟩ := q
  unfold compR at h1
  split at h1
  · rename_i hidle
    have hidle' : ∀ i ∈ own, (m1.env.getD i .no).idle = true := by simpa [List.all_eq_true] using hidle
    split at h1
    · rename_i res m3 hloop
      cases h1
      obtain ⟨fD, gD, FD⟩ := R1.fresh hD
      have upF : ∀ (F : Hp) (o : HO) (b : Addr), upd F D o b ≠ none → F b = none → b = D := fun F o b hb hn => by
        by_cases hbD : b = D
        · exact hbD
        · rw [upd_ne hbD, hn] at hb; exact (hb rfl).elim
      have start : S.in.R { γ1 with F := upd γ1.F D (.lst []) } of1 σ (upd H1 D (.lst [])) m1 := Rel.setF (R1.alloc hD) (fun b o hb => by
        by_cases hbD : b = D
        · subst hbD; rw [upd_same] at hb; rw [upd_same]; exact hb
        · rw [upd_ne hbD] at hb ⊢; exact R1.F _ _ hb) fun b hb1 hb2 => by
          have := upF _ _ _ hb1 hb2
          subst this
          exact ⟨fD, gD⟩
      refine ⟨fun i n H' => n = ds.length - i ∧ i ≤ ds.length ∧ ∃ γ' of' mm acc vacc σ', ExtG γ1 γ' ∧ γ'.F = upd γ1.F D (.lst vacc) ∧ wipe σ' own = wipe σ own ∧ σ'.length = σ.length ∧ S.in.R γ' of' σ' H' mm ∧ RVs S.C γ'.G γ'.ob acc vacc ∧
        compL own (Tgt.put T) yt xe acc (ds.drop i) S.k mm = some (.ok res, m3), ⟨_, rfl, Nat.zero_le _, { γ1 with F := upd γ1.F D (.lst []) }, of1, m1, [], [], σ, ⟨Same.refl _, rfl, Pre.refl _⟩, rfl, rfl, rfl, start, RVs.nil, by simpa using hloop⟩, ?_⟩
      rintro i n H' ⟨rfl, hle, γ', of', mm, acc, vacc, σ', e', hF', hw', hl', R', rva, hrun⟩
      have wiped : ∀ {α : Type} (F : Unit → M α) (r : Out α × Mem), bnd (wipeM own) F S.k mm = some r → (∀ i ∈ own, (mm.env.getD i .no).locked = false) ∧ F () S.k { mm with env := wipeE mm.env own } = some r := by
        intro α F r hr
        simp only [bnd, wipeM] at hr
        by_cases hk : own.all (fun i => !(mm.env.getD i .no).locked) = true
        · rw [if_pos hk] at hr
          refine ⟨fun i hi => ?_, hr⟩
          have := List.all_eq_true.mp hk i hi
          simpa using this
        · rw [if_neg hk] at hr
          cases hr
      by_cases hi : i < ds.length
      · have hd : ds[i]? = some ds[i] := List.getElem?_eq_getElem hi
        rw [drop_get hd] at hrun
        obtain ⟨hnl, hrun⟩ := wiped _ _ (show bnd (wipeM own) (fun _ => bnd (Tgt.put T ds[i]) fun _ => bnd yt fun b => if b then bnd xe fun r => if acc.length < lim then compL own (Tgt.put T) yt xe (acc ++ [r.fz]) (ds.drop (i + 1)) else stuck else compL own (Tgt.put T) yt xe acc (ds.drop (i + 1))) S.k mm = _ from hrun)
        have Rw : S.in.R γ' of' (wipe σ' own) H' { mm with env := wipeE mm.env own } := wipe_ok R' own hnl
        rw [hw'] at Rw
        obtain ⟨w1, w2⟩ := hJ γ' _ H' _ e' Rw
        obtain ⟨go, yl⟩ := w2 i _ hd
        refine .inr ⟨go, fun H'' => i + 1 ≤ ds.length ∧ ∃ γ' of' mm acc vacc σ', ExtG γ1 γ' ∧ γ'.F = upd γ1.F D (.lst vacc) ∧ wipe σ' own = wipe σ own ∧ σ'.length = σ.length ∧ S.in.R γ' of' σ' H'' mm ∧ RVs S.C γ'.G γ'.ob acc vacc ∧
          compL own (Tgt.put T) yt xe acc (ds.drop (i + 1)) S.k mm = some (.ok res, m3), fun H'' ⟨k1, k2⟩ => ⟨_, by omega, rfl, k1, k2⟩, fun x H2 hy => ?_⟩
        obtain ⟨γ3, e3, R3, rvx⟩ := yl x H2 hy
        obtain ⟨_, mt, et, hrun⟩ := run_bnd hrun
        have R3' : S.in.R γ3 of' (wipe σ own) H2 { mm with env := wipeE mm.env own } := R3
        refine raw_run (S := S.in) hK T R3' rvx et fun σ2 k1 k2 R4 => ?_
        have hwσ : wipe σ2 own = wipe σ own := by
          have q1 : wipe σ2 own = wipe (wipe σ own) own := wipe_eq own k2 fun j hj => k1 j fun z => hj (hT j z)
          rw [q1]
          apply List.ext_getElem?
          intro j
          by_cases hj : j ∈ own
          · have aux : ∀ (s : L2.St) (is : List Nat), j ∈ is → (wipe s is)[j]? = if j < s.length then some none else none := by
              intro s is
              induction is with
              | nil => intro z; cases z
              | cons a is ih =>
                intro z
                show ((wipe s is).set a none)[j]? = _
                rw [List.getElem?_set, wipe_length]
                by_cases ha : a = j
                · subst ha
                  by_cases h2 : a < s.length <;> simp [h2]
                · have : j ∈ is := by
                    rcases List.mem_cons.mp z with z | z
                    · exact (ha z.symm).elim
                    · exact z
                  rw [if_neg ha]
                  exact ih this
            rw [aux _ _ hj, aux _ _ hj, wipe_length]
          · rw [wipe_get _ _ _ hj]
        have hlσ : σ2.length = σ.length := by rw [k2, wipe_length]
        obtain ⟨b, m4, eb, hrun⟩ := run_bnd hrun
        refine ⟨hwσ, γ3, of', mt, R4, .ok b, m4, eb, fun γ4 of4 H4 e4 R5 => ?_⟩
        have eG4 : ExtG γ1 γ4 := (e'.trans e3.g).trans e4.g
        have F4 : γ4.F = upd γ1.F D (.lst vacc) := by rw [e4.F, e3.F, hF']
        have rva4 : RVs S.C γ4.G γ4.ob acc vacc := RVs.mono (e3.G.trans e4.G) (e3.ob.trans e4.ob) _ _ rva
        cases b with
        | false => exact iteF ⟨hi, γ4, of4, m4, acc, vacc, σ2, eG4, F4, hwσ, hlσ, R5, rva4, hrun⟩
        | true =>
          obtain ⟨re, m5, er, hrun⟩ := run_bnd (show bnd xe (fun r => if acc.length < lim then compL own (Tgt.put T) yt xe (acc ++ [r.fz]) (ds.drop (i + 1)) else stuck) S.k m4 = _ from hrun)
          have hlen : acc.length < lim := by
            by_cases h : acc.length < lim
            · exact h
            · rw [if_neg h] at hrun; cases hrun
          rw [if_pos hlen] at hrun
          refine iteT ⟨γ4, of4, m4, R5, .ok re, m5, er, fun γ5 of5 H5 e5 R6 v rr => ?_⟩
          obtain ⟨γ6, e6, R7, rv⟩ := rr.fix R6
          have F6 : γ6.F = upd γ1.F D (.lst vacc) := by rw [e6.F, e5.F, F4]
          have hD5 : H5 D = some (.lst vacc) := R7.F D _ (by rw [F6, upd_same])
          obtain ⟨fr6, g6⟩ := free_of_F (D := D) (o := .lst vacc) R7 (by rw [F6, upd_same])
          have rvn : RVs S.C γ6.G γ6.ob (acc ++ [re.fz]) (vacc ++ [v]) := RVs.append (RVs.mono (e5.G.trans e6.G) (e5.ob.trans e6.ob) _ _ rva4) (.one rv)
          refine ⟨vacc, hD5, by rw [← rva.length, sizeLine_eq]; unfold lim at hlen; omega, hi, { γ6 with F := upd γ1.F D (.lst (vacc ++ [v])) }, of5, m5, acc ++ [re.fz], vacc ++ [v], σ2, ?_, rfl, hwσ, hlσ, ?_, rvn, hrun⟩
          · have q := (eG4.trans e5.g).trans e6.g
            exact ⟨q.G, q.lk, q.ob⟩
          · have R8 := Rel.setF (F' := γ1.F) R7 (fun b o hb => R7.F b o (by
              rw [F6]
              by_cases hbD : b = D
              · subst hbD; rw [FD] at hb; cases hb
              · rw [upd_ne hbD]; exact hb)) fun b hb1 hb2 => by
                rw [F6] at hb2
                by_cases hbD : b = D
                · subst hbD; rw [upd_same] at hb2; cases hb2
                · rw [upd_ne hbD] at hb2; exact (hb1 hb2).elim
            have R9 := Rel.heap (p := D) (o := .lst (vacc ++ [v])) R8 ⟨fr6.own, fr6.ob⟩ g6 FD
            exact Rel.setF (γ := { γ6 with F := γ1.F }) (F' := upd γ1.F D (.lst (vacc ++ [v]))) R9 (fun b o hb => by
              by_cases hbD : b = D
              · subst hbD; rw [upd_same] at hb ⊢; exact hb
              · rw [upd_ne hbD] at hb ⊢
                exact R8.F _ _ hb) fun b hb1 hb2 => by
                have := upF _ _ _ hb1 hb2
                subst this
                exact ⟨⟨fr6.own, fr6.ob⟩, g6⟩
      · have : i = ds.length := by omega
        subst this
        rw [List.drop_eq_nil_of_le (Nat.le_refl _)] at hrun
        obtain ⟨hnl, hrun⟩ := wiped _ _ (show bnd (wipeM own) (fun _ => ret acc) S.k mm = _ from hrun)
        have hrun : (some (Out.ok acc, ({ mm with env := wipeE mm.env own } : Mem)) : Option (Out (List Val) × Mem)) = some (.ok res, m3) := hrun
        cases hrun
        have Rw : S.in.R γ' of' (wipe σ' own) H' { mm with env := wipeE mm.env own } := wipe_ok R' own hnl
        rw [hw'] at Rw
        obtain ⟨w1, _⟩ := hJ γ' _ H' _ e' Rw
        refine .inl ⟨w1, ?_⟩
        have Rb := back_ok (S := S.in) R1 ⟨e'.G, e'.ob⟩ (by rw [wipe_length]) (by rw [← Sg.len R1, ← Sg.len Rw]) Rw own hidle' fun j hj => wipeE_locked _ _ (hnl j hj) own
        rw [back_wipe] at Rb
        obtain ⟨frb, gb⟩ := free_of_F (D := D) (o := .lst vacc) Rb (by rw [hF', upd_same])
        have hDb : H' D = some (.lst vacc) := Rb.F D _ (by rw [hF', upd_same])
        have Rz := Rel.setF (F' := γ1.F) Rb (fun b o hb => Rb.F b o (by
            rw [hF']
            by_cases hbD : b = D
            · subst hbD; rw [FD] at hb; cases hb
            · rw [upd_ne hbD]; exact hb)) fun b hb1 hb2 => by
              rw [hF'] at hb2
              by_cases hbD : b = D
              · subst hbD; rw [upd_same] at hb2; cases hb2
              · rw [upd_ne hbD] at hb2; exact (hb1 hb2).elim
        exact h2 { γ' with F := γ1.F } of' H' ⟨e'.G, rfl, e'.lk, e'.ob⟩ Rz (.ref D) ⟨D, rfl, ⟨vacc, hDb, rva⟩, gb, FD, ⟨frb.own, frb.ob⟩⟩
    · cases h1
  · cases h1
variable {elt tg iter : Expr} {ifs : List Expr} {scope : Scope} {own : List (Str × Nat)} {pos : Pos} {items : M (List Val)} {T : Tgt} {yt : M Bool} {xe : M Res}
theorem te_lc (hK : X.K = S.C.K) (hc : X.calm = true) (hN : X.N.Nodup) (hi : PI X tg iter (iI S items)) (ok : BlkOk X.N X.env.scope scope own) (hT : ∀ i ∈ T.names, i ∈ own.map (·.2))
    (hg : ∀ (s : Shared) (H : Hp) (C : Addr) (cl : List (Str × Addr)) (fp : List Addr), PG (X.blk s H scope (compEnvC scope cl C X.env) fp) tg (tgRaw X.K T)) (ht : ∀ (s : Shared) (H : Hp) (C : Addr) (cl : List (Str × Addr)) (fp : List Addr), PTs (X.blk s H scope (compEnvC scope cl C X.env) fp) ifs (tT S.in yt))
    (he : ∀ (s : Shared) (H : Hp) (C : Addr) (cl : List (Str × Addr)) (fp : List Addr), PE (X.blk s H scope (compEnvC scope cl C X.env) fp) elt (tE S.in xe)) (hs : ∀ x, foldedSetIterable iter X.env x = pure x) :
    PE X (.ListComp elt [⟨tg, iter, ifs, 0⟩] scope pos) (tE S (compM items (own.map (·.2)) (Tgt.put T) yt xe)) := PE.imp (pe_lc hc hN hi ok hg ht he hs) fun σ H Q h => lc_of hK hT h
theorem ts_setLc {i : Nat} {y : Str} {py spos : Pos} (hK : X.K = S.C.K) (hc : X.calm = true) (hN : X.N.Nodup) (hy : X.N[i]? = some y) (hyl : X.env.scope.names.lookup y = some .local)
    (hsw : swapsWith (.ListComp elt [⟨tg, iter, ifs, 0⟩] scope pos) (some (.Name y py)) spos.line X.env = pure true) (hi : PI X tg iter (iI S items)) (ok : BlkOk X.N X.env.scope scope own) (hT : ∀ i ∈ T.names, i ∈ own.map (·.2))
    (hg : ∀ (s : Shared) (H : Hp) (C : Addr) (cl : List (Str × Addr)) (fp : List Addr), PG (X.blk s H scope (compEnvC scope cl C X.env) fp) tg (tgRaw X.K T)) (ht : ∀ (s : Shared) (H : Hp) (C : Addr) (cl : List (Str × Addr)) (fp : List Addr), PTs (X.blk s H scope (compEnvC scope cl C X.env) fp) ifs (tT S.in yt))
    (he : ∀ (s : Shared) (H : Hp) (C : Addr) (cl : List (Str × Addr)) (fp : List Addr), PE (X.blk s H scope (compEnvC scope cl C X.env) fp) elt (tE S.in xe)) (hs : ∀ x, foldedSetIterable iter X.env x = pure x) :
    PS X (.Assign [.Name y py] (.ListComp elt [⟨tg, iter, ifs, 0⟩] scope pos) spos) (tS S (asgM i (compM items (own.map (·.2)) (Tgt.put T) yt xe))) :=
  PS.imp (L2.ps_setLc hc hN hy hyl hsw hi ok hg ht he hs) fun D σ H ⟨γ, of, m, hR, p⟩ => lc_of hK hT ((splitK hR p).mono fun v H1 ⟨γ1, of1, m1, a1, e1, R1, rr, p1⟩ => by
    obtain ⟨m2, R2, p2⟩ := setName_ok R1 rr p1.bnd
    exact p2.ret R2)
end
end Iv

/-! Iv: the programs' text as a small language; what it means; that it fits the text. -/
namespace Iv
open PySem L2

inductive BOp where
  | add | sub | mul | div | mod | pow
def BOp.F : BOp → Val → Val → Option Res
  | .add => opAdd
  | .sub => opSub
  | .mul => opMul
  | .div => opDiv
  | .mod => opMod
  | .pow => opPow
def BOp.fits : BOp → Operator → Bool
  | .add, .Add => true
  | .sub, .Sub => true
  | .mul, .Mult => true
  | .div, .FloorDiv => true
  | .mod, .Mod => true
  | .pow, .Pow => true
  | _, _ => false
inductive COp where
  | eq | ne | lt | le | gt | ge | isIn | notIn
def COp.F : COp → Val → Val → Option Bool
  | .eq => cEq
  | .ne => cNe
  | .lt => cLt
  | .le => cLe
  | .gt => cGt
  | .ge => cGe
  | .isIn => cInS
  | .notIn => cNotInS
def COp.fits : COp → CmpOp → Bool
  | .eq, .Eq => true
  | .ne, .NotEq => true
  | .lt, .Lt => true
  | .le, .LtE => true
  | .gt, .Gt => true
  | .ge, .GtE => true
  | .isIn, .In => true
  | .notIn, .NotIn => true
  | _, _ => false
def lenS : Val → Option Res
  | .dct _ => none
  | d => bLen d
def listS : Val → Option Res
  | .dct _ => none
  | d => bList d
def maxS : Val → Option Res
  | .lst xs => bMax (.lst xs)
  | _ => none
def minS : Val → Option Res
  | .lst xs => bMin (.lst xs)
  | _ => none
inductive F1 where
  | len | tuple | list | sorted | any | all | sum | max | min | abs | int | str | repr
def F1.F : F1 → Val → Option Res
  | .len => lenS
  | .tuple => bTuple
  | .list => listS
  | .sorted => bSorted
  | .any => bAny
  | .all => bAll
  | .sum => bSum
  | .max => maxS
  | .min => minS
  | .abs => bAbs
  | .int => bInt
  | .str => bStr
  | .repr => bRepr
def F1.name : F1 → Str
  | .len => "len"
  | .tuple => "tuple"
  | .list => "list"
  | .sorted => "sorted"
  | .any => "any"
  | .all => "all"
  | .sum => "sum"
  | .max => "max"
  | .min => "min"
  | .abs => "abs"
  | .int => "int"
  | .str => "str"
  | .repr => "repr"
inductive F2 where
  | max | min
def F2.F : F2 → Val → Val → Option Res
  | .max => bMax2
  | .min => bMin2
def F2.name : F2 → Str
  | .max => "max"
  | .min => "min"
inductive L1 where
  | append | pop | extend
def L1.F : L1 → Val → Cell → Option (Cell × Val)
  | .append => lAppend
  | .pop => lPop
  | .extend => lExtend
def L1.name : L1 → Str
  | .append => "append"
  | .pop => "pop"
  | .extend => "extend"
inductive L0 where
  | pop | reverse
def L0.F : L0 → Cell → Option (Cell × Val)
  | .pop => lPop0
  | .reverse => lReverse
def L0.name : L0 → Str
  | .pop => "pop"
  | .reverse => "reverse"
def storeS (k v : Val) (c : Cell) : Option (Cell × Unit) := match k, c with
  | .int i, .lst xs => (ixN xs.length i).map fun j => (Cell.lst (xs.set j v), ())
  | _, _ => none

mutual
inductive E where
  | non | bool (b : Bool) | int (i : Int) | str (s : Str) | name (i : Nat)
  | bin (op : BOp) (a b : O) | neg (a : O)
  | cmp (op : COp) (a b : O) | isN (a : O) | notN (a : O)
  | andV (a b : E) | orV (a b : E) | one (a : E) | notV (a : E) | ifE (t : T) (a b : E)
  | tup (es : Es) | lst (es : Es)
  | sub (a b : O)
  | call (f : Nat) (as : As) | call0 (f : Nat)
  | fn1 (f : F1) (a : O) | fn2 (f : F2) (a b : O) | sortedSet (a : O)
  | mth1 (i : Nat) (f : L1) (a : E) | mth0 (i : Nat) (f : L0)
  | comp (it : I) (own : List (Str × Nat)) (t : Tgt) (c : E) | compIf (it : I) (own : List (Str × Nat)) (t : Tgt) (y : T) (c : E)
inductive O where
  | n (i : Nat) | e (x : E)
inductive Es where
  | nil | cons (e : E) (es : Es)
inductive As where
  | nil | val (e : E) (as : As) | rf (i : Nat) (as : As)
inductive T where
  | bool (e : E) | cmp (op : COp) (a b : O) | isN (a : O) | notN (a : O) | not (t : T) | and (a b : T) | or (a b : T) | one (a : T)
inductive I where
  | items (e : E) | range1 (a : E) | range2 (a b : E)
end
inductive Sm where
  | nil
  | pass (r : Sm) | brk (r : Sm) | cont (r : Sm) | expr (e : E) (r : Sm) | ret (e : E) (r : Sm) | retN (r : Sm) | retName (i : Nat) (r : Sm)
  | set (i : Nat) (e : E) (r : Sm) | setLc (i : Nat) (it : I) (own : List (Str × Nat)) (t : Tgt) (c : E) (r : Sm) | setLcIf (i : Nat) (it : I) (own : List (Str × Nat)) (t : Tgt) (y : T) (c : E) (r : Sm)
  | asg (t : Tgt) (e : E) (r : Sm) | store (i : Nat) (k v : E) (r : Sm)
  | ife (t : T) (a b : Sm) (r : Sm) | loop (t : Tgt) (it : I) (b : Sm) (r : Sm) | while (t : T) (b : Sm) (r : Sm)

mutual
def E.M : E → M Res
  | .non => ret (.val .non)
  | .bool b => ret (.val (.bool b))
  | .int i => ret (.val (.int i))
  | .str s => ret (.val (.str s))
  | .name i => nameC i
  | .bin op a b => oBin op.F a.M b.M
  | .neg a => oUn opNeg a.M
  | .cmp op a b => oCmpV op.F a.M b.M
  | .isN a => oIsV a.M
  | .notN a => oNotV a.M
  | .andV a b => Iv.andV a.M b.M
  | .orV a b => Iv.orV a.M b.M
  | .one a => a.M
  | .notV a => Iv.notV a.M
  | .ifE t a b => ifM t.M a.M b.M
  | .tup es => tupM es.M
  | .lst es => lstM es.M
  | .sub a b => oBin indexS a.M b.M
  | .call f as => bnd (argL as.M) (callM f)
  | .call0 f => bnd (argL []) (callM f)
  | .fn1 f a => oUn f.F a.M
  | .fn2 f a b => oBin f.F a.M b.M
  | .sortedSet a => oUn bSortedSet a.M
  | .mth1 i f a => Iv.mth1 i f.F a.M
  | .mth0 i f => Iv.mth0 i f.F
  | .comp it own t c => compM it.M (own.map (·.2)) (Tgt.put t) (ret true) c.M
  | .compIf it own t y c => compM it.M (own.map (·.2)) (Tgt.put t) y.M c.M
def O.M : O → Opd
  | .n i => .n i
  | .e x => .e x.M
def Es.M : Es → List (M Res)
  | .nil => []
  | .cons e es => e.M :: es.M
def As.M : As → List (M Arg)
  | .nil => []
  | .val e as => argC e.M :: as.M
  | .rf i as => argR i :: as.M
def T.M : T → M Bool
  | .bool e => boolM e.M
  | .cmp op a b => oCmp op.F a.M b.M
  | .isN a => oIs a.M
  | .notN a => oNot a.M
  | .not t => notM t.M
  | .and a b => andM a.M b.M
  | .or a b => orM a.M b.M
  | .one a => a.M
def I.M : I → M (List Val)
  | .items e => itemsM e.M
  | .range1 a => Iv.range1 a.M
  | .range2 a b => Iv.range2 a.M b.M
end
/-- a suite: what stands ahead of the rest -/
def andThen (x : M Flow) (rest : Sm) (y : M Flow) : M Flow := match rest with
  | .nil => x
  | _ => seqM x y
noncomputable def Sm.M : Sm → M Flow
  | .nil => Iv.ret .nx
  | .pass r => andThen (Iv.ret .nx) r r.M
  | .brk r => andThen (Iv.ret .bk) r r.M
  | .cont r => andThen (Iv.ret .ct) r r.M
  | .expr e r => andThen (doM e.M) r r.M
  | .ret e r => andThen (retM e.M) r r.M
  | .retN r => andThen (Iv.ret (.rt (.val .non))) r r.M
  | .retName i r => andThen (retM (nameR i)) r r.M
  | .set i e r => andThen (asgM i e.M) r r.M
  | .setLc i it own t c r => andThen (asgM i (compM it.M (own.map (·.2)) (Tgt.put t) (Iv.ret true) c.M)) r r.M
  | .setLcIf i it own t y c r => andThen (asgM i (compM it.M (own.map (·.2)) (Tgt.put t) y.M c.M)) r r.M
  | .asg t e r => andThen (asgT (Tgt.put t) e.M) r r.M
  | .store i k v r => andThen (bnd v.M fun v => bnd (peek i) fun _ => bnd k.M fun k => doM (chg i (storeS k.fz v.fz))) r r.M
  | .ife t a b r => andThen (ifM t.M a.M b.M) r r.M
  | .loop t it b r => andThen (forM it.M (Tgt.put t) b.M) r r.M
  | .while t b r => andThen (whileM t.M b.M) r r.M

/-! ### the fit -/
/-- the names of a frame -/
structure FC where
  N : List Str
  sc : Scope
  fn : Str → Bool
def FC.in (F : FC) (scope : Scope) : FC := ⟨F.N, relS scope F.sc, fun x => scope.names.lookup x == some .cell⟩
/-- the names of the program -/
structure PC where
  funs : List (Str × Nat × Nat)
  blt : List Str
def FC.vis (F : FC) (i : Nat) (x : Str) : Bool := decide (F.N[i]? = some x) && (match F.sc.names.lookup x with
  | some .local => true
  | some .cell => true
  | some .free => true
  | _ => false) && !(x == ("__debug__" : Str)) && !(x == ("__classdict__" : Str))
def FC.loc (F : FC) (i : Nat) (x : Str) : Bool := decide (F.N[i]? = some x) && (match F.sc.names.lookup x with
  | some .local => true
  | some .cell => F.fn x
  | _ => false)
def FC.gl (F : FC) (x : Str) : Bool := (match F.sc.names.lookup x with
  | some .globalImplicit => true
  | _ => false) && !(x == ("__debug__" : Str)) && !decide (x = "__name__")
def PC.hasB (P : PC) (x : Str) : Bool := P.blt.contains x
/-- not an iterable's star -/
def nst : Expr → Bool
  | .Starred .. => false
  | _ => true
def noSet : Expr → Bool
  | .Set .. => false
  | _ => true
def noSlice : Expr → Bool
  | .Slice .. => false
  | _ => true
def plainT : Expr → Bool
  | .UnaryOp .Not .. => false
  | .BoolOp .. => false
  | .IfExp .. => false
  | .Compare .. => false
  | _ => true
def noComp : Expr → Bool
  | .ListComp .. => false
  | .SetComp .. => false
  | .DictComp .. => false
  | _ => true
mutual
def Tgt.chk (F : FC) : Tgt → Expr → Bool
  | .name i, e => match e with
    | .Name x _ => F.loc i x
    | _ => false
  | .tup ts, e => match e with
    | .Tuple es _ _ => Tgt.chks F ts es
    | _ => false
def Tgt.chks (F : FC) : List Tgt → List Expr → Bool
  | [], es => es.isEmpty
  | t :: ts, es => match es with
    | e :: es => nst e && Tgt.chk F t e && Tgt.chks F ts es
    | [] => false
end
def subsetB (a b : List Nat) : Bool := a.all fun i => b.contains i
def optArgs : Arguments → Bool := fun _ => true
mutual
def E.chk (P : PC) : FC → E → Expr → Bool
  | _, .non, e => match e with
    | .Constant .none _ _ => true
    | _ => false
  | _, .bool b, e => match e with
    | .Constant (.bool c) _ _ => b == c
    | _ => false
  | _, .int i, e => match e with
    | .Constant (.int j) _ _ => decide (i = j)
    | _ => false
  | _, .str x, e => match e with
    | .Constant (.str y) _ _ => decide (x = y)
    | _ => false
  | F, .name i, e => match e with
    | .Name x _ => F.vis i x
    | _ => false
  | F, .bin op a b, e => match e with
    | .BinOp x o y _ => op.fits o && a.chk P F x && b.chk P F y
    | _ => false
  | F, .neg a, e => match e with
    | .UnaryOp .USub x _ => a.chk P F x
    | _ => false
  | F, .cmp op a b, e => match e with
    | .Compare x [o] [y] _ => op.fits o && noSet y && a.chk P F x && b.chk P F y
    | _ => false
  | F, .isN a, e => match e with
    | .Compare x [.Is] [.Constant .none _ _] _ => a.chk P F x
    | _ => false
  | F, .notN a, e => match e with
    | .Compare x [.IsNot] [.Constant .none _ _] _ => a.chk P F x
    | _ => false
  | F, .andV a b, e => match e with
    | .BoolOp .And (x :: y :: r) p => a.chk P F x && b.chk P F (.BoolOp .And (y :: r) p)
    | _ => false
  | F, .orV a b, e => match e with
    | .BoolOp .Or (x :: y :: r) p => a.chk P F x && b.chk P F (.BoolOp .Or (y :: r) p)
    | _ => false
  | F, .one a, e => match e with
    | .BoolOp _ [x] _ => a.chk P F x
    | _ => false
  | F, .notV a, e => match e with
    | .UnaryOp .Not x _ => a.chk P F x
    | _ => false
  | F, .ifE t a b, e => match e with
    | .IfExp z x y _ => t.chk P F z && a.chk P F x && b.chk P F y
    | _ => false
  | F, .tup es, e => match e with
    | .Tuple xs _ _ => decide (xs.length ≤ 1000) && es.chk P F xs
    | _ => false
  | F, .lst es, e => match e with
    | .List xs _ => decide (xs.length ≤ 1000) && es.chk P F xs
    | _ => false
  | F, .sub a b, e => match e with
    | .Subscript x y _ => noSlice y && a.chk P F x && b.chk P F y
    | _ => false
  | F, .call f as, e => match e with
    | .Call (.Name x _) (y :: ys) [] _ => F.gl x && decide (P.funs.lookup x = some (f, ys.length + 1)) && as.chk P F (y :: ys)
    | _ => false
  | F, .call0 f, e => match e with
    | .Call (.Name x _) [] [] _ => F.gl x && decide (P.funs.lookup x = some (f, 0))
    | _ => false
  | F, .fn1 f a, e => match e with
    | .Call (.Name x _) [y] [] _ => decide (x = f.name) && F.gl x && P.hasB x && nst y && a.chk P F y
    | _ => false
  | F, .fn2 f a b, e => match e with
    | .Call (.Name x _) [y, z] [] _ => decide (x = f.name) && F.gl x && P.hasB x && nst y && nst z && a.chk P F y && b.chk P F z
    | _ => false
  | F, .sortedSet a, e => match e with
    | .Call (.Name x _) [.Call (.Name y _) [z] [] _] [] _ => decide (x = "sorted") && decide (y = "set") && F.gl x && F.gl y && P.hasB x && P.hasB y && nst z && a.chk P F z
    | _ => false
  | F, .mth1 i f a, e => match e with
    | .Call (.Attribute (.Name x _) m ap) [y] [] p => decide (m = f.name) && (ap.endLine == p.line) && F.vis i x && nst y && a.chk P F y
    | _ => false
  | F, .mth0 i f, e => match e with
    | .Call (.Attribute (.Name x _) m ap) [] [] p => decide (m = f.name) && (ap.endLine == p.line) && F.vis i x
    | _ => false
  | F, .comp it own t c, e => match e with
    | .ListComp elt [⟨tg, iter, [], 0⟩] scope _ => it.chk P F iter && noSet iter && blkC F.N F.sc scope own && subsetB t.names (own.map (·.2)) && t.chk (F.in scope) tg && c.chk P (F.in scope) elt
    | _ => false
  | F, .compIf it own t y c, e => match e with
    | .ListComp elt [⟨tg, iter, [z], 0⟩] scope _ => it.chk P F iter && noSet iter && blkC F.N F.sc scope own && subsetB t.names (own.map (·.2)) && t.chk (F.in scope) tg && y.chk P (F.in scope) z && c.chk P (F.in scope) elt
    | _ => false
def O.chk (P : PC) : FC → O → Expr → Bool
  | F, .n i, e => match e with
    | .Name x _ => F.vis i x
    | _ => false
  | F, .e a, e => a.chk P F e
def Es.chk (P : PC) : FC → Es → List Expr → Bool
  | _, .nil, es => es.isEmpty
  | F, .cons a as, es => match es with
    | e :: es => nst e && a.chk P F e && as.chk P F es
    | [] => false
def As.chk (P : PC) : FC → As → List Expr → Bool
  | _, .nil, es => es.isEmpty
  | F, .val a as, es => match es with
    | e :: es => nst e && a.chk P F e && as.chk P F es
    | [] => false
  | F, .rf i as, es => match es with
    | e :: es => (match e with
      | .Name x _ => F.vis i x
      | _ => false) && as.chk P F es
    | [] => false
def T.chk (P : PC) : FC → T → Expr → Bool
  | F, .bool a, e => plainT e && a.chk P F e
  | F, .cmp op a b, e => match e with
    | .Compare x [o] [y] _ => op.fits o && noSet y && a.chk P F x && b.chk P F y
    | _ => false
  | F, .isN a, e => match e with
    | .Compare x [.Is] [.Constant .none _ _] _ => a.chk P F x
    | _ => false
  | F, .notN a, e => match e with
    | .Compare x [.IsNot] [.Constant .none _ _] _ => a.chk P F x
    | _ => false
  | F, .not t, e => match e with
    | .UnaryOp .Not x _ => t.chk P F x
    | _ => false
  | F, .and a b, e => match e with
    | .BoolOp .And (x :: y :: r) p => a.chk P F x && b.chk P F (.BoolOp .And (y :: r) p)
    | _ => false
  | F, .or a b, e => match e with
    | .BoolOp .Or (x :: y :: r) p => a.chk P F x && b.chk P F (.BoolOp .Or (y :: r) p)
    | _ => false
  | F, .one a, e => match e with
    | .BoolOp _ [x] _ => a.chk P F x
    | _ => false
def I.chk (P : PC) : FC → I → Expr → Bool
  | F, .items a, e => a.chk P F e
  | F, .range1 a, e => match e with
    | .Call (.Name x _) [y] [] _ => decide (x = "range") && F.gl x && P.hasB x && nst y && a.chk P F y
    | _ => false
  | F, .range2 a b, e => match e with
    | .Call (.Name x _) [y, z] [] _ => decide (x = "range") && F.gl x && P.hasB x && nst y && nst z && a.chk P F y && b.chk P F z
    | _ => false
end
/-- does the compiler put a comprehension's value straight into the name -/
def FC.swaps (F : FC) (x : Str) (px : Pos) (scope : Scope) (pos : Pos) : Bool := (match F.sc.kind with
  | .function => true
  | _ => false) && (match F.sc.names.lookup x with
  | some .local => true
  | _ => false) && px.line == pos.line && !(scope.names.any fun (n, k) => n == x && (k == .local || k == .cell))
def FC.noSw (F : FC) (x : Str) (px : Pos) : Expr → Bool
  | .ListComp _ _ scope pos => (match F.sc.kind with
    | .function => true
    | _ => false) && !F.swaps x px scope pos
  | .SetComp .. => false
  | .DictComp .. => false
  | _ => true
def isTup : Expr → Bool
  | .Tuple .. => true
  | _ => false
def Sm.chk (P : PC) (F : FC) : Sm → List Stmt → Bool
  | .nil, es => es.isEmpty
  | .pass r, es => match es with
    | .Pass _ :: es => r.chk P F es
    | _ => false
  | .brk r, es => match es with
    | .Break _ :: es => r.chk P F es
    | _ => false
  | .cont r, es => match es with
    | .Continue _ :: es => r.chk P F es
    | _ => false
  | .expr a r, es => match es with
    | .Expr e _ :: es => noComp e && a.chk P F e && r.chk P F es
    | _ => false
  | .ret a r, es => match es with
    | .Return (some e) _ :: es => a.chk P F e && r.chk P F es
    | _ => false
  | .retN r, es => match es with
    | .Return none _ :: es => r.chk P F es
    | _ => false
  | .retName i r, es => match es with
    | .Return (some (.Name x _)) _ :: es => F.vis i x && r.chk P F es
    | _ => false
  | .set i a r, es => match es with
    | .Assign [.Name x px] e _ :: es => F.noSw x px e && F.loc i x && a.chk P F e && r.chk P F es
    | _ => false
  | .setLc i it own t c r, es => match es with
    | .Assign [.Name x px] (.ListComp elt [⟨tg, iter, [], 0⟩] scope p) _ :: es => F.swaps x px scope p && F.loc i x && it.chk P F iter && noSet iter && blkC F.N F.sc scope own && subsetB t.names (own.map (·.2)) && t.chk (F.in scope) tg && c.chk P (F.in scope) elt && r.chk P F es
    | _ => false
  | .setLcIf i it own t y c r, es => match es with
    | .Assign [.Name x px] (.ListComp elt [⟨tg, iter, [z], 0⟩] scope p) _ :: es => F.swaps x px scope p && F.loc i x && it.chk P F iter && noSet iter && blkC F.N F.sc scope own && subsetB t.names (own.map (·.2)) && t.chk (F.in scope) tg && y.chk P (F.in scope) z && c.chk P (F.in scope) elt && r.chk P F es
    | _ => false
  | .asg t a r, es => match es with
    | .Assign [tg] e _ :: es => noComp e && nst tg && !isTup e && t.chk F tg && a.chk P F e && r.chk P F es
    | _ => false
  | .store i k v r, es => match es with
    | .Assign [.Subscript (.Name x _) b _] e _ :: es => noComp e && noSlice b && F.vis i x && k.chk P F b && v.chk P F e && r.chk P F es
    | _ => false
  | .ife t a b r, es => match es with
    | .If e xs ys _ :: es => t.chk P F e && a.chk P F xs && b.chk P F ys && r.chk P F es
    | _ => false
  | .loop t it b r, es => match es with
    | .For tg iter xs [] _ :: es => noSet iter && t.chk F tg && it.chk P F iter && b.chk P F xs && r.chk P F es
    | _ => false
  | .while t b r, es => match es with
    | .While e xs [] _ :: es => t.chk P F e && b.chk P F xs && r.chk P F es
    | _ => false
end Iv

/-! Iv: what the fit says of the text. -/
namespace Iv
open PySem L2

section
variable {env : PySem.Env} {e : Expr} {es : List Expr}
theorem star_cons (h : nst e = true) : starEach (e :: es) env = (false, eval e env) :: starEach es env := by
  cases e <;> first | rfl | cases h
theorem star_one (h : nst e = true) : starEach [e] env = [(false, eval e env)] := star_cons h
theorem asn_cons (h : nst e = true) : assignEach (e :: es) env = (false, assign e env) :: assignEach es env := by
  cases e <;> first | rfl | cases h
theorem plain_true (h : plainT e = true) : ∀ whole, isTrue e env whole = (do let v ← whole; standAt e.pos; holding [v] (truthy v)) := by
  intro whole
  cases e with
  | UnaryOp op x p => cases op <;> first | rfl | cases h
  | _ => first | rfl | cases h
theorem noSet_fold (h : noSet e = true) : ∀ x, foldedSetIterable e env x = pure x := by
  intro x
  cases e <;> first | rfl | cases h
theorem noSet_marks (op : CmpOp) (h : noSet e = true) : behindInMarks op e = false := by
  cases e <;> first | rfl | cases h
theorem noSlice_ix (h : noSlice e = true) : PlainIx e := by
  intro o i
  cases e <;> first | rfl | cases h
theorem noComp_sw (h : noComp e = true) (t : Option Expr) (l : Nat) : swapsWith e t l env = pure false := by
  cases e <;> first | rfl | cases h
end
theorem isTup_sw {e tg : Expr} {env : PySem.Env} (h : isTup e = false) : swappedStores [tg] e env = pure none := by
  cases e <;> first | (cases tg <;> rfl) | cases h
section
variable {X : Cx} {F : FC} {i : Nat} {x : Str}
theorem vis_ok (hN : X.N = F.N) (hs : X.env.scope = F.sc) (h : F.vis i x = true) : X.N[i]? = some x ∧ Vis X.env.scope x ∧ (x == ("__debug__" : Str)) = false ∧ (x == ("__classdict__" : Str)) = false := by
  simp only [FC.vis, Bool.and_eq_true, decide_eq_true_eq, Bool.not_eq_true'] at h
  obtain ⟨⟨⟨h1, h2⟩, h3⟩, h4⟩ := h
  refine ⟨by rw [hN]; exact h1, ?_, h3, h4⟩
  rw [hs]
  unfold Vis
  split at h2
  · rename_i e; exact .inl e
  · rename_i e; exact .inr (.inl e)
  · rename_i e; exact .inr (.inr e)
  · cases h2
theorem loc_ok (hN : X.N = F.N) (hs : X.env.scope = F.sc) (hf : X.fn = F.fn) (h : F.loc i x = true) : X.N[i]? = some x ∧ L2.Loc X.env.scope x ∧ (X.fn x = true ∨ X.env.scope.names.lookup x = some .local) := by
  simp only [FC.loc, Bool.and_eq_true, decide_eq_true_eq] at h
  obtain ⟨h1, h2⟩ := h
  rw [hN, hs, hf]
  refine ⟨h1, ?_⟩
  unfold L2.Loc
  split at h2
  · rename_i e; exact ⟨.inl e, .inr e⟩
  · rename_i e; exact ⟨.inr e, .inl h2⟩
  · cases h2
theorem gl_ok (hs : X.env.scope = F.sc) (h : F.gl x = true) : Gl X x ∧ (x == ("__debug__" : Str)) = false ∧ x ≠ "__name__" := by
  simp only [FC.gl, Bool.and_eq_true, Bool.not_eq_true', decide_eq_false_iff_not] at h
  obtain ⟨⟨h1, h2⟩, h3⟩ := h
  refine ⟨?_, h2, h3⟩
  show X.env.scope.names.lookup x = some .globalImplicit
  rw [hs]
  split at h1
  · assumption
  · cases h1
end

/-- what is known of a context -/
structure XOk (P : PC) (lvl : Nat) (X : Cx) (S : Sg) (F : FC) : Prop where
  N : X.N = F.N
  nd : X.N.Nodup
  sc : X.env.scope = F.sc
  fn : X.fn = F.fn
  K : X.K = S.C.K
  calm : X.calm = true
  gd : X.A.guards = some []
  room : Room lvl X.A
  tk : Takes X S.W
  blt : ∀ x, P.hasB x = true → X.mg x = none
  funs : ∀ x id n, P.funs.lookup x = some (id, n) → ∃ f fd ps, FnG X.prog X.w X.K X.mg X.base lvl f fd ps (spD S.C S.k id n) ∧ X.mg x = some (.ref f) ∧ PySem.W.keepIn X.K (.ref f) = true ∧ Binds X.K fd ps []
section
variable {P : PC} {lvl : Nat} {X : Cx} {S : Sg} {F : FC}
theorem XOk.un (o : XOk P lvl X S F) : X.A.units + 65 < cLine := by have := o.room.un; omega
theorem XOk.in (o : XOk P lvl X S F) (s : Shared) (H : Hp) (scope : Scope) (C : Addr) (cl : List (Str × Addr)) (fp : List Addr) : XOk P lvl (X.blk s H scope (compEnvC scope cl C X.env) fp) S.in (F.in scope) :=
  ⟨o.N, o.nd, by show relS scope X.env.scope = relS scope F.sc; rw [o.sc], rfl, o.K, o.calm, o.gd, o.room, takes0, o.blt, o.funs⟩
mutual
theorem raw_sound (o : XOk P lvl X S F) : ∀ (t : Tgt) (e : Expr), Tgt.chk F t e = true → PG X e (tgRaw X.K t)
  | .name i, e, h => by
    simp only [Tgt.chk] at h
    split at h
    · obtain ⟨h1, h2, h3⟩ := loc_ok o.N o.sc o.fn h
      exact pg_name o.nd h1 h2 h3
    · cases h
  | .tup ts, e, h => by
    simp only [Tgt.chk] at h
    split at h
    · rename_i es _ _
      have q := raws_sound o ts es h
      exact pg_tup o.calm q.1 q.2.1 q.2.2
    · cases h
theorem raws_sound (o : XOk P lvl X S F) : ∀ (ts : List Tgt) (es : List Expr), Tgt.chks F ts es = true → PGs X es (tgsRaw X.K ts) ∧ (assignEach es X.env).length = ts.length ∧ (assignEach es X.env).findIdx? (·.1) = none
  | [], es, h => by
    simp only [Tgt.chks, List.isEmpty_iff] at h
    subst h
    exact ⟨pgs_nil, rfl, rfl⟩
  | t :: ts, [], h => by cases h
  | t :: ts, e :: es, h => by
    simp only [Tgt.chks, Bool.and_eq_true] at h
    have q := raws_sound o ts es h.2
    refine ⟨pgs_cons (raw_sound o t e h.1.2) q.1 (by rw [asn_cons h.1.1]; rfl), by rw [asn_cons h.1.1, List.length_cons, List.length_cons, q.2.1], ?_⟩
    rw [asn_cons h.1.1, List.findIdx?_cons, q.2.2]
    rfl
end
end
/-! the operations -/
def BOp.op : BOp → Operator
  | .add => .Add
  | .sub => .Sub
  | .mul => .Mult
  | .div => .FloorDiv
  | .mod => .Mod
  | .pow => .Pow
def COp.op : COp → CmpOp
  | .eq => .Eq
  | .ne => .NotEq
  | .lt => .Lt
  | .le => .LtE
  | .gt => .Gt
  | .ge => .GtE
  | .isIn => .In
  | .notIn => .NotIn
theorem BOp.fit {op : BOp} {o : Operator} (h : op.fits o = true) : o = op.op := by cases op <;> cases o <;> first | rfl | cases h
theorem COp.fit {op : COp} {o : CmpOp} (h : op.fits o = true) : o = op.op := by cases op <;> cases o <;> first | rfl | cases h
section
variable {X : Cx} {C : Ctx}
theorem BOp.sound (hK : X.K = C.K) : ∀ op : BOp, OpR X (binaryOp op.op) (rOp C op.F)
  | .add => os_add hK
  | .sub => os_sub
  | .mul => os_mul
  | .div => os_div
  | .mod => os_mod
  | .pow => os_pow
theorem COp.sound (hK : X.K = C.K) (hu : X.A.units + 65 < cLine) : ∀ op : COp, OpR X (compareOp op.op) (rOpB C op.F)
  | .eq => oc_eq hK (by omega)
  | .ne => oc_ne hK (by omega)
  | .lt => oc_lt
  | .le => oc_le
  | .gt => oc_gt
  | .ge => oc_ge
  | .isIn => oc_in hK hu
  | .notIn => oc_notIn hK hu
end
end Iv

/-! Iv: the text does what the small language says. -/
namespace Iv
open PySem L2

section
variable {X : Cx} {S : Sg}
theorem F1.call {P : PC} {lvl : Nat} {F : FC} (o : XOk P lvl X S F) (f : F1) {a : Expr} {oa : Opd} {p pos : Pos} (hg : F.gl f.name = true) (hb : P.hasB f.name = true) (hs : nst a = true) (ha : PE X a (oa.t S)) : PE X (.Call (.Name f.name p) [a] [] pos) (tE S (oUn f.F oa)) := by
  obtain ⟨g1, g2, g3⟩ := gl_ok o.sc hg
  have m := o.blt _ hb
  have st := star_one (env := X.env) hs
  have hu := o.un
  cases f with
  | len => exact to_fn1B (CallR.imp (fn_lenSeq o.K) fun xs H Q ⟨v, e, γ, f, g, a, r, R, ha, e2, y⟩ => ⟨v, e, γ, f, g, a, r, R, ha, by rw [← e2]; cases a <;> rfl, y⟩) g1 m PySem.boot_len ha g3 g2 st
  | tuple => exact to_fn1T (fn_tuple o.K) g1 m PyProof.Rows.boot_tuple ha g3 g2 st
  | list => exact to_fn1T (CallR.imp (fn_listSeq o.K) fun xs H Q ⟨v, e, γ, f, g, a, r, R, ha, e2, y⟩ => ⟨v, e, γ, f, g, a, r, R, ha, by rw [← e2]; cases a <;> rfl, y⟩) g1 m PyProof.Rows.boot_list ha g3 g2 st
  | sorted => exact to_fn1B (cr_sortData o.K hu) g1 m PyProof.Rows.boot_sorted ha g3 g2 st
  | any => exact to_fn1B (fn_any o.K o.calm) g1 m PyProof.Rows.boot_any ha g3 g2 st
  | all => exact to_fn1B (fn_all o.K o.calm) g1 m PyProof.Rows.boot_all ha g3 g2 st
  | sum => exact to_fn1B (fn_sum o.K o.calm) g1 m PyProof.Rows.boot_sum ha g3 g2 st
  | max => exact to_fn1B (CallR.imp (fn_maxL o.K o.calm) fun xs H Q ⟨v, e, γ, f, g, a, r, R, ha, e2, y⟩ => ⟨v, e, γ, f, g, a, r, R, ha, by rw [← e2]; cases a <;> rfl, y⟩) g1 m PyProof.Rows.boot_max ha g3 g2 st
  | min => exact to_fn1B (CallR.imp (fn_minL o.K o.calm) fun xs H Q ⟨v, e, γ, f, g, a, r, R, ha, e2, y⟩ => ⟨v, e, γ, f, g, a, r, R, ha, by rw [← e2]; cases a <;> rfl, y⟩) g1 m PyProof.Rows.boot_min ha g3 g2 st
  | abs => exact to_fn1B fn_abs g1 m PyProof.Rows.boot_abs ha g3 g2 st
  | int => exact to_fn1T fn_int g1 m PyProof.Rows.boot_int ha g3 g2 st
  | str => exact to_fn1T fn_str g1 m PyProof.Rows.boot_str ha g3 g2 st
  | repr => exact to_fn1B (cr_repr o.K o.gd hu) g1 m PyProof.Rows.boot_repr ha g3 g2 st
theorem F2.call {P : PC} {lvl : Nat} {F : FC} (o : XOk P lvl X S F) (f : F2) {a b : Expr} {oa ob : Opd} {p pos : Pos} (hg : F.gl f.name = true) (hb : P.hasB f.name = true) (hs : nst a = true) (hs2 : nst b = true) (ha : PE X a (oa.t S)) (hbb : PE X b (ob.t S)) :
    PE X (.Call (.Name f.name p) [a, b] [] pos) (tE S (oBin f.F oa ob)) := by
  obtain ⟨g1, g2, g3⟩ := gl_ok o.sc hg
  have m := o.blt _ hb
  cases f with
  | max => exact to_fn2B (fn_max2 o.calm) g1 m PyProof.Rows.boot_max ha hbb g3 g2 (star_cons hs) (star_one hs2)
  | min => exact to_fn2B (fn_min2 o.calm) g1 m PyProof.Rows.boot_min ha hbb g3 g2 (star_cons hs) (star_one hs2)
theorem L1.call {P : PC} {lvl : Nat} {F : FC} (o : XOk P lvl X S F) (f : L1) {i : Nat} {x : Str} {a : Expr} {xa : M Res} {p0 ap pos : Pos} (hv : F.vis i x = true) (hl : (ap.endLine == pos.line) = true) (hs : nst a = true) (ha : PE X a (tE S xa)) :
    PE X (.Call (.Attribute (.Name x p0) f.name ap) [a] [] pos) (tE S (Iv.mth1 i f.F xa)) := by
  obtain ⟨v1, v2, v3, v4⟩ := vis_ok o.N o.sc hv
  cases f with
  | append => exact te_mth1 PySem.F.slot_list_append PySem.F.type_list_append mt_append ml_append o.K v1 v2 v3 v4 ha hl (star_one hs)
  | pop => exact te_mth1 PySem.F.slot_list_pop PySem.F.type_list_pop mt_popAt ml_popAt o.K v1 v2 v3 v4 ha hl (star_one hs)
  | extend => exact te_mth1 PySem.F.slot_list_extend PySem.F.type_list_extend mt_extend ml_extend o.K v1 v2 v3 v4 ha hl (star_one hs)
theorem L0.call {P : PC} {lvl : Nat} {F : FC} (o : XOk P lvl X S F) (f : L0) {i : Nat} {x : Str} {p0 ap pos : Pos} (hv : F.vis i x = true) (hl : (ap.endLine == pos.line) = true) :
    PE X (.Call (.Attribute (.Name x p0) f.name ap) [] [] pos) (tE S (Iv.mth0 i f.F)) := by
  obtain ⟨v1, v2, v3, v4⟩ := vis_ok o.N o.sc hv
  cases f with
  | pop => exact te_mth0 PySem.F.slot_list_pop PySem.F.type_list_pop mt_pop ml_pop0 o.K v1 v2 v3 v4 hl
  | reverse => exact te_mth0 PySem.F.slot_list_reverse PySem.F.type_list_reverse mt_reverse ml_reverse o.K v1 v2 v3 v4 hl
theorem subsetB_ok {a b : List Nat} (h : subsetB a b = true) : ∀ i ∈ a, i ∈ b := fun i hi => by
  have := List.all_eq_true.mp h i hi
  simpa using this
theorem tt_yes : PTs X [] (tT S (ret true)) := ⟨fun pins s σ H Q I ⟨γ, of, m, hR, p⟩ => pts_nil.run pins s σ H Q I (p.ret hR)⟩
theorem no_star : ∀ {es : List Expr} {pos : Pos} {env : PySem.Env}, es.all nst = true → (backTo pos (starEach es env)).any (·.1) = false
  | [], _, _, _ => rfl
  | e :: es, pos, env, h => by
    simp only [List.all_cons, Bool.and_eq_true] at h
    rw [star_cons h.1]
    show (false || (backTo pos (starEach es env)).any (·.1)) = false
    rw [no_star h.2]
    rfl
end

def isBoolOp : Expr → Bool
  | .BoolOp .. => true
  | _ => false
mutual
theorem E.sound {P : PC} {lvl : Nat} : ∀ (a : E) {X : Cx} {S : Sg} {F : FC} (e : Expr), XOk P lvl X S F → a.chk P F e = true → PE X e (tE S a.M)
  | .non, X, S, F, e, o, h => by
    simp only [E.chk] at h
    split at h
    · exact te_non
    · cases h
  | .bool b, X, S, F, e, o, h => by
    simp only [E.chk] at h
    split at h
    · rw [beq_iff_eq] at h; subst h; exact te_bool
    · cases h
  | .int b, X, S, F, e, o, h => by
    simp only [E.chk] at h
    split at h
    · have h := of_decide_eq_true h; subst h; exact te_int
    · cases h
  | .str b, X, S, F, e, o, h => by
    simp only [E.chk] at h
    split at h
    · have h := of_decide_eq_true h; subst h; exact te_str
    · cases h
  | .name i, X, S, F, e, o, h => by
    simp only [E.chk] at h
    split at h
    · obtain ⟨v1, v2, v3, v4⟩ := vis_ok o.N o.sc h
      exact te_name v1 v2 v3 v4
    · cases h
  | .bin op a b, X, S, F, e, o, h => by
    simp only [E.chk] at h
    split at h
    · simp only [Bool.and_eq_true] at h
      rw [BOp.fit h.1.1]
      exact to_bin (BOp.sound o.K op) (O.sound a _ o h.1.2) (O.sound b _ o h.2)
    · cases h
  | .neg a, X, S, F, e, o, h => by
    simp only [E.chk] at h
    split at h
    · exact to_un os_neg (O.sound a _ o h)
    · cases h
  | .cmp op a b, X, S, F, e, o, h => by
    simp only [E.chk] at h
    split at h
    · simp only [Bool.and_eq_true] at h
      rw [COp.fit h.1.1.1]
      exact to_cmpV (COp.sound o.K o.un op) (noSet_marks _ h.1.1.2) (O.sound a _ o h.1.2) (O.sound b _ o h.2)
    · cases h
  | .isN a, X, S, F, e, o, h => by
    simp only [E.chk] at h
    split at h
    · exact to_isV (O.sound a _ o h)
    · cases h
  | .notN a, X, S, F, e, o, h => by
    simp only [E.chk] at h
    split at h
    · exact to_notV (O.sound a _ o h)
    · cases h
  | .andV a b, X, S, F, e, o, h => by
    simp only [E.chk] at h
    split at h
    · simp only [Bool.and_eq_true] at h
      exact te_and (E.sound a _ o h.1) (E.sound b _ o h.2)
    · cases h
  | .orV a b, X, S, F, e, o, h => by
    simp only [E.chk] at h
    split at h
    · simp only [Bool.and_eq_true] at h
      exact te_or (E.sound a _ o h.1) (E.sound b _ o h.2)
    · cases h
  | .one a, X, S, F, e, o, h => by
    simp only [E.chk] at h
    split at h
    · exact te_one (E.sound a _ o h)
    · cases h
  | .notV a, X, S, F, e, o, h => by
    simp only [E.chk] at h
    split at h
    · exact te_not (E.sound a _ o h)
    · cases h
  | .ifE t a b, X, S, F, e, o, h => by
    simp only [E.chk] at h
    split at h
    · simp only [Bool.and_eq_true] at h
      exact te_ifExp (T.sound t _ o h.1.1) (E.sound a _ o h.1.2) (E.sound b _ o h.2)
    · cases h
  | .tup es, X, S, F, e, o, h => by
    simp only [E.chk] at h
    split at h
    · simp only [Bool.and_eq_true, decide_eq_true_eq] at h
      obtain ⟨q, l⟩ := Es.sound es _ o h.2
      exact te_tup q (by rw [l]; exact h.1)
    · cases h
  | .lst es, X, S, F, e, o, h => by
    simp only [E.chk] at h
    split at h
    · simp only [Bool.and_eq_true, decide_eq_true_eq] at h
      obtain ⟨q, l⟩ := Es.sound es _ o h.2
      exact te_lst q (by rw [l]; exact h.1)
    · cases h
  | .sub a b, X, S, F, e, o, h => by
    simp only [E.chk] at h
    split at h
    · simp only [Bool.and_eq_true] at h
      exact to_sub (ix_seq o.K) (O.sound a _ o h.1.2) (O.sound b _ o h.2) (noSlice_ix h.1.1)
    · cases h
  | .call f as, X, S, F, e, o, h => by
    simp only [E.chk] at h
    split at h
    · simp only [Bool.and_eq_true, decide_eq_true_eq] at h
      obtain ⟨g1, g2, g3⟩ := gl_ok o.sc h.1.1
      obtain ⟨fa, fd, ps, q1, q2, q3, q4⟩ := o.funs _ _ _ h.1.2
      obtain ⟨r, l, st⟩ := As.sound as _ o h.2
      simp only [List.all_cons, Bool.and_eq_true] at st
      exact te_callG q1 o.gd o.room g1 q2 q3 q4 o.tk r l g2 (star_cons st.1) (no_star st.2)
    · cases h
  | .call0 f, X, S, F, e, o, h => by
    simp only [E.chk] at h
    split at h
    · simp only [Bool.and_eq_true, decide_eq_true_eq] at h
      obtain ⟨g1, g2, g3⟩ := gl_ok o.sc h.1
      obtain ⟨fa, fd, ps, q1, q2, q3, q4⟩ := o.funs _ _ _ h.2
      exact te_call0G q1 o.gd o.room g1 q2 q3 q4 o.tk g2
    · cases h
  | .fn1 f a, X, S, F, e, o, h => by
    simp only [E.chk] at h
    split at h
    · simp only [Bool.and_eq_true, decide_eq_true_eq] at h
      obtain ⟨⟨⟨⟨rfl, h2⟩, h3⟩, h4⟩, h5⟩ := h
      exact F1.call o f h2 h3 h4 (O.sound a _ o h5)
    · cases h
  | .fn2 f a b, X, S, F, e, o, h => by
    simp only [E.chk] at h
    split at h
    · simp only [Bool.and_eq_true, decide_eq_true_eq] at h
      obtain ⟨⟨⟨⟨⟨⟨rfl, h2⟩, h3⟩, h4⟩, h5⟩, h6⟩, h7⟩ := h
      exact F2.call o f h2 h3 h4 h5 (O.sound a _ o h6) (O.sound b _ o h7)
    · cases h
  | .sortedSet a, X, S, F, e, o, h => by
    simp only [E.chk] at h
    split at h
    · simp only [Bool.and_eq_true, decide_eq_true_eq] at h
      obtain ⟨⟨⟨⟨⟨⟨⟨rfl, rfl⟩, h2⟩, h3⟩, h4⟩, h5⟩, h6⟩, h7⟩ := h
      exact te_sortedSet o.K o.calm o.un (gl_ok o.sc h2).1 (o.blt _ h4) (gl_ok o.sc h3).1 (o.blt _ h5) (O.sound a _ o h7) (star_one h6)
    · cases h
  | .mth1 i f a, X, S, F, e, o, h => by
    simp only [E.chk] at h
    split at h
    · simp only [Bool.and_eq_true, decide_eq_true_eq] at h
      obtain ⟨⟨⟨⟨rfl, h2⟩, h3⟩, h4⟩, h5⟩ := h
      exact L1.call o f h3 h2 h4 (E.sound a _ o h5)
    · cases h
  | .mth0 i f, X, S, F, e, o, h => by
    simp only [E.chk] at h
    split at h
    · simp only [Bool.and_eq_true, decide_eq_true_eq] at h
      obtain ⟨⟨rfl, h2⟩, h3⟩ := h
      exact L0.call o f h3 h2
    · cases h
  | .comp it own t c, X, S, F, e, o, h => by
    simp only [E.chk] at h
    split at h
    · simp only [Bool.and_eq_true] at h
      obtain ⟨⟨⟨⟨⟨h1, h2⟩, h3⟩, h4⟩, h5⟩, h6⟩ := h
      exact te_lc o.K o.calm o.nd (I.sound it _ o h1) (by rw [o.N, o.sc]; exact blkOk_by h3) (subsetB_ok h4) (fun s H C cl fp => raw_sound (o.in s H _ C cl fp) t _ h5) (fun s H C cl fp => tt_yes) (fun s H C cl fp => E.sound c _ (o.in s H _ C cl fp) h6) (noSet_fold h2)
    · cases h
  | .compIf it own t y c, X, S, F, e, o, h => by
    simp only [E.chk] at h
    split at h
    · simp only [Bool.and_eq_true] at h
      obtain ⟨⟨⟨⟨⟨⟨h1, h2⟩, h3⟩, h4⟩, h5⟩, h7⟩, h6⟩ := h
      exact te_lc o.K o.calm o.nd (I.sound it _ o h1) (by rw [o.N, o.sc]; exact blkOk_by h3) (subsetB_ok h4) (fun s H C cl fp => raw_sound (o.in s H _ C cl fp) t _ h5) (fun s H C cl fp => pts_one (T.sound y _ (o.in s H _ C cl fp) h7)) (fun s H C cl fp => E.sound c _ (o.in s H _ C cl fp) h6) (noSet_fold h2)
    · cases h
theorem O.sound {P : PC} {lvl : Nat} : ∀ (a : O) {X : Cx} {S : Sg} {F : FC} (e : Expr), XOk P lvl X S F → a.chk P F e = true → PE X e (a.M.t S)
  | .n i, X, S, F, e, o, h => by
    simp only [O.chk] at h
    split at h
    · obtain ⟨v1, v2, v3, v4⟩ := vis_ok o.N o.sc h
      exact pe_var v1 v2 v3 v4
    · cases h
  | .e a, X, S, F, e, o, h => E.sound a e o h
theorem Es.sound {P : PC} {lvl : Nat} : ∀ (a : Es) {X : Cx} {S : Sg} {F : FC} (es : List Expr), XOk P lvl X S F → a.chk P F es = true → PA X es (tA S (argsM a.M)) ∧ a.M.length = es.length
  | .nil, X, S, F, es, o, h => by
    simp only [Es.chk, List.isEmpty_iff] at h
    subst h
    exact ⟨ta_nil, rfl⟩
  | .cons a as, X, S, F, es, o, h => by
    cases es with
    | nil => cases h
    | cons e es =>
      simp only [Es.chk, Bool.and_eq_true] at h
      obtain ⟨q, l⟩ := Es.sound as es o h.2
      exact ⟨ta_cons (E.sound a e o h.1.2) q (star_cons h.1.1), by simp only [Es.M, List.length_cons, l]⟩
theorem As.sound {P : PC} {lvl : Nat} : ∀ (a : As) {X : Cx} {S : Sg} {F : FC} (es : List Expr), XOk P lvl X S F → a.chk P F es = true → PA X es (tR S (argL a.M)) ∧ a.M.length = es.length ∧ es.all nst = true
  | .nil, X, S, F, es, o, h => by
    simp only [As.chk, List.isEmpty_iff] at h
    subst h
    exact ⟨trs_nil, rfl, rfl⟩
  | .val a as, X, S, F, es, o, h => by
    cases es with
    | nil => cases h
    | cons e es =>
      simp only [As.chk, Bool.and_eq_true] at h
      obtain ⟨q, l, s⟩ := As.sound as es o h.2
      exact ⟨trs_cons (tr_val (E.sound a e o h.1.2)) q (star_cons h.1.1), by simp only [As.M, List.length_cons, l], by simp only [List.all_cons, h.1.1, s, Bool.and_self]⟩
  | .rf i as, X, S, F, es, o, h => by
    cases es with
    | nil => cases h
    | cons e es =>
      simp only [As.chk, Bool.and_eq_true] at h
      obtain ⟨q, l, s⟩ := As.sound as es o h.2
      have h1 := h.1
      split at h1
      · obtain ⟨v1, v2, v3, v4⟩ := vis_ok o.N o.sc h1
        exact ⟨trs_cons (tr_ref v1 v2 v3 v4) q (star_cons rfl), by simp only [As.M, List.length_cons, l], by simp only [List.all_cons, s, Bool.and_true]; rfl⟩
      · cases h1
theorem T.sound {P : PC} {lvl : Nat} : ∀ (a : T) {X : Cx} {S : Sg} {F : FC} (e : Expr), XOk P lvl X S F → a.chk P F e = true → PT X e (tT S a.M)
  | .bool a, X, S, F, e, o, h => by
    simp only [T.chk, Bool.and_eq_true] at h
    exact tt_bool (E.sound a e o h.2) (plain_true h.1)
  | .cmp op a b, X, S, F, e, o, h => by
    simp only [T.chk] at h
    split at h
    · simp only [Bool.and_eq_true] at h
      rw [COp.fit h.1.1.1]
      exact to_cmpT (COp.sound o.K o.un op) (noSet_marks _ h.1.1.2) (O.sound a _ o h.1.2) (O.sound b _ o h.2)
    · cases h
  | .isN a, X, S, F, e, o, h => by
    simp only [T.chk] at h
    split at h
    · exact to_isT (O.sound a _ o h)
    · cases h
  | .notN a, X, S, F, e, o, h => by
    simp only [T.chk] at h
    split at h
    · exact to_notT (O.sound a _ o h)
    · cases h
  | .not t, X, S, F, e, o, h => by
    simp only [T.chk] at h
    split at h
    · exact tt_not (T.sound t _ o h)
    · cases h
  | .and a b, X, S, F, e, o, h => by
    simp only [T.chk] at h
    split at h
    · simp only [Bool.and_eq_true] at h
      exact (tw_and (T.sound a _ o h.1) (T.soundW b _ o h.2 rfl)).pt
    · cases h
  | .or a b, X, S, F, e, o, h => by
    simp only [T.chk] at h
    split at h
    · simp only [Bool.and_eq_true] at h
      exact (tw_or (T.sound a _ o h.1) (T.soundW b _ o h.2 rfl)).pt
    · cases h
  | .one a, X, S, F, e, o, h => by
    simp only [T.chk] at h
    split at h
    · rename_i op x p
      cases op with
      | And => exact (tw_and1 (T.sound a _ o h)).pt
      | Or => exact (tw_or1 (T.sound a _ o h)).pt
    · cases h
theorem T.soundW {P : PC} {lvl : Nat} : ∀ (a : T) {X : Cx} {S : Sg} {F : FC} (e : Expr), XOk P lvl X S F → a.chk P F e = true → isBoolOp e = true → PW X e (tT S a.M)
  | .bool a, X, S, F, e, o, h, hb => by
    simp only [T.chk, Bool.and_eq_true] at h
    cases e with
    | BoolOp op es p => exact nomatch (show false = true from h.1)
    | _ => cases hb
  | .cmp op a b, X, S, F, e, o, h, hb => by
    simp only [T.chk] at h
    split at h
    · cases hb
    · cases h
  | .isN a, X, S, F, e, o, h, hb => by
    simp only [T.chk] at h
    split at h
    · cases hb
    · cases h
  | .notN a, X, S, F, e, o, h, hb => by
    simp only [T.chk] at h
    split at h
    · cases hb
    · cases h
  | .not t, X, S, F, e, o, h, hb => by
    simp only [T.chk] at h
    split at h
    · cases hb
    · cases h
  | .and a b, X, S, F, e, o, h, hb => by
    simp only [T.chk] at h
    split at h
    · simp only [Bool.and_eq_true] at h
      exact tw_and (T.sound a _ o h.1) (T.soundW b _ o h.2 rfl)
    · cases h
  | .or a b, X, S, F, e, o, h, hb => by
    simp only [T.chk] at h
    split at h
    · simp only [Bool.and_eq_true] at h
      exact tw_or (T.sound a _ o h.1) (T.soundW b _ o h.2 rfl)
    · cases h
  | .one a, X, S, F, e, o, h, hb => by
    simp only [T.chk] at h
    split at h
    · rename_i op x p
      cases op with
      | And => exact tw_and1 (T.sound a _ o h)
      | Or => exact tw_or1 (T.sound a _ o h)
    · cases h
theorem I.sound {P : PC} {lvl : Nat} : ∀ (a : I) {X : Cx} {S : Sg} {F : FC} {tg : Expr} (e : Expr), XOk P lvl X S F → a.chk P F e = true → PI X tg e (iI S a.M)
  | .items a, X, S, F, tg, e, o, h => ti_items o.K (E.sound a e o h)
  | .range1 a, X, S, F, tg, e, o, h => by
    simp only [I.chk] at h
    split at h
    · simp only [Bool.and_eq_true, decide_eq_true_eq] at h
      obtain ⟨⟨⟨⟨rfl, h2⟩, h3⟩, h4⟩, h5⟩ := h
      exact ti_range1 (gl_ok o.sc h2).1 (o.blt _ h3) (E.sound a _ o h5) (star_one h4)
    · cases h
  | .range2 a b, X, S, F, tg, e, o, h => by
    simp only [I.chk] at h
    split at h
    · simp only [Bool.and_eq_true, decide_eq_true_eq] at h
      obtain ⟨⟨⟨⟨⟨⟨rfl, h2⟩, h3⟩, h4⟩, h5⟩, h6⟩, h7⟩ := h
      exact ti_range2 (gl_ok o.sc h2).1 (o.blt _ h3) (E.sound a _ o h6) (E.sound b _ o h7) (by rw [star_cons h4, star_one h5]) (star_one h5)
    · cases h
end
end Iv

/-! Iv: from the promise of the law's def to the row. -/
namespace Iv
open PySem L2 PySem.Spec PyProof.Rows

section
variable {P : Program} {w : World} {K : PySem.W.Frag} {mg mb : Str → Option Value} {k : Nat} {fa a : Addr} {fd : FuncData} {x : Str} {sp : Sp} {z : Shared} {vs : List Value} {ns : List Int}
abbrev Told (z : Shared) : Result → Shared → Prop := fun r z' => r = .ok (.ret (.bool true)) ∧ OldK z.heap z'.heap ∧ z'.os = z.os ∧ AllBare z'.gens
abbrev scrObj (vs : List Value) : PySem.Obj := { cls := .type "list", data := .seq vs.toArray }
/-- from an abstract heap that tracks the script at most -/
theorem told_from (KX : K.In z.heap) (hmain : z.heap.Ns mainGlobals mg) (hblt : z.heap.Ns builtinsNs mb) (hboot : ∀ x : Str, x ≠ "__name__" → mb x = bootBuiltins x) (hlim : z.heap.NoLimit) (hgens : z.gens = #[]) (hr : Room k callerA)
    (F : ∀ base : Heap, K.In base → base.Ns mainGlobals mg → FnG P w K mg base k fa fd [x] sp) (hbind : ∀ (s : Shared) (u : Value), BindsTo s fd ⟨[u], []⟩ [(x, u)]) {H : Hp} (hok : HOk P w H z.heap) (hfz : ∀ b u, H b = some u → b = a ∧ z.heap.get? a = some (scrObj vs) ∧ K.lookup a = none ∧ ∃ o xs, u = .frz o (.lst xs))
    (hsp : sp [.ref a] H (fun v _ => v = .bl true) fun _ _ _ => False) : codeAny (model P w) callerA (.call (.ref fa) ⟨[.ref a], []⟩) (Told z) z := by
  have free : ∀ {b : Addr} {o : PySem.Obj}, z.heap.get? b = some o → ((∀ es ep, o.data ≠ .dict es ep) → K.lookup b ≠ none) → H b = none := fun {b o} e h => by
    cases q : H b with
    | none => rfl
    | some u =>
      obtain ⟨rfl, q1, q2, _⟩ := hfz b u q
      rw [q1] at e
      cases e
      exact absurd q2 (h fun es ep d => by cases d)
  have nsb : ∀ {b : Addr} {m : Str → Option Value}, z.heap.Ns b m → (hidT z.heap H).Ns b m := fun {b m} ⟨o, es, ep, e, d, r⟩ => ⟨o, es, ep, hidT_get e (free e fun h => absurd d (h es ep)), d, r⟩
  have inb : K.In (hidT z.heap H) := fun b o e => hidT_get (KX b o e) (free (KX b o e) fun _ q => by rw [e] at q; cases q)
  have hmod : Mod K mg (hidT z.heap H) := ⟨inb, nsb hmain, ⟨mb, nsb hblt, hboot⟩, hlim.elim fun mc q => ⟨mc, nsb q.1, q.2⟩⟩
  have e0 : Env0 P w K mg (hidT z.heap H) callerA [] z H := ⟨rfl, hmod, fun _ _ => of_hidT, Nat.le_of_eq (hidT_size _ _), trivial, fun _ hb => (List.not_mem_nil hb).elim, hok, .of_eq hgens⟩
  refine codeAny_mono ((F _ inb (nsb hmain)).run callerA [] z H ⟨[.ref a], []⟩ [.ref a] [.ref a] _ _ rfl hr e0 (hbind z (.ref a)) (.cons rfl .nil) hsp) fun r z' h => ?_
  match r, h with
  | .error u, h =>
    obtain ⟨_, _, _, _, _, _, _, _, _, _, _, _, q⟩ := h
    exact q.elim
  | .ok .next, h => exact h.elim
  | .ok .brk, h => exact h.elim
  | .ok .cont, h => exact h.elim
  | .ok (.ret u), h =>
    obtain ⟨v, H', os, bare, un, hok', rv, q⟩ := h
    have q : v = .bl true := q
    subst q
    cases rv
    refine ⟨rfl, OldK.of_keep fun b o e => ?_, os, bare⟩
    cases q : H b with
    | none => exact un.keep b o e q (fun y => (List.not_mem_nil y).elim) (by simp)
    | some u =>
      obtain ⟨_, _, _, o', xs, rfl⟩ := hfz b u q
      have g1 := (hok b _ q).1
      rw [e] at g1
      cases g1
      exact (hok' b _ (un.frzs b _ _ q)).1
theorem law_told (KX : K.In z.heap) (hmain : z.heap.Ns mainGlobals mg) (hblt : z.heap.Ns builtinsNs mb) (hboot : ∀ x : Str, x ≠ "__name__" → mb x = bootBuiltins x) (hlim : z.heap.NoLimit) (hgens : z.gens = #[]) (ha : z.heap.get? a = some (scrObj vs)) (hi : IntsAre vs ns) (hl : ns.length ≤ sizeLine) (hr : Room k callerA)
    (F : ∀ base : Heap, K.In base → base.Ns mainGlobals mg → FnG P w K mg base k fa fd [x] sp) (hbind : ∀ (s : Shared) (u : Value), BindsTo s fd ⟨[u], []⟩ [(x, u)]) (hsp : ∀ H : Hp, SqL K H a (ns.map V.int) → sp [.ref a] H (fun v _ => v = .bl true) fun _ _ _ => False) :
    codeAny (model P w) callerA (.call (.ref fa) ⟨[.ref a], []⟩) (Told z) z := by
  have rv := vals_ints hi
  cases hk : K.lookup a with
  | some o =>
    have e := KX a o hk
    rw [ha] at e
    cases e
    exact told_from KX hmain hblt hboot hlim hgens hr F hbind (vs := vs) (H := fun _ => none) (fun b u q => by cases q) (fun b u q => by cases q)
      (hsp _ (.inr ⟨_, vs.toArray, _, hk, rfl, rfl, rfl, by rw [List.size_toArray, hi.length]; exact hl, by simpa using rv⟩))
  | none =>
    have only : ∀ b u, upd (fun _ => none) a (HO.frz (scrObj vs) (.lst (ns.map V.int))) b = some u → b = a ∧ u = HO.frz (scrObj vs) (.lst (ns.map V.int)) := fun b u q => by
      by_cases hb : b = a
      · subst hb
        rw [upd_same] at q
        cases q
        exact ⟨rfl, rfl⟩
      · rw [upd_ne hb] at q
        cases q
    refine told_from KX hmain hblt hboot hlim hgens hr F hbind (vs := vs) (H := upd (fun _ => none) a (.frz (scrObj vs) (.lst (ns.map V.int)))) (fun b u q => ?_) (fun b u q => ?_) (hsp _ (.inl (.inr ⟨scrObj vs, upd_same⟩)))
    · obtain ⟨rfl, rfl⟩ := only b u q
      exact ⟨ha, by rw [List.length_map]; exact hl, vs, _, rv, ha⟩
    · obtain ⟨rfl, rfl⟩ := only b u q
      exact ⟨rfl, ha, hk, _, _, rfl⟩
end
/-- the goal that the head leaves -/
theorem walkG {l : PySem.W.OpenLaw} {n k : Nat} {q : Program} {loose : List Str} {XP : (Str → Option Value) → Heap → Prop} {YP : World → Heap → Prop} {d : DefRec} {K : Params → PySem.W.Frag} {sp : World → Sp} {x : Str} (hn : l.most = some n) (hn2 : n ≤ sizeLine) (hdf : d.params.defaults = []) (hr : Room k callerA) (hY : ∀ (w : World) (h : Heap), YP w h → (K w.params).In h)
    (F : ∀ (w : World) (mg : Str → Option Value) (fa : Addr) (h : Heap), (K w.params).In h → h.Ns mainGlobals mg → mg d.name = some (.ref fa) →
      ∃ fd : FuncData, (∀ (s : Shared) (u : Value), BindsTo s fd ⟨[u], []⟩ [(x, u)]) ∧ ∀ base : Heap, (K w.params).In base → base.Ns mainGlobals mg → FnG l.prog w (K w.params) mg base k fa fd [x] (sp w))
    (hsp : ∀ (w : World) (H : Hp) (a : Addr) (ns : List Int), ns.length ≤ n → SqL (K w.params) H a (ns.map V.int) → sp w [.ref a] H (fun v _ => v = .bl true) fun _ _ _ => False) :
    PySem.W.WalkO q loose XP YP l.row.toRowW d [] (fun f vs => PySem.call f vs) := by
  refine Att.attach_call hn hdf fun w z0 z mg mb fa o pm cd doc a vs ns G Y ho hd hcd hmg hobj hints hlen hg => ?_
  obtain ⟨fd, hb, hF⟩ := F w mg fa _ (hY w _ Y) G.T.g hmg
  exact law_told (hY w _ Y) G.T.g G.T.b G.T.builtins G.T.nolimit hg hobj hints (Nat.le_trans hlen hn2) hr hF hb fun H hS => hsp w H a ns hlen hS
end Iv

/-! Iv: suites; defs; the whole program. -/
namespace Iv
open PySem L2 PySem.Spec PyProof.Rows

/-! ### suites -/
section
variable {P : PC} {lvl : Nat} {X : Cx} {S : Sg} {F : FC}
theorem then_ok {st : Stmt} {rest : List Stmt} {y : M Flow} {r : Sm} (h1 : PS X st (tS S y)) (hr : r.chk P F rest = true) (h2 : PSs X rest (tS S r.M)) : PSs X (st :: rest) (tS S (andThen y r r.M)) := by
  cases r with
  | nil =>
    simp only [Sm.chk, List.isEmpty_iff] at hr
    subst hr
    exact ts_one h1
  | _ => exact ts_cons h1 h2
theorem swaps_ok {x : Str} {px pos : Pos} {scope : Scope} {elt : Expr} {gs : List Comprehension} {l : Nat} (hs : X.env.scope = F.sc) (h : F.swaps x px scope pos = true) : X.env.scope.names.lookup x = some .local ∧ swapsWith (.ListComp elt gs scope pos) (some (.Name x px)) l X.env = pure true := by
  simp only [FC.swaps, Bool.and_eq_true, Bool.not_eq_true'] at h
  obtain ⟨⟨⟨h1, h2⟩, h3⟩, h4⟩ := h
  have k : X.env.scope.kind = .function := by
    rw [hs]
    split at h1
    · assumption
    · cases h1
  have n : X.env.scope.names.lookup x = some .local := by
    rw [hs]
    split at h2
    · assumption
    · cases h2
  exact ⟨n, sw_true k n h3 h4⟩
theorem noSw_ok {x : Str} {px : Pos} {e : Expr} {l : Nat} (hs : X.env.scope = F.sc) (h : F.noSw x px e = true) : swapsWith e (some (.Name x px)) l X.env = pure false := by
  cases e with
  | ListComp elt gs scope pos =>
    simp only [FC.noSw, Bool.and_eq_true, Bool.not_eq_true'] at h
    obtain ⟨h1, h2⟩ := h
    have k : X.env.scope.kind = .function := by
      rw [hs]
      split at h1
      · assumption
      · cases h1
    have b : X.env.blockKind = .function := by unfold PySem.Env.blockKind; rw [k]; rfl
    show (pure (X.env.blockKind == .function && X.env.kindOf x == some .local && px.line == pos.line && !(scope.names.any fun (n, k) => n == x && (k == .local || k == .cell))) : Sem Bool) = pure false
    rw [b]
    refine congrArg pure ?_
    have e : X.env.kindOf x = F.sc.names.lookup x := by rw [← hs]; rfl
    rw [e]
    unfold FC.swaps at h2
    rw [h1] at h2
    cases q : F.sc.names.lookup x with
    | none => rfl
    | some kd =>
      rw [q] at h2
      cases kd <;> first | exact h2 | rfl
  | SetComp => cases h
  | DictComp => cases h
  | _ => rfl
theorem Sm.sound (o : XOk P lvl X S F) (hp : PassesOwn (model X.prog X.w) X.A X.env X.xe) : ∀ (a : Sm) (es : List Stmt), a.chk P F es = true → PSs X es (tS S a.M)
  | .nil, es, h => by
    simp only [Sm.chk, List.isEmpty_iff] at h
    subst h
    exact ts_nil
  | .pass r, es, h => by
    simp only [Sm.chk] at h
    split at h
    · exact then_ok ts_pass h (Sm.sound o hp r _ h)
    · cases h
  | .brk r, es, h => by
    simp only [Sm.chk] at h
    split at h
    · exact then_ok ts_break h (Sm.sound o hp r _ h)
    · cases h
  | .cont r, es, h => by
    simp only [Sm.chk] at h
    split at h
    · exact then_ok ts_continue h (Sm.sound o hp r _ h)
    · cases h
  | .expr a r, es, h => by
    simp only [Sm.chk] at h
    split at h
    · simp only [Bool.and_eq_true] at h
      exact then_ok (ts_expr (E.sound a _ o h.1.2) (noComp_sw h.1.1 _ _)) h.2 (Sm.sound o hp r _ h.2)
    · cases h
  | .ret a r, es, h => by
    simp only [Sm.chk] at h
    split at h
    · simp only [Bool.and_eq_true] at h
      exact then_ok (ts_ret (E.sound a _ o h.1)) h.2 (Sm.sound o hp r _ h.2)
    · cases h
  | .retN r, es, h => by
    simp only [Sm.chk] at h
    split at h
    · exact then_ok ts_retN h (Sm.sound o hp r _ h)
    · cases h
  | .retName i r, es, h => by
    simp only [Sm.chk] at h
    split at h
    · simp only [Bool.and_eq_true] at h
      obtain ⟨v1, v2, v3, v4⟩ := vis_ok o.N o.sc h.1
      exact then_ok (ts_retName v1 v2 v3 v4) h.2 (Sm.sound o hp r _ h.2)
    · cases h
  | .set i a r, es, h => by
    simp only [Sm.chk] at h
    split at h
    · simp only [Bool.and_eq_true] at h
      obtain ⟨v1, v2, v3⟩ := loc_ok o.N o.sc o.fn h.1.1.2
      exact then_ok (ts_set o.nd v1 v2 (E.sound a _ o h.1.2) (noSw_ok o.sc h.1.1.1) v3) h.2 (Sm.sound o hp r _ h.2)
    · cases h
  | .setLc i it own t c r, es, h => by
    simp only [Sm.chk] at h
    split at h
    · simp only [Bool.and_eq_true] at h
      obtain ⟨⟨⟨⟨⟨⟨⟨⟨h0, h1⟩, h2⟩, h3⟩, h4⟩, h5⟩, h6⟩, h7⟩, h8⟩ := h
      obtain ⟨v1, v2, v3⟩ := loc_ok o.N o.sc o.fn h1
      obtain ⟨w1, w2⟩ := swaps_ok o.sc h0
      exact then_ok (ts_setLc o.K o.calm o.nd v1 w1 w2 (I.sound it _ o h2) (by rw [o.N, o.sc]; exact blkOk_by h4) (subsetB_ok h5) (fun s H C cl fp => raw_sound (o.in s H _ C cl fp) t _ h6) (fun s H C cl fp => tt_yes) (fun s H C cl fp => E.sound c _ (o.in s H _ C cl fp) h7) (noSet_fold h3)) h8 (Sm.sound o hp r _ h8)
    · cases h
  | .setLcIf i it own t y c r, es, h => by
    simp only [Sm.chk] at h
    split at h
    · simp only [Bool.and_eq_true] at h
      obtain ⟨⟨⟨⟨⟨⟨⟨⟨⟨h0, h1⟩, h2⟩, h3⟩, h4⟩, h5⟩, h6⟩, h9⟩, h7⟩, h8⟩ := h
      obtain ⟨v1, v2, v3⟩ := loc_ok o.N o.sc o.fn h1
      obtain ⟨w1, w2⟩ := swaps_ok o.sc h0
      exact then_ok (ts_setLc o.K o.calm o.nd v1 w1 w2 (I.sound it _ o h2) (by rw [o.N, o.sc]; exact blkOk_by h4) (subsetB_ok h5) (fun s H C cl fp => raw_sound (o.in s H _ C cl fp) t _ h6) (fun s H C cl fp => pts_one (T.sound y _ (o.in s H _ C cl fp) h9)) (fun s H C cl fp => E.sound c _ (o.in s H _ C cl fp) h7) (noSet_fold h3)) h8 (Sm.sound o hp r _ h8)
    · cases h
  | .asg t a r, es, h => by
    simp only [Sm.chk] at h
    split at h
    · simp only [Bool.and_eq_true, Bool.not_eq_true'] at h
      obtain ⟨⟨⟨⟨⟨h1, h2⟩, h3⟩, h4⟩, h5⟩, h6⟩ := h
      exact then_ok (ts_asg (E.sound a _ o h5) (tg_raw o.K (raw_sound o t _ h4)) (noComp_sw h1 _ _) (isTup_sw h3) (by rw [asn_cons h2]; rfl)) h6 (Sm.sound o hp r _ h6)
    · cases h
  | .store i k v r, es, h => by
    simp only [Sm.chk] at h
    split at h
    · rename_i x p0 b p1 e p2 es'
      simp only [Bool.and_eq_true] at h
      obtain ⟨⟨⟨⟨⟨h1, h2⟩, h3⟩, h4⟩, h5⟩, h6⟩ := h
      obtain ⟨v1, v2, v3, v4⟩ := vis_ok o.N o.sc h3
      refine then_ok (ts_store (F := storeS) set_list sl_list_store v1 v2 v3 v4 (E.sound k _ o h4) (E.sound v _ o h5) (noComp_sw (env := X.env) h1 (some (.Subscript (.Name x p0) b p1)) p2.line) ?_ rfl fun v => ?_) h6 (Sm.sound o hp r _ h6)
      · cases e <;> rfl
      · cases b <;> first | rfl | cases h2
    · cases h
  | .ife t a b r, es, h => by
    simp only [Sm.chk] at h
    split at h
    · simp only [Bool.and_eq_true] at h
      obtain ⟨⟨⟨h1, h2⟩, h3⟩, h4⟩ := h
      exact then_ok (ts_if (T.sound t _ o h1) (Sm.sound o hp a _ h2) (Sm.sound o hp b _ h3)) h4 (Sm.sound o hp r _ h4)
    · cases h
  | .loop t it b r, es, h => by
    simp only [Sm.chk] at h
    split at h
    · simp only [Bool.and_eq_true] at h
      obtain ⟨⟨⟨⟨h1, h2⟩, h3⟩, h4⟩, h5⟩ := h
      exact then_ok (ts_for hp o.calm (I.sound it _ o h3) (tg_raw o.K (raw_sound o t _ h2)) (Sm.sound o hp b _ h4) (noSet_fold h1)) h5 (Sm.sound o hp r _ h5)
    · cases h
  | .while t b r, es, h => by
    simp only [Sm.chk] at h
    split at h
    · simp only [Bool.and_eq_true] at h
      obtain ⟨⟨h1, h2⟩, h3⟩ := h
      exact then_ok (ts_while hp (T.sound t _ o h1) (Sm.sound o hp b _ h2)) h3 (Sm.sound o hp r _ h3)
    · cases h
end

/-! ### frames -/
section
variable {C : Ctx} {γ γ' : Gh} {f : Fs} {H H' : Hp} {g : Glob}
theorem at2_app {α : Type} {l : List (List α)} {r : List α} {d i : Nat} : at2 (l ++ [r]) d i = if d < l.length then at2 l d i else if d = l.length then r[i]? else none := by
  unfold at2
  by_cases h : d < l.length
  · rw [if_pos h, List.getElem?_append_left h]
  · rw [if_neg h, List.getElem?_append_right (by omega)]
    by_cases h2 : d = l.length
    · rw [if_pos h2, h2]; simp
    · rw [if_neg h2, List.getElem?_eq_none (by simp; omega)]; rfl
theorem at2_in {α : Type} {l : List (List α)} {r : List α} {d i : Nat} {x : α} (h : at2 l d i = some x) : at2 (l ++ [r]) d i = some x ∧ d < l.length := by
  obtain ⟨q, e, _⟩ := at2_some h
  have hl := (List.getElem?_eq_some_iff.mp e).1
  rw [at2_app, if_pos hl]
  exact ⟨h, hl⟩
/-- the last frame -/
abbrev Fs.push (f : Fs) (σ : List (Option V)) : Fs := ⟨f.st ++ [σ], f.ob⟩
abbrev Glob.push (g : Glob) (e : Env) : Glob := ⟨g.stk ++ [e], g.objs⟩
theorem Fs.at_push {f : Fs} {σ : List (Option V)} {l : Loc} {x : Option V} (h : f.at l = some x) : (f.push σ).at l = some x := by
  cases l with
  | st d i => exact (at2_in h).1
  | ob d i => exact h
theorem Glob.at_push {g : Glob} {e : Env} {l : Loc} {x : Slot} (h : g.at l = some x) : (g.push e).at l = some x := by
  cases l with
  | st d i => exact (at2_in h).1
  | ob d i => exact h
theorem Glob.push_at {g : Glob} {e : Env} {l : Loc} {x : Slot} (h : (g.push e).at l = some x) : g.at l = some x ∨ ∃ i, l = .st g.stk.length i ∧ e[i]? = some x := by
  cases l with
  | ob d i => exact .inl h
  | st d i =>
    have h : at2 (g.stk ++ [e]) d i = some x := h
    rw [at2_app] at h
    by_cases h1 : d < g.stk.length
    · rw [if_pos h1] at h; exact .inl h
    · rw [if_neg h1] at h
      by_cases h2 : d = g.stk.length
      · rw [if_pos h2] at h; exact .inr ⟨i, by rw [h2], h⟩
      · rw [if_neg h2] at h; cases h
theorem paired_get {α β : Type} {F : α → β → Prop} {as : List α} {bs : List β} (h : Paired F as bs) : ∀ {i : Nat} {a : α}, as[i]? = some a → ∃ b, bs[i]? = some b ∧ F a b := by
  induction h with
  | nil => intro i a h; simp at h
  | cons h1 h2 ih =>
    intro i a h
    cases i with
    | zero => simp at h; subst h; exact ⟨_, rfl, h1⟩
    | succ i => exact ih (by simpa using h)
theorem Rel.push {args : List Arg} {vs : List V} {n : Nat} (R : Rel C γ f H g) (hv : Paired (RA C γ f) args vs) (hn : vs.length ≤ n) :
    Rel C γ (f.push (vs.map some ++ List.replicate (n - vs.length) none)) H (g.push (args.map Arg.slot ++ List.replicate (n - args.length) .no)) := by
  have hl := hv.length
  have nocell : ∀ {i : Nat} {x : Slot}, (args.map Arg.slot ++ List.replicate (n - args.length) Slot.no)[i]? = some x → x.cell = none := fun {i x} h => by
    rcases List.mem_append.mp (List.mem_of_getElem? h) with q | q
    · obtain ⟨a, _, rfl⟩ := List.mem_map.mp q
      cases a <;> rfl
    · rw [(List.mem_replicate.mp q).2]; rfl
  refine ⟨by simp [R.len], fun d σ e h1 h2 => ?_, R.G, R.F, R.GF, fun l s h => ?_, fun l l' s s' c c' a h1 h2 h3 h4 h5 h6 => ?_, fun l a c h => ⟨Glob.at_push (R.lk l a c h).1, Fs.at_push (R.lk l a c h).2⟩, R.olen, R.obj, R.oinj⟩
  · by_cases hd : d < f.st.length
    · rw [List.getElem?_append_left hd] at h1
      rw [List.getElem?_append_left (by rw [← R.len]; exact hd)] at h2
      exact R.lens d σ e h1 h2
    · rw [List.getElem?_append_right (by omega)] at h1
      rw [List.getElem?_append_right (by rw [← R.len]; omega)] at h2
      have e1 := List.mem_of_getElem? h1
      have e2 := List.mem_of_getElem? h2
      rw [List.mem_singleton.mp e1, List.mem_singleton.mp e2]
      simp [hl]
  · rcases Glob.push_at h with h | ⟨i, rfl, hh⟩
    · have q := R.slot l s h
      cases s with
      | no => trivial
      | val v =>
        obtain ⟨x, h1, h2⟩ := q
        exact ⟨x, Fs.at_push h1, h2⟩
      | own c =>
        obtain ⟨a, h1, h2⟩ := q
        exact ⟨a, Fs.at_push h1, h2⟩
      | lock c =>
        obtain ⟨a, h1, h2⟩ := q
        exact ⟨a, Fs.at_push h1, h2⟩
      | rf d j =>
        obtain ⟨d', i, e, h1, a, h2, h3⟩ := q
        exact ⟨d', i, e, h1, a, Fs.at_push h2, Fs.at_push h3⟩
    · by_cases hi : i < args.length
      · rw [List.getElem?_append_left (by simpa using hi), List.getElem?_map, List.getElem?_eq_getElem hi] at hh
        cases hh
        obtain ⟨v, e1, ra⟩ := paired_get hv (List.getElem?_eq_getElem hi)
        have at' : (f.push (vs.map some ++ List.replicate (n - vs.length) none)).at (.st g.stk.length i) = some (some v) := by
          show at2 (f.st ++ [_]) g.stk.length i = _
          rw [at2_app, if_neg (by rw [R.len]; omega), if_pos R.len.symm, List.getElem?_append_left (by simpa using by omega), List.getElem?_map, e1]
          rfl
        cases ha : args[i] with
        | val d => rw [ha] at ra; exact ⟨v, at', ra⟩
        | rf d j =>
          rw [ha] at ra
          obtain ⟨h1, a, rfl, h2⟩ := ra
          exact ⟨g.stk.length, i, rfl, by rw [← R.len]; exact h1, a, at', Fs.at_push h2⟩
      · rw [List.getElem?_append_right (by simpa using by omega), List.getElem?_replicate] at hh
        split at hh
        · cases hh; trivial
        · cases hh
  · rcases Glob.push_at h1 with h1 | ⟨i, rfl, hh⟩
    · rcases Glob.push_at h2 with h2 | ⟨i, rfl, hh⟩
      · obtain ⟨b1, q1, _⟩ := R.cr h1 h3
        obtain ⟨b2, q2, _⟩ := R.cr h2 h4
        have r1 := Fs.at_push (σ := vs.map some ++ List.replicate (n - vs.length) none) q1
        have r2 := Fs.at_push (σ := vs.map some ++ List.replicate (n - vs.length) none) q2
        rw [h5] at r1
        rw [h6] at r2
        cases r1
        cases r2
        exact R.uniq l l' s s' c c' a h1 h2 h3 h4 q1 q2
      · rw [nocell hh] at h4; cases h4
    · rw [nocell hh] at h3; cases h3
theorem push_slot {f' : Fs} {g' : Glob} {σ : List (Option V)} {e : Env} (hlen : f'.st.length = g'.stk.length) {l : Loc} {s : Slot} (h : g'.at l = some s) (q : SlotOk C γ (f'.push σ) H l s) : SlotOk C γ f' H l s := by
  have back : ∀ {l' : Loc} {x : Option V}, (∀ d i, l' = .st d i → d < f'.st.length) → (f'.push σ).at l' = some x → f'.at l' = some x := fun {l' x} hd k => by
    cases l' with
    | ob o i => exact k
    | st d i =>
      have k : at2 (f'.st ++ [σ]) d i = some x := k
      rw [at2_app, if_pos (hd d i rfl)] at k
      exact k
  have hd : ∀ d i, l = .st d i → d < f'.st.length := fun d i el => by
    subst el
    rw [hlen]
    exact (at2_in (r := []) (show at2 g'.stk d i = some s from h)).2
  cases s with
  | no => trivial
  | val v =>
    obtain ⟨x, h1, h2⟩ := q
    exact ⟨x, back hd h1, h2⟩
  | own c =>
    obtain ⟨a, h1, h2⟩ := q
    exact ⟨a, back hd h1, h2⟩
  | lock c =>
    obtain ⟨a, h1, h2⟩ := q
    exact ⟨a, back hd h1, h2⟩
  | rf d j =>
    obtain ⟨d', i, el, h1, a, h2, h3⟩ := q
    have := hd d' i el
    exact ⟨d', i, el, h1, a, back hd h2, back (fun d2 i2 e2 => by cases e2; omega) h3⟩
theorem pop_at {f' : Fs} {g' : Glob} {σ : List (Option V)} (hlen : f'.st.length = g'.stk.length) {l : Loc} {s : Slot} (h : g'.at l = some s) {x : Option V} (k : f'.at l = some x) : (f'.push σ).at l = some x := Fs.at_push k
theorem Rel.pop {of' : List (List (Option V))} {σ : List (Option V)} {g' : Glob} {e : Env} (R0 : Rel C γ f H g) (ext : Ext γ γ') (R : Rel C γ' (Fs.push ⟨f.st, of'⟩ σ) H' (g'.push e)) : Rel C γ' ⟨f.st, of'⟩ H' g' := by
  have hlen : f.st.length = g'.stk.length := by
    have := R.len
    simpa using this
  refine ⟨hlen, fun d σ' e' h1 h2 => ?_, R.G, R.F, R.GF, fun l s h => push_slot (e := e) (f' := ⟨f.st, of'⟩) hlen h (R.slot l s (Glob.at_push h)), fun l l' s s' c c' a h1 h2 h3 h4 h5 h6 => R.uniq l l' s s' c c' a (Glob.at_push h1) (Glob.at_push h2) h3 h4 (Fs.at_push h5) (Fs.at_push h6), fun l a c h => ?_, R.olen, R.obj, R.oinj⟩
  · have l1 : d < f.st.length := (List.getElem?_eq_some_iff.mp h1).1
    exact R.lens d σ' e' (by show (f.st ++ [σ])[d]? = _; rw [List.getElem?_append_left l1]; exact h1) (by show (g'.stk ++ [e])[d]? = _; rw [List.getElem?_append_left (by rw [← hlen]; exact l1)]; exact h2)
  · obtain ⟨k1, k2⟩ := R.lk l a c h
    rw [ext.lk] at h
    obtain ⟨j1, j2⟩ := R0.lk l a c h
    cases l with
    | ob o i => exact ⟨k1, k2⟩
    | st d i =>
      have hd : d < f.st.length := (at2_in (r := []) (show at2 f.st d i = _ from j2)).2
      have k1 : at2 (g'.stk ++ [e]) d i = _ := k1
      have k2 : at2 (f.st ++ [σ]) d i = _ := k2
      rw [at2_app, if_pos (by rw [← hlen]; exact hd)] at k1
      rw [at2_app, if_pos hd] at k2
      exact ⟨k1, k2⟩
theorem RR.pop {of' : List (List (Option V))} {σ : List (Option V)} {g' : Glob} {e : Env} {v : V} {r : Res} (h : RR C γ' (Fs.push ⟨f.st, of'⟩ σ) H' (g'.push e) v r) : RR C γ' ⟨f.st, of'⟩ H' g' v r := by
  cases r with
  | val d => exact h
  | new c =>
    obtain ⟨a, e1, cr, g0, f0, fr⟩ := h
    refine ⟨a, e1, cr, g0, f0, fun ⟨l, s, c', h1, h2, h3⟩ => fr.own ⟨l, s, c', Glob.at_push h1, h2, Fs.at_push h3⟩, fr.ob⟩
end
end Iv

/-! Iv: the program's defs; the law. -/
namespace Iv
open PySem L2 PySem.Spec PyProof.Rows

abbrev Prog := Nat → Option (List Arg → CallF → Glob → Option (Out Res × Glob))
/-- a def of the text and its reading -/
def DefOk (Pc : PC) (prog : Prog) (K : PySem.W.Frag) (mg : Str → Option Value) (x : Str) (id n : Nat) : Prop :=
  ∃ (f : Addr) (qual : Str) (st : Stmt) (fd : FuncData) (N ps : List Str) (ir : Sm), Fun K x qual st f fd ∧ FnScope N ps (defScope st) ∧ ir.chk Pc ⟨N, defScope st, fun _ => true⟩ (defBody st) = true ∧ prog id = some (defM N.length ir.M) ∧ ps.length = n ∧ mg x = some (.ref f) ∧ Binds K fd ps []
section
variable {Pc : PC} {prog : Prog} {P : Program} {w : World} {mg : Str → Option Value} {base : Heap} {C : Ctx}
theorem def_fn {lvl : Nat} {x : Str} {id n : Nat} {f : Addr} {qual : Str} {st : Stmt} {fd : FuncData} {N ps : List Str} {ir : Sm} (F : Fun C.K x qual st f fd) (sc : FnScope N ps (defScope st)) (chk : ir.chk Pc ⟨N, defScope st, fun _ => true⟩ (defBody st) = true) (hp : prog id = some (defM N.length ir.M)) (hn : ps.length = n) (hb : ∀ x, Pc.hasB x = true → mg x = none)
    (ih : ∀ x id n, Pc.funs.lookup x = some (id, n) → ∃ f fd ps, FnG P w C.K mg base lvl f fd ps (spD C (run prog lvl) id n) ∧ mg x = some (.ref f) ∧ PySem.W.keepIn C.K (.ref f) = true ∧ Binds C.K fd ps []) :
    FnG P w C.K mg base (lvl + 1) f fd ps (spD C (run prog (lvl + 1)) id n) := by
  refine FnG.of F sc (fun xs H Q E h => by rw [hn]; exact h.1) fun cdv A outer z H xs Q E hgd room hsp => ?_
  obtain ⟨hl, γ, f0, g, args, r, g', R, hv, hrun, hpost⟩ := hsp
  have o : XOk Pc lvl (cxOf (L2.CX P w) P w C.K mg base N qual (defScope st) f cdv A outer z H E) ⟨C, f0.st, run prog lvl, fun cls d _ H => E cls d H⟩ ⟨N, defScope st, fun _ => true⟩ :=
    ⟨rfl, sc.nd, rfl, rfl, rfl, rfl, hgd, room, takes_of rfl rfl rfl rfl, hb, ih⟩
  have hlen : xs.length ≤ N.length := by
    have q := congrArg List.length sc.pre
    rw [List.length_take] at q
    omega
  refine ⟨_, Sm.sound o (passes_of rfl) ir _ chk, γ, f0.ob, ⟨g.stk, args.map Arg.slot ++ List.replicate (N.length - args.length) Slot.no, g.objs⟩, Rel.push (n := N.length) R hv hlen, ?_⟩
  have hrun : defM N.length ir.M args (run prog lvl) g = some (r, g') := by
    have : run prog (lvl + 1) id args g = some (r, g') := hrun
    simpa only [run, hp] using this
  unfold defM at hrun
  cases e : ir.M (run prog lvl) ⟨g.stk, args.map Arg.slot ++ List.replicate (N.length - args.length) Slot.no, g.objs⟩ with
  | none => rw [e] at hrun; cases hrun
  | some q =>
    obtain ⟨out, m'⟩ := q
    rw [e] at hrun
    refine ⟨out, m', e, ?_⟩
    cases out with
    | exc c fs =>
      cases hrun
      exact fun γ' of' σ' H' cls d ext R' er => hpost γ' of' H' cls d ext (Rel.pop (g' := ⟨m'.stk, m'.objs⟩) R ext R') er
    | ok fl =>
      cases fl with
      | rt res =>
        cases hrun
        exact fun γ' of' σ' H' ext R' v rr => hpost γ' of' H' v ext (Rel.pop (g' := ⟨m'.stk, m'.objs⟩) R ext R') (RR.pop (g' := ⟨m'.stk, m'.objs⟩) rr)
      | nx =>
        cases hrun
        exact fun γ' of' σ' H' ext R' => hpost γ' of' H' .non ext (Rel.pop (g' := ⟨m'.stk, m'.objs⟩) R ext R') (by simp [RR, RV])
      | bk => cases hrun
      | ct => cases hrun
theorem def_ok {lvl : Nat} {x : Str} {id n : Nat} (hb : ∀ x, Pc.hasB x = true → mg x = none) (hd : DefOk Pc prog C.K mg x id n)
    (ih : ∀ x id n, Pc.funs.lookup x = some (id, n) → ∃ f fd ps, FnG P w C.K mg base lvl f fd ps (spD C (run prog lvl) id n) ∧ mg x = some (.ref f) ∧ PySem.W.keepIn C.K (.ref f) = true ∧ Binds C.K fd ps []) :
    ∃ f fd ps, FnG P w C.K mg base (lvl + 1) f fd ps (spD C (run prog (lvl + 1)) id n) ∧ mg x = some (.ref f) ∧ PySem.W.keepIn C.K (.ref f) = true ∧ Binds C.K fd ps [] := by
  obtain ⟨f, qual, st, fd, N, ps, ir, F, sc, chk, hp, hn, hm, hbi⟩ := hd
  exact ⟨f, fd, ps, def_fn F sc chk hp hn hb ih, hm, F.kp, hbi⟩
theorem all_ok (hb : ∀ x, Pc.hasB x = true → mg x = none) (hd : ∀ x id n, Pc.funs.lookup x = some (id, n) → DefOk Pc prog C.K mg x id n) : ∀ (lvl : Nat) x id n, Pc.funs.lookup x = some (id, n) →
    ∃ f fd ps, FnG P w C.K mg base lvl f fd ps (spD C (run prog lvl) id n) ∧ mg x = some (.ref f) ∧ PySem.W.keepIn C.K (.ref f) = true ∧ Binds C.K fd ps []
  | 0, x, id, n, h => by
    obtain ⟨f, qual, st, fd, N, ps, ir, F, sc, chk, hp, hn, hm, hbi⟩ := hd x id n h
    refine ⟨f, fd, ps, ⟨fun xs H Q E h => by rw [hn]; exact h.1, fun A outer z H args us xs Q E _ _ _ _ _ hsp => ?_⟩, hm, F.kp, hbi⟩
    obtain ⟨_, _, _, _, _, _, _, _, _, q, _⟩ := hsp
    cases q
  | lvl + 1, x, id, n, h => def_ok hb (hd x id n h) (all_ok hb hd lvl)
def AllNone (mg : Str → Option Value) : List Str → Prop
  | [] => True
  | x :: l => mg x = none ∧ AllNone mg l
theorem blt_of {l : List Str} (h : AllNone mg l) : ∀ x, l.contains x = true → mg x = none := by
  induction l with
  | nil => intro x h; cases h
  | cons y l ih =>
    intro x hx
    rw [List.contains_cons, Bool.or_eq_true] at hx
    rcases hx with hx | hx
    · rw [beq_iff_eq.mp hx]; exact h.1
    · exact ih h.2 x hx
def AllDefs (Pc : PC) (prog : Prog) (K : PySem.W.Frag) (mg : Str → Option Value) : List (Str × Nat × Nat) → Prop
  | [] => True
  | (x, id, n) :: l => DefOk Pc prog K mg x id n ∧ AllDefs Pc prog K mg l
theorem defs_of {K : PySem.W.Frag} {l : List (Str × Nat × Nat)} (h : AllDefs Pc prog K mg l) : ∀ x id n, l.lookup x = some (id, n) → DefOk Pc prog K mg x id n := by
  induction l with
  | nil => intro x id n h; cases h
  | cons y l ih =>
    obtain ⟨y, i, m⟩ := y
    intro x id n hx
    rw [List.lookup_cons] at hx
    cases e : x == y with
    | true =>
      rw [e] at hx
      cases hx
      rw [beq_iff_eq.mp e]
      exact h.1
    | false =>
      rw [e] at hx
      exact ih h.2 x id n hx
theorem law_mk {f : Addr} {x qual p : Str} {st : Stmt} {fd : FuncData} {N : List Str} {id : Nat} {ir : Sm} (F : Fun C.K x qual st f fd) (sc : FnScope N [p] (defScope st)) (chk : ir.chk Pc ⟨N, defScope st, fun _ => true⟩ (defBody st) = true) (hp : prog id = some (defM N.length ir.M))
    (hbi : ∀ (s : Shared) (v : Value), BindsTo s fd ⟨[v], []⟩ [(p, v)]) (hb : ∀ x, Pc.hasB x = true → mg x = none) (hd : ∀ x id n, Pc.funs.lookup x = some (id, n) → DefOk Pc prog C.K mg x id n) (lvl : Nat) :
    ∃ fd : FuncData, (∀ (s : Shared) (v : Value), BindsTo s fd ⟨[v], []⟩ [(p, v)]) ∧ ∀ base : Heap, C.K.In base → base.Ns mainGlobals mg → FnG P w C.K mg base (lvl + 1) f fd [p] (spD C (run prog (lvl + 1)) id 1) :=
  ⟨fd, hbi, fun base _ _ => def_fn F sc chk hp rfl hb (all_ok hb hd lvl)⟩
theorem noAt : ∀ (l : Loc) (s : Slot), (⟨[], []⟩ : Glob).at l = some s → False := by
  intro l s h
  cases l <;> simp [Glob.at, at2] at h
/-- the law's promise from what its reading computes -/
theorem law_sp {k : CallF} {id : Nat} {H : Hp} {a : Addr} {ns : List Int} {g' : Glob} (hs : SqL C.K H a (ns.map V.int)) (h : k id [.val (.scr ns)] ⟨[], []⟩ = some (.ok (.val (.bool true)), g')) : spD C k id 1 [.ref a] H (fun v _ => v = .bl true) fun _ _ _ => False := by
  refine ⟨rfl, ⟨H, fun _ => none, [], []⟩, ⟨[], []⟩, ⟨[], []⟩, [.val (.scr ns)], _, g', ?_, .cons ?_ .nil, h, fun γ' of' H' v _ _ rr => ?_⟩
  · exact { len := rfl, lens := fun d σ e h1 h2 => (by simp at h1), G := Same.refl _, F := fun _ _ z => (nomatch z), GF := fun _ _ _ => rfl, slot := fun l s q => (noAt l s q).elim, uniq := fun l _ s _ _ _ _ q => (noAt l s q).elim,
            lk := fun _ _ _ z => (List.not_mem_nil z).elim, olen := ⟨rfl, rfl⟩, obj := fun i a o xs q => (by simp at q), oinj := fun i j a q => (by simp at q) }
  · show RV C H [] (.scr ns) (.ref a)
    simp only [RV]
    exact ⟨a, rfl, hs⟩
  · simpa [RR, RV] using rr
end
/-- the goal that the head leaves, from what the readings compute -/
theorem walk {l : PySem.W.OpenLaw} {n lvl id : Nat} {q : Program} {loose : List Str} {XP : (Str → Option Value) → Heap → Prop} {YP : World → Heap → Prop} {d : DefRec} {K : Params → PySem.W.Frag} {x : Str} {Pc : PC} {prog : Prog} (hn : l.most = some n) (hn2 : n ≤ sizeLine) (hdf : d.params.defaults = []) (hr : Room lvl callerA) (hY : ∀ (w : World) (h : Heap), YP w h → (K w.params).In h)
    (hid : Pc.funs.lookup d.name = some (id, 1)) (hx : ∀ (K : PySem.W.Frag) (f : Addr) (fd : FuncData) (ps : List Str), Binds K fd ps [] → ps.length = 1 → True)
    (F : ∀ (w : World) (mg : Str → Option Value) (fa : Addr) (h : Heap), (K w.params).In h → h.Ns mainGlobals mg → mg d.name = some (.ref fa) →
      ∃ fd : FuncData, (∀ (s : Shared) (u : Value), BindsTo s fd ⟨[u], []⟩ [(x, u)]) ∧ ∀ base : Heap, (K w.params).In base → base.Ns mainGlobals mg → FnG l.prog w (K w.params) mg base lvl fa fd [x] (spD ⟨K w.params, fun _ => none⟩ (run prog lvl) id 1))
    (hm : ∀ ns : List Int, ns.length ≤ n → ∃ g', run prog lvl id [.val (.scr ns)] ⟨[], []⟩ = some (.ok (.val (.bool true)), g')) :
    PySem.W.WalkO q loose XP YP l.row.toRowW d [] (fun f vs => PySem.call f vs) :=
  walkG hn hn2 hdf hr hY (sp := fun w => spD ⟨K w.params, fun _ => none⟩ (run prog lvl) id 1) F fun w H a ns hl hs => by
    obtain ⟨g', e⟩ := hm ns hl
    exact law_sp hs e
end Iv

/-! Iv: reasoning about readings. -/
namespace Iv
open PySem L2

def Wp {α : Type} (k : CallF) (x : M α) (m : Mem) (Q : α → Mem → Prop) : Prop := ∃ a m', x k m = some (.ok a, m') ∧ Q a m'
section
variable {α β : Type} {k : CallF} {m : Mem} {stk : List Env} {env : Env} {objs : List Obj}
theorem Wp.mono {x : M α} {Q Q' : α → Mem → Prop} (h : Wp k x m Q) (hq : ∀ a m', Q a m' → Q' a m') : Wp k x m Q' := by
  obtain ⟨a, m', e, q⟩ := h
  exact ⟨a, m', e, hq _ _ q⟩
theorem wp_ret {a : α} {Q : α → Mem → Prop} : Wp k (ret a) m Q ↔ Q a m := by
  constructor
  · rintro ⟨b, m', e, q⟩
    cases e
    exact q
  · exact fun q => ⟨a, m, rfl, q⟩
theorem wp_bnd {x : M α} {f : α → M β} {Q : β → Mem → Prop} : Wp k (bnd x f) m Q ↔ Wp k x m fun a m' => Wp k (f a) m' Q := by
  constructor
  · rintro ⟨b, m', e, q⟩
    obtain ⟨a, m1, e1, e2⟩ := run_bnd e
    exact ⟨a, m1, e1, b, m', e2, q⟩
  · rintro ⟨a, m1, e1, b, m', e2, q⟩
    refine ⟨b, m', ?_, q⟩
    show (match x k m with
      | some (.ok a, m') => f a k m'
      | some (.exc c fs, m') => some (.exc c fs, m')
      | none => none) = _
    rw [e1]
    exact e2
theorem wp_lift {o : Option α} {Q : α → Mem → Prop} : Wp k (lift o) m Q ↔ ∃ a, o = some a ∧ Q a m := by
  constructor
  · rintro ⟨b, m', e, q⟩
    unfold lift at e
    cases o with
    | none => cases e
    | some z => cases e; exact ⟨_, rfl, q⟩
  · rintro ⟨z, rfl, q⟩
    exact ⟨z, m, rfl, q⟩
theorem wp_peek {i : Nat} {Q : Val → Mem → Prop} : Wp k (peek i) m Q ↔ ∃ v, peekE m.stk m.env i = some v ∧ Q v m := by
  constructor
  · rintro ⟨b, m', e, q⟩
    unfold peek at e
    split at e
    · rename_i v h; cases e; exact ⟨_, h, q⟩
    · cases e
  · rintro ⟨v, h, q⟩
    refine ⟨v, m, ?_, q⟩
    unfold peek
    rw [h]
theorem wp_setSlot {i : Nat} {s : Slot} {Q : Unit → Mem → Prop} : Wp k (setSlot i s) m Q ↔ ∃ s0, m.env[i]? = some s0 ∧ s0.locked = false ∧ Q () ⟨m.stk, m.env.set i s, m.objs⟩ := by
  constructor
  · rintro ⟨b, m', e, q⟩
    unfold setSlot at e
    split at e
    · rename_i s0 h
      split at e
      · cases e
      · rename_i hl
        cases e
        exact ⟨s0, h, by simpa using hl, q⟩
    · cases e
  · rintro ⟨s0, h, hl, q⟩
    refine ⟨(), _, ?_, q⟩
    unfold setSlot
    rw [h]
    simp only [hl]
    rfl
theorem wp_setName {i : Nat} {r : Res} {Q : Unit → Mem → Prop} : Wp k (setName i r) m Q ↔ ∃ s0, m.env[i]? = some s0 ∧ s0.locked = false ∧ Q () ⟨m.stk, m.env.set i r.slot, m.objs⟩ := wp_setSlot
theorem wp_put {i : Nat} {v : Val} {Q : Unit → Mem → Prop} : Wp k (Tgt.put (.name i) v) m Q ↔ ∃ s0, m.env[i]? = some s0 ∧ s0.locked = false ∧ Q () ⟨m.stk, m.env.set i (.val v), m.objs⟩ := wp_setSlot
theorem wp_nameV {i : Nat} {v : Val} {Q : Res → Mem → Prop} (h : m.env[i]? = some (.val v)) (q : Q (.val v) m) : Wp k (nameC i) m Q := by
  refine ⟨_, _, ?_, q⟩
  unfold nameC
  rw [h]
/-- what the name gives away -/
def nameE (m : Mem) (i : Nat) : Option (Res × Mem) := match m.env[i]? with
  | some (.val v) => some (.val v, m)
  | some (.own c) => some (.val c.fz, ⟨m.stk, m.env.set i (.val c.fz), m.objs⟩)
  | some (.rf d j) => match (m.stk[d]?).bind (·[j]?) with
    | some (.own c) => some (.val c.fz, ⟨m.stk.modify d (·.set j (.val c.fz)), m.env, m.objs⟩)
    | some (.val v) => some (.val v, m)
    | _ => none
  | _ => none
theorem wp_nameC {i : Nat} {Q : Res → Mem → Prop} : Wp k (nameC i) m Q ↔ ∃ p, nameE m i = some p ∧ Q p.1 p.2 := by
  have e : nameC i k m = (nameE m i).map fun p => (.ok p.1, p.2) := by
    unfold nameC nameE
    cases m.env[i]? with
    | none => rfl
    | some s =>
      cases s with
      | rf d j =>
        simp only
        cases (m.stk[d]?).bind (·[j]?) with
        | none => rfl
        | some s => cases s <;> rfl
      | _ => rfl
  constructor
  · rintro ⟨b, m', h, q⟩
    rw [e] at h
    cases h2 : nameE m i with
    | none => rw [h2] at h; cases h
    | some p => rw [h2] at h; cases h; exact ⟨p, rfl, q⟩
  · rintro ⟨p, h, q⟩
    exact ⟨p.1, p.2, by rw [e, h]; rfl, q⟩
theorem wp_nameR_own {i : Nat} {c : Cell} {Q : Res → Mem → Prop} (h : m.env[i]? = some (.own c)) (q : Q (.new c) ⟨m.stk, m.env.set i .no, m.objs⟩) : Wp k (nameR i) m Q := by
  refine ⟨_, _, ?_, q⟩
  unfold nameR
  rw [h]
theorem wp_nameR_val {i : Nat} {v : Val} {Q : Res → Mem → Prop} (h : m.env[i]? = some (.val v)) (q : Q (.val v) m) : Wp k (nameR i) m Q := by
  refine ⟨_, _, ?_, q⟩
  unfold nameR
  rw [h]
  show nameC i k m = _
  unfold nameC
  rw [h]
theorem wp_chg_own {α : Type} {i : Nat} {f : Cell → Option (Cell × α)} {c c' : Cell} {a : α} {Q : α → Mem → Prop} (h : m.env[i]? = some (.own c)) (hf : f c = some (c', a)) (q : Q a ⟨m.stk, m.env.set i (.own c'), m.objs⟩) : Wp k (chg i f) m Q := by
  refine ⟨_, _, ?_, q⟩
  unfold chg
  rw [h]
  simp only [hf]
theorem wp_chg_rf {α : Type} {i d j : Nat} {f : Cell → Option (Cell × α)} {c c' : Cell} {a : α} {Q : α → Mem → Prop} (h : m.env[i]? = some (.rf d j)) (hs : (m.stk[d]?).bind (·[j]?) = some (.own c)) (hf : f c = some (c', a)) (q : Q a ⟨m.stk.modify d (·.set j (.own c')), m.env, m.objs⟩) : Wp k (chg i f) m Q := by
  refine ⟨_, _, ?_, q⟩
  unfold chg
  rw [h]
  simp only [hs, hf]
theorem wp_call {f : Nat} {args : List Arg} {r : Res} {g' : Glob} {e' : Env} {Q : Res → Mem → Prop} (h : k f args ⟨m.stk ++ [m.env], m.objs⟩ = some (.ok r, g')) (he : g'.stk[m.stk.length]? = some e') (q : Q r ⟨g'.stk.take m.stk.length, e', g'.objs⟩) : Wp k (callM f args) m Q := by
  refine ⟨r, _, ?_, q⟩
  unfold callM
  rw [h]
  simp only [he]
/-- a call that changes nothing -/
theorem wp_callP {f : Nat} {args : List Arg} {r : Res} {Q : Res → Mem → Prop} (h : k f args ⟨m.stk ++ [m.env], m.objs⟩ = some (.ok r, ⟨m.stk ++ [m.env], m.objs⟩)) (q : Q r m) : Wp k (callM f args) m Q := by
  refine wp_call h (e' := m.env) (by simp) ?_
  simpa using q
/-- a suite from its parts -/
theorem wp_seq {x y : M Flow} {Q : Flow → Mem → Prop} : Wp k (seqM x y) m Q ↔ Wp k x m fun f m' => match f with
    | .nx => Wp k y m' Q
    | f => Q f m' := by
  unfold seqM
  rw [wp_bnd]
  constructor
  · intro h
    refine h.mono fun f m' q => ?_
    cases f <;> first | exact q | exact wp_ret.mp q
  · intro h
    refine h.mono fun f m' q => ?_
    cases f <;> first | exact q | exact wp_ret.mpr q
theorem wp_if {c : M Bool} {x y : M α} {Q : α → Mem → Prop} : Wp k (ifM c x y) m Q ↔ Wp k c m fun b m' => if b then Wp k x m' Q else Wp k y m' Q := by
  unfold ifM
  rw [wp_bnd]
  constructor
  · intro h
    refine h.mono fun b m' q => ?_
    cases b <;> exact q
  · intro h
    refine h.mono fun b m' q => ?_
    cases b <;> exact q
/-- a for loop by an invariant over what is done -/
theorem wp_forL {t : Val → M Unit} {y : M Flow} {xs : List Val} {Q : Flow → Mem → Prop} (I : List Val → Mem → Prop) (h0 : I [] m)
    (hs : ∀ d x r m, xs = d ++ x :: r → I d m → Wp k (t x) m fun _ m1 => Wp k y m1 fun f m2 => match f with
      | .nx => I (d ++ [x]) m2
      | .ct => I (d ++ [x]) m2
      | .bk => Q .nx m2
      | .rt r => Q (.rt r) m2)
    (hd : ∀ m, I xs m → Q .nx m) : Wp k (forL t y xs) m Q := by
  have go : ∀ (r d : List Val) (m : Mem), xs = d ++ r → I d m → Wp k (forL t y r) m Q := by
    intro r
    induction r with
    | nil =>
      intro d m e i
      rw [List.append_nil] at e
      subst e
      exact wp_ret.mpr (hd m i)
    | cons x r ih =>
      intro d m e i
      have := hs d x r m e i
      show Wp k (bnd (t x) fun _ => bnd y fun f => match f with
        | .nx => forL t y r
        | .ct => forL t y r
        | .bk => ret .nx
        | .rt r => ret (.rt r)) m Q
      rw [wp_bnd]
      refine this.mono fun _ m1 q => ?_
      rw [wp_bnd]
      refine q.mono fun f m2 q => ?_
      cases f with
      | nx => exact ih (d ++ [x]) m2 (by rw [e]; simp) q
      | ct => exact ih (d ++ [x]) m2 (by rw [e]; simp) q
      | bk => exact wp_ret.mpr q
      | rt r => exact wp_ret.mpr q
  exact go xs [] m rfl h0
/-- the same, the items as they come from a typed list -/
theorem wp_forV {β : Type} {t : Val → M Unit} {y : M Flow} {ys : List β} {Q : Flow → Mem → Prop} (v : β → Val) (I : List β → Mem → Prop) (h0 : I [] m)
    (hs : ∀ d x r m, ys = d ++ x :: r → I d m → Wp k (t (v x)) m fun _ m1 => Wp k y m1 fun f m2 => match f with
      | .nx => I (d ++ [x]) m2
      | .ct => I (d ++ [x]) m2
      | .bk => Q .nx m2
      | .rt r => Q (.rt r) m2)
    (hd : ∀ m, I ys m → Q .nx m) : Wp k (forL t y (ys.map v)) m Q := by
  have go : ∀ (r d : List β) (m : Mem), ys = d ++ r → I d m → Wp k (forL t y (r.map v)) m Q := by
    intro r
    induction r with
    | nil =>
      intro d m e i
      rw [List.append_nil] at e
      subst e
      exact wp_ret.mpr (hd m i)
    | cons x r ih =>
      intro d m e i
      have := hs d x r m e i
      show Wp k (bnd (t (v x)) fun _ => bnd y fun f => match f with
        | .nx => forL t y (r.map v)
        | .ct => forL t y (r.map v)
        | .bk => ret .nx
        | .rt r => ret (.rt r)) m Q
      rw [wp_bnd]
      refine this.mono fun _ m1 q => ?_
      rw [wp_bnd]
      refine q.mono fun f m2 q => ?_
      cases f with
      | nx => exact ih (d ++ [x]) m2 (by rw [e]; simp) q
      | ct => exact ih (d ++ [x]) m2 (by rw [e]; simp) q
      | bk => exact wp_ret.mpr q
      | rt r => exact wp_ret.mpr q
  exact go ys [] m rfl h0
/-! comprehensions over one name -/
theorem wipe1 {i : Nat} {e : Env} : wipeE e [i] = e.set i .no := rfl
theorem back1 {i : Nat} {e0 e : Env} : backE e0 e [i] = e.set i (e0.getD i .no) := rfl
theorem set_back {i : Nat} {e : Env} {s : Slot} : (e.set i s).set i (e.getD i .no) = e := by
  rw [List.set_set]
  apply List.ext_getElem?
  intro j
  rw [List.getElem?_set]
  by_cases h : i = j
  · subst h
    by_cases hl : i < e.length
    · simp [hl, List.getD]
    · simp [hl]
  · simp [h]
/-- the elements and the test look only -/
theorem wp_comp1 {i : Nat} {y : M Bool} {c : M Res} {β : Type} {xs : List β} {Q : Res → Mem → Prop} (v : β → Val) (p : β → Bool) (f : β → Val) (s0 : Slot) (h0 : m.env[i]? = some s0) (hi : s0.idle = true)
    (hy : ∀ x ∈ xs, y k ⟨m.stk, m.env.set i (.val (v x)), m.objs⟩ = some (.ok (p x), ⟨m.stk, m.env.set i (.val (v x)), m.objs⟩))
    (hc : ∀ x ∈ xs, p x = true → ∃ r : Res, r.fz = f x ∧ c k ⟨m.stk, m.env.set i (.val (v x)), m.objs⟩ = some (.ok r, ⟨m.stk, m.env.set i (.val (v x)), m.objs⟩)) (hl : xs.length ≤ lim) (q : Q (.new (.lst ((xs.filter p).map f))) m) : Wp k (compR [i] (Tgt.put (.name i)) y c (xs.map v)) m Q := by
  have hlen : i < m.env.length := (List.getElem?_eq_some_iff.mp h0).1
  have go : ∀ (r d : List β) (acc : List Val) (s : Slot), xs = d ++ r → s.locked = false → acc.length ≤ d.length → ∃ s', s'.locked = false ∧ compL [i] (Tgt.put (.name i)) y c acc (r.map v) k ⟨m.stk, m.env.set i s, m.objs⟩ = some (.ok (acc ++ (r.filter p).map f), ⟨m.stk, m.env.set i s', m.objs⟩) := by
    intro r
    induction r with
    | nil =>
      intro d acc s e hs ha
      refine ⟨.no, rfl, ?_⟩
      show bnd (wipeM [i]) (fun _ => ret acc) k _ = _
      simp [bnd, wipeM, wipe1, List.getD, hlen, hs, ret]
    | cons x r ih =>
      intro d acc s e hs ha
      have hx : x ∈ xs := by rw [e]; simp
      have w : ∀ (F : Unit → M (List Val)), bnd (wipeM [i]) F k ⟨m.stk, m.env.set i s, m.objs⟩ = F () k ⟨m.stk, m.env.set i .no, m.objs⟩ := fun F => by simp [bnd, wipeM, wipe1, List.getD, hlen, hs]
      have tp : ∀ (F : Unit → M (List Val)), bnd (Tgt.put (.name i) (v x)) F k ⟨m.stk, m.env.set i .no, m.objs⟩ = F () k ⟨m.stk, m.env.set i (.val (v x)), m.objs⟩ := fun F => by
        have e1 : Tgt.put (.name i) (v x) k ⟨m.stk, m.env.set i .no, m.objs⟩ = some (.ok (), ⟨m.stk, m.env.set i (.val (v x)), m.objs⟩) := by
          show setSlot i (.val (v x)) k _ = _
          simp [setSlot, hlen, Slot.locked]
        simp only [bnd, e1]
      rw [List.map_cons]
      unfold compL
      rw [w, tp]
      have hyx := hy x hx
      cases hp : p x with
      | false =>
        rw [hp] at hyx
        obtain ⟨s', h1, h2⟩ := ih (d ++ [x]) acc (.val (v x)) (by rw [e]; simp) rfl (by simp; omega)
        refine ⟨s', h1, ?_⟩
        simp only [bnd, hyx, List.filter_cons, hp, Bool.false_eq_true, if_false]
        exact h2
      | true =>
        rw [hp] at hyx
        obtain ⟨re, hr1, hr2⟩ := hc x hx hp
        have hal : acc.length < lim := by
          have : d.length + 1 ≤ xs.length := by rw [e]; simp
          omega
        obtain ⟨s', h1, h2⟩ := ih (d ++ [x]) (acc ++ [f x]) (.val (v x)) (by rw [e]; simp) rfl (by simp; omega)
        refine ⟨s', h1, ?_⟩
        simp only [bnd, hyx, hr2, hr1, List.filter_cons, hp, if_true, hal, List.map_cons]
        rw [h2]
        simp
  obtain ⟨s', hs', h⟩ := go xs [] [] s0 rfl (by cases s0 <;> first | rfl | cases hi) (Nat.le_refl _)
  refine ⟨_, _, ?_, q⟩
  unfold compR
  have e0 : m.env.set i s0 = m.env := by
    apply List.ext_getElem?
    intro j
    rw [List.getElem?_set]
    by_cases hj : i = j
    · subst hj; rw [h0]; simp [hlen]
    · simp [hj]
  rw [e0] at h
  have h : compL [i] (Tgt.put (.name i)) y c [] (xs.map v) k m = some (.ok ((xs.filter p).map f), ⟨m.stk, m.env.set i s', m.objs⟩) := h
  have hid : ([i].all fun i => (m.env.getD i .no).idle) = true := by simp [List.getD, h0, hi]
  rw [if_pos hid, h]
  simp only [back1, set_back]
/-- .. where they may change the memory; I: the memory with the slot as it was -/
theorem wp_compG {β : Type} {i : Nat} {y : M Bool} {c : M Res} {xs : List β} {Q : Res → Mem → Prop} (v : β → Val) (s0 : Slot) (I : List β → List Val → Mem → Prop) (h0 : m.env[i]? = some s0) (hi : s0.idle = true) (hl : xs.length ≤ lim) (h1 : I [] [] m)
    (hI : ∀ d acc m', I d acc m' → m'.env[i]? = some s0)
    (hs : ∀ d x r acc m', xs = d ++ x :: r → I d acc m' → Wp k y ⟨m'.stk, m'.env.set i (.val (v x)), m'.objs⟩ fun b m1 => if b then Wp k c m1 fun r m2 => (m2.env.getD i .no).locked = false ∧ I (d ++ [x]) (acc ++ [r.fz]) ⟨m2.stk, m2.env.set i s0, m2.objs⟩ else (m1.env.getD i .no).locked = false ∧ I (d ++ [x]) acc ⟨m1.stk, m1.env.set i s0, m1.objs⟩)
    (q : ∀ acc m', I xs acc m' → Q (.new (.lst acc)) m') : Wp k (compR [i] (Tgt.put (.name i)) y c (xs.map v)) m Q := by
  have same : ∀ (e : Env), e[i]? = some s0 → e.set i s0 = e := fun e h => by
    apply List.ext_getElem?
    intro j
    rw [List.getElem?_set]
    by_cases hj : i = j
    · subst hj
      have hlen : i < e.length := (List.getElem?_eq_some_iff.mp h).1
      rw [h]
      simp [hlen]
    · simp [hj]
  have go : ∀ (r d : List β) (acc : List Val) (mm : Mem), xs = d ++ r → acc.length ≤ d.length → (mm.env.getD i .no).locked = false → I d acc ⟨mm.stk, mm.env.set i s0, mm.objs⟩ → ∃ acc' m', compL [i] (Tgt.put (.name i)) y c acc (r.map v) k mm = some (.ok acc', m') ∧ I xs acc' ⟨m'.stk, m'.env.set i s0, m'.objs⟩ := by
    intro r
    induction r with
    | nil =>
      intro d acc mm e ha hlk hI'
      rw [List.append_nil] at e
      subst e
      refine ⟨acc, ⟨mm.stk, mm.env.set i .no, mm.objs⟩, ?_, ?_⟩
      · show bnd (wipeM [i]) (fun _ => ret acc) k mm = _
        simp only [bnd, wipeM, wipe1, List.all_cons, List.all_nil, hlk, Bool.not_false, Bool.and_true, if_true, ret]
      · simp only [List.set_set]
        exact hI'
    | cons x r ih =>
      intro d acc mm e ha hlk hI'
      have hlen : i < mm.env.length := by
        have := hI d acc _ hI'
        have := (List.getElem?_eq_some_iff.mp this).1
        simpa using this
      have st := hs d x r acc _ e hI'
      simp only [List.set_set] at st
      rw [List.map_cons]
      unfold compL
      have w : ∀ (F : Unit → M (List Val)), bnd (wipeM [i]) F k mm = F () k ⟨mm.stk, mm.env.set i .no, mm.objs⟩ := fun F => by simp only [bnd, wipeM, wipe1, List.all_cons, List.all_nil, hlk, Bool.not_false, Bool.and_true, if_true]
      have tp : ∀ (F : Unit → M (List Val)), bnd (Tgt.put (.name i) (v x)) F k ⟨mm.stk, mm.env.set i .no, mm.objs⟩ = F () k ⟨mm.stk, mm.env.set i (.val (v x)), mm.objs⟩ := fun F => by
        have e1 : Tgt.put (.name i) (v x) k ⟨mm.stk, mm.env.set i .no, mm.objs⟩ = some (.ok (), ⟨mm.stk, mm.env.set i (.val (v x)), mm.objs⟩) := by
          show setSlot i (.val (v x)) k _ = _
          simp [setSlot, hlen, Slot.locked]
        simp only [bnd, e1]
      rw [w, tp]
      obtain ⟨b, m1, ey, st⟩ := st
      have hal : acc.length < lim := by
        have : d.length + 1 ≤ xs.length := by rw [e]; simp
        omega
      cases b with
      | false =>
        simp only [Bool.false_eq_true, if_false] at st
        obtain ⟨acc', m', h1, h2⟩ := ih (d ++ [x]) acc m1 (by rw [e]; simp) (by simp; omega) st.1 st.2
        refine ⟨acc', m', ?_, h2⟩
        simp only [bnd, ey, Bool.false_eq_true, if_false]
        exact h1
      | true =>
        simp only [if_true] at st
        obtain ⟨re, m2, ec, st1, st2⟩ := st
        obtain ⟨acc', m', h1, h2⟩ := ih (d ++ [x]) (acc ++ [re.fz]) m2 (by rw [e]; simp) (by simp; omega) st1 st2
        refine ⟨acc', m', ?_, h2⟩
        simp only [bnd, ey, ec, if_true, hal]
        exact h1
  have hlk0 : (m.env.getD i .no).locked = false := by
    rw [List.getD_eq_getElem?_getD, h0]
    cases s0 <;> first | rfl | cases hi
  obtain ⟨acc', m', h1', h2'⟩ := go xs [] [] m rfl (Nat.le_refl _) hlk0 (by rw [same _ h0]; exact h1)
  refine ⟨.new (.lst acc'), ⟨m'.stk, m'.env.set i s0, m'.objs⟩, ?_, q _ _ h2'⟩
  unfold compR
  have hid : ([i].all fun i => (m.env.getD i .no).idle) = true := by simp [List.getD, h0, hi]
  rw [if_pos hid, h1']
  have gd : m.env.getD i .no = s0 := by rw [List.getD_eq_getElem?_getD, h0]; rfl
  simp only [back1, gd]
theorem rangeL_map (lo : Int) : ∀ n : Nat, rangeL lo 1 n = (List.range n).map fun j : Nat => Val.int (lo + j) := by
  intro n
  apply List.ext_getElem?
  intro i
  by_cases h : i < n
  · rw [(rangeL_get n lo 1 i (.int (lo + i * 1))).mpr ⟨h, rfl⟩]
    simp [h]
  · rw [List.getElem?_eq_none (by rw [rangeL_len]; omega), List.getElem?_eq_none (by simp; omega)]
end
end Iv

/-! Iv: the tape that all laws draw from. -/
namespace Iv
open PySem L2

def irDraw : Sm := (.ife (.cmp .lt (.e (.sub (.n 0) (.e (.int 2)))) (.n 1))
  (.set 3 (.sub (.n 0) (.e (.int 0)))
  (.set 4 (.sub (.n 0) (.e (.int 1)))
  (.set 5 (.int 0)
  (.ife (.cmp .lt (.n 4) (.e (.fn1 .len (.n 3))))
  (.set 5 (.sub (.n 3) (.n 4))
  .nil)
  .nil
  (.ife (.cmp .lt (.n 5) (.e (.int 0)))
  (.set 5 (.bin .sub (.e (.bin .mul (.e (.neg (.e (.int 2)))) (.n 5))) (.e (.int 1)))
  .nil)
  .nil
  (.ife (.cmp .lt (.n 5) (.e (.bin .pow (.e (.int 10)) (.e (.int 9)))))
  (.set 5 (.bin .mod (.e (.fn1 .int (.e (.bin .add (.e (.bin .add (.e (.bin .mul (.n 5) (.e (.int 48271)))) (.e (.bin .mul (.n 4) (.e (.int 69621)))))) (.e (.int 12345)))))) (.e (.int 2147483647)))
  (.set 5 (.bin .mod (.e (.fn1 .int (.e (.bin .add (.e (.bin .add (.e (.bin .mul (.n 5) (.e (.int 16807)))) (.e (.bin .mul (.n 4) (.e (.int 39373)))))) (.e (.int 6789)))))) (.e (.int 2147483629)))
  .nil))
  .nil
  (.store 0 (.int 1) (.bin .add (.n 4) (.e (.int 1)))
  (.store 0 (.int 2) (.name 5)
  .nil))))))))
  .nil
  (.set 2 (.bin .mod (.e (.fn1 .int (.e (.sub (.n 0) (.e (.int 2)))))) (.n 1))
  (.store 0 (.int 2) (.bin .div (.e (.sub (.n 0) (.e (.int 2)))) (.n 1))
  (.retName 2 .nil))))
def tapeC (cells : List Int) (K s : Int) : Cell := .lst [.lst (cells.map .int), .int K, .int s]

section
variable {α : Type} {k : CallF} {m : Mem} {stk : List Env} {env : Env} {objs : List Obj} {d i : Nat} {c c' : Cell}
theorem look_set (h : (stk[d]?).bind (·[i]?) = some (.own c)) : ((stk.modify d (·.set i (.own c')))[d]?).bind (·[i]?) = some (.own c') := by
  cases e : stk[d]? with
  | none => rw [e] at h; cases h
  | some r =>
    rw [e] at h
    have hl := (List.getElem?_eq_some_iff.mp (show r[i]? = some (.own c) from h)).1
    rw [List.getElem?_modify, e]
    simp [hl]
theorem mod_mod {f g : Env → Env} : (stk.modify d f).modify d g = stk.modify d fun e => g (f e) := by
  apply List.ext_getElem?
  intro j
  rw [List.getElem?_modify, List.getElem?_modify, List.getElem?_modify]
  by_cases h : d = j
  · subst h; simp; rfl
  · simp [h]
/-- a def's call, from its body -/
theorem run_wp {prog : Prog} {id n l : Nat} {ir : Sm} {args : List Arg} {g : Glob} {Q : Res → Glob → Prop} (hp : prog id = some (defM n ir.M))
    (h : Wp (run prog l) ir.M ⟨g.stk, args.map Arg.slot ++ List.replicate (n - args.length) .no, g.objs⟩ fun f m' => match f with
      | .rt r => Q r ⟨m'.stk, m'.objs⟩
      | .nx => Q (.val .non) ⟨m'.stk, m'.objs⟩
      | _ => False) : ∃ r g', run prog (l + 1) id args g = some (.ok r, g') ∧ Q r g' := by
  obtain ⟨f, m', e, q⟩ := h
  have e2 : run prog (l + 1) id args g = defM n ir.M args (run prog l) g := by simp only [run, hp]
  rw [e2]
  unfold defM
  rw [e]
  cases f with
  | rt r => exact ⟨r, _, rfl, q⟩
  | nx => exact ⟨_, _, rfl, q⟩
  | bk => exact q.elim
  | ct => exact q.elim
end
theorem atV_nat {α : Type} (xs : List α) (j : Nat) : atV xs (j : Int) = xs[j]? := by
  unfold atV atI
  by_cases h : j < xs.length
  · have : ixN xs.length (j : Int) = some j := by unfold ixN; simp; omega
    rw [this]
    rfl
  · have : ixN xs.length (j : Int) = none := by unfold ixN; simp; omega
    rw [this]
    simp; omega

/-- the straight steps of a reading -/
theorem fz_val (v : Val) : (Res.val v).fz = v := rfl
theorem fz_new (c : Cell) : (Res.new c).fz = c.fz := rfl
theorem slot_val (v : Val) : (Res.val v).slot = .val v := rfl
theorem slot_new (c : Cell) : (Res.new c).slot = .own c := rfl
theorem seq_nil (x : M Flow) : andThen x .nil (Sm.M .nil) = x := rfl
theorem draw_ok {prog : Prog} {l id : Nat} {stk : List Env} {objs : List Obj} {d i : Nat} {cells : List Int} {K s many : Int} (hp : prog id = some (defM 6 irDraw.M)) (hs : (stk[d]?).bind (·[i]?) = some (.own (tapeC cells K s))) (hm : 0 < many) (hm2 : many < 1073741824) (hK : 0 ≤ K) :
    ∃ dg K' s', 0 ≤ dg ∧ dg < many ∧ 0 ≤ K' ∧ run prog (l + 1) id [.rf d i, .val (.int many)] ⟨stk, objs⟩ = some (.ok (.val (.int dg)), ⟨stk.modify d (·.set i (.own (tapeC cells K' s'))), objs⟩) := by
  have main := run_wp (prog := prog) (id := id) (n := 6) (l := l) (ir := irDraw) (args := [.rf d i, .val (.int many)]) (g := ⟨stk, objs⟩) (Q := fun r g' => ∃ dg K' s', 0 ≤ dg ∧ dg < many ∧ 0 ≤ K' ∧ r = .val (.int dg) ∧ g' = ⟨stk.modify d (·.set i (.own (tapeC cells K' s'))), objs⟩) hp ?_
  · obtain ⟨r, g', e, dg, K', s', h1, h2, h3, rfl, rfl⟩ := main
    exact ⟨dg, K', s', h1, h2, h3, e⟩
  show Wp (run prog l) irDraw.M ⟨stk, [.rf d i, .val (.int many), .no, .no, .no, .no], objs⟩ _
  generalize run prog l = k
  obtain ⟨tp, hT⟩ : ∃ tp : Cell → List Env, tp = fun c => stk.modify d (·.set i (.own c)) := ⟨_, rfl⟩
  have t1 : ∀ c, ((tp c)[d]?).bind (·[i]?) = some (.own c) := fun c => by rw [hT]; exact look_set hs
  have t2 : ∀ c c', (tp c).modify d (·.set i (.own c')) = tp c' := fun c c' => by
    rw [hT]
    simp only [mod_mod, List.set_set]
  have t0 : stk = tp (tapeC cells K s) := by
    rw [hT]
    apply List.ext_getElem?
    intro j
    rw [List.getElem?_modify]
    by_cases h : d = j
    · subst h
      cases e : stk[d]? with
      | none => rfl
      | some r =>
        rw [e] at hs
        have hl := List.getElem?_eq_some_iff.mp (show r[i]? = some (.own (tapeC cells K s)) from hs)
        simp only [if_true, Option.map_some, Functor.map]
        rw [← hl.2, List.set_getElem_self]
    · simp [h]
  have t3 : ∀ c, stk.modify d (·.set i (.own c)) = tp c := fun c => by rw [hT]
  simp only [t3]
  rw [t0]
  clear t0 t3 hT hs
  have pk : ∀ (K s : Int) (e : Env), peekE (tp (tapeC cells K s)) (.rf d i :: e) 0 = some (.lst [.lst (cells.map .int), .int K, .int s]) := by
    intro K s e
    show (match ((tp (tapeC cells K s))[d]?).bind (·[i]?) with
      | some (.own c) => some c.fz
      | some (.lock c) => some c.fz
      | some (.val v) => some v
      | _ => none) = _
    rw [t1]
    rfl
  have g0 : ∀ a b c : Val, atV [a, b, c] 0 = some a := fun a b c => by rfl
  have g1 : ∀ a b c : Val, atV [a, b, c] 1 = some b := fun a b c => by rfl
  have g2 : ∀ a b c : Val, atV [a, b, c] 2 = some c := fun a b c => by rfl
  have key : ∀ D : Flow → Mem → Prop, (∀ dg K' s' e, 0 ≤ dg → dg < many → 0 ≤ K' → D (.rt (.val (.int dg))) ⟨tp (tapeC cells K' s'), e, objs⟩) → Wp k irDraw.M ⟨tp (tapeC cells K s), [.rf d i, .val (.int many), .no, .no, .no, .no], objs⟩ D := by
    intro D hD
    have tail : ∀ (K1 s1 : Int) (a3 a4 a5 : Slot), 0 ≤ K1 → Wp k (Sm.M (.set 2 (.bin .mod (.e (.fn1 .int (.e (.sub (.n 0) (.e (.int 2)))))) (.n 1)) (.store 0 (.int 2) (.bin .div (.e (.sub (.n 0) (.e (.int 2)))) (.n 1)) (.retName 2 .nil)))) ⟨tp (tapeC cells K1 s1), [.rf d i, .val (.int many), .no, a3, a4, a5], objs⟩ D := by
      intro K1 s1 a3 a4 a5 hK1
      have p1 : ∀ e : Env, peekE (tp (tapeC cells K1 s1)) (.rf d i :: .val (.int many) :: e) 1 = some (.int many) := fun e => rfl
      have dv : divOk many = true := by
        simp only [divOk, decide_eq_true_eq]
        omega
      simp [Sm.M, andThen, wp_seq, asgM, wp_bnd, E.M, O.M, oBin, oUn, opd1, opd2, wp_lift, wp_peek, wp_ret, pk, p1, BOp.F, F1.F, indexS, fz_val, g2, bInt, opMod, opDiv, dv, doM, wp_setName, slot_val, List.set, Slot.locked, show many ≠ 0 by omega]
      refine wp_chg_rf (c := tapeC cells K1 s1) (c' := tapeC cells K1 (s1.fdiv many)) rfl (t1 _) rfl ?_
      rw [t2]
      show Wp k (bnd (nameR 2) fun r => ret (Flow.rt r)) _ _
      rw [wp_bnd]
      exact wp_nameR_val rfl (wp_ret.mpr (hD _ _ _ _ (Int.fmod_nonneg_of_pos _ hm) (Int.fmod_lt_of_pos _ hm) hK1))
    show Wp k (seqM (ifM (oCmp cLt (.e (oBin indexS (.n 0) (.e (ret (.val (.int 2)))))) (.n 1)) (Sm.M _) (ret .nx)) _) _ _
    rw [wp_seq, wp_if]
    have p1 : ∀ e : Env, peekE (tp (tapeC cells K s)) (.rf d i :: .val (.int many) :: e) 1 = some (.int many) := fun e => rfl
    simp only [oCmp, oBin, opd2, wp_bnd, wp_peek, pk, p1, wp_lift, wp_ret, fz_val, indexS, g2, Option.map_some, Option.some.injEq, exists_eq_left', cLt]
    by_cases hsm : s < many
    · rw [if_pos (by simpa using hsm)]
      have fin : ∀ (c : Int) (D : Flow → Mem → Prop), (∀ K1 s1 a4 a5, 0 ≤ K1 → D .nx ⟨tp (tapeC cells K1 s1), [.rf d i, .val (.int many), .no, .val (.lst (cells.map .int)), a4, a5], objs⟩) →
          Wp k (Sm.M (.store 0 (.int 1) (.bin .add (.n 4) (.e (.int 1))) (.store 0 (.int 2) (.name 5) .nil))) ⟨tp (tapeC cells K s), [.rf d i, .val (.int many), .no, .val (.lst (cells.map .int)), .val (.int K), .val (.int c)], objs⟩ D := by
        intro c D hD
        have p4 : peekE (tp (tapeC cells K s)) [.rf d i, .val (.int many), .no, .val (.lst (cells.map .int)), .val (.int K), .val (.int c)] 4 = some (.int K) := rfl
        simp [Sm.M, andThen, wp_seq, asgM, wp_bnd, E.M, O.M, oBin, opd2, wp_lift, wp_peek, wp_ret, pk, p4, BOp.F, fz_val, opAdd, doM]
        refine wp_chg_rf (c := tapeC cells K s) (c' := tapeC cells (K + 1) s) rfl (t1 _) rfl ?_
        rw [t2]
        simp [doM, wp_bnd, wp_ret, wp_nameC, nameE, fz_val, wp_peek, pk]
        refine wp_chg_rf (c := tapeC cells (K + 1) s) (c' := tapeC cells (K + 1) c) rfl (t1 _) rfl ?_
        rw [t2]
        exact hD (K + 1) c _ _ (by omega)
      have mid : ∀ (c : Int) (D : Flow → Mem → Prop), (∀ K1 s1 a4 a5, 0 ≤ K1 → D .nx ⟨tp (tapeC cells K1 s1), [.rf d i, .val (.int many), .no, .val (.lst (cells.map .int)), a4, a5], objs⟩) →
          Wp k (Sm.M (.ife (.cmp .lt (.n 5) (.e (.bin .pow (.e (.int 10)) (.e (.int 9)))))
          (.set 5 (.bin .mod (.e (.fn1 .int (.e (.bin .add (.e (.bin .add (.e (.bin .mul (.n 5) (.e (.int 48271)))) (.e (.bin .mul (.n 4) (.e (.int 69621)))))) (.e (.int 12345)))))) (.e (.int 2147483647)))
          (.set 5 (.bin .mod (.e (.fn1 .int (.e (.bin .add (.e (.bin .add (.e (.bin .mul (.n 5) (.e (.int 16807)))) (.e (.bin .mul (.n 4) (.e (.int 39373)))))) (.e (.int 6789)))))) (.e (.int 2147483629)))
          .nil)) .nil (.store 0 (.int 1) (.bin .add (.n 4) (.e (.int 1))) (.store 0 (.int 2) (.name 5) .nil)))) ⟨tp (tapeC cells K s), [.rf d i, .val (.int many), .no, .val (.lst (cells.map .int)), .val (.int K), .val (.int c)], objs⟩ D := by
        intro c D hD
        have m1 : mulOk 48271 = true := by decide
        have m2 : mulOk 69621 = true := by decide
        have m3 : mulOk 16807 = true := by decide
        have m4 : mulOk 39373 = true := by decide
        have pw : opPow (.int 10) (.int 9) = some (.val (.int 1000000000)) := by simp [opPow]
        show Wp k (seqM (ifM (T.M _) (Sm.M _) (ret .nx)) (Sm.M _)) _ _
        rw [wp_seq, wp_if]
        simp only [T.M, oCmp, E.M, O.M, oBin, opd2, wp_bnd, wp_lift, wp_peek, wp_ret, COp.F, BOp.F, fz_val, pw, Option.some.injEq, exists_eq_left']
        refine ⟨.int c, rfl, .int c, rfl, _, rfl, ?_⟩
        split
        · obtain ⟨D', hD'⟩ : ∃ D' : Flow → Mem → Prop, D' = fun f m' => (match f with
            | .nx => Wp k (Sm.M (.store 0 (.int 1) (.bin .add (.n 4) (.e (.int 1))) (.store 0 (.int 2) (.name 5) .nil))) m' D
            | f => D f m') := ⟨_, rfl⟩
          suffices h : Wp k (Sm.M (.set 5 (.bin .mod (.e (.fn1 .int (.e (.bin .add (.e (.bin .add (.e (.bin .mul (.n 5) (.e (.int 48271)))) (.e (.bin .mul (.n 4) (.e (.int 69621)))))) (.e (.int 12345)))))) (.e (.int 2147483647)))
              (.set 5 (.bin .mod (.e (.fn1 .int (.e (.bin .add (.e (.bin .add (.e (.bin .mul (.n 5) (.e (.int 16807)))) (.e (.bin .mul (.n 4) (.e (.int 39373)))))) (.e (.int 6789)))))) (.e (.int 2147483629))) .nil))) ⟨tp (tapeC cells K s), [.rf d i, .val (.int many), .no, .val (.lst (cells.map .int)), .val (.int K), .val (.int c)], objs⟩ D' by
            rw [hD'] at h
            exact h
          simp [Sm.M, andThen, wp_seq, asgM, wp_bnd, E.M, O.M, oBin, oUn, opd1, opd2, wp_lift, wp_peek, wp_ret, peekE, BOp.F, F1.F, fz_val, opMul, opAdd, opMod, bInt, m1, m2, m3, m4, doM, wp_setName, slot_val, Slot.locked]
          rw [hD']
          exact fin _ _ hD
        · exact fin _ _ hD
      have neg : ∀ (c : Int) (D : Flow → Mem → Prop), (∀ K1 s1 a4 a5, 0 ≤ K1 → D .nx ⟨tp (tapeC cells K1 s1), [.rf d i, .val (.int many), .no, .val (.lst (cells.map .int)), a4, a5], objs⟩) →
          Wp k (Sm.M (.ife (.cmp .lt (.n 5) (.e (.int 0))) (.set 5 (.bin .sub (.e (.bin .mul (.e (.neg (.e (.int 2)))) (.n 5))) (.e (.int 1))) .nil) .nil (.ife (.cmp .lt (.n 5) (.e (.bin .pow (.e (.int 10)) (.e (.int 9))))) (.set 5 (.bin .mod (.e (.fn1 .int (.e (.bin .add (.e (.bin .add (.e (.bin .mul (.n 5) (.e (.int 48271)))) (.e (.bin .mul (.n 4) (.e (.int 69621)))))) (.e (.int 12345)))))) (.e (.int 2147483647))) (.set 5 (.bin .mod (.e (.fn1 .int (.e (.bin .add (.e (.bin .add (.e (.bin .mul (.n 5) (.e (.int 16807)))) (.e (.bin .mul (.n 4) (.e (.int 39373)))))) (.e (.int 6789)))))) (.e (.int 2147483629))) .nil)) .nil (.store 0 (.int 1) (.bin .add (.n 4) (.e (.int 1))) (.store 0 (.int 2) (.name 5) .nil))))) ⟨tp (tapeC cells K s), [.rf d i, .val (.int many), .no, .val (.lst (cells.map .int)), .val (.int K), .val (.int c)], objs⟩ D := by
        intro c D hD
        have m1 : mulOk (-2) = true := by decide
        show Wp k (seqM (ifM (T.M _) (Sm.M _) (ret .nx)) (Sm.M _)) _ _
        rw [wp_seq, wp_if]
        simp only [T.M, oCmp, E.M, O.M, opd2, wp_bnd, wp_lift, wp_peek, wp_ret, COp.F, fz_val]
        refine ⟨.int c, rfl, .int c, rfl, _, rfl, ?_⟩
        split
        · obtain ⟨D', hD'⟩ : ∃ D' : Flow → Mem → Prop, D' = fun f m' => (match f with
            | .nx => Wp k (Sm.M (.ife (.cmp .lt (.n 5) (.e (.bin .pow (.e (.int 10)) (.e (.int 9))))) (.set 5 (.bin .mod (.e (.fn1 .int (.e (.bin .add (.e (.bin .add (.e (.bin .mul (.n 5) (.e (.int 48271)))) (.e (.bin .mul (.n 4) (.e (.int 69621)))))) (.e (.int 12345)))))) (.e (.int 2147483647))) (.set 5 (.bin .mod (.e (.fn1 .int (.e (.bin .add (.e (.bin .add (.e (.bin .mul (.n 5) (.e (.int 16807)))) (.e (.bin .mul (.n 4) (.e (.int 39373)))))) (.e (.int 6789)))))) (.e (.int 2147483629))) .nil)) .nil (.store 0 (.int 1) (.bin .add (.n 4) (.e (.int 1))) (.store 0 (.int 2) (.name 5) .nil)))) m' D
            | f => D f m') := ⟨_, rfl⟩
          suffices h : Wp k (Sm.M (.set 5 (.bin .sub (.e (.bin .mul (.e (.neg (.e (.int 2)))) (.n 5))) (.e (.int 1))) .nil)) ⟨tp (tapeC cells K s), [.rf d i, .val (.int many), .no, .val (.lst (cells.map .int)), .val (.int K), .val (.int c)], objs⟩ D' by
            rw [hD'] at h
            exact h
          simp [Sm.M, andThen, wp_seq, asgM, wp_bnd, E.M, O.M, oBin, oUn, opd1, opd2, wp_lift, wp_peek, wp_ret, peekE, BOp.F, fz_val, opMul, opSub, opNeg, m1, doM, wp_setName, slot_val, Slot.locked]
          rw [hD']
          exact mid _ _ hD
        · exact mid _ _ hD
      show Wp k (seqM (asgM 3 _) (seqM (asgM 4 _) (seqM (asgM 5 _) (seqM (ifM (T.M _) (Sm.M _) (ret .nx)) (Sm.M (.ife (.cmp .lt (.n 5) (.e (.int 0))) (.set 5 (.bin .sub (.e (.bin .mul (.e (.neg (.e (.int 2)))) (.n 5))) (.e (.int 1))) .nil) .nil (.ife (.cmp .lt (.n 5) (.e (.bin .pow (.e (.int 10)) (.e (.int 9))))) (.set 5 (.bin .mod (.e (.fn1 .int (.e (.bin .add (.e (.bin .add (.e (.bin .mul (.n 5) (.e (.int 48271)))) (.e (.bin .mul (.n 4) (.e (.int 69621)))))) (.e (.int 12345)))))) (.e (.int 2147483647))) (.set 5 (.bin .mod (.e (.fn1 .int (.e (.bin .add (.e (.bin .add (.e (.bin .mul (.n 5) (.e (.int 16807)))) (.e (.bin .mul (.n 4) (.e (.int 39373)))))) (.e (.int 6789)))))) (.e (.int 2147483629))) .nil)) .nil (.store 0 (.int 1) (.bin .add (.n 4) (.e (.int 1))) (.store 0 (.int 2) (.name 5) .nil))))))))) _ _
      obtain ⟨D', hD'⟩ : ∃ D' : Flow → Mem → Prop, D' = fun f m' => (match f with
        | .nx => Wp k (Sm.M (.set 2 (.bin .mod (.e (.fn1 .int (.e (.sub (.n 0) (.e (.int 2)))))) (.n 1)) (.store 0 (.int 2) (.bin .div (.e (.sub (.n 0) (.e (.int 2)))) (.n 1)) (.retName 2 .nil)))) m' D
        | f => D f m') := ⟨_, rfl⟩
      have hDn : ∀ K1 s1 a4 a5, 0 ≤ K1 → D' .nx ⟨tp (tapeC cells K1 s1), [.rf d i, .val (.int many), .no, .val (.lst (cells.map .int)), a4, a5], objs⟩ := fun K1 s1 a4 a5 h => by
        rw [hD']
        exact tail K1 s1 _ _ _ h
      suffices h : Wp k (seqM (asgM 3 (E.M (.sub (.n 0) (.e (.int 0))))) (seqM (asgM 4 (E.M (.sub (.n 0) (.e (.int 1))))) (seqM (asgM 5 (E.M (.int 0))) (seqM (ifM (T.M (.cmp .lt (.n 4) (.e (.fn1 .len (.n 3))))) (Sm.M (.set 5 (.sub (.n 3) (.n 4)) .nil)) (ret .nx)) (Sm.M (.ife (.cmp .lt (.n 5) (.e (.int 0))) (.set 5 (.bin .sub (.e (.bin .mul (.e (.neg (.e (.int 2)))) (.n 5))) (.e (.int 1))) .nil) .nil (.ife (.cmp .lt (.n 5) (.e (.bin .pow (.e (.int 10)) (.e (.int 9))))) (.set 5 (.bin .mod (.e (.fn1 .int (.e (.bin .add (.e (.bin .add (.e (.bin .mul (.n 5) (.e (.int 48271)))) (.e (.bin .mul (.n 4) (.e (.int 69621)))))) (.e (.int 12345)))))) (.e (.int 2147483647))) (.set 5 (.bin .mod (.e (.fn1 .int (.e (.bin .add (.e (.bin .add (.e (.bin .mul (.n 5) (.e (.int 16807)))) (.e (.bin .mul (.n 4) (.e (.int 39373)))))) (.e (.int 6789)))))) (.e (.int 2147483629))) .nil)) .nil (.store 0 (.int 1) (.bin .add (.n 4) (.e (.int 1))) (.store 0 (.int 2) (.name 5) .nil))))))))) ⟨tp (tapeC cells K s), [.rf d i, .val (.int many), .no, .no, .no, .no], objs⟩ D' by
        rw [hD'] at h
        exact h
      have nn : ∀ c : Int, Wp k (Sm.M (.ife (.cmp .lt (.n 5) (.e (.int 0))) (.set 5 (.bin .sub (.e (.bin .mul (.e (.neg (.e (.int 2)))) (.n 5))) (.e (.int 1))) .nil) .nil (.ife (.cmp .lt (.n 5) (.e (.bin .pow (.e (.int 10)) (.e (.int 9))))) (.set 5 (.bin .mod (.e (.fn1 .int (.e (.bin .add (.e (.bin .add (.e (.bin .mul (.n 5) (.e (.int 48271)))) (.e (.bin .mul (.n 4) (.e (.int 69621)))))) (.e (.int 12345)))))) (.e (.int 2147483647))) (.set 5 (.bin .mod (.e (.fn1 .int (.e (.bin .add (.e (.bin .add (.e (.bin .mul (.n 5) (.e (.int 16807)))) (.e (.bin .mul (.n 4) (.e (.int 39373)))))) (.e (.int 6789)))))) (.e (.int 2147483629))) .nil)) .nil (.store 0 (.int 1) (.bin .add (.n 4) (.e (.int 1))) (.store 0 (.int 2) (.name 5) .nil))))) ⟨tp (tapeC cells K s), [.rf d i, .val (.int many), .no, .val (.lst (cells.map .int)), .val (.int K), .val (.int c)], objs⟩ D' := fun c => neg c D' hDn
      generalize Sm.M (.ife (.cmp .lt (.n 5) (.e (.int 0))) (.set 5 (.bin .sub (.e (.bin .mul (.e (.neg (.e (.int 2)))) (.n 5))) (.e (.int 1))) .nil) .nil (.ife (.cmp .lt (.n 5) (.e (.bin .pow (.e (.int 10)) (.e (.int 9))))) (.set 5 (.bin .mod (.e (.fn1 .int (.e (.bin .add (.e (.bin .add (.e (.bin .mul (.n 5) (.e (.int 48271)))) (.e (.bin .mul (.n 4) (.e (.int 69621)))))) (.e (.int 12345)))))) (.e (.int 2147483647))) (.set 5 (.bin .mod (.e (.fn1 .int (.e (.bin .add (.e (.bin .add (.e (.bin .mul (.n 5) (.e (.int 16807)))) (.e (.bin .mul (.n 4) (.e (.int 39373)))))) (.e (.int 6789)))))) (.e (.int 2147483629))) .nil)) .nil (.store 0 (.int 1) (.bin .add (.n 4) (.e (.int 1))) (.store 0 (.int 2) (.name 5) .nil)))) = rest at nn ⊢
      simp only [wp_seq, asgM, wp_bnd, E.M, O.M, oBin, opd2, wp_lift, wp_peek, wp_ret, pk, indexS, fz_val, g0, g1, Option.map_some, Option.some.injEq, exists_eq_left', doM, wp_setName, slot_val]
      refine ⟨_, rfl, rfl, _, pk _ _ _, _, pk _ _ _, _, rfl, _, rfl, rfl, _, rfl, rfl, ?_⟩
      rw [wp_if]
      simp only [T.M, oCmp, E.M, O.M, oUn, opd1, opd2, wp_bnd, wp_lift, wp_peek, wp_ret, COp.F, F1.F, fz_val]
      refine ⟨.int K, rfl, .lst (cells.map .int), rfl, _, rfl, .int K, rfl, _, rfl, ?_⟩
      split
      · rename_i hlt
        have hlt : K < cells.length := by simpa using hlt
        obtain ⟨j, rfl⟩ : ∃ j : Nat, K = j := ⟨K.toNat, by omega⟩
        have hj : j < cells.length := by omega
        have ix : indexS (.lst (cells.map .int)) (.int j) = some (.val (.int cells[j])) := by
          show (atV (cells.map Val.int) (j : Int)).map Res.val = _
          rw [atV_nat]
          simp [hj]
        simp only [Sm.M, andThen, asgM, wp_bnd, E.M, O.M, oBin, opd2, wp_lift, wp_peek, wp_ret, fz_val, doM, wp_setName, slot_val]
        exact ⟨_, rfl, _, rfl, _, ix, _, rfl, rfl, nn _⟩
      · exact nn 0
    · rw [if_neg (by simpa using hsm)]
      exact tail K s _ _ _ hK
  exact key _ fun dg K' s' e h1 h2 h3 => ⟨dg, K', s', h1, h2, h3, rfl, rfl⟩
/-- a draw in a frame whose own tape it is -/
theorem wp_draw {prog : Prog} {l id i : Nat} {m : Mem} {cells : List Int} {K s many : Int} {Q : Res → Mem → Prop} (hp : prog id = some (defM 6 irDraw.M)) (he : m.env[i]? = some (.own (tapeC cells K s))) (hm : 0 < many) (hm2 : many < 1073741824) (hK : 0 ≤ K)
    (q : ∀ dg K' s', 0 ≤ dg → dg < many → 0 ≤ K' → Q (.val (.int dg)) ⟨m.stk, m.env.set i (.own (tapeC cells K' s')), m.objs⟩) : Wp (run prog (l + 1)) (callM id [.rf m.stk.length i, .val (.int many)]) m Q := by
  have hs : ((m.stk ++ [m.env])[m.stk.length]?).bind (·[i]?) = some (.own (tapeC cells K s)) := by simp [he]
  obtain ⟨dg, K', s', h1, h2, h3, e⟩ := draw_ok (l := l) (objs := m.objs) hp hs hm hm2 hK
  refine wp_call e (e' := m.env.set i (.own (tapeC cells K' s'))) ?_ ?_
  · simp [List.getElem?_modify]
  · have : (List.modify (m.stk ++ [m.env]) m.stk.length fun x => List.set x i (.own (tapeC cells K' s'))).take m.stk.length = m.stk := by
      apply List.ext_getElem?
      intro j
      rw [List.getElem?_take]
      by_cases hj : j < m.stk.length
      · have hne : ¬ m.stk.length = j := by omega
        rw [if_pos hj, List.getElem?_modify, List.getElem?_append_left hj]
        simp [hne]
      · rw [if_neg hj, List.getElem?_eq_none (by omega)]
    rw [this]
    exact q dg K' s' h1 h2 h3
theorem wp_drawArgs {k : CallF} {id i : Nat} {m : Mem} {x : M Res} {cells : List Int} {K s : Int} {Q : Res → Mem → Prop} (he : m.env[i]? = some (.own (tapeC cells K s))) (q : Wp k x m fun r m' => Wp k (callM id [.rf m.stk.length i, .val r.fz]) m' Q) : Wp k (bnd (argL [argR i, argC x]) (callM id)) m Q := by
  have e : argR i k m = some (.ok (.rf m.stk.length i), m) := by
    unfold argR
    rw [he]
  rw [wp_bnd]
  show Wp k (bnd (argR i) fun a => bnd (bnd (argC x) fun a => bnd (ret []) fun as => ret (a :: as)) fun as => ret (a :: as)) m _
  rw [wp_bnd]
  refine ⟨_, _, e, ?_⟩
  show Wp k (bnd (bnd (argC x) fun a => bnd (ret []) fun as => ret (a :: as)) fun as => ret (_ :: as)) m _
  rw [wp_bnd, wp_bnd]
  unfold argC
  rw [wp_bnd]
  refine q.mono fun r m' q => ?_
  simp only [wp_ret, wp_bnd]
  exact q
end Iv

namespace Iv
open PySem L2 PySem.Spec PyProof.Rows
set_option maxHeartbeats 4000000
/-! ### the text and its reading -/
def top (i : Nat) : Stmt := PySem.Challenge.pw_commonground_k85_hitting_sets.main.body.getD i (.Pass ⟨0, 0, 0, 0⟩)
/-- is_within: 0 first, 1 second, 2 member -/
def ir0 : Sm := (.ret (.fn1 .all (.e (.comp (.items (.name 0)) [("member", 2)] (.name 2) (.cmp .isIn (.n 2) (.n 1))))) .nil)
abbrev s0 : Stmt := top 1
def N0 : List Str := ["first", "second", "member"]
def P0 : List Str := ["first", "second"]
/-- smallest_sets: 0 sets, 1 different, 2 found, 3 one, 4 other -/
def ir1 : Sm := (.set 1 (.sortedSet (.n 0))
  (.set 2 (.lst .nil)
  (.loop (.name 3) (.items (.name 1))
  (.ife (.not (.bool (.fn1 .any (.e (.comp (.items (.name 1)) [("other", 4)] (.name 4) (.andV (.cmp .ne (.n 4) (.n 3)) (.one (.call 0 (.val (.name 4) (.val (.name 3) .nil))))))))))
  (.expr (.mth1 2 .append (.name 3))
  .nil)
  .nil
  .nil)
  (.retName 2 .nil))))
abbrev s1 : Stmt := top 2
def N1 : List Str := ["sets", "different", "found", "one", "other"]
def P1 : List Str := ["sets"]
/-- hitting_sets: 0 sets, 1 found, 2 one, 3 longer, 4 hit, 5 member -/
def ir2 : Sm := (.set 1 (.lst (.cons (.tup .nil) .nil))
  (.loop (.name 2) (.items (.name 0))
  (.set 3 (.lst .nil)
  (.loop (.name 4) (.items (.name 1))
  (.ife (.bool (.fn1 .any (.e (.comp (.items (.name 2)) [("member", 5)] (.name 5) (.cmp .isIn (.n 5) (.n 4))))))
  (.expr (.mth1 3 .append (.name 4))
  .nil)
  (.loop (.name 5) (.items (.name 2))
  (.expr (.mth1 3 .append (.fn1 .tuple (.e (.fn1 .sorted (.e (.bin .add (.n 4) (.e (.tup (.cons (.name 5) .nil)))))))))
  .nil)
  .nil)
  .nil)
  (.set 1 (.call 1 (.val (.name 3) .nil))
  .nil)))
  (.retName 1 .nil)))
abbrev s2 : Stmt := top 3
def N2 : List Str := ["sets", "found", "one", "longer", "hit", "member"]
def P2 : List Str := ["sets"]
/-- _law_draw: 0 _law_tape_here, 1 _law_many, 2 _law_digit, 3 _law_cells, 4 _law_k, 5 _law_cell -/
def ir3 : Sm := (.ife (.cmp .lt (.e (.sub (.n 0) (.e (.int 2)))) (.n 1))
  (.set 3 (.sub (.n 0) (.e (.int 0)))
  (.set 4 (.sub (.n 0) (.e (.int 1)))
  (.set 5 (.int 0)
  (.ife (.cmp .lt (.n 4) (.e (.fn1 .len (.n 3))))
  (.set 5 (.sub (.n 3) (.n 4))
  .nil)
  .nil
  (.ife (.cmp .lt (.n 5) (.e (.int 0)))
  (.set 5 (.bin .sub (.e (.bin .mul (.e (.neg (.e (.int 2)))) (.n 5))) (.e (.int 1)))
  .nil)
  .nil
  (.ife (.cmp .lt (.n 5) (.e (.bin .pow (.e (.int 10)) (.e (.int 9)))))
  (.set 5 (.bin .mod (.e (.fn1 .int (.e (.bin .add (.e (.bin .add (.e (.bin .mul (.n 5) (.e (.int 48271)))) (.e (.bin .mul (.n 4) (.e (.int 69621)))))) (.e (.int 12345)))))) (.e (.int 2147483647)))
  (.set 5 (.bin .mod (.e (.fn1 .int (.e (.bin .add (.e (.bin .add (.e (.bin .mul (.n 5) (.e (.int 16807)))) (.e (.bin .mul (.n 4) (.e (.int 39373)))))) (.e (.int 6789)))))) (.e (.int 2147483629)))
  .nil))
  .nil
  (.store 0 (.int 1) (.bin .add (.n 4) (.e (.int 1)))
  (.store 0 (.int 2) (.name 5)
  .nil))))))))
  .nil
  (.set 2 (.bin .mod (.e (.fn1 .int (.e (.sub (.n 0) (.e (.int 2)))))) (.n 1))
  (.store 0 (.int 2) (.bin .div (.e (.sub (.n 0) (.e (.int 2)))) (.n 1))
  (.retName 2 .nil))))
abbrev s3 : Stmt := top 5
def N3 : List Str := ["_law_tape_here", "_law_many", "_law_digit", "_law_cells", "_law_k", "_law_cell"]
def P3 : List Str := ["_law_tape_here", "_law_many"]
/-- _law_tape: 0 _law_script -/
def ir4 : Sm := (.ret (.lst (.cons (.fn1 .list (.n 0)) (.cons (.int 0) (.cons (.int 0) .nil)))) .nil)
abbrev s4 : Stmt := top 6
def N4 : List Str := ["_law_script"]
def P4 : List Str := ["_law_script"]
/-- _law_subsets: 0 _law_members, 1 _law_found, 2 _law_member, 3 _law_one -/
def ir5 : Sm := (.set 1 (.lst (.cons (.tup .nil) .nil))
  (.loop (.name 2) (.items (.name 0))
  (.set 1 (.bin .add (.n 1) (.e (.comp (.items (.name 1)) [("_law_one", 3)] (.name 3) (.bin .add (.n 3) (.e (.tup (.cons (.name 2) .nil)))))))
  .nil)
  (.retName 1 .nil)))
abbrev s5 : Stmt := top 7
def N5 : List Str := ["_law_members", "_law_found", "_law_member", "_law_one"]
def P5 : List Str := ["_law_members"]
/-- _law_meets: 0 _law_first, 1 _law_second, 2 _law_member -/
def ir6 : Sm := (.ret (.cmp .isIn (.e (.bool true)) (.e (.comp (.items (.name 0)) [("_law_member", 2)] (.name 2) (.cmp .isIn (.n 2) (.n 1))))) .nil)
abbrev s6 : Stmt := top 8
def N6 : List Str := ["_law_first", "_law_second", "_law_member"]
def P6 : List Str := ["_law_first", "_law_second"]
/-- _law_within: 0 _law_first, 1 _law_second, 2 _law_member -/
def ir7 : Sm := (.ret (.cmp .notIn (.e (.bool false)) (.e (.comp (.items (.name 0)) [("_law_member", 2)] (.name 2) (.cmp .isIn (.n 2) (.n 1))))) .nil)
abbrev s7 : Stmt := top 9
def N7 : List Str := ["_law_first", "_law_second", "_law_member"]
def P7 : List Str := ["_law_first", "_law_second"]
/-- _law_smallest: 0 _law_sets, 1 _law_found, 2 _law_one, 3 _law_other -/
def ir8 : Sm := (.set 1 (.lst .nil)
  (.loop (.name 2) (.items (.fn1 .sorted (.n 0)))
  (.ife (.and (.cmp .notIn (.n 2) (.n 1)) (.one (.cmp .notIn (.e (.bool true)) (.e (.comp (.items (.name 0)) [("_law_other", 3)] (.name 3) (.andV (.cmp .ne (.n 3) (.n 2)) (.one (.call 7 (.val (.name 3) (.val (.name 2) .nil))))))))))
  (.expr (.mth1 1 .append (.name 2))
  .nil)
  .nil
  .nil)
  (.retName 1 .nil)))
abbrev s8 : Stmt := top 10
def N8 : List Str := ["_law_sets", "_law_found", "_law_one", "_law_other"]
def P8 : List Str := ["_law_sets"]
/-- law: 0 _law_script, 1 _law_tape_here, 2 _law_members, 3 _law_k, 4 _law_sets, 5 _law_before, 6 _law_hits, 7 _law_one, 8 _law_told, 9 _law_size, 10 _law_member, 11 _law_other -/
def ir9 : Sm := (.set 1 (.call 4 (.val (.name 0) .nil))
  (.set 2 (.lst .nil)
  (.loop (.name 3) (.range1 (.bin .add (.e (.int 1)) (.e (.call 3 (.rf 1 (.val (.int 6) .nil))))))
  (.expr (.mth1 2 .append (.bin .add (.e (.bin .sub (.e (.bin .mul (.n 3) (.e (.int 11)))) (.e (.int 20)))) (.e (.call 3 (.rf 1 (.val (.int 11) .nil))))))
  .nil)
  (.set 4 (.lst .nil)
  (.loop (.name 3) (.range1 (.call 3 (.rf 1 (.val (.int 7) .nil))))
  (.set 9 (.call 3 (.rf 1 (.val (.int 12) .nil)))
  (.set 7 (.compIf (.items (.name 2)) [("_law_member", 10)] (.name 10) (.cmp .eq (.e (.call 3 (.rf 1 (.val (.int 3) .nil)))) (.e (.int 0))) (.name 10))
  (.ife (.cmp .eq (.n 9) (.e (.int 0)))
  (.set 7 (.lst .nil)
  .nil)
  (.ife (.and (.cmp .gt (.n 9) (.e (.int 2))) (.one (.cmp .eq (.e (.fn1 .len (.n 7))) (.e (.int 0)))))
  (.set 7 (.lst (.cons (.sub (.n 2) (.e (.call 3 (.rf 1 (.val (.fn1 .len (.n 2)) .nil))))) .nil))
  .nil)
  .nil
  .nil)
  (.expr (.mth1 4 .append (.fn1 .tuple (.n 7)))
  .nil))))
  (.set 5 (.fn1 .repr (.n 4))
  (.set 6 (.lst .nil)
  (.loop (.name 7) (.items (.call 5 (.val (.name 2) .nil)))
  (.ife (.cmp .notIn (.e (.bool false)) (.e (.comp (.items (.name 4)) [("_law_other", 11)] (.name 11) (.call 6 (.val (.name 7) (.val (.name 11) .nil))))))
  (.expr (.mth1 6 .append (.name 7))
  .nil)
  .nil
  .nil)
  (.set 8 (.call 2 (.val (.name 4) .nil))
  (.ife (.cmp .ne (.e (.fn1 .repr (.n 8))) (.e (.fn1 .repr (.e (.call 8 (.val (.name 6) .nil))))))
  (.ret (.bool false) .nil)
  .nil
  (.ife (.cmp .ne (.e (.fn1 .repr (.e (.call 1 (.val (.name 4) .nil))))) (.e (.fn1 .repr (.e (.call 8 (.val (.name 4) .nil))))))
  (.ret (.bool false) .nil)
  .nil
  (.ret (.andV (.cmp .eq (.e (.fn1 .repr (.e (.call 2 (.val (.name 8) .nil))))) (.e (.fn1 .repr (.e (.call 8 (.val (.name 4) .nil)))))) (.one (.cmp .eq (.e (.fn1 .repr (.n 4))) (.n 5)))) .nil))))))))))))
abbrev s9 : Stmt := top 11
def N9 : List Str := ["_law_script", "_law_tape_here", "_law_members", "_law_k", "_law_sets", "_law_before", "_law_hits", "_law_one", "_law_told", "_law_size", "_law_member", "_law_other"]
def P9 : List Str := ["_law_script"]
def PCx : PC := ⟨[("is_within", 0, 2), ("smallest_sets", 1, 1), ("hitting_sets", 2, 1), ("_law_draw", 3, 2), ("_law_tape", 4, 1), ("_law_subsets", 5, 1), ("_law_meets", 6, 2), ("_law_within", 7, 2), ("_law_smallest", 8, 1), ("law", 9, 1)], ["all", "any", "int", "len", "list", "range", "repr", "set", "sorted", "tuple"]⟩
noncomputable def prog : Prog := fun i => match i with
  | 0 => some (defM 3 ir0.M)
  | 1 => some (defM 5 ir1.M)
  | 2 => some (defM 6 ir2.M)
  | 3 => some (defM 6 ir3.M)
  | 4 => some (defM 1 ir4.M)
  | 5 => some (defM 4 ir5.M)
  | 6 => some (defM 3 ir6.M)
  | 7 => some (defM 3 ir7.M)
  | 8 => some (defM 4 ir8.M)
  | 9 => some (defM 12 ir9.M)
  | _ => none
theorem sc0 : FnScope N0 P0 (defScope s0) := ⟨rfl, rfl, rfl, by decide +kernel, rfl, by decide +kernel, by decide +kernel⟩
theorem ck0 : ir0.chk PCx ⟨N0, defScope s0, fun _ => true⟩ (defBody s0) = true := by decide +kernel
theorem sc1 : FnScope N1 P1 (defScope s1) := ⟨rfl, rfl, rfl, by decide +kernel, rfl, by decide +kernel, by decide +kernel⟩
theorem ck1 : ir1.chk PCx ⟨N1, defScope s1, fun _ => true⟩ (defBody s1) = true := by decide +kernel
theorem sc2 : FnScope N2 P2 (defScope s2) := ⟨rfl, rfl, rfl, by decide +kernel, rfl, by decide +kernel, by decide +kernel⟩
theorem ck2 : ir2.chk PCx ⟨N2, defScope s2, fun _ => true⟩ (defBody s2) = true := by decide +kernel
theorem sc3 : FnScope N3 P3 (defScope s3) := ⟨rfl, rfl, rfl, by decide +kernel, rfl, by decide +kernel, by decide +kernel⟩
theorem ck3 : ir3.chk PCx ⟨N3, defScope s3, fun _ => true⟩ (defBody s3) = true := by decide +kernel
theorem sc4 : FnScope N4 P4 (defScope s4) := ⟨rfl, rfl, rfl, by decide +kernel, rfl, by decide +kernel, by decide +kernel⟩
theorem ck4 : ir4.chk PCx ⟨N4, defScope s4, fun _ => true⟩ (defBody s4) = true := by decide +kernel
theorem sc5 : FnScope N5 P5 (defScope s5) := ⟨rfl, rfl, rfl, by decide +kernel, rfl, by decide +kernel, by decide +kernel⟩
theorem ck5 : ir5.chk PCx ⟨N5, defScope s5, fun _ => true⟩ (defBody s5) = true := by decide +kernel
theorem sc6 : FnScope N6 P6 (defScope s6) := ⟨rfl, rfl, rfl, by decide +kernel, rfl, by decide +kernel, by decide +kernel⟩
theorem ck6 : ir6.chk PCx ⟨N6, defScope s6, fun _ => true⟩ (defBody s6) = true := by decide +kernel
theorem sc7 : FnScope N7 P7 (defScope s7) := ⟨rfl, rfl, rfl, by decide +kernel, rfl, by decide +kernel, by decide +kernel⟩
theorem ck7 : ir7.chk PCx ⟨N7, defScope s7, fun _ => true⟩ (defBody s7) = true := by decide +kernel
theorem sc8 : FnScope N8 P8 (defScope s8) := ⟨rfl, rfl, rfl, by decide +kernel, rfl, by decide +kernel, by decide +kernel⟩
theorem ck8 : ir8.chk PCx ⟨N8, defScope s8, fun _ => true⟩ (defBody s8) = true := by decide +kernel
theorem sc9 : FnScope N9 P9 (defScope s9) := ⟨rfl, rfl, rfl, by decide +kernel, rfl, by decide +kernel, by decide +kernel⟩
theorem ck9 : ir9.chk PCx ⟨N9, defScope s9, fun _ => true⟩ (defBody s9) = true := by decide +kernel
theorem all_mk {w : World} {K : PySem.W.Frag} {h : Heap} {mg : Str → Option Value} {fa f0 f1 f2 f3 f4 f5 f6 f7 f8 f9 : Addr} (X : K.In h) (G : h.Ns mainGlobals mg) (hfa : mg "law" = some (.ref fa))
    {od0 an0 od1 an1 od2 an2 od3 an3 od4 an4 od5 an5 od6 an6 od7 an7 od8 an8 od9 an9 : Option Addr} {sl0 sl1 sl2 sl3 sl4 sl5 sl6 sl7 sl8 sl9 : Array (Option Value)} {oc0 kV0 dc0 pm0 cd0 ct0 oc1 kV1 dc1 pm1 cd1 ct1 oc2 kV2 dc2 pm2 cd2 ct2 oc3 kV3 dc3 pm3 cd3 ct3 oc4 kV4 dc4 pm4 cd4 ct4 oc5 kV5 dc5 pm5 cd5 ct5 oc6 kV6 dc6 pm6 cd6 ct6 oc7 kV7 dc7 pm7 cd7 ct7 oc8 kV8 dc8 pm8 cd8 ct8 oc9 kV9 dc9 pm9 cd9 ct9 : Value}
    (a0 : PySem.W.nsIn K mainGlobals "is_within" = some (some (.ref f0))) (l0 : K.lookup f0 = some ⟨oc0, od0, .func (PySem.W.fnOf "is_within" "is_within" (defArgs s0) (defBody s0) (defScope s0) .none kV0 dc0 pm0 an0 cd0 ct0), sl0⟩) (c0 : PySem.W.codeIn K cd0 "is_within" = true) (k0 : PySem.W.keepIn K (.ref f0) = true)
    (a1 : PySem.W.nsIn K mainGlobals "smallest_sets" = some (some (.ref f1))) (l1 : K.lookup f1 = some ⟨oc1, od1, .func (PySem.W.fnOf "smallest_sets" "smallest_sets" (defArgs s1) (defBody s1) (defScope s1) .none kV1 dc1 pm1 an1 cd1 ct1), sl1⟩) (c1 : PySem.W.codeIn K cd1 "smallest_sets" = true) (k1 : PySem.W.keepIn K (.ref f1) = true)
    (a2 : PySem.W.nsIn K mainGlobals "hitting_sets" = some (some (.ref f2))) (l2 : K.lookup f2 = some ⟨oc2, od2, .func (PySem.W.fnOf "hitting_sets" "hitting_sets" (defArgs s2) (defBody s2) (defScope s2) .none kV2 dc2 pm2 an2 cd2 ct2), sl2⟩) (c2 : PySem.W.codeIn K cd2 "hitting_sets" = true) (k2 : PySem.W.keepIn K (.ref f2) = true)
    (a3 : PySem.W.nsIn K mainGlobals "_law_draw" = some (some (.ref f3))) (l3 : K.lookup f3 = some ⟨oc3, od3, .func (PySem.W.fnOf "_law_draw" "_law_draw" (defArgs s3) (defBody s3) (defScope s3) .none kV3 dc3 pm3 an3 cd3 ct3), sl3⟩) (c3 : PySem.W.codeIn K cd3 "_law_draw" = true) (k3 : PySem.W.keepIn K (.ref f3) = true)
    (a4 : PySem.W.nsIn K mainGlobals "_law_tape" = some (some (.ref f4))) (l4 : K.lookup f4 = some ⟨oc4, od4, .func (PySem.W.fnOf "_law_tape" "_law_tape" (defArgs s4) (defBody s4) (defScope s4) .none kV4 dc4 pm4 an4 cd4 ct4), sl4⟩) (c4 : PySem.W.codeIn K cd4 "_law_tape" = true) (k4 : PySem.W.keepIn K (.ref f4) = true)
    (a5 : PySem.W.nsIn K mainGlobals "_law_subsets" = some (some (.ref f5))) (l5 : K.lookup f5 = some ⟨oc5, od5, .func (PySem.W.fnOf "_law_subsets" "_law_subsets" (defArgs s5) (defBody s5) (defScope s5) .none kV5 dc5 pm5 an5 cd5 ct5), sl5⟩) (c5 : PySem.W.codeIn K cd5 "_law_subsets" = true) (k5 : PySem.W.keepIn K (.ref f5) = true)
    (a6 : PySem.W.nsIn K mainGlobals "_law_meets" = some (some (.ref f6))) (l6 : K.lookup f6 = some ⟨oc6, od6, .func (PySem.W.fnOf "_law_meets" "_law_meets" (defArgs s6) (defBody s6) (defScope s6) .none kV6 dc6 pm6 an6 cd6 ct6), sl6⟩) (c6 : PySem.W.codeIn K cd6 "_law_meets" = true) (k6 : PySem.W.keepIn K (.ref f6) = true)
    (a7 : PySem.W.nsIn K mainGlobals "_law_within" = some (some (.ref f7))) (l7 : K.lookup f7 = some ⟨oc7, od7, .func (PySem.W.fnOf "_law_within" "_law_within" (defArgs s7) (defBody s7) (defScope s7) .none kV7 dc7 pm7 an7 cd7 ct7), sl7⟩) (c7 : PySem.W.codeIn K cd7 "_law_within" = true) (k7 : PySem.W.keepIn K (.ref f7) = true)
    (a8 : PySem.W.nsIn K mainGlobals "_law_smallest" = some (some (.ref f8))) (l8 : K.lookup f8 = some ⟨oc8, od8, .func (PySem.W.fnOf "_law_smallest" "_law_smallest" (defArgs s8) (defBody s8) (defScope s8) .none kV8 dc8 pm8 an8 cd8 ct8), sl8⟩) (c8 : PySem.W.codeIn K cd8 "_law_smallest" = true) (k8 : PySem.W.keepIn K (.ref f8) = true)
    (a9 : PySem.W.nsIn K mainGlobals "law" = some (some (.ref f9))) (l9 : K.lookup f9 = some ⟨oc9, od9, .func (PySem.W.fnOf "law" "law" (defArgs s9) (defBody s9) (defScope s9) .none kV9 dc9 pm9 an9 cd9 ct9), sl9⟩) (c9 : PySem.W.codeIn K cd9 "law" = true) (k9 : PySem.W.keepIn K (.ref f9) = true)
    (z0 : PySem.W.nsIn K mainGlobals "all" = some none)
    (z1 : PySem.W.nsIn K mainGlobals "any" = some none)
    (z2 : PySem.W.nsIn K mainGlobals "int" = some none)
    (z3 : PySem.W.nsIn K mainGlobals "len" = some none)
    (z4 : PySem.W.nsIn K mainGlobals "list" = some none)
    (z5 : PySem.W.nsIn K mainGlobals "range" = some none)
    (z6 : PySem.W.nsIn K mainGlobals "repr" = some none)
    (z7 : PySem.W.nsIn K mainGlobals "set" = some none)
    (z8 : PySem.W.nsIn K mainGlobals "sorted" = some none)
    (z9 : PySem.W.nsIn K mainGlobals "tuple" = some none)
    (lvl : Nat) : ∃ fd : FuncData, (∀ (s : Shared) (v : Value), BindsTo s fd ⟨[v], []⟩ [("_law_script", v)]) ∧ ∀ base : Heap, K.In base → base.Ns mainGlobals mg → FnG PySem.Challenge.pw_commonground_k85_hitting_sets w K mg base (lvl + 1) fa fd ["_law_script"] (spD ⟨K, fun _ => none⟩ (run prog (lvl + 1)) 9 1) := by
  have F0 := fun_mk (st := s0) l0 c0 k0
  have b0 := F0.binds (ps := P0) fun _ _ _ _ _ _ us hl => match us, hl with | [_, _], _ => rfl
  have D0 : DefOk PCx prog K mg "is_within" 0 2 := ⟨f0, _, s0, _, N0, P0, ir0, F0, sc0, ck0, rfl, rfl, PySem.W.mg_of X G a0, b0⟩
  have F1 := fun_mk (st := s1) l1 c1 k1
  have b1 := F1.binds (ps := P1) fun _ _ _ _ _ _ us hl => match us, hl with | [_], _ => rfl
  have D1 : DefOk PCx prog K mg "smallest_sets" 1 1 := ⟨f1, _, s1, _, N1, P1, ir1, F1, sc1, ck1, rfl, rfl, PySem.W.mg_of X G a1, b1⟩
  have F2 := fun_mk (st := s2) l2 c2 k2
  have b2 := F2.binds (ps := P2) fun _ _ _ _ _ _ us hl => match us, hl with | [_], _ => rfl
  have D2 : DefOk PCx prog K mg "hitting_sets" 2 1 := ⟨f2, _, s2, _, N2, P2, ir2, F2, sc2, ck2, rfl, rfl, PySem.W.mg_of X G a2, b2⟩
  have F3 := fun_mk (st := s3) l3 c3 k3
  have b3 := F3.binds (ps := P3) fun _ _ _ _ _ _ us hl => match us, hl with | [_, _], _ => rfl
  have D3 : DefOk PCx prog K mg "_law_draw" 3 2 := ⟨f3, _, s3, _, N3, P3, ir3, F3, sc3, ck3, rfl, rfl, PySem.W.mg_of X G a3, b3⟩
  have F4 := fun_mk (st := s4) l4 c4 k4
  have b4 := F4.binds (ps := P4) fun _ _ _ _ _ _ us hl => match us, hl with | [_], _ => rfl
  have D4 : DefOk PCx prog K mg "_law_tape" 4 1 := ⟨f4, _, s4, _, N4, P4, ir4, F4, sc4, ck4, rfl, rfl, PySem.W.mg_of X G a4, b4⟩
  have F5 := fun_mk (st := s5) l5 c5 k5
  have b5 := F5.binds (ps := P5) fun _ _ _ _ _ _ us hl => match us, hl with | [_], _ => rfl
  have D5 : DefOk PCx prog K mg "_law_subsets" 5 1 := ⟨f5, _, s5, _, N5, P5, ir5, F5, sc5, ck5, rfl, rfl, PySem.W.mg_of X G a5, b5⟩
  have F6 := fun_mk (st := s6) l6 c6 k6
  have b6 := F6.binds (ps := P6) fun _ _ _ _ _ _ us hl => match us, hl with | [_, _], _ => rfl
  have D6 : DefOk PCx prog K mg "_law_meets" 6 2 := ⟨f6, _, s6, _, N6, P6, ir6, F6, sc6, ck6, rfl, rfl, PySem.W.mg_of X G a6, b6⟩
  have F7 := fun_mk (st := s7) l7 c7 k7
  have b7 := F7.binds (ps := P7) fun _ _ _ _ _ _ us hl => match us, hl with | [_, _], _ => rfl
  have D7 : DefOk PCx prog K mg "_law_within" 7 2 := ⟨f7, _, s7, _, N7, P7, ir7, F7, sc7, ck7, rfl, rfl, PySem.W.mg_of X G a7, b7⟩
  have F8 := fun_mk (st := s8) l8 c8 k8
  have b8 := F8.binds (ps := P8) fun _ _ _ _ _ _ us hl => match us, hl with | [_], _ => rfl
  have D8 : DefOk PCx prog K mg "_law_smallest" 8 1 := ⟨f8, _, s8, _, N8, P8, ir8, F8, sc8, ck8, rfl, rfl, PySem.W.mg_of X G a8, b8⟩
  have F9 := fun_mk (st := s9) l9 c9 k9
  have b9 := F9.binds (ps := P9) fun _ _ _ _ _ _ us hl => match us, hl with | [_], _ => rfl
  have D9 : DefOk PCx prog K mg "law" 9 1 := ⟨f9, _, s9, _, N9, P9, ir9, F9, sc9, ck9, rfl, rfl, PySem.W.mg_of X G a9, b9⟩
  have hb : ∀ x, PCx.hasB x = true → mg x = none := blt_of (l := PCx.blt) ⟨PySem.W.mg_none_of X G z0, PySem.W.mg_none_of X G z1, PySem.W.mg_none_of X G z2, PySem.W.mg_none_of X G z3, PySem.W.mg_none_of X G z4, PySem.W.mg_none_of X G z5, PySem.W.mg_none_of X G z6, PySem.W.mg_none_of X G z7, PySem.W.mg_none_of X G z8, PySem.W.mg_none_of X G z9, trivial⟩
  have hd : ∀ x id n, PCx.funs.lookup x = some (id, n) → DefOk PCx prog K mg x id n := defs_of (l := PCx.funs) ⟨D0, D1, D2, D3, D4, D5, D6, D7, D8, D9, trivial⟩
  have e := hfa.symm.trans (PySem.W.mg_of X G a9)
  cases e
  exact law_mk (C := ⟨K, fun _ => none⟩) F9 sc9 ck9 rfl (fun s v => .of_eq rfl) hb hd lvl
end Iv

/-! k85: what the defs compute. -/
namespace Iv
open PySem L2

def vt (xs : List Int) : Val := .tup (xs.map .int)
theorem oks_ints (xs : List Int) (n : Nat) : Val.oks n (xs.map .int) = true := by
  induction xs with
  | nil => rfl
  | cons x xs ih => simp only [List.map_cons, Val.oks, ih, Bool.and_true]; cases n <;> rfl
theorem any_int (x : Int) (ys : List Int) : ((ys.map Val.int).any fun y => Val.eq y (.int x)) = decide (x ∈ ys) := by
  induction ys with
  | nil => rfl
  | cons y ys ih =>
    rw [List.map_cons, List.any_cons, ih]
    show ((y == x) || decide (x ∈ ys)) = _
    rw [Bool.eq_iff_iff, Bool.or_eq_true, beq_iff_eq, decide_eq_true_iff, decide_eq_true_iff, List.mem_cons]
    exact ⟨fun h => h.elim (fun h => .inl h.symm) .inr, fun h => h.elim (fun h => .inl h.symm) .inr⟩
theorem in_tup (x : Int) (ys : List Int) : cInS (.int x) (vt ys) = some (decide (x ∈ ys)) := by
  show (if Val.ok 60 (.int x) && Val.oks 60 (ys.map .int) then some ((ys.map Val.int).any fun y => Val.eq y (.int x)) else none) = _
  rw [oks_ints, any_int]
  rfl
theorem bools_map (f : Int → Bool) (xs : List Int) : bools (xs.map fun x => Val.bool (f x)) = some (xs.map f) := by
  induction xs with
  | nil => rfl
  | cons x xs ih => simp only [List.map_cons, bools, ih, Option.map_some]
theorem oks_bools (f : Int → Bool) (xs : List Int) (n : Nat) : Val.oks n (xs.map fun x => Val.bool (f x)) = true := by
  induction xs with
  | nil => rfl
  | cons x xs ih => simp only [List.map_cons, Val.oks, ih, Bool.and_true]; cases n <;> rfl
theorem in_bools (b : Bool) (f : Int → Bool) (xs : List Int) : cInS (.bool b) (.lst (xs.map fun x => Val.bool (f x))) = some (xs.any fun x => f x == b) := by
  show (if Val.ok 60 (.bool b) && Val.oks 60 (xs.map fun x => Val.bool (f x)) then some ((xs.map fun x => Val.bool (f x)).any fun y => Val.eq y (.bool b)) else none) = _
  rw [oks_bools, List.any_map]
  rfl
/-- the comprehension [m in b for m in a] -/
theorem wp_meet {k : CallF} {stk : List Env} {objs : List Obj} {a b : List Int} {e : Env} (ha : a.length ≤ lim) {Q : Res → Mem → Prop}
    (q : Q (.new (.lst (a.map fun x => Val.bool (decide (x ∈ b))))) ⟨stk, [.val (vt a), .val (vt b), .no], objs⟩) :
    Wp k (compM (itemsM (nameC 0)) [2] (Tgt.put (.name 2)) (ret true) (oCmpV cInS (.n 2) (.n 1))) ⟨stk, [.val (vt a), .val (vt b), .no], objs⟩ Q := by
  unfold compM itemsM
  rw [wp_bnd, wp_bnd]
  refine wp_nameV rfl (wp_lift.mpr ⟨_, rfl, ?_⟩)
  refine wp_comp1 (xs := a) Val.int (fun _ => true) (fun x => .bool (decide (x ∈ b))) .no rfl rfl (fun x hx => rfl) (fun y hx _ => ?_) ha ?_
  · refine ⟨.val (.bool (decide (y ∈ b))), rfl, ?_⟩
    have e : oCmpV cInS (.n 2) (.n 1) k ⟨stk, [.val (vt a), .val (vt b), .val (.int y)], objs⟩ = some (.ok (.val (.bool (decide (y ∈ b)))), ⟨stk, [.val (vt a), .val (vt b), .val (.int y)], objs⟩) := by
      simp [oCmpV, opd2, bnd, peek, peekE, lift, in_tup]
    exact e
  · have e1 : ∀ l : List Int, l.filter (fun _ => true) = l := fun l => by simp
    rw [e1]
    exact q
section
variable {l : Nat} {g : Glob} {a b : List Int}
theorem within_ok (ha : a.length ≤ lim) : run prog (l + 1) 0 [.val (vt a), .val (vt b)] g = some (.ok (.val (.bool (a.all fun x => decide (x ∈ b)))), g) := by
  have := run_wp (prog := prog) (id := 0) (l := l) (args := [.val (vt a), .val (vt b)]) (g := g) (Q := fun r g' => r = .val (.bool (a.all fun x => decide (x ∈ b))) ∧ g' = g) (ir := ir0) rfl ?_
  · obtain ⟨r, g', e, rfl, rfl⟩ := this
    exact e
  · show Wp _ (bnd (bnd (compM _ _ _ _ _) fun r => lift (bAll r.fz)) fun r => ret (Flow.rt r)) _ _
    rw [wp_bnd, wp_bnd]
    refine wp_meet (e := []) ha ?_
    rw [wp_lift]
    refine ⟨.val (.bool (a.all fun x => decide (x ∈ b))), ?_, ?_⟩
    · show (bools (a.map fun x => Val.bool (decide (x ∈ b)))).map _ = _
      rw [bools_map]
      show some (Res.val (.bool ((a.map _).all id))) = _
      rw [List.all_map]
      rfl
    · rw [wp_ret]
      exact ⟨rfl, rfl⟩
theorem lmeets_ok (ha : a.length ≤ lim) : run prog (l + 1) 6 [.val (vt a), .val (vt b)] g = some (.ok (.val (.bool (a.any fun x => decide (x ∈ b)))), g) := by
  have := run_wp (prog := prog) (id := 6) (l := l) (args := [.val (vt a), .val (vt b)]) (g := g) (Q := fun r g' => r = .val (.bool (a.any fun x => decide (x ∈ b))) ∧ g' = g) (ir := ir6) rfl ?_
  · obtain ⟨r, g', e, rfl, rfl⟩ := this
    exact e
  · show Wp _ (bnd (bnd (ret (Res.val (.bool true))) fun a => bnd (compM _ _ _ _ _) fun b => lift ((cInS a.fz b.fz).map fun r => Res.val (.bool r))) fun r => ret (Flow.rt r)) _ _
    rw [wp_bnd, wp_bnd, wp_ret, wp_bnd]
    refine wp_meet (e := []) ha ?_
    rw [wp_lift]
    refine ⟨.val (.bool (a.any fun x => decide (x ∈ b))), ?_, ?_⟩
    · show (cInS (.bool true) (.lst (a.map fun x => Val.bool (decide (x ∈ b))))).map _ = _
      rw [in_bools]
      simp
    · rw [wp_ret]
      exact ⟨rfl, rfl⟩
theorem lwithin_ok (ha : a.length ≤ lim) : run prog (l + 1) 7 [.val (vt a), .val (vt b)] g = some (.ok (.val (.bool (a.all fun x => decide (x ∈ b)))), g) := by
  have := run_wp (prog := prog) (id := 7) (l := l) (args := [.val (vt a), .val (vt b)]) (g := g) (Q := fun r g' => r = .val (.bool (a.all fun x => decide (x ∈ b))) ∧ g' = g) (ir := ir7) rfl ?_
  · obtain ⟨r, g', e, rfl, rfl⟩ := this
    exact e
  · show Wp _ (bnd (bnd (ret (Res.val (.bool false))) fun a => bnd (compM _ _ _ _ _) fun b => lift ((cNotInS a.fz b.fz).map fun r => Res.val (.bool r))) fun r => ret (Flow.rt r)) _ _
    rw [wp_bnd, wp_bnd, wp_ret, wp_bnd]
    refine wp_meet (e := []) ha ?_
    rw [wp_lift]
    refine ⟨.val (.bool (a.all fun x => decide (x ∈ b))), ?_, ?_⟩
    · show ((cInS (.bool false) (.lst (a.map fun x => Val.bool (decide (x ∈ b))))).map (!·)).map _ = _
      rw [in_bools]
      simp only [Option.map_some, Option.some.injEq, Res.val.injEq, Val.bool.injEq]
      rw [List.not_any_eq_all_not]
      congr 1
      funext x
      simp
    · rw [wp_ret]
      exact ⟨rfl, rfl⟩
end
end Iv

/-! k85: the smallest sets. -/
namespace Iv
open PySem L2

def unI : Val → Int
  | .int i => i
  | _ => 0
def unvt : Val → List Int
  | .tup xs => xs.map unI
  | _ => []
theorem unvt_vt (xs : List Int) : unvt (vt xs) = xs := by
  show (xs.map Val.int).map unI = xs
  rw [List.map_map]
  have : (unI ∘ Val.int) = id := rfl
  rw [this, List.map_id]
theorem vt_inj {a b : List Int} (h : vt a = vt b) : a = b := by rw [← unvt_vt a, h, unvt_vt]
theorem vt_ok (a : List Int) : Val.ok 60 (vt a) = true := intTup_ok (0, a)
theorem vt_alike (a b : List Int) : Val.alike (vt a) (vt b) = true := intTup_alike (0, a) (0, b)
theorem vts_back {D : List Val} (h : ∀ d ∈ D, ∃ x, d = vt x) : D = (D.map unvt).map vt := by
  induction D with
  | nil => rfl
  | cons d D ih =>
    obtain ⟨x, rfl⟩ := h d List.mem_cons_self
    rw [List.map_cons, List.map_cons, unvt_vt, ← ih fun d hd => h d (List.mem_cons_of_mem _ hd)]
abbrev vle (a b : List Int) : Prop := Val.le (vt a) (vt b) = true
/-- a set of tuples as it stands sorted -/
structure SortedSet (L : List (List Int)) : Prop where
  nd : L.Nodup
  pw : L.Pairwise vle
theorem SortedSet.eq {L M : List (List Int)} (h1 : SortedSet L) (h2 : SortedSet M) (h : ∀ o, o ∈ L ↔ o ∈ M) : L = M := by
  refine List.Perm.eq_of_pairwise (le := vle) (fun a b _ _ q1 q2 => ?_) h1.pw h2.pw ((List.perm_ext_iff_of_nodup h1.nd h2.nd).mpr h)
  exact vt_inj (le_antisymm (vt_ok a) (vt_ok b) (vt_alike a b) q1 q2)
theorem SortedSet.filter {L : List (List Int)} (h : SortedSet L) (p : List Int → Bool) : SortedSet (L.filter p) := ⟨h.nd.filter p, h.pw.filter p⟩
theorem mem_vts {X : List (List Int)} {d : Val} (h : d ∈ X.map vt) : ∃ x, d = vt x := by
  obtain ⟨x, _, rfl⟩ := List.mem_map.mp h
  exact ⟨x, rfl⟩
theorem sort_vts (X : List (List Int)) : ∃ L : List (List Int), (X.map vt).mergeSort Val.le = L.map vt ∧ L.Perm X ∧ L.Pairwise vle := by
  have p := List.mergeSort_perm (X.map vt) Val.le
  have e := vts_back (D := (X.map vt).mergeSort Val.le) fun d hd => mem_vts (p.mem_iff.mp hd)
  refine ⟨_, e, ?_, ?_⟩
  · have q := p.map unvt
    rw [List.map_map] at q
    have : (unvt ∘ vt) = id := funext unvt_vt
    rw [this, List.map_id] at q
    exact q
  · have q := List.pairwise_mergeSort (le := Val.le) (fun a b c => le_trans) le_total (X.map vt)
    rw [e, List.pairwise_map] at q
    exact q
theorem dedup_vts (X : List (List Int)) : ∃ L : List (List Int), dedup [] (X.map vt) = L.map vt ∧ L.Nodup ∧ ∀ o, o ∈ L ↔ o ∈ X := by
  obtain ⟨h1, h2⟩ := dedup_mem (n := 60) (X.map vt) [] (fun x hx => by
    obtain ⟨y, rfl⟩ := mem_vts hx
    exact vt_ok y) (by simp) (fun x hx y hy => by
    rw [List.nil_append] at hx hy
    obtain ⟨a, rfl⟩ := mem_vts hx
    obtain ⟨b, rfl⟩ := mem_vts hy
    exact vt_alike a b) List.nodup_nil
  have e := vts_back (D := dedup [] (X.map vt)) fun d hd => by
    rcases (h2 d).mp hd with hd | hd
    · cases hd
    · exact mem_vts hd
  refine ⟨_, e, ?_, fun o => ?_⟩
  · rw [e, List.nodup_iff_pairwise_ne, List.pairwise_map] at h1
    exact h1.imp fun hne he => hne (by rw [he])
  · have q := h2 (vt o)
    rw [e] at q
    constructor
    · intro ho
      rcases q.mp (List.mem_map.mpr ⟨o, ho, rfl⟩) with z | z
      · cases z
      · obtain ⟨y, hy, ey⟩ := List.mem_map.mp z
        rw [← vt_inj ey]
        exact hy
    · intro ho
      obtain ⟨y, hy, ey⟩ := List.mem_map.mp (q.mpr (.inr (List.mem_map.mpr ⟨o, ho, rfl⟩)))
      rw [← vt_inj ey]
      exact hy
theorem sorted_set (X : List (List Int)) : ∃ L : List (List Int), (dedup [] (X.map vt)).mergeSort Val.le = L.map vt ∧ SortedSet L ∧ ∀ o, o ∈ L ↔ o ∈ X := by
  obtain ⟨D, e, nd, hm⟩ := dedup_vts X
  obtain ⟨L, e2, pm, pw⟩ := sort_vts D
  exact ⟨L, by rw [e]; exact e2, ⟨pm.nodup_iff.mpr nd, pw⟩, fun o => (pm.mem_iff).trans (hm o)⟩

/-- the first is within the second -/
abbrev wi (p o : List Int) : Bool := p.all fun x => decide (x ∈ o)
/-- o is among the smallest of X -/
abbrev least (X : List (List Int)) (o : List Int) : Bool := !(X.any fun p => decide (p ≠ o) && wi p o)
theorem eq_vt (a b : List Int) : Val.eq (vt a) (vt b) = decide (a = b) := by
  rw [Bool.eq_iff_iff, decide_eq_true_iff, eq_iff (vt_ok a) (vt_ok b) (vt_alike a b)]
  exact ⟨vt_inj, fun h => by rw [h]⟩
theorem ne_vt (a b : List Int) : cNe (vt a) (vt b) = some (decide (a ≠ b)) := by
  show (if Val.ok 60 (vt a) && Val.ok 60 (vt b) then some (Val.eq (vt a) (vt b)) else none).map (!·) = _
  rw [vt_ok, vt_ok, eq_vt]
  simp
theorem bools_mapL (f : List Int → Bool) (xs : List (List Int)) : bools (xs.map fun x => Val.bool (f x)) = some (xs.map f) := by
  induction xs with
  | nil => rfl
  | cons x xs ih => simp only [List.map_cons, bools, ih, Option.map_some]
theorem oks_boolsL (f : List Int → Bool) (xs : List (List Int)) (n : Nat) : Val.oks n (xs.map fun x => Val.bool (f x)) = true := by
  induction xs with
  | nil => rfl
  | cons x xs ih => simp only [List.map_cons, Val.oks, ih, Bool.and_true]; cases n <;> rfl
theorem in_boolsL (b : Bool) (f : List Int → Bool) (xs : List (List Int)) : cInS (.bool b) (.lst (xs.map fun x => Val.bool (f x))) = some (xs.any fun x => f x == b) := by
  show (if Val.ok 60 (.bool b) && Val.oks 60 (xs.map fun x => Val.bool (f x)) then some ((xs.map fun x => Val.bool (f x)).any fun y => Val.eq y (.bool b)) else none) = _
  rw [oks_boolsL, List.any_map]
  rfl
theorem oks_vts (X : List (List Int)) : Val.oks 60 (X.map vt) = true := by
  induction X with
  | nil => rfl
  | cons x xs ih => simp only [List.map_cons, Val.oks, ih, Bool.and_true, vt_ok]
theorem in_vts (o : List Int) (X : List (List Int)) : cInS (vt o) (.lst (X.map vt)) = some (decide (o ∈ X)) := by
  show (if Val.ok 60 (vt o) && Val.oks 60 (X.map vt) then some ((X.map vt).any fun y => Val.eq y (vt o)) else none) = _
  rw [vt_ok, oks_vts, List.any_map]
  show some (X.any fun y => Val.eq (vt y) (vt o)) = _
  congr 1
  rw [Bool.eq_iff_iff, decide_eq_true_iff, List.any_eq_true]
  constructor
  · rintro ⟨y, hy, e⟩
    rw [eq_vt, decide_eq_true_iff] at e
    exact e ▸ hy
  · intro h
    exact ⟨o, h, by rw [eq_vt]; simp⟩
section
variable {l : Nat} {g : Glob} {X : List (List Int)}
/-- [p != o and is_within(p, o) for p in X], at the slots a (the one), b (the other), by the def f -/
theorem wp_others {f a b : Nat} {k : CallF} {m : Mem} {o : List Int} {X : List (List Int)} {s0 : Slot} (hk : ∀ (p o : List Int) g, p.length ≤ lim → k f [.val (vt p), .val (vt o)] g = some (.ok (.val (.bool (wi p o))), g)) (ha : m.env[a]? = some (.val (vt o))) (hab : a ≠ b) (hb : m.env[b]? = some s0) (hi : s0.idle = true)
    (hX : X.length ≤ lim) (hl : ∀ p ∈ X, p.length ≤ lim) {Q : Res → Mem → Prop} (q : Q (.new (.lst (X.map fun p => Val.bool (decide (p ≠ o) && wi p o)))) m) :
    Wp k (compR [b] (Tgt.put (.name b)) (ret true) (Iv.andV (oCmpV cNe (.n b) (.n a)) (bnd (argL [argC (nameC b), argC (nameC a)]) (callM f))) (X.map vt)) m Q := by
  refine wp_comp1 (xs := X) vt (fun _ => true) (fun p => .bool (decide (p ≠ o) && wi p o)) s0 hb hi (fun x hx => rfl) (fun p hp _ => ⟨.val (.bool (decide (p ≠ o) && wi p o)), rfl, ?_⟩) hX ?_
  · have hlen : b < m.env.length := (List.getElem?_eq_some_iff.mp hb).1
    have e1 : (m.env.set b (.val (vt p)))[b]? = some (.val (vt p)) := by simp [hlen]
    have e2 : (m.env.set b (.val (vt p)))[a]? = some (.val (vt o)) := by rw [List.getElem?_set_ne (Ne.symm hab)]; exact ha
    have c1 : oCmpV cNe (.n b) (.n a) k ⟨m.stk, m.env.set b (.val (vt p)), m.objs⟩ = some (.ok (.val (.bool (decide (p ≠ o)))), ⟨m.stk, m.env.set b (.val (vt p)), m.objs⟩) := by
      simp [oCmpV, opd2, bnd, peek, peekE, lift, e1, e2, ne_vt]
    have c2 : bnd (argL [argC (nameC b), argC (nameC a)]) (callM f) k ⟨m.stk, m.env.set b (.val (vt p)), m.objs⟩ = some (.ok (.val (.bool (wi p o))), ⟨m.stk, m.env.set b (.val (vt p)), m.objs⟩) := by
      have q := hk p o ⟨m.stk ++ [m.env.set b (.val (vt p))], m.objs⟩ (hl p hp)
      simp [argL, argC, bnd, nameC, e1, e2, ret, Res.fz, callM, q]
    unfold Iv.andV
    simp only [bnd, c1]
    by_cases hne : p = o
    · subst hne
      simp [ret]
    · simp only [hne, ne_eq, not_false_eq_true, decide_true, if_true, Bool.true_and]
      exact c2
  · have e1 : ∀ l : List (List Int), l.filter (fun _ => true) = l := fun l => by simp
    rw [e1]
    exact q
end
end Iv

/-! k85: smallest_sets and _law_smallest. -/
namespace Iv
open PySem L2

theorem isIntTup_vt (x : List Int) : isIntTup (vt x) = true := by
  show (x.map Val.int).all isInt = true
  rw [List.all_map]
  simp [isInt]
theorem setOk_vts {X : List (List Int)} (h : X.length < 64) : setOk (X.map vt) = true := by
  simp only [setOk, Bool.and_eq_true, decide_eq_true_eq, List.length_map]
  refine ⟨h, ?_⟩
  rw [List.all_map, List.all_eq_true]
  exact fun x _ => isIntTup_vt x
theorem sortOk_vts {X : List (List Int)} (h : X.length ≤ 1000000) : sortOk (X.map vt) = true := by
  simp only [sortOk, Bool.and_eq_true, List.all_eq_true, decide_eq_true_eq, Bool.not_eq_true', List.length_map]
  refine ⟨fun x hx => ?_, h⟩
  obtain ⟨a, rfl⟩ := mem_vts hx
  refine ⟨⟨vt_ok a, rfl⟩, fun y hy => ?_⟩
  obtain ⟨b, rfl⟩ := mem_vts hy
  exact vt_alike a b
section
variable {l : Nat} {g : Glob} {X : List (List Int)}
theorem nd_len {α : Type} [DecidableEq α] : ∀ {xs ys : List α}, xs.Nodup → (∀ x ∈ xs, x ∈ ys) → xs.length ≤ ys.length
  | [], _, _, _ => Nat.zero_le _
  | x :: xs, ys, h, hs => by
    obtain ⟨h1, h2⟩ := List.nodup_cons.mp h
    have q := nd_len (xs := xs) (ys := ys.erase x) h2 fun y hy => (List.mem_erase_of_ne (fun e => h1 (by rw [← e]; exact hy))).mpr (hs y (List.mem_cons_of_mem _ hy))
    rw [List.length_erase_of_mem (hs x List.mem_cons_self)] at q
    have := List.length_pos_of_mem (hs x List.mem_cons_self)
    rw [List.length_cons]
    omega
theorem filter_snoc {α : Type} (p : α → Bool) (d : List α) (x : α) : (d ++ [x]).filter p = d.filter p ++ if p x then [x] else [] := by
  rw [List.filter_append]
  cases h : p x <;> simp [h]
/-- what both give -/
def SmallOf (X L : List (List Int)) : Prop := SortedSet L ∧ ∀ o, o ∈ L ↔ o ∈ X ∧ least X o = true
theorem SmallOf.eq {X L M : List (List Int)} (h1 : SmallOf X L) (h2 : SmallOf X M) : L = M := h1.1.eq h2.1 fun o => (h1.2 o).trans (h2.2 o).symm
theorem smallest_ok (hX : X.length < 64) (hl : ∀ p ∈ X, p.length ≤ lim) : ∃ L, SmallOf X L ∧ run prog (l + 2) 1 [.val (.lst (X.map vt))] g = some (.ok (.new (.lst (L.map vt))), g) := by
  obtain ⟨D, eD, sD, mD⟩ := sorted_set X
  have hDX : ∀ p ∈ D, p.length ≤ lim := fun p hp => hl p ((mD p).mp hp)
  have least_eq : ∀ o, least D o = least X o := fun o => by
    have : ∀ A B : List (List Int), (∀ p, p ∈ A → p ∈ B) → (A.any fun p => decide (p ≠ o) && wi p o) = true → (B.any fun p => decide (p ≠ o) && wi p o) = true := fun A B h q => by
      obtain ⟨p, h1, h2⟩ := List.any_eq_true.mp q
      exact List.any_eq_true.mpr ⟨p, h p h1, h2⟩
    unfold least
    rw [Bool.eq_iff_iff.mpr ⟨this D X fun p => (mD p).mp, this X D fun p => (mD p).mpr⟩]
  have hDl : D.length ≤ lim := by
    have : D.length ≤ X.length := nd_len sD.nd fun p hp => (mD p).mp hp
    unfold lim
    omega
  refine ⟨D.filter (least X), ⟨sD.filter _, fun o => by rw [List.mem_filter, mD]⟩, ?_⟩
  have := run_wp (prog := prog) (id := 1) (l := l + 1) (args := [.val (.lst (X.map vt))]) (g := g) (Q := fun r g' => r = .new (.lst ((D.filter (least X)).map vt)) ∧ g' = g) (ir := ir1) rfl ?_
  · obtain ⟨r, g', e, rfl, rfl⟩ := this
    exact e
  show Wp (run prog (l + 1)) (seqM (asgM 1 (oUn bSortedSet (.n 0))) (seqM (asgM 2 (lstM [])) (seqM (forM (itemsM (nameC 1)) (Tgt.put (.name 3)) (Sm.M _)) (retM (nameR 2))))) ⟨g.stk, [.val (.lst (X.map vt)), .no, .no, .no, .no], g.objs⟩ _
  rw [wp_seq]
  unfold asgM
  simp only [wp_bnd, oUn, opd1, wp_peek, wp_lift, wp_setName, wp_ret, doM, wp_seq, lstM, argsM, slot_new]
  refine ⟨.lst (X.map vt), rfl, .new (.lst (D.map vt)), ?_, .no, rfl, rfl, .no, rfl, rfl, ?_⟩
  · show (if setOk (X.map vt) then some (Res.new (.lst ((dedup [] (X.map vt)).mergeSort Val.le))) else none) = _
    rw [setOk_vts hX, eD]
    rfl
  unfold forM itemsM
  rw [wp_bnd, wp_bnd, wp_nameC]
  refine ⟨_, rfl, wp_lift.mpr ⟨_, rfl, ?_⟩⟩
  refine wp_forL (I := fun d m => ∃ (done : List (List Int)) (s3 : Slot), d = done.map vt ∧ s3.locked = false ∧ m = ⟨g.stk, [.val (.lst (X.map vt)), .val (.lst (D.map vt)), .own (.lst ((done.filter (least X)).map vt)), s3, .no], g.objs⟩) ⟨[], .no, rfl, rfl, rfl⟩ ?_ ?_
  · rintro d x r m e ⟨done, s3, rfl, hs3, rfl⟩
    obtain ⟨o, rfl⟩ : ∃ o, x = vt o := mem_vts (X := D) (by rw [e]; simp)
    have hrest : r = (r.map unvt).map vt := vts_back fun y hy => mem_vts (X := D) (by rw [e]; simp [hy])
    rw [wp_put]
    refine ⟨s3, rfl, hs3, ?_⟩
    show Wp _ (ifM (notM (boolM (oUn bAny (.e (compM (itemsM (nameC 1)) [4] (Tgt.put (.name 4)) (ret true) _))))) (doM (mth1 2 lAppend (nameC 3))) (ret .nx)) ⟨g.stk, [.val (.lst (X.map vt)), .val (.lst (D.map vt)), .own (.lst ((done.filter (least X)).map vt)), .val (vt o), .no], g.objs⟩ _
    rw [wp_if]
    unfold notM boolM oUn opd1 compM itemsM
    simp only [wp_bnd]
    refine wp_nameV rfl (wp_lift.mpr ⟨_, rfl, ?_⟩)
    refine wp_others (a := 3) (b := 4) (f := 0) (o := o) (s0 := .no) (fun p o g hp => within_ok hp) rfl (by decide) rfl rfl hDl hDX ?_
    rw [wp_lift]
    refine ⟨.val (.bool (!least D o)), ?_, ?_⟩
    · show (bools (D.map fun p => Val.bool (decide (p ≠ o) && wi p o))).map _ = _
      rw [bools_mapL]
      simp only [Option.map_some, List.any_map, least, Bool.not_not]
      rfl
    · simp only [wp_ret]
      rw [least_eq]
      have app : ∀ b : Bool, least X o = b → (if b then [o] else []) = (if least X o then [o] else []) := fun b h => by rw [h]
      cases hb : least X o with
      | false =>
        simp only [Bool.not_false, Bool.not_true, Bool.false_eq_true, if_false]
        exact ⟨done ++ [o], .val (vt o), by simp, rfl, by rw [filter_snoc, hb]; simp⟩
      | true =>
        simp only [Bool.not_true, Bool.not_false, if_true]
        unfold doM mth1 peekL
        simp only [wp_bnd, wp_peek, wp_ret]
        refine ⟨_, rfl, wp_ret.mpr (wp_nameV rfl ?_)⟩
        refine wp_chg_own (c := .lst ((done.filter (least X)).map vt)) (c' := .lst ((done.filter (least X)).map vt ++ [vt o])) (a := .non) rfl ?_ ?_
        · show (if ((done.filter (least X)).map vt).length < lim then _ else _) = _
          rw [if_pos]
          · rfl
          · rw [List.length_map]
            have h1 : (done.filter (least X)).length ≤ done.length := List.length_filter_le _ _
            have h2 : done.length < D.length := by
              have := congrArg List.length e
              simp at this
              omega
            omega
        · exact ⟨done ++ [o], .val (vt o), by simp, rfl, by rw [filter_snoc, hb]; simp⟩
  · rintro m ⟨done, s3, e, hs3, rfl⟩
    have : done = D := by
      have q := congrArg (List.map unvt) e
      rw [List.map_map, List.map_map] at q
      have hid : (unvt ∘ vt) = id := funext unvt_vt
      rw [hid, List.map_id, List.map_id] at q
      exact q.symm
    subst this
    show Wp _ (retM (nameR 2)) _ _
    unfold retM
    rw [wp_bnd]
    exact wp_nameR_own rfl (wp_ret.mpr ⟨rfl, rfl⟩)
theorem lsmallest_ok (hX : X.length ≤ lim) (hl : ∀ p ∈ X, p.length ≤ lim) : ∃ L, SmallOf X L ∧ run prog (l + 2) 8 [.val (.lst (X.map vt))] g = some (.ok (.new (.lst (L.map vt))), g) := by
  obtain ⟨D, eD, pD, wD⟩ := sort_vts X
  have hDX : ∀ p ∈ D, p.length ≤ lim := fun p hp => hl p (pD.mem_iff.mp hp)
  have hDl : D.length ≤ lim := by rw [pD.length_eq]; exact hX
  -- what is found among the first
  have main : ∃ L, SmallOf X L ∧ ∃ r g', run prog (l + 2) 8 [.val (.lst (X.map vt))] g = some (.ok r, g') ∧ r = .new (.lst (L.map vt)) ∧ g' = g := by
    have := run_wp (prog := prog) (id := 8) (l := l + 1) (args := [.val (.lst (X.map vt))]) (g := g) (Q := fun r g' => ∃ L, SmallOf X L ∧ r = .new (.lst (L.map vt)) ∧ g' = g) (ir := ir8) rfl ?_
    · obtain ⟨r, g', e, L, hL, h1, h2⟩ := this
      exact ⟨L, hL, r, g', e, h1, h2⟩
    show Wp (run prog (l + 1)) (seqM (asgM 1 (lstM [])) (seqM (forM (itemsM (oUn bSorted (.n 0))) (Tgt.put (.name 2)) (Sm.M _)) (retM (nameR 1)))) ⟨g.stk, [.val (.lst (X.map vt)), .no, .no, .no], g.objs⟩ _
    rw [wp_seq]
    unfold asgM
    simp only [wp_bnd, wp_setName, wp_ret, doM, wp_seq, lstM, argsM, slot_new]
    refine ⟨.no, rfl, rfl, ?_⟩
    unfold forM itemsM oUn opd1
    simp only [wp_bnd, wp_peek, wp_lift]
    refine ⟨.lst (X.map vt), rfl, .new (.lst (D.map vt)), ?_, D.map vt, rfl, ?_⟩
    · show (sortV (X.map vt)).map (fun ys => Res.new (.lst ys)) = _
      unfold sortV
      rw [if_pos (sortOk_vts hX), eD]
      rfl
    refine wp_forL (I := fun d m => ∃ (done F : List (List Int)) (s2 : Slot), d = done.map vt ∧ s2.locked = false ∧ SortedSet F ∧ F.length ≤ done.length ∧ (∀ o, o ∈ F ↔ o ∈ done ∧ least X o = true) ∧ m = ⟨g.stk, [.val (.lst (X.map vt)), .own (.lst (F.map vt)), s2, .no], g.objs⟩) ⟨[], [], .no, rfl, rfl, ⟨List.nodup_nil, .nil⟩, Nat.le_refl _, by simp, rfl⟩ ?_ ?_
    · rintro d x r m e ⟨done, F, s2, rfl, hs2, sF, hFl, mF, rfl⟩
      obtain ⟨o, rfl⟩ : ∃ o, x = vt o := mem_vts (X := D) (by rw [e]; simp)
      have hlen : done.length < D.length := by
        have := congrArg List.length e
        simp at this
        omega
      have before : ∀ p ∈ done, vle p o := by
        intro p hp
        have q := wD
        have q2 : (D.map vt).Pairwise (fun a b => Val.le a b = true) := List.pairwise_map.mpr q
        rw [e] at q2
        exact (List.pairwise_append.mp q2).2.2 (vt p) (List.mem_map.mpr ⟨p, hp, rfl⟩) (vt o) List.mem_cons_self
      rw [wp_put]
      refine ⟨s2, rfl, hs2, ?_⟩
      show Wp _ (ifM (andM (oCmp cNotInS (.n 2) (.n 1)) (oCmp cNotInS (.e (ret (Res.val (.bool true)))) (.e (compM (itemsM (nameC 0)) [3] (Tgt.put (.name 3)) (ret true) _)))) (doM (mth1 1 lAppend (nameC 2))) (ret .nx)) ⟨g.stk, [.val (.lst (X.map vt)), .own (.lst (F.map vt)), .val (vt o), .no], g.objs⟩ _
      rw [wp_if]
      unfold andM oCmp opd2
      simp only [wp_bnd, wp_peek, wp_lift]
      refine ⟨vt o, rfl, .lst (F.map vt), rfl, !decide (o ∈ F), ?_, ?_⟩
      · show (cInS (vt o) (.lst (F.map vt))).map (!·) = _
        rw [in_vts]
        rfl
      have snoc : ∀ (b : Bool), (b = true ↔ o ∉ F ∧ least X o = true) → ∃ F', SortedSet F' ∧ F'.length ≤ done.length + 1 ∧ (∀ q, q ∈ F' ↔ q ∈ done ++ [o] ∧ least X q = true) ∧ F' = if b then F ++ [o] else F := by
        intro b hb
        cases b with
        | true =>
          obtain ⟨h1, h2⟩ := hb.mp rfl
          refine ⟨F ++ [o], ⟨?_, ?_⟩, by simp; omega, fun q => ?_, rfl⟩
          · rw [List.nodup_append]
            refine ⟨sF.nd, by simp, fun a ha b hb => ?_⟩
            rw [List.mem_singleton.mp hb]
            rintro rfl
            exact h1 ha
          · rw [List.pairwise_append]
            refine ⟨sF.pw, by simp, fun a ha b hb => ?_⟩
            rw [List.mem_singleton.mp hb]
            exact before a ((mF a).mp ha).1
          · rw [List.mem_append, List.mem_append, mF, List.mem_singleton]
            constructor
            · rintro (⟨q1, q2⟩ | rfl)
              · exact ⟨.inl q1, q2⟩
              · exact ⟨.inr rfl, h2⟩
            · rintro ⟨q1 | rfl, q2⟩
              · exact .inl ⟨q1, q2⟩
              · exact .inr rfl
        | false =>
          refine ⟨F, sF, by omega, fun q => ?_, rfl⟩
          rw [List.mem_append, List.mem_singleton, mF]
          constructor
          · rintro ⟨q1, q2⟩
            exact ⟨.inl q1, q2⟩
          · rintro ⟨q1 | rfl, q2⟩
            · exact ⟨q1, q2⟩
            · refine ⟨?_, q2⟩
              by_cases hF : q ∈ F
              · exact ((mF q).mp hF).1
              · exact absurd (hb.mpr ⟨hF, q2⟩) (by decide)
      by_cases hoF : o ∈ F
      · simp only [hoF, decide_true, Bool.not_true, Bool.false_eq_true, if_false]
        rw [wp_ret]
        simp only [Bool.false_eq_true, if_false]
        rw [wp_ret]
        obtain ⟨F', q1, q2, q3, q4⟩ := snoc false ⟨fun z => (by cases z), fun z => absurd hoF z.1⟩
        simp only [Bool.false_eq_true, if_false] at q4
        rw [q4] at q1 q2 q3
        exact ⟨done ++ [o], F, .val (vt o), by simp, rfl, q1, by simpa using q2, q3, rfl⟩
      · simp only [hoF, decide_false, Bool.not_false, if_true]
        simp only [wp_bnd, wp_ret]
        unfold compM itemsM
        simp only [wp_bnd]
        refine wp_nameV rfl (wp_lift.mpr ⟨_, rfl, ?_⟩)
        refine wp_others (a := 2) (b := 3) (f := 7) (o := o) (s0 := .no) (fun p o g hp => lwithin_ok hp) rfl (by decide) rfl rfl hX hl ?_
        rw [wp_lift]
        refine ⟨least X o, ?_, ?_⟩
        · show (cInS (.bool true) (.lst (X.map fun p => Val.bool (decide (p ≠ o) && wi p o)))).map (!·) = _
          rw [in_boolsL]
          simp only [Option.map_some, least, beq_true]
        · have hb : ∀ b, least X o = b → (b = true ↔ o ∉ F ∧ least X o = true) := fun b h => by rw [h]; exact ⟨fun z => ⟨hoF, z⟩, fun z => z.2⟩
          obtain ⟨F', q1, q2, q3, q4⟩ := snoc (least X o) (hb _ rfl)
          cases hbb : least X o with
          | false =>
            rw [hbb] at q4
            simp only [Bool.false_eq_true, if_false] at q4 ⊢
            rw [q4] at q1 q2 q3
            exact ⟨done ++ [o], F, .val (vt o), by simp, rfl, q1, by simpa using q2, q3, rfl⟩
          | true =>
            rw [hbb] at q4
            simp only [if_true] at q4 ⊢
            rw [q4] at q1 q2 q3
            unfold doM mth1 peekL
            simp only [wp_bnd, wp_peek, wp_ret]
            refine ⟨_, rfl, wp_ret.mpr (wp_nameV rfl ?_)⟩
            refine wp_chg_own (c := .lst (F.map vt)) (c' := .lst (F.map vt ++ [vt o])) (a := .non) rfl ?_ ?_
            · show (if (F.map vt).length < lim then _ else _) = _
              rw [if_pos]
              · rfl
              · rw [List.length_map]
                omega
            · exact ⟨done ++ [o], F ++ [o], .val (vt o), by simp, rfl, q1, by simpa using q2, q3, by simp⟩
    · rintro m ⟨done, F, s2, e, hs2, sF, hFl, mF, rfl⟩
      have : done = D := by
        have q := congrArg (List.map unvt) e
        rw [List.map_map, List.map_map] at q
        have hid : (unvt ∘ vt) = id := funext unvt_vt
        rw [hid, List.map_id, List.map_id] at q
        exact q.symm
      subst this
      show Wp _ (retM (nameR 1)) _ _
      unfold retM
      rw [wp_bnd]
      exact wp_nameR_own rfl (wp_ret.mpr ⟨F, ⟨sF, fun o => by rw [mF, pD.mem_iff]⟩, rfl, rfl⟩)
  obtain ⟨L, hL, r, g', e, rfl, rfl⟩ := main
  exact ⟨L, hL, e⟩
end
end Iv

/-! k85: the plain law of hitting sets. -/
namespace Iv
open PySem L2

abbrev Inc (h : List Int) : Prop := h.Pairwise (· < ·)
abbrev Within (a b : List Int) : Prop := ∀ x ∈ a, x ∈ b
abbrev Meets (a b : List Int) : Prop := ∃ x ∈ a, x ∈ b
theorem wi_iff {a b : List Int} : wi a b = true ↔ Within a b := by simp [wi, Within]
theorem Inc.nd {h : List Int} (i : Inc h) : h.Nodup := i.imp fun q => by omega
theorem Inc.eq {a b : List Int} (ha : Inc a) (hb : Inc b) (h : ∀ x, x ∈ a ↔ x ∈ b) : a = b :=
  List.Perm.eq_of_pairwise (le := fun a b : Int => a < b) (fun a b _ _ q1 q2 => by omega) ha hb ((List.perm_ext_iff_of_nodup ha.nd hb.nd).mpr h)
theorem Within.refl (a : List Int) : Within a a := fun _ h => h
theorem Within.trans {a b c : List Int} (h : Within a b) (h' : Within b c) : Within a c := fun x q => h' x (h x q)
structure MinHit (S : List (List Int)) (h : List Int) : Prop where
  inc : Inc h
  hit : ∀ o ∈ S, Meets o h
  min : ∀ h', Inc h' → (∀ o ∈ S, Meets o h') → Within h' h → h' = h
theorem min_nil {h : List Int} : MinHit [] h ↔ h = [] := by
  constructor
  · intro q
    exact (q.min [] .nil (fun x z => (List.not_mem_nil z).elim) (fun x z => (List.not_mem_nil z).elim)).symm
  · rintro rfl
    refine ⟨.nil, fun x z => (List.not_mem_nil z).elim, fun h' _ _ w => ?_⟩
    cases h' with
    | nil => rfl
    | cons x _ => exact absurd (w x List.mem_cons_self) (by simp)
/-- below a hitting set stands a least one -/
theorem min_below (S : List (List Int)) : ∀ (n : Nat) (h : List Int), h.length ≤ n → Inc h → (∀ o ∈ S, Meets o h) → ∃ g, MinHit S g ∧ Within g h := by
  intro n
  induction n with
  | zero =>
    intro h hl i q
    have : h = [] := List.length_eq_zero_iff.mp (by omega)
    subst this
    refine ⟨[], ⟨i, q, fun h' _ _ w => ?_⟩, Within.refl _⟩
    cases h' with
    | nil => rfl
    | cons x _ => exact absurd (w x List.mem_cons_self) (by simp)
  | succ n ih =>
    intro h hl i q
    by_cases hm : ∀ h', Inc h' → (∀ o ∈ S, Meets o h') → Within h' h → h' = h
    · exact ⟨h, ⟨i, q, hm⟩, Within.refl _⟩
    · obtain ⟨h', hh⟩ := Classical.not_forall.mp hm
      simp only [Classical.not_imp] at hh
      obtain ⟨i', q', w', ne⟩ := hh
      have lt : h'.length < h.length := by
        have le := nd_len i'.nd w'
        by_cases e : h'.length = h.length
        · exfalso
          refine ne (i'.eq i fun x => ⟨w' x, fun hx => ?_⟩)
          refine Classical.byContradiction fun hn => ?_
          have := nd_len (xs := x :: h') (ys := h) (List.nodup_cons.mpr ⟨hn, i'.nd⟩) fun y hy => by
            rcases List.mem_cons.mp hy with rfl | hy
            · exact hx
            · exact w' y hy
          simp at this
          omega
        · omega
      obtain ⟨g, hg, wg⟩ := ih h' (by omega) i' q'
      exact ⟨g, hg, wg.trans w'⟩
/-- what hits least lies in what is to be hit -/
theorem MinHit.inside {S : List (List Int)} {h B : List Int} (m : MinHit S h) (hB : ∀ o ∈ S, Within o B) : Within h B := by
  have e := m.min (h.filter fun x => decide (x ∈ B)) (m.inc.filter _) (fun o ho => by
    obtain ⟨x, h1, h2⟩ := m.hit o ho
    exact ⟨x, h1, List.mem_filter.mpr ⟨h2, by simpa using hB o ho x h1⟩⟩) (fun x hx => (List.mem_filter.mp hx).1)
  intro x hx
  rw [← e] at hx
  simpa using (List.mem_filter.mp hx).2
theorem least_iff {X : List (List Int)} {o : List Int} : least X o = true ↔ ∀ p ∈ X, p ≠ o → ¬ Within p o := by
  unfold least
  rw [Bool.not_eq_true', ← Bool.not_eq_true, List.any_eq_true]
  constructor
  · intro h p hp hne hw
    exact h ⟨p, hp, by rw [Bool.and_eq_true, decide_eq_true_iff]; exact ⟨hne, wi_iff.mpr hw⟩⟩
  · rintro h ⟨p, hp, q⟩
    rw [Bool.and_eq_true, decide_eq_true_iff] at q
    exact h p hp q.1 (wi_iff.mp q.2)
/-- one more set is to be hit -/
theorem hit_step {S F LG : List (List Int)} {one : List Int} (ins : Int → List Int → List Int) (hi : ∀ m h, Inc h → m ∉ h → Inc (ins m h)) (hm : ∀ m h x, x ∈ ins m h ↔ x = m ∨ x ∈ h) (hF : ∀ h, h ∈ F ↔ MinHit S h)
    (hLG : ∀ t, t ∈ LG ↔ ∃ h ∈ F, (Meets one h ∧ t = h) ∨ (¬ Meets one h ∧ ∃ m ∈ one, t = ins m h)) (h : List Int) : (h ∈ LG ∧ least LG h = true) ↔ MinHit (S ++ [one]) h := by
  -- whatever is in LG hits all
  have all : ∀ t ∈ LG, Inc t ∧ ∀ o ∈ S ++ [one], Meets o t := by
    intro t ht
    obtain ⟨g, hg, q⟩ := (hLG t).mp ht
    have mg := (hF g).mp hg
    rcases q with ⟨q1, rfl⟩ | ⟨q1, m, q2, rfl⟩
    · refine ⟨mg.inc, fun o ho => ?_⟩
      rcases List.mem_append.mp ho with ho | ho
      · exact mg.hit o ho
      · rw [List.mem_singleton.mp ho]; exact q1
    · refine ⟨hi m g mg.inc fun z => q1 ⟨m, q2, z⟩, fun o ho => ?_⟩
      rcases List.mem_append.mp ho with ho | ho
      · obtain ⟨x, h1, h2⟩ := mg.hit o ho
        exact ⟨x, h1, (hm m g x).mpr (.inr h2)⟩
      · rw [List.mem_singleton.mp ho]
        exact ⟨m, q2, (hm m g m).mpr (.inl rfl)⟩
  -- below a set that hits all stands one of LG
  have below : ∀ t, Inc t → (∀ o ∈ S ++ [one], Meets o t) → ∃ g ∈ LG, Within g t := by
    intro t it ht
    obtain ⟨g, mg, wg⟩ := min_below S t.length t (Nat.le_refl _) it fun o ho => ht o (List.mem_append_left _ ho)
    have hgF := (hF g).mpr mg
    by_cases q : Meets one g
    · exact ⟨g, (hLG g).mpr ⟨g, hgF, .inl ⟨q, rfl⟩⟩, wg⟩
    · obtain ⟨m, h1, h2⟩ := ht one (by simp)
      refine ⟨ins m g, (hLG _).mpr ⟨g, hgF, .inr ⟨q, m, h1, rfl⟩⟩, fun x hx => ?_⟩
      rcases (hm m g x).mp hx with rfl | hx
      · exact h2
      · exact wg x hx
  constructor
  · rintro ⟨h1, h2⟩
    obtain ⟨i, ht⟩ := all h h1
    refine ⟨i, ht, fun h' i' ht' w => ?_⟩
    obtain ⟨g, hg, wg⟩ := below h' i' ht'
    have e : g = h := Classical.byContradiction fun ne => least_iff.mp h2 g hg ne (wg.trans w)
    subst e
    exact i'.eq i fun x => ⟨w x, wg x⟩
  · intro m
    obtain ⟨g, hg, wg⟩ := below h m.inc m.hit
    obtain ⟨ig, hig⟩ := all g hg
    have e := m.min g ig hig wg
    subst e
    refine ⟨hg, least_iff.mpr fun p hp ne w => ?_⟩
    obtain ⟨ip, hip⟩ := all p hp
    exact ne (m.min p ip hip w)
/-- the smallest hitting sets of the smallest hitting sets -/
theorem dual {S T : List (List Int)} {B : List Int} (hT : ∀ h, h ∈ T ↔ MinHit S h) (hS : ∀ o ∈ S, Inc o ∧ Within o B) (hB : Inc B) (h : List Int) : MinHit T h ↔ h ∈ S ∧ least S h = true := by
  have hits : ∀ o ∈ S, ∀ t ∈ T, Meets t o := fun o ho t ht => by
    obtain ⟨x, h1, h2⟩ := ((hT t).mp ht).hit o ho
    exact ⟨x, h2, h1⟩
  -- what hits all of T has a set of S within
  have claim : ∀ h, (∀ t ∈ T, Meets t h) → ∃ o ∈ S, Within o h := by
    intro h hh
    refine Classical.byContradiction fun hn => ?_
    have co : ∀ o ∈ S, Meets o (B.filter fun x => decide (x ∉ h)) := by
      intro o ho
      refine Classical.byContradiction fun q => hn ⟨o, ho, fun x hx => ?_⟩
      refine Classical.byContradiction fun hx2 => q ⟨x, hx, List.mem_filter.mpr ⟨(hS o ho).2 x hx, by simpa using hx2⟩⟩
    obtain ⟨t, mt, wt⟩ := min_below S _ (B.filter fun x => decide (x ∉ h)) (Nat.le_refl _) (hB.filter _) co
    obtain ⟨x, h1, h2⟩ := hh t ((hT t).mpr mt)
    have := (List.mem_filter.mp (wt x h1)).2
    simp at this
    exact this h2
  constructor
  · intro m
    obtain ⟨o, ho, wo⟩ := claim h m.hit
    have e := m.min o (hS o ho).1 (hits o ho) wo
    subst e
    exact ⟨ho, least_iff.mpr fun p hp ne w => ne (m.min p (hS p hp).1 (hits p hp) w)⟩
  · rintro ⟨h1, h2⟩
    refine ⟨(hS h h1).1, hits h h1, fun h' i' ht w => ?_⟩
    obtain ⟨o, ho, wo⟩ := claim h' ht
    have e : o = h := Classical.byContradiction fun ne => least_iff.mp h2 o ho ne (wo.trans w)
    subst e
    exact i'.eq (hS o ho).1 fun x => ⟨w x, wo x⟩
/-- the hitting sets among the subsets: the smallest are the least -/
theorem hits_small {S X : List (List Int)} {B : List Int} (hS : ∀ o ∈ S, Within o B) (hX : ∀ h, h ∈ X ↔ Inc h ∧ Within h B ∧ ∀ o ∈ S, Meets o h) (h : List Int) : (h ∈ X ∧ least X h = true) ↔ MinHit S h := by
  constructor
  · rintro ⟨h1, h2⟩
    obtain ⟨i, w, q⟩ := (hX h).mp h1
    refine ⟨i, q, fun h' i' q' w' => ?_⟩
    refine Classical.byContradiction fun ne => least_iff.mp h2 h' ((hX h').mpr ⟨i', w'.trans w, q'⟩) ne w'
  · intro m
    refine ⟨(hX h).mpr ⟨m.inc, m.inside hS, m.hit⟩, least_iff.mpr fun p hp ne w => ?_⟩
    obtain ⟨i, _, q⟩ := (hX p).mp hp
    exact ne (m.min p i q w)
end Iv

/-! k85: how many sets there can be. -/
namespace Iv
open PySem L2

def subs : List Int → List (List Int)
  | [] => [[]]
  | c :: C => subs C ++ (subs C).map (c :: ·)
theorem subs_len : ∀ C : List Int, (subs C).length = 2 ^ C.length
  | [] => rfl
  | c :: C => by
    unfold subs
    rw [List.length_append, List.length_map, subs_len C, List.length_cons, Nat.pow_succ]
    omega
theorem mem_subs : ∀ {C h : List Int}, Inc C → Inc h → Within h C → h ∈ subs C
  | [], h, _, _, w => by
    cases h with
    | nil => simp [subs]
    | cons x _ => exact absurd (w x List.mem_cons_self) (by simp)
  | c :: C, h, iC, ih, w => by
    obtain ⟨lt, iC'⟩ := List.pairwise_cons.mp iC
    unfold subs
    rw [List.mem_append, List.mem_map]
    by_cases hc : c ∈ h
    · right
      cases h with
      | nil => cases hc
      | cons x h =>
        obtain ⟨lx, ih'⟩ := List.pairwise_cons.mp ih
        have e : x = c := by
          rcases List.mem_cons.mp hc with e | hc
          · exact e.symm
          · have h1 := lx c hc
            rcases List.mem_cons.mp (w x List.mem_cons_self) with e | hx
            · exact e
            · have := lt x hx
              omega
        subst e
        refine ⟨h, mem_subs iC' ih' fun y hy => ?_, rfl⟩
        rcases List.mem_cons.mp (w y (List.mem_cons_of_mem _ hy)) with e | hy'
        · subst e
          exact absurd (lx y hy) (by omega)
        · exact hy'
    · left
      refine mem_subs iC' ih fun y hy => ?_
      rcases List.mem_cons.mp (w y hy) with e | hy'
      · subst e; exact absurd hy hc
      · exact hy'
/-- sets of which none is within another -/
theorem anti_len {F : List (List Int)} {c : Int} {C : List Int} (nd : F.Nodup) (hi : ∀ h ∈ F, Inc h) (hw : ∀ h ∈ F, Within h (c :: C)) (iC : Inc (c :: C)) (anti : ∀ a ∈ F, ∀ b ∈ F, Within a b → a = b) : F.length ≤ 2 ^ C.length := by
  have iC' := (List.pairwise_cons.mp iC).2
  have inj : ∀ a ∈ F, ∀ b ∈ F, a.filter (fun x => decide (x ≠ c)) = b.filter (fun x => decide (x ≠ c)) → a = b := by
    intro a ha b hb e
    have same : ∀ x, x ≠ c → (x ∈ a ↔ x ∈ b) := fun x hx => by
      have h1 : x ∈ a.filter (fun x => decide (x ≠ c)) ↔ x ∈ b.filter (fun x => decide (x ≠ c)) := by rw [e]
      simpa [List.mem_filter, hx] using h1
    by_cases hb2 : c ∈ b
    · refine anti a ha b hb fun x hx => ?_
      by_cases hxc : x = c
      · rw [hxc]; exact hb2
      · exact (same x hxc).mp hx
    · refine (anti b hb a ha fun x hx => ?_).symm
      have hxc : x ≠ c := fun z => hb2 (z ▸ hx)
      exact (same x hxc).mpr hx
  have q := nd_len (xs := F.map fun h => h.filter fun x => decide (x ≠ c)) (ys := subs C) (by
    rw [List.nodup_iff_pairwise_ne, List.pairwise_map]
    refine List.Pairwise.imp_of_mem (fun {a b} ha hb hne e => ?_) (List.nodup_iff_pairwise_ne.mp nd)
    exact hne (inj a ha b hb e)) (fun y hy => by
    obtain ⟨h, hh, rfl⟩ := List.mem_map.mp hy
    refine mem_subs iC' ((hi h hh).filter _) fun x hx => ?_
    obtain ⟨h1, h2⟩ := List.mem_filter.mp hx
    rcases List.mem_cons.mp (hw h hh x h1) with e | h3
    · simp [e] at h2
    · exact h3)
  rw [List.length_map, subs_len] at q
  exact q
theorem anti_le {F : List (List Int)} {C : List Int} (nd : F.Nodup) (hi : ∀ h ∈ F, Inc h) (hw : ∀ h ∈ F, Within h C) (iC : Inc C) (anti : ∀ a ∈ F, ∀ b ∈ F, Within a b → a = b) : F.length ≤ 2 ^ (C.length - 1) := by
  cases C with
  | nil =>
    have : ∀ h ∈ F, h = [] := fun h hh => by
      cases h with
      | nil => rfl
      | cons x _ => exact absurd (hw _ hh x List.mem_cons_self) (by simp)
    have q := nd_len (xs := F) (ys := [[]]) nd fun h hh => by rw [this h hh]; simp
    simpa using q
  | cons c C => simpa using anti_len nd hi hw iC anti
/-- the longer list -/
def longer (ins : Int → List Int → List Int) (one : List Int) (F : List (List Int)) : List (List Int) := F.flatMap fun h => if one.any (fun x => decide (x ∈ h)) then [h] else one.map fun m => ins m h
theorem any_meets {one h : List Int} : one.any (fun x => decide (x ∈ h)) = true ↔ Meets one h := by simp [Meets]
theorem mem_longer {ins : Int → List Int → List Int} {one : List Int} {F : List (List Int)} (t : List Int) : t ∈ longer ins one F ↔ ∃ h ∈ F, (Meets one h ∧ t = h) ∨ (¬ Meets one h ∧ ∃ m ∈ one, t = ins m h) := by
  unfold longer
  rw [List.mem_flatMap]
  constructor
  · rintro ⟨h, hh, q⟩
    refine ⟨h, hh, ?_⟩
    by_cases hm : Meets one h
    · rw [if_pos (any_meets.mpr hm)] at q
      exact .inl ⟨hm, List.mem_singleton.mp q⟩
    · rw [if_neg fun z => hm (any_meets.mp z)] at q
      obtain ⟨m, h1, h2⟩ := List.mem_map.mp q
      exact .inr ⟨hm, m, h1, h2.symm⟩
  · rintro ⟨h, hh, ⟨hm, rfl⟩ | ⟨hm, m, h1, rfl⟩⟩
    · exact ⟨t, hh, by rw [if_pos (any_meets.mpr hm)]; simp⟩
    · exact ⟨h, hh, by rw [if_neg fun z => hm (any_meets.mp z)]; exact List.mem_map.mpr ⟨m, h1, rfl⟩⟩
theorem longer_len {ins : Int → List Int → List Int} {one : List Int} : ∀ {F : List (List Int)}, (longer ins one F).length = (F.filter fun h => one.any fun x => decide (x ∈ h)).length + (F.filter fun h => !one.any fun x => decide (x ∈ h)).length * one.length
  | [] => by simp [longer]
  | h :: F => by
    have ih := longer_len (ins := ins) (one := one) (F := F)
    unfold longer at ih ⊢
    rw [List.flatMap_cons, List.length_append, ih, List.filter_cons, List.filter_cons]
    cases hq : one.any fun x => decide (x ∈ h) with
    | true => simp; omega
    | false =>
      simp [Nat.add_mul]
      omega
/-- sets of hitting sets stay few -/
theorem longer_few {ins : Int → List Int → List Int} {one B : List Int} {F : List (List Int)} (nd : F.Nodup) (hi : ∀ h ∈ F, Inc h) (hw : ∀ h ∈ F, Within h B) (iB : Inc B) (hB : B.length ≤ 6) (anti : ∀ a ∈ F, ∀ b ∈ F, Within a b → a = b) (io : Inc one) (ho : Within one B) : (longer ins one F).length < 64 := by
  rw [longer_len]
  have h1 : (F.filter fun h => one.any fun x => decide (x ∈ h)).length ≤ 2 ^ (B.length - 1) := Nat.le_trans (List.length_filter_le _ _) (anti_le nd hi hw iB anti)
  have h2 : (F.filter fun h => !one.any fun x => decide (x ∈ h)).length ≤ 2 ^ ((B.filter fun x => decide (x ∉ one)).length - 1) := by
    refine anti_le (nd.filter _) (fun h hh => hi h (List.mem_filter.mp hh).1) (fun h hh x hx => ?_) (iB.filter _) fun a ha b hb => anti a (List.mem_filter.mp ha).1 b (List.mem_filter.mp hb).1
    obtain ⟨q1, q2⟩ := List.mem_filter.mp hh
    refine List.mem_filter.mpr ⟨hw h q1 x hx, ?_⟩
    rw [decide_eq_true_iff]
    intro hxo
    rw [Bool.not_eq_true', ← Bool.not_eq_true, any_meets] at q2
    exact q2 ⟨x, hxo, hx⟩
  have h3 : (B.filter fun x => decide (x ∉ one)).length + one.length ≤ B.length := by
    have := nd_len (xs := (B.filter fun x => decide (x ∉ one)) ++ one) (ys := B) (List.nodup_append.mpr ⟨iB.nd.filter _, io.nd, fun a ha b hb e => by
      have q := (List.mem_filter.mp ha).2
      rw [decide_eq_true_iff] at q
      exact q (e ▸ hb)⟩) fun x hx => by
      rcases List.mem_append.mp hx with hx | hx
      · exact (List.mem_filter.mp hx).1
      · exact ho x hx
    rwa [List.length_append] at this
  generalize (F.filter fun h => one.any fun x => decide (x ∈ h)).length = a at h1
  generalize (F.filter fun h => !one.any fun x => decide (x ∈ h)).length = b at h2
  generalize (B.filter fun x => decide (x ∉ one)).length = c at h2 h3
  generalize one.length = m at h3
  generalize B.length = n at h1 h3 hB
  have h1' : a ≤ 32 := Nat.le_trans h1 (Nat.le_trans (Nat.pow_le_pow_right (by decide) (show n - 1 ≤ 5 by omega)) (by decide))
  have hm : m ≤ 6 := by omega
  have hc : c ≤ 6 - m := by omega
  have h2' : b ≤ 2 ^ (6 - m - 1) := Nat.le_trans h2 (Nat.pow_le_pow_right (by decide) (by omega))
  have : b * m ≤ 16 := by
    have : m = 0 ∨ m = 1 ∨ m = 2 ∨ m = 3 ∨ m = 4 ∨ m = 5 ∨ m = 6 := by omega
    rcases this with rfl | rfl | rfl | rfl | rfl | rfl | rfl <;> simp at h2' ⊢ <;> omega
  omega
end Iv

/-! k85: hitting_sets. -/
namespace Iv
open PySem L2

theorem idle_locked {s : Slot} (h : s.idle = true) : s.locked = false := by
  cases s <;> first | rfl | cases h
theorem int_le (a b : Int) : Val.le (.int a) (.int b) = decide (a ≤ b) := by
  show (!PySem.W.dataLt (.int b) (.int a)) = _
  rw [PySem.W.dataLt_int]
  by_cases h : b < a
  · have : ¬ a ≤ b := by omega
    simp [h, this]
  · have : a ≤ b := by omega
    simp [h, this]
theorem sortOk_ints {xs : List Int} (h : xs.length ≤ 1000000) : sortOk (xs.map .int) = true := by
  simp only [sortOk, Bool.and_eq_true, List.all_eq_true, decide_eq_true_eq, Bool.not_eq_true', List.length_map]
  refine ⟨fun x hx => ?_, h⟩
  obtain ⟨a, _, rfl⟩ := List.mem_map.mp hx
  refine ⟨⟨rfl, rfl⟩, fun y hy => ?_⟩
  obtain ⟨b, _, rfl⟩ := List.mem_map.mp hy
  show PySem.W.alike (.int a) (.int b) = true
  simp [PySem.W.alike]
theorem sort_ints (xs : List Int) : ∃ ys : List Int, (xs.map Val.int).mergeSort Val.le = ys.map .int ∧ ys.Perm xs ∧ ys.Pairwise (· ≤ ·) := by
  have p := List.mergeSort_perm (xs.map Val.int) Val.le
  have back : ∀ D : List Val, (∀ d ∈ D, ∃ i, d = .int i) → D = (D.map unI).map .int := by
    intro D
    induction D with
    | nil => intro _; rfl
    | cons d D ih =>
      intro h
      obtain ⟨i, rfl⟩ := h d List.mem_cons_self
      rw [List.map_cons, List.map_cons, ← ih fun d hd => h d (List.mem_cons_of_mem _ hd)]
      rfl
  have e := back _ fun d hd => by
    obtain ⟨i, _, rfl⟩ := List.mem_map.mp (p.mem_iff.mp hd)
    exact ⟨i, rfl⟩
  refine ⟨_, e, ?_, ?_⟩
  · have q := p.map unI
    rw [List.map_map] at q
    have : (unI ∘ Val.int) = id := rfl
    rw [this, List.map_id] at q
    exact q
  · have q := List.pairwise_mergeSort (le := Val.le) (fun a b c => le_trans) le_total (xs.map Val.int)
    rw [e, List.pairwise_map] at q
    refine q.imp fun {a b} h => ?_
    rw [int_le, decide_eq_true_iff] at h
    exact h
/-- sorted(h + (m,)) -/
def insI (m : Int) (h : List Int) : List Int := (((h ++ [m]).map Val.int).mergeSort Val.le).map unI
theorem insI_eq (m : Int) (h : List Int) : ((h ++ [m]).map Val.int).mergeSort Val.le = (insI m h).map .int ∧ (insI m h).Perm (h ++ [m]) ∧ (insI m h).Pairwise (· ≤ ·) := by
  obtain ⟨ys, e, p, w⟩ := sort_ints (h ++ [m])
  have : insI m h = ys := by
    unfold insI
    rw [e, List.map_map]
    have : (unI ∘ Val.int) = id := rfl
    rw [this, List.map_id]
  rw [this]
  exact ⟨e, p, w⟩
theorem insI_mem (m : Int) (h : List Int) (x : Int) : x ∈ insI m h ↔ x = m ∨ x ∈ h := by
  rw [(insI_eq m h).2.1.mem_iff, List.mem_append, List.mem_singleton]
  exact or_comm
theorem insI_inc (m : Int) (h : List Int) (i : Inc h) (hm : m ∉ h) : Inc (insI m h) := by
  obtain ⟨_, p, w⟩ := insI_eq m h
  have nd : (insI m h).Nodup := p.nodup_iff.mpr (List.nodup_append.mpr ⟨i.nd, by simp, fun a ha b hb e => by
    rw [List.mem_singleton.mp hb] at e
    exact hm (e ▸ ha)⟩)
  exact List.Pairwise.imp₂ (fun a b h1 h2 => by omega) w nd
theorem longer_le {ins : Int → List Int → List Int} {one : List Int} {F : List (List Int)} : (longer ins one F).length ≤ F.length + F.length * one.length := by
  rw [longer_len]
  have h1 := List.length_filter_le (fun h => one.any fun x => decide (x ∈ h)) F
  have h2 := Nat.mul_le_mul_right one.length (List.length_filter_le (fun h => !one.any fun x => decide (x ∈ h)) F)
  omega
theorem longer_snoc {ins : Int → List Int → List Int} {one : List Int} {F : List (List Int)} {h : List Int} : longer ins one (F ++ [h]) = longer ins one F ++ if one.any (fun x => decide (x ∈ h)) then [h] else one.map fun m => ins m h := by
  unfold longer
  rw [List.flatMap_append, List.flatMap_cons, List.flatMap_nil, List.append_nil]
section
variable {l : Nat} {g : Glob}
/-- the comprehension [member in hit for member in one] at the slots of hitting_sets -/
theorem wp_any_hit {k : CallF} {m : Mem} {one h : List Int} {s5 : Slot} (h2 : m.env[2]? = some (.val (vt one))) (h4 : m.env[4]? = some (.val (vt h))) (h5 : m.env[5]? = some s5) (hi : s5.idle = true) (hl : one.length ≤ lim) {Q : Bool → Mem → Prop} (q : Q (one.any fun x => decide (x ∈ h)) m) :
    Wp k (boolM (oUn bAny (.e (compM (itemsM (nameC 2)) [5] (Tgt.put (.name 5)) (ret true) (oCmpV cInS (.n 5) (.n 4)))))) m Q := by
  unfold boolM oUn opd1 compM itemsM
  simp only [wp_bnd]
  refine wp_nameV h2 (wp_lift.mpr ⟨_, rfl, ?_⟩)
  refine wp_comp1 (xs := one) Val.int (fun _ => true) (fun x => .bool (decide (x ∈ h))) s5 h5 hi (fun x hx => rfl) (fun y hx _ => ?_) hl ?_
  · refine ⟨.val (.bool (decide (y ∈ h))), rfl, ?_⟩
    have hlen : 5 < m.env.length := (List.getElem?_eq_some_iff.mp h5).1
    have e1 : (m.env.set 5 (.val (.int y)))[5]? = some (.val (.int y)) := by simp [hlen]
    have e2 : (m.env.set 5 (.val (.int y)))[4]? = some (.val (vt h)) := by rw [List.getElem?_set_ne (by decide)]; exact h4
    simp [oCmpV, opd2, bnd, peek, peekE, lift, e1, e2, in_tup]
  · have e1 : ∀ l : List Int, l.filter (fun _ => true) = l := fun l => by simp
    rw [e1, wp_lift]
    refine ⟨.val (.bool (one.any fun x => decide (x ∈ h))), ?_, ?_⟩
    · show (bools (one.map fun x => Val.bool (decide (x ∈ h)))).map _ = _
      rw [bools_map]
      simp only [Option.map_some, List.any_map]
      rfl
    · exact wp_ret.mpr q
theorem hitting_ok {S : List (List Int)} {B : List Int} (iB : Inc B) (hB : B.length ≤ 6) (hS : ∀ o ∈ S, Inc o ∧ Within o B) (hSl : S.length ≤ lim) :
    ∃ F, SortedSet F ∧ (∀ h, h ∈ F ↔ MinHit S h) ∧ run prog (l + 3) 2 [.val (.lst (S.map vt))] g = some (.ok (.new (.lst (F.map vt))), g) := by
  have := run_wp (prog := prog) (id := 2) (l := l + 2) (args := [.val (.lst (S.map vt))]) (g := g) (Q := fun r g' => ∃ F, SortedSet F ∧ (∀ h, h ∈ F ↔ MinHit S h) ∧ r = .new (.lst (F.map vt)) ∧ g' = g) (ir := ir2) rfl ?_
  · obtain ⟨r, g', e, F, h1, h2, rfl, rfl⟩ := this
    exact ⟨F, h1, h2, e⟩
  have short : ∀ h : List Int, Inc h → Within h B → h.length ≤ 6 := fun h i w => Nat.le_trans (nd_len i.nd w) hB
  show Wp (run prog (l + 2)) (seqM (asgM 1 (lstM [tupM []])) (seqM (forM (itemsM (nameC 0)) (Tgt.put (.name 2)) (seqM (asgM 3 (lstM [])) (seqM (forM (itemsM (nameC 1)) (Tgt.put (.name 4)) (ifM (boolM (oUn bAny (.e (compM (itemsM (nameC 2)) [5] (Tgt.put (.name 5)) (ret true) (oCmpV cInS (.n 5) (.n 4)))))) (doM (mth1 3 lAppend (nameC 4)))
      (forM (itemsM (nameC 2)) (Tgt.put (.name 5)) (doM (mth1 3 lAppend (oUn bTuple (.e (oUn bSorted (.e (oBin opAdd (.n 4) (.e (tupM [nameC 5])))))))))))) (asgM 1 (bnd (argL [argC (nameC 3)]) (callM 1)))))) (retM (nameR 1)))) ⟨g.stk, [.val (.lst (S.map vt)), .no, .no, .no, .no, .no], g.objs⟩ _
  rw [wp_seq]
  simp only [asgM, wp_bnd, lstM, tupM, argsM, wp_ret, wp_setName, doM, slot_new, wp_seq, fz_val]
  refine ⟨.no, rfl, rfl, ?_⟩
  unfold forM itemsM
  simp only [wp_bnd]
  refine wp_nameV rfl (wp_lift.mpr ⟨_, rfl, ?_⟩)
  refine wp_forV vt (fun done m => ∃ (F : List (List Int)) (s2 s3 s4 s5 : Slot), SortedSet F ∧ (∀ h, h ∈ F ↔ MinHit done h) ∧ s2.locked = false ∧ s3.locked = false ∧ s4.locked = false ∧ s5.idle = true ∧ m = ⟨g.stk, [.val (.lst (S.map vt)), .own (.lst (F.map vt)), s2, s3, s4, s5], g.objs⟩)
    ⟨[[]], .no, .no, .no, .no, ⟨by simp, by simp⟩, fun h => by rw [min_nil]; simp, rfl, rfl, rfl, rfl, rfl⟩ ?_ ?_
  · rintro done one r m e ⟨F, s2, s3, s4, s5, sF, mF, hs2, hs3, hs4, hs5, rfl⟩
    obtain ⟨io, wo⟩ := hS one (by rw [e]; simp)
    have doneB : ∀ o ∈ done, Within o B := fun o ho => (hS o (by rw [e]; simp [ho])).2
    have oneL : one.length ≤ 6 := short one io wo
    have FB : ∀ h ∈ F, Inc h ∧ Within h B := fun h hh => ⟨((mF h).mp hh).inc, ((mF h).mp hh).inside doneB⟩
    have anti : ∀ a ∈ F, ∀ b ∈ F, Within a b → a = b := fun a ha b hb w => ((mF b).mp hb).min a ((mF a).mp ha).inc ((mF a).mp ha).hit w
    have Fl : F.length ≤ 32 := by
      have q := anti_le sF.nd (fun h hh => (FB h hh).1) (fun h hh => (FB h hh).2) iB anti
      exact Nat.le_trans q (Nat.le_trans (Nat.pow_le_pow_right (by decide) (show B.length - 1 ≤ 5 by omega)) (by decide))
    have LGl : ∀ H : List (List Int), H.length ≤ 32 → (longer insI one H).length + 6 < lim := fun H hH => by
      have q := longer_le (ins := insI) (one := one) (F := H)
      have q2 := Nat.mul_le_mul hH oneL
      unfold lim
      omega
    rw [wp_put]
    refine ⟨s2, rfl, hs2, ?_⟩
    simp only [wp_seq, asgM, wp_bnd, lstM, argsM, wp_ret, wp_setName, doM, slot_new]
    refine ⟨s3, rfl, hs3, ?_⟩
    rw [wp_nameC]
    refine ⟨_, rfl, wp_lift.mpr ⟨_, rfl, ?_⟩⟩
    refine wp_forV vt (fun hd m => ∃ (s4 s5 : Slot), s4.locked = false ∧ s5.idle = true ∧ m = ⟨g.stk, [.val (.lst (S.map vt)), .val (.lst (F.map vt)), .val (vt one), .own (.lst ((longer insI one hd).map vt)), s4, s5], g.objs⟩) ⟨s4, s5, hs4, hs5, rfl⟩ ?_ ?_
    · rintro hd h r2 m e2 ⟨s4, s5, hs4, hs5, rfl⟩
      have hF : h ∈ F := by rw [e2]; simp
      have hdl : hd.length ≤ 32 := by
        have := congrArg List.length e2
        simp at this
        omega
      rw [wp_put]
      refine ⟨s4, rfl, hs4, ?_⟩
      rw [wp_if]
      refine wp_any_hit (one := one) (h := h) (s5 := s5) rfl rfl rfl hs5 (by unfold lim; omega) ?_
      cases hq : one.any fun x => decide (x ∈ h) with
      | true =>
        simp only [if_true]
        unfold mth1 peekL
        simp only [wp_bnd, wp_peek, wp_ret]
        refine ⟨_, rfl, wp_ret.mpr (wp_nameV rfl ?_)⟩
        refine wp_chg_own (c := .lst ((longer insI one hd).map vt)) (c' := .lst ((longer insI one hd).map vt ++ [vt h])) (a := .non) rfl ?_ ?_
        · show (if ((longer insI one hd).map vt).length < lim then _ else _) = _
          rw [if_pos (by rw [List.length_map]; have := LGl hd hdl; omega)]
          rfl
        · refine ⟨.val (vt h), s5, rfl, hs5, ?_⟩
          rw [longer_snoc, hq, if_pos rfl, List.map_append]
          rfl
      | false =>
        simp only [Bool.false_eq_true, if_false]
        simp only [wp_bnd]
        refine wp_nameV rfl (wp_lift.mpr ⟨_, rfl, ?_⟩)
        refine wp_forV Val.int (fun md m => ∃ s5 : Slot, s5.idle = true ∧ m = ⟨g.stk, [.val (.lst (S.map vt)), .val (.lst (F.map vt)), .val (vt one), .own (.lst ((longer insI one hd ++ md.map fun m => insI m h).map vt)), .val (vt h), s5], g.objs⟩) ⟨s5, hs5, by simp⟩ ?_ ?_
        · rintro md x r3 m e3 ⟨s5, hs5, rfl⟩
          have mdl : md.length < 6 := by
            have := congrArg List.length e3
            simp at this
            omega
          have hl6 : h.length ≤ 6 := short h (FB h hF).1 (FB h hF).2
          rw [wp_put]
          refine ⟨s5, rfl, idle_locked hs5, ?_⟩
          unfold mth1 peekL
          simp only [oUn, opd1, oBin, opd2, wp_bnd, wp_peek, wp_ret, wp_lift]
          refine ⟨_, rfl, wp_ret.mpr ⟨vt h, rfl, wp_nameV rfl ⟨vt h, rfl, .val (vt (h ++ [x])), ?_, .new (.lst ((insI x h).map .int)), ?_, .val (vt (insI x h)), rfl, ?_⟩⟩⟩
          · show (if (h.map Val.int).length + [Val.int x].length ≤ lim then some (Res.val (.tup (h.map Val.int ++ [Val.int x]))) else none) = _
            rw [if_pos (by rw [List.length_map]; simp; unfold lim; omega)]
            show _ = some (Res.val (.tup ((h ++ [x]).map .int)))
            rw [List.map_append]
            rfl
          · show (sortV ((h ++ [x]).map .int)).map (fun ys => Res.new (.lst ys)) = _
            unfold sortV
            rw [if_pos (sortOk_ints (by simp; omega)), (insI_eq x h).1]
            rfl
          · refine wp_chg_own (c := .lst ((longer insI one hd ++ md.map fun m => insI m h).map vt)) (c' := .lst ((longer insI one hd ++ md.map fun m => insI m h).map vt ++ [vt (insI x h)])) (a := .non) rfl ?_ ?_
            · show (if ((longer insI one hd ++ md.map fun m => insI m h).map vt).length < lim then _ else _) = _
              rw [if_pos (by rw [List.length_map, List.length_append, List.length_map]; have := LGl hd hdl; omega)]
              rfl
            · refine ⟨.val (.int x), rfl, ?_⟩
              simp
        · rintro m ⟨s5, hs5, rfl⟩
          refine ⟨.val (vt h), s5, rfl, hs5, ?_⟩
          rw [longer_snoc, hq]
          simp
    · rintro m ⟨s4, s5, hs4, hs5, rfl⟩
      have few := longer_few (ins := insI) sF.nd (fun h hh => (FB h hh).1) (fun h hh => (FB h hh).2) iB hB anti io wo
      have LGB : ∀ p ∈ longer insI one F, p.length ≤ lim := fun p hp => by
        obtain ⟨h, hh, q⟩ := (mem_longer p).mp hp
        have hl6 : h.length ≤ 6 := short h (FB h hh).1 (FB h hh).2
        rcases q with ⟨_, rfl⟩ | ⟨_, m, _, rfl⟩
        · unfold lim; omega
        · rw [(insI_eq m h).2.1.length_eq]
          simp
          unfold lim
          omega
      simp only [asgM, wp_bnd, argL, argC]
      rw [wp_nameC]
      refine ⟨_, rfl, ?_⟩
      simp only [wp_ret]
      obtain ⟨L, sm, er⟩ := smallest_ok (l := l) (g := ⟨g.stk ++ [[.val (.lst (S.map vt)), .val (.lst (F.map vt)), .val (vt one), .val (.lst ((longer insI one F).map vt)), s4, s5]], g.objs⟩) few LGB
      refine wp_callP er ?_
      refine ⟨.val (.lst (F.map vt)), rfl, rfl, ?_⟩
      refine ⟨L, .val (vt one), .val (.lst ((longer insI one F).map vt)), s4, s5, sm.1, fun h => ?_, rfl, rfl, hs4, hs5, rfl⟩
      rw [sm.2]
      exact hit_step insI insI_inc insI_mem mF (fun t => mem_longer t) h
  · rintro m ⟨F, s2, s3, s4, s5, sF, mF, _, _, _, _, rfl⟩
    unfold retM
    rw [wp_bnd]
    exact wp_nameR_own rfl (wp_ret.mpr ⟨F, sF, mF, rfl, rfl⟩)
end
end Iv

/-! k85: the tape, the subsets, what repr gives. -/
namespace Iv
open PySem L2

section
variable {l : Nat} {g : Glob}
theorem tape_ok (ns : List Int) : run prog (l + 1) 4 [.val (.scr ns)] g = some (.ok (.new (tapeC ns 0 0)), g) := by
  have := run_wp (prog := prog) (id := 4) (l := l) (args := [.val (.scr ns)]) (g := g) (Q := fun r g' => r = .new (tapeC ns 0 0) ∧ g' = g) (ir := ir4) rfl ?_
  · obtain ⟨r, g', e, rfl, rfl⟩ := this
    exact e
  show Wp _ (retM (lstM [oUn listS (.n 0), ret (.val (.int 0)), ret (.val (.int 0))])) ⟨g.stk, [.val (.scr ns)], g.objs⟩ _
  simp only [retM, lstM, argsM, oUn, opd1, wp_bnd, wp_peek, wp_lift, wp_ret]
  exact ⟨_, rfl, _, rfl, rfl, trivial⟩
theorem inc_snoc {d : List Int} {m : Int} (h : Inc (d ++ [m])) : Inc d ∧ ∀ x ∈ d, x < m := by
  obtain ⟨h1, _, h3⟩ := List.pairwise_append.mp h
  exact ⟨h1, fun x hx => h3 x hx m (by simp)⟩
/-- the subsets grow by one member -/
theorem subs_step {d : List Int} {m : Int} {F : List (List Int)} (hd : Inc (d ++ [m])) (hF : ∀ h, h ∈ F ↔ Inc h ∧ Within h d) (h : List Int) : h ∈ F ++ F.map (fun o => o ++ [m]) ↔ Inc h ∧ Within h (d ++ [m]) := by
  obtain ⟨id, lt⟩ := inc_snoc hd
  rw [List.mem_append, List.mem_map, hF]
  constructor
  · rintro (⟨i, w⟩ | ⟨o, ho, rfl⟩)
    · exact ⟨i, fun x hx => List.mem_append_left _ (w x hx)⟩
    · obtain ⟨i, w⟩ := (hF o).mp ho
      refine ⟨List.pairwise_append.mpr ⟨i, by simp, fun a ha b hb => ?_⟩, fun x hx => ?_⟩
      · rw [List.mem_singleton.mp hb]
        exact lt a (w a ha)
      · rcases List.mem_append.mp hx with hx | hx
        · exact List.mem_append_left _ (w x hx)
        · exact List.mem_append_right _ hx
  · rintro ⟨i, w⟩
    by_cases hm : m ∈ h
    · right
      refine ⟨h.filter fun x => decide (x ≠ m), (hF _).mpr ⟨i.filter _, fun x hx => ?_⟩, ?_⟩
      · obtain ⟨h1, h2⟩ := List.mem_filter.mp hx
        rcases List.mem_append.mp (w x h1) with q | q
        · exact q
        · rw [List.mem_singleton.mp q] at h2
          simp at h2
      · refine Inc.eq (List.pairwise_append.mpr ⟨i.filter _, by simp, fun a ha b hb => ?_⟩) i fun x => ?_
        · rw [List.mem_singleton.mp hb]
          obtain ⟨h1, h2⟩ := List.mem_filter.mp ha
          rcases List.mem_append.mp (w a h1) with q | q
          · exact lt a q
          · rw [List.mem_singleton.mp q] at h2
            simp at h2
        · rw [List.mem_append, List.mem_filter, List.mem_singleton, decide_eq_true_iff]
          constructor
          · rintro (q | rfl)
            · exact q.1
            · exact hm
          · intro hx
            by_cases hxm : x = m
            · exact .inr hxm
            · exact .inl ⟨hx, hxm⟩
    · left
      refine ⟨i, fun x hx => ?_⟩
      rcases List.mem_append.mp (w x hx) with q | q
      · exact q
      · rw [List.mem_singleton.mp q] at hx
        exact absurd hx hm
theorem subsets_ok {B : List Int} (iB : Inc B) (hB : B.length ≤ 6) : ∃ F : List (List Int), F.length ≤ 64 ∧ (∀ h, h ∈ F ↔ Inc h ∧ Within h B) ∧ run prog (l + 1) 5 [.val (.lst (B.map .int))] g = some (.ok (.new (.lst (F.map vt))), g) := by
  have := run_wp (prog := prog) (id := 5) (l := l) (args := [.val (.lst (B.map .int))]) (g := g) (Q := fun r g' => ∃ F : List (List Int), F.length ≤ 64 ∧ (∀ h, h ∈ F ↔ Inc h ∧ Within h B) ∧ r = .new (.lst (F.map vt)) ∧ g' = g) (ir := ir5) rfl ?_
  · obtain ⟨r, g', e, F, h1, h2, rfl, rfl⟩ := this
    exact ⟨F, h1, h2, e⟩
  show Wp (run prog l) (seqM (asgM 1 (lstM [tupM []])) (seqM (forM (itemsM (nameC 0)) (Tgt.put (.name 2)) (asgM 1 (oBin opAdd (.n 1) (.e (compM (itemsM (nameC 1)) [3] (Tgt.put (.name 3)) (ret true) (oBin opAdd (.n 3) (.e (tupM [nameC 2])))))))) (retM (nameR 1)))) ⟨g.stk, [.val (.lst (B.map .int)), .no, .no, .no], g.objs⟩ _
  rw [wp_seq]
  simp only [asgM, wp_bnd, lstM, tupM, argsM, wp_ret, wp_setName, doM, slot_new, wp_seq, fz_val]
  refine ⟨.no, rfl, rfl, ?_⟩
  unfold forM itemsM
  simp only [wp_bnd]
  refine wp_nameV rfl (wp_lift.mpr ⟨_, rfl, ?_⟩)
  refine wp_forV Val.int (fun d m => ∃ (F : List (List Int)) (s2 : Slot), s2.locked = false ∧ F.length ≤ 2 ^ d.length ∧ (∀ h, h ∈ F ↔ Inc h ∧ Within h d) ∧ m = ⟨g.stk, [.val (.lst (B.map .int)), .own (.lst (F.map vt)), s2, .no], g.objs⟩) ⟨[[]], .no, rfl, Nat.le_refl _, fun h => ?_, rfl⟩ ?_ ?_
  · rw [List.mem_singleton]
    constructor
    · rintro rfl
      exact ⟨.nil, fun x hx => (List.not_mem_nil hx).elim⟩
    · rintro ⟨_, w⟩
      cases h with
      | nil => rfl
      | cons x _ => exact (List.not_mem_nil (w x List.mem_cons_self)).elim
  · rintro d m r mm e ⟨F, s2, hs2, hFl, mF, rfl⟩
    have idm : Inc (d ++ [m]) := by
      rw [e] at iB
      have : d ++ m :: r = (d ++ [m]) ++ r := by simp
      rw [this] at iB
      exact (List.pairwise_append.mp iB).1
    have dl : d.length < 6 := by
      have := congrArg List.length e
      simp at this
      omega
    have Fl : F.length ≤ 32 := Nat.le_trans hFl (Nat.le_trans (Nat.pow_le_pow_right (by decide) (show d.length ≤ 5 by omega)) (by decide))
    have hh6 : ∀ h ∈ F, h.length ≤ 6 := fun h hh => by
      obtain ⟨i, w⟩ := (mF h).mp hh
      have := nd_len i.nd w
      omega
    rw [wp_put]
    refine ⟨s2, rfl, hs2, ?_⟩
    simp only [asgM, wp_bnd, oBin, opd2, wp_peek, compM, itemsM]
    refine ⟨_, rfl, ?_⟩
    rw [wp_nameC]
    refine ⟨_, rfl, wp_lift.mpr ⟨_, rfl, ?_⟩⟩
    refine wp_comp1 (xs := F) vt (fun _ => true) (fun o => vt (o ++ [m])) .no rfl rfl (fun x hx => rfl) (fun o ho _ => ⟨.val (vt (o ++ [m])), rfl, ?_⟩) (by unfold lim; omega) ?_
    · have ea : opAdd (vt o) (.tup [.int m]) = some (.val (vt (o ++ [m]))) := by
        show (if (o.map Val.int).length + [Val.int m].length ≤ lim then some (Res.val (.tup (o.map Val.int ++ [Val.int m]))) else none) = _
        rw [if_pos (by rw [List.length_map]; have := hh6 o ho; simp; unfold lim; omega)]
        show _ = some (Res.val (.tup ((o ++ [m]).map .int)))
        rw [List.map_append]
        rfl
      have : ∀ (k : CallF), oBin opAdd (.n 3) (.e (tupM [nameC 2])) k ⟨g.stk, [.val (.lst (B.map .int)), .val (.lst (F.map vt)), .val (.int m), .val (vt o)], g.objs⟩ = some (.ok (.val (vt (o ++ [m]))), ⟨g.stk, [.val (.lst (B.map .int)), .val (.lst (F.map vt)), .val (.int m), .val (vt o)], g.objs⟩) := by
        intro k
        simp [oBin, opd2, bnd, peek, peekE, tupM, argsM, nameC, ret, Res.fz, lift, ea]
      exact this (run prog l)
    · have e1 : ∀ l : List (List Int), l.filter (fun _ => true) = l := fun l => by simp
      rw [e1]
      simp only [wp_peek, wp_lift, wp_setName, doM, wp_bnd, wp_ret]
      refine ⟨.lst (F.map vt), rfl, .new (.lst ((F ++ F.map fun o => o ++ [m]).map vt)), ?_, .val (.lst (F.map vt)), rfl, rfl, ?_⟩
      · show (if (F.map vt).length + (F.map fun o => vt (o ++ [m])).length ≤ lim then some (Res.new (.lst (F.map vt ++ F.map fun o => vt (o ++ [m])))) else none) = _
        rw [if_pos (by rw [List.length_map, List.length_map]; unfold lim; omega), List.map_append, List.map_map]
        rfl
      · refine ⟨F ++ F.map fun o => o ++ [m], .val (.int m), rfl, ?_, subs_step idm mF, rfl⟩
        rw [List.length_append, List.length_map, List.length_append, List.length_singleton, Nat.pow_succ]
        omega
  · rintro m ⟨F, s2, hs2, hFl, mF, rfl⟩
    unfold retM
    rw [wp_bnd]
    exact wp_nameR_own rfl (wp_ret.mpr ⟨F, Nat.le_trans hFl (Nat.le_trans (Nat.pow_le_pow_right (by decide) hB) (by decide)), mF, rfl, rfl⟩)
end
/-! what is shown -/
def rp (L : List (List Int)) : Str := PyData.shown (Val.lst (L.map vt)).data
def Small (L : List (List Int)) : Prop := L.length ≤ 64 ∧ ∀ o ∈ L, o.length ≤ 6 ∧ ∀ x ∈ o, -20 ≤ x ∧ x < 46
theorem datas_vts : ∀ L : List (List Int), Val.datas (L.map vt) = L.map fun o => PyData.tuple (o.map PyData.int)
  | [] => rfl
  | o :: L => by
    simp only [List.map_cons, Val.datas, datas_vts L]
    show (PyData.tuple (Val.datas (o.map .int))) :: _ = _
    rw [datas_ints]
theorem int_short : ∀ n : Nat, n < 66 → (PyData.shown (.int ((n : Int) - 20))).length ≤ 8 := by decide +kernel
theorem leaf_ints : ∀ o : List Int, (∀ x ∈ o, -20 ≤ x ∧ x < 46) → PyData.leavesShortAll 8 (o.map PyData.int) = true ∧ PyData.bulkAll (o.map PyData.int) = o.length ∧ PyData.showableAll (o.map PyData.int) = true
  | [], _ => ⟨rfl, rfl, rfl⟩
  | x :: o, h => by
    obtain ⟨h1, h2, h3⟩ := leaf_ints o fun y hy => h y (List.mem_cons_of_mem _ hy)
    obtain ⟨b1, b2⟩ := h x List.mem_cons_self
    have sh : (PyData.shown (.int x)).length ≤ 8 := by
      have := int_short (x + 20).toNat (by omega)
      have e : (((x + 20).toNat : Nat) : Int) - 20 = x := by omega
      rw [e] at this
      exact this
    have lg : x.natAbs.log2 < 1920 := PySem.Spec.log2_small (Nat.lt_of_lt_of_le (show x.natAbs < 64 by omega) (by decide +kernel))
    simp only [List.map_cons, PyData.leavesShortAll, PyData.leavesShort, PyData.bulkAll, PyData.bulk, PyData.showableAll, PyData.showable, h1, h2, h3, Bool.and_true, decide_eq_true_eq, List.length_cons]
    exact ⟨sh, by omega, lg⟩
theorem leaf_sets : ∀ L : List (List Int), (∀ o ∈ L, o.length ≤ 6 ∧ ∀ x ∈ o, -20 ≤ x ∧ x < 46) → PyData.leavesShortAll 8 (L.map fun o => PyData.tuple (o.map PyData.int)) = true ∧ PyData.bulkAll (L.map fun o => PyData.tuple (o.map PyData.int)) ≤ 7 * L.length ∧ PyData.showableAll (L.map fun o => PyData.tuple (o.map PyData.int)) = true
  | [], _ => ⟨rfl, Nat.le_refl _, rfl⟩
  | o :: L, h => by
    obtain ⟨h1, h2, h3⟩ := leaf_sets L fun y hy => h y (List.mem_cons_of_mem _ hy)
    obtain ⟨b1, b2⟩ := h o List.mem_cons_self
    obtain ⟨q1, q2, q3⟩ := leaf_ints o b2
    simp only [List.map_cons, PyData.leavesShortAll, PyData.leavesShort, PyData.bulkAll, PyData.bulk, PyData.showableAll, PyData.showable, h1, h3, q1, q2, q3, Bool.and_true, List.length_cons]
    exact ⟨trivial, by omega, trivial⟩
theorem repr_ok {L : List (List Int)} (h : Small L) : bRepr (.lst (L.map vt)) = some (.val (.str (rp L))) := by
  obtain ⟨h1, h2, h3⟩ := leaf_sets L h.2
  have ed : (Val.lst (L.map vt)).data = .list (L.map fun o => PyData.tuple (o.map PyData.int)) := by
    show PyData.list (Val.datas (L.map vt)) = _
    rw [datas_vts]
  have ok : Val.ok 60 (.lst (L.map vt)) = true := by
    have : ∀ L : List (List Int), Val.oks 59 (L.map vt) = true := by
      intro L
      induction L with
      | nil => rfl
      | cons o L ih =>
        simp only [List.map_cons, Val.oks, ih, Bool.and_true]
        show Val.oks 58 (o.map .int) = true
        exact oks_ints o 58
    exact this L
  have sh : PyData.showable (Val.lst (L.map vt)).data = true := by
    rw [ed]
    simpa only [PyData.showable] using h3
  have ln : (PyData.shown (Val.lst (L.map vt)).data).length ≤ lim := by
    have q := PyData.shown_le_bulk 8 (by decide) (Val.lst (L.map vt)).data (by rw [ed]; simpa only [PyData.leavesShort] using h1)
    have b : PyData.bulk (Val.lst (L.map vt)).data ≤ 7 * L.length := by
      rw [ed]
      simpa only [PyData.bulk] using h2
    have := h.1
    unfold lim
    have q2 := Nat.mul_le_mul_left 10 b
    omega
  unfold bRepr
  rw [if_pos (by rw [ok, sh]; simpa using ln)]
  rfl
end Iv

/-! k85: the law. -/
namespace Iv
open PySem L2

theorem range_split {n x : Nat} {d r : List Nat} (e : List.range n = d ++ x :: r) : x = d.length ∧ x < n := by
  have h : (List.range n)[d.length]? = some x := by rw [e]; simp
  have hl : d.length < n := by
    have := congrArg List.length e
    simp at this
    omega
  rw [List.getElem?_range hl] at h
  cases h
  exact ⟨rfl, hl⟩
theorem eq_ints (a b : Int) : cEq (.int a) (.int b) = some (a == b) := rfl
theorem op_mul (a : Int) {b : Int} (h : mulOk b = true) : opMul (.int a) (.int b) = some (.val (.int (a * b))) := by
  simp only [opMul, h, Bool.or_true, if_true]
/-- members so far -/
structure Mem85 (n : Nat) (B : List Int) : Prop where
  len : B.length = n
  inc : Inc B
  lo : ∀ x ∈ B, -20 ≤ x
  hi : ∀ x ∈ B, x < (n : Int) * 11 - 20
theorem Mem85.snoc {n : Nat} {B : List Int} (h : Mem85 n B) {d : Int} (h1 : 0 ≤ d) (h2 : d < 11) : Mem85 (n + 1) (B ++ [(n : Int) * 11 - 20 + d]) := by
  refine ⟨by simp [h.len], List.pairwise_append.mpr ⟨h.inc, by simp, fun a ha b hb => ?_⟩, fun x hx => ?_, fun x hx => ?_⟩
  · rw [List.mem_singleton.mp hb]
    have := h.hi a ha
    omega
  · rcases List.mem_append.mp hx with q | q
    · exact h.lo x q
    · rw [List.mem_singleton.mp q]; omega
  · rcases List.mem_append.mp hx with q | q
    · have := h.hi x q
      omega
    · rw [List.mem_singleton.mp q]; omega
/-- a frame of the law -/
abbrev ev (ns : List Int) (K s : Int) (s2 s3 s4 s5 s6 s7 s8 s9 s10 s11 : Slot) : Env := [.val (.scr ns), .own (tapeC ns K s), s2, s3, s4, s5, s6, s7, s8, s9, s10, s11]
theorem draw3 : prog 3 = some (defM 6 irDraw.M) := rfl
/-- a draw in the law's frame -/
theorem wp_dr {l : Nat} {ns : List Int} {K s many : Int} {s2 s3 s4 s5 s6 s7 s8 s9 s10 s11 : Slot} {Q : Res → Mem → Prop} (hm : 0 < many) (hm2 : many < 1073741824) (hK : 0 ≤ K)
    (q : ∀ dg K' s', 0 ≤ dg → dg < many → 0 ≤ K' → Q (.val (.int dg)) ⟨[], ev ns K' s' s2 s3 s4 s5 s6 s7 s8 s9 s10 s11, []⟩) : Wp (run prog (l + 1)) (bnd (argL [argR 1, argC (ret (.val (.int many)))]) (callM 3)) ⟨[], ev ns K s s2 s3 s4 s5 s6 s7 s8 s9 s10 s11, []⟩ Q :=
  wp_drawArgs rfl (wp_ret.mpr (wp_draw draw3 rfl hm hm2 hK fun dg K' s' h1 h2 h3 => q dg K' s' h1 h2 h3))
theorem small_ok {i : Int} (h1 : -1000 ≤ i) (h2 : i ≤ 1000) : small i = true := by
  unfold small
  rw [decide_eq_true_iff]
  omega
theorem wp_range1 {k : CallF} {m : Mem} {x : M Res} {Q : List Val → Mem → Prop} (h : Wp k x m fun r m' => ∃ n : Int, r = .val (.int n) ∧ 0 ≤ n ∧ n ≤ 1000 ∧ Q ((List.range n.toNat).map fun j : Nat => Val.int j) m') : Wp k (Iv.range1 x) m Q := by
  unfold Iv.range1
  rw [wp_bnd]
  refine h.mono fun r m' ⟨n, e, h1, h2, q⟩ => ?_
  subst e
  show Wp k (lift (rangeV 0 n)) m' Q
  rw [wp_lift]
  refine ⟨_, ?_, q⟩
  unfold rangeV
  rw [if_pos (by rw [small_ok (by omega) (by omega), small_ok (by omega) (by omega)]; rfl), rangeL_map, Int.sub_zero]
  congr 1
  refine List.map_congr_left fun j _ => ?_
  rw [Int.zero_add]
section
variable {l : Nat} {ns : List Int}
/-- the members -/
theorem law_members {K s : Int} {s3 s4 s5 s6 s7 s8 s9 s10 s11 : Slot} (hs3 : s3.locked = false) (hK : 0 ≤ K) {Q : Flow → Mem → Prop} (q : ∀ K s B n s3, 0 ≤ K → Mem85 n B → 1 ≤ n → n ≤ 6 → s3.locked = false → Q .nx ⟨[], ev ns K s (.own (.lst (B.map .int))) s3 s4 s5 s6 s7 s8 s9 s10 s11, []⟩) :
    Wp (run prog (l + 1)) (forM (Iv.range1 (oBin opAdd (.e (ret (.val (.int 1)))) (.e (bnd (argL [argR 1, argC (ret (.val (.int 6)))]) (callM 3))))) (Tgt.put (.name 3))
      (doM (Iv.mth1 2 lAppend (oBin opAdd (.e (oBin opSub (.e (oBin opMul (.n 3) (.e (ret (.val (.int 11)))))) (.e (ret (.val (.int 20)))))) (.e (bnd (argL [argR 1, argC (ret (.val (.int 11)))]) (callM 3))))))) ⟨[], ev ns K s (.own (.lst [])) s3 s4 s5 s6 s7 s8 s9 s10 s11, []⟩ Q := by
  unfold forM
  rw [wp_bnd]
  refine wp_range1 ?_
  unfold oBin opd2
  rw [wp_bnd, wp_ret, wp_bnd]
  refine wp_dr (by decide) (by decide) hK fun d K1 s1 d1 d2 hK1 => ?_
  rw [wp_lift]
  refine ⟨_, rfl, 1 + d, rfl, by omega, by omega, ?_⟩
  refine wp_forV (fun j : Nat => Val.int j) (fun dn m => ∃ K s B s3, 0 ≤ K ∧ Mem85 dn.length B ∧ s3.locked = false ∧ m = ⟨[], ev ns K s (.own (.lst (B.map .int))) s3 s4 s5 s6 s7 s8 s9 s10 s11, []⟩) ⟨K1, s1, [], s3, hK1, ⟨rfl, .nil, by simp, by simp⟩, hs3, rfl⟩ ?_ ?_
  · rintro dn x r m e ⟨K2, s2, B, s3, hK2, hB, hs3, rfl⟩
    obtain ⟨rfl, hx⟩ := range_split e
    rw [wp_put]
    refine ⟨s3, rfl, hs3, ?_⟩
    unfold doM mth1 peekL
    simp only [wp_bnd, wp_peek, wp_ret]
    refine ⟨_, rfl, wp_ret.mpr ?_⟩
    simp only [oBin, opd2, wp_bnd, wp_peek, wp_ret, wp_lift]
    refine ⟨.int dn.length, rfl, .int dn.length, rfl, .val (.int ((dn.length : Int) * 11)), op_mul _ (b := 11) (by decide), _, rfl, ?_⟩
    refine wp_bnd.mp (wp_dr (many := 11) (by decide) (by decide) hK2 fun d K3 s4' d1 d2 hK3 => ?_)
    refine ⟨_, rfl, ?_⟩
    refine wp_chg_own (c := .lst (B.map .int)) (c' := .lst ((B ++ [(dn.length : Int) * 11 - 20 + d]).map .int)) (a := .non) rfl ?_ ?_
    · show (if (B.map Val.int).length < lim then some (Cell.lst (B.map Val.int ++ [Val.int ((dn.length : Int) * 11 - 20 + d)]), Val.non) else none) = _
      rw [if_pos (by rw [List.length_map, hB.len]; unfold lim; omega), List.map_append]
      rfl
    · exact ⟨K3, s4', _, .val (.int dn.length), hK3, by rw [List.length_append, List.length_singleton]; exact hB.snoc d1 d2, rfl, rfl⟩
  · rintro m ⟨K2, s2, B, s3, hK2, hB, hs3, rfl⟩
    rw [List.length_range] at hB
    exact q K2 s2 B _ s3 hK2 hB (by omega) (by omega) hs3
/-- the sets -/
theorem law_sets {B : List Int} {n : Nat} (hB : Mem85 n B) (hn1 : 1 ≤ n) (hn : n ≤ 6) {K s : Int} {s3 : Slot} (hs3 : s3.locked = false) (hK : 0 ≤ K) {Q : Flow → Mem → Prop}
    (q : ∀ (K s : Int) (S : List (List Int)) (s2 s3 s7 s9 : Slot), 0 ≤ K → S.length ≤ 6 → (∀ o ∈ S, Inc o ∧ Within o B) → (s2 = .own (.lst (B.map .int)) ∨ s2 = .val (.lst (B.map .int))) → s3.locked = false → s7.locked = false → Q .nx ⟨[], ev ns K s s2 s3 (.own (.lst (S.map vt))) .no .no s7 .no s9 .no .no, []⟩) :
    Wp (run prog (l + 1)) (forM (Iv.range1 (bnd (argL [argR 1, argC (ret (.val (.int 7)))]) (callM 3))) (Tgt.put (.name 3)) (seqM (asgM 9 (bnd (argL [argR 1, argC (ret (.val (.int 12)))]) (callM 3)))
      (seqM (asgM 7 (compM (itemsM (nameC 2)) [10] (Tgt.put (.name 10)) (oCmp cEq (.e (bnd (argL [argR 1, argC (ret (.val (.int 3)))]) (callM 3))) (.e (ret (.val (.int 0))))) (nameC 10)))
      (seqM (ifM (oCmp cEq (.n 9) (.e (ret (.val (.int 0))))) (asgM 7 (lstM [])) (ifM (andM (oCmp cGt (.n 9) (.e (ret (.val (.int 2))))) (oCmp cEq (.e (oUn lenS (.n 7))) (.e (ret (.val (.int 0)))))) (asgM 7 (lstM [oBin indexS (.n 2) (.e (bnd (argL [argR 1, argC (oUn lenS (.n 2))]) (callM 3)))])) (ret .nx)))
      (doM (Iv.mth1 4 lAppend (oUn bTuple (.n 7)))))))) ⟨[], ev ns K s (.own (.lst (B.map .int))) s3 (.own (.lst [])) .no .no .no .no .no .no .no, []⟩ Q := by
  unfold forM
  rw [wp_bnd]
  refine wp_range1 ?_
  refine wp_dr (many := 7) (by decide) (by decide) hK fun d K1 s1 d1 d2 hK1 => ?_
  refine ⟨d, rfl, d1, by omega, ?_⟩
  refine wp_forV (fun j : Nat => Val.int j) (fun dn m => ∃ (K s : Int) (S : List (List Int)) (s2 s3 s7 s9 : Slot), 0 ≤ K ∧ S.length = dn.length ∧ (∀ o ∈ S, Inc o ∧ Within o B) ∧ (s2 = .own (.lst (B.map .int)) ∨ s2 = .val (.lst (B.map .int))) ∧ s3.locked = false ∧ s7.locked = false ∧ s9.locked = false ∧ m = ⟨[], ev ns K s s2 s3 (.own (.lst (S.map vt))) .no .no s7 .no s9 .no .no, []⟩)
    ⟨K1, s1, [], _, s3, .no, .no, hK1, rfl, by simp, .inl rfl, hs3, rfl, rfl, rfl⟩ ?_ ?_
  · rintro dn x r m e ⟨K2, s2', S, s2, s3, s7, s9, hK2, hSl, hS, h2, hs3, hs7, hs9, rfl⟩
    obtain ⟨rfl, hx⟩ := range_split e
    rw [wp_put]
    refine ⟨s3, rfl, hs3, ?_⟩
    simp only [wp_seq, asgM, wp_bnd, doM, wp_setName, wp_ret]
    refine wp_bnd.mp (wp_dr (many := 12) (by decide) (by decide) hK2 fun size K3 s3' z1 z2 hK3 => ?_)
    refine ⟨s9, rfl, hs9, ?_⟩
    -- the members, some of them
    unfold compM itemsM
    simp only [wp_bnd]
    rw [wp_nameC]
    have nm : nameE ⟨[], ev ns K3 s3' s2 (.val (.int dn.length)) (.own (.lst (S.map vt))) .no .no s7 .no (.val (.int size)) .no .no, []⟩ 2 = some (.val (.lst (B.map .int)), ⟨[], ev ns K3 s3' (.val (.lst (B.map .int))) (.val (.int dn.length)) (.own (.lst (S.map vt))) .no .no s7 .no (.val (.int size)) .no .no, []⟩) := by
      rcases h2 with rfl | rfl <;> rfl
    refine ⟨_, nm, wp_lift.mpr ⟨_, rfl, ?_⟩⟩
    refine wp_compG (xs := B) Val.int .no (fun d acc m => ∃ K s o, 0 ≤ K ∧ acc = o.map Val.int ∧ List.Sublist o d ∧ m = ⟨[], ev ns K s (.val (.lst (B.map .int))) (.val (.int dn.length)) (.own (.lst (S.map vt))) .no .no s7 .no (.val (.int size)) .no .no, []⟩) rfl rfl (by rw [hB.len]; unfold lim; omega) ⟨K3, s3', [], hK3, rfl, .slnil, rfl⟩ ?_ ?_ ?_
    · rintro d acc m ⟨K, s, o, _, _, _, rfl⟩
      rfl
    · rintro d x r acc m e ⟨K4, s4, o, hK4, rfl, so, rfl⟩
      unfold oCmp opd2
      simp only [wp_bnd, wp_ret, wp_lift]
      refine wp_bnd.mp (wp_dr (many := 3) (by decide) (by decide) hK4 fun dg K5 s5' g1 g2 hK5 => ?_)
      refine ⟨_, eq_ints dg 0, ?_⟩
      cases hb : dg == 0 with
      | true =>
        simp only [if_true]
        refine wp_nameV rfl ⟨rfl, K5, s5', o ++ [x], hK5, by simp; rfl, so.append (List.Sublist.refl _), rfl⟩
      | false =>
        simp only [Bool.false_eq_true, if_false]
        exact ⟨rfl, K5, s5', o, hK5, rfl, so.trans (List.sublist_append_left _ _), rfl⟩
    rintro acc m ⟨K4, s4', o, hK4, rfl, so, rfl⟩
    refine ⟨s7, rfl, hs7, ?_⟩
    have io : Inc o := hB.inc.sublist so
    have wo : Within o B := so.subset
    -- the end of the round
    have fin : ∀ (K s : Int) (o : List Int), 0 ≤ K → Inc o → Within o B → Wp (run prog (l + 1)) (Iv.mth1 4 lAppend (oUn bTuple (.n 7))) ⟨[], ev ns K s (.val (.lst (B.map .int))) (.val (.int dn.length)) (.own (.lst (S.map vt))) .no .no (.own (.lst (o.map .int))) .no (.val (.int size)) .no .no, []⟩ fun _ m => ∃ (K s : Int) (S' : List (List Int)) (s2 s3 s7 s9 : Slot), 0 ≤ K ∧ S'.length = (dn ++ [dn.length]).length ∧ (∀ o ∈ S', Inc o ∧ Within o B) ∧ (s2 = .own (.lst (B.map .int)) ∨ s2 = .val (.lst (B.map .int))) ∧ s3.locked = false ∧ s7.locked = false ∧ s9.locked = false ∧ m = ⟨[], ev ns K s s2 s3 (.own (.lst (S'.map vt))) .no .no s7 .no s9 .no .no, []⟩ := by
      intro K s o hK io wo
      unfold Iv.mth1 peekL oUn opd1
      simp only [wp_bnd, wp_peek, wp_ret, wp_lift]
      refine ⟨_, rfl, wp_ret.mpr ⟨_, rfl, _, rfl, ?_⟩⟩
      refine wp_chg_own (c := .lst (S.map vt)) (c' := .lst ((S ++ [o]).map vt)) (a := .non) rfl ?_ ?_
      · show (if (S.map vt).length < lim then some (Cell.lst (S.map vt ++ [vt o]), Val.non) else none) = _
        rw [if_pos (by rw [List.length_map, hSl]; unfold lim; omega), List.map_append]
        rfl
      · exact ⟨K, s, S ++ [o], _, .val (.int dn.length), _, .val (.int size), hK, by simp [hSl], fun p hp => by
          rcases List.mem_append.mp hp with hp | hp
          · exact hS p hp
          · rw [List.mem_singleton.mp hp]; exact ⟨io, wo⟩, .inr rfl, rfl, rfl, rfl, rfl⟩
    rw [wp_if]
    simp only [oCmp, opd2, wp_bnd, wp_peek, wp_ret, wp_lift]
    refine ⟨_, rfl, .int size, rfl, _, eq_ints size 0, ?_⟩
    cases hb : size == 0 with
    | true =>
      simp only [if_true]
      simp only [asgM, lstM, argsM, wp_bnd, wp_ret, doM, wp_setName, slot_new]
      refine ⟨_, rfl, rfl, ?_⟩
      exact fin K4 s4' [] hK4 .nil fun x hx => (List.not_mem_nil hx).elim
    | false =>
      simp only [Bool.false_eq_true, if_false]
      rw [wp_if]
      simp only [andM, oCmp, oUn, opd1, opd2, wp_bnd, wp_peek, wp_ret, wp_lift]
      refine ⟨_, rfl, .int size, rfl, _, rfl, ?_⟩
      cases hb2 : decide ((2 : Int) < size) with
      | false =>
        simp only [Bool.false_eq_true, if_false]
        rw [wp_ret]
        simp only [Bool.false_eq_true, if_false]
        exact fin K4 s4' o hK4 io wo
      | true =>
        simp only [if_true]
        simp only [wp_bnd, wp_peek, wp_ret, wp_lift]
        refine ⟨_, rfl, _, rfl, _, eq_ints _ 0, ?_⟩
        cases hb3 : (((o.map Val.int).length : Int) == 0) with
        | false =>
          simp only [Bool.false_eq_true, if_false]
          exact fin K4 s4' o hK4 io wo
        | true =>
          simp only [if_true]
          simp only [asgM, lstM, argsM, wp_bnd, oBin, opd2, wp_peek]
          refine ⟨_, rfl, wp_bnd.mp (wp_drawArgs rfl ?_)⟩
          simp only [oUn, opd1, wp_bnd, wp_peek, wp_lift]
          refine ⟨_, rfl, .val (.int ((B.map Val.int).length : Nat)), rfl, ?_⟩
          refine wp_draw (many := ((B.map Val.int).length : Nat)) draw3 rfl (by rw [List.length_map, hB.len]; omega) (by rw [List.length_map, hB.len]; omega) hK4 fun dg K5 s5' g1 g2 hK5 => ?_
          obtain ⟨j, rfl⟩ : ∃ j : Nat, dg = j := ⟨dg.toNat, by omega⟩
          have hj : j < B.length := by
            rw [List.length_map] at g2
            omega
          simp only [wp_bnd, wp_peek, wp_lift, wp_ret, doM, wp_setName, slot_new, fz_val]
          refine ⟨_, rfl, .val (.int B[j]), ?_, _, rfl, rfl, ?_⟩
          · show (atV (B.map Val.int) (j : Int)).map Res.val = _
            rw [atV_nat]
            simp [hj]
          · exact fin K5 s5' [B[j]] hK5 (by simp) fun x hx => by
              rw [List.mem_singleton.mp hx]
              exact List.getElem_mem hj
  · rintro m ⟨K2, s2', S, s2, s3, s7, s9, hK2, hSl, hS, h2, hs3, hs7, hs9, rfl⟩
    rw [List.length_range] at hSl
    exact q K2 s2' S s2 s3 s7 s9 hK2 (by omega) hS h2 hs3 hs7
end
end Iv

/-! k85: the law, to its end. -/
namespace Iv
open PySem L2

theorem eq_strs (a b : Str) : cEq (.str a) (.str b) = some (decide (a = b)) := rfl
theorem ne_strs (a b : Str) : cNe (.str a) (.str b) = some (!decide (a = b)) := rfl
theorem small_of {B : List Int} {n : Nat} (hB : Mem85 n B) (hn : n ≤ 6) {L : List (List Int)} (h1 : L.length ≤ 64) (h2 : ∀ o ∈ L, Inc o ∧ Within o B) : Small L := by
  refine ⟨h1, fun o ho => ?_⟩
  obtain ⟨i, w⟩ := h2 o ho
  refine ⟨?_, fun x hx => ?_⟩
  · have := nd_len i.nd w
    rw [hB.len] at this
    omega
  · have a := hB.lo x (w x hx)
    have b := hB.hi x (w x hx)
    omega
section
variable {l : Nat} {ns : List Int}
/-- the subsets that hit all -/
theorem law_hits {B : List Int} {n : Nat} (hB : Mem85 n B) (hn : n ≤ 6) {S : List (List Int)} (hSl : S.length ≤ 6) {K s : Int} {s2 s3 s5 s7 s9 : Slot} (h2 : s2 = .own (.lst (B.map .int)) ∨ s2 = .val (.lst (B.map .int))) (hs7 : s7.locked = false) {Q : Flow → Mem → Prop}
    (q : ∀ (X : List (List Int)) (s4 s7 : Slot), X.length ≤ 64 → (∀ h, h ∈ X ↔ Inc h ∧ Within h B ∧ ∀ o ∈ S, Meets o h) → (s4 = .own (.lst (S.map vt)) ∨ s4 = .val (.lst (S.map vt))) → Q .nx ⟨[], ev ns K s (.val (.lst (B.map .int))) s3 s4 s5 (.own (.lst (X.map vt))) s7 .no s9 .no .no, []⟩) :
    Wp (run prog (l + 1)) (forM (itemsM (bnd (argL [argC (nameC 2)]) (callM 5))) (Tgt.put (.name 7)) (ifM (oCmp cNotInS (.e (ret (.val (.bool false)))) (.e (compM (itemsM (nameC 4)) [11] (Tgt.put (.name 11)) (ret true) (bnd (argL [argC (nameC 7), argC (nameC 11)]) (callM 6))))) (doM (Iv.mth1 6 lAppend (nameC 7))) (ret .nx)))
      ⟨[], ev ns K s s2 s3 (.own (.lst (S.map vt))) s5 (.own (.lst [])) s7 .no s9 .no .no, []⟩ Q := by
  obtain ⟨F, Fl, mF, eF⟩ := subsets_ok (l := l) (g := ⟨[] ++ [ev ns K s (.val (.lst (B.map .int))) s3 (.own (.lst (S.map vt))) s5 (.own (.lst [])) s7 .no s9 .no .no], []⟩) hB.inc (by rw [hB.len]; exact hn)
  unfold forM itemsM
  simp only [wp_bnd, argL, argC]
  rw [wp_nameC]
  have nm : nameE ⟨[], ev ns K s s2 s3 (.own (.lst (S.map vt))) s5 (.own (.lst [])) s7 .no s9 .no .no, []⟩ 2 = some (.val (.lst (B.map .int)), ⟨[], ev ns K s (.val (.lst (B.map .int))) s3 (.own (.lst (S.map vt))) s5 (.own (.lst [])) s7 .no s9 .no .no, []⟩) := by
    rcases h2 with rfl | rfl <;> rfl
  refine ⟨_, nm, ?_⟩
  simp only [wp_ret]
  refine wp_callP eF (wp_lift.mpr ⟨_, rfl, ?_⟩)
  have hF6 : ∀ h ∈ F, h.length ≤ 6 := fun h hh => by
    obtain ⟨i, w⟩ := (mF h).mp hh
    have := nd_len i.nd w
    rw [hB.len] at this
    omega
  refine wp_forV vt (fun d m => ∃ (s4 s7 : Slot), (s4 = .own (.lst (S.map vt)) ∨ s4 = .val (.lst (S.map vt))) ∧ s7.locked = false ∧ m = ⟨[], ev ns K s (.val (.lst (B.map .int))) s3 s4 s5 (.own (.lst ((d.filter fun h => S.all fun o => h.any fun x => decide (x ∈ o)).map vt))) s7 .no s9 .no .no, []⟩) ⟨_, s7, .inl rfl, hs7, rfl⟩ ?_ ?_
  · rintro d h r m e ⟨s4, s7, h4, hs7, rfl⟩
    have hh : h ∈ F := by rw [e]; simp
    have hl6 := hF6 h hh
    have dl : d.length < 64 := by
      have := congrArg List.length e
      simp at this
      omega
    rw [wp_put]
    refine ⟨s7, rfl, hs7, ?_⟩
    rw [wp_if]
    simp only [oCmp, opd2, wp_bnd, wp_ret, compM, itemsM]
    rw [wp_nameC]
    have nm4 : nameE ⟨[], ev ns K s (.val (.lst (B.map .int))) s3 s4 s5 (.own (.lst ((d.filter fun h => S.all fun o => h.any fun x => decide (x ∈ o)).map vt))) (.val (vt h)) .no s9 .no .no, []⟩ 4 = some (.val (.lst (S.map vt)), ⟨[], ev ns K s (.val (.lst (B.map .int))) s3 (.val (.lst (S.map vt))) s5 (.own (.lst ((d.filter fun h => S.all fun o => h.any fun x => decide (x ∈ o)).map vt))) (.val (vt h)) .no s9 .no .no, []⟩) := by
      rcases h4 with rfl | rfl <;> rfl
    refine ⟨_, nm4, wp_lift.mpr ⟨_, rfl, ?_⟩⟩
    refine wp_comp1 (xs := S) vt (fun _ => true) (fun o => .bool (h.any fun x => decide (x ∈ o))) .no rfl rfl (fun x hx => rfl) (fun o ho _ => ⟨.val (.bool (h.any fun x => decide (x ∈ o))), rfl, ?_⟩) (by unfold lim; omega) ?_
    · have e1 := lmeets_ok (l := l) (a := h) (b := o) (g := ⟨[] ++ [ev ns K s (.val (.lst (B.map .int))) s3 (.val (.lst (S.map vt))) s5 (.own (.lst ((d.filter fun h => S.all fun o => h.any fun x => decide (x ∈ o)).map vt))) (.val (vt h)) .no s9 .no (.val (vt o))], []⟩) (by unfold lim; omega)
      have : bnd (argL [argC (nameC 7), argC (nameC 11)]) (callM 6) (run prog (l + 1)) ⟨[], ev ns K s (.val (.lst (B.map .int))) s3 (.val (.lst (S.map vt))) s5 (.own (.lst ((d.filter fun h => S.all fun o => h.any fun x => decide (x ∈ o)).map vt))) (.val (vt h)) .no s9 .no (.val (vt o)), []⟩ = some (.ok (.val (.bool (h.any fun x => decide (x ∈ o)))), ⟨[], ev ns K s (.val (.lst (B.map .int))) s3 (.val (.lst (S.map vt))) s5 (.own (.lst ((d.filter fun h => S.all fun o => h.any fun x => decide (x ∈ o)).map vt))) (.val (vt h)) .no s9 .no (.val (vt o)), []⟩) := by
        simp [argL, argC, bnd, nameC, ret, Res.fz, callM] at e1 ⊢
        rw [e1]
        simp
      exact this
    · have e1 : ∀ l : List (List Int), l.filter (fun _ => true) = l := fun l => by simp
      rw [e1, wp_lift]
      refine ⟨S.all fun o => h.any fun x => decide (x ∈ o), ?_, ?_⟩
      · show (cInS (.bool false) (.lst (S.map fun o => Val.bool (h.any fun x => decide (x ∈ o))))).map (!·) = _
        rw [in_boolsL]
        simp only [Option.map_some, Option.some.injEq]
        rw [List.not_any_eq_all_not]
        congr 1
        funext o
        simp
      · cases hb : S.all fun o => h.any fun x => decide (x ∈ o) with
        | false =>
          simp only [Bool.false_eq_true, if_false]
          refine ⟨_, .val (vt h), .inr rfl, rfl, ?_⟩
          rw [filter_snoc, hb]
          simp
        | true =>
          simp only [if_true]
          unfold doM Iv.mth1 peekL
          simp only [wp_bnd, wp_peek, wp_ret]
          refine ⟨_, rfl, wp_ret.mpr (wp_nameV rfl ?_)⟩
          refine wp_chg_own (c := .lst ((d.filter fun h => S.all fun o => h.any fun x => decide (x ∈ o)).map vt)) (c' := .lst ((d.filter fun h => S.all fun o => h.any fun x => decide (x ∈ o)).map vt ++ [vt h])) (a := .non) rfl ?_ ?_
          · show (if ((d.filter fun h => S.all fun o => h.any fun x => decide (x ∈ o)).map vt).length < lim then _ else _) = _
            rw [if_pos]
            · rfl
            · rw [List.length_map]
              have := List.length_filter_le (fun h => S.all fun o => h.any fun x => decide (x ∈ o)) d
              unfold lim
              omega
          · refine ⟨_, .val (vt h), .inr rfl, rfl, ?_⟩
            rw [filter_snoc, hb]
            simp
  · rintro m ⟨s4, s7, h4, hs7, rfl⟩
    refine q _ s4 s7 (Nat.le_trans (List.length_filter_le _ _) Fl) (fun h => ?_) h4
    rw [List.mem_filter, mF]
    constructor
    · rintro ⟨⟨i, w⟩, a⟩
      refine ⟨i, w, fun o ho => ?_⟩
      have := List.all_eq_true.mp a o ho
      obtain ⟨x, h1, h2⟩ := List.any_eq_true.mp this
      exact ⟨x, of_decide_eq_true h2, h1⟩
    · rintro ⟨i, w, a⟩
      refine ⟨⟨i, w⟩, List.all_eq_true.mpr fun o ho => ?_⟩
      obtain ⟨x, h1, h2⟩ := a o ho
      exact List.any_eq_true.mpr ⟨x, h2, decide_eq_true h1⟩
end
abbrev LVL : Nat := 20
theorem law_true : ∀ ns : List Int, ns.length ≤ 63 → ∃ g', run prog (LVL + 1) 9 [.val (.scr ns)] ⟨[], []⟩ = some (.ok (.val (.bool true)), g') := by
  intro ns _
  have := run_wp (prog := prog) (id := 9) (l := 20) (args := [.val (.scr ns)]) (g := ⟨[], []⟩) (Q := fun r g' => r = .val (.bool true)) (ir := ir9) rfl ?_
  · obtain ⟨r, g', e, rfl⟩ := this
    exact ⟨g', e⟩
  show Wp (run prog (19 + 1)) (seqM (asgM 1 (bnd (argL [argC (nameC 0)]) (callM 4))) (seqM (asgM 2 (lstM [])) (seqM (forM _ _ _) (seqM (asgM 4 (lstM [])) (seqM (forM _ _ _) (seqM (asgM 5 (oUn bRepr (.n 4))) (seqM (asgM 6 (lstM [])) (seqM (forM _ _ _) (seqM (asgM 8 (bnd (argL [argC (nameC 4)]) (callM 2))) (seqM (ifM (oCmp cNe (.e (oUn bRepr (.n 8))) (.e (oUn bRepr (.e (bnd (argL [argC (nameC 6)]) (callM 8)))))) (retM (ret (.val (.bool false)))) (ret .nx)) (seqM (ifM (oCmp cNe (.e (oUn bRepr (.e (bnd (argL [argC (nameC 4)]) (callM 1))))) (.e (oUn bRepr (.e (bnd (argL [argC (nameC 4)]) (callM 8)))))) (retM (ret (.val (.bool false)))) (ret .nx)) (retM (Iv.andV (oCmpV cEq (.e (oUn bRepr (.e (bnd (argL [argC (nameC 8)]) (callM 2))))) (.e (oUn bRepr (.e (bnd (argL [argC (nameC 4)]) (callM 8)))))) (oCmpV cEq (.e (oUn bRepr (.n 4))) (.n 5))))))))))))))) ⟨[], [.val (.scr ns), .no, .no, .no, .no, .no, .no, .no, .no, .no, .no, .no], []⟩ _
  rw [wp_seq]
  simp only [asgM, wp_bnd, argL, argC]
  refine wp_nameV rfl ?_
  simp only [wp_ret]
  refine wp_callP (tape_ok ns) ?_
  simp only [doM, wp_bnd, wp_setName, wp_ret, wp_seq (x := doM _)]
  refine ⟨.no, rfl, rfl, ?_⟩
  rw [wp_seq]
  simp only [asgM, lstM, argsM, wp_bnd, wp_ret, doM, wp_setName]
  refine ⟨.no, rfl, rfl, ?_⟩
  rw [wp_seq]
  refine law_members (l := 19) (K := 0) (s := 0) rfl (Int.le_refl _) fun K1 t1 B n s3 hK1 hB hn1 hn hs3 => ?_
  show Wp _ _ _ _
  rw [wp_seq]
  simp only [asgM, lstM, argsM, wp_bnd, wp_ret, doM, wp_setName]
  refine ⟨.no, rfl, rfl, ?_⟩
  rw [wp_seq]
  refine law_sets (l := 19) hB hn1 hn hs3 hK1 fun K2 t2 S s2 s3 s7 s9 hK2 hSl hS h2 hs3 hs7 => ?_
  show Wp _ _ _ _
  have smS : Small S := small_of hB hn (by omega) hS
  rw [wp_seq]
  simp only [asgM, oUn, opd1, wp_bnd, wp_peek, wp_lift, doM, wp_setName, wp_ret]
  refine ⟨_, rfl, _, repr_ok smS, .no, rfl, rfl, ?_⟩
  rw [wp_seq]
  simp only [asgM, lstM, argsM, wp_bnd, wp_ret, doM, wp_setName]
  refine ⟨.no, rfl, rfl, ?_⟩
  rw [wp_seq]
  refine law_hits (l := 19) hB hn hSl h2 hs7 fun X s4 s7 hXl mX h4 => ?_
  show Wp _ _ _ _
  have hBl : B.length ≤ 6 := by rw [hB.len]; exact hn
  have short : ∀ {L : List (List Int)}, (∀ o ∈ L, Inc o ∧ Within o B) → ∀ o ∈ L, o.length ≤ lim := fun {L} h o ho => by
    have := nd_len (h o ho).1.nd (h o ho).2
    unfold lim
    omega
  -- told
  obtain ⟨T, sT, mT, eT⟩ := hitting_ok (l := 17) (g := ⟨[] ++ [ev ns K2 t2 (.val (.lst (B.map .int))) s3 (.val (.lst (S.map vt))) (.val (.str (rp S))) (.own (.lst (X.map vt))) s7 .no s9 .no .no], []⟩) hB.inc hBl hS (by unfold lim; omega)
  have hT : ∀ o ∈ T, Inc o ∧ Within o B := fun o ho => ⟨((mT o).mp ho).inc, ((mT o).mp ho).inside fun q hq => (hS q hq).2⟩
  have Tl : T.length ≤ 64 := by
    have q := anti_le sT.nd (fun h hh => (hT h hh).1) (fun h hh => (hT h hh).2) hB.inc fun a ha b hb w => ((mT b).mp hb).min a ((mT a).mp ha).inc ((mT a).mp ha).hit w
    exact Nat.le_trans q (Nat.le_trans (Nat.pow_le_pow_right (by decide) (show B.length - 1 ≤ 5 by omega)) (by decide))
  have smT : Small T := small_of hB hn Tl hT
  rw [wp_seq]
  simp only [asgM, wp_bnd, argL, argC]
  rw [wp_nameC]
  have nm4 : nameE ⟨[], ev ns K2 t2 (.val (.lst (B.map .int))) s3 s4 (.val (.str (rp S))) (.own (.lst (X.map vt))) s7 .no s9 .no .no, []⟩ 4 = some (.val (.lst (S.map vt)), ⟨[], ev ns K2 t2 (.val (.lst (B.map .int))) s3 (.val (.lst (S.map vt))) (.val (.str (rp S))) (.own (.lst (X.map vt))) s7 .no s9 .no .no, []⟩) := by
    rcases h4 with rfl | rfl <;> rfl
  refine ⟨_, nm4, ?_⟩
  simp only [wp_ret]
  refine wp_callP eT ?_
  simp only [doM, wp_bnd, wp_setName, wp_ret]
  refine ⟨.no, rfl, rfl, ?_⟩
  -- told is what the smallest of the hits are
  obtain ⟨L1, hL1, e1⟩ := lsmallest_ok (l := 18) (X := X) (g := ⟨[] ++ [ev ns K2 t2 (.val (.lst (B.map .int))) s3 (.val (.lst (S.map vt))) (.val (.str (rp S))) (.val (.lst (X.map vt))) s7 (.own (.lst (T.map vt))) s9 .no .no], []⟩) (by unfold lim; omega) (short fun o ho => ⟨((mX o).mp ho).1, ((mX o).mp ho).2.1⟩)
  have eL1 : L1 = T := hL1.1.eq sT fun o => by
    rw [hL1.2, mT]
    exact hits_small (fun q hq => (hS q hq).2) mX o
  subst eL1
  rw [wp_seq, wp_if]
  simp only [oCmp, oUn, opd1, opd2, wp_bnd, wp_peek, wp_lift, argL, argC]
  refine ⟨_, rfl, _, repr_ok smT, ?_⟩
  rw [wp_nameC]
  refine ⟨_, rfl, ?_⟩
  simp only [wp_ret]
  refine wp_callP e1 ?_
  refine ⟨_, repr_ok smT, _, ne_strs _ _, ?_⟩
  simp only [decide_true, Bool.not_true, Bool.false_eq_true, if_false]
  -- the smallest of the sets
  obtain ⟨L2, hL2, e2⟩ := smallest_ok (l := 18) (X := S) (g := ⟨[] ++ [ev ns K2 t2 (.val (.lst (B.map .int))) s3 (.val (.lst (S.map vt))) (.val (.str (rp S))) (.val (.lst (X.map vt))) s7 (.own (.lst (L1.map vt))) s9 .no .no], []⟩) (by omega) (short hS)
  obtain ⟨L3, hL3, e3⟩ := lsmallest_ok (l := 18) (X := S) (g := ⟨[] ++ [ev ns K2 t2 (.val (.lst (B.map .int))) s3 (.val (.lst (S.map vt))) (.val (.str (rp S))) (.val (.lst (X.map vt))) s7 (.own (.lst (L1.map vt))) s9 .no .no], []⟩) (by unfold lim; omega) (short hS)
  have e23 : L3 = L2 := hL3.eq hL2
  subst e23
  have smL : Small L3 := by
    refine small_of hB hn ?_ fun o ho => hS o ((hL3.2 o).mp ho).1
    have := nd_len hL3.1.nd fun o ho => ((hL3.2 o).mp ho).1
    omega
  rw [wp_seq, wp_if]
  simp only [oCmp, oUn, opd1, opd2, wp_bnd, wp_lift, argL, argC]
  refine wp_nameV rfl ?_
  simp only [wp_ret]
  refine wp_callP e2 ⟨_, repr_ok smL, ?_⟩
  refine wp_nameV rfl ?_
  refine wp_callP e3 ⟨_, repr_ok smL, _, ne_strs _ _, ?_⟩
  simp only [decide_true, Bool.not_true, Bool.false_eq_true, if_false]
  -- and back
  obtain ⟨F2, sF2, mF2, e4⟩ := hitting_ok (l := 17) (S := L1) (g := ⟨[] ++ [ev ns K2 t2 (.val (.lst (B.map .int))) s3 (.val (.lst (S.map vt))) (.val (.str (rp S))) (.val (.lst (X.map vt))) s7 (.val (.lst (L1.map vt))) s9 .no .no], []⟩) hB.inc hBl hT (by unfold lim; omega)
  obtain ⟨L4, hL4, e5⟩ := lsmallest_ok (l := 18) (X := S) (g := ⟨[] ++ [ev ns K2 t2 (.val (.lst (B.map .int))) s3 (.val (.lst (S.map vt))) (.val (.str (rp S))) (.val (.lst (X.map vt))) s7 (.val (.lst (L1.map vt))) s9 .no .no], []⟩) (by unfold lim; omega) (short hS)
  have e34 : L4 = L3 := hL4.eq hL3
  subst e34
  have eF2 : F2 = L4 := sF2.eq hL4.1 fun o => by
    rw [mF2, hL4.2]
    exact dual mT hS hB.inc o
  subst eF2
  unfold retM Iv.andV
  rw [wp_bnd, wp_bnd]
  simp only [oCmpV, oUn, opd1, opd2, wp_bnd, wp_lift, argL, argC]
  rw [wp_nameC]
  refine ⟨_, rfl, ?_⟩
  simp only [wp_ret]
  refine wp_callP e4 ⟨_, repr_ok smL, ?_⟩
  refine wp_nameV rfl ?_
  refine wp_callP e5 ⟨_, repr_ok smL, _, rfl, ?_⟩
  simp only [wp_peek, fz_val, eq_strs, decide_true, if_true, wp_bnd, wp_lift, wp_ret]
  refine ⟨_, rfl, _, repr_ok smS, _, rfl, _, rfl, ?_⟩
  simp
end Iv

open PySem PySem.W PyProof.Rows in
set_option maxRecDepth 100000 in
set_option maxHeartbeats 0 in
theorem PySem.Challenge.cw_commonground_k85_hitting_sets_holds : PySem.Challenge.rw_commonground_k85_hitting_sets.Holds := by
  w_on; o_law; k_head; (case hw => w_witness2)
  k_fill
  refine Iv.walk (l := PySem.Challenge.rw_commonground_k85_hitting_sets) (Pc := Iv.PCx) (prog := Iv.prog) (lvl := Iv.LVL + 1) (x := "_law_script") rfl (by decide) rfl ⟨rfl, by decide, by decide⟩ (fun w h Y => PySem.W.kIn_of Y) rfl (fun _ _ _ _ _ _ => trivial) ?F Iv.law_true
  case F =>
    intro w mg fa h KX G hmg
    refine' Iv.all_mk KX G hmg ?a0 ?l0 ?c0 ?k0 ?a1 ?l1 ?c1 ?k1 ?a2 ?l2 ?c2 ?k2 ?a3 ?l3 ?c3 ?k3 ?a4 ?l4 ?c4 ?k4 ?a5 ?l5 ?c5 ?k5 ?a6 ?l6 ?c6 ?k6 ?a7 ?l7 ?c7 ?k7 ?a8 ?l8 ?c8 ?k8 ?a9 ?l9 ?c9 ?k9 ?z0 ?z1 ?z2 ?z3 ?z4 ?z5 ?z6 ?z7 ?z8 ?z9 _
    (case a0 => k_is)
    (case l0 => k_is)
    (case c0 => k_is)
    (case k0 => k_is)
    (case a1 => k_is)
    (case l1 => k_is)
    (case c1 => k_is)
    (case k1 => k_is)
    (case a2 => k_is)
    (case l2 => k_is)
    (case c2 => k_is)
    (case k2 => k_is)
    (case a3 => k_is)
    (case l3 => k_is)
    (case c3 => k_is)
    (case k3 => k_is)
    (case a4 => k_is)
    (case l4 => k_is)
    (case c4 => k_is)
    (case k4 => k_is)
    (case a5 => k_is)
    (case l5 => k_is)
    (case c5 => k_is)
    (case k5 => k_is)
    (case a6 => k_is)
    (case l6 => k_is)
    (case c6 => k_is)
    (case k6 => k_is)
    (case a7 => k_is)
    (case l7 => k_is)
    (case c7 => k_is)
    (case k7 => k_is)
    (case a8 => k_is)
    (case l8 => k_is)
    (case c8 => k_is)
    (case k8 => k_is)
    (case a9 => k_is)
    (case l9 => k_is)
    (case c9 => k_is)
    (case k9 => k_is)
    (case z0 => k_is)
    (case z1 => k_is)
    (case z2 => k_is)
    (case z3 => k_is)
    (case z4 => k_is)
    (case z5 => k_is)
    (case z6 => k_is)
    (case z7 => k_is)
    (case z8 => k_is)
    (case z9 => k_is)

