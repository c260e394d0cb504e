import PyProof.Rows.All
import Wide.All
import OpenK.AllK
import Wide.FinOn
import KE.KStateDown
import HandS.ForMost
import HandS.Flow
import HandS.Deep
import HandS.TupAny
import HandS.Walk
import HandS.Conv
import HandS.Defaults
import HandS.Style
import KE.GoesMore
import KE.GoesEnum
import HandS.TupSets
import HandS.SortOrd
import HandS.NoneIn
import HandS.Comp
import HandS.Head0
import HandS.Head1
import HandS.Head2
import HandS.HeadEnd
import HandS.HeadHook1
import HandS.HeadHook2
import PySem.Challenge.RW_persisthall_k57_elder_names
set_option Elab.async false
set_option linter.all false
set_option maxRecDepth 100000
/-! EvA: values, the small language, and what its texts give (an own meaning, to be run and to be reasoned about). -/
namespace Ev
open PySem L2
/-- a value: plain data, lists that nobody changes any more, known lists of the module, boxes by their number -/
inductive PV where
  | non | bl (b : Bool) | int (i : Int) | str (x : Str) | lst (xs : List PV) | tup (xs : List PV) | kl (xs : List PV) | ref (n : Nat)
  deriving Inhabited
/-- an object: a list, a dict with keys that are intsP and texts -/
inductive Ob where
  | l (xs : List PV) | d (kvs : List (Key × PV))
/-- a slot: nothing, a value, an object that this slot alone knows -/
inductive Sl where
  | un | sh (v : PV) | ow (o : Ob)
/-- what an expression gives: a value, a new object, an object that a slot has -/
inductive R where
  | pv (v : PV) | fr (o : Ob) | br (o : Ob)
abbrev Sls := List Sl
abbrev Hh := List Ob
abbrev lim : Nat := 16777216

mutual
def toD : PV → Option PyData
  | .non => some .none
  | .bl b => some (.bool b)
  | .int i => some (.int i)
  | .str x => some (.str x)
  | .lst xs => (toDs xs).map .list
  | .kl xs => (toDs xs).map .list
  | .tup xs => (toDs xs).map .tuple
  | .ref _ => none
def toDs : List PV → Option (List PyData)
  | [] => some []
  | x :: xs => (toD x).bind fun d => (toDs xs).map fun ds => d :: ds
end
mutual
/-- no boxes in it, texts of true signs -/
def plain : PV → Bool
  | .str x => PyData.strOk x
  | .lst xs => plains xs
  | .kl xs => plains xs
  | .tup xs => plains xs
  | .ref _ => false
  | _ => true
def plains : List PV → Bool
  | [] => true
  | x :: xs => plain x && plains xs
end
mutual
def dep : PV → Nat
  | .lst xs => deps xs + 1
  | .kl xs => deps xs + 1
  | .tup xs => deps xs + 1
  | _ => 0
def deps : List PV → Nat
  | [] => 0
  | x :: xs => max (dep x) (deps xs)
end
def okD (v : PV) : Bool := plain v && decide (dep v ≤ 64)
mutual
/-- == -/
def pvEq : PV → PV → Bool
  | .non, .non => true
  | .bl a, .bl b => a == b
  | .bl a, .int j => (if a then 1 else 0) == j
  | .int i, .bl b => i == (if b then 1 else 0)
  | .int i, .int j => i == j
  | .str x, .str y => x == y
  | .lst xs, .lst ys => pvEqs xs ys
  | .lst xs, .kl ys => pvEqs xs ys
  | .kl xs, .lst ys => pvEqs xs ys
  | .kl xs, .kl ys => pvEqs xs ys
  | .tup xs, .tup ys => pvEqs xs ys
  | _, _ => false
def pvEqs : List PV → List PV → Bool
  | [], [] => true
  | x :: xs, y :: ys => pvEq x y && pvEqs xs ys
  | _, _ => false
end

/-! ### looks at what an expression gave -/
/-- a list (false) or a tuple (true), and its items -/
def R.seq (h : Hh) : R → Option (Bool × List PV)
  | .pv (.lst xs) => some (false, xs)
  | .pv (.kl xs) => some (false, xs)
  | .pv (.tup xs) => some (true, xs)
  | .pv (.ref n) => (match h[n]? with | some (.l xs) => some (false, xs) | _ => none)
  | .fr (.l xs) => some (false, xs)
  | .br (.l xs) => some (false, xs)
  | _ => none
/-- a list that is an object of the run -/
def R.own (h : Hh) : R → Option (List PV)
  | .pv (.lst xs) => some xs
  | .pv (.ref n) => (match h[n]? with | some (.l xs) => some xs | _ => none)
  | .fr (.l xs) => some xs
  | .br (.l xs) => some xs
  | _ => none
def R.dct (h : Hh) : R → Option (List (Key × PV))
  | .pv (.ref n) => (match h[n]? with | some (.d kvs) => some kvs | _ => none)
  | .fr (.d kvs) => some kvs
  | .br (.d kvs) => some kvs
  | _ => none
/-- handed on: a new list is changed by nobody any more -/
def R.give : R → Option PV
  | .pv v => some v
  | .fr (.l xs) => some (.lst xs)
  | _ => none
/-- as data -/
def R.dat (h : Hh) : R → Option PV
  | .pv (.ref n) => (match h[n]? with | some (.l xs) => some (.lst xs) | _ => none)
  | .pv v => some v
  | .fr (.l xs) => some (.lst xs)
  | .br (.l xs) => some (.lst xs)
  | _ => none
def R.tru (h : Hh) (r : R) : Option Bool :=
  match r with
  | .pv .non => some false
  | .pv (.bl b) => some b
  | .pv (.int i) => some (i != 0)
  | .pv (.str x) => if x.length ≤ lim then some ((x.length : Int) != 0) else none
  | r => (match r.seq h with
    | some (_, xs) => some (!xs.isEmpty)
    | none => (r.dct h).map fun kvs => !kvs.isEmpty)
def keyOf : PV → Option Key
  | .int i => some (.inl i)
  | .str x => some (.inr x)
  | _ => none
def keyPV : Key → PV
  | .inl i => .int i
  | .inr x => .str x
def valP (kvs : List (Key × PV)) (k : Key) : Option PV := (kvs.find? fun kv => decide (kv.1 = k)).map (·.2)
def putP (kvs : List (Key × PV)) (k : Key) (v : PV) : List (Key × PV) :=
  if (kvs.any fun kv => decide (kv.1 = k)) = true then kvs.map (fun kv => if kv.1 = k then (kv.1, v) else kv) else kvs ++ [(k, v)]
def cutP (xs : List PV) (lo hi : Option Int) : List PV := (xs.drop (HT.sIx xs.length 0 lo)).take (HT.sIx xs.length xs.length hi - HT.sIx xs.length 0 lo)

def R.isNon : R → Bool
  | .pv .non => true
  | _ => false
def R.asI : R → Option Int
  | .pv (.int i) => some i
  | _ => none

/-- below 2 to the b, either way (told so that nothing is counted down) -/
def small (b : Nat) (i : Int) : Bool := Nat.blt i.natAbs (2 ^ b)
theorem small_lt {b : Nat} {i : Int} (h : small b i = true) : i.natAbs < 2 ^ b := by simpa [small, Nat.blt_eq] using h
theorem small_of {b : Nat} {i : Int} (h : i.natAbs < 2 ^ b) : small b i = true := by simpa [small, Nat.blt_eq] using h
/-! ### operators -/
def bop (op : Operator) (h : Hh) (a b : R) : Option R :=
  match op with
  | .Add => (match a, b with
    | .pv (.int i), .pv (.int j) => some (.pv (.int (i + j)))
    | .pv (.str x), .pv (.str y) => if x.length + y.length ≤ lim then some (.pv (.str (x ++ y))) else none
    | .pv (.tup xs), .pv (.tup ys) => if xs.length + ys.length ≤ lim then some (.pv (.tup (xs ++ ys))) else none
    | a, b => (a.own h).bind fun xs => (b.own h).bind fun ys => if xs.length + ys.length ≤ lim then some (.fr (.l (xs ++ ys))) else none)
  | .Sub => (match a, b with
    | .pv (.int i), .pv (.int j) => some (.pv (.int (i - j)))
    | _, _ => none)
  | .Mult => (match a, b with
    | .pv (.int i), .pv (.int j) => if small 64 i || small 64 j then some (.pv (.int (i * j))) else none
    | _, _ => none)
  | .FloorDiv => (match a, b with
    | .pv (.int i), .pv (.int j) => if j ≠ 0 ∧ j.natAbs < 1073741824 then some (.pv (.int (i.fdiv j))) else none
    | _, _ => none)
  | .Mod => (match a, b with
    | .pv (.int i), .pv (.int j) => if j ≠ 0 then some (.pv (.int (i.fmod j))) else none
    | _, _ => none)
  | .Pow => (match a, b with
    | .pv (.int i), .pv (.int j) => if 0 ≤ j ∧ j.toNat ≤ 1000000 ∧ small 64 i = true then some (.pv (.int (i ^ j.toNat))) else none
    | _, _ => none)
  | _ => none
/-- == as data -/
def eqR (h : Hh) (a b : R) : Option Bool := (a.dat h).bind fun v => (b.dat h).bind fun u => if okD v && okD u then some (pvEq v u) else none
/-- in -/
def inR (h : Hh) (a b : R) : Option Bool := (match b.dct h with
  | some kvs => (match a with
    | .pv v => (keyOf v).map fun k => (valP kvs k).isSome
    | _ => none)
  | none => (a.dat h).bind fun v => (b.dat h).bind fun u => (match u with
    | .lst xs => if okD v && okD u then some (xs.any fun z => pvEq z v) else none
    | .kl xs => if okD v && okD u then some (xs.any fun z => pvEq z v) else none
    | .tup xs => if okD v && okD u then some (xs.any fun z => pvEq z v) else none
    | _ => none))
def cop (op : CmpOp) (h : Hh) (a b : R) : Option Bool :=
  match op with
  | .Eq => eqR h a b
  | .NotEq => (eqR h a b).map (!·)
  | .In => inR h a b
  | .NotIn => (inR h a b).map (!·)
  | .Lt => (match a, b with
    | .pv (.int i), .pv (.int j) => some (decide (i < j))
    | _, _ => none)
  | .LtE => (match a, b with
    | .pv (.int i), .pv (.int j) => some (decide (i ≤ j))
    | _, _ => none)
  | .Gt => (match a, b with
    | .pv (.int i), .pv (.int j) => some (decide (j < i))
    | _, _ => none)
  | .GtE => (match a, b with
    | .pv (.int i), .pv (.int j) => some (decide (j ≤ i))
    | _, _ => none)
  | _ => none
def ixR (h : Hh) (a b : R) : Option R := (match b with
  | .pv v => (match a.dct h with
    | some kvs => (keyOf v).bind fun k => (valP kvs k).map .pv
    | none => (match v with
      | .int i => (match a with
        | .pv (.str z) => if z.length ≤ lim then (atI z.cps.toList i).map fun c => .pv (.str ⟨#[c]⟩) else none
        | a => (a.seq h).bind fun p => (atI p.2 i).map .pv)
      | _ => none))
  | _ => none)
def slR (h : Hh) (a : R) (lo hi : Option Int) : Option R := (match a with
  | .pv (.str z) => if z.length ≤ lim then some (.pv (.str (cutS z lo hi))) else none
  | a => (match a.seq h with
    | some (false, xs) => some (.fr (.l (cutP xs lo hi)))
    | some (true, xs) => some (.pv (.tup (cutP xs lo hi)))
    | none => none))
def rvR (h : Hh) (a : R) : Option R := (match a.own h with
  | some xs => some (.fr (.l xs.reverse))
  | none => none)

/-! ### built-ins and methods -/
inductive Blt where
  | abs | int | len | list | tuple | all | any | sorted | max | min | str | repr | dict
  deriving DecidableEq
inductive Mth where
  | index | count | get
  deriving DecidableEq
inductive Ty where
  | int | str | tuple | bool
  deriving DecidableEq
def boolsP : List PV → Option (List Bool)
  | [] => some []
  | .bl b :: r => (boolsP r).map (b :: ·)
  | _ :: _ => none
def intsP : List PV → Option (List Int)
  | [] => some []
  | .int i :: r => (intsP r).map (i :: ·)
  | _ :: _ => none
/-- sorted: what there is of it -/
def sortP (xs : List PV) : Option (List PV) := if xs.length ≤ 1 then some xs else none
/-- the first place of an equal one -/
def firstAt (v : PV) : Nat → List PV → Option Nat
  | _, [] => none
  | n, x :: xs => if pvEq x v then some n else firstAt v (n + 1) xs
def blt (b : Blt) (h : Hh) (rs : List R) : Option R :=
  match b, rs with
  | .abs, [.pv (.int i)] => some (.pv (.int (if i < 0 then -i else i)))
  | .int, [.pv (.int i)] => some (.pv (.int i))
  | .len, [.pv (.str x)] => if x.length ≤ lim then some (.pv (.int x.length)) else none
  | .len, [r] => (match r.seq h with
    | some (_, xs) => some (.pv (.int xs.length))
    | none => (r.dct h).map fun kvs => .pv (.int kvs.length))
  | .list, [r] => (r.seq h).map fun p => .fr (.l p.2)
  | .tuple, [r] => (r.seq h).map fun p => .pv (.tup p.2)
  | .all, [r] => (r.seq h).bind fun p => if p.1 then none else (boolsP p.2).map fun bs => .pv (.bl (bs.all id))
  | .any, [r] => (r.seq h).bind fun p => if p.1 then none else (boolsP p.2).map fun bs => .pv (.bl (bs.any id))
  | .sorted, [r] => (r.seq h).bind fun p => if p.1 then none else (sortP p.2).map fun xs => .fr (.l xs)
  | _, _ => none
def mth (m : Mth) (h : Hh) (o : R) (vs : List R) : Option R :=
  match m, vs with
  | .index, [r] => (o.dat h).bind fun u => (r.dat h).bind fun v => (match u with
    | .lst xs => if okD v && okD u then (firstAt v 0 xs).map fun (n : Nat) => R.pv (.int n) else none
    | _ => none)
  | .count, [r] => (o.dat h).bind fun u => (r.dat h).bind fun v => (match u with
    | .lst xs => if okD v && okD u then some (.pv (.int (xs.countP fun z => pvEq z v))) else none
    | _ => none)
  | .get, [.pv v, .pv u] => (o.dct h).bind fun kvs => (keyOf v).map fun k => .pv ((valP kvs k).getD u)
  | _, _ => none
/-- the receiver is of the right kind -/
def mthOk (m : Mth) (h : Hh) (o : R) : Bool :=
  match m with
  | .get => (o.dct h).isSome
  | _ => (match o.seq h with
    | some (false, _) => true
    | _ => false)
def isTy (t : Ty) (h : Hh) (r : R) : Option Bool :=
  match r with
  | .pv .non => some false
  | .pv (.bl _) => some (t == .bool || t == .int)
  | .pv (.int _) => some (t == .int)
  | .pv (.str _) => some (t == .str)
  | .pv (.tup _) => some (t == .tuple)
  | .pv (.lst _) => some false
  | _ => none

/-! ### the small language -/
/-- a target: a slot, a tuple of targets (nil, cons: its rows) -/
inductive Tg where
  | v (i : Nat) | t (ts : Tg) | nil | cons (a ts : Tg)
/-- what is walked: a value's items, range(a), range(a, b), enumerate(a), zip(a, b) -/
inductive Ik where
  | val | rng1 | rng2 | enum | zip
inductive E where
  | con (v : PV) | var (i : Nat) | glob (x : Str) (v : PV)
  | tup (es : E) | lst (es : E) | nil | cons (e es : E)
  | bin (op : Operator) (a b : E) | neg (a : E)
  | cmp (op : CmpOp) (a b : E) | chain (op op' : CmpOp) (a b c : E) | isN (neg : Bool) (a : E)
  | not (a : E) | and (a b : E) | or (a b : E) | ife (t a b : E)
  | idx (a b : E) | slc (a lo hi : E) | rev (a : E)
  | call (f : Nat) (es : E) | blt (b : Blt) (es : E) | mth (m : Mth) (o es : E) | isin (a : E) (t : Ty)
  | setlen (a : E)
  | lc (own : List Nat) (elt : E) (tg : Tg) (k : Ik) (a b cd : E)
def E.isNil : E → Bool
  | .nil => true
  | _ => false
mutual
/-- a target takes a value -/
def asg : Tg → PV → Sls → Option Sls
  | .v i, x, env => if i < env.length then some (env.set i (.sh x)) else none
  | .t ts, .tup xs, env => asgs ts xs env
  | .t ts, .lst xs, env => asgs ts xs env
  | .t ts, .kl xs, env => asgs ts xs env
  | _, _, _ => none
def asgs : Tg → List PV → Sls → Option Sls
  | .nil, [], env => some env
  | .cons a ts, x :: xs, env => (asg a x env).bind fun e => asgs ts xs e
  | _, _, _ => none
end
def wipeE (env : Sls) : List Nat → Sls
  | [] => env
  | v :: vs => (wipeE env vs).set v .un
abbrev Call := Nat → List PV → Hh → Option (R × Hh)
/-- the items of a list or tuple that is walked; br: a slot's own list may be walked (nothing can change it meanwhile) -/
def R.itemsL (br : Bool) : R → Option (List PV)
  | .pv (.lst xs) => some xs
  | .pv (.kl xs) => some xs
  | .pv (.tup xs) => some xs
  | .fr (.l xs) => some xs
  | .br (.l xs) => if br then some xs else none
  | _ => none
def numbered : Nat → List PV → List PV
  | _, [] => []
  | n, x :: xs => .tup [.int n, x] :: numbered (n + 1) xs
def itemsOf (k : Ik) (br : Bool) (a : R) (b : Option R) : Option (List PV) :=
  match k, a, b with
  | .val, .pv (.str z), none => some (z.cps.toList.map fun c => .str ⟨#[c]⟩)
  | .val, a, none => a.itemsL br
  | .rng1, .pv (.int n), none => if small 62 n then some ((List.range n.toNat).map fun (i : Nat) => PV.int i) else none
  | .rng2, .pv (.int m), some (.pv (.int n)) => if small 62 m && small 62 n then some ((List.range (n - m).toNat).map fun (i : Nat) => PV.int (m + i)) else none
  | .enum, a, none => (a.itemsL br).map (numbered 0)
  | .zip, a, some b => (a.itemsL br).bind fun xs => (b.itemsL br).map fun ys => List.zipWith (fun x y => PV.tup [x, y]) xs ys
  | _, _, _ => none
/-- the turns of a comprehension -/
def turns (f : PV → Hh → Option (Option PV × Hh)) : List PV → Hh → Option (List PV × Hh)
  | [], h => some ([], h)
  | x :: xs, h => (f x h).bind fun p => (turns f xs p.2).map fun q => (p.1.toList ++ q.1, q.2)
mutual
def ev (C : Call) : E → Sls → Hh → Option (R × Hh)
  | .con v, _, h => some (.pv v, h)
  | .var i, env, h => (match env[i]? with
    | some (.sh v) => some (.pv v, h)
    | some (.ow o) => some (.br o, h)
    | _ => none)
  | .glob _ v, _, h => some (.pv v, h)
  | .tup es, env, h => (evs C es env h).bind fun p => if p.1.length ≤ lim then some (.pv (.tup p.1), p.2) else none
  | .lst es, env, h => (evs C es env h).bind fun p => if p.1.length ≤ lim then some (.fr (.l p.1), p.2) else none
  | .bin op a b, env, h => (ev C a env h).bind fun p => (ev C b env p.2).bind fun q => (bop op q.2 p.1 q.1).map fun r => (r, q.2)
  | .neg a, env, h => (ev C a env h).bind fun p => (match p.1 with
    | .pv (.int i) => some (.pv (.int (-i)), p.2)
    | _ => none)
  | .cmp op a b, env, h => (ev C a env h).bind fun p => (ev C b env p.2).bind fun q => (cop op q.2 p.1 q.1).map fun r => (.pv (.bl r), q.2)
  | .chain op op' a b c, env, h => (ev C a env h).bind fun p => (ev C b env p.2).bind fun q => (cop op q.2 p.1 q.1).bind fun k =>
      if k then (ev C c env q.2).bind fun z => (cop op' z.2 q.1 z.1).map fun r => (.pv (.bl r), z.2) else some (.pv (.bl false), q.2)
  | .isN n a, env, h => (ev C a env h).map fun p => (.pv (.bl (p.1.isNon != n)), p.2)
  | .not a, env, h => (ev C a env h).bind fun p => (p.1.tru p.2).map fun k => (.pv (.bl (!k)), p.2)
  | .and a b, env, h => (ev C a env h).bind fun p => (p.1.tru p.2).bind fun k => if k then ev C b env p.2 else some p
  | .or a b, env, h => (ev C a env h).bind fun p => (p.1.tru p.2).bind fun k => if k then some p else ev C b env p.2
  | .ife t a b, env, h => (ev C t env h).bind fun p => (p.1.tru p.2).bind fun k => if k then ev C a env p.2 else ev C b env p.2
  | .idx a b, env, h => (ev C a env h).bind fun p => (ev C b env p.2).bind fun q => (ixR q.2 p.1 q.1).map fun r => (r, q.2)
  | .slc a lo hi, env, h => (ev C a env h).bind fun p => (if lo.isNil then some (none, p.2) else (ev C lo env p.2).bind fun y => y.1.asI.map fun i => (some i, y.2)).bind fun q =>
      (if hi.isNil then some (none, q.2) else (ev C hi env q.2).bind fun y => y.1.asI.map fun i => (some i, y.2)).bind fun z => (slR z.2 p.1 q.1 z.1).map fun r => (r, z.2)
  | .rev a, env, h => (ev C a env h).bind fun p => (rvR p.2 p.1).map fun r => (r, p.2)
  | .call f es, env, h => (evs C es env h).bind fun p => C f p.1 p.2
  | .blt b es, env, h => (evr C es env h).bind fun p => (blt b p.2 p.1).map fun r => (r, p.2)
  | .mth m o es, env, h => (ev C o env h).bind fun p => if mthOk m p.2 p.1 then (evr C es env p.2).bind fun q => (mth m q.2 p.1 q.1).map fun r => (r, q.2) else none
  | .isin a t, env, h => (ev C a env h).bind fun p => (isTy t p.2 p.1).map fun k => (.pv (.bl k), p.2)
  | .setlen a, env, h => (ev C a env h).bind fun p => (p.1.seq p.2).bind fun q => if q.1 then none else (intsP q.2).bind fun ns => if ns.Nodup ∧ ns.length < 64 then some (.pv (.int ns.length), p.2) else none
  | .lc own elt tg k a b cd, env, h => (ev C a env h).bind fun p => (if b.isNil then some (none, p.2) else (ev C b env p.2).map fun y => (some y.1, y.2)).bind fun q =>
      (itemsOf k true p.1 q.1).bind fun xs => (turns (fun x h1 => (asg tg x (wipeE env own)).bind fun env1 =>
        (if cd.isNil then some (true, h1) else (ev C cd env1 h1).bind fun y => (y.1.tru y.2).map fun t => (t, y.2)).bind fun q =>
          if q.1 then (ev C elt env1 q.2).bind fun z => z.1.give.map fun y => (some y, z.2) else some (none, q.2)) xs q.2).bind fun z =>
            if z.1.length ≤ lim then some (.fr (.l z.1), z.2) else none
  | _, _, _ => none
/-- a row of expressions, each handed on -/
def evs (C : Call) : E → Sls → Hh → Option (List PV × Hh)
  | .nil, _, h => some ([], h)
  | .cons e es, env, h => (ev C e env h).bind fun p => p.1.give.bind fun v => (evs C es env p.2).map fun q => (v :: q.1, q.2)
  | _, _, _ => none
/-- .. each looked at -/
def evr (C : Call) : E → Sls → Hh → Option (List R × Hh)
  | .nil, _, h => some ([], h)
  | .cons e es, env, h => (ev C e env h).bind fun p => (evr C es env p.2).map fun q => (p.1 :: q.1, q.2)
  | _, _, _ => none
end
/-- what a for walks -/
def evi (C : Call) (br : Bool) (k : Ik) (a b : E) (env : Sls) (h : Hh) : Option (List PV × Hh) :=
  (ev C a env h).bind fun p => (if b.isNil then some (none, p.2) else (ev C b env p.2).map fun y => (some y.1, y.2)).bind fun q =>
    (itemsOf k br p.1 q.1).map fun xs => (xs, q.2)
/-- a test -/
def evt (C : Call) (e : E) (env : Sls) (h : Hh) : Option (Bool × Hh) := (ev C e env h).bind fun y => (y.1.tru y.2).map fun t => (t, y.2)

/-! ### statements -/
inductive S where
  | ass (tg : Tg) (e : E)
  | par (is : List Nat) (es : E)
  | sub (o i e : E)
  | app (s : Nat) (e : E)
  | ex (e : E)
  | ret (e : E) | retN
  | ite (t : E) (a b : S) | for (tg : Tg) (k : Ik) (a b : E) (body : S) | whil (n : Nat) (t : E) (b : S)
  | brk | cnt | pass
  | skip | seq (a b : S)
  | frz (s : Nat) (b : S) | prm (s : Nat) (b : S)
inductive O where
  | nx (env : Sls) (h : Hh) | rt (r : R) (h : Hh) | bk (env : Sls) (h : Hh) | ct (env : Sls) (h : Hh)
/-- a slot takes what an expression gave -/
def giveTo (i : Nat) (r : R) (env : Sls) : Option Sls := if i < env.length then (match r with
  | .pv v => some (env.set i (.sh v))
  | .fr o => some (env.set i (.ow o))
  | .br _ => none) else none
def asgR (tg : Tg) (r : R) (env : Sls) : Option Sls :=
  match tg with
  | .v i => giveTo i r env
  | tg => r.give.bind fun v => asg tg v env
def giveAll : List Nat → List R → Sls → Option Sls
  | [], [], env => some env
  | i :: is, r :: rs, env => (giveTo i r env).bind fun e => giveAll is rs e
  | _, _, _ => none
/-- o[i] = v of a box -/
def setR (h : Hh) (o i : R) (v : PV) : Option Hh := (match o, i with
  | .pv (.ref n), .pv (.int j) => (match h[n]? with
    | some (.l xs) => (ixN xs.length j).map fun m => h.set n (.l (xs.set m v))
    | _ => none)
  | _, _ => none)
/-- a list is there to be appended to -/
def appOk (s : Nat) (env : Sls) (h : Hh) : Bool := (match env[s]? with
  | some (.ow (.l _)) => true
  | some (.sh (.ref n)) => (match h[n]? with
    | some (.l _) => true
    | _ => false)
  | _ => false)
/-- x.append(v) -/
def appS (s : Nat) (v : PV) (env : Sls) (h : Hh) : Option (Sls × Hh) := (match env[s]? with
  | some (.ow (.l xs)) => if xs.length < lim then some (env.set s (.ow (.l (xs ++ [v]))), h) else none
  | some (.sh (.ref n)) => (match h[n]? with
    | some (.l xs) => if xs.length < lim then some (env, h.set n (.l (xs ++ [v]))) else none
    | _ => none)
  | _ => none)
/-- the turns of a for -/
def loop (f : PV → Sls → Hh → Option O) : List PV → Sls → Hh → Option O
  | [], env, h => some (.nx env h)
  | x :: xs, env, h => (f x env h).bind fun o => (match o with
    | .nx env h => loop f xs env h
    | .ct env h => loop f xs env h
    | .bk env h => some (.nx env h)
    | .rt r h => some (.rt r h))
/-- the turns of a while, at most n -/
def wloop (c : Sls → Hh → Option (Bool × Hh)) (f : Sls → Hh → Option O) : Nat → Sls → Hh → Option O
  | 0, _, _ => none
  | n + 1, env, h => (c env h).bind fun p => if p.1 then (f env p.2).bind fun o => (match o with
    | .nx env h => wloop c f n env h
    | .ct env h => wloop c f n env h
    | .bk env h => some (.nx env h)
    | .rt r h => some (.rt r h)) else some (.nx env p.2)
def evS (C : Call) : S → Sls → Hh → Option O
  | .ass tg e, env, h => (ev C e env h).bind fun p => (asgR tg p.1 env).map fun env1 => .nx env1 p.2
  | .par is es, env, h => (evr C es env h).bind fun p => (giveAll is p.1 env).map fun env1 => .nx env1 p.2
  | .sub o i e, env, h => (ev C e env h).bind fun p => p.1.give.bind fun v => (ev C o env p.2).bind fun q => (ev C i env q.2).bind fun z => (setR z.2 q.1 z.1 v).map fun h1 => .nx env h1
  | .app s e, env, h => if appOk s env h = false then none else (ev C e env h).bind fun p => p.1.give.bind fun v => (appS s v env p.2).map fun q => .nx q.1 q.2
  | .ex e, env, h => (ev C e env h).map fun p => .nx env p.2
  | .ret e, env, h => (ev C e env h).map fun p => .rt p.1 p.2
  | .retN, _, h => some (.rt (.pv .non) h)
  | .ite t a b, env, h => (evt C t env h).bind fun p => if p.1 then evS C a env p.2 else evS C b env p.2
  | .for tg k a b body, env, h => (evi C false k a b env h).bind fun p => loop (fun x env h => (asg tg x env).bind fun env1 => evS C body env1 h) p.1 env p.2
  | .whil n t b, env, h => wloop (evt C t) (evS C b) n env h
  | .brk, env, h => some (.bk env h)
  | .cnt, env, h => some (.ct env h)
  | .pass, env, h => some (.nx env h)
  | .skip, env, h => some (.nx env h)
  | .seq a b, env, h => (evS C a env h).bind fun o => (match o with
    | .nx env h => evS C b env h
    | o => some o)
  | .frz s b, env, h => (match env[s]? with
    | some (.ow (.l xs)) => evS C b (env.set s (.sh (.lst xs))) h
    | some (.sh _) => evS C b env h
    | _ => none)
  | .prm s b, env, h => (match env[s]? with
    | some (.ow o) => evS C b (env.set s (.sh (.ref h.length))) (h ++ [o])
    | some (.sh _) => evS C b env h
    | _ => none)

/-! ### defs -/
structure Def where
  name : Str
  pars : List Str
  slots : List Str
  body : S
/-- what a def gives: a slot's own list goes out as a new one -/
def out (o : O) : Option (R × Hh) :=
  match o with
  | .rt (.pv v) h => some (.pv v, h)
  | .rt (.fr o) h => some (.fr o, h)
  | .rt (.br o) h => some (.fr o, h)
  | .nx _ h => some (.pv .non, h)
  | _ => none
def callK (ds : List Def) : Nat → Call
  | 0, _, _, _ => none
  | k + 1, f, vs, h => (ds[f]?).bind fun d => if vs.length = d.pars.length then
      (evS (callK ds k) d.body (vs.map .sh ++ List.replicate (d.slots.length - vs.length) .un) h).bind out else none
end Ev

set_option maxRecDepth 100000
/-! EvB: how the small language's values stand in the layer's heap. -/
namespace Ev
open PySem PySem.Spec PyProof.Rows L2
/-- a list that the run cannot change: locked, or the module's -/
def KL (K : PySem.W.Frag) (H : Hp) (a : Addr) (vs : List V) : Prop := (∃ o, H a = some (.frz o (.lst vs))) ∨ SqL K (fun _ => none) a vs
theorem KL.sq {K : PySem.W.Frag} {H : Hp} {a : Addr} {vs : List V} (h : KL K H a vs) : SqL K H a vs := by
  rcases h with ⟨o, h⟩ | h
  · exact .inl (.inr ⟨o, h⟩)
  · rcases h with (h | ⟨o, h⟩) | h
    · cases h
    · cases h
    · exact .inr h
mutual
/-- rho: the boxes' places; B: the places that somebody may still write to -/
inductive Rep (K : PySem.W.Frag) (ρ B : List Addr) (H : Hp) : PV → V → Prop
  | non : Rep K ρ B H .non .non
  | bl (b : Bool) : Rep K ρ B H (.bl b) (.bl b)
  | int (i : Int) : Rep K ρ B H (.int i) (.int i)
  | str (z : Str) : Rep K ρ B H (.str z) (.str z)
  | lst {a : Addr} {xs : List PV} {vs : List V} : H a = some (.lst vs) → a ∉ ρ → a ∉ B → Reps K ρ B H xs vs → Rep K ρ B H (.lst xs) (.ref a)
  | kl {a : Addr} {xs : List PV} {vs : List V} : KL K H a vs → Reps K ρ B H xs vs → Rep K ρ B H (.kl xs) (.ref a)
  | tup {a : Addr} {xs : List PV} {vs : List V} : SqT K H a vs → Reps K ρ B H xs vs → Rep K ρ B H (.tup xs) (.ref a)
  | ref {a : Addr} {n : Nat} : ρ[n]? = some a → Rep K ρ B H (.ref n) (.ref a)
inductive Reps (K : PySem.W.Frag) (ρ B : List Addr) (H : Hp) : List PV → List V → Prop
  | nil : Reps K ρ B H [] []
  | cons {x : PV} {v : V} {xs : List PV} {vs : List V} : Rep K ρ B H x v → Reps K ρ B H xs vs → Reps K ρ B H (x :: xs) (v :: vs)
end
def KRep (K : PySem.W.Frag) (ρ B : List Addr) (H : Hp) : List (Key × PV) → List (Key × V) → Prop := Paired fun p q => p.1 = q.1 ∧ Rep K ρ B H p.2 q.2
def ORep (K : PySem.W.Frag) (ρ B : List Addr) (H : Hp) : Ob → Addr → Prop
  | .l xs, a => ∃ vs, H a = some (.lst vs) ∧ Reps K ρ B H xs vs
  | .d kvs, a => ∃ ws, H a = some (.dK ws) ∧ KRep K ρ B H kvs ws
def RRep (K : PySem.W.Frag) (ρ B : List Addr) (H : Hp) : R → V → Prop
  | .pv v, x => Rep K ρ B H v x
  | .fr o, x => ∃ a, x = .ref a ∧ a ∈ B ∧ ORep K ρ B H o a
  | .br o, x => ∃ a, x = .ref a ∧ a ∈ B ∧ ORep K ρ B H o a
/-- from one moment to a later one; W: what may have been written to -/
structure Nx (W ρ B : List Addr) (H : Hp) (ρ' B' : List Addr) (H' : Hp) : Prop where
  pre : ∃ news, ρ' = ρ ++ news
  new : ∀ a ∈ ρ', a ∈ ρ ∨ H a = none
  newB : ∀ a ∈ B', a ∈ B ∨ H a = none
  ext : ∀ a o, H a = some o → a ∉ W → H' a = some o
/-- a list or a dict stands there -/
def LD (H : Hp) (a : Addr) : Prop := (∃ vs, H a = some (.lst vs)) ∨ ∃ ws, H a = some (.dK ws)
theorem LD.keep {H H' : Hp} {a : Addr} (l : LD H a) (k : ∀ o, H a = some o → H' a = some o) : LD H' a := by
  rcases l with ⟨_, e⟩ | ⟨_, e⟩
  · exact .inl ⟨_, k _ e⟩
  · exact .inr ⟨_, k _ e⟩
theorem LD.live {H : Hp} {a : Addr} (l : LD H a) : ∃ o, H a = some o := by
  rcases l with ⟨_, e⟩ | ⟨_, e⟩ <;> exact ⟨_, e⟩
structure GSim (K : PySem.W.Frag) (ρ B : List Addr) (h : Hh) (H : Hp) : Prop where
  nd : (ρ ++ B).Nodup
  len : ρ.length = h.length
  obj : ∀ (n : Nat) (o : Ob) (a : Addr), h[n]? = some o → ρ[n]? = some a → ORep K ρ B H o a
  own : ∀ a ∈ B, LD H a
structure SSim (K : PySem.W.Frag) (ρ B L : List Addr) (env : Sls) (σ : L2.St) (H : Hp) : Prop where
  len : σ.length = env.length
  sub : ∀ a ∈ L, a ∈ B
  sh : ∀ (i : Nat) (v : PV), env[i]? = some (.sh v) → ∃ x, σ[i]? = some (some x) ∧ Rep K ρ B H v x
  ow : ∀ (i : Nat) (o : Ob), env[i]? = some (.ow o) → ∃ a, σ[i]? = some (some (.ref a)) ∧ a ∈ L ∧ ORep K ρ B H o a
  inj : ∀ (i j : Nat) (a : Addr) (o o' : Ob), env[i]? = some (.ow o) → env[j]? = some (.ow o') → σ[i]? = some (some (.ref a)) → σ[j]? = some (some (.ref a)) → i = j

section
variable {K : PySem.W.Frag} {W W' ρ ρ' ρ'' B B' B'' L : List Addr} {H H' H'' : Hp} {h h' : Hh} {env : Sls} {σ : L2.St}
theorem Nx.refl : Nx W ρ B H ρ B H := ⟨⟨[], by simp⟩, fun a m => .inl m, fun a m => .inl m, fun a o e _ => e⟩
theorem Nx.shrink (s : ∀ a ∈ B', a ∈ B) : Nx W ρ B H ρ B' H := ⟨⟨[], by simp⟩, fun a m => .inl m, fun a m => .inl (s a m), fun a o e _ => e⟩
theorem Nx.to (n : Nx W ρ B H ρ' B' H') (s : ∀ a ∈ B'', a ∈ B') : Nx W ρ B H ρ' B'' H' := ⟨n.pre, n.new, fun a m => n.newB a (s a m), n.ext⟩
/-- what is new later is new now: nothing that is tracked goes -/
theorem Nx.none (n : Nx W ρ B H ρ' B' H') (t : ∀ a ∈ W, H a ≠ .none → H' a ≠ .none) {a : Addr} (e : H' a = .none) : H a = .none := by
  cases q : H a with
  | none => rfl
  | some o =>
    by_cases m : a ∈ W
    · exact absurd e (t a m (by rw [q]; simp))
    · rw [n.ext a o q m] at e; cases e
theorem Nx.trans (n : Nx W ρ B H ρ' B' H') (n' : Nx W' ρ' B' H' ρ'' B'' H'') (t : ∀ a ∈ W, H a ≠ .none → H' a ≠ .none) (w : ∀ a ∈ W', a ∈ W ∨ H a = .none) : Nx W ρ B H ρ'' B'' H'' := by
  refine ⟨?_, fun a m => ?_, fun a m => ?_, fun a o e m => ?_⟩
  · obtain ⟨x, e⟩ := n.pre
    obtain ⟨y, e'⟩ := n'.pre
    exact ⟨x ++ y, by rw [e', e, List.append_assoc]⟩
  · rcases n'.new a m with q | q
    · exact n.new a q
    · exact .inr (n.none t q)
  · rcases n'.newB a m with q | q
    · exact n.newB a q
    · exact .inr (n.none t q)
  · refine n'.ext a o (n.ext a o e m) fun q => ?_
    rcases w a q with z | z
    · exact m z
    · rw [e] at z; cases z
theorem KL.mono {a : Addr} {vs : List V} (n : Nx W ρ B H ρ' B' H') (w : ∀ b ∈ W, ∀ o u, H b = some (.frz o u) → False) (k : KL K H a vs) : KL K H' a vs := by
  rcases k with ⟨o, k⟩ | k
  · exact .inl ⟨o, n.ext a _ k fun m => w a m _ _ k⟩
  · exact .inr k
theorem SqT.mono {a : Addr} {vs : List V} (n : Nx W ρ B H ρ' B' H') (w1 : ∀ b ∈ W, ∀ o u, H b = some (.frz o u) → False) (w2 : ∀ b ∈ W, ∀ u, H b = some (.tup u) → False) (k : SqT K H a vs) : SqT K H' a vs := by
  rcases k with (k | ⟨o, k⟩) | k
  · exact .inl (.inl (n.ext a _ k fun m => w2 a m _ k))
  · exact .inl (.inr ⟨o, n.ext a _ k fun m => w1 a m _ _ k⟩)
  · exact .inr k
/-- W holds lists and dicts alone -/
def Wr (W : List Addr) (H : Hp) : Prop := ∀ b ∈ W, (∃ vs, H b = some (.lst vs)) ∨ (∃ ws, H b = some (.dK ws)) ∨ H b = .none
theorem Wr.f (w : Wr W H) : ∀ b ∈ W, ∀ o u, H b = some (.frz o u) → False := fun b m o u e => by
  rcases w b m with ⟨_, q⟩ | ⟨_, q⟩ | q <;> (rw [e] at q; cases q)
theorem Wr.t (w : Wr W H) : ∀ b ∈ W, ∀ u, H b = some (.tup u) → False := fun b m u e => by
  rcases w b m with ⟨_, q⟩ | ⟨_, q⟩ | q <;> (rw [e] at q; cases q)
mutual
theorem Rep.mono (n : Nx W ρ B H ρ' B' H') (w : Wr W H) (s : ∀ a ∈ W, a ∈ ρ ∨ a ∈ B ∨ H a = .none) : ∀ (v : PV) {x : V}, Rep K ρ B H v x → Rep K ρ' B' H' v x
  | .non, _, .non => .non
  | .bl _, _, .bl b => .bl b
  | .int _, _, .int i => .int i
  | .str _, _, .str z => .str z
  | .lst xs, _, .lst (a := a) e h1 h2 r => by
    refine .lst (n.ext a _ e fun m => ?_) (fun m => ?_) (fun m => ?_) (Reps.mono n w s xs r)
    · rcases s a m with q | q | q
      · exact h1 q
      · exact h2 q
      · rw [e] at q; cases q
    · rcases n.new a m with q | q
      · exact h1 q
      · rw [e] at q; cases q
    · rcases n.newB a m with q | q
      · exact h2 q
      · rw [e] at q; cases q
  | .kl xs, _, .kl k r => .kl (k.mono n w.f) (Reps.mono n w s xs r)
  | .tup xs, _, .tup k r => .tup (SqT.mono n w.f w.t k) (Reps.mono n w s xs r)
  | .ref _, _, .ref e => by
    obtain ⟨y, q⟩ := n.pre
    refine .ref ?_
    rw [q, List.getElem?_append_left (List.getElem?_eq_some_iff.mp e).1]
    exact e
theorem Reps.mono (n : Nx W ρ B H ρ' B' H') (w : Wr W H) (s : ∀ a ∈ W, a ∈ ρ ∨ a ∈ B ∨ H a = .none) : ∀ (xs : List PV) {vs : List V}, Reps K ρ B H xs vs → Reps K ρ' B' H' xs vs
  | [], _, .nil => .nil
  | x :: xs, _, .cons r t => .cons (Rep.mono n w s x r) (Reps.mono n w s xs t)
end
theorem KRep.mono (n : Nx W ρ B H ρ' B' H') (w : Wr W H) (s : ∀ a ∈ W, a ∈ ρ ∨ a ∈ B ∨ H a = .none) {kvs : List (Key × PV)} {ws : List (Key × V)} (r : KRep K ρ B H kvs ws) : KRep K ρ' B' H' kvs ws :=
  Paired.mapP r fun _ _ q => ⟨q.1, Rep.mono n w s _ q.2⟩
theorem ORep.mono (n : Nx W ρ B H ρ' B' H') (w : Wr W H) (s : ∀ a ∈ W, a ∈ ρ ∨ a ∈ B ∨ H a = .none) {o : Ob} {a : Addr} (m : a ∉ W) (r : ORep K ρ B H o a) : ORep K ρ' B' H' o a := by
  cases o with
  | l xs => obtain ⟨vs, e, r⟩ := r; exact ⟨vs, n.ext a _ e m, Reps.mono n w s xs r⟩
  | d kvs => obtain ⟨ws, e, r⟩ := r; exact ⟨ws, n.ext a _ e m, r.mono n w s⟩
theorem ORep.at {o : Ob} {a : Addr} (r : ORep K ρ B H o a) : (∃ vs, H a = some (.lst vs)) ∨ ∃ ws, H a = some (.dK ws) := by
  cases o with
  | l xs => obtain ⟨vs, e, _⟩ := r; exact .inl ⟨vs, e⟩
  | d kvs => obtain ⟨ws, e, _⟩ := r; exact .inr ⟨ws, e⟩
theorem ORep.some {o : Ob} {a : Addr} (r : ORep K ρ B H o a) : H a ≠ .none := by
  rcases r.at with ⟨_, e⟩ | ⟨_, e⟩ <;> (rw [e]; simp)
theorem GSim.live (g : GSim K ρ B h H) {a : Addr} (m : a ∈ B) : ∃ o, H a = some o := (g.own a m).live
theorem GSim.at (g : GSim K ρ B h H) {a : Addr} (m : a ∈ ρ) : (∃ vs, H a = some (.lst vs)) ∨ ∃ ws, H a = some (.dK ws) := by
  obtain ⟨n, hn, e⟩ := List.getElem_of_mem m
  have hn' : n < h.length := by rw [← g.len]; exact hn
  exact (g.obj n h[n] a (by simp [hn']) (by rw [List.getElem?_eq_getElem hn, e])).at
theorem GSim.wr (g : GSim K ρ B h H) : Wr ρ H := fun b m => by
  rcases g.at m with q | q
  · exact .inl q
  · exact .inr (.inl q)
theorem GSim.ne (g : GSim K ρ B h H) {a : Addr} (m : a ∈ ρ) : H a ≠ .none := by
  rcases g.at m with ⟨_, e⟩ | ⟨_, e⟩ <;> (rw [e]; simp)
theorem GSim.apart (g : GSim K ρ B h H) {a : Addr} (m : a ∈ B) : a ∉ ρ := fun q => (List.nodup_append.mp g.nd).2.2 a q a m rfl
theorem GSim.drop (g : GSim K ρ B h H) (s : B'.Sublist B) : GSim K ρ B' h H := by
  have n : Nx [] ρ B H ρ B' H := Nx.shrink fun a m => s.subset m
  exact ⟨g.nd.sublist ((List.Sublist.refl ρ).append s), g.len, fun i o a e1 e2 => (g.obj i o a e1 e2).mono n (fun _ m => nomatch m) (fun _ m => nomatch m) (fun m => nomatch m), fun a m => g.own a (s.subset m)⟩
/-- steps of an expression: the boxes alone are written to -/
theorem Nx.step (n : Nx ρ ρ B H ρ' B' H') (g' : GSim K ρ' B' h' H') (n' : Nx ρ' ρ' B' H' ρ'' B'' H'') : Nx ρ ρ B H ρ'' B'' H'' := by
  obtain ⟨y, e⟩ := n.pre
  refine n.trans n' (fun a m _ => g'.ne (by rw [e]; exact List.mem_append_left _ m)) fun a m => n.new a m
theorem Nx.fresh (n : Nx ρ ρ B H ρ' B' H') (g' : GSim K ρ' B' h' H') {a : Addr} (e : H' a = .none) : H a = .none := by
  obtain ⟨y, q⟩ := n.pre
  exact n.none (fun a m _ => g'.ne (by rw [q]; exact List.mem_append_left _ m)) e
theorem Rep.next (n : Nx ρ ρ B H ρ' B' H') (g : GSim K ρ B h H) {v : PV} {x : V} (r : Rep K ρ B H v x) : Rep K ρ' B' H' v x := Rep.mono n g.wr (fun a m => .inl m) v r
theorem Reps.next (n : Nx ρ ρ B H ρ' B' H') (g : GSim K ρ B h H) {v : List PV} {x : List V} (r : Reps K ρ B H v x) : Reps K ρ' B' H' v x := Reps.mono n g.wr (fun a m => .inl m) v r
theorem ORep.next (n : Nx ρ ρ B H ρ' B' H') (g : GSim K ρ B h H) {o : Ob} {a : Addr} (m : a ∈ B) (r : ORep K ρ B H o a) : ORep K ρ' B' H' o a := ORep.mono n g.wr (fun a m => .inl m) (g.apart m) r
theorem RRep.next (n : Nx ρ ρ B H ρ' B' H') (g : GSim K ρ B h H) (s : ∀ a ∈ B, a ∈ B') {r : R} {x : V} (q : RRep K ρ B H r x) : RRep K ρ' B' H' r x := by
  cases r with
  | pv v => exact Rep.next n g q
  | fr o => obtain ⟨a, e, m, q⟩ := q; exact ⟨a, e, s a m, q.next n g m⟩
  | br o => obtain ⟨a, e, m, q⟩ := q; exact ⟨a, e, s a m, q.next n g m⟩
theorem SSim.next (n : Nx ρ ρ B H ρ' B' H') (g : GSim K ρ B h H) (s : ∀ a ∈ B, a ∈ B') (z : SSim K ρ B L env σ H) : SSim K ρ' B' L env σ H' := by
  refine ⟨z.len, fun a m => s a (z.sub a m), fun i v e => ?_, fun i o e => ?_, z.inj⟩
  · obtain ⟨x, e1, r⟩ := z.sh i v e
    exact ⟨x, e1, r.next n g⟩
  · obtain ⟨a, e1, m, r⟩ := z.ow i o e
    exact ⟨a, e1, m, r.next n g (z.sub a m)⟩
theorem Rep.drop (s : ∀ a ∈ B', a ∈ B) {v : PV} {x : V} (r : Rep K ρ B H v x) : Rep K ρ B' H v x := Rep.mono (W := []) (Nx.shrink s) (fun _ m => nomatch m) (fun _ m => nomatch m) v r
theorem Reps.drop (s : ∀ a ∈ B', a ∈ B) {v : List PV} {x : List V} (r : Reps K ρ B H v x) : Reps K ρ B' H v x := Reps.mono (W := []) (Nx.shrink s) (fun _ m => nomatch m) (fun _ m => nomatch m) v r
theorem ORep.drop (s : ∀ a ∈ B', a ∈ B) {o : Ob} {a : Addr} (r : ORep K ρ B H o a) : ORep K ρ B' H o a := ORep.mono (W := []) (Nx.shrink s) (fun _ m => nomatch m) (fun _ m => nomatch m) (fun m => nomatch m) r

/-! ### rows -/
theorem Reps.length : ∀ {xs : List PV} {vs : List V}, Reps K ρ B H xs vs → xs.length = vs.length
  | [], _, .nil => rfl
  | _ :: _, _, .cons _ t => congrArg Nat.succ t.length
theorem Reps.get : ∀ {xs : List PV} {vs : List V} {i : Nat} {x : PV}, Reps K ρ B H xs vs → xs[i]? = some x → ∃ v, vs[i]? = some v ∧ Rep K ρ B H x v
  | _, _, _, _, .nil, e => by simp at e
  | _, _, 0, _, .cons r _, e => by simp at e; subst e; exact ⟨_, rfl, r⟩
  | _, _, i + 1, x, .cons _ t, e => by
    obtain ⟨v, h1, h2⟩ := Reps.get (i := i) (x := x) t (by simpa using e)
    exact ⟨v, by simpa using h1, h2⟩
theorem Reps.append : ∀ {xs ys : List PV} {us ws : List V}, Reps K ρ B H xs us → Reps K ρ B H ys ws → Reps K ρ B H (xs ++ ys) (us ++ ws)
  | _, _, _, _, .nil, s => s
  | _, _, _, _, .cons r t, s => .cons r (t.append s)
theorem Reps.take : ∀ {xs : List PV} {us : List V} (n : Nat), Reps K ρ B H xs us → Reps K ρ B H (xs.take n) (us.take n)
  | _, _, 0, _ => .nil
  | _, _, _ + 1, .nil => .nil
  | _, _, n + 1, .cons r t => .cons r (t.take n)
theorem Reps.drp : ∀ {xs : List PV} {us : List V} (n : Nat), Reps K ρ B H xs us → Reps K ρ B H (xs.drop n) (us.drop n)
  | _, _, 0, r => r
  | _, _, _ + 1, .nil => .nil
  | _, _, n + 1, .cons _ t => t.drp n
theorem Reps.set {x : PV} {v : V} (r : Rep K ρ B H x v) : ∀ {xs : List PV} {us : List V} (i : Nat), Reps K ρ B H xs us → Reps K ρ B H (xs.set i x) (us.set i v)
  | _, _, _, .nil => .nil
  | _, _, 0, .cons _ t => .cons r t
  | _, _, i + 1, .cons q t => .cons q (Reps.set r i t)
theorem Reps.snoc {x : PV} {v : V} {xs : List PV} {us : List V} (t : Reps K ρ B H xs us) (r : Rep K ρ B H x v) : Reps K ρ B H (xs ++ [x]) (us ++ [v]) := t.append (.cons r .nil)
theorem Reps.reverse : ∀ {xs : List PV} {us : List V}, Reps K ρ B H xs us → Reps K ρ B H xs.reverse us.reverse
  | _, _, .nil => .nil
  | _, _, .cons r t => by rw [List.reverse_cons, List.reverse_cons]; exact t.reverse.snoc r
theorem Reps.cut {xs : List PV} {us : List V} (lo hi : Option Int) (r : Reps K ρ B H xs us) : Reps K ρ B H (cutP xs lo hi) (cutV us lo hi) := by
  unfold cutP cutV
  rw [r.length]
  exact (r.drp _).take _
theorem Reps.atI {xs : List PV} {us : List V} {i : Int} {x : PV} (r : Reps K ρ B H xs us) (e : atI xs i = some x) : ∃ v, atI us i = some v ∧ Rep K ρ B H x v := by
  unfold L2.atI at e ⊢
  rw [← r.length]
  cases q : ixN xs.length i with
  | none => rw [q] at e; cases e
  | some j =>
    rw [q] at e
    obtain ⟨v, h1, h2⟩ := r.get (i := j) (by simpa using e)
    exact ⟨v, by simpa using h1, h2⟩
theorem Reps.ints : ∀ (ns : List Int), Reps K ρ B H (ns.map PV.int) (ns.map V.int)
  | [] => .nil
  | n :: ns => .cons (.int n) (Reps.ints ns)
theorem KRep.val {kvs : List (Key × PV)} {ws : List (Key × V)} (r : KRep K ρ B H kvs ws) (k : Key) : (valP kvs k = .none ∧ valV ws k = .none) ∨ ∃ v x, valP kvs k = some v ∧ valV ws k = some x ∧ Rep K ρ B H v x := by
  induction r with
  | nil => exact .inl ⟨rfl, rfl⟩
  | cons p t ih =>
    rename_i a b _ _
    obtain ⟨e, q⟩ := p
    by_cases c : b.1 = k
    · refine .inr ⟨a.2, b.2, ?_, valV_pos c, q⟩
      unfold valP
      rw [List.find?_cons_of_pos (by rw [e]; exact decide_eq_true c)]; rfl
    · rw [valV_neg c]
      unfold valP at ih ⊢
      rw [List.find?_cons_of_neg (by rw [e]; simpa using c)]
      exact ih

/-! ### data -/
theorem Rep.sqL {xs : List PV} {x : V} (r : Rep K ρ B H (.lst xs) x ∨ Rep K ρ B H (.kl xs) x) : ∃ a vs, x = .ref a ∧ SqL K H a vs ∧ Reps K ρ B H xs vs := by
  rcases r with r | r
  · cases r with
    | lst e _ _ r => exact ⟨_, _, rfl, SqL.of e, r⟩
  · cases r with
    | kl k r => exact ⟨_, _, rfl, k.sq, r⟩
mutual
theorem Rep.dp : ∀ (v : PV) {x : V} {d : PyData}, toD v = some d → Rep K ρ B H v x → Dp K H x d
  | .non, _, _, e, r => by cases r; simp only [toD, Option.some.injEq] at e; subst e; exact .non
  | .bl b, _, _, e, r => by cases r; simp only [toD, Option.some.injEq] at e; subst e; exact .bl b
  | .int i, _, _, e, r => by cases r; simp only [toD, Option.some.injEq] at e; subst e; exact .int i
  | .str z, _, _, e, r => by cases r; simp only [toD, Option.some.injEq] at e; subst e; exact .str z
  | .lst xs, _, _, e, .lst h _ _ r => by
    simp only [toD, Option.map_eq_some_iff] at e
    obtain ⟨ds, e, rfl⟩ := e
    exact .lst (SqL.of h) (Reps.dp xs e r)
  | .kl xs, _, _, e, .kl k r => by
    simp only [toD, Option.map_eq_some_iff] at e
    obtain ⟨ds, e, rfl⟩ := e
    exact .lst k.sq (Reps.dp xs e r)
  | .tup xs, _, _, e, .tup k r => by
    simp only [toD, Option.map_eq_some_iff] at e
    obtain ⟨ds, e, rfl⟩ := e
    exact .tup k (Reps.dp xs e r)
  | .ref _, _, _, e, _ => by simp [toD] at e
theorem Reps.dp : ∀ (xs : List PV) {vs : List V} {ds : List PyData}, toDs xs = some ds → Reps K ρ B H xs vs → DpAll K H vs ds
  | [], _, _, e, .nil => by simp only [toDs, Option.some.injEq] at e; subst e; exact .nil
  | x :: xs, _, _, e, .cons r t => by
    simp only [toDs, Option.bind_eq_some_iff, Option.map_eq_some_iff] at e
    obtain ⟨d, e1, ds, e2, rfl⟩ := e
    exact .cons (Rep.dp x e1 r) (Reps.dp xs e2 t)
end
end
mutual
theorem toD_of : ∀ (v : PV), plain v = true → ∃ d, toD v = some d ∧ d.canLay0 = true ∧ d.depth = dep v
  | .non, _ => ⟨_, rfl, rfl, rfl⟩
  | .bl _, _ => ⟨_, rfl, rfl, rfl⟩
  | .int _, _ => ⟨_, rfl, rfl, rfl⟩
  | .str x, e => ⟨_, rfl, by simpa [plain, PyData.canLay0] using e, rfl⟩
  | .lst xs, e => by
    obtain ⟨ds, e1, e2, e3⟩ := toDs_of xs (by simpa [plain] using e)
    exact ⟨.list ds, by simp [toD, e1], by simpa [PyData.canLay0] using e2, by simp [PyData.depth, dep, e3]⟩
  | .kl xs, e => by
    obtain ⟨ds, e1, e2, e3⟩ := toDs_of xs (by simpa [plain] using e)
    exact ⟨.list ds, by simp [toD, e1], by simpa [PyData.canLay0] using e2, by simp [PyData.depth, dep, e3]⟩
  | .tup xs, e => by
    obtain ⟨ds, e1, e2, e3⟩ := toDs_of xs (by simpa [plain] using e)
    exact ⟨.tuple ds, by simp [toD, e1], by simpa [PyData.canLay0] using e2, by simp [PyData.depth, dep, e3]⟩
  | .ref _, e => by simp [plain] at e
theorem toDs_of : ∀ (xs : List PV), plains xs = true → ∃ ds, toDs xs = some ds ∧ PyData.canLayAll0 ds = true ∧ PyData.depthAll ds = deps xs
  | [], _ => ⟨[], rfl, rfl, rfl⟩
  | x :: xs, e => by
    rw [plains, Bool.and_eq_true] at e
    obtain ⟨d, e1, e2, e3⟩ := toD_of x e.1
    obtain ⟨ds, f1, f2, f3⟩ := toDs_of xs e.2
    exact ⟨d :: ds, by simp [toDs, e1, f1], by simp [PyData.canLayAll0, e2, f2], by simp [PyData.depthAll, deps, e3, f3]⟩
end
theorem okD_of {v : PV} (e : okD v = true) : ∃ d, toD v = some d ∧ SeqAt.shaped d = true := by
  unfold okD at e
  rw [Bool.and_eq_true] at e
  obtain ⟨d, e1, e2, e3⟩ := toD_of v e.1
  refine ⟨d, e1, ?_⟩
  unfold SeqAt.shaped
  rw [e2, e3]
  simpa using e.2
mutual
theorem eqv_of : ∀ (v u : PV) {d e : PyData}, toD v = some d → toD u = some e → PyData.eqv d e = pvEq v u
  | v, u, d, e, h1, h2 => by
    cases v <;> cases u <;> simp only [toD, Option.some.injEq, Option.map_eq_some_iff, reduceCtorEq] at h1 h2 <;>
      first
        | (subst h1 h2; simp only [PyData.eqv, pvEq])
        | (obtain ⟨ds, h1, rfl⟩ := h1; obtain ⟨es, h2, rfl⟩ := h2
           first
             | (simp only [PyData.eqv, pvEq]; exact eqvs_of _ _ h1 h2)
             | simp only [PyData.eqv, pvEq])
        | (obtain ⟨ds, h1, rfl⟩ := h1; subst h2; simp only [PyData.eqv, pvEq])
        | (obtain ⟨es, h2, rfl⟩ := h2; subst h1; simp only [PyData.eqv, pvEq])
theorem eqvs_of : ∀ (xs ys : List PV) {ds es : List PyData}, toDs xs = some ds → toDs ys = some es → PyData.eqvAll ds es = pvEqs xs ys
  | [], [], ds, es, h1, h2 => by
    simp only [toDs, Option.some.injEq] at h1 h2
    subst h1 h2
    rfl
  | [], y :: ys, ds, es, h1, h2 => by
    simp only [toDs, Option.some.injEq, Option.bind_eq_some_iff, Option.map_eq_some_iff] at h1 h2
    obtain ⟨d, e1, ds', e2, rfl⟩ := h2
    subst h1
    rfl
  | x :: xs, [], ds, es, h1, h2 => by
    simp only [toDs, Option.some.injEq, Option.bind_eq_some_iff, Option.map_eq_some_iff] at h1 h2
    obtain ⟨d, e1, ds', e2, rfl⟩ := h1
    subst h2
    rfl
  | x :: xs, y :: ys, ds, es, h1, h2 => by
    simp only [toDs, Option.bind_eq_some_iff, Option.map_eq_some_iff] at h1 h2
    obtain ⟨d, e1, ds', e2, rfl⟩ := h1
    obtain ⟨e, f1, es', f2, rfl⟩ := h2
    simp only [PyData.eqvAll, pvEqs]
    rw [eqv_of x y e1 f1, eqvs_of xs ys e2 f2]
end
end Ev

set_option maxRecDepth 100000
/-! EvC: the text's side: what is looked at in a text, and the contexts. -/
namespace Ev
open PySem PySem.Spec PyProof.Rows L2
/-! ### defs, with the guards of repr known -/
structure FnG (gd : Bool) (P : Program) (w : World) (K : PySem.W.Frag) (mg : Str → Option Value) (base : Heap) (k : Nat) (f : Addr) (fd : FuncData) (ps : List Str) (sp : Sp) : Prop where
  len : ∀ vs H Q E, sp vs H Q E → vs.length = ps.length
  go : ∀ (A : Around) (out : List Env) (s : Shared) (H : Hp) (as : Args) (us : List Value) (vs : List V) (Q : VK) (E : XK), Room k A ∧ (gd = true → A.guards = some []) → Env0 P w K mg base A out s H → BindsTo s fd as (ps.zip us) → Vals vs us → sp vs H Q E →
    codeAny (model P w) A (.call (.ref f) as) (CR CX0 out P w H s Q E) s
theorem FnG.imp {gd : Bool} {P : Program} {w : World} {K : PySem.W.Frag} {mg : Str → Option Value} {base : Heap} {k : Nat} {f : Addr} {fd : FuncData} {ps : List Str} {sp sp' : Sp} (F : FnG gd P w K mg base k f fd ps sp) (h : ∀ vs H Q E, sp' vs H Q E → sp vs H Q E) : FnG gd P w K mg base k f fd ps sp' :=
  ⟨fun vs H Q E q => F.len vs H Q E (h _ _ _ _ q), fun A o s H as us vs Q E r e b v q => F.go A o s H as us vs Q E r e b v (h _ _ _ _ q)⟩
section
variable {gd : Bool} {X : Cx} {k : Nat} {f : Addr} {fd : FuncData} {ps : List Str} {sp : Sp} {E : XK} {x : Str} {p pos : Pos} {e : Expr} {es : List Expr} {t : TA}
theorem run_g {pins : List (Addr × Obj)} {σ : L2.St} {H : Hp} {s : Shared} {Q : VK} {us : List Value} {vs : List V} (F : FnG gd X.prog X.w X.K X.mg X.base k f fd ps sp) (hr : Room k X.A) (hg : gd = true → X.A.guards = some []) (hb : Binds X.K fd ps [])
    (I : Inv X pins σ H s) (r : Vals vs us) (h : sp vs H Q E0) : wpAny (model X.prog X.w) X.A (call (.ref f) us) (EP X pins σ Q) X.xe s := by
  have hl : us.length = ps.length := by rw [← r.length]; exact F.len _ _ _ _ h
  have hbb := hb s us I.kIn (by rw [List.append_nil]; exact hl)
  rw [List.append_nil] at hbb
  refine wpAny_call (codeAny_mono (F.go X.A X.stack s H ⟨us, []⟩ us vs Q E0 ⟨hr, hg⟩ I.env0 hbb r h) fun z s' hq => ?_)
  cases z with
  | error e => exact hq.elim
  | ok fl => cases fl <;> first | exact I.after hq | exact False.elim hq
theorem call_g (F : FnG gd X.prog X.w X.K X.mg X.base k f fd ps sp) (hr : Room k X.A) (hgd : gd = true → X.A.guards = some []) (hg : Gl X x) (hm : X.mg x = some (.ref f)) (hk : PySem.W.keepIn X.K (.ref f) = true) (hb : Binds X.K fd ps [])
    (ha : PA X (e :: es) t) (hdb : (x == ("__debug__" : Str)) = false) (he : starEach (e :: es) X.env = (false, eval e X.env) :: starEach es X.env) (hpl : (backTo pos (starEach es X.env)).any (·.1) = false) :
    PE X (.Call (.Name x p) (e :: es) [] pos) (fun σ H Q => t σ H fun vs H1 => sp vs H1 Q E0) :=
  ⟨fun pins s σ H Q I q => wpAny_Call_Name_kw (ld_glob I hg hm (PySem.W.callWith_K (h₀ := X.base) I.ok.mod.kin hk (thn (ha.run pos pins s σ H _ I q) fun us s1 ⟨vs, H1, I1, r, q1⟩ => ⟨I1.kIn, run_g F hr hgd hb I1 r q1⟩) he hpl) hdb)⟩
theorem call_g0 (F : FnG gd X.prog X.w X.K X.mg X.base k f fd ps sp) (hr : Room k X.A) (hgd : gd = true → X.A.guards = some []) (hg : Gl X x) (hm : X.mg x = some (.ref f)) (hk : PySem.W.keepIn X.K (.ref f) = true) (hb : Binds X.K fd ps [])
    (hdb : (x == ("__debug__" : Str)) = false) : PE X (.Call (.Name x p) [] [] pos) (fun σ H Q => sp [] H Q E0) :=
  ⟨fun pins s σ H Q I q => wpAny_Call_Name_kw (ld_glob I hg hm (PySem.W.callWith_K0 I.kIn hk (run_g (us := []) F hr hgd hb I .nil q)) hdb)⟩
end
theorem fn_g {gd : Bool} {P : Program} {w : World} {K : PySem.W.Frag} {mg : Str → Option Value} {base : Heap} {k : Nat} {f : Addr} {name qual : Str} {params : Arguments} {body : List Stmt} {scope : Scope} {dV kV doc pm cdv ct oc : Value} {an od : Option Addr}
    {osl : Array (Option Value)} {N ps : List Str} {sp : Sp} (lk : K.lookup f = some ⟨oc, od, .func (PySem.W.fnOf name qual params body scope dV kV doc pm an cdv ct), osl⟩) (hcd : PySem.W.codeIn K cdv qual = true) (S : FnScope N ps scope)
    (len : ∀ vs H Q E, sp vs H Q E → vs.length = ps.length)
    (hbody : ∀ (A : Around) (o : List Env) (s : Shared) (H : Hp) (vs : List V) (Q : VK) (E : XK), Room k (A.deeper (envOfC qual scope s.heap.objs.size f cdv)) → (gd = true → A.guards = some []) → sp vs H Q E →
      ∃ t, PSs (cxOf CX0 P w K mg base N qual scope f cdv A o s H E) body t ∧ t { nx := fun _ H' => Q .non H', rt := Q } (start N vs) H) :
    FnG gd P w K mg base (k + 1) f (PySem.W.fnOf name qual params body scope dV kV doc pm an cdv ct) ps sp := by
  refine ⟨len, fun A o s H as us vs Q E hr e0 hb r hsp => ?_⟩
  have hl := len _ _ _ _ hsp
  have keep : ∀ b ob, base.get? b = some ob → s.heap.get? b = some ob := fun b ob e => (e0.bs b ob e).1
  have KX : K.In s.heap := e0.mod.kin.keeps keep
  have lim := e0.mod.nolimit.keeps keep
  have hkind : ∀ y ∈ ps.zip us, scope.names.lookup y.1 = some .local ∨ (scope.names.lookup y.1 = some .cell ∧ ((cellsFrom (s.heap.objs.size + 1) scope.names []).lookup y.1).isSome = true) := by
    rintro ⟨n, v⟩ hy
    rcases S.par n (List.of_mem_zip hy).1 with q | q
    · exact .inl q
    · exact .inr ⟨q, PySem.W.cellsFrom_some _ _ _ (.inl q)⟩
  refine codeAny_call_function hr.1.depth (KX _ _ lk) rfl S.co S.gen rfl (PySem.W.codeRec_of KX hcd) (hb _ _ _ _ (wpAny_newFunctionEnv_cells S.kind hkind fun env he s1 x => ?_))
  subst he
  obtain ⟨t, ht, hq⟩ := hbody A o s H vs Q E (hr.1.deeper _) hr.2 hsp
  have I : Inv (cxOf CX0 P w K mg base N qual scope f cdv A o s H E) [] (start N vs) H s1 := inv_start S hr.1.hd e0 hl r x
  refine ⟨lim.keeps x.toInCall.keep, codeAny_func (wpAny_mono (ht.run [] s1 (start N vs) H _ I hq) (fun fl s' hs => ?_) fun e s' hs => hs)⟩
  cases fl with
  | ret u =>
    obtain ⟨v, σ', H', J, rv, q⟩ := hs
    exact ⟨v, H', J.os, J.bare, J.base, J.hok, rv, q⟩
  | next =>
    obtain ⟨σ', H', J, q⟩ := hs
    exact ⟨V.non, H', J.os, J.bare, J.base, J.hok, rfl, q⟩
  | brk =>
    obtain ⟨_, _, _, q⟩ := hs
    exact q.elim
  | cont =>
    obtain ⟨_, _, _, q⟩ := hs
    exact q.elim

/-! ### what a def gives, as a promise -/
/-- what comes of a new object: its place is one more that may be written to -/
def RPost (r : R) (x : V) (B B' : List Addr) (H : Hp) : Prop := match r with
  | .fr _ => ∃ a, x = .ref a ∧ B' = a :: B ∧ H a = none
  | _ => B' = B
theorem RPost.sup {r : R} {x : V} {B B' : List Addr} {H : Hp} (p : RPost r x B B' H) : ∀ a ∈ B, a ∈ B' := by
  cases r with
  | fr o => obtain ⟨a, _, e, _⟩ := p; rw [e]; exact fun b m => List.mem_cons_of_mem _ m
  | pv v => rw [show B' = B from p]; exact fun _ m => m
  | br o => rw [show B' = B from p]; exact fun _ m => m
theorem RPost.sl {r : R} {x : V} {B B' : List Addr} {H : Hp} (p : RPost r x B B' H) : B.Sublist B' := by
  cases r with
  | fr o => obtain ⟨a, _, e, _⟩ := p; rw [e]; exact List.sublist_cons_self _ _
  | pv v => rw [show B' = B from p]; exact List.Sublist.refl _
  | br o => rw [show B' = B from p]; exact List.Sublist.refl _
/-- the end of an expression that began with rho, B, H -/
def EEnd (K : PySem.W.Frag) (ρ B : List Addr) (H : Hp) (r : R) (h' : Hh) (Q : VK) : Prop :=
  ∀ ρ' B' x H', Nx ρ ρ B H ρ' B' H' → GSim K ρ' B' h' H' → RRep K ρ' B' H' r x → RPost r x B B' H → Q x H'
def spEv (K : PySem.W.Frag) (ds : List Def) (k f : Nat) : Sp := fun vs H Q _ => ∃ ρ B h xs r h', GSim K ρ B h H ∧ Reps K ρ B H xs vs ∧ callK ds k f xs h = some (r, h') ∧ EEnd K ρ B H r h' Q
def tE (K : PySem.W.Frag) (C : Call) (e : E) : TE := fun σ H Q => ∃ ρ B L env h r h', GSim K ρ B h H ∧ SSim K ρ B L env σ H ∧ ev C e env h = some (r, h') ∧ EEnd K ρ B H r h' Q
/-- a row of values, handed on -/
def tA (K : PySem.W.Frag) (C : Call) (e : E) : TA := fun σ H Q => ∃ ρ B L env h vs h', GSim K ρ B h H ∧ SSim K ρ B L env σ H ∧ evs C e env h = some (vs, h') ∧
  ∀ ρ' xs H', Nx ρ ρ B H ρ' B H' → GSim K ρ' B h' H' → Reps K ρ' B H' vs xs → Q xs H'
/-- a row of results; P: the places of the new ones, the last one first -/
inductive RReps (K : PySem.W.Frag) (ρ B : List Addr) (H : Hp) : List R → List V → List Addr → Prop
  | nil : RReps K ρ B H [] [] []
  | pv {v : PV} {x : V} {rs : List R} {xs : List V} {P : List Addr} : Rep K ρ B H v x → RReps K ρ B H rs xs P → RReps K ρ B H (.pv v :: rs) (x :: xs) P
  | br {o : Ob} {a : Addr} {rs : List R} {xs : List V} {P : List Addr} : a ∈ B → ORep K ρ B H o a → RReps K ρ B H rs xs P → RReps K ρ B H (.br o :: rs) (.ref a :: xs) P
  | fr {o : Ob} {a : Addr} {rs : List R} {xs : List V} {P : List Addr} : a ∈ B → ORep K ρ B H o a → RReps K ρ B H rs xs P → RReps K ρ B H (.fr o :: rs) (.ref a :: xs) (P ++ [a])
def tR (K : PySem.W.Frag) (C : Call) (e : E) : TA := fun σ H Q => ∃ ρ B L env h rs h', GSim K ρ B h H ∧ SSim K ρ B L env σ H ∧ evr C e env h = some (rs, h') ∧
  ∀ ρ' P xs H', Nx ρ ρ B H ρ' (P ++ B) H' → GSim K ρ' (P ++ B) h' H' → RReps K ρ' (P ++ B) H' rs xs P → (∀ a ∈ P, H a = none) → Q xs H'
/-- a test -/
def tT (K : PySem.W.Frag) (C : Call) (e : E) : TT := fun σ H Q => ∃ ρ B L env h b h', GSim K ρ B h H ∧ SSim K ρ B L env σ H ∧ evt C e env h = some (b, h') ∧
  ∀ ρ' H', Nx ρ ρ B H ρ' B H' → GSim K ρ' B h' H' → Q b H'

/-! ### the contexts -/
structure Gb where
  ds : List Def
  globs : List (Str × PV)
  gd : Bool
def bltNames : List Str := ["abs", "int", "len", "list", "tuple", "all", "any", "sorted", "max", "min", "str", "repr", "dict", "range", "enumerate", "zip", "isinstance", "set", "bool"]
/-- where a text stands: the slots' names, its scope, which names have cells that were made here -/
structure Sc where
  N : List Str
  sc : Scope
  fn : Str → Bool
structure Ok (G : Gb) (k : Nat) (s : Sc) (X : Cx) : Prop where
  N : X.N = s.N
  nd : s.N.Nodup
  sc : X.env.scope = s.sc
  fn : X.fn = s.fn
  calm : X.calm = true
  room : Room k X.A
  gd : G.gd = true → X.A.guards = some []
  fns : ∀ (f : Nat) (d : Def), G.ds[f]? = some d → ∃ (a : Addr) (fd : FuncData), X.mg d.name = some (.ref a) ∧ PySem.W.keepIn X.K (.ref a) = true ∧ Binds X.K fd d.pars [] ∧ FnG G.gd X.prog X.w X.K X.mg X.base k a fd d.pars (spEv X.K G.ds k f)
  blts : ∀ x ∈ bltNames, X.mg x = none
  glob : ∀ x v, (x, v) ∈ G.globs → ∃ u y, X.mg x = some u ∧ RelV y u ∧ ∀ ρ B H, Rep X.K ρ B H v y
/-- the scope of a comprehension's block -/
def Sc.blk (s : Sc) (scope : Scope) : Sc := ⟨s.N, relS scope s.sc, fun x => scope.names.lookup x == some .cell⟩
theorem Ok.blk {G : Gb} {k : Nat} {s : Sc} {X : Cx} (o : Ok G k s X) (sh : Shared) (H : Hp) (scope : Scope) (C : Addr) (cl : List (Str × Addr)) (fp : List Addr) : Ok G k (s.blk scope) (X.blk sh H scope (compEnvC scope cl C X.env) fp) := by
  refine ⟨o.N, o.nd, ?_, rfl, o.calm, o.room, o.gd, o.fns, o.blts, o.glob⟩
  show relS scope X.env.scope = relS scope s.sc
  rw [o.sc]
def Sc.vis (s : Sc) (x : Str) : Bool := match s.sc.names.lookup x with
  | some .local => true
  | some .cell => true
  | some .free => true
  | _ => false
def Sc.gl (s : Sc) (x : Str) : Bool := match s.sc.names.lookup x with
  | some .globalImplicit => true
  | _ => false
/-- a name that may be stored -/
def Sc.sto (s : Sc) (x : Str) : Bool := match s.sc.names.lookup x with
  | some .local => true
  | some .cell => s.fn x
  | _ => false
def okName (x : Str) : Bool := !(x == ("__debug__" : Str)) && !(x == ("__classdict__" : Str))
section
variable {G : Gb} {k : Nat} {s : Sc} {X : Cx} {x : Str}
theorem Ok.vis (o : Ok G k s X) (h : s.vis x = true) : Vis X.env.scope x := by
  unfold Sc.vis at h
  rw [o.sc]
  split at h
  · exact .inl (by assumption)
  · exact .inr (.inl (by assumption))
  · exact .inr (.inr (by assumption))
  · cases h
theorem Ok.gl (o : Ok G k s X) (h : s.gl x = true) : Gl X x := by
  unfold Sc.gl at h
  show X.env.scope.names.lookup x = _
  rw [o.sc]
  split at h
  · assumption
  · cases h
theorem Ok.sto (o : Ok G k s X) (h : s.sto x = true) : Loc X.env.scope x ∧ (X.fn x = true ∨ X.env.scope.names.lookup x = some .local) := by
  unfold Sc.sto at h
  rw [o.sc, o.fn]
  split at h
  · exact ⟨.inl (by assumption), .inr (by assumption)⟩
  · exact ⟨.inr (by assumption), .inl h⟩
  · cases h
end
theorem okName_d {x : Str} (h : okName x = true) : (x == ("__debug__" : Str)) = false ∧ (x == ("__classdict__" : Str)) = false := by
  unfold okName at h
  simpa using h

/-! ### looks at a text -/
def isStar : Expr → Bool
  | .Starred _ _ => true
  | _ => false
def isSetE : Expr → Bool
  | .Set _ _ _ => true
  | _ => false
def isSliceE : Expr → Bool
  | .Slice _ _ _ _ => true
  | _ => false
def isCallE : Expr → Bool
  | .Call _ _ _ _ => true
  | _ => false
/-- a comprehension -/
def isCompE : Expr → Bool
  | .ListComp _ _ _ _ => true
  | .SetComp _ _ _ _ => true
  | .DictComp _ _ _ _ _ => true
  | _ => false
/-- its test is not its value's truth -/
def isOddT : Expr → Bool
  | .UnaryOp .Not _ _ => true
  | .BoolOp _ _ _ => true
  | .IfExp _ _ _ _ => true
  | .Compare _ _ _ _ => true
  | _ => false
theorem star_one {e : Expr} {es : List Expr} {env : Env} (h : isStar e = false) : starEach (e :: es) env = (false, eval e env) :: starEach es env := by
  cases e <;> first | rfl | cases h
theorem star_none {env : Env} {pos : Pos} : ∀ {es : List Expr}, es.all (fun e => !isStar e) = true → (backTo pos (starEach es env)).any (·.1) = false
  | [], _ => rfl
  | e :: es, h => by
    rw [List.all_cons, Bool.and_eq_true] at h
    rw [star_one (by simpa using h.1)]
    show (false || (backTo pos (starEach es env)).any (·.1)) = false
    rw [star_none h.2]
    rfl
theorem mark_no {e : Expr} {op : CmpOp} (h : isSetE e = false) : behindInMarks op e = false := by
  cases e <;> first | rfl | cases h
theorem plain_ix {e : Expr} (h : isSliceE e = false) : PlainIx e := fun o i => by
  cases e <;> first | rfl | cases h
theorem base_no {o : Expr} {a : Str} {env : Env} {w : Sem Value} (h : isCallE o = false) : attributeBase o a env w = w := by
  cases o <;> first | rfl | cases h
theorem truth_of {e : Expr} {env : Env} (h : isOddT e = false) (whole : Sem Value) : isTrue e env whole = (do let v ← whole; standAt e.pos; holding [v] (truthy v)) := by
  cases e <;> first
    | rfl
    | cases h
    | (rename_i op a p; cases op <;> first | rfl | cases h)
theorem swap_no {e : Expr} {t : Option Expr} {l : Nat} {env : Env} (h : isCompE e = false) : swapsWith e t l env = pure false := by
  cases e <;> first | rfl | cases h
theorem fold_no {e : Expr} {env : Env} (h : isSetE e = false) (x : Value) : foldedSetIterable e env x = pure x := by
  cases e <;> first | rfl | cases h
mutual
/-- the same value, to the last part -/
def pvSame : PV → PV → Bool
  | .non, .non => true
  | .bl a, .bl b => a == b
  | .int i, .int j => decide (i = j)
  | .str x, .str y => decide (x = y)
  | .lst xs, .lst ys => pvSames xs ys
  | .kl xs, .kl ys => pvSames xs ys
  | .tup xs, .tup ys => pvSames xs ys
  | .ref n, .ref m => n == m
  | _, _ => false
def pvSames : List PV → List PV → Bool
  | [], [] => true
  | x :: xs, y :: ys => pvSame x y && pvSames xs ys
  | _, _ => false
end
mutual
theorem same_of : ∀ (v u : PV), pvSame v u = true → v = u
  | v, u, h => by
    cases v <;> cases u <;> simp only [pvSame, beq_iff_eq, decide_eq_true_eq, Bool.false_eq_true] at h <;>
      first
        | rfl
        | (subst h; rfl)
        | rw [sames_of _ _ h]
theorem sames_of : ∀ (xs ys : List PV), pvSames xs ys = true → xs = ys
  | [], [], _ => rfl
  | [], _ :: _, h => by cases h
  | _ :: _, [], h => by cases h
  | x :: xs, y :: ys, h => by
    rw [pvSames, Bool.and_eq_true] at h
    rw [same_of x y h.1, sames_of xs ys h.2]
end
end Ev

set_option maxRecDepth 100000
/-! EvD: operators, subscripts, slices, built-ins by values. -/
namespace Ev
open PySem PySem.Spec PyProof.Rows L2
section
variable {K : PySem.W.Frag} {ρ ρ' ρ2 B B' B2 L : List Addr} {H H' H2 : Hp} {h h' h2 : Hh} {r : R} {x : V} {Q : VK}
theorem RRep.seqL {xs : List PV} (g : GSim K ρ B h H) (q : RRep K ρ B H r x) (e : r.seq h = some (false, xs)) : ∃ a vs, x = .ref a ∧ SqL K H a vs ∧ Reps K ρ B H xs vs := by
  unfold R.seq at e
  split at e
  · simp only [Option.some.injEq, Prod.mk.injEq, true_and] at e
    subst e
    exact Rep.sqL (.inl q)
  · simp only [Option.some.injEq, Prod.mk.injEq, true_and] at e
    subst e
    exact Rep.sqL (.inr q)
  · simp at e
  · split at e
    · simp only [Option.some.injEq, Prod.mk.injEq, true_and] at e
      subst e
      cases q with
      | ref q =>
        obtain ⟨vs, e1, r1⟩ := g.obj _ _ _ (by assumption) q
        exact ⟨_, vs, rfl, SqL.of e1, r1⟩
    · cases e
  · simp only [Option.some.injEq, Prod.mk.injEq, true_and] at e
    subst e
    obtain ⟨a, rfl, m, vs, e1, r1⟩ := q
    exact ⟨a, vs, rfl, SqL.of e1, r1⟩
  · simp only [Option.some.injEq, Prod.mk.injEq, true_and] at e
    subst e
    obtain ⟨a, rfl, m, vs, e1, r1⟩ := q
    exact ⟨a, vs, rfl, SqL.of e1, r1⟩
  · cases e
theorem RRep.seqT {xs : List PV} (q : RRep K ρ B H r x) (e : r.seq h = some (true, xs)) : ∃ a vs, x = .ref a ∧ SqT K H a vs ∧ Reps K ρ B H xs vs ∧ r = .pv (.tup xs) := by
  unfold R.seq at e
  split at e
  · simp at e
  · simp at e
  · simp only [Option.some.injEq, Prod.mk.injEq, true_and] at e
    subst e
    cases q with
    | tup k r => exact ⟨_, _, rfl, k, r, rfl⟩
  · split at e <;> simp at e
  · simp at e
  · simp at e
  · cases e
theorem RRep.own {xs : List PV} (g : GSim K ρ B h H) (q : RRep K ρ B H r x) (e : r.own h = some xs) : ∃ a vs, x = .ref a ∧ H a = some (.lst vs) ∧ Reps K ρ B H xs vs := by
  unfold R.own at e
  split at e
  · cases e
    cases q with
    | lst e1 _ _ r => exact ⟨_, _, rfl, e1, r⟩
  · split at e
    · cases e
      cases q with
      | ref q =>
        obtain ⟨vs, e1, r1⟩ := g.obj _ _ _ (by assumption) q
        exact ⟨_, vs, rfl, e1, r1⟩
    · cases e
  · cases e
    obtain ⟨a, rfl, m, vs, e1, r1⟩ := q
    exact ⟨a, vs, rfl, e1, r1⟩
  · cases e
    obtain ⟨a, rfl, m, vs, e1, r1⟩ := q
    exact ⟨a, vs, rfl, e1, r1⟩
  · cases e
theorem RRep.dct {kvs : List (Key × PV)} (g : GSim K ρ B h H) (q : RRep K ρ B H r x) (e : r.dct h = some kvs) : ∃ a ws, x = .ref a ∧ H a = some (.dK ws) ∧ KRep K ρ B H kvs ws := by
  unfold R.dct at e
  split at e
  · split at e
    · cases e
      cases q with
      | ref q =>
        obtain ⟨vs, e1, r1⟩ := g.obj _ _ _ (by assumption) q
        exact ⟨_, vs, rfl, e1, r1⟩
    · cases e
  · cases e
    obtain ⟨a, rfl, m, vs, e1, r1⟩ := q
    exact ⟨a, vs, rfl, e1, r1⟩
  · cases e
    obtain ⟨a, rfl, m, vs, e1, r1⟩ := q
    exact ⟨a, vs, rfl, e1, r1⟩
  · cases e
/-- a list's data at its place -/
theorem dp_list {a : Addr} {vs : List V} {xs : List PV} {d : PyData} (e : H a = some (.lst vs)) (r : Reps K ρ B H xs vs) (t : toD (.lst xs) = some d) : Dp K H (.ref a) d := by
  simp only [toD, Option.map_eq_some_iff] at t
  obtain ⟨ds, t, rfl⟩ := t
  exact .lst (SqL.of e) (Reps.dp xs t r)
theorem RRep.dat {v : PV} {d : PyData} (g : GSim K ρ B h H) (q : RRep K ρ B H r x) (e : r.dat h = some v) (t : toD v = some d) : Dp K H x d := by
  unfold R.dat at e
  split at e
  · split at e
    · cases e
      cases q with
      | ref q =>
        obtain ⟨vs, e1, r1⟩ := g.obj _ _ _ (by assumption) q
        exact dp_list e1 r1 t
    · cases e
  · cases e
    exact Rep.dp _ t q
  · cases e
    obtain ⟨a, rfl, m, vs, e1, r1⟩ := q
    exact dp_list e1 r1 t
  · cases e
    obtain ⟨a, rfl, m, vs, e1, r1⟩ := q
    exact dp_list e1 r1 t
  · cases e

/-! ### ends -/
theorem end_pv {v : PV} (g : GSim K ρ B h H) (q : Rep K ρ B H v x) (e : EEnd K ρ B H (.pv v) h Q) : Q x H := e ρ B x H Nx.refl g q rfl
theorem end_new {o : Ob} {a : Addr} {u : HO} (g : GSim K ρ B h H) (n : H a = none) (q : ORep K ρ (a :: B) (upd H a u) o a) (e : EEnd K ρ B H (.fr o) h Q) : Q (.ref a) (upd H a u) := by
  have hne : ∀ {b : Addr}, H b ≠ none → b ≠ a := fun {b} hb z => hb (by rw [z]; exact n)
  have nx : Nx ρ ρ B H ρ (a :: B) (upd H a u) := by
    refine ⟨⟨[], by simp⟩, fun _ m => .inl m, fun b m => ?_, fun b o e _ => ?_⟩
    · rcases List.mem_cons.mp m with rfl | m
      · exact .inr n
      · exact .inl m
    · rw [upd_ne (hne (by rw [e]; simp))]; exact e
  have na : a ∉ ρ := fun m => g.ne m n
  have nb : a ∉ B := fun m => by
    obtain ⟨o, e⟩ := g.live m
    rw [n] at e; cases e
  refine e ρ (a :: B) _ _ nx ⟨?_, g.len, fun i o b e1 e2 => ?_, fun b m => ?_⟩ ⟨a, rfl, List.mem_cons_self, q⟩ ⟨a, rfl, rfl, n⟩
  · have := g.nd
    rw [List.nodup_append] at this ⊢
    refine ⟨this.1, List.nodup_cons.mpr ⟨nb, this.2.1⟩, fun b hb c hc => ?_⟩
    rcases List.mem_cons.mp hc with rfl | hc
    · exact fun z => na (z ▸ hb)
    · exact this.2.2 b hb c hc
  · have hb : b ∈ ρ := List.mem_of_getElem? e2
    have q := g.obj i o b e1 e2
    have q2 := ORep.mono (W := []) (H' := upd H a u) (B' := a :: B) (ρ' := ρ) ⟨nx.pre, nx.new, nx.newB, fun c o e _ => by rw [upd_ne (hne (by rw [e]; simp))]; exact e⟩ (fun _ m => nomatch m) (fun _ m => nomatch m) (fun m => nomatch m) q
    exact q2
  · rcases List.mem_cons.mp m with rfl | m
    · exact q.at
    · exact (g.own b m).keep fun o e => by rw [upd_ne (hne (by rw [e]; simp))]; exact e
/-- rows stay behind a new place -/
theorem Reps.laid {xs : List PV} {vs : List V} {a : Addr} {u : HO} (n : H a = none) (q : Reps K ρ B H xs vs) : Reps K ρ (a :: B) (upd H a u) xs vs := by
  refine Reps.mono (W := []) ⟨⟨[], by simp⟩, fun _ m => .inl m, fun b m => ?_, fun b o e _ => ?_⟩ (fun _ m => nomatch m) (fun _ m => nomatch m) xs q
  · rcases List.mem_cons.mp m with rfl | m
    · exact .inr n
    · exact .inl m
  · rw [upd_ne (ne_of_none e n)]; exact e
theorem Reps.laid0 {xs : List PV} {vs : List V} {a : Addr} {u : HO} (n : H a = none) (q : Reps K ρ B H xs vs) : Reps K ρ B (upd H a u) xs vs := (q.laid n).drop fun _ m => List.mem_cons_of_mem _ m
theorem KRep.laid {xs : List (Key × PV)} {vs : List (Key × V)} {a : Addr} {u : HO} (n : H a = none) (q : KRep K ρ B H xs vs) : KRep K ρ (a :: B) (upd H a u) xs vs := by
  refine KRep.mono (W := []) ⟨⟨[], by simp⟩, fun _ m => .inl m, fun b m => ?_, fun b o e _ => ?_⟩ (fun _ m => nomatch m) (fun _ m => nomatch m) q
  · rcases List.mem_cons.mp m with rfl | m
    · exact .inr n
    · exact .inl m
  · rw [upd_ne (ne_of_none e n)]; exact e
theorem end_lst {xs : List PV} {vs : List V} {a : Addr} (g : GSim K ρ B h H) (n : H a = none) (q : Reps K ρ B H xs vs) (e : EEnd K ρ B H (.fr (.l xs)) h Q) : Q (.ref a) (upd H a (.lst vs)) :=
  end_new (o := .l xs) g n ⟨vs, upd_same, q.laid n⟩ e
theorem end_dct {xs : List (Key × PV)} {vs : List (Key × V)} {a : Addr} (g : GSim K ρ B h H) (n : H a = none) (q : KRep K ρ B H xs vs) (e : EEnd K ρ B H (.fr (.d xs)) h Q) : Q (.ref a) (upd H a (.dK vs)) :=
  end_new (o := .d xs) g n ⟨vs, upd_same, q.laid n⟩ e
/-- the heap with one thing more, that no one of ours is -/
theorem GSim.laid {a : Addr} {u : HO} (g : GSim K ρ B h H) (n : H a = none) : GSim K ρ B h (upd H a u) ∧ Nx ρ ρ B H ρ B (upd H a u) := by
  have nx : ∀ W, Nx W ρ B H ρ B (upd H a u) := fun W => ⟨⟨[], by simp⟩, fun _ m => .inl m, fun b m => .inl m, fun b o e _ => by rw [upd_ne (ne_of_none e n)]; exact e⟩
  refine ⟨⟨g.nd, g.len, fun i o b e1 e2 => ?_, fun b m => ?_⟩, nx ρ⟩
  · exact ORep.mono (nx []) (fun _ m => nomatch m) (fun _ m => nomatch m) (fun m => nomatch m) (g.obj i o b e1 e2)
  · exact (g.own b m).keep fun o e => by rw [upd_ne (ne_of_none e n)]; exact e
theorem end_tup {xs : List PV} {vs : List V} {a : Addr} (g : GSim K ρ B h H) (n : H a = none) (q : Reps K ρ B H xs vs) (e : EEnd K ρ B H (.pv (.tup xs)) h Q) : Q (.ref a) (upd H a (.tup vs)) := by
  obtain ⟨g', nx⟩ := g.laid (u := .tup vs) n
  exact e ρ B _ _ nx g' (Rep.tup (.inl (.inl upd_same)) (q.laid0 n)) rfl
/-- no slot's object -/
def R.nb : R → Bool
  | .br _ => false
  | _ => true
theorem EEnd.seq (e : EEnd K ρ B H r h' Q) (n : Nx ρ ρ B H ρ2 B H2) (g : GSim K ρ2 B h2 H2) : EEnd K ρ2 B H2 r h' Q := fun ρ' B' x H' n' g' q p => by
  refine e ρ' B' x H' (n.step g n') g' q ?_
  cases r with
  | fr o => obtain ⟨a, e1, e2, e3⟩ := p; exact ⟨a, e1, e2, n.fresh g e3⟩
  | pv v => exact p
  | br o => exact p
theorem EEnd.lift (e : EEnd K ρ B H r h' Q) (n : Nx ρ ρ B H ρ2 B2 H2) (g : GSim K ρ2 B2 h2 H2) (s : B.Sublist B2) (nb : r.nb = true) : EEnd K ρ2 B2 H2 r h' Q := fun ρ' B' x H' n' g' q p => by
  have nn := n.step g n'
  cases r with
  | fr o =>
    obtain ⟨a, e1, rfl, e3⟩ := p
    obtain ⟨b, e4, m, q⟩ := q
    obtain rfl : a = b := by rw [e1] at e4; injection e4
    have sl : (a :: B).Sublist (a :: B2) := s.cons₂ a
    exact e ρ' (a :: B) x H' (nn.to fun b m => sl.subset m) (g'.drop sl) ⟨a, e1, List.mem_cons_self, q.drop fun b m => sl.subset m⟩ ⟨a, e1, rfl, n.fresh g e3⟩
  | pv v =>
    obtain rfl : B' = B2 := p
    exact e ρ' B x H' (nn.to fun b m => s.subset m) (g'.drop s) (Rep.drop (fun b m => s.subset m) q) rfl
  | br o => cases nb
end
theorem lim_eq : lim = sizeLine := by decide
theorem le_lim {n : Nat} (h : n ≤ lim) : n ≤ sizeLine := h
theorem lt_lim {n : Nat} (h : n < lim) : n < sizeLine := h

section
variable {G : Gb} {k : Nat} {sc : Sc} {X : Cx} {ρ B L : List Addr} {h : Hh} {a b r : R}
/-- by values: an operation of two values -/
def OpV (X : Cx) (f : Value → Value → Sem Value) (g : Hh → R → R → Option R) : Prop :=
  ∀ (ρ B : List Addr) (h : Hh) (a b r : R), g h a b = some r → OpR X f fun x y H Q => GSim X.K ρ B h H ∧ RRep X.K ρ B H a x ∧ RRep X.K ρ B H b y ∧ EEnd X.K ρ B H r h Q
theorem opw {f : Value → Value → Sem Value} {r r' : R2} (h : OpR X f r') (w : ∀ x y H Q, r x y H Q → r' x y H Q) : OpR X f r := fun pins s σ H x y v u Q I rx ry q => h pins s σ H x y v u Q I rx ry (w _ _ _ _ q)
theorem rep_int {K : PySem.W.Frag} {H : Hp} {i : Int} {x : V} (q : RRep K ρ B H (.pv (.int i)) x) : x = .int i := by cases q; rfl
theorem rep_str {K : PySem.W.Frag} {H : Hp} {z : Str} {x : V} (q : RRep K ρ B H (.pv (.str z)) x) : x = .str z := by cases q; rfl
theorem bop_nb {op : Operator} (e : bop op h a b = some r) : r.nb = true := by
  unfold bop at e
  repeat' split at e
  all_goals first
    | (cases e; done)
    | (cases e; rfl)
    | (obtain ⟨xs, _, e⟩ := Option.bind_eq_some_iff.mp e
       obtain ⟨ys, _, e⟩ := Option.bind_eq_some_iff.mp e
       split at e
       · cases e; rfl
       · cases e)
theorem cmul_of {i j : Int} (h : (small 64 i || small 64 j) = true) : CMul i j := by
  rcases Bool.or_eq_true _ _ ▸ h with h | h
  · have := small_lt h
    exact .inl (by omega)
  · have := small_lt h
    exact .inr (by omega)
theorem cpow_of {i j : Int} (h : 0 ≤ j ∧ j.toNat ≤ 1000000 ∧ small 64 i = true) : CPow i j := ⟨h.1, by omega, small_lt h.2.2⟩
theorem bop_ok (op : Operator) : OpV X (binaryOp op) (bop op) := by
  intro ρ B h a b r e
  unfold bop at e
  split at e
  · split at e
    · cases e
      refine opw op_add fun x y H Q ⟨g, q1, q2, q⟩ => ?_
      exact ⟨_, _, rep_int q1, rep_int q2, end_pv g (.int _) q⟩
    · split at e
      · cases e
        refine opw op_add_str fun x y H Q ⟨g, q1, q2, q⟩ => ?_
        exact ⟨_, _, rep_str q1, rep_str q2, le_lim (by assumption), end_pv g (.str _) q⟩
      · cases e
    · split at e
      · cases e
        refine opw op_catA fun x y H Q ⟨g, q1, q2, q⟩ => ?_
        rename_i xs ys _
        cases q1 with
        | tup k1 r1 =>
          cases q2 with
          | tup k2 r2 =>
            refine ⟨_, _, _, _, rfl, rfl, k1, k2, by rw [← r1.length, ← r2.length]; exact le_lim (by assumption), fun e => ?_, fun e1 e2 => ?_, fun _ _ p hp => end_tup g hp (r1.append r2) q⟩
            · subst e
              cases r1
              exact end_pv g (.tup k2 r2) q
            · subst e2
              cases r2
              rw [List.append_nil] at q
              exact end_pv g (.tup k1 r1) q
      · cases e
    · simp only [Option.bind_eq_some_iff] at e
      obtain ⟨xs, e1, ys, e2, e⟩ := e
      split at e
      · cases e
        refine opw op_cat fun x y H Q ⟨g, q1, q2, q⟩ => ?_
        obtain ⟨p1, vs, rfl, h1, r1⟩ := q1.own g e1
        obtain ⟨p2, ws, rfl, h2, r2⟩ := q2.own g e2
        exact ⟨_, _, _, _, rfl, rfl, h1, h2, by rw [← r1.length, ← r2.length]; exact le_lim (by assumption), fun p hp => end_lst g hp (r1.append r2) q⟩
      · cases e
  · split at e
    · cases e
      exact opw op_sub fun x y H Q ⟨g, q1, q2, q⟩ => ⟨_, _, rep_int q1, rep_int q2, end_pv g (.int _) q⟩
    · cases e
  · split at e
    · split at e
      · cases e
        exact opw op_mul fun x y H Q ⟨g, q1, q2, q⟩ => ⟨_, _, rep_int q1, rep_int q2, cmul_of (by assumption), end_pv g (.int _) q⟩
      · cases e
    · cases e
  · split at e
    · split at e
      · cases e
        exact opw op_fdivN fun x y H Q ⟨g, q1, q2, q⟩ => ⟨_, _, rep_int q1, rep_int q2, by assumption, end_pv g (.int _) q⟩
      · cases e
    · cases e
  · split at e
    · split at e
      · cases e
        exact opw op_modN fun x y H Q ⟨g, q1, q2, q⟩ => ⟨_, _, rep_int q1, rep_int q2, by assumption, end_pv g (.int _) q⟩
      · cases e
    · cases e
  · split at e
    · split at e
      · cases e
        exact opw op_pow fun x y H Q ⟨g, q1, q2, q⟩ => ⟨_, _, rep_int q1, rep_int q2, cpow_of (by assumption), end_pv g (.int _) q⟩
      · cases e
    · cases e
  · cases e
end
end Ev

set_option maxRecDepth 100000
/-! EvE: comparisons, subscripts, slices, truth, built-ins by values. -/
namespace Ev
open PySem PySem.Spec PyProof.Rows L2
section
variable {G : Gb} {k : Nat} {sc : Sc} {X : Cx} {ρ B L : List Addr} {h : Hh} {a b r : R}
theorem eqv_any {v : PV} {d : PyData} (e : toD v = some d) : ∀ (xs : List PV) {ds : List PyData}, toDs xs = some ds → (ds.any fun z => PyData.eqv z d) = xs.any fun z => pvEq z v
  | [], ds, h => by
    simp only [toDs, Option.some.injEq] at h
    subst h
    rfl
  | x :: xs, ds, h => by
    simp only [toDs, Option.bind_eq_some_iff, Option.map_eq_some_iff] at h
    obtain ⟨d', e1, ds', e2, rfl⟩ := h
    rw [List.any_cons, List.any_cons, eqv_of x v e1 e, eqv_any e xs e2]
def rInT (K : PySem.W.Frag) (neg : Bool) : R2 := fun x y H Q => ∃ d ds, Dp K H x d ∧ Dp K H y (.tuple ds) ∧ SeqAt.shaped d = true ∧ SeqAt.shaped (.tuple ds) = true ∧ Q (.bl (if neg then !ds.any fun z => PyData.eqv z d else ds.any fun z => PyData.eqv z d)) H
theorem room_in {A : Around} {d : PyData} {ds : List PyData} (s : SeqAt.shaped d = true) (hu : A.units + 65 < cLine) : A.units + 1 + min (PyData.depthAll ds) d.depth < cLine := by
  have := SeqAt.depth_of_shaped s
  have h2 : min (PyData.depthAll ds) d.depth ≤ d.depth := Nat.min_le_right _ _
  omega
theorem op_inT (hu : X.A.units + 65 < cLine) : OpR X (compareOp .In) (rInT X.K false) := fun pins s σ H x y v u Q I rx ry hh => by
  obtain ⟨d, ds, hd, he, sd, se, q⟩ := hh
  obtain ⟨as, r1⟩ := Dp.reads I d x v hd rx
  obtain ⟨bs, r2⟩ := Dp.reads I (.tuple ds) y u he ry
  exact SeqAt.in_tuple_reads r2 r1 (SeqAt.canLay_of_shaped se) (SeqAt.canLay_of_shaped sd) (room_in sd hu) ⟨.bl _, H, I, rfl, q⟩
theorem op_notInT (hu : X.A.units + 65 < cLine) : OpR X (compareOp .NotIn) (rInT X.K true) := fun pins s σ H x y v u Q I rx ry hh => by
  obtain ⟨d, ds, hd, he, sd, se, q⟩ := hh
  obtain ⟨as, r1⟩ := Dp.reads I d x v hd rx
  obtain ⟨bs, r2⟩ := Dp.reads I (.tuple ds) y u he ry
  exact SeqAt.notIn_tuple_reads r2 r1 (SeqAt.canLay_of_shaped se) (SeqAt.canLay_of_shaped sd) (room_in sd hu) ⟨.bl _, H, I, rfl, q⟩
theorem key_rep {K : PySem.W.Frag} {H : Hp} {v : PV} {kk : Key} {x : V} (e : keyOf v = some kk) (q : Rep K ρ B H v x) : x = kV kk := by
  cases q <;> simp only [keyOf, Option.some.injEq, reduceCtorEq] at e <;> subst e <;> rfl
theorem dget_of {K : PySem.W.Frag} {H : Hp} {kvs : List (Key × PV)} {ws : List (Key × V)} {p : Addr} {kk : Key} (e : H p = some (.dK ws)) : DGet H p (kV kk) (valV ws kk) := DGet.k e
theorem val_some {K : PySem.W.Frag} {H : Hp} {kvs : List (Key × PV)} {ws : List (Key × V)} (q : KRep K ρ B H kvs ws) (kk : Key) : (valP kvs kk).isSome = (valV ws kk).isSome := by
  rcases q.val kk with ⟨e1, e2⟩ | ⟨v, x, e1, e2, _⟩ <;> rw [e1, e2] <;> rfl
theorem op_dIn (hu : X.A.units + 1 < cLine) : OpR X (compareOp .In) (fun x y H Q => ∃ p o, y = .ref p ∧ DGet H p x o ∧ Q (.bl o.isSome) H) := fun pins s σ H x y v u Q I rx ry hh => by
  obtain ⟨p, o, rfl, g, q⟩ := hh
  cases ry
  exact d_in hu I g rx fun s3 I3 => ⟨.bl _, H, I3, rfl, q⟩
theorem op_dNotIn (hu : X.A.units + 1 < cLine) : OpR X (compareOp .NotIn) (fun x y H Q => ∃ p o, y = .ref p ∧ DGet H p x o ∧ Q (.bl (!o.isSome)) H) := fun pins s σ H x y v u Q I rx ry hh => by
  obtain ⟨p, o, rfl, g, q⟩ := hh
  cases ry
  exact d_notIn hu I g rx fun s3 I3 => ⟨.bl _, H, I3, rfl, q⟩
/-- the two ways of in: a dict's keys, a row's items -/
theorem in_way {kb : Bool} (e : inR h a b = some kb) : (∃ kvs v kk, b.dct h = some kvs ∧ a = .pv v ∧ keyOf v = some kk ∧ kb = (valP kvs kk).isSome) ∨
    ∃ v u xs, a.dat h = some v ∧ b.dat h = some u ∧ okD v = true ∧ okD u = true ∧ (u = .lst xs ∨ u = .kl xs ∨ u = .tup xs) ∧ kb = xs.any fun z => pvEq z v := by
  unfold inR at e
  split at e
  · split at e
    · obtain ⟨kk, e1, e2⟩ := Option.map_eq_some_iff.mp e
      exact .inl ⟨_, _, kk, by assumption, rfl, e1, e2.symm⟩
    · cases e
  · obtain ⟨v, e1, e⟩ := Option.bind_eq_some_iff.mp e
    obtain ⟨u, e2, e⟩ := Option.bind_eq_some_iff.mp e
    split at e
    · split at e
      · rename_i c
        rw [Bool.and_eq_true] at c
        exact .inr ⟨v, _, _, e1, e2, c.1, c.2, .inl rfl, (Option.some.inj e).symm⟩
      · cases e
    · split at e
      · rename_i c
        rw [Bool.and_eq_true] at c
        exact .inr ⟨v, _, _, e1, e2, c.1, c.2, .inr (.inl rfl), (Option.some.inj e).symm⟩
      · cases e
    · split at e
      · rename_i c
        rw [Bool.and_eq_true] at c
        exact .inr ⟨v, _, _, e1, e2, c.1, c.2, .inr (.inr rfl), (Option.some.inj e).symm⟩
      · cases e
    · cases e
theorem cop_ok (hu : X.A.units + 65 < cLine) (op : CmpOp) : OpV X (compareOp op) (fun h a b => (cop op h a b).map fun c => .pv (.bl c)) := by
  intro ρ B h a b r e0
  obtain ⟨kb, e, er⟩ := Option.map_eq_some_iff.mp e0
  clear e0
  subst er
  unfold cop at e
  split at e
  · -- ==
    obtain ⟨v, e1, e⟩ := Option.bind_eq_some_iff.mp e
    obtain ⟨u, e2, e⟩ := Option.bind_eq_some_iff.mp e
    split at e
    · rename_i c
      rw [Bool.and_eq_true] at c
      obtain ⟨d, f1, f2⟩ := okD_of c.1
      obtain ⟨d', f3, f4⟩ := okD_of c.2
      cases e
      refine opw (op_eqD (by omega)) fun x y H Q ⟨g, q1, q2, q⟩ => ⟨d, d', q1.dat g e1 f1, q2.dat g e2 f3, f2, f4, ?_⟩
      rw [eqv_of _ _ f1 f3]
      exact end_pv g (.bl _) q
    · cases e
  · obtain ⟨kb', e0, rfl⟩ := Option.map_eq_some_iff.mp e
    clear e
    have e := e0
    obtain ⟨v, e1, e⟩ := Option.bind_eq_some_iff.mp e
    obtain ⟨u, e2, e⟩ := Option.bind_eq_some_iff.mp e
    split at e
    · rename_i c
      rw [Bool.and_eq_true] at c
      obtain ⟨d, f1, f2⟩ := okD_of c.1
      obtain ⟨d', f3, f4⟩ := okD_of c.2
      cases e
      refine opw (op_neD (by omega)) fun x y H Q ⟨g, q1, q2, q⟩ => ⟨d, d', q1.dat g e1 f1, q2.dat g e2 f3, f2, f4, ?_⟩
      rw [eqv_of _ _ f1 f3]
      exact end_pv g (.bl _) q
    · cases e
  · -- in
    rcases in_way e with ⟨kvs, v, kk, e1, rfl, e2, rfl⟩ | ⟨v, u, xs, e1, e2, c1, c2, cu, rfl⟩
    · refine opw (op_dIn (by omega)) fun x y H Q ⟨g, q1, q2, q⟩ => ?_
      obtain ⟨p, ws, rfl, e3, r1⟩ := q2.dct g e1
      rw [key_rep e2 q1]
      rw [val_some r1] at q
      exact ⟨p, _, rfl, DGet.k e3, end_pv g (.bl _) q⟩
    · obtain ⟨d, f1, f2⟩ := okD_of c1
      obtain ⟨d', f3, f4⟩ := okD_of c2
      rcases cu with rfl | rfl | rfl
      · simp only [toD, Option.map_eq_some_iff] at f3
        obtain ⟨ds, f3, rfl⟩ := f3
        refine opw (op_inD hu) fun x y H Q ⟨g, q1, q2, q⟩ => ⟨d, ds, q1.dat g e1 f1, q2.dat g e2 (by simp [toD, f3]), f2, f4, ?_⟩
        rw [eqv_any f1 xs f3]
        exact end_pv g (.bl _) q
      · simp only [toD, Option.map_eq_some_iff] at f3
        obtain ⟨ds, f3, rfl⟩ := f3
        refine opw (op_inD hu) fun x y H Q ⟨g, q1, q2, q⟩ => ⟨d, ds, q1.dat g e1 f1, q2.dat g e2 (by simp [toD, f3]), f2, f4, ?_⟩
        rw [eqv_any f1 xs f3]
        exact end_pv g (.bl _) q
      · simp only [toD, Option.map_eq_some_iff] at f3
        obtain ⟨ds, f3, rfl⟩ := f3
        refine opw (op_inT hu) fun x y H Q ⟨g, q1, q2, q⟩ => ⟨d, ds, q1.dat g e1 f1, q2.dat g e2 (by simp [toD, f3]), f2, f4, ?_⟩
        rw [eqv_any f1 xs f3]
        exact end_pv g (.bl _) q
  · obtain ⟨kb', e0, rfl⟩ := Option.map_eq_some_iff.mp e
    clear e
    have e := e0
    rcases in_way e with ⟨kvs, v, kk, e1, rfl, e2, rfl⟩ | ⟨v, u, xs, e1, e2, c1, c2, cu, rfl⟩
    · refine opw (op_dNotIn (by omega)) fun x y H Q ⟨g, q1, q2, q⟩ => ?_
      obtain ⟨p, ws, rfl, e3, r1⟩ := q2.dct g e1
      rw [key_rep e2 q1]
      rw [val_some r1] at q
      exact ⟨p, _, rfl, DGet.k e3, end_pv g (.bl _) q⟩
    · obtain ⟨d, f1, f2⟩ := okD_of c1
      obtain ⟨d', f3, f4⟩ := okD_of c2
      rcases cu with rfl | rfl | rfl
      · simp only [toD, Option.map_eq_some_iff] at f3
        obtain ⟨ds, f3, rfl⟩ := f3
        refine opw (op_notInD hu) fun x y H Q ⟨g, q1, q2, q⟩ => ⟨d, ds, q1.dat g e1 f1, q2.dat g e2 (by simp [toD, f3]), f2, f4, ?_⟩
        rw [eqv_any f1 xs f3]
        exact end_pv g (.bl _) q
      · simp only [toD, Option.map_eq_some_iff] at f3
        obtain ⟨ds, f3, rfl⟩ := f3
        refine opw (op_notInD hu) fun x y H Q ⟨g, q1, q2, q⟩ => ⟨d, ds, q1.dat g e1 f1, q2.dat g e2 (by simp [toD, f3]), f2, f4, ?_⟩
        rw [eqv_any f1 xs f3]
        exact end_pv g (.bl _) q
      · simp only [toD, Option.map_eq_some_iff] at f3
        obtain ⟨ds, f3, rfl⟩ := f3
        refine opw (op_notInT hu) fun x y H Q ⟨g, q1, q2, q⟩ => ⟨d, ds, q1.dat g e1 f1, q2.dat g e2 (by simp [toD, f3]), f2, f4, ?_⟩
        rw [eqv_any f1 xs f3]
        exact end_pv g (.bl _) q
  · split at e
    · cases e
      exact opw op_lt fun x y H Q ⟨g, q1, q2, q⟩ => ⟨_, _, rep_int q1, rep_int q2, end_pv g (.bl _) q⟩
    · cases e
  · split at e
    · cases e
      exact opw op_le fun x y H Q ⟨g, q1, q2, q⟩ => ⟨_, _, rep_int q1, rep_int q2, end_pv g (.bl _) q⟩
    · cases e
  · split at e
    · cases e
      exact opw op_gt fun x y H Q ⟨g, q1, q2, q⟩ => ⟨_, _, rep_int q1, rep_int q2, end_pv g (.bl _) q⟩
    · cases e
  · split at e
    · cases e
      exact opw op_ge fun x y H Q ⟨g, q1, q2, q⟩ => ⟨_, _, rep_int q1, rep_int q2, end_pv g (.bl _) q⟩
    · cases e
  · cases e

/-! ### subscripts -/
def IxV (X : Cx) (g : Hh → R → R → Option R) : Prop :=
  ∀ (ρ B : List Addr) (h : Hh) (a b r : R), g h a b = some r → IxR X fun x y H Q => GSim X.K ρ B h H ∧ RRep X.K ρ B H a x ∧ RRep X.K ρ B H b y ∧ EEnd X.K ρ B H r h Q
theorem ixw {r r' : R2} (h : IxR X r') (w : ∀ x y H Q, r x y H Q → r' x y H Q) : IxR X r := fun vl sl pins s σ H x y v u Q I rx ry q hs => h vl sl pins s σ H x y v u Q I rx ry (w _ _ _ _ q) hs
theorem ix_dict (hu : X.A.units + 1 < cLine) : IxR X (fun x y H Q => ∃ p v, x = .ref p ∧ DGet H p y (some v) ∧ Q v H) := fun vl sl pins s σ H x y v u Q I rx ry hh hs => by
  obtain ⟨p, z, rfl, g, q⟩ := hh
  cases rx
  have ty := dict_typeIs I g
  unfold subscriptTail
  rw [getitemInPython_of_ne ty.not_modules]
  have fin : wpAny (model X.prog X.w) X.A (subscripted sl false (.ref p) u) (fun z1 s3 => wpAny (model X.prog X.w) X.A (letTemporaryGo vl (.ref p) z1 >>= fun _ => pure z1) (EP X pins σ Q) X.xe s3) X.xe s := by
    rw [hs]
    exact wpAny_operating (d_getItem hu I g ry fun w' s' I' rw' => wpAny_bind (wpAny_letTemporaryGo (wpAny_pure ⟨z, H, I', rw', q⟩)))
  refine wpAny_bind (wpAny_bind (wpAny_specialOf ty PySem.F.slot_dict_getitem.lookup ?_))
  first
    | exact wpAny_pure (wpAny_bind fin)
    | exact wpAny_bind (wpAny_pure (wpAny_bind fin))
    | exact wpAny_bind fin
theorem ix_nb (e : ixR h a b = some r) : r.nb = true := by
  unfold ixR at e
  split at e
  · split at e
    · obtain ⟨kk, _, e⟩ := Option.bind_eq_some_iff.mp e
      obtain ⟨v, _, rfl⟩ := Option.map_eq_some_iff.mp e
      rfl
    · split at e
      · split at e
        · split at e
          · obtain ⟨v, _, rfl⟩ := Option.map_eq_some_iff.mp e
            rfl
          · cases e
        · obtain ⟨p, _, e⟩ := Option.bind_eq_some_iff.mp e
          obtain ⟨v, _, rfl⟩ := Option.map_eq_some_iff.mp e
          rfl
      · cases e
  · cases e
theorem ix_ok (hu : X.A.units + 1 < cLine) : IxV X ixR := by
  intro ρ B h a b r e
  unfold ixR at e
  split at e
  · split at e
    · obtain ⟨kk, e1, e⟩ := Option.bind_eq_some_iff.mp e
      obtain ⟨v, e2, rfl⟩ := Option.map_eq_some_iff.mp e
      refine ixw (ix_dict hu) fun x y H Q ⟨g, q1, q2, q⟩ => ?_
      obtain ⟨p, ws, rfl, e3, r1⟩ := q1.dct g (by assumption)
      rw [key_rep e1 q2]
      rcases r1.val kk with ⟨f1, _⟩ | ⟨v', z, f1, f2, f3⟩
      · rw [e2] at f1; cases f1
      · rw [e2] at f1
        cases f1
        exact ⟨p, z, rfl, by rw [← f2]; exact DGet.k e3, end_pv g f3 q⟩
    · split at e
      · split at e
        · split at e
          · obtain ⟨c, e2, rfl⟩ := Option.map_eq_some_iff.mp e
            exact ixw ix_str fun x y H Q ⟨g, q1, q2, q⟩ => ⟨_, _, c, rep_str q1, rep_int q2, le_lim (by assumption), e2, end_pv g (.str _) q⟩
          · cases e
        · obtain ⟨⟨t, xs⟩, e1, e⟩ := Option.bind_eq_some_iff.mp e
          obtain ⟨v, e2, rfl⟩ := Option.map_eq_some_iff.mp e
          cases t with
          | false =>
            refine ixw ix_list fun x y H Q ⟨g, q1, q2, q⟩ => ?_
            obtain ⟨p, vs, rfl, s1, r1⟩ := q1.seqL g e1
            obtain ⟨z, f1, f2⟩ := r1.atI e2
            exact ⟨p, vs, _, z, rfl, rep_int q2, s1, f1, end_pv g f2 q⟩
          | true =>
            refine ixw ix_tup fun x y H Q ⟨g, q1, q2, q⟩ => ?_
            obtain ⟨p, vs, rfl, s1, r1, _⟩ := q1.seqT e1
            obtain ⟨z, f1, f2⟩ := r1.atI e2
            exact ⟨p, vs, _, z, rfl, rep_int q2, s1, f1, end_pv g f2 q⟩
      · cases e
  · cases e

/-! ### slices -/
theorem slw {r r' : V → Option Int → Option Int → Hp → VK → Prop} (h : SlR X r') (w : ∀ x lo hi H Q, r x lo hi H Q → r' x lo hi H Q) : SlR X r := fun pins s σ H x v vl vu lo hi sl Q I rx hs p1 p2 q => h pins s σ H x v vl vu lo hi sl Q I rx hs p1 p2 (w _ _ _ _ _ q)
theorem sl_nb {lo hi : Option Int} (e : slR h a lo hi = some r) : r.nb = true := by
  unfold slR at e
  split at e
  · split at e
    · cases e; rfl
    · cases e
  · split at e <;> first | (cases e; done) | (cases e; rfl)
theorem sl_ok (ρ B : List Addr) (h : Hh) (a r : R) (lo hi : Option Int) (e : slR h a lo hi = some r) : SlR X fun x l u H Q => l = lo ∧ u = hi ∧ GSim X.K ρ B h H ∧ RRep X.K ρ B H a x ∧ EEnd X.K ρ B H r h Q := by
  unfold slR at e
  split at e
  · split at e
    · cases e
      refine slw sl_str fun x l u H Q ⟨e1, e2, g, q1, q⟩ => ?_
      subst e1 e2
      exact ⟨_, rep_str q1, le_lim (by assumption), end_pv g (.str _) q⟩
    · cases e
  · split at e
    · cases e
      refine slw sl_list fun x l u H Q ⟨e1, e2, g, q1, q⟩ => ?_
      subst e1 e2
      obtain ⟨p, vs, rfl, s1, r1⟩ := q1.seqL g (by assumption)
      exact ⟨p, vs, rfl, s1, fun z hz => end_lst g hz (r1.cut _ _) q⟩
    · cases e
      refine slw sl_tupA fun x l u H Q ⟨e1, e2, g, q1, q⟩ => ?_
      subst e1 e2
      obtain ⟨p, vs, rfl, s1, r1, rfl⟩ := q1.seqT (by assumption)
      refine ⟨p, vs, rfl, s1, fun hw => ?_, fun _ z hz => end_tup g hz (r1.cut _ _) q⟩
      refine end_pv g ?_ q
      rename_i xs _ _ _
      have : cutP xs l u = xs := by
        unfold cutP
        rw [r1.length, hw.1, hw.2, List.drop_zero, Nat.sub_zero, ← r1.length, List.take_length]
      rw [this]
      exact q1
    · cases e

/-! ### truth -/
theorem tru_of {K : PySem.W.Frag} {H : Hp} {x : V} {t : Bool} (g : GSim K ρ B h H) (q : RRep K ρ B H r x) (e : r.tru h = some t) : TruV K x H t := by
  unfold R.tru at e
  split at e
  · cases e; cases q; rfl
  · cases e; cases q; rfl
  · cases e; cases q; rfl
  · split at e
    · cases e; cases q; exact ⟨le_lim (by assumption), rfl⟩
    · cases e
  · split at e
    · cases e
      rename_i y xs hs
      cases y with
      | false =>
        obtain ⟨a, vs, rfl, s1, r1⟩ := q.seqL g hs
        refine .inl ⟨vs, s1, ?_⟩
        cases r1 <;> rfl
      | true =>
        obtain ⟨a, vs, rfl, s1, r1, _⟩ := q.seqT hs
        refine .inr (.inl ⟨vs, s1, ?_⟩)
        cases r1 <;> rfl
    · obtain ⟨kvs, e1, rfl⟩ := Option.map_eq_some_iff.mp e
      obtain ⟨a, ws, rfl, e2, r1⟩ := q.dct g e1
      refine .inr (.inr ⟨ws, e2, ?_⟩)
      cases r1 <;> rfl
end
end Ev

set_option maxRecDepth 100000
/-! EvF: what is walked: any row or text, enumerate of a tuple too. -/
namespace Ev
open PySem PySem.Spec PyProof.Rows L2
/-- enumerate(v), v told by its iterator -/
theorem meets_enum1 {v : Value} {o : Obj} {T : Heap → Prop} (B : Begins v o T) :
    Meets (Builtin.«enumerate.__new__» ⟨[.type "enumerate", v], []⟩) (fun _ R s => T s.heap ∧
      R (.ok (.ret (.ref (s.heap.push o).objs.size))) { s with heap := (s.heap.push o).push { cls := .type "enumerate", data := .fields #[.none, .bool false, .ref s.heap.objs.size, rawInt 0, .none, .none] } }) :=
  .of_wp fun prog w A R s hh => by
    obtain ⟨hp, g, d, tk, os⟩ := s
    obtain ⟨h1, hh⟩ := hh
    have f1 := sub_enumerate
    have f2 : ∀ {A' : Around} {E : Value → Shared → Prop} {Q : Value → Shared → Prop}, Q (.ref hp.objs.size) ⟨hp.push o, g, d, tk, os⟩ → wpAny (model prog w) A' (pyIter v) Q E ⟨hp, g, d, tk, os⟩ :=
      fun q => B.iter prog w _ _ ⟨hp, g, d, tk, os⟩ _ h1 q
    wp_walk using f2
    refine wpAny_stack_any fun st => wpAny_pure ?_
    split
    · rename_i c _ _ _ _ _
      cases (c == Value.type "enumerate") <;> (wp_walk using f2; exact ⟨_, rfl, hh⟩)
    · wp_walk using f2
      exact ⟨_, rfl, hh⟩
theorem enum_tup {prog : Program} {w : World} {A : Around} {E : Value → Shared → Prop} {s : Shared} {v : Value} {o : Obj} {T : Heap → Prop} {Q : Value → Shared → Prop} (B : Begins v o T) (h1 : T s.heap)
    (h : ∀ h', IsEnum h' (s.heap.objs.size + 1) s.heap.objs.size 0 .none → h'.get? s.heap.objs.size = some o → (∀ b o, s.heap.get? b = some o → h'.get? b = some o) → Q (.ref (s.heap.objs.size + 1)) { s with heap := h' }) :
    wpAny (model prog w) A (call (.type "enumerate") [v]) Q E s := by
  have hz : (s.heap.push o).objs.size = s.heap.objs.size + 1 := Heap.size_push ..
  refine callType_new F.called_enumerate (by decide) (F.typeCall_enumerate_1 _) (F.newCall_enumerate_1 _) (fun obj => F.args_object_init_2 obj _) F.entry_enumerate_new (meets_enum1 B) ⟨h1, ?_⟩
  show _ ∧ _
  rw [hz]
  have he := Heap.get?_push_size (s.heap.push o) (o := { cls := .type "enumerate", data := .fields #[.none, .bool false, .ref s.heap.objs.size, rawInt 0, .none, .none] }) rfl
  rw [hz] at he
  exact ⟨⟨_, he, rfl⟩, h _ he (Heap.get?_push_of_some _ (Heap.get?_push_size _ B.free)) fun b o x => Heap.get?_push_of_some _ (Heap.get?_push_of_some _ x)⟩
/-- the tuple at a, each item in a new pair -/
def IteT (K : PySem.W.Frag) (a : Addr) : It :=
  ⟨fun i H => ∃ (xs : List V) (x : V), SqT K H a xs ∧ xs[i]? = some x, fun i H v H' => ∃ T x, v = .ref T ∧ H T = none ∧ H' = upd H T (.tup [.int (i : Nat), x]) ∧ ∀ xs, SqT K H a xs → xs[i]? = some x, fun i H => ∃ xs : List V, SqT K H a xs ∧ xs.length = i⟩
theorem turn_enumT {P : Program} {w : World} {K : PySem.W.Frag} {elts : List Expr} {kk : Nat} {tpos : Pos} (a e it : Addr) :
    Turn P w K (.Tuple elts kk tpos) (IteT K a) [e, it] e (fun i h => (∃ old, IsEnum h e it ((i : Nat) : Int) old) ∧ h.IsTupleIter it a i ∧ e ≠ it) where
  mem := List.mem_cons_self
  obj := fun i h st b hb => by
    obtain ⟨⟨old, he⟩, ⟨o, ho, hc, hd⟩, _⟩ := st
    rcases List.mem_cons.mp hb with z | z
    · rw [z]; exact ⟨_, he, fun v q => nomatch q⟩
    · rw [List.mem_singleton.mp z]; exact ⟨o, ho, fun v q => by rw [hd] at q; cases q⟩
  keep := fun i h h' st kp => let ⟨⟨old, he⟩, hi, hne⟩ := st; ⟨⟨old, kp e (by simp) _ he⟩, hi.at fun o q => kp it (by simp) o q, hne⟩
  item := by
    intro X hP hw hK hc i pins s σ H E I hf st hg
    subst hP hw hK
    obtain ⟨⟨old, he⟩, hit, hne⟩ := st
    obtain ⟨xs, x, hq, hx⟩ := hg
    obtain ⟨its, rv, p, hz⟩ := I.tuple hq
    obtain ⟨u, hu, ru⟩ := rv.get hx
    have hel : e < s.heap.objs.size := Heap.lt_size he
    have hil : it < s.heap.objs.size := by obtain ⟨_, q, _⟩ := hit; exact Heap.lt_size q
    have hea : e ≠ a := fun z => by
      obtain ⟨o, q, c, _⟩ := p
      rw [← z, show s.heap.get? e = some _ from he] at q
      cases q
      exact absurd (show Value.type "enumerate" = Value.type "tuple" from c) (by decide)
    have hia : a ≠ it := fun z => by
      obtain ⟨o, q, c, _⟩ := p
      obtain ⟨o', q', c', _⟩ := hit
      rw [z, q'] at q
      cases q
      rw [c] at c'
      exact absurd c' (by decide)
    have hnf : e ∉ [it, a] := by simp [hne, hea]
    have hlt : i < its.toArray.size := by simpa using (List.getElem?_eq_some_iff.mp hu).1
    refine wpAny_pyNext_enum_itemD (Draws.tuple (A := X.A.in1) (I.ok.hd hc) it a hia its.toArray) he ⟨hit, p⟩ hlt hne hnf fun x' h' tk hx' ho hs' hT hsz hk => ?_
    obtain rfl : x' = u := by
      have q : its.toArray[i]? = some x' := hx'
      rw [List.getElem?_toArray, hu] at q
      exact (Option.some.inj q).symm
    refine ⟨_, rfl, wpAny_letOwnedTupleGo_enum (s := { s with heap := h', toks := tk + 1 }) ho fun h'' he' sb => ?_⟩
    have hT2 : h''.get? s.heap.objs.size = some { cls := .type "tuple", data := .seq #[.int i tk, x'] } := (sb.2 _ (Nat.ne_of_gt hel)).trans hT
    have new : ObjOk X.prog X.w (upd H s.heap.objs.size (.tup [.int (i : Nat), x])) h'' s.heap.objs.size (.tup [.int (i : Nat), x]) :=
      ⟨by show 2 ≤ sizeLine; decide, [.int i tk, x'], .cons ⟨_, rfl⟩ (.cons ru .nil), ⟨_, hT2, rfl, _, rfl⟩⟩
    have I1 : Inv X pins σ (upd H s.heap.objs.size (.tup [.int (i : Nat), x])) { s with heap := h'', toks := tk + 1 } :=
      I.turnedNew (ch := [e, it]) (fun b ob hb q => (sb.2 b (fun z => hb (by simp [z]))).trans (hk b ob (fun z => hb (by simp [z])) (fun z => hb (by simp [z])) q)) hf (Nat.le_refl _) new
    refine ⟨.ref s.heap.objs.size, _, I1, rfl, ⟨_, x, rfl, I.hok.fresh (Nat.le_refl _), rfl, fun ys hy => by rw [I.tuple_inj hy hq]; exact hx⟩, ⟨⟨x', ?_⟩, hs'.1.at fun o q => (sb.2 it (Ne.symm hne)).trans q, hne⟩, fun b hb => ?_⟩
    · rw [show ((i + 1 : Nat) : Int) = (i : Int) + 1 by omega]
      exact he'
    · have hb' : b < s.heap.objs.size := by
        rcases List.mem_cons.mp hb with z | z
        · rw [z]; exact hel
        · rw [List.mem_singleton.mp z]; exact hil
      rw [upd_ne (Nat.ne_of_lt hb')]
      exact (hf b hb).1
  done := by
    intro X hP hw hK hc i pins s σ H E I hf st hg
    subst hP hw hK
    obtain ⟨⟨old, he⟩, hit, hne⟩ := st
    obtain ⟨xs, hq, hx⟩ := hg
    obtain ⟨its, rv, p, hz⟩ := I.tuple hq
    obtain ⟨f0, f1, f2, f3, f4, f5⟩ := hf it (by simp)
    have hia : a ≠ it := fun z => by
      obtain ⟨o, q, c, _⟩ := p
      obtain ⟨o', q', c', _⟩ := hit
      rw [z, q'] at q
      cases q
      rw [c] at c'
      exact absurd c' (by decide)
    have hl := rv.length
    have hn : its.toArray.size = i := by simp; omega
    have D := Draws.tuple (prog := X.prog) (w := X.w) (A := X.A.in1) (I.ok.hd hc) it a hia its.toArray
    rw [hn] at D
    exact wpAny_pyNext_enum_endD D he ⟨hit, p⟩ fun h' eb => ⟨rfl, I.turned (t' := s.toks) (fun b o hb q => eb b o hb q) f0 f1 f3 f4 f5⟩
  self := fun A i s Q E st h => let ⟨⟨_, he⟩, _⟩ := st; wpAny_pyIter_enum he h
section
variable {X : Cx} {tg : Expr} {pins : List (Addr × Obj)} {σ : L2.St} {H : Hp} {s : Shared} {Rr : It → Hp → Prop}
theorem it_list {a : Addr} {xs : List V} (I : Inv X pins σ H s) (hq : SqL X.K H a xs) (q : Rr (Itl X.K a) H) : wpAny (model X.prog X.w) X.A (pyIter (.ref a)) (PIE X pins σ tg Rr) X.xe s := by
  obtain ⟨its, rv, p, hz⟩ := I.list hq
  exact wpAny_pyIter_list p.isList (pi_one (tk := s.toks) I _ (turn_list a _) ⟨_, Heap.get?_push_size _ rfl, rfl, rfl⟩ q)
theorem it_tup {a : Addr} {xs : List V} (I : Inv X pins σ H s) (hq : SqT X.K H a xs) (q : Rr (Itt X.K a) H) : wpAny (model X.prog X.w) X.A (pyIter (.ref a)) (PIE X pins σ tg Rr) X.xe s := by
  obtain ⟨its, rv, p, hz⟩ := I.tuple hq
  exact wpAny_pyIter_tuple (show s.heap.IsTuple a its.toArray from p) (pi_one (tk := s.toks) I _ (turn_tuple a _) ⟨_, Heap.get?_push_size _ rfl, rfl, rfl⟩ q)
theorem it_str {z : Str} {t : Tok} (I : Inv X pins σ H s) (q : Rr (Its z) H) : wpAny (model X.prog X.w) X.A (pyIter (.str z t)) (PIE X pins σ tg Rr) X.xe s := by
  cases ha : z.cps.all (· < 128)
  · exact wpAny_pyIter_wide ha (pi_one (tk := s.toks) I _ (turn_str _ z t "str_iterator" (.inr rfl)) ⟨_, Heap.get?_push_size _ rfl, rfl, rfl⟩ q)
  · exact wpAny_pyIter_ascii ha (pi_one (tk := s.toks) I _ (turn_str _ z t "str_ascii_iterator" (.inl rfl)) ⟨_, Heap.get?_push_size _ rfl, rfl, rfl⟩ q)
/-- any row or text -/
def rAnyI (K : PySem.W.Frag) (x : V) (H : Hp) (Rr : It → Hp → Prop) : Prop :=
  (∃ a xs, x = .ref a ∧ SqL K H a xs ∧ Rr (Itl K a) H) ∨ (∃ a xs, x = .ref a ∧ SqT K H a xs ∧ Rr (Itt K a) H) ∨ ∃ z, x = .str z ∧ Rr (Its z) H
theorem pi_any {e : Expr} {te : TE} (he : PE X e te) : PI X tg e (fun σ H Rr => te σ H fun x H1 => rAnyI X.K x H1 Rr) :=
  ⟨fun pins s σ H Rr I q => thn (he.run pins s σ H _ I q) fun v s1 ⟨x, H1, I1, r1, q1⟩ => by
    rcases q1 with ⟨a, xs, rfl, hq, q⟩ | ⟨a, xs, rfl, hq, q⟩ | ⟨z, rfl, q⟩
    · cases r1; exact it_list I1 hq q
    · cases r1; exact it_tup I1 hq q
    · obtain ⟨t, rfl⟩ := r1; exact it_str I1 q⟩
/-- enumerate of a list or tuple -/
def rEnumI (K : PySem.W.Frag) (vs : List V) (H : Hp) (Rr : It → Hp → Prop) : Prop :=
  ∃ a xs, vs = [.ref a] ∧ ((SqL K H a xs ∧ Rr (Ite K a) H) ∨ (SqT K H a xs ∧ Rr (IteT K a) H))
theorem pi_enumA {e : Expr} {ta : TA} {p pos tpos : Pos} {elts : List Expr} {kk : Nat} (hg : Gl X "enumerate") (hm : X.mg "enumerate" = none) (ha : PA X [e] ta) (hs : starEach [e] X.env = [(false, eval e X.env)]) :
    PI X (.Tuple elts kk tpos) (.Call (.Name "enumerate" p) [e] [] pos) (fun σ H Rr => ta σ H fun vs H1 => rEnumI X.K vs H1 Rr) := by
  refine ⟨fun pins s σ H Rr I q => Call_ (ld_blt I hg hm boot_enumerate (PyProof.Rows.callWith_type1 (thn (ha.run pos pins s σ H _ I q) fun us s1 ⟨vs, H1, I1, r1, q1⟩ => ?_) hs rfl))⟩
  obtain ⟨a, xs, rfl, q⟩ := q1
  cases r1 with
  | cons r rr =>
    cases rr
    cases r
    have fp : ∀ b ∈ [s1.heap.objs.size + 1, s1.heap.objs.size], FpOk X pins H1 b := fun b hb => by
      have hle : s1.heap.objs.size ≤ b := by
        rcases List.mem_cons.mp hb with z | z
        · rw [z]; exact Nat.le_succ _
        · rw [List.mem_singleton.mp z]; exact Nat.le_refl _
      exact I1.fpOk hle (I1.hok.fresh hle)
    rcases q with ⟨hq, q⟩ | ⟨hq, q⟩
    · obtain ⟨its, rv, p', hz⟩ := I1.list hq
      refine call_enumerate_list p'.isList fun h' he hit hsz hk => wpAny_pyIter_enum he ?_
      exact ⟨s1.heap.objs.size + 1, _, _, _, H1, rfl, I1.kept (t' := s1.toks) hk, turn_enum a (s1.heap.objs.size + 1) s1.heap.objs.size, ⟨⟨.none, he⟩, hit, Nat.succ_ne_self _⟩, fp, q⟩
    · obtain ⟨its, rv, p', hz⟩ := I1.tuple hq
      refine enum_tup (begins_tuple a its.toArray) p' fun h' he hit hk => wpAny_pyIter_enum he ?_
      exact ⟨s1.heap.objs.size + 1, _, _, _, H1, rfl, I1.kept (t' := s1.toks) hk, turn_enumT a (s1.heap.objs.size + 1) s1.heap.objs.size, ⟨⟨.none, he⟩, ⟨_, hit, rfl, rfl⟩, Nat.succ_ne_self _⟩, fp, q⟩
theorem walk_enumT {K : PySem.W.Frag} {a : Addr} {xs : List V} : Walk (IteT K a) xs.length (fun H => SqT K H a xs) (YPair (fun i => some (.int (i : Nat))) (fun i => xs[i]?)) where
  goes := fun i H hi g => ⟨xs, xs[i], g, by simp [hi]⟩
  stops := fun H g => ⟨xs, g, rfl⟩
  yields := fun i H x H' hi g y => by
    obtain ⟨T, z, e1, e2, e3, e4⟩ := y
    exact ⟨T, _, z, e1, e2, e3, rfl, e4 xs g⟩
end
end Ev

set_option maxRecDepth 100000
/-! EvG: built-ins and methods by values. -/
namespace Ev
open PySem PySem.Spec PyProof.Rows L2
section
variable {X : Cx} {ρ B P L : List Addr} {h : Hh} {K : PySem.W.Frag} {H : Hp}
theorem RReps.one {r : R} {xs : List V} (q : RReps K ρ B H [r] xs P) : ∃ x, xs = [x] ∧ RRep K ρ B H r x := by
  cases q with
  | pv r t => cases t; exact ⟨_, rfl, r⟩
  | br m r t => cases t; exact ⟨_, rfl, _, rfl, m, r⟩
  | fr m r t => cases t; exact ⟨_, rfl, _, rfl, m, r⟩
theorem RReps.two {r r' : R} {xs : List V} (q : RReps K ρ B H [r, r'] xs P) : ∃ x y, xs = [x, y] ∧ RRep K ρ B H r x ∧ RRep K ρ B H r' y := by
  cases q with
  | pv r t => obtain ⟨y, rfl, q⟩ := t.one; exact ⟨_, y, rfl, r, q⟩
  | br m r t => obtain ⟨y, rfl, q⟩ := t.one; exact ⟨_, y, rfl, ⟨_, rfl, m, r⟩, q⟩
  | fr m r t => obtain ⟨y, rfl, q⟩ := t.one; exact ⟨_, y, rfl, ⟨_, rfl, m, r⟩, q⟩
theorem bools_of {bs : List Bool} : ∀ {xs : List PV} {bs : List Bool} {vs : List V}, boolsP xs = some bs → Reps K ρ B H xs vs → vs = bs.map V.bl
  | [], _, _, e, .nil => by
    simp only [boolsP, Option.some.injEq] at e
    subst e
    rfl
  | x :: xs, _, _, e, .cons r t => by
    cases x <;> simp only [boolsP, reduceCtorEq, Option.map_eq_some_iff] at e
    obtain ⟨bs', e, rfl⟩ := e
    cases r
    rw [List.map_cons, bools_of (bs := []) e t]
theorem ints_rep : ∀ {xs : List PV} {ns : List Int} {vs : List V}, intsP xs = some ns → Reps K ρ B H xs vs → vs = ns.map V.int
  | [], _, _, e, .nil => by
    simp only [intsP, Option.some.injEq] at e
    subst e
    rfl
  | x :: xs, _, _, e, .cons r t => by
    cases x <;> simp only [intsP, reduceCtorEq, Option.map_eq_some_iff] at e
    obtain ⟨ns', e, rfl⟩ := e
    cases r
    rw [List.map_cons, ints_rep e t]
def CallV (X : Cx) (f : Value) (g : Hh → List R → Option R) : Prop :=
  ∀ (ρ B P : List Addr) (h : Hh) (rs : List R) (r : R), g h rs = some r → CallR X f fun xs H Q => GSim X.K ρ B h H ∧ RReps X.K ρ B H rs xs P ∧ EEnd X.K ρ B H r h Q
theorem clw {f : Value} {r r' : List V → Hp → VK → Prop} (h : CallR X f r') (w : ∀ xs H Q, r xs H Q → r' xs H Q) : CallR X f r := fun pins s σ H xs us Q I rx q => h pins s σ H xs us Q I rx (w _ _ _ q)
def bltVal : Blt → Value
  | .abs => .builtin "abs"
  | .int => .type "int"
  | .len => .builtin "len"
  | .list => .type "list"
  | .tuple => .type "tuple"
  | .all => .builtin "all"
  | .any => .builtin "any"
  | .sorted => .builtin "sorted"
  | .max => .builtin "max"
  | .min => .builtin "min"
  | .str => .type "str"
  | .repr => .builtin "repr"
  | .dict => .type "dict"
def bltName : Blt → Str
  | .abs => "abs"
  | .int => "int"
  | .len => "len"
  | .list => "list"
  | .tuple => "tuple"
  | .all => "all"
  | .any => "any"
  | .sorted => "sorted"
  | .max => "max"
  | .min => "min"
  | .str => "str"
  | .repr => "repr"
  | .dict => "dict"
theorem blt_in (b : Blt) : bltName b ∈ bltNames := by cases b <;> decide +kernel
theorem blt_boot (b : Blt) : bootBuiltins (bltName b) = some (bltVal b) := by cases b <;> decide +kernel
theorem call_lenD : CallR X (.builtin "len") (fun xs H Q => ∃ p ws, xs = [.ref p] ∧ H p = some (.dK ws) ∧ Q (.int ws.length) H) := fun pins s σ H xs us Q I r q => by
  obtain ⟨p, ws, rfl, e, q⟩ := q
  obtain ⟨u, rfl, ru⟩ := vals1 r
  cases ru
  exact d_len I (.inl e) fun t s' I' => ⟨.int _, H, I', ⟨t, rfl⟩, q⟩
/-- sorted of one item at most -/
theorem call_sort1 : CallR X (.builtin "sorted") (fun xs H Q => ∃ l vs, xs = [.ref l] ∧ SqL X.K H l vs ∧ vs.length ≤ 1 ∧ ∀ p, H p = none → Q (.ref p) (upd H p (.lst vs))) := fun pins s σ H xs us Q I r q => by
  obtain ⟨l, vs, rfl, hs, hl1, q⟩ := q
  obtain ⟨its, rv, hl, hz⟩ := I.list hs
  obtain ⟨u, rfl, ru⟩ := vals1 r
  cases ru
  have hlen := rv.length
  refine SrtO.sorted_ord (ltv := fun _ _ => false) ⟨fun _ _ z => (nomatch z), fun _ _ _ _ _ => rfl⟩ hl.isList (by rw [← hlen]; exact hz) (fun z => by omega) fun out _ hb => ?_
  obtain rfl : out = its := by
    have hp := hb.perm
    match its, hlen with
    | [], _ => exact hp.eq_nil
    | [x], _ => exact List.perm_singleton.mp hp
    | _ :: _ :: _, hlen => simp at hlen; omega
  obtain ⟨ep, he'⟩ := PyProof.Rows.sortedAll_at s.heap out out.toArray
  exact ⟨.ref _, upd H (s.heap.objs.size + 1) (.lst vs), I.laid (t' := s.toks) (fun _ _ => PyProof.Rows.sortedAll_old) (Nat.le_succ _) ⟨hz, out, ep, rv, he'⟩, rfl, q _ (I.hok.fresh (Nat.le_succ _))⟩
theorem blt_nb {b : Blt} {rs : List R} {r : R} (e : blt b h rs = some r) : r.nb = true := by
  unfold blt at e
  split at e <;> first
    | (cases e; rfl)
    | (cases e; done)
    | (split at e <;> first
        | (cases e; rfl)
        | (cases e; done)
        | (obtain ⟨_, _, rfl⟩ := Option.map_eq_some_iff.mp e; rfl))
    | (obtain ⟨_, _, rfl⟩ := Option.map_eq_some_iff.mp e; rfl)
    | (obtain ⟨_, _, e⟩ := Option.bind_eq_some_iff.mp e
       split at e
       · cases e
       · obtain ⟨_, _, rfl⟩ := Option.map_eq_some_iff.mp e; rfl)
theorem blt_ok (hc : X.calm = true) (b : Blt) : CallV X (bltVal b) (blt b) := by
  intro ρ B P h rs r e
  unfold blt at e
  split at e
  · cases e
    refine clw call_abs fun xs H Q ⟨g, q1, q⟩ => ?_
    obtain ⟨x, rfl, q2⟩ := q1.one
    exact ⟨_, by rw [rep_int q2], end_pv g (.int _) q⟩
  · cases e
    refine clw call_int1 fun xs H Q ⟨g, q1, q⟩ => ?_
    obtain ⟨x, rfl, q2⟩ := q1.one
    exact .inl ⟨_, by rw [rep_int q2], end_pv g (.int _) q⟩
  · split at e
    · cases e
      refine clw call_len_str fun xs H Q ⟨g, q1, q⟩ => ?_
      obtain ⟨x, rfl, q2⟩ := q1.one
      exact ⟨_, by rw [rep_str q2], le_lim (by assumption), end_pv g (.int _) q⟩
    · cases e
  · split at e
    · cases e
      rename_i t xs hs
      refine clw call_len_seq fun xs H Q ⟨g, q1, q⟩ => ?_
      obtain ⟨x, rfl, q2⟩ := q1.one
      cases t with
      | false =>
        obtain ⟨p, vs, rfl, s1, r1⟩ := q2.seqL g hs
        exact ⟨p, vs, rfl, .inl s1, by rw [← r1.length]; exact end_pv g (.int _) q⟩
      | true =>
        obtain ⟨p, vs, rfl, s1, r1, _⟩ := q2.seqT hs
        exact ⟨p, vs, rfl, .inr s1, by rw [← r1.length]; exact end_pv g (.int _) q⟩
    · obtain ⟨kvs, e1, rfl⟩ := Option.map_eq_some_iff.mp e
      refine clw call_lenD fun xs H Q ⟨g, q1, q⟩ => ?_
      obtain ⟨x, rfl, q2⟩ := q1.one
      obtain ⟨p, ws, rfl, e2, r1⟩ := q2.dct g e1
      exact ⟨p, ws, rfl, e2, by rw [← Paired.length r1]; exact end_pv g (.int _) q⟩
  · obtain ⟨⟨t, ys⟩, e1, rfl⟩ := Option.map_eq_some_iff.mp e
    refine clw call_list_of fun xs H Q ⟨g, q1, q⟩ => ?_
    obtain ⟨x, rfl, q2⟩ := q1.one
    cases t with
    | false =>
      obtain ⟨p, vs, rfl, s1, r1⟩ := q2.seqL g e1
      exact ⟨p, vs, rfl, .inl s1, fun l hl => end_lst g hl r1 q⟩
    | true =>
      obtain ⟨p, vs, rfl, s1, r1, _⟩ := q2.seqT e1
      exact ⟨p, vs, rfl, .inr s1, fun l hl => end_lst g hl r1 q⟩
  · obtain ⟨⟨t, ys⟩, e1, rfl⟩ := Option.map_eq_some_iff.mp e
    refine clw call_tuple_of fun xs H Q ⟨g, q1, q⟩ => ?_
    obtain ⟨x, rfl, q2⟩ := q1.one
    cases t with
    | false =>
      obtain ⟨p, vs, rfl, s1, r1⟩ := q2.seqL g e1
      exact ⟨p, vs, rfl, .inl ⟨s1, fun l hl => end_tup g hl r1 q⟩⟩
    | true =>
      obtain ⟨p, vs, rfl, s1, r1, er⟩ := q2.seqT e1
      exact ⟨p, vs, rfl, .inr ⟨s1, end_pv g (.tup s1 r1) q⟩⟩
  · obtain ⟨⟨t, ys⟩, e1, e⟩ := Option.bind_eq_some_iff.mp e
    cases t with
    | true => cases e
    | false =>
      obtain ⟨bs, e2, rfl⟩ := Option.map_eq_some_iff.mp e
      refine clw (cr_all hc) fun xs H Q ⟨g, q1, q⟩ => ?_
      obtain ⟨x, rfl, q2⟩ := q1.one
      obtain ⟨p, vs, rfl, s1, r1⟩ := q2.seqL g e1
      exact ⟨p, bs, rfl, by rw [← bools_of (bs := []) e2 r1]; exact s1, end_pv g (.bl _) q⟩
  · obtain ⟨⟨t, ys⟩, e1, e⟩ := Option.bind_eq_some_iff.mp e
    cases t with
    | true => cases e
    | false =>
      obtain ⟨bs, e2, rfl⟩ := Option.map_eq_some_iff.mp e
      refine clw (cr_any hc) fun xs H Q ⟨g, q1, q⟩ => ?_
      obtain ⟨x, rfl, q2⟩ := q1.one
      obtain ⟨p, vs, rfl, s1, r1⟩ := q2.seqL g e1
      exact ⟨p, bs, rfl, by rw [← bools_of (bs := []) e2 r1]; exact s1, end_pv g (.bl _) q⟩
  · obtain ⟨⟨t, ys⟩, e1, e⟩ := Option.bind_eq_some_iff.mp e
    cases t with
    | true => cases e
    | false =>
      obtain ⟨zs, e2, rfl⟩ := Option.map_eq_some_iff.mp e
      unfold sortP at e2
      split at e2
      · cases e2
        refine clw call_sort1 fun xs H Q ⟨g, q1, q⟩ => ?_
        obtain ⟨x, rfl, q2⟩ := q1.one
        obtain ⟨p, vs, rfl, s1, r1⟩ := q2.seqL g e1
        exact ⟨p, vs, rfl, s1, by rw [← r1.length]; assumption, fun l hl => end_lst g hl r1 q⟩
      · cases e2
  · cases e

/-! ### methods -/
def MtV (X : Cx) (id : String) (g : Hh → R → List R → Option R) : Prop :=
  ∀ (ρ B P : List Addr) (h : Hh) (o : R) (rs : List R) (r : R), g h o rs = some r → MtR X id fun x xs H Q => GSim X.K ρ B h H ∧ RRep X.K ρ B H o x ∧ RReps X.K ρ B H rs xs P ∧ EEnd X.K ρ B H r h Q
theorem mtw {id : String} {r r' : V → List V → Hp → VK → Prop} (h : MtR X id r') (w : ∀ x xs H Q, r x xs H Q → r' x xs H Q) : MtR X id r := fun pins s σ H x xs v us Q I rx ry q => h pins s σ H x xs v us Q I rx ry (w _ _ _ _ q)
def mthId : Mth → String
  | .index => "list.index"
  | .count => "list.count"
  | .get => "dict.get"
def mthName : Mth → Str
  | .index => "index"
  | .count => "count"
  | .get => "get"
def mthTy : Mth → String
  | .index => "list"
  | .count => "list"
  | .get => "dict"
theorem toDs_get : ∀ {xs : List PV} {ds : List PyData} {i : Nat} {x : PV}, toDs xs = some ds → xs[i]? = some x → ∃ d, toD x = some d ∧ ds[i]? = some d
  | [], _, _, _, _, e => by simp at e
  | x :: xs, ds, i, y, h, e => by
    simp only [toDs, Option.bind_eq_some_iff, Option.map_eq_some_iff] at h
    obtain ⟨d, e1, ds', e2, rfl⟩ := h
    cases i with
    | zero => simp at e; subst e; exact ⟨d, e1, rfl⟩
    | succ i =>
      obtain ⟨d', h1, h2⟩ := toDs_get e2 (by simpa using e)
      exact ⟨d', h1, by simpa using h2⟩
theorem toDs_len : ∀ {xs : List PV} {ds : List PyData}, toDs xs = some ds → ds.length = xs.length
  | [], _, h => by simp only [toDs, Option.some.injEq] at h; subst h; rfl
  | x :: xs, ds, h => by
    simp only [toDs, Option.bind_eq_some_iff, Option.map_eq_some_iff] at h
    obtain ⟨d, e1, ds', e2, rfl⟩ := h
    simp [toDs_len e2]
theorem firstAt_of {v : PV} : ∀ {xs : List PV} {n j : Nat}, firstAt v n xs = some j → ∃ i x, j = n + i ∧ xs[i]? = some x ∧ pvEq x v = true ∧ ∀ m z, m < i → xs[m]? = some z → pvEq z v = false
  | [], _, _, h => by cases h
  | x :: xs, n, j, h => by
    unfold firstAt at h
    split at h
    · cases h
      exact ⟨0, x, rfl, rfl, by assumption, fun m z hm => absurd hm (Nat.not_lt_zero m)⟩
    · obtain ⟨i, y, rfl, h1, h2, h3⟩ := firstAt_of h
      refine ⟨i + 1, y, by omega, by simpa using h1, h2, fun m z hm hz => ?_⟩
      cases m with
      | zero =>
        simp at hz
        subst hz
        rename_i hx
        simpa using hx
      | succ m => exact h3 m z (by omega) (by simpa using hz)
theorem mth_nb {m : Mth} {o : R} {rs : List R} {r : R} (e : mth m h o rs = some r) : r.nb = true := by
  unfold mth at e
  split at e
  · obtain ⟨_, _, e⟩ := Option.bind_eq_some_iff.mp e
    obtain ⟨_, _, e⟩ := Option.bind_eq_some_iff.mp e
    split at e
    · split at e
      · obtain ⟨_, _, rfl⟩ := Option.map_eq_some_iff.mp e; rfl
      · cases e
    · cases e
  · obtain ⟨_, _, e⟩ := Option.bind_eq_some_iff.mp e
    obtain ⟨_, _, e⟩ := Option.bind_eq_some_iff.mp e
    split at e
    · split at e
      · cases e; rfl
      · cases e
    · cases e
  · obtain ⟨_, _, e⟩ := Option.bind_eq_some_iff.mp e
    obtain ⟨_, _, rfl⟩ := Option.map_eq_some_iff.mp e; rfl
  · cases e
/-- xs.count(v), of any data -/
theorem mt_countD (hu : X.A.units + 65 < cLine) : MtR X "list.count" (fun x xs H Q => ∃ p y d ds, x = .ref p ∧ xs = [y] ∧ Dp X.K H (.ref p) (.list ds) ∧ Dp X.K H y d ∧ SeqAt.shaped (.list ds) = true ∧ SeqAt.shaped d = true ∧
    Q (.int (ds.countP fun z => PyData.eqv z d : Nat)) H) := fun pins s σ H x xs v us Q I rx rxs q => by
  obtain ⟨p, y, d, ds, rfl, rfl, hl, hy, sl, sd, q⟩ := q
  cases rx
  obtain ⟨u, rfl, ru⟩ := vals1 rxs
  obtain ⟨bs, r1⟩ := Dp.reads I d y u hy ru
  have hxs : PyData.canLayAll0 ds = true := SeqAt.canLay_of_shaped sl
  cases hl with
  | lst hs ha =>
    obtain ⟨its, rv, ⟨⟨cls, dd, data, sls⟩, n, ho, hc, hdn, hdt⟩, hlen⟩ := I.list hs
    simp only at hc hdt
    subst hc hdt
    obtain ⟨as, h4⟩ := Dp.readsAll I ds _ its ha rv
    have hmap : its.map (SeqAt.readOf s.heap) = ds := SeqAt.readsAll_map ds its as hxs h4
    refine call_meets PySem.F.slot_list_count ⟨_, ho, rfl⟩ PySem.F.entry_list_count (PySem.F.args_list_count_2 _ _)
      (SeqAt.list_countAt p its.toArray n dd sls u (fun w => PyData.eqv (SeqAt.readOf s.heap w) d)) ⟨ho, SeqAt.items_eqAt (vs := its.toArray) (show ReadsAll s.heap its.toArray.toList ds as from h4) r1 hxs (SeqAt.canLay_of_shaped sd) (room_in sd hu), ?_⟩
    refine ⟨.int (ds.countP fun z => PyData.eqv z d : Nat), H, I.tok _, ⟨s.toks, ?_⟩, q⟩
    have : its.countP (fun w => PyData.eqv (SeqAt.readOf s.heap w) d) = ds.countP fun z => PyData.eqv z d := by
      rw [← hmap, List.countP_map]
      rfl
    show Value.int ((its.toArray.toList.countP _ : Nat) : Int) s.toks = _
    rw [show its.toArray.toList = its from rfl, this]
theorem mt_dget (hu : X.A.units + 1 < cLine) : MtR X "dict.get" (fun x xs H Q => ∃ p y z o, x = .ref p ∧ xs = [y, z] ∧ DGet H p y o ∧ Q (o.getD z) H) := fun pins s σ H x xs v us Q I rx rxs q => by
  obtain ⟨p, y, z, o, rfl, rfl, g, q⟩ := q
  cases rx
  obtain ⟨u, u', rfl, ru, ru'⟩ := vals2 rxs
  exact d_get2 hu I g ru ru' fun w s' I' r => ⟨_, H, I', r, q⟩
theorem eqv_count {v : PV} {d : PyData} (e : toD v = some d) : ∀ (xs : List PV) {ds : List PyData}, toDs xs = some ds → (ds.countP fun z => PyData.eqv z d) = xs.countP fun z => pvEq z v
  | [], ds, h => by
    simp only [toDs, Option.some.injEq] at h
    subst h
    rfl
  | x :: xs, ds, h => by
    simp only [toDs, Option.bind_eq_some_iff, Option.map_eq_some_iff] at h
    obtain ⟨d', e1, ds', e2, rfl⟩ := h
    rw [List.countP_cons, List.countP_cons, eqv_of x v e1 e, eqv_count e xs e2]
theorem mth_ok (hu : X.A.units + 65 < cLine) (m : Mth) : MtV X (mthId m) (mth m) := by
  intro ρ B P h o rs r e
  unfold mth at e
  split at e
  · obtain ⟨u, e1, e⟩ := Option.bind_eq_some_iff.mp e
    obtain ⟨v, e2, e⟩ := Option.bind_eq_some_iff.mp e
    split at e
    · split at e
      · rename_i c
        rw [Bool.and_eq_true] at c
        obtain ⟨d, f1, f2⟩ := okD_of c.1
        obtain ⟨d', f3, f4⟩ := okD_of c.2
        simp only [toD, Option.map_eq_some_iff] at f3
        obtain ⟨ds, f3, rfl⟩ := f3
        obtain ⟨j, e3, rfl⟩ := Option.map_eq_some_iff.mp e
        obtain ⟨i, z, rfl, g1, g2, g3⟩ := firstAt_of e3
        obtain ⟨dz, g4, g5⟩ := toDs_get f3 g1
        refine mtw (mt_indexD hu) fun x xs H Q ⟨g, q0, q1, q⟩ => ?_
        obtain ⟨y, rfl, q2⟩ := q1.one
        have dp := q0.dat g e1 (d := .list ds) (by simp [toD, f3])
        have dy := q2.dat g e2 f1
        have main : ∀ p, x = .ref p → rIndexD X.K x [y] H Q := fun p ex => by
          subst ex
          refine ⟨p, y, d, ds, i, dz, rfl, rfl, dp, dy, f4, f2, g5, by rw [eqv_of _ _ g4 f1]; exact g2, fun m z' hm hz => ?_, ?_⟩
          · have hlen := toDs_len f3
            have hm' : m < ds.length := (List.getElem?_eq_some_iff.mp hz).1
            obtain ⟨d2, k1, k2⟩ := toDs_get f3 (i := m) (List.getElem?_eq_getElem (by omega))
            rw [hz] at k2
            cases k2
            rw [eqv_of _ _ k1 f1]
            exact g3 m _ hm (List.getElem?_eq_getElem (by omega))
          · rw [Nat.zero_add] at q
            exact end_pv g (.int _) q
        cases dp with
        | lst _ _ => exact main _ rfl
      · cases e
    · cases e
  · obtain ⟨u, e1, e⟩ := Option.bind_eq_some_iff.mp e
    obtain ⟨v, e2, e⟩ := Option.bind_eq_some_iff.mp e
    split at e
    · split at e
      · rename_i c
        rw [Bool.and_eq_true] at c
        obtain ⟨d, f1, f2⟩ := okD_of c.1
        obtain ⟨d', f3, f4⟩ := okD_of c.2
        simp only [toD, Option.map_eq_some_iff] at f3
        obtain ⟨ds, f3, rfl⟩ := f3
        cases e
        refine mtw (mt_countD hu) fun x xs H Q ⟨g, q0, q1, q⟩ => ?_
        obtain ⟨y, rfl, q2⟩ := q1.one
        have dp := q0.dat g e1 (d := .list ds) (by simp [toD, f3])
        have dy := q2.dat g e2 f1
        have main : ∀ p, x = .ref p → ∃ p y' d ds, x = .ref p ∧ [y] = [y'] ∧ Dp X.K H (.ref p) (.list ds) ∧ Dp X.K H y' d ∧ SeqAt.shaped (.list ds) = true ∧ SeqAt.shaped d = true ∧ Q (.int (ds.countP fun z => PyData.eqv z d : Nat)) H := fun p ex => by
          subst ex
          refine ⟨p, y, d, ds, rfl, rfl, dp, dy, f4, f2, ?_⟩
          rw [eqv_count f1 _ f3]
          exact end_pv g (.int _) q
        cases dp with
        | lst _ _ => exact main _ rfl
      · cases e
    · cases e
  · obtain ⟨kvs, e1, e⟩ := Option.bind_eq_some_iff.mp e
    obtain ⟨kk, e2, rfl⟩ := Option.map_eq_some_iff.mp e
    refine mtw (mt_dget (by omega)) fun x xs H Q ⟨g, q0, q1, q⟩ => ?_
    obtain ⟨y, z, rfl, q1, q2⟩ := q1.two
    obtain ⟨p, ws, rfl, e4, r1⟩ := q0.dct g e1
    rw [key_rep e2 q1]
    refine ⟨p, _, z, _, rfl, rfl, DGet.k e4, ?_⟩
    rcases r1.val kk with ⟨f1, f2⟩ | ⟨v, w, f1, f2, f3⟩
    · rw [f1] at q
      rw [f2]
      exact end_pv g q2 q
    · rw [f1] at q
      rw [f2]
      exact end_pv g f3 q
  · cases e
end
end Ev

set_option maxRecDepth 100000
/-! EvH: which texts the small language tells, and targets. -/
namespace Ev
open PySem PySem.Spec PyProof.Rows L2
def constIs : Const → PV → Bool
  | .none, .non => true
  | .bool b, .bl c => b == c
  | .int i, .int j => decide (i = j)
  | .str x, .str y => decide (x = y)
  | _, _ => false
/-- the second part of and, or -/
def restOf (op : BoolOp) (y : Expr) (rest : List Expr) (p : Pos) : Expr := match rest with
  | [] => y
  | _ => .BoolOp op (y :: rest) p
def E.isOne : E → Bool
  | .cons _ .nil => true
  | _ => false
/-! ### targets -/
mutual
def chkT : Tg → Sc → Expr → Bool
  | .v i, s, e => (match e with
    | .Name x _ => decide (s.N[i]? = some x) && s.sto x
    | _ => false)
  | .t ts, s, e => (match e with
    | .Tuple es _ _ => chkTs ts s es
    | _ => false)
  | _, _, _ => false
def chkTs : Tg → Sc → List Expr → Bool
  | .nil, _, [] => true
  | .cons a ts, s, e :: es => chkT a s e && chkTs ts s es
  | _, _, _ => false
end
/-- the slots of a target are among some -/
def Tg.within (vs : List Nat) : Tg → Bool
  | .v i => decide (i ∈ vs)
  | .t ts => ts.within vs
  | .nil => true
  | .cons a ts => a.within vs && ts.within vs
def Tg.many : Tg → Nat
  | .cons _ ts => ts.many + 1
  | _ => 0
mutual
def gT (K : PySem.W.Frag) : Tg → TG
  | .v i => gName i
  | .t ts => fun v σ H Q => gTup K ts.many (gTs K ts) v σ H Q ∨ gUnl K ts.many (gTs K ts) v σ H Q
  | _ => fun _ _ _ _ => False
def gTs (K : PySem.W.Frag) : Tg → TGs
  | .nil => gNil
  | .cons a ts => gCons (gT K a) (gTs K ts)
  | _ => fun _ _ _ _ => False
end
theorem chkT_star {t : Tg} {s : Sc} {e : Expr} (h : chkT t s e = true) : isStar e = false := by
  cases t <;> cases e <;> first | rfl | (simp [chkT] at h)
theorem asgE_one {e : Expr} {es : List Expr} {env : Env} (h : isStar e = false) : assignEach (e :: es) env = (false, assign e env) :: assignEach es env := by
  cases e <;> first | rfl | cases h
theorem chkTs_each {env : Env} {s : Sc} : ∀ {t : Tg} {es : List Expr}, chkTs t s es = true → (assignEach es env).length = t.many ∧ (assignEach es env).findIdx? (·.1) = none
  | .nil, [], _ => ⟨rfl, rfl⟩
  | .nil, _ :: _, h => by simp [chkTs] at h
  | .cons a ts, [], h => by simp [chkTs] at h
  | .cons a ts, e :: es, h => by
    rw [chkTs, Bool.and_eq_true] at h
    obtain ⟨h1, h2⟩ := chkTs_each (env := env) h.2
    rw [asgE_one (chkT_star h.1)]
    refine ⟨by rw [List.length_cons, h1]; rfl, ?_⟩
    rw [List.findIdx?_cons]
    simp [h2]
  | .v _, _, h => by simp [chkTs] at h
  | .t _, _, h => by simp [chkTs] at h
section
variable {G : Gb} {k : Nat} {s : Sc} {X : Cx}
mutual
theorem tgt_ok (o : Ok G k s X) : ∀ (t : Tg) {e : Expr}, chkT t s e = true → PG X e (gT X.K t)
  | .v i, e, h => by
    cases e <;> simp only [chkT, Bool.false_eq_true, Bool.and_eq_true, decide_eq_true_eq] at h
    obtain ⟨h1, h2⟩ := o.sto h.2
    rw [gT]
    exact pg_name (by rw [o.N]; exact o.nd) (by rw [o.N]; exact h.1) h1 h2
  | .t ts, e, h => by
    cases e <;> simp only [chkT, Bool.false_eq_true] at h
    rw [gT]
    obtain ⟨h1, h2⟩ := chkTs_each (env := X.env) h
    have p1 := pg_tup (pos := ‹Pos›) (k := ‹Nat›) o.calm (tgts_ok o ts h) h1 h2
    have p2 := pg_unl (pos := ‹Pos›) (k := ‹Nat›) o.calm (tgts_ok o ts h) h1 h2
    refine ⟨fun pins s σ H v u Q I r q => ?_⟩
    rcases q with q | q
    · exact p1.run pins s σ H v u Q I r q
    · exact p2.run pins s σ H v u Q I r q
  | .nil, e, h => by simp [chkT] at h
  | .cons _ _, e, h => by simp [chkT] at h
theorem tgts_ok (o : Ok G k s X) : ∀ (t : Tg) {es : List Expr}, chkTs t s es = true → PGs X es (gTs X.K t)
  | .nil, [], _ => by rw [gTs]; exact pgs_nil
  | .nil, _ :: _, h => by simp [chkTs] at h
  | .cons a ts, [], h => by simp [chkTs] at h
  | .cons a ts, e :: es, h => by
    rw [chkTs, Bool.and_eq_true] at h
    rw [gTs]
    exact pgs_cons (tgt_ok o a h.1) (tgts_ok o ts h.2) (by rw [asgE_one (chkT_star h.1)]; rfl)
  | .v _, _, h => by simp [chkTs] at h
  | .t _, _, h => by simp [chkTs] at h
end
end
section
variable {K : PySem.W.Frag} {ρ B L : List Addr} {env : Sls} {σ : L2.St} {H : Hp} {h : Hh}
theorem SSim.put {i : Nat} {v : PV} {x : V} (z : SSim K ρ B L env σ H) (hi : i < env.length) (r : Rep K ρ B H v x) : SSim K ρ B L (env.set i (.sh v)) (σ.set i (some x)) H := by
  have hi' : i < σ.length := by rw [z.len]; exact hi
  have key : ∀ j, j ≠ i → (env.set i (.sh v))[j]? = env[j]? ∧ (σ.set i (some x))[j]? = σ[j]? := fun j ne => ⟨List.getElem?_set_ne (Ne.symm ne), List.getElem?_set_ne (Ne.symm ne)⟩
  refine ⟨by simp [z.len], z.sub, fun j u e => ?_, fun j ob e => ?_, fun j j' a ob ob' e1 e2 e3 e4 => ?_⟩
  · by_cases c : j = i
    · subst c
      rw [List.getElem?_set_self hi] at e
      cases e
      exact ⟨x, List.getElem?_set_self hi', r⟩
    · rw [(key j c).1] at e
      rw [(key j c).2]
      exact z.sh j u e
  · by_cases c : j = i
    · subst c
      rw [List.getElem?_set_self hi] at e
      cases e
    · rw [(key j c).1] at e
      rw [(key j c).2]
      exact z.ow j ob e
  · have c : j ≠ i := fun c => by
      subst c
      rw [List.getElem?_set_self hi] at e1
      cases e1
    have c' : j' ≠ i := fun c => by
      subst c
      rw [List.getElem?_set_self hi] at e2
      cases e2
    rw [(key j c).1] at e1
    rw [(key j' c').1] at e2
    rw [(key j c).2] at e3
    rw [(key j' c').2] at e4
    exact z.inj j j' a ob ob' e1 e2 e3 e4
theorem SSim.wipe (z : SSim K ρ B L env σ H) : ∀ vs : List Nat, SSim K ρ B L (wipeE env vs) (L2.wipe σ vs) H
  | [] => z
  | v :: vs => by
    have y := SSim.wipe z vs
    show SSim K ρ B L ((wipeE env vs).set v .un) ((L2.wipe σ vs).set v none) H
    have key : ∀ j, j ≠ v → ((wipeE env vs).set v .un)[j]? = (wipeE env vs)[j]? ∧ ((L2.wipe σ vs).set v none)[j]? = (L2.wipe σ vs)[j]? := fun j ne => ⟨List.getElem?_set_ne (Ne.symm ne), List.getElem?_set_ne (Ne.symm ne)⟩
    have no : ∀ {u : Sl}, ((wipeE env vs).set v .un)[v]? = some u → u = .un := fun {u} e => by
      by_cases hv : v < (wipeE env vs).length
      · rw [List.getElem?_set_self hv] at e
        exact (Option.some.inj e).symm
      · rw [List.getElem?_eq_none (by simpa using hv)] at e
        cases e
    refine ⟨by simp [y.len], y.sub, fun j u e => ?_, fun j ob e => ?_, fun j j' a ob ob' e1 e2 e3 e4 => ?_⟩
    · have c : j ≠ v := fun c => by subst c; cases no e
      rw [(key j c).1] at e
      rw [(key j c).2]
      exact y.sh j u e
    · have c : j ≠ v := fun c => by subst c; cases no e
      rw [(key j c).1] at e
      rw [(key j c).2]
      exact y.ow j ob e
    · have c : j ≠ v := fun c => by subst c; cases no e1
      have c' : j' ≠ v := fun c => by subst c; cases no e2
      rw [(key j c).1] at e1
      rw [(key j' c').1] at e2
      rw [(key j c).2] at e3
      rw [(key j' c').2] at e4
      exact y.inj j j' a ob ob' e1 e2 e3 e4
/-- what is within the wiped slots makes no difference behind the wiping -/
theorem wipe_set : ∀ (vs : List Nat) (σ : L2.St) (i : Nat) (x : Option V), i ∈ vs → L2.wipe (σ.set i x) vs = L2.wipe σ vs
  | [], _, _, _, m => by simp at m
  | v :: vs, σ, i, x, m => by
    show (L2.wipe (σ.set i x) vs).set v none = (L2.wipe σ vs).set v none
    by_cases c : i ∈ vs
    · rw [wipe_set vs σ i x c]
    · have e : i = v := by
        rcases List.mem_cons.mp m with q | q
        · exact q
        · exact absurd q c
      subst e
      have : ∀ (ws : List Nat), i ∉ ws → L2.wipe (σ.set i x) ws = (L2.wipe σ ws).set i x := fun ws => by
        induction ws with
        | nil => intro _; rfl
        | cons w ws ih =>
          intro hw
          simp only [List.mem_cons, not_or] at hw
          show (L2.wipe (σ.set i x) ws).set w none = ((L2.wipe σ ws).set w none).set i x
          rw [ih hw.2, List.set_comm _ _ hw.1]
      rw [this vs c, List.set_set]
theorem wipe_wipe (σ : L2.St) : ∀ vs : List Nat, L2.wipe (L2.wipe σ vs) vs = L2.wipe σ vs := fun vs => by
  have : ∀ ws : List Nat, (∀ w ∈ ws, w ∈ vs) → L2.wipe (L2.wipe σ ws) vs = L2.wipe σ vs := fun ws => by
    induction ws with
    | nil => intro _; rfl
    | cons w ws ih =>
      intro hw
      show L2.wipe ((L2.wipe σ ws).set w none) vs = _
      rw [wipe_set vs _ w none (hw w List.mem_cons_self)]
      exact ih fun x m => hw x (List.mem_cons_of_mem _ m)
  exact this vs fun _ m => m
mutual
theorem asg_ok : ∀ (t : Tg) {x : PV} {v : V} {env env' : Sls} {σ : L2.St} {Q : L2.St → Hp → Prop}, SSim K ρ B L env σ H → asg t x env = some env' → Rep K ρ B H x v →
    (∀ σ', SSim K ρ B L env' σ' H → (∀ vs, t.within vs = true → L2.wipe σ' vs = L2.wipe σ vs) → Q σ' H) → gT K t v σ H Q
  | .v i, x, v, env, env', σ, Q, z, e, r, q => by
    rw [asg] at e
    split at e
    · cases e
      rw [gT]
      exact q _ (z.put (by assumption) r) fun vs m => wipe_set vs σ i _ (by simpa [Tg.within] using m)
    · cases e
  | .t ts, x, v, env, env', σ, Q, z, e, r, q => by
    cases x <;> simp only [asg, reduceCtorEq] at e
    · cases r with
      | lst e1 e2 e3 rs =>
        rw [gT]
        refine .inr ⟨_, _, rfl, SqL.of e1, ?_, ?_⟩
        · rw [← rs.length]
          exact asgs_len ts e
        · exact asgs_ok ts z e rs q
    · cases r with
      | tup kk rs =>
        rw [gT]
        refine .inl ⟨_, _, rfl, kk, ?_, ?_⟩
        · rw [← rs.length]
          exact asgs_len ts e
        · exact asgs_ok ts z e rs q
    · cases r with
      | kl kk rs =>
        rw [gT]
        refine .inr ⟨_, _, rfl, kk.sq, ?_, ?_⟩
        · rw [← rs.length]
          exact asgs_len ts e
        · exact asgs_ok ts z e rs q
  | .nil, _, _, _, _, _, _, _, e, _, _ => by simp [asg] at e
  | .cons _ _, _, _, _, _, _, _, _, e, _, _ => by simp [asg] at e
theorem asgs_ok : ∀ (t : Tg) {xs : List PV} {vs : List V} {env env' : Sls} {σ : L2.St} {Q : L2.St → Hp → Prop}, SSim K ρ B L env σ H → asgs t xs env = some env' → Reps K ρ B H xs vs →
    (∀ σ', SSim K ρ B L env' σ' H → (∀ vs, t.within vs = true → L2.wipe σ' vs = L2.wipe σ vs) → Q σ' H) → gTs K t vs σ H Q
  | .nil, xs, vs, env, env', σ, Q, z, e, r, q => by
    cases xs <;> simp only [asgs, reduceCtorEq, Option.some.injEq] at e
    subst e
    cases r
    rw [gTs]
    exact ⟨rfl, q σ z fun _ _ => rfl⟩
  | .cons a ts, xs, vs, env, env', σ, Q, z, e, r, q => by
    cases xs <;> simp only [asgs, reduceCtorEq, Option.bind_eq_some_iff] at e
    obtain ⟨env1, e1, e2⟩ := e
    cases r with
    | cons r1 rs =>
      rw [gTs]
      refine ⟨_, _, rfl, asg_ok a z e1 r1 fun σ1 z1 w1 => asgs_ok ts z1 e2 rs fun σ2 z2 w2 => q σ2 z2 fun ws m => ?_⟩
      rw [Tg.within, Bool.and_eq_true] at m
      rw [w2 ws m.2, w1 ws m.1]
  | .v _, xs, _, _, _, _, _, _, e, _, _ => by cases xs <;> simp [asgs] at e
  | .t _, xs, _, _, _, _, _, _, e, _, _ => by cases xs <;> simp [asgs] at e
theorem asgs_len : ∀ (t : Tg) {xs : List PV} {env env' : Sls}, asgs t xs env = some env' → xs.length = t.many
  | .nil, xs, env, env', e => by
    cases xs <;> simp only [asgs, reduceCtorEq] at e
    rfl
  | .cons a ts, xs, env, env', e => by
    cases xs <;> simp only [asgs, reduceCtorEq, Option.bind_eq_some_iff] at e
    obtain ⟨env1, e1, e2⟩ := e
    rw [List.length_cons, asgs_len ts e2]
    rfl
  | .v _, xs, _, _, e => by cases xs <;> simp [asgs] at e
  | .t _, xs, _, _, e => by cases xs <;> simp [asgs] at e
end
end

/-! ### expressions -/
mutual
def chkE (G : Gb) : E → Sc → Expr → Bool
  | .con v, s, e => (match e with
    | .Constant c _ _ => constIs c v
    | _ => false)
  | .var i, s, e => (match e with
    | .Name x _ => decide (s.N[i]? = some x) && s.vis x && okName x
    | _ => false)
  | .glob x v, s, e => (match e with
    | .Name y _ => decide (y = x) && s.gl x && okName x && G.globs.any fun p => decide (p.1 = x) && pvSame p.2 v
    | _ => false)
  | .tup es, s, e => (match e with
    | .Tuple es' _ _ => chkEs G es s es'
    | _ => false)
  | .lst es, s, e => (match e with
    | .List es' _ => chkEs G es s es'
    | _ => false)
  | .bin op a b, s, e => (match e with
    | .BinOp a' op' b' _ => decide (op' = op) && chkE G a s a' && chkE G b s b'
    | _ => false)
  | .neg a, s, e => (match e with
    | .UnaryOp .USub a' _ => chkE G a s a'
    | _ => false)
  | .cmp op a b, s, e => (match e with
    | .Compare a' [op'] [b'] _ => decide (op' = op) && !isSetE b' && chkE G a s a' && chkE G b s b'
    | _ => false)
  | .chain op1 op2 a b c, s, e => (match e with
    | .Compare a' [o1, o2] [b', c'] _ => decide (o1 = op1) && decide (o2 = op2) && !isSetE c' && chkE G a s a' && chkE G b s b' && chkE G c s c'
    | _ => false)
  | .isN n a, s, e => (match e with
    | .Compare a' [op] [.Constant .none _ _] _ => decide (op = if n then .IsNot else .Is) && chkE G a s a'
    | _ => false)
  | .not a, s, e => (match e with
    | .UnaryOp .Not a' _ => chkE G a s a'
    | _ => false)
  | .and a b, s, e => (match e with
    | .BoolOp .And (x :: y :: rest) p => chkE G a s x && chkE G b s (restOf .And y rest p)
    | _ => false)
  | .or a b, s, e => (match e with
    | .BoolOp .Or (x :: y :: rest) p => chkE G a s x && chkE G b s (restOf .Or y rest p)
    | _ => false)
  | .ife t a b, s, e => (match e with
    | .IfExp t' a' b' _ => chkE G t s t' && chkE G a s a' && chkE G b s b'
    | _ => false)
  | .idx a b, s, e => (match e with
    | .Subscript a' b' _ => !isSliceE b' && chkE G a s a' && chkE G b s b'
    | _ => false)
  | .slc a lo hi, s, e => (match e with
    | .Subscript a' (.Slice lo' hi' none _) _ => chkE G a s a' && (match lo' with | none => lo.isNil | some x => !lo.isNil && chkE G lo s x) && (match hi' with | none => hi.isNil | some x => !hi.isNil && chkE G hi s x)
    | _ => false)
  | .rev a, s, e => (match e with
    | .Subscript a' (.Slice none none (some (.UnaryOp .USub (.Constant (.int 1) _ _) _)) _) _ => chkE G a s a'
    | _ => false)
  | .call f es, s, e => (match e with
    | .Call (.Name x _) es' [] _ => (match G.ds[f]? with
      | some d => decide (d.name = x)
      | none => false) && s.gl x && okName x && chkEs G es s es'
    | _ => false)
  | .blt b es, s, e => (match e with
    | .Call (.Name x _) es' [] _ => decide (x = bltName b) && s.gl x && !es'.isEmpty && chkEs G es s es'
    | _ => false)
  | .mth m o es, s, e => (match e with
    | .Call (.Attribute o' x p) es' [] q => decide (x = mthName m) && !isCallE o' && (p.endLine == q.line) && !es'.isEmpty && decide (es'.length < 20) && chkE G o s o' && chkEs G es s es'
    | _ => false)
  | .setlen a, s, e => (match e with
    | .Call (.Name x _) [.Call (.Name y _) [a'] [] _] [] _ => decide (x = ("len" : Str)) && decide (y = ("set" : Str)) && s.gl x && s.gl y && !isStar a' && chkE G a s a'
    | _ => false)
  | .lc own elt tg k a b cd, s, e => (match e with
    | .ListComp elt' [⟨tg', it', ifs', 0⟩] scope _ => blkC s.N s.sc scope (own.map fun i => (s.N.getD i "", i)) && chkT tg (s.blk scope) tg' && tg.within own && chkE G elt (s.blk scope) elt' && !isSetE it' &&
      (match ifs' with | [] => cd.isNil | [c] => !cd.isNil && chkE G cd (s.blk scope) c | _ => false) &&
      (match k with
      | .val => b.isNil && chkE G a s it'
      | .rng1 => b.isNil && (match it' with
        | .Call (.Name x _) [a'] [] _ => decide (x = ("range" : Str)) && s.gl x && !isStar a' && chkE G a s a'
        | _ => false)
      | .rng2 => !b.isNil && (match it' with
        | .Call (.Name x _) [a', b'] [] _ => decide (x = ("range" : Str)) && s.gl x && !isStar a' && !isStar b' && chkE G a s a' && chkE G b s b'
        | _ => false)
      | .enum => b.isNil && (match tg' with | .Tuple _ _ _ => true | _ => false) && (match it' with
        | .Call (.Name x _) [a'] [] _ => decide (x = ("enumerate" : Str)) && s.gl x && !isStar a' && chkE G a s a'
        | _ => false)
      | .zip => false)
    | _ => false)
  | _, _, _ => false
def chkEs (G : Gb) : E → Sc → List Expr → Bool
  | .nil, _, [] => true
  | .cons e es, s, e' :: es' => !isStar e' && chkE G e s e' && chkEs G es s es'
  | _, _, _ => false
end
end Ev

set_option maxRecDepth 100000
set_option maxHeartbeats 1000000
/-! EvI: an expression of a text gives what the small language tells. -/
namespace Ev
open PySem PySem.Spec PyProof.Rows L2
section
variable {X : Cx} {C : Call} {ρ ρ1 B B1 L : List Addr} {env : Sls} {σ : L2.St} {H H1 : Hp} {h h1 h' : Hh} {r r1 : R} {x : V} {Q : VK} {K : PySem.W.Frag}
theorem pew {e : Expr} {t t' : TE} (h : PE X e t) (w : ∀ σ H Q, t' σ H Q → t σ H Q) : PE X e t' := ⟨fun pins s σ H Q I q => h.run pins s σ H Q I (w _ _ _ q)⟩
theorem ptw {e : Expr} {t t' : TT} (h : PT X e t) (w : ∀ σ H Q, t' σ H Q → t σ H Q) : PT X e t' := ⟨fun pins s σ H Q I q => h.run pins s σ H Q I (w _ _ _ q)⟩
theorem paw {e : List Expr} {t t' : TA} (h : PA X e t) (w : ∀ σ H Q, t' σ H Q → t σ H Q) : PA X e t' := ⟨fun p pins s σ H Q I q => h.run p pins s σ H Q I (w _ _ _ q)⟩
/-- behind an expression whose result is not held on to -/
theorem drp (n : Nx ρ ρ B H ρ1 B1 H1) (g : GSim K ρ1 B1 h1 H1) (p : RPost r x B B1 H) : Nx ρ ρ B H ρ1 B H1 ∧ GSim K ρ1 B h1 H1 := ⟨n.to p.sup, g.drop p.sl⟩
theorem SSim.nxt (z : SSim K ρ B L env σ H) (g : GSim K ρ B h H) (n : Nx ρ ρ B H ρ1 B H1) : SSim K ρ1 B L env σ H1 := z.next n g fun _ m => m
/-- a result handed on -/
theorem give_rep {v : PV} (g : GSim K ρ1 B1 h1 H1) (q : RRep K ρ1 B1 H1 r x) (p : RPost r x B B1 H) (e : r.give = some v) : Rep K ρ1 B H1 v x := by
  unfold R.give at e
  split at e
  · cases e
    obtain rfl : B1 = B := p
    exact q
  · cases e
    obtain ⟨a, rfl, rfl, _⟩ := p
    obtain ⟨a', ea, _, vs, e1, r1⟩ := q
    injection ea with ea
    subst ea
    have nd := g.nd
    rw [List.nodup_append] at nd
    exact .lst e1 (g.apart List.mem_cons_self) (List.nodup_cons.mp nd.2.1).1 (r1.drop fun b m => List.mem_cons_of_mem _ m)
  · cases e
def rE (K : PySem.W.Frag) (g : Hh → R → R → Option R) : R2 := fun x y H Q => ∃ ρ B h a b r, g h a b = some r ∧ GSim K ρ B h H ∧ RRep K ρ B H a x ∧ RRep K ρ B H b y ∧ EEnd K ρ B H r h Q
theorem opE {f : Value → Value → Sem Value} {g : Hh → R → R → Option R} (o : OpV X f g) : OpR X f (rE X.K g) := fun pins s σ H x y v u Q I rx ry ⟨ρ, B, h, a, b, r, e, q⟩ => o ρ B h a b r e pins s σ H x y v u Q I rx ry q
theorem ixE {g : Hh → R → R → Option R} (o : IxV X g) : IxR X (rE X.K g) := fun vl sl pins s σ H x y v u Q I rx ry ⟨ρ, B, h, a, b, r, e, q⟩ hs => o ρ B h a b r e vl sl pins s σ H x y v u Q I rx ry q hs
/-- two, one behind the other -/
theorem tE2 {g : Hh → R → R → Option R} {a b : E} {r2 : R} {h2 : Hh} (gs : GSim K ρ B h H) (z : SSim K ρ B L env σ H) (e1 : ev C a env h = some (r1, h1)) (e2 : ev C b env h1 = some (r2, h2)) (e3 : g h2 r1 r2 = some r) (nb : r.nb = true) (q : EEnd K ρ B H r h2 Q) :
    tOp (rE K g) (tE K C a) (tE K C b) σ H Q :=
  ⟨ρ, B, L, env, h, r1, h1, gs, z, e1, fun ρ1 B1 x H1 n1 g1 q1 p1 => ⟨ρ1, B1, L, env, h1, r2, h2, g1, z.next n1 gs p1.sup, e2, fun ρ2 B2 y H2 n2 g2 q2 p2 =>
    ⟨ρ2, B2, h2, r1, r2, r, e3, g2, q1.next n2 g1 p2.sup, q2, q.lift (n1.step g1 n2) g2 (p1.sl.trans p2.sl) nb⟩⟩⟩
theorem tT_bl {e : E} {Q : Bool → Hp → Prop} (hb : ∀ env h r h', ev C e env h = some (r, h') → ∃ c, r = .pv (.bl c)) (q : tT K C e σ H Q) : tE K C e σ H fun x H' => ∃ c, x = .bl c ∧ Q c H' := by
  obtain ⟨ρ, B, L, env, h, b, h', g, z, e1, q⟩ := q
  obtain ⟨⟨r, h2⟩, e2, e3⟩ := Option.bind_eq_some_iff.mp e1
  obtain ⟨c, rfl⟩ := hb _ _ _ _ e2
  simp only [R.tru, Option.map_some, Option.some.injEq, Prod.mk.injEq] at e3
  obtain ⟨rfl, rfl⟩ := e3
  refine ⟨ρ, B, L, env, h, _, _, g, z, e2, fun ρ' B' x H' n' g' q' p' => ?_⟩
  obtain rfl : B' = B := p'
  cases q'
  exact ⟨c, rfl, q ρ' H' n' g'⟩
/-- a plain test: the value's truth -/
theorem pt_of {e : E} {e' : Expr} (ho : isOddT e' = false) (he : PE X e' (tE X.K C e)) : PT X e' (tT X.K C e) := by
  refine ptw (pt_truth he (truth_of ho)) fun σ H Q q => ?_
  obtain ⟨ρ, B, L, env, h, b, h', g, z, e1, q⟩ := q
  obtain ⟨⟨r, h2⟩, e2, e3⟩ := Option.bind_eq_some_iff.mp e1
  obtain ⟨t, e4, e5⟩ := Option.map_eq_some_iff.mp e3
  cases e5
  refine ⟨ρ, B, L, env, h, r, _, g, z, e2, fun ρ' B' x H' n' g' q' p' => ⟨b, tru_of g' q' e4, ?_⟩⟩
  obtain ⟨n2, g2⟩ := drp n' g' p'
  exact q ρ' H' n2 g2
theorem pe_con {c : Const} {kk : Nat} {p : Pos} {v : PV} (e : constIs c v = true) : PE X (.Constant c kk p) (tE X.K C (.con v)) := by
  have fin : ∀ {y : V} {σ : L2.St} {H : Hp} {Q : VK}, (∀ ρ B H, Rep X.K ρ B H v y) → tE X.K C (.con v) σ H Q → Q y H := fun {y σ H Q} r ⟨ρ, B, L, env, h, r', h', g, z, e1, q⟩ => by
    simp only [ev, Option.some.injEq, Prod.mk.injEq] at e1
    obtain ⟨rfl, rfl⟩ := e1
    exact end_pv g (r ρ B H) q
  cases c <;> cases v <;> simp only [constIs, Bool.false_eq_true, beq_iff_eq, decide_eq_true_eq] at e
  · exact pew pe_non fun σ H Q q => fin (fun _ _ _ => .non) q
  · subst e; exact pew pe_bl fun σ H Q q => fin (fun _ _ _ => .bl _) q
  · subst e; exact pew pe_int fun σ H Q q => fin (fun _ _ _ => .int _) q
  · subst e; exact pew pe_str fun σ H Q q => fin (fun _ _ _ => .str _) q
end
section
variable {G : Gb} {k : Nat} {s : Sc} {X : Cx}
theorem Ok.hu (o : Ok G k s X) : X.A.units + 65 < cLine := by
  have := o.room.un
  omega
theorem Ok.blt (o : Ok G k s X) {x : Str} (m : x ∈ bltNames) : X.mg x = none := o.blts x m
theorem pe_vr (o : Ok G k s X) {C : Call} {i : Nat} {x : Str} {p : Pos} (e1 : s.N[i]? = some x) (e2 : s.vis x = true) (e3 : okName x = true) : PE X (.Name x p) (tE X.K C (.var i)) := by
  refine pew (pe_var (i := i) (by rw [o.N]; exact e1) (o.vis e2) (okName_d e3).1 (okName_d e3).2) fun σ H Q ⟨ρ, B, L, env, h, r, h', g, z, e, q⟩ => ?_
  simp only [ev] at e
  split at e
  · cases e
    obtain ⟨y, f1, f2⟩ := z.sh i _ (by assumption)
    exact ⟨y, f1, end_pv g f2 q⟩
  · cases e
    obtain ⟨a, f1, f2, f3⟩ := z.ow i _ (by assumption)
    exact ⟨_, f1, q ρ B _ H Nx.refl g ⟨a, rfl, z.sub a f2, f3⟩ rfl⟩
  · cases e
theorem pe_glb (o : Ok G k s X) {C : Call} {x : Str} {v : PV} {p : Pos} (e2 : s.gl x = true) (e3 : okName x = true) (e4 : (G.globs.any fun p => decide (p.1 = x) && pvSame p.2 v) = true) : PE X (.Name x p) (tE X.K C (.glob x v)) := by
  obtain ⟨⟨y, w⟩, m, c⟩ := List.any_eq_true.mp e4
  simp only [Bool.and_eq_true, decide_eq_true_eq] at c
  obtain ⟨rfl, c⟩ := c
  obtain rfl := same_of _ _ c
  obtain ⟨u, y', f1, f2, f3⟩ := o.glob _ _ m
  refine pew (pe_glob (o.gl e2) f1 f2 (okName_d e3).1) fun σ H Q ⟨ρ, B, L, env, h, r, h', g, z, e, q⟩ => ?_
  simp only [ev, Option.some.injEq, Prod.mk.injEq] at e
  obtain ⟨rfl, rfl⟩ := e
  exact end_pv g (f3 ρ B H) q
/-! ### rows of arguments -/
theorem pa_n {C : Call} : PA X [] (tA X.K C .nil) := paw pa_nil fun σ H Q ⟨ρ, B, L, env, h, vs, h', g, z, e, q⟩ => by
  simp only [evs, Option.some.injEq, Prod.mk.injEq] at e
  obtain ⟨rfl, rfl⟩ := e
  exact q ρ [] H Nx.refl g .nil
theorem pr_n {C : Call} : PA X [] (tR X.K C .nil) := paw pa_nil fun σ H Q ⟨ρ, B, L, env, h, vs, h', g, z, e, q⟩ => by
  simp only [evr, Option.some.injEq, Prod.mk.injEq] at e
  obtain ⟨rfl, rfl⟩ := e
  exact q ρ [] [] H Nx.refl g .nil fun _ m => nomatch m
theorem pa_c {C : Call} {e : E} {es : E} {e' : Expr} {es' : List Expr} (st : isStar e' = false) (h1 : PE X e' (tE X.K C e)) (h2 : PA X es' (tA X.K C es)) : PA X (e' :: es') (tA X.K C (.cons e es)) := by
  refine paw (pa_cons h1 h2 (star_one st)) fun σ H Q ⟨ρ, B, L, env, h, vs, h', g, z, ee, q⟩ => ?_
  simp only [evs, Option.bind_eq_some_iff, Option.map_eq_some_iff] at ee
  obtain ⟨⟨r1, h1⟩, e1, v, e2, ⟨ws, h2⟩, e3, e4⟩ := ee
  cases e4
  refine ⟨ρ, B, L, env, h, r1, h1, g, z, e1, fun ρ1 B1 x H1 n1 g1 q1 p1 => ?_⟩
  obtain ⟨n1', g1'⟩ := drp n1 g1 p1
  have rv := give_rep g1 q1 p1 e2
  refine ⟨ρ1, B, L, env, h1, ws, _, g1', z.nxt g n1', e3, fun ρ2 xs H2 n2 g2 q2 => ?_⟩
  exact q ρ2 (x :: xs) H2 (n1'.step g1' n2) g2 (.cons (rv.next n2 g1') q2)
theorem RReps.next {K : PySem.W.Frag} {ρ ρ' B B' : List Addr} {H H' : Hp} {h : Hh} (n : Nx ρ ρ B H ρ' B' H') (g : GSim K ρ B h H) (s : ∀ a ∈ B, a ∈ B') : ∀ {rs : List R} {xs : List V} {P : List Addr}, RReps K ρ B H rs xs P → RReps K ρ' B' H' rs xs P
  | _, _, _, .nil => .nil
  | _, _, _, .pv r t => .pv (r.next n g) (t.next n g s)
  | _, _, _, .br m r t => .br (s _ m) (r.next n g m) (t.next n g s)
  | _, _, _, .fr m r t => .fr (s _ m) (r.next n g m) (t.next n g s)
theorem pr_c {C : Call} {e : E} {es : E} {e' : Expr} {es' : List Expr} (st : isStar e' = false) (h1 : PE X e' (tE X.K C e)) (h2 : PA X es' (tR X.K C es)) : PA X (e' :: es') (tR X.K C (.cons e es)) := by
  refine paw (pa_cons h1 h2 (star_one st)) fun σ H Q ⟨ρ, B, L, env, h, vs, h', g, z, ee, q⟩ => ?_
  simp only [evr, Option.bind_eq_some_iff, Option.map_eq_some_iff] at ee
  obtain ⟨⟨r1, h1⟩, e1, ⟨ws, h2⟩, e3, e4⟩ := ee
  cases e4
  refine ⟨ρ, B, L, env, h, r1, h1, g, z, e1, fun ρ1 B1 x H1 n1 g1 q1 p1 => ?_⟩
  refine ⟨ρ1, B1, L, env, h1, ws, _, g1, z.next n1 g p1.sup, e3, fun ρ2 P xs H2 n2 g2 q2 f2 => ?_⟩
  have q1' := q1.next n2 g1 (fun a m => List.mem_append_right _ m)
  have nn := n1.step g1 n2
  have fr : ∀ a ∈ P, H a = none := fun a m => n1.fresh g1 (f2 a m)
  cases r1 with
  | pv v =>
    obtain rfl : B1 = B := p1
    exact q ρ2 P _ H2 nn g2 (.pv q1' q2) fr
  | br o =>
    obtain rfl : B1 = B := p1
    obtain ⟨a, rfl, m, r⟩ := q1'
    exact q ρ2 P _ H2 nn g2 (.br m r q2) fr
  | fr o =>
    obtain ⟨a, rfl, rfl, f⟩ := p1
    obtain ⟨a', ea, m, r⟩ := q1'
    injection ea with ea
    subst ea
    have ee : P ++ a :: B = (P ++ [a]) ++ B := by simp
    rw [ee] at nn g2 q2 m r
    refine q ρ2 (P ++ [a]) _ H2 nn g2 (.fr m r q2) fun b m => ?_
    rcases List.mem_append.mp m with m | m
    · exact fr b m
    · rw [List.mem_singleton.mp m]; exact f
theorem all_star {G : Gb} {s : Sc} : ∀ {es : E} {es' : List Expr}, chkEs G es s es' = true → es'.all (fun e => !isStar e) = true
  | .nil, [], _ => rfl
  | .cons e es, e' :: es', h => by
    rw [chkEs, Bool.and_eq_true, Bool.and_eq_true] at h
    rw [List.all_cons, h.1.1, all_star h.2]
    rfl
  | .nil, _ :: _, h => by simp [chkEs] at h
  | .cons _ _, [], h => by simp [chkEs] at h
  | .con _, es', h => by cases es' <;> simp [chkEs] at h
  | .var _, es', h => by cases es' <;> simp [chkEs] at h
  | .glob _ _, es', h => by cases es' <;> simp [chkEs] at h
  | .tup _, es', h => by cases es' <;> simp [chkEs] at h
  | .lst _, es', h => by cases es' <;> simp [chkEs] at h
  | .bin _ _ _, es', h => by cases es' <;> simp [chkEs] at h
  | .neg _, es', h => by cases es' <;> simp [chkEs] at h
  | .cmp _ _ _, es', h => by cases es' <;> simp [chkEs] at h
  | .chain _ _ _ _ _, es', h => by cases es' <;> simp [chkEs] at h
  | .isN _ _, es', h => by cases es' <;> simp [chkEs] at h
  | .not _, es', h => by cases es' <;> simp [chkEs] at h
  | .and _ _, es', h => by cases es' <;> simp [chkEs] at h
  | .or _ _, es', h => by cases es' <;> simp [chkEs] at h
  | .ife _ _ _, es', h => by cases es' <;> simp [chkEs] at h
  | .idx _ _, es', h => by cases es' <;> simp [chkEs] at h
  | .slc _ _ _, es', h => by cases es' <;> simp [chkEs] at h
  | .rev _, es', h => by cases es' <;> simp [chkEs] at h
  | .call _ _, es', h => by cases es' <;> simp [chkEs] at h
  | .blt _ _, es', h => by cases es' <;> simp [chkEs] at h
  | .mth _ _ _, es', h => by cases es' <;> simp [chkEs] at h
  | .isin _ _, es', h => by cases es' <;> simp [chkEs] at h
  | .setlen _, es', h => by cases es' <;> simp [chkEs] at h
  | .lc _ _ _ _ _ _ _, es', h => by cases es' <;> simp [chkEs] at h
theorem pe_tpl {C : Call} {es : E} {es' : List Expr} {kk : Nat} {p : Pos} (h : PA X es' (tA X.K C es)) : PE X (.Tuple es' kk p) (tE X.K C (.tup es)) := by
  refine pew (pe_tup h) fun σ H Q ⟨ρ, B, L, env, h, r, h', g, z, ee, q⟩ => ?_
  simp only [ev, Option.bind_eq_some_iff] at ee
  obtain ⟨⟨vs, h1⟩, e1, e2⟩ := ee
  split at e2
  · cases e2
    exact ⟨ρ, B, L, env, h, vs, _, g, z, e1, fun ρ1 xs H1 n1 g1 q1 => ⟨by rw [← q1.length]; exact le_lim (by assumption), fun a ha => end_tup g1 ha q1 (q.seq n1 g1)⟩⟩
  · cases e2
theorem pe_lss {C : Call} {es : E} {es' : List Expr} {p : Pos} (h : PA X es' (tA X.K C es)) : PE X (.List es' p) (tE X.K C (.lst es)) := by
  refine pew (pe_lst h) fun σ H Q ⟨ρ, B, L, env, h, r, h', g, z, ee, q⟩ => ?_
  simp only [ev, Option.bind_eq_some_iff] at ee
  obtain ⟨⟨vs, h1⟩, e1, e2⟩ := ee
  split at e2
  · cases e2
    exact ⟨ρ, B, L, env, h, vs, _, g, z, e1, fun ρ1 xs H1 n1 g1 q1 => ⟨by rw [← q1.length]; exact le_lim (by assumption), fun a ha => end_lst g1 ha q1 (q.seq n1 g1)⟩⟩
  · cases e2
theorem pe_bin {C : Call} {a b : E} {a' b' : Expr} {op : Operator} {p : Pos} (ha : PE X a' (tE X.K C a)) (hb : PE X b' (tE X.K C b)) : PE X (.BinOp a' op b' p) (tE X.K C (.bin op a b)) := by
  refine pew (pe_op (opE (bop_ok op)) ha hb) fun σ H Q ⟨ρ, B, L, env, h, r, h', g, z, ee, q⟩ => ?_
  simp only [ev, Option.bind_eq_some_iff, Option.map_eq_some_iff] at ee
  obtain ⟨⟨r1, h1⟩, e1, ⟨r2, h2⟩, e2, r3, e3, e4⟩ := ee
  cases e4
  exact tE2 g z e1 e2 e3 (bop_nb e3) q
theorem pe_cm (o : Ok G k s X) {C : Call} {a b : E} {a' b' : Expr} {op : CmpOp} {p : Pos} (hs : isSetE b' = false) (ha : PE X a' (tE X.K C a)) (hb : PE X b' (tE X.K C b)) :
    PE X (.Compare a' [op] [b'] p) (tE X.K C (.cmp op a b)) ∧ PT X (.Compare a' [op] [b'] p) (tT X.K C (.cmp op a b)) := by
  have key : ∀ σ H Q, tE X.K C (.cmp op a b) σ H Q → tOp (rE X.K fun h a b => (cop op h a b).map fun c => .pv (.bl c)) (tE X.K C a) (tE X.K C b) σ H Q := fun σ H Q ⟨ρ, B, L, env, h, r, h', g, z, ee, q⟩ => by
    simp only [ev, Option.bind_eq_some_iff, Option.map_eq_some_iff] at ee
    obtain ⟨⟨r1, h1⟩, e1, ⟨r2, h2⟩, e2, r3, e3, e4⟩ := ee
    cases e4
    exact tE2 g z e1 e2 (by rw [e3]; rfl) rfl q
  refine ⟨pew (pe_cmpR (opE (cop_ok o.hu op)) ha hb (mark_no hs)) key, ptw (pt_cmpR (opE (cop_ok o.hu op)) ha hb (mark_no hs)) fun σ H Q q => key _ _ _ (tT_bl (fun env h r h' ee => ?_) q)⟩
  simp only [ev, Option.bind_eq_some_iff, Option.map_eq_some_iff] at ee
  obtain ⟨⟨r1, h1⟩, e1, ⟨r2, h2⟩, e2, r3, e3, e4⟩ := ee
  cases e4
  exact ⟨r3, rfl⟩
theorem pe_ch (o : Ok G k s X) {C : Call} {a b c : E} {a' b' c' : Expr} {op op' : CmpOp} {p : Pos} (hs : isSetE c' = false) (ha : PE X a' (tE X.K C a)) (hb : PE X b' (tE X.K C b)) (hc : PE X c' (tE X.K C c)) :
    PE X (.Compare a' [op, op'] [b', c'] p) (tE X.K C (.chain op op' a b c)) ∧ PT X (.Compare a' [op, op'] [b', c'] p) (tT X.K C (.chain op op' a b c)) := by
  have hm : lastMarks [op, op'] [b', c'] = false := by
    show behindInMarks op' c' = false
    exact mark_no hs
  have key : ∀ σ H Q, tE X.K C (.chain op op' a b c) σ H Q → tChain (rE X.K fun h a b => (cop op h a b).map fun c => .pv (.bl c)) (rE X.K fun h a b => (cop op' h a b).map fun c => .pv (.bl c)) (tE X.K C a) (tE X.K C b) (tE X.K C c) σ H Q := fun σ H Q ⟨ρ, B, L, env, h, r, h', g, z, ee, q⟩ => by
    simp only [ev, Option.bind_eq_some_iff] at ee
    obtain ⟨⟨r1, h1⟩, e1, ⟨r2, h2⟩, e2, kb, e3, e4⟩ := ee
    refine ⟨ρ, B, L, env, h, r1, h1, g, z, e1, fun ρ1 B1 x H1 n1 g1 q1 p1 => ⟨ρ1, B1, L, env, h1, r2, h2, g1, z.next n1 g p1.sup, e2, fun ρ2 B2 y H2 n2 g2 q2 p2 => ?_⟩⟩
    have sup2 : ∀ a ∈ B, a ∈ B2 := fun a m => p2.sup a (p1.sup a m)
    have sl2 := p1.sl.trans p2.sl
    have n12 := n1.step g1 n2
    refine ⟨ρ2, B2, h2, r1, r2, .pv (.bl kb), congrArg (Option.map fun c => R.pv (PV.bl c)) e3, g2, q1.next n2 g1 p2.sup, q2, fun ρ3 B3 w H3 n3 g3 q3 p3 => ?_⟩
    obtain rfl : B3 = B2 := p3
    cases q3
    refine ⟨kb, rfl, ?_⟩
    have n13 := n12.step g2 n3
    cases kb with
    | false =>
      simp only [Bool.false_eq_true, if_false, Option.some.injEq, Prod.mk.injEq] at e4
      obtain ⟨rfl, rfl⟩ := e4
      rw [if_neg Bool.false_ne_true]
      exact q ρ3 B (.bl false) H3 (n13.to sup2) (g3.drop sl2) (.bl _) rfl
    | true =>
      simp only [if_true, Option.bind_eq_some_iff, Option.map_eq_some_iff] at e4
      obtain ⟨⟨r3, h3⟩, e5, kb', e6, e7⟩ := e4
      cases e7
      rw [if_pos rfl]
      refine ⟨ρ3, B3, L, env, h2, r3, _, g3, (z.next n12 g sup2).nxt g2 n3, e5, fun ρ4 B4 w H4 n4 g4 q4 p4 => ?_⟩
      exact ⟨ρ4, B4, _, r2, r3, _, congrArg (Option.map fun c => R.pv (PV.bl c)) e6, g4, (q2.next n3 g2 fun _ m => m).next n4 g3 p4.sup, q4, q.lift (n13.step g3 n4) g4 (sl2.trans p4.sl) rfl⟩
  refine ⟨pew (pe_chain (opE (cop_ok o.hu op)) (opE (cop_ok o.hu op')) ha hb hc hm) key, ptw (pt_chain (opE (cop_ok o.hu op)) (opE (cop_ok o.hu op')) ha hb hc hm) fun σ H Q q => key _ _ _ (tT_bl (fun env h r h' ee => ?_) q)⟩
  simp only [ev, Option.bind_eq_some_iff] at ee
  obtain ⟨⟨r1, h1⟩, e1, ⟨r2, h2⟩, e2, kb, e3, e4⟩ := ee
  cases kb with
  | false => cases e4; exact ⟨false, rfl⟩
  | true =>
    simp only [if_true, Option.bind_eq_some_iff, Option.map_eq_some_iff] at e4
    obtain ⟨⟨r3, h3⟩, e5, kb', e6, e7⟩ := e4
    cases e7
    exact ⟨kb', rfl⟩
theorem rep_none {K : PySem.W.Frag} {ρ B : List Addr} {H : Hp} {r : R} {x : V} (q : RRep K ρ B H r x) : r.isNon = decide (x = .non) := by
  cases r with
  | pv v => cases q <;> rfl
  | fr o => obtain ⟨a, rfl, _⟩ := q; rfl
  | br o => obtain ⟨a, rfl, _⟩ := q; rfl
theorem pe_isn {C : Call} {a : E} {a' : Expr} {n : Bool} {op : CmpOp} {kk : Nat} {p p2 : Pos} (ho : op = if n then .IsNot else .Is) (ha : PE X a' (tE X.K C a)) :
    PE X (.Compare a' [op] [.Constant .none kk p2] p) (tE X.K C (.isN n a)) ∧ PT X (.Compare a' [op] [.Constant .none kk p2] p) (tT X.K C (.isN n a)) := by
  have hbl : ∀ env h r h', ev C (.isN n a) env h = some (r, h') → ∃ c, r = .pv (.bl c) := fun env h r h' ee => by
    simp only [ev, Option.map_eq_some_iff] at ee
    obtain ⟨p, _, e⟩ := ee
    cases e
    exact ⟨_, rfl⟩
  cases n with
  | false =>
    simp only [Bool.false_eq_true, if_false] at ho
    subst ho
    have key : ∀ σ H Q, tE X.K C (.isN false a) σ H Q → tIsN (tE X.K C a) σ H Q := fun σ H Q ⟨ρ, B, L, env, h, r, h', g, z, ee, q⟩ => by
      simp only [ev, Option.map_eq_some_iff] at ee
      obtain ⟨⟨r1, h1⟩, e1, e⟩ := ee
      cases e
      refine ⟨ρ, B, L, env, h, r1, _, g, z, e1, fun ρ1 B1 x H1 n1 g1 q1 p1 => ?_⟩
      obtain ⟨n1', g1'⟩ := drp n1 g1 p1
      have := end_pv g1' (.bl _) (q.seq n1' g1')
      rw [rep_none q1] at this
      simpa using this
    exact ⟨pew (pe_cmp (pc_isN ha)) key, ptw (pt_cmp (pc_isN ha)) fun σ H Q q => key _ _ _ (tT_bl hbl q)⟩
  | true =>
    simp only [if_true] at ho
    subst ho
    have key : ∀ σ H Q, tE X.K C (.isN true a) σ H Q → tNotN (tE X.K C a) σ H Q := fun σ H Q ⟨ρ, B, L, env, h, r, h', g, z, ee, q⟩ => by
      simp only [ev, Option.map_eq_some_iff] at ee
      obtain ⟨⟨r1, h1⟩, e1, e⟩ := ee
      cases e
      refine ⟨ρ, B, L, env, h, r1, _, g, z, e1, fun ρ1 B1 x H1 n1 g1 q1 p1 => ?_⟩
      obtain ⟨n1', g1'⟩ := drp n1 g1 p1
      have := end_pv g1' (.bl _) (q.seq n1' g1')
      rw [rep_none q1] at this
      simpa using this
    exact ⟨pew (pe_cmp (pc_notN ha)) key, ptw (pt_cmp (pc_notN ha)) fun σ H Q q => key _ _ _ (tT_bl hbl q)⟩
theorem pe_ng {C : Call} {a : E} {a' : Expr} {p : Pos} (ha : PE X a' (tE X.K C a)) : PE X (.UnaryOp .USub a' p) (tE X.K C (.neg a)) := by
  refine pew (pe_un un_neg ha) fun σ H Q ⟨ρ, B, L, env, h, r, h', g, z, ee, q⟩ => ?_
  simp only [ev, Option.bind_eq_some_iff] at ee
  obtain ⟨⟨r1, h1⟩, e1, e⟩ := ee
  split at e
  · cases e
    rename_i i hi
    simp only at hi
    subst hi
    refine ⟨ρ, B, L, env, h, _, _, g, z, e1, fun ρ1 B1 x H1 n1 g1 q1 p1 => ?_⟩
    obtain ⟨n1', g1'⟩ := drp n1 g1 p1
    exact ⟨_, rep_int q1, end_pv g1' (.int _) (q.seq n1' g1')⟩
  · cases e
theorem pe_nt {C : Call} {a : E} {a' : Expr} {p : Pos} (ha : PE X a' (tE X.K C a)) (hat : PT X a' (tT X.K C a)) : PE X (.UnaryOp .Not a' p) (tE X.K C (.not a)) ∧ PT X (.UnaryOp .Not a' p) (tT X.K C (.not a)) := by
  refine ⟨pew (pe_notT ha) fun σ H Q ⟨ρ, B, L, env, h, r, h', g, z, ee, q⟩ => ?_, ptw (pt_not hat) fun σ H Q ⟨ρ, B, L, env, h, r, h', g, z, ee, q⟩ => ?_⟩
  · simp only [ev, Option.bind_eq_some_iff, Option.map_eq_some_iff] at ee
    obtain ⟨⟨r1, h1⟩, e1, t, e2, e3⟩ := ee
    cases e3
    refine ⟨ρ, B, L, env, h, r1, _, g, z, e1, fun ρ1 B1 x H1 n1 g1 q1 p1 => ⟨t, tru_of g1 q1 e2, ?_⟩⟩
    obtain ⟨n1', g1'⟩ := drp n1 g1 p1
    exact end_pv g1' (.bl _) (q.seq n1' g1')
  · simp only [evt, ev, Option.bind_eq_some_iff, Option.map_eq_some_iff] at ee
    obtain ⟨⟨r0, h0⟩, ⟨⟨r1, h1⟩, e1, t, e2, e3⟩, t', e4, e5⟩ := ee
    cases e3
    cases e5
    simp only [R.tru, Option.some.injEq] at e4
    subst e4
    exact ⟨ρ, B, L, env, h, t, _, g, z, by simp only [evt, e1, Option.bind_some, e2, Option.map_some], q⟩
/-- a test of and, or does not look at its value -/
theorem pw_of {op : BoolOp} {vs : List Expr} {p : Pos} {t : TT} (h : PT X (.BoolOp op vs p) t) : PW X (.BoolOp op vs p) t := ⟨fun _ => h.run⟩
theorem pe_an {C : Call} {a b : E} {x y : Expr} {rest : List Expr} {p : Pos} (ha : PE X x (tE X.K C a)) (hat : PT X x (tT X.K C a))
    (hb : PE X (restOf .And y rest p) (tE X.K C b)) (hbt : PT X (restOf .And y rest p) (tT X.K C b)) :
    PE X (.BoolOp .And (x :: y :: rest) p) (tE X.K C (.and a b)) ∧ PT X (.BoolOp .And (x :: y :: rest) p) (tT X.K C (.and a b)) := by
  have hb' : PE X (.BoolOp .And (y :: rest) p) (tE X.K C b) := by
    cases rest with
    | nil => exact pe_one hb
    | cons _ _ => exact hb
  have hbt' : PW X (.BoolOp .And (y :: rest) p) (tT X.K C b) := by
    cases rest with
    | nil => exact pw_and1 hbt
    | cons _ _ => exact pw_of hbt
  refine ⟨pew (pe_andT ha hb') fun σ H Q ⟨ρ, B, L, env, h, r, h', g, z, ee, q⟩ => ?_, ptw (pw_and hat hbt').pt fun σ H Q ⟨ρ, B, L, env, h, r, h', g, z, ee, q⟩ => ?_⟩
  · simp only [ev, Option.bind_eq_some_iff] at ee
    obtain ⟨⟨r1, h1⟩, e1, t, e2, e3⟩ := ee
    refine ⟨ρ, B, L, env, h, r1, h1, g, z, e1, fun ρ1 B1 x H1 n1 g1 q1 p1 => ⟨t, tru_of g1 q1 e2, ?_⟩⟩
    obtain ⟨n1', g1'⟩ := drp n1 g1 p1
    cases t with
    | true =>
      simp only [if_true] at e3
      rw [if_pos rfl]
      exact ⟨ρ1, B, L, env, h1, r, h', g1', z.nxt g n1', e3, q.seq n1' g1'⟩
    | false =>
      simp only [Bool.false_eq_true, if_false, Option.some.injEq, Prod.mk.injEq] at e3
      obtain ⟨rfl, rfl⟩ := e3
      rw [if_neg Bool.false_ne_true]
      exact q ρ1 B1 x H1 n1 g1 q1 p1
  · simp only [evt, ev, Option.bind_eq_some_iff, Option.map_eq_some_iff] at ee
    obtain ⟨⟨r0, h0⟩, ⟨⟨r1, h1⟩, e1, t, e2, e3⟩, t', e4, e5⟩ := ee
    cases e5
    refine ⟨ρ, B, L, env, h, t, h1, g, z, by simp only [evt, e1, Option.bind_some, e2, Option.map_some], fun ρ1 H1 n1 g1 => ?_⟩
    cases t with
    | true =>
      simp only [if_true] at e3
      rw [if_pos rfl]
      exact ⟨ρ1, B, L, env, h1, r, h0, g1, z.nxt g n1, by simp only [evt, e3, Option.bind_some, e4, Option.map_some], fun ρ2 H2 n2 g2 => q ρ2 H2 (n1.step g1 n2) g2⟩
    | false =>
      simp only [Bool.false_eq_true, if_false, Option.some.injEq, Prod.mk.injEq] at e3
      obtain ⟨rfl, rfl⟩ := e3
      rw [e2] at e4
      cases e4
      rw [if_neg Bool.false_ne_true]
      exact q ρ1 H1 n1 g1
theorem pe_orr {C : Call} {a b : E} {x y : Expr} {rest : List Expr} {p : Pos} (ha : PE X x (tE X.K C a)) (hat : PT X x (tT X.K C a))
    (hb : PE X (restOf .Or y rest p) (tE X.K C b)) (hbt : PT X (restOf .Or y rest p) (tT X.K C b)) :
    PE X (.BoolOp .Or (x :: y :: rest) p) (tE X.K C (.or a b)) ∧ PT X (.BoolOp .Or (x :: y :: rest) p) (tT X.K C (.or a b)) := by
  have hb' : PE X (.BoolOp .Or (y :: rest) p) (tE X.K C b) := by
    cases rest with
    | nil => exact pe_one hb
    | cons _ _ => exact hb
  have hbt' : PW X (.BoolOp .Or (y :: rest) p) (tT X.K C b) := by
    cases rest with
    | nil => exact pw_or1 hbt
    | cons _ _ => exact pw_of hbt
  refine ⟨pew (pe_orT ha hb') fun σ H Q ⟨ρ, B, L, env, h, r, h', g, z, ee, q⟩ => ?_, ptw (pw_or hat hbt').pt fun σ H Q ⟨ρ, B, L, env, h, r, h', g, z, ee, q⟩ => ?_⟩
  · simp only [ev, Option.bind_eq_some_iff] at ee
    obtain ⟨⟨r1, h1⟩, e1, t, e2, e3⟩ := ee
    refine ⟨ρ, B, L, env, h, r1, h1, g, z, e1, fun ρ1 B1 x H1 n1 g1 q1 p1 => ⟨t, tru_of g1 q1 e2, ?_⟩⟩
    obtain ⟨n1', g1'⟩ := drp n1 g1 p1
    cases t with
    | false =>
      simp only [Bool.false_eq_true, if_false] at e3
      rw [if_neg Bool.false_ne_true]
      exact ⟨ρ1, B, L, env, h1, r, h', g1', z.nxt g n1', e3, q.seq n1' g1'⟩
    | true =>
      simp only [if_true, Option.some.injEq, Prod.mk.injEq] at e3
      obtain ⟨rfl, rfl⟩ := e3
      rw [if_pos rfl]
      exact q ρ1 B1 x H1 n1 g1 q1 p1
  · simp only [evt, ev, Option.bind_eq_some_iff, Option.map_eq_some_iff] at ee
    obtain ⟨⟨r0, h0⟩, ⟨⟨r1, h1⟩, e1, t, e2, e3⟩, t', e4, e5⟩ := ee
    cases e5
    refine ⟨ρ, B, L, env, h, t, h1, g, z, by simp only [evt, e1, Option.bind_some, e2, Option.map_some], fun ρ1 H1 n1 g1 => ?_⟩
    cases t with
    | false =>
      simp only [Bool.false_eq_true, if_false] at e3
      rw [if_neg Bool.false_ne_true]
      exact ⟨ρ1, B, L, env, h1, r, h0, g1, z.nxt g n1, by simp only [evt, e3, Option.bind_some, e4, Option.map_some], fun ρ2 H2 n2 g2 => q ρ2 H2 (n1.step g1 n2) g2⟩
    | true =>
      simp only [if_true, Option.some.injEq, Prod.mk.injEq] at e3
      obtain ⟨rfl, rfl⟩ := e3
      rw [e2] at e4
      cases e4
      rw [if_pos rfl]
      exact q ρ1 H1 n1 g1
theorem pt_ifx {c a b : Expr} {p : Pos} {tc ta tb : TT} (hc : PT X c tc) (ha : PT X a ta) (hb : PT X b tb) : PT X (.IfExp c a b p) (fun σ H Q => tc σ H fun t H1 => if t = true then ta σ H1 Q else tb σ H1 Q) := by
  refine ⟨fun pins s σ H Q I q => ?_⟩
  show wpAny (model X.prog X.w) X.A (do if ← isTrue c X.env (eval c X.env) then isTrue a X.env (eval a X.env) else isTrue b X.env (eval b X.env)) _ _ s
  refine wpAny_bind (thn (hc.run pins s σ H _ I q) fun t s1 ⟨H1, I1, q1⟩ => ?_)
  cases t with
  | true => exact ha.run pins s1 σ H1 Q I1 q1
  | false => exact hb.run pins s1 σ H1 Q I1 q1
theorem pe_if {C : Call} {t a b : E} {t' a' b' : Expr} {p : Pos} (ht : PT X t' (tT X.K C t)) (ha : PE X a' (tE X.K C a)) (hb : PE X b' (tE X.K C b)) (hat : PT X a' (tT X.K C a)) (hbt : PT X b' (tT X.K C b)) :
    PE X (.IfExp t' a' b' p) (tE X.K C (.ife t a b)) ∧ PT X (.IfExp t' a' b' p) (tT X.K C (.ife t a b)) := by
  refine ⟨pew (pe_ifExp ht ha hb) fun σ H Q ⟨ρ, B, L, env, h, r, h', g, z, ee, q⟩ => ?_, ptw (pt_ifx ht hat hbt) fun σ H Q ⟨ρ, B, L, env, h, r, h', g, z, ee, q⟩ => ?_⟩
  · simp only [ev, Option.bind_eq_some_iff] at ee
    obtain ⟨⟨r1, h1⟩, e1, t, e2, e3⟩ := ee
    refine ⟨ρ, B, L, env, h, t, h1, g, z, by simp only [evt, e1, Option.bind_some, e2, Option.map_some], fun ρ1 H1 n1 g1 => ?_⟩
    cases t with
    | true => exact ⟨ρ1, B, L, env, h1, r, h', g1, z.nxt g n1, e3, q.seq n1 g1⟩
    | false => exact ⟨ρ1, B, L, env, h1, r, h', g1, z.nxt g n1, e3, q.seq n1 g1⟩
  · simp only [evt, ev, Option.bind_eq_some_iff, Option.map_eq_some_iff] at ee
    obtain ⟨⟨r0, h0⟩, ⟨⟨r1, h1⟩, e1, t, e2, e3⟩, t', e4, e5⟩ := ee
    cases e5
    refine ⟨ρ, B, L, env, h, t, h1, g, z, by simp only [evt, e1, Option.bind_some, e2, Option.map_some], fun ρ1 H1 n1 g1 => ?_⟩
    cases t with
    | true =>
      simp only [if_true] at e3
      exact ⟨ρ1, B, L, env, h1, _, h0, g1, z.nxt g n1, by simp only [evt, e3, Option.bind_some, e4, Option.map_some], fun ρ2 H2 n2 g2 => q ρ2 H2 (n1.step g1 n2) g2⟩
    | false =>
      simp only [Bool.false_eq_true, if_false] at e3
      exact ⟨ρ1, B, L, env, h1, _, h0, g1, z.nxt g n1, by simp only [evt, e3, Option.bind_some, e4, Option.map_some], fun ρ2 H2 n2 g2 => q ρ2 H2 (n1.step g1 n2) g2⟩
theorem pe_ixx (o : Ok G k s X) {C : Call} {a b : E} {a' b' : Expr} {p : Pos} (hs : isSliceE b' = false) (ha : PE X a' (tE X.K C a)) (hb : PE X b' (tE X.K C b)) : PE X (.Subscript a' b' p) (tE X.K C (.idx a b)) := by
  have hu := o.hu
  refine pew (pe_ix (ixE (ix_ok (by omega))) ha hb (plain_ix hs)) fun σ H Q ⟨ρ, B, L, env, h, r, h', g, z, ee, q⟩ => ?_
  simp only [ev, Option.bind_eq_some_iff, Option.map_eq_some_iff] at ee
  obtain ⟨⟨r1, h1⟩, e1, ⟨r2, h2⟩, e2, r3, e3, e4⟩ := ee
  cases e4
  exact tE2 g z e1 e2 e3 (ix_nb e3) q
def rS (K : PySem.W.Frag) : V → Option Int → Option Int → Hp → VK → Prop := fun x l u H Q => ∃ ρ B h a r, slR h a l u = some r ∧ GSim K ρ B h H ∧ RRep K ρ B H a x ∧ EEnd K ρ B H r h Q
theorem slE : SlR X (rS X.K) := fun pins s σ H x v vl vu lo hi sl Q I rx hs p1 p2 ⟨ρ, B, h, a, r, e, g, q1, q⟩ => sl_ok ρ B h a r lo hi e pins s σ H x v vl vu lo hi sl Q I rx hs p1 p2 ⟨rfl, rfl, g, q1, q⟩
/-- a slice's part -/
def tPt (K : PySem.W.Frag) (C : Call) (e : E) : TO := fun σ H Q => ∃ ρ B L env h i h', GSim K ρ B h H ∧ SSim K ρ B L env σ H ∧ (if e.isNil then some (none, h) else (ev C e env h).bind fun y => y.1.asI.map fun i => (some i, y.2)) = some (i, h') ∧
  ∀ ρ' H', Nx ρ ρ B H ρ' B H' → GSim K ρ' B h' H' → Q i H'
theorem po_pt {C : Call} {e : E} {oe : Option Expr} (h : (oe = none ∧ e.isNil = true) ∨ ∃ e', oe = some e' ∧ e.isNil = false ∧ PE X e' (tE X.K C e)) : PO X oe (tPt X.K C e) := by
  rcases h with ⟨rfl, hn⟩ | ⟨e', rfl, hn, he⟩
  · refine ⟨fun pins s σ H Q I ⟨ρ, B, L, env, h, i, h', g, z, ee, q⟩ => po_none.run pins s σ H Q I ?_⟩
    rw [hn, if_pos rfl] at ee
    cases ee
    exact q ρ H Nx.refl g
  · refine ⟨fun pins s σ H Q I ⟨ρ, B, L, env, h, i, h', g, z, ee, q⟩ => (po_some he).run pins s σ H Q I ?_⟩
    rw [hn, if_neg Bool.false_ne_true] at ee
    simp only [Option.bind_eq_some_iff, Option.map_eq_some_iff] at ee
    obtain ⟨⟨r1, h1⟩, e1, j, e2, e3⟩ := ee
    cases e3
    refine ⟨ρ, B, L, env, h, r1, _, g, z, e1, fun ρ1 B1 x H1 n1 g1 q1 p1 => ?_⟩
    obtain ⟨n1', g1'⟩ := drp n1 g1 p1
    have e2 : r1.asI = some j := e2
    unfold R.asI at e2
    split at e2
    · cases e2
      exact ⟨_, rep_int q1, q ρ1 H1 n1' g1'⟩
    · cases e2
theorem pe_sl {C : Call} {a lo hi : E} {a' : Expr} {lo' hi' : Option Expr} {p p2 : Pos} (ha : PE X a' (tE X.K C a)) (hl : PO X lo' (tPt X.K C lo)) (hh : PO X hi' (tPt X.K C hi)) : PE X (.Subscript a' (.Slice lo' hi' none p2) p) (tE X.K C (.slc a lo hi)) := by
  refine pew (pe_slice slE ha hl hh) fun σ H Q ⟨ρ, B, L, env, h, r, h', g, z, ee, q⟩ => ?_
  simp only [ev] at ee
  obtain ⟨⟨r1, h1⟩, e1, ee⟩ := Option.bind_eq_some_iff.mp ee
  obtain ⟨⟨i, h2⟩, e2, ee⟩ := Option.bind_eq_some_iff.mp ee
  obtain ⟨⟨j, h3⟩, e3, ee⟩ := Option.bind_eq_some_iff.mp ee
  obtain ⟨r4, e4, e5⟩ := Option.map_eq_some_iff.mp ee
  cases e5
  refine ⟨ρ, B, L, env, h, r1, h1, g, z, e1, fun ρ1 B1 x H1 n1 g1 q1 p1 => ⟨ρ1, B1, L, env, h1, i, h2, g1, z.next n1 g p1.sup, e2, fun ρ2 H2 n2 g2 => ⟨ρ2, B1, L, env, h2, j, h3, g2, (z.next n1 g p1.sup).nxt g1 n2, e3, fun ρ3 H3 n3 g3 => ?_⟩⟩⟩
  exact ⟨ρ3, B1, h3, r1, r, e4, g3, (q1.next n2 g1 fun _ m => m).next n3 g2 (fun _ m => m), q.lift ((n1.step g1 n2).step g2 n3) g3 p1.sl (sl_nb e4)⟩
theorem pe_rv {C : Call} {a : E} {a' : Expr} {kk : Nat} {p1 p2 p3 p : Pos} (ha : PE X a' (tE X.K C a)) : PE X (.Subscript a' (.Slice none none (some (.UnaryOp .USub (.Constant (.int 1) kk p1) p2)) p3) p) (tE X.K C (.rev a)) := by
  refine pew (pe_revL ha) fun σ H Q ⟨ρ, B, L, env, h, r, h', g, z, ee, q⟩ => ?_
  simp only [ev, Option.bind_eq_some_iff, Option.map_eq_some_iff] at ee
  obtain ⟨⟨r1, h1⟩, e1, r2, e2, e3⟩ := ee
  cases e3
  refine ⟨ρ, B, L, env, h, r1, _, g, z, e1, fun ρ1 B1 x H1 n1 g1 q1 p1 => ?_⟩
  unfold rvR at e2
  split at e2
  · cases e2
    obtain ⟨a, vs, rfl, f1, f2⟩ := q1.own g1 (by assumption)
    exact ⟨a, vs, rfl, SqL.of f1, fun p hp => end_lst g1 hp f2.reverse (q.lift n1 g1 p1.sl rfl)⟩
  · cases e2
theorem pe_cl (o : Ok G k s X) {f : Nat} {d : Def} {es : E} {es' : List Expr} {x : Str} {p p2 : Pos} (hd : G.ds[f]? = some d) (hx : d.name = x) (hg : s.gl x = true) (hn : okName x = true) (hc : chkEs G es s es' = true)
    (ha : PA X es' (tA X.K (callK G.ds k) es)) : PE X (.Call (.Name x p2) es' [] p) (tE X.K (callK G.ds k) (.call f es)) := by
  obtain ⟨a, fd, f1, f2, f3, f4⟩ := o.fns f d hd
  rw [hx] at f1
  have key : ∀ σ H Q, tE X.K (callK G.ds k) (.call f es) σ H Q → tA X.K (callK G.ds k) es σ H fun vs H1 => spEv X.K G.ds k f vs H1 Q E0 := fun σ H Q ⟨ρ, B, L, env, h, r, h', g, z, ee, q⟩ => by
    simp only [ev] at ee
    obtain ⟨⟨vs, h1⟩, e1, ee⟩ := Option.bind_eq_some_iff.mp ee
    exact ⟨ρ, B, L, env, h, vs, h1, g, z, e1, fun ρ1 xs H1 n1 g1 q1 => ⟨ρ1, B, h1, vs, r, h', g1, q1, ee, q.seq n1 g1⟩⟩
  cases es' with
  | nil =>
    refine pew (call_g0 f4 o.room o.gd (o.gl hg) f1 f2 f3 (okName_d hn).1) fun σ H Q q => ?_
    cases es <;> simp only [chkEs, Bool.false_eq_true] at hc
    obtain ⟨ρ, B, L, env, h, r, h', g, z, ee, q⟩ := q
    simp only [ev, evs, Option.bind_some] at ee
    exact ⟨ρ, B, h, [], r, h', g, .nil, ee, q⟩
  | cons e' es' =>
    have st := all_star hc
    rw [List.all_cons, Bool.and_eq_true] at st
    exact pew (call_g f4 o.room o.gd (o.gl hg) f1 f2 f3 ha (okName_d hn).1 (star_one (by simpa using st.1)) (star_none st.2)) key
def rC (K : PySem.W.Frag) (g : Hh → List R → Option R) : List V → Hp → VK → Prop := fun xs H Q => ∃ ρ B P h rs r, g h rs = some r ∧ GSim K ρ B h H ∧ RReps K ρ B H rs xs P ∧ EEnd K ρ B H r h Q
theorem cE {f : Value} {g : Hh → List R → Option R} (o : CallV X f g) : CallR X f (rC X.K g) := fun pins s σ H xs us Q I r ⟨ρ, B, P, h, rs, r', e, q⟩ => o ρ B P h rs r' e pins s σ H xs us Q I r q
theorem bn_name {b : Blt} : bltName b ≠ "__name__" ∧ (bltName b == ("__debug__" : Str)) = false := by cases b <;> exact ⟨by decide +kernel, by decide +kernel⟩
theorem pe_bl (o : Ok G k s X) {C : Call} {b : Blt} {es : E} {e' : Expr} {es' : List Expr} {p p2 : Pos} (hg : s.gl (bltName b) = true) (hc : chkEs G es s (e' :: es') = true) (ha : PA X (e' :: es') (tR X.K C es)) :
    PE X (.Call (.Name (bltName b) p2) (e' :: es') [] p) (tE X.K C (.blt b es)) := by
  have st := all_star hc
  rw [List.all_cons, Bool.and_eq_true] at st
  have key : ∀ σ H Q, tE X.K C (.blt b es) σ H Q → tCB (rC X.K (blt b)) (tR X.K C es) σ H Q := fun σ H Q ⟨ρ, B, L, env, h, r, h', g, z, ee, q⟩ => by
    simp only [ev, Option.bind_eq_some_iff, Option.map_eq_some_iff] at ee
    obtain ⟨⟨rs, h1⟩, e1, r1, e2, e3⟩ := ee
    cases e3
    exact ⟨ρ, B, L, env, h, rs, _, g, z, e1, fun ρ1 P xs H1 n1 g1 q1 _ => ⟨ρ1, P ++ B, P, _, rs, r, e2, g1, q1, q.lift n1 g1 (List.sublist_append_right _ _) (blt_nb e2)⟩⟩
  have hm := o.blts _ (blt_in b)
  have hb := blt_boot b
  have hv := cE (blt_ok o.calm b)
  have e1 : starEach (e' :: es') X.env = _ := star_one (by simpa using st.1)
  have e2 : (backTo p (starEach es' X.env)).any (·.1) = false := star_none st.2
  cases b <;> first
    | exact pew (pe_callB hv (o.gl hg) hm hb ha bn_name.1 bn_name.2 e1 e2) key
    | exact pew (pe_callTy hv (o.gl hg) hm hb ha bn_name.1 bn_name.2 e1 e2) key
def rM (K : PySem.W.Frag) (g : Hh → R → List R → Option R) : V → List V → Hp → VK → Prop := fun x xs H Q => ∃ ρ B P h o rs r, g h o rs = some r ∧ GSim K ρ B h H ∧ RRep K ρ B H o x ∧ RReps K ρ B H rs xs P ∧ EEnd K ρ B H r h Q
theorem mE {id : String} {g : Hh → R → List R → Option R} (o : MtV X id g) : MtR X id (rM X.K g) := fun pins s σ H x xs v us Q I rx r ⟨ρ, B, P, h, o', rs, r', e, q⟩ => o ρ B P h o' rs r' e pins s σ H x xs v us Q I rx r q
theorem mth_ty {K : PySem.W.Frag} {ρ B : List Addr} {H : Hp} {h : Hh} {m : Mth} {r : R} {x : V} (g : GSim K ρ B h H) (q : RRep K ρ B H r x) (e : mthOk m h r = true) : tyV K (mthTy m) x H := by
  have lst : (match r.seq h with | some (false, _) => true | _ => false) = true → tyV K "list" x H := fun e => by
    split at e
    · obtain ⟨a, vs, rfl, s1, _⟩ := q.seqL g (by assumption)
      exact .inl ⟨rfl, vs, s1⟩
    · cases e
  cases m with
  | index => exact lst e
  | count => exact lst e
  | get =>
    obtain ⟨kvs, e1⟩ := Option.isSome_iff_exists.mp (show (r.dct h).isSome = true from e)
    obtain ⟨a, ws, rfl, e2, _⟩ := q.dct g e1
    exact .inr (.inr (.inl ⟨rfl, .inl ⟨ws, e2⟩⟩))
theorem back_all {p : Pos} {env : Env} : ∀ {es : List Expr}, es.all (fun e => !isStar e) = true → (backTo p (starEach es env)).all (fun x => !x.1) = true
  | [], _ => rfl
  | e :: es, h => by
    rw [List.all_cons, Bool.and_eq_true] at h
    rw [star_one (by simpa using h.1)]
    show (true && (backTo p (starEach es env)).all (fun x => !x.1)) = true
    rw [back_all h.2]
    rfl
theorem pe_mt (o : Ok G k s X) {C : Call} {m : Mth} {oe es : E} {o' e' : Expr} {es' : List Expr} {p p2 : Pos} (hcl : isCallE o' = false) (hl : (p2.endLine == p.line) = true) (hlen : (e' :: es').length < 20) (hc : chkEs G es s (e' :: es') = true)
    (ho : PE X o' (tE X.K C oe)) (ha : PA X (e' :: es') (tR X.K C es)) : PE X (.Call (.Attribute o' (mthName m) p2) (e' :: es') [] p) (tE X.K C (.mth m oe es)) := by
  have st := all_star hc
  have st' := st
  rw [List.all_cons, Bool.and_eq_true] at st
  have key : ∀ σ H Q, tE X.K C (.mth m oe es) σ H Q → tBM X.K (mthTy m) (rM X.K (mth m)) (tE X.K C oe) (tR X.K C es) σ H Q := fun σ H Q ⟨ρ, B, L, env, h, r, h', g, z, ee, q⟩ => by
    simp only [ev] at ee
    obtain ⟨⟨r0, h0⟩, e0, ee⟩ := Option.bind_eq_some_iff.mp ee
    split at ee
    · rename_i hok
      simp only [Option.bind_eq_some_iff, Option.map_eq_some_iff] at ee
      obtain ⟨⟨rs, h1⟩, e1, r1, e2, e3⟩ := ee
      cases e3
      refine ⟨ρ, B, L, env, h, r0, h0, g, z, e0, fun ρ1 B1 x H1 n1 g1 q1 p1 => ⟨mth_ty g1 q1 hok, ρ1, B1, L, env, h0, rs, _, g1, z.next n1 g p1.sup, e1, fun ρ2 P xs H2 n2 g2 q2 _ => ?_⟩⟩
      exact ⟨ρ2, P ++ B1, P, _, r0, rs, r, e2, g2, q1.next n2 g1 (fun a m => List.mem_append_right _ m), q2, q.lift (n1.step g1 n2) g2 (p1.sl.trans (List.sublist_append_right _ _)) (mth_nb e2)⟩
    · cases ee
  have hb : attributeBase o' (mthName m) X.env (eval o' X.env) = eval o' X.env := base_no hcl
  have hfew : ((backTo p (starEach (e' :: es') X.env)).all (fun x => !x.1) && (backToKw p (keywordEach [] X.env)).all (fun x => x.1.isSome)
      && decide ((e' :: es').length + ([] : List Keyword).length + (if ([] : List Keyword).isEmpty then 0 else 1) < 30)) = true := by
    rw [back_all st', show (backToKw p (keywordEach [] X.env)) = [] from rfl]
    simp only [List.all_nil, Bool.and_self, Bool.true_and, decide_eq_true_eq, List.length_nil, List.isEmpty_nil, if_true]
    omega
  have e1 : starEach (e' :: es') X.env = _ := star_one (by simpa using st.1)
  have e2 : (backTo p (starEach es' X.env)).any (·.1) = false := star_none st.2
  cases m with
  | index => exact pew (pe_bm PySem.F.plainAttrs_list PySem.F.slot_list_index PySem.F.type_list_index (mE (mth_ok o.hu .index)) ho ha hb hfew hl e1 e2) key
  | count => exact pew (pe_bm PySem.F.plainAttrs_list PySem.F.slot_list_count PySem.F.type_list_count (mE (mth_ok o.hu .count)) ho ha hb hfew hl e1 e2) key
  | get => exact pew (pe_bm PySem.F.plainAttrs_dict PySem.F.slot_dict_get PySem.F.type_dict_get (mE (mth_ok o.hu .get)) ho ha hb hfew hl e1 e2) key
theorem pe_sln (o : Ok G k s X) {C : Call} {a : E} {a' : Expr} {p p2 p3 p4 : Pos} (hg : s.gl ("len" : Str) = true) (hg2 : s.gl ("set" : Str) = true) (st : isStar a' = false) (ha : PE X a' (tE X.K C a)) :
    PE X (.Call (.Name "len" p) [.Call (.Name "set" p2) [a'] [] p3] [] p4) (tE X.K C (.setlen a)) := by
  refine pew (pe_lenSetI o.calm (o.gl hg) (o.blts _ (by decide +kernel)) (o.gl hg2) (o.blts _ (by decide +kernel)) ha (star_one st)) fun σ H Q ⟨ρ, B, L, env, h, r, h', g, z, ee, q⟩ => ?_
  simp only [ev] at ee
  obtain ⟨⟨r1, h1⟩, e1, ee⟩ := Option.bind_eq_some_iff.mp ee
  obtain ⟨⟨t, xs⟩, e2, ee⟩ := Option.bind_eq_some_iff.mp ee
  cases t with
  | true => cases ee
  | false =>
    obtain ⟨ns, e3, ee⟩ := Option.bind_eq_some_iff.mp ee
    split at ee
    · rename_i c
      cases ee
      refine ⟨ρ, B, L, env, h, r1, _, g, z, e1, fun ρ1 B1 x H1 n1 g1 q1 p1 => ?_⟩
      obtain ⟨a, vs, rfl, s1, r1⟩ := q1.seqL g1 e2
      obtain ⟨n1', g1'⟩ := drp n1 g1 p1
      exact ⟨a, ns, rfl, by rw [← ints_rep e3 r1]; exact s1, c.2, c.1, end_pv g1' (.int _) (q.seq n1' g1')⟩
    · cases ee
end
end Ev

set_option maxRecDepth 100000
set_option maxHeartbeats 1000000
/-! EvJ: what is walked, comprehensions; every expression. -/
namespace Ev
open PySem PySem.Spec PyProof.Rows L2
/-- a list that stays as it is while the places in L and the boxes alone are written to -/
def StL (K : PySem.W.Frag) (ρ L : List Addr) (H : Hp) (a : Addr) (vs : List V) : Prop := (H a = some (.lst vs) ∧ a ∉ ρ ∧ a ∉ L) ∨ KL K H a vs
theorem StL.sq {K : PySem.W.Frag} {ρ L : List Addr} {H : Hp} {a : Addr} {vs : List V} (h : StL K ρ L H a vs) : SqL K H a vs := by
  rcases h with ⟨h, _, _⟩ | h
  · exact SqL.of h
  · exact h.sq
theorem StL.mono {K : PySem.W.Frag} {W ρ ρ' B B' L L' : List Addr} {H H' : Hp} {a : Addr} {vs : List V} (n : Nx W ρ B H ρ' B' H') (w : Wr W H) (s : ∀ b ∈ W, b ∈ ρ ∨ b ∈ L ∨ H b = none) (l : ∀ b ∈ L', b ∈ L ∨ H b = none) (h : StL K ρ L H a vs) : StL K ρ' L' H' a vs := by
  rcases h with ⟨h, h1, h2⟩ | h
  · refine .inl ⟨n.ext a _ h fun m => ?_, fun m => ?_, fun m => ?_⟩
    · rcases s a m with q | q | q
      · exact h1 q
      · exact h2 q
      · rw [h] at q; cases q
    · rcases n.new a m with q | q
      · exact h1 q
      · rw [h] at q; cases q
    · rcases l a m with q | q
      · exact h2 q
      · rw [h] at q; cases q
  · exact .inr (h.mono n w.f)
inductive Src (K : PySem.W.Frag) (ρ B L : List Addr) (H : Hp) : It → List PV → Prop
  | lst {a : Addr} {vs : List V} {xs : List PV} : StL K ρ L H a vs → Reps K ρ B H xs vs → Src K ρ B L H (Itl K a) xs
  | tup {a : Addr} {vs : List V} {xs : List PV} : SqT K H a vs → Reps K ρ B H xs vs → Src K ρ B L H (Itt K a) xs
  | str (z : Str) : Src K ρ B L H (Its z) (z.cps.toList.map fun c => PV.str ⟨#[c]⟩)
  | rng (lo : Int) (n : Nat) : Src K ρ B L H (Itr lo n) ((List.range n).map fun (i : Nat) => PV.int (lo + i))
  | enL {a : Addr} {vs : List V} {xs : List PV} : StL K ρ L H a vs → Reps K ρ B H xs vs → Src K ρ B L H (Ite K a) (numbered 0 xs)
  | enT {a : Addr} {vs : List V} {xs : List PV} : SqT K H a vs → Reps K ρ B H xs vs → Src K ρ B L H (IteT K a) (numbered 0 xs)
theorem numbered_len : ∀ (n : Nat) (xs : List PV), (numbered n xs).length = xs.length
  | _, [] => rfl
  | n, _ :: xs => congrArg Nat.succ (numbered_len (n + 1) xs)
theorem numbered_get : ∀ (n : Nat) (xs : List PV) (i : Nat) (x : PV), xs[i]? = some x → (numbered n xs)[i]? = some (.tup [.int ((n + i : Nat) : Int), x])
  | _, [], _, _, h => by simp at h
  | n, y :: xs, 0, x, h => by
    simp at h
    subst h
    rfl
  | n, y :: xs, i + 1, x, h => by
    show (numbered (n + 1) xs)[i]? = _
    rw [numbered_get (n + 1) xs i x (by simpa using h), show n + 1 + i = n + (i + 1) by omega]
theorem io_val {br : Bool} {a : R} {xs : List PV} (e : itemsOf .val br a none = some xs) : (∃ z, a = .pv (.str z) ∧ xs = z.cps.toList.map fun c => .str ⟨#[c]⟩) ∨ a.itemsL br = some xs := by
  cases a with
  | pv v => cases v <;> first
    | exact .inr e
    | exact .inl ⟨_, rfl, (Option.some.inj e).symm⟩
  | fr o => exact .inr e
  | br o => exact .inr e
theorem io_rng1 {br : Bool} {a : R} {xs : List PV} (e : itemsOf .rng1 br a none = some xs) : ∃ n : Int, a = .pv (.int n) ∧ (-(2 ^ 62) ≤ n ∧ n < 2 ^ 62) ∧ xs = (List.range n.toNat).map fun (i : Nat) => PV.int i := by
  cases a with
  | pv v => cases v <;> first
    | (cases e; done)
    | (rename_i n
       have e : (if small 62 n = true then some ((List.range n.toNat).map fun (i : Nat) => PV.int i) else none) = some xs := e
       split at e
       · rename_i hs
         have hs := small_lt hs
         exact ⟨_, rfl, by omega, (Option.some.inj e).symm⟩
       · cases e)
  | fr o => cases e
  | br o => cases e
theorem io_rng2 {br : Bool} {a b : R} {xs : List PV} (e : itemsOf .rng2 br a (some b) = some xs) : ∃ m n : Int, a = .pv (.int m) ∧ b = .pv (.int n) ∧ (-(2 ^ 62) ≤ m ∧ m < 2 ^ 62 ∧ -(2 ^ 62) ≤ n ∧ n < 2 ^ 62) ∧ xs = (List.range (n - m).toNat).map fun (i : Nat) => PV.int (m + i) := by
  unfold itemsOf at e
  split at e <;> first
    | (cases e; done)
    | (simp only [reduceCtorEq] at *; done)
    | skip
  rename_i m n h1 h2
  split at e
  · rename_i hs
    rw [Bool.and_eq_true] at hs
    have h3 := small_lt hs.1
    have h4 := small_lt hs.2
    exact ⟨m, n, rfl, by simpa using h2, by omega, (Option.some.inj e).symm⟩
  · cases e
theorem io_enum {br : Bool} {a : R} {xs : List PV} (e : itemsOf .enum br a none = some xs) : ∃ ys, a.itemsL br = some ys ∧ xs = numbered 0 ys := by
  have e : (a.itemsL br).map (numbered 0) = some xs := by
    cases a with
    | pv v => cases v <;> exact e
    | fr o => exact e
    | br o => exact e
  obtain ⟨ys, h1, h2⟩ := Option.map_eq_some_iff.mp e
  exact ⟨ys, h1, h2.symm⟩
section
variable {K : PySem.W.Frag} {W ρ ρ' B B' L L' : List Addr} {H H' : Hp} {J : It} {items : List PV}
theorem Src.mono (n : Nx W ρ B H ρ' B' H') (w : Wr W H) (s : ∀ b ∈ W, b ∈ ρ ∨ b ∈ B ∨ H b = none) (s2 : ∀ b ∈ W, b ∈ ρ ∨ b ∈ L ∨ H b = none) (l : ∀ b ∈ L', b ∈ L ∨ H b = none) (q : Src K ρ B L H J items) : Src K ρ' B' L' H' J items := by
  cases q with
  | lst h r => exact .lst (h.mono n w s2 l) (Reps.mono n w s _ r)
  | tup h r => exact .tup (SqT.mono n w.f w.t h) (Reps.mono n w s _ r)
  | str z => exact .str z
  | rng lo n => exact .rng lo n
  | enL h r => exact .enL (h.mono n w s2 l) (Reps.mono n w s _ r)
  | enT h r => exact .enT (SqT.mono n w.f w.t h) (Reps.mono n w s _ r)
theorem Src.next {h : Hh} (n : Nx ρ ρ B H ρ' B' H') (g : GSim K ρ B h H) (q : Src K ρ B L H J items) : Src K ρ' B' L H' J items := q.mono n g.wr (fun b m => .inl m) (fun b m => .inl m) fun b m => .inl m
/-- what a turn hands on -/
def Yl (K : PySem.W.Frag) (J : It) (items : List PV) (i : Nat) (H : Hp) (x : V) (H' : Hp) : Prop :=
  ∀ ρ B L h, Src K ρ B L H J items → GSim K ρ B h H → ∃ it, items[i]? = some it ∧ Rep K ρ B H' it x ∧ GSim K ρ B h H' ∧ Nx ρ ρ B H ρ B H'
theorem Src.walk : Walk J items.length (fun H => ∃ ρ B L, Src K ρ B L H J items) (Yl K J items) where
  goes := fun i H hi ⟨ρ, B, L, q⟩ => by
    cases q with
    | lst h r => exact walk_list.goes i H (by rw [← r.length]; exact hi) h.sq
    | tup h r => exact walk_tup.goes i H (by rw [← r.length]; exact hi) h
    | str z => exact walk_str.goes i H (by simpa using hi) trivial
    | rng lo n => exact walk_range.goes i H (by simpa using hi) trivial
    | enL h r => exact walk_enum.goes i H (by rw [← r.length, ← numbered_len 0]; exact hi) h.sq
    | enT h r => exact walk_enumT.goes i H (by rw [← r.length, ← numbered_len 0]; exact hi) h
  stops := fun H ⟨ρ, B, L, q⟩ => by
    cases q with
    | lst h r => rw [r.length]; exact walk_list.stops H h.sq
    | tup h r => rw [r.length]; exact walk_tup.stops H h
    | str z =>
      have := (walk_str (z := z)).stops H trivial
      simpa using this
    | rng lo n =>
      have := (walk_range (lo := lo) (n := n)).stops H trivial
      simpa using this
    | enL h r => rw [numbered_len, r.length]; exact walk_enum.stops H h.sq
    | enT h r => rw [numbered_len, r.length]; exact walk_enumT.stops H h
  yields := fun i H x H' hi _ y => fun ρ B L h q g => by
    have same : H' = H → ∀ it, items[i]? = some it → Rep K ρ B H it x → ∃ it, items[i]? = some it ∧ Rep K ρ B H' it x ∧ GSim K ρ B h H' ∧ Nx ρ ρ B H ρ B H' := fun e it e1 r => by
      subst e
      exact ⟨it, e1, r, g, Nx.refl⟩
    have pair : ∀ (T : Addr) (n : Int) (v : V) (it : PV), x = .ref T → H T = none → H' = upd H T (.tup [.int n, v]) → Rep K ρ B H it v → items[i]? = some (.tup [.int n, it]) →
        ∃ it, items[i]? = some it ∧ Rep K ρ B H' it x ∧ GSim K ρ B h H' ∧ Nx ρ ρ B H ρ B H' := fun T n v it e1 e2 e3 r e4 => by
      subst e1 e3
      obtain ⟨g', nx⟩ := g.laid (u := .tup [.int n, v]) e2
      exact ⟨_, e4, .tup (.inl (.inl upd_same)) (.cons (.int n) (.cons (r.next nx g) .nil)), g', nx⟩
    cases q with
    | lst hs r =>
      have hi' : i < items.length := hi
      obtain ⟨e1, e2⟩ := walk_list.yields i H x H' (by rw [← r.length]; exact hi) hs.sq y
      obtain ⟨v, f1, f2⟩ := r.get (i := i) (List.getElem?_eq_getElem hi')
      rw [e2] at f1
      cases f1
      exact same e1 _ (List.getElem?_eq_getElem hi') f2
    | tup hs r =>
      have hi' : i < items.length := hi
      obtain ⟨e1, e2⟩ := walk_tup.yields i H x H' (by rw [← r.length]; exact hi) hs y
      obtain ⟨v, f1, f2⟩ := r.get (i := i) (List.getElem?_eq_getElem hi')
      rw [e2] at f1
      cases f1
      exact same e1 _ (List.getElem?_eq_getElem hi') f2
    | str z =>
      obtain ⟨e1, c, e2, rfl⟩ := walk_str.yields i H x H' (by simpa using hi) trivial y
      refine same e1 (.str ⟨#[c]⟩) ?_ (.str _)
      rw [List.getElem?_map]
      have : z.cps.toList[i]? = some c := by simpa using e2
      rw [this]
      rfl
    | rng lo n =>
      obtain ⟨e1, rfl⟩ := (walk_range (lo := lo) (n := n)).yields i H x H' (by simpa using hi) trivial y
      refine same e1 (.int (lo + (i : Nat))) ?_ (.int _)
      rw [List.getElem?_map, List.getElem?_range (by simpa using hi)]
      rfl
    | @enL a vs xs hs r =>
      have hi' : i < xs.length := by rw [← numbered_len 0]; exact hi
      obtain ⟨T, u, v, e1, e2, e3, e4, e5⟩ := walk_enum.yields i H x H' (by rw [← r.length]; exact hi') hs.sq y
      obtain ⟨v', f1, f2⟩ := r.get (i := i) (List.getElem?_eq_getElem hi')
      have e5 : vs[i]? = some v := e5
      rw [e5] at f1
      cases f1
      cases e4
      refine pair T (i : Nat) v _ e1 e2 e3 f2 ?_
      rw [numbered_get 0 xs i _ (List.getElem?_eq_getElem hi'), Nat.zero_add]
    | @enT a vs xs hs r =>
      have hi' : i < xs.length := by rw [← numbered_len 0]; exact hi
      obtain ⟨T, u, v, e1, e2, e3, e4, e5⟩ := walk_enumT.yields i H x H' (by rw [← r.length]; exact hi') hs y
      obtain ⟨v', f1, f2⟩ := r.get (i := i) (List.getElem?_eq_getElem hi')
      have e5 : vs[i]? = some v := e5
      rw [e5] at f1
      cases f1
      cases e4
      refine pair T (i : Nat) v _ e1 e2 e3 f2 ?_
      rw [numbered_get 0 xs i _ (List.getElem?_eq_getElem hi'), Nat.zero_add]
end

/-! ### what is walked -/
def tI (K : PySem.W.Frag) (C : Call) (br : Bool) (k : Ik) (a b : E) : TI := fun σ H Rr => ∃ ρ B L env h items h', GSim K ρ B h H ∧ SSim K ρ B L env σ H ∧ evi C br k a b env h = some (items, h') ∧
  ∀ ρ1 P J H1, Nx ρ ρ B H ρ1 (P ++ B) H1 → GSim K ρ1 (P ++ B) h' H1 → (∀ a ∈ P, H a = none) → Src K ρ1 (P ++ B) (if br then [] else L) H1 J items → Rr J H1
theorem piw {X : Cx} {tg e : Expr} {t t' : TI} (h : PI X tg e t) (w : ∀ σ H R, t' σ H R → t σ H R) : PI X tg e t' := ⟨fun pins s σ H R I q => h.run pins s σ H R I (w _ _ _ q)⟩
section
variable {K : PySem.W.Frag} {ρ ρ1 B B1 L : List Addr} {env : Sls} {σ : L2.St} {H H1 : Hp} {h h1 : Hh}
/-- the items of a row: it stays as it is -/
theorem items_st {br : Bool} {r : R} {x : V} {xs : List PV} (z : SSim K ρ B L env σ H) (g : GSim K ρ B h H) (n : Nx ρ ρ B H ρ1 B1 H1) (g1 : GSim K ρ1 B1 h1 H1) (q : RRep K ρ1 B1 H1 r x) (p : RPost r x B B1 H) (e : r.itemsL br = some xs) :
    (∃ a vs, x = .ref a ∧ StL K ρ1 (if br then [] else L) H1 a vs ∧ Reps K ρ1 B1 H1 xs vs) ∨ ∃ a vs, x = .ref a ∧ SqT K H1 a vs ∧ Reps K ρ1 B1 H1 xs vs := by
  unfold R.itemsL at e
  split at e
  · cases e
    cases q with
    | lst e1 e2 e3 r =>
      refine .inl ⟨_, _, rfl, .inl ⟨e1, e2, fun m => ?_⟩, r⟩
      cases br with
      | true => exact nomatch m
      | false => exact e3 (p.sup _ (z.sub _ m))
  · cases e
    cases q with
    | kl kk r => exact .inl ⟨_, _, rfl, .inr kk, r⟩
  · cases e
    cases q with
    | tup kk r => exact .inr ⟨_, _, rfl, kk, r⟩
  · cases e
    obtain ⟨a, rfl, rfl, f⟩ := p
    obtain ⟨a', ea, m, vs, e1, r⟩ := q
    injection ea with ea
    subst ea
    refine .inl ⟨a, vs, rfl, .inl ⟨e1, g1.apart m, fun m => ?_⟩, r⟩
    cases br with
    | true => exact nomatch m
    | false =>
      obtain ⟨o, e⟩ := g.live (z.sub a m)
      rw [f] at e
      cases e
  · split at e
    · rename_i hb
      cases e
      obtain ⟨a, rfl, m, vs, e1, r⟩ := q
      refine .inl ⟨a, vs, rfl, .inl ⟨e1, g1.apart m, fun m => ?_⟩, r⟩
      rw [hb] at m
      exact nomatch m
    · cases e
  · cases e
/-- a result's places, as a row -/
theorem RPost.row {r : R} {x : V} {B B1 : List Addr} {H : Hp} (p : RPost r x B B1 H) : ∃ P, B1 = P ++ B ∧ ∀ a ∈ P, H a = none := by
  cases r with
  | fr o => obtain ⟨a, _, rfl, f⟩ := p; exact ⟨[a], rfl, fun b m => by rw [List.mem_singleton.mp m]; exact f⟩
  | pv v => exact ⟨[], p, fun _ m => nomatch m⟩
  | br o => exact ⟨[], p, fun _ m => nomatch m⟩
end
section
variable {G : Gb} {k : Nat} {s : Sc} {X : Cx} {C : Call} {a b : E} {a' b' : Expr} {tg : Expr} {br : Bool} {p p2 : Pos}
theorem pi_vl (ha : PE X a' (tE X.K C a)) (hb : b.isNil = true) : PI X tg a' (tI X.K C br .val a b) := by
  refine piw (pi_any ha) fun σ H Rr ⟨ρ, B, L, env, h, items, h', g, z, ee, q⟩ => ?_
  simp only [evi, hb, if_true] at ee
  obtain ⟨⟨r1, h1⟩, e1, ee⟩ := Option.bind_eq_some_iff.mp ee
  rw [Option.bind_some] at ee
  obtain ⟨xs, e2, e3⟩ := Option.map_eq_some_iff.mp ee
  cases e3
  refine ⟨ρ, B, L, env, h, r1, _, g, z, e1, fun ρ1 B1 x H1 n1 g1 q1 p1 => ?_⟩
  obtain ⟨P, rfl, f⟩ := p1.row
  have rowc : r1.itemsL br = some items → rAnyI X.K x H1 Rr := fun e2 => by
    rcases items_st z g n1 g1 q1 p1 e2 with ⟨a, vs, rfl, s1, r⟩ | ⟨a, vs, rfl, s1, r⟩
    · exact .inl ⟨a, vs, rfl, s1.sq, q ρ1 P _ H1 n1 g1 f (.lst s1 r)⟩
    · exact .inr (.inl ⟨a, vs, rfl, s1, q ρ1 P _ H1 n1 g1 f (.tup s1 r)⟩)
  rcases io_val e2 with ⟨z, rfl, rfl⟩ | e2
  · exact .inr (.inr ⟨_, rep_str q1, q ρ1 P _ H1 n1 g1 f (.str _)⟩)
  · exact rowc e2
theorem pi_r1 (o : Ok G k s X) (hg : s.gl ("range" : Str) = true) (st : isStar a' = false) (ha : PE X a' (tE X.K C a)) (hb : b.isNil = true) : PI X tg (.Call (.Name "range" p2) [a'] [] p) (tI X.K C br .rng1 a b) := by
  refine piw (pi_range1 (o.gl hg) (o.blts _ (by decide +kernel)) (pa_cons ha pa_nil (star_one st)) (by rw [star_one st]; rfl)) fun σ H Rr ⟨ρ, B, L, env, h, items, h', g, z, ee, q⟩ => ?_
  simp only [evi, hb, if_true] at ee
  obtain ⟨⟨r1, h1⟩, e1, ee⟩ := Option.bind_eq_some_iff.mp ee
  rw [Option.bind_some] at ee
  obtain ⟨xs, e2, e3⟩ := Option.map_eq_some_iff.mp ee
  cases e3
  refine ⟨ρ, B, L, env, h, r1, _, g, z, e1, fun ρ1 B1 x H1 n1 g1 q1 p1 => ?_⟩
  obtain ⟨P, rfl, f⟩ := p1.row
  obtain ⟨n, rfl, c, rfl⟩ := io_rng1 e2
  refine ⟨n, by rw [rep_int q1], c.1, c.2, q ρ1 P _ H1 n1 g1 f ?_⟩
  have := Src.rng (K := X.K) (ρ := ρ1) (B := P ++ B) (L := if br then [] else L) (H := H1) 0 n.toNat
  simpa using this
theorem pi_r2 (o : Ok G k s X) (hg : s.gl ("range" : Str) = true) (st : isStar a' = false) (st2 : isStar b' = false) (ha : PE X a' (tE X.K C a)) (hbe : PE X b' (tE X.K C b)) (hb : b.isNil = false) : PI X tg (.Call (.Name "range" p2) [a', b'] [] p) (tI X.K C br .rng2 a b) := by
  refine piw (pi_range2 (o.gl hg) (o.blts _ (by decide +kernel)) (pa_cons ha (pa_cons hbe pa_nil (star_one st2)) (star_one st)) (by rw [star_one st, star_one st2]; rfl) (by rw [star_one st2]; rfl)) fun σ H Rr ⟨ρ, B, L, env, h, items, h', g, z, ee, q⟩ => ?_
  simp only [evi, hb, Bool.false_eq_true, if_false] at ee
  obtain ⟨⟨r1, h1⟩, e1, ee⟩ := Option.bind_eq_some_iff.mp ee
  obtain ⟨⟨r2o, h2⟩, e2, ee⟩ := Option.bind_eq_some_iff.mp ee
  obtain ⟨⟨r2, h2'⟩, e21, e22⟩ := Option.map_eq_some_iff.mp e2
  cases e22
  obtain ⟨xs, e4, e3⟩ := Option.map_eq_some_iff.mp ee
  cases e3
  refine ⟨ρ, B, L, env, h, r1, h1, g, z, e1, fun ρ1 B1 x H1 n1 g1 q1 p1 => ⟨ρ1, B1, L, env, h1, r2, _, g1, z.next n1 g p1.sup, e21, fun ρ2 B2 y H2 n2 g2 q2 p2 => ?_⟩⟩
  obtain ⟨P, rfl, f⟩ := p1.row
  obtain ⟨P2, rfl, f2⟩ := p2.row
  obtain ⟨m, n, rfl, rfl, c, rfl⟩ := io_rng2 e4
  have n12 := n1.step g1 n2
  rw [← List.append_assoc] at n12 g2
  refine ⟨m, n, by rw [rep_int q1, rep_int q2], c, q ρ2 (P2 ++ P) _ H2 n12 g2 (fun a m => ?_) (.rng _ _)⟩
  rcases List.mem_append.mp m with m | m
  · exact n1.fresh g1 (f2 a m)
  · exact f a m
theorem pi_en (o : Ok G k s X) (hg : s.gl ("enumerate" : Str) = true) (st : isStar a' = false) (ha : PE X a' (tE X.K C a)) (hb : b.isNil = true) {elts : List Expr} {kk : Nat} {p3 : Pos} : PI X (.Tuple elts kk p3) (.Call (.Name "enumerate" p2) [a'] [] p) (tI X.K C br .enum a b) := by
  refine piw (pi_enumA (o.gl hg) (o.blts _ (by decide +kernel)) (pa_cons ha pa_nil (star_one st)) (by rw [star_one st]; rfl)) fun σ H Rr ⟨ρ, B, L, env, h, items, h', g, z, ee, q⟩ => ?_
  simp only [evi, hb, if_true] at ee
  obtain ⟨⟨r1, h1⟩, e1, ee⟩ := Option.bind_eq_some_iff.mp ee
  rw [Option.bind_some] at ee
  obtain ⟨xs, e2, e3⟩ := Option.map_eq_some_iff.mp ee
  cases e3
  refine ⟨ρ, B, L, env, h, r1, _, g, z, e1, fun ρ1 B1 x H1 n1 g1 q1 p1 => ?_⟩
  obtain ⟨P, rfl, f⟩ := p1.row
  obtain ⟨ys, e6, rfl⟩ := io_enum e2
  rcases items_st z g n1 g1 q1 p1 e6 with ⟨a, vs, rfl, s1, r⟩ | ⟨a, vs, rfl, s1, r⟩
  · exact ⟨a, vs, rfl, .inl ⟨s1.sq, q ρ1 P _ H1 n1 g1 f (.enL s1 r)⟩⟩
  · exact ⟨a, vs, rfl, .inr ⟨s1, q ρ1 P _ H1 n1 g1 f (.enT s1 r)⟩⟩
end
end Ev

set_option maxRecDepth 100000
set_option maxHeartbeats 1000000
/-! EvK: comprehensions; every expression. -/
namespace Ev
open PySem PySem.Spec PyProof.Rows L2
section
variable {K : PySem.W.Frag} {ρ ρ1 B B1 L : List Addr} {env : Sls} {σ : L2.St} {H H1 : Hp} {h h1 : Hh} {D : Addr}
/-- a list or dict that somebody may write to is written to -/
theorem GSim.wr1 (g : GSim K ρ B h H) (m : D ∈ B) (hD : LD H D) {u : HO} (hu : (∃ vs, u = .lst vs) ∨ ∃ ws, u = .dK ws) : GSim K ρ B h (upd H D u) ∧ Nx [D] ρ B H ρ B (upd H D u) ∧ Wr [D] H := by
  have n : Nx [D] ρ B H ρ B (upd H D u) := ⟨⟨[], by simp⟩, fun a m => .inl m, fun a m => .inl m, fun a o e q => by rw [upd_ne (fun c => q (by rw [c]; exact List.mem_singleton_self _))]; exact e⟩
  have w : Wr [D] H := fun b q => by
    rw [List.mem_singleton.mp q]
    rcases hD with q | q
    · exact .inl q
    · exact .inr (.inl q)
  refine ⟨⟨g.nd, g.len, fun i o a e1 e2 => ?_, fun a q => ?_⟩, n, w⟩
  · exact (g.obj i o a e1 e2).mono n w (fun a q => .inr (.inl (by rw [List.mem_singleton.mp q]; exact m))) fun q => g.apart m (by rw [← List.mem_singleton.mp q]; exact List.mem_of_getElem? e2)
  · by_cases c : a = D
    · subst c
      rcases hu with ⟨vs, rfl⟩ | ⟨ws, rfl⟩
      · exact .inl ⟨vs, upd_same⟩
      · exact .inr ⟨ws, upd_same⟩
    · exact (g.own a q).keep fun o e => by rw [upd_ne c]; exact e
theorem Reps.wr1 {xs : List PV} {vs : List V} {u : HO} (m : D ∈ B) (n : Nx [D] ρ B H ρ B (upd H D u)) (w : Wr [D] H) (r : Reps K ρ B H xs vs) : Reps K ρ B (upd H D u) xs vs :=
  Reps.mono n w (fun a q => .inr (.inl (by rw [List.mem_singleton.mp q]; exact m))) xs r
/-- later, by a write to what is new since then -/
theorem Nx.wr1 {B' : List Addr} {ρ' : List Addr} {H' : Hp} {u : HO} (n : Nx ρ ρ B H ρ' B' H') (g' : GSim K ρ' B' h1 H') (e : H D = .none) (n' : Nx [D] ρ' B' H' ρ' B' (upd H' D u)) : Nx ρ ρ B H ρ' B' (upd H' D u) := by
  obtain ⟨y, q⟩ := n.pre
  exact n.trans n' (fun a m _ => g'.ne (by rw [q]; exact List.mem_append_left _ m)) fun a m => .inr (by rw [List.mem_singleton.mp m]; exact e)
end
section
variable {X : Cx} {C : Call}
/-- a comprehension's tests -/
def tC (K : PySem.W.Frag) (C : Call) (cd : E) : TT := if cd.isNil then tYes else tT K C cd
theorem lc_sim {own : List Nat} {elt a b cd : E} {tg : Tg} {kk : Ik} {K : PySem.W.Frag} (hw : tg.within own = true) {σ : L2.St} {H : Hp} {Q : VK} (q : tE K C (.lc own elt tg kk a b cd) σ H Q) :
    tLc (tI K C true kk a b) (gT K tg) (tC K C cd) (tE K C elt) own σ H Q := by
  obtain ⟨ρ, B, L, env, h, r, h', g, z, ee, q⟩ := q
  simp only [ev] at ee
  obtain ⟨⟨r1, h1⟩, e1, ee⟩ := Option.bind_eq_some_iff.mp ee
  obtain ⟨⟨r2, h2⟩, e2, ee⟩ := Option.bind_eq_some_iff.mp ee
  obtain ⟨items, e3, ee⟩ := Option.bind_eq_some_iff.mp ee
  obtain ⟨⟨res, h3⟩, e4, ee⟩ := Option.bind_eq_some_iff.mp ee
  split at ee
  case isFalse => cases ee
  rename_i hlim
  obtain ⟨rfl, eb⟩ := Prod.mk.inj (Option.some.inj ee)
  have eb : h3 = h' := eb
  subst eb
  refine ⟨ρ, B, L, env, h, items, h2, g, z, ?_, fun ρ1 P J H1 n1 g1 f1 src D hD => ?_⟩
  · simp only [evi, e1, Option.bind_some, e2, e3, Option.map_some]
  simp only [if_true] at src
  generalize hB : P ++ B = B1 at n1 g1 src
  have slB : B.Sublist B1 := by rw [← hB]; exact List.sublist_append_right _ _
  generalize hf : (fun (x : PV) (h1 : Hh) => (asg tg x (wipeE env own)).bind fun env1 =>
        (if cd.isNil then some (true, h1) else (ev C cd env1 h1).bind fun y => (y.1.tru y.2).map fun t => (t, y.2)).bind fun q =>
          if q.1 then (ev C elt env1 q.2).bind fun z => z.1.give.map fun y => (some y, z.2) else some (none, q.2)) = f at e4
  let Pv : Nat → Hp → Prop := fun i H2 => ∃ ρi hi acc accV xs', Nx ρ1 ρ1 B1 H1 ρi (D :: B1) H2 ∧ GSim K ρi (D :: B1) hi H2 ∧ H2 D = some (.lst accV) ∧ Reps K ρi (D :: B1) H2 acc accV ∧ turns f (items.drop i) hi = some (xs', h3) ∧ acc ++ xs' = res
  refine lc_it Src.walk Pv ?_ (fun i H2 _ ⟨ρi, hi, acc, accV, xs', n, _⟩ => ⟨ρi, D :: B1, [], src.next n g1⟩) ?_ ?_
  · -- at first
    have n0 : Nx ρ1 ρ1 B1 H1 ρ1 (D :: B1) (upd H1 D (.lst [])) := ⟨⟨[], by simp⟩, fun a m => .inl m, fun a m => by
      rcases List.mem_cons.mp m with c | c
      · subst c; exact .inr hD
      · exact .inl c, fun a o e _ => by
      rw [upd_ne (fun c => by subst c; rw [hD] at e; cases e)]; exact e⟩
    refine ⟨ρ1, h2, [], [], res, n0, ⟨?_, g1.len, fun i o a e1 e2 => (g1.obj i o a e1 e2).mono (W := []) ⟨n0.pre, n0.new, n0.newB, fun a o e _ => ?_⟩ (fun _ m => nomatch m) (fun _ m => nomatch m) (fun m => nomatch m), fun a m => ?_⟩, upd_same, .nil, e4, rfl⟩
    · have nd := g1.nd
      rw [List.nodup_append] at nd ⊢
      refine ⟨nd.1, List.nodup_cons.mpr ⟨fun m => ?_, nd.2.1⟩, fun a m b m' => ?_⟩
      · obtain ⟨o, e⟩ := g1.live m
        rw [hD] at e; cases e
      · rcases List.mem_cons.mp m' with c | c
        · subst c
          exact fun c => by subst c; exact g1.ne m hD
        · exact nd.2.2 a m b c
    · rw [upd_ne (fun c => by subst c; rw [hD] at e; cases e)]; exact e
    · rcases List.mem_cons.mp m with c | c
      · subst c; exact .inl ⟨_, upd_same⟩
      · exact (g1.own a c).keep fun o e => by rw [upd_ne (fun c => by subst c; rw [hD] at e; cases e)]; exact e
  · -- a turn
    intro i x H2 H2' hi ⟨ρi, hi', acc, accV, xs', n, gi, eD, racc, et, er⟩ y
    have fD : H1 D = none := hD
    obtain ⟨it, ei, ri, g2, n2⟩ := y ρi (D :: B1) [] hi' (src.next n g1) gi
    have ht : items.drop i = it :: items.drop (i + 1) := by
      rw [List.drop_eq_getElem_cons hi]
      congr 1
      rw [List.getElem?_eq_getElem hi] at ei
      exact Option.some.inj ei
    rw [ht, turns] at et
    obtain ⟨⟨yv, h4⟩, et1, et⟩ := Option.bind_eq_some_iff.mp et
    obtain ⟨⟨ys, h5⟩, et2, et⟩ := Option.map_eq_some_iff.mp et
    cases et
    rw [← hf] at et1
    simp only at et1
    obtain ⟨env1, ea, et1⟩ := Option.bind_eq_some_iff.mp et1
    have n12 := n.step gi n2
    have zz : SSim K ρi (D :: B1) L (wipeE env own) (L2.wipe σ own) H2' := ((z.next n1 g (fun a m => slB.subset m)).next n12 g1 (fun a m => List.mem_cons_of_mem _ m)).wipe own
    refine asg_ok tg zz ea ri fun σ2 z2 w2 => ⟨by rw [w2 own hw, wipe_wipe], ?_⟩
    -- the test
    obtain ⟨⟨tb, h6⟩, ec, et1⟩ := Option.bind_eq_some_iff.mp et1
    have racc2 : Reps K ρi (D :: B1) H2' acc accV := racc.next n2 gi
    have rest : ∀ ρ3 H3, Nx ρi ρi (D :: B1) H2' ρ3 (D :: B1) H3 → GSim K ρ3 (D :: B1) h6 H3 → (if tb = true then tE K C elt σ2 H3 fun y H4 => ∃ acc, H4 D = some (.lst acc) ∧ acc.length < sizeLine ∧ Pv (i + 1) (upd H4 D (.lst (acc ++ [y]))) else Pv (i + 1) H3) := fun ρ3 H3 n3 g3 => by
      have eD2 : H2' D = some (.lst accV) := n2.ext D _ eD (gi.apart List.mem_cons_self)
      have eD3 : H3 D = some (.lst accV) := n3.ext D _ eD2 (g2.apart List.mem_cons_self)
      have n13 := n12.step g2 n3
      have racc3 := racc2.next n3 g2
      cases tb with
      | false =>
        simp only [Bool.false_eq_true, if_false, Option.some.injEq, Prod.mk.injEq] at et1
        obtain ⟨rfl, rfl⟩ := et1
        rw [if_neg Bool.false_ne_true]
        exact ⟨ρ3, h6, acc, accV, ys, n13, g3, eD3, racc3, et2, by simpa using er⟩
      | true =>
        simp only [if_true] at et1
        obtain ⟨⟨re, h7⟩, ee1, et1⟩ := Option.bind_eq_some_iff.mp et1
        obtain ⟨v, eg, et1⟩ := Option.map_eq_some_iff.mp et1
        cases et1
        rw [if_pos rfl]
        refine ⟨ρ3, D :: B1, L, env1, h6, re, _, g3, z2.nxt g2 n3, ee1, fun ρ4 B4 x4 H4 n4 g4 q4 p4 => ?_⟩
        have r4 := give_rep g4 q4 p4 eg
        obtain ⟨n4', g4'⟩ := drp n4 g4 p4
        have eD4 : H4 D = some (.lst accV) := n4'.ext D _ eD3 (g3.apart List.mem_cons_self)
        have racc4 := racc3.next n4' g3
        have n14 := n13.step g3 n4'
        have hl : accV.length < sizeLine := by
          rw [← racc4.length]
          have : res.length ≤ sizeLine := le_lim hlim
          rw [← er] at this
          simp at this
          omega
        refine ⟨accV, eD4, hl, ?_⟩
        obtain ⟨g5, n5, w5⟩ := g4'.wr1 (u := .lst (accV ++ [x4])) List.mem_cons_self (.inl ⟨_, eD4⟩) (.inl ⟨_, rfl⟩)
        exact ⟨ρ4, _, acc ++ [v], accV ++ [x4], ys, n14.wr1 g4' fD n5, g5, upd_same, (racc4.wr1 List.mem_cons_self n5 w5).snoc (by
          have := Reps.wr1 List.mem_cons_self n5 w5 (.cons r4 .nil)
          cases this; assumption), et2, by simpa using er⟩
    unfold tC
    cases hn : cd.isNil with
    | true =>
      rw [hn, if_pos rfl] at ec
      cases ec
      rw [if_pos rfl]
      exact rest ρi H2' Nx.refl g2
    | false =>
      rw [hn, if_neg Bool.false_ne_true] at ec
      rw [if_neg Bool.false_ne_true]
      exact ⟨ρi, D :: B1, L, env1, _, tb, h6, g2, z2, ec, fun ρ3 H3 n3 g3 => rest ρ3 H3 n3 g3⟩
  · intro H2 ⟨ρi, hi', acc, accV, xs', n, gi, eD, racc, et, er⟩
    rw [List.drop_length, turns] at et
    cases et
    rw [List.append_nil] at er
    subst er
    have s2 : (D :: B).Sublist (D :: B1) := slB.cons_cons _
    have n3 := n1.step g1 n
    exact q ρi (D :: B) _ H2 (n3.to fun a m => s2.subset m) (gi.drop s2) ⟨D, rfl, List.mem_cons_self, accV, eD, racc.drop fun a m => s2.subset m⟩ ⟨D, rfl, rfl, n1.fresh g1 hD⟩
end
end Ev

set_option maxRecDepth 100000
set_option maxHeartbeats 2000000
/-! EvL: every expression that the check lets through. -/
namespace Ev
open PySem PySem.Spec PyProof.Rows L2
structure Sd (G : Gb) (k : Nat) (e : E) : Prop where
  one : ∀ {s : Sc} {X : Cx}, Ok G k s X → ∀ e', chkE G e s e' = true → PE X e' (tE X.K (callK G.ds k) e) ∧ PT X e' (tT X.K (callK G.ds k) e)
  row : ∀ {s : Sc} {X : Cx}, Ok G k s X → ∀ es', chkEs G e s es' = true → PA X es' (tA X.K (callK G.ds k) e) ∧ PA X es' (tR X.K (callK G.ds k) e)
theorem both {X : Cx} {C : Call} {e : E} {e' : Expr} (ho : isOddT e' = false) (he : PE X e' (tE X.K C e)) : PE X e' (tE X.K C e) ∧ PT X e' (tT X.K C e) := ⟨he, pt_of ho he⟩
theorem own_snd {N : List Str} {own : List Nat} : (own.map fun i => (N.getD i ("" : Str), i)).map (·.2) = own := by
  rw [List.map_map]
  show own.map (fun i => i) = own
  simp
/-- what a comprehension's check tells -/
theorem lc_parts {G : Gb} {k : Nat} {s : Sc} {X : Cx} (o : Ok G k s X) {own : List Nat} {elt a b cd : E} {tg : Tg} {kk : Ik} {e' : Expr} (helt : Sd G k elt) (iha : Sd G k a) (ihb : Sd G k b) (hcd : Sd G k cd)
    (h : chkE G (.lc own elt tg kk a b cd) s e' = true) : ∃ elt' tg' it' ifs' scope p, e' = .ListComp elt' [⟨tg', it', ifs', 0⟩] scope p ∧ tg.within own = true ∧
      PI X tg' it' (tI X.K (callK G.ds k) true kk a b) ∧ BlkOk X.N X.env.scope scope (own.map fun i => (s.N.getD i ("" : Str), i)) ∧
      (∀ sh H C cl fp, PG (X.blk sh H scope (compEnvC scope cl C X.env) fp) tg' (gT X.K tg)) ∧ (∀ sh H C cl fp, PTs (X.blk sh H scope (compEnvC scope cl C X.env) fp) ifs' (tC X.K (callK G.ds k) cd)) ∧
      (∀ sh H C cl fp, PE (X.blk sh H scope (compEnvC scope cl C X.env) fp) elt' (tE X.K (callK G.ds k) elt)) ∧ (∀ x, foldedSetIterable it' X.env x = pure x) := by
  simp only [chkE] at h
  split at h
  case h_2 => cases h
  rename_i elt' tg' it' ifs' scope p
  simp only [Bool.and_eq_true] at h
  obtain ⟨⟨⟨⟨⟨⟨h1, h2⟩, h3⟩, h4⟩, h5⟩, h6⟩, h7⟩ := h
  refine ⟨elt', tg', it', ifs', scope, p, rfl, h3, ?_, ?_, fun sh H C cl fp => tgt_ok (o.blk sh H scope C cl fp) tg h2, fun sh H C cl fp => ?_, fun sh H C cl fp => (helt.one (o.blk sh H scope C cl fp) elt' h4).1, fold_no (by simpa using h5)⟩
  · cases kk with
    | val =>
      simp only [Bool.and_eq_true] at h7
      exact pi_vl (iha.one o _ h7.2).1 h7.1
    | rng1 =>
      simp only [Bool.and_eq_true] at h7
      obtain ⟨h7, h8⟩ := h7
      split at h8
      · simp only [Bool.and_eq_true, decide_eq_true_eq, Bool.not_eq_true'] at h8
        obtain ⟨⟨⟨h8, h9⟩, h10⟩, h11⟩ := h8
        subst h8
        exact pi_r1 o h9 h10 (iha.one o _ h11).1 h7
      · cases h8
    | rng2 =>
      simp only [Bool.and_eq_true] at h7
      obtain ⟨h7, h8⟩ := h7
      split at h8
      · simp only [Bool.and_eq_true, decide_eq_true_eq, Bool.not_eq_true'] at h8
        obtain ⟨⟨⟨⟨⟨h8, h9⟩, h10⟩, h11⟩, h12⟩, h13⟩ := h8
        subst h8
        exact pi_r2 o h9 h10 h11 (iha.one o _ h12).1 (ihb.one o _ h13).1 (by simpa using h7)
      · cases h8
    | enum =>
      simp only [Bool.and_eq_true] at h7
      obtain ⟨⟨h7, h8⟩, h9⟩ := h7
      split at h9
      · simp only [Bool.and_eq_true, decide_eq_true_eq, Bool.not_eq_true'] at h9
        obtain ⟨⟨⟨h9, h10⟩, h11⟩, h12⟩ := h9
        subst h9
        split at h8
        · exact pi_en o h10 h11 (iha.one o _ h12).1 h7
        · cases h8
      · cases h9
    | zip => cases h7
  · rw [o.N, o.sc]
    exact blkOk_by h1
  · unfold tC
    split at h6
    · rw [h6, if_pos rfl]
      exact pts_nil
    · rw [Bool.and_eq_true] at h6
      rw [if_neg (by simpa using h6.1)]
      exact pts_one (hcd.one (o.blk sh H scope C cl fp) _ h6.2).2
    · cases h6
theorem snd (G : Gb) (k : Nat) : ∀ e : E, Sd G k e := fun e => by
  induction e with
  | con v =>
    refine ⟨fun o e' h => ?_, fun o es h => by simp [chkEs] at h⟩
    cases e' <;> simp only [chkE, Bool.false_eq_true] at h
    exact both rfl (pe_con h)
  | var i =>
    refine ⟨fun o e' h => ?_, fun o es h => by simp [chkEs] at h⟩
    cases e' <;> simp only [chkE, Bool.false_eq_true, Bool.and_eq_true, decide_eq_true_eq] at h
    exact both rfl (pe_vr o h.1.1 h.1.2 h.2)
  | glob x v =>
    refine ⟨fun o e' h => ?_, fun o es h => by simp [chkEs] at h⟩
    cases e' <;> simp only [chkE, Bool.false_eq_true, Bool.and_eq_true] at h
    obtain ⟨⟨⟨h1, h2⟩, h3⟩, h4⟩ := h
    rw [decide_eq_true_eq] at h1
    subst h1
    exact both rfl (pe_glb o h2 h3 h4)
  | tup es ih =>
    refine ⟨fun o e' h => ?_, fun o es h => by simp [chkEs] at h⟩
    cases e' <;> simp only [chkE, Bool.false_eq_true] at h
    exact both rfl (pe_tpl (ih.row o _ h).1)
  | lst es ih =>
    refine ⟨fun o e' h => ?_, fun o es h => by simp [chkEs] at h⟩
    cases e' <;> simp only [chkE, Bool.false_eq_true] at h
    exact both rfl (pe_lss (ih.row o _ h).1)
  | nil =>
    refine ⟨fun o e' h => by simp [chkE] at h, fun o es h => ?_⟩
    cases es <;> simp only [chkEs, Bool.false_eq_true] at h
    exact ⟨pa_n, pr_n⟩
  | cons e es ih1 ih2 =>
    refine ⟨fun o e' h => by simp [chkE] at h, fun o es h => ?_⟩
    cases es <;> simp only [chkEs, Bool.false_eq_true, Bool.and_eq_true] at h
    obtain ⟨⟨h1, h2⟩, h3⟩ := h
    have st := (Bool.not_eq_true' _).mp h1
    exact ⟨pa_c st (ih1.one o _ h2).1 (ih2.row o _ h3).1, pr_c st (ih1.one o _ h2).1 (ih2.row o _ h3).2⟩
  | bin op a b iha ihb =>
    refine ⟨fun o e' h => ?_, fun o es h => by simp [chkEs] at h⟩
    cases e' <;> simp only [chkE, Bool.false_eq_true, Bool.and_eq_true, decide_eq_true_eq] at h
    obtain ⟨⟨rfl, h2⟩, h3⟩ := h
    exact both rfl (pe_bin (iha.one o _ h2).1 (ihb.one o _ h3).1)
  | neg a iha =>
    refine ⟨fun o e' h => ?_, fun o es h => by simp [chkEs] at h⟩
    simp only [chkE] at h
    split at h
    · exact both rfl (pe_ng (iha.one o _ h).1)
    · cases h
  | cmp op a b iha ihb =>
    refine ⟨fun o e' h => ?_, fun o es h => by simp [chkEs] at h⟩
    simp only [chkE] at h
    split at h
    · simp only [Bool.and_eq_true, decide_eq_true_eq, Bool.not_eq_true'] at h
      obtain ⟨⟨⟨rfl, h1⟩, h2⟩, h3⟩ := h
      exact pe_cm o h1 (iha.one o _ h2).1 (ihb.one o _ h3).1
    · cases h
  | chain op op' a b c iha ihb ihc =>
    refine ⟨fun o e' h => ?_, fun o es h => by simp [chkEs] at h⟩
    simp only [chkE] at h
    split at h
    · simp only [Bool.and_eq_true, decide_eq_true_eq, Bool.not_eq_true'] at h
      obtain ⟨⟨⟨⟨⟨rfl, rfl⟩, h1⟩, h2⟩, h3⟩, h4⟩ := h
      exact pe_ch o h1 (iha.one o _ h2).1 (ihb.one o _ h3).1 (ihc.one o _ h4).1
    · cases h
  | isN n a iha =>
    refine ⟨fun o e' h => ?_, fun o es h => by simp [chkEs] at h⟩
    simp only [chkE] at h
    split at h
    · simp only [Bool.and_eq_true, decide_eq_true_eq] at h
      exact pe_isn h.1 (iha.one o _ h.2).1
    · cases h
  | not a iha =>
    refine ⟨fun o e' h => ?_, fun o es h => by simp [chkEs] at h⟩
    simp only [chkE] at h
    split at h
    · exact pe_nt (iha.one o _ h).1 (iha.one o _ h).2
    · cases h
  | and a b iha ihb =>
    refine ⟨fun o e' h => ?_, fun o es h => by simp [chkEs] at h⟩
    simp only [chkE] at h
    split at h
    · rw [Bool.and_eq_true] at h
      exact pe_an (iha.one o _ h.1).1 (iha.one o _ h.1).2 (ihb.one o _ h.2).1 (ihb.one o _ h.2).2
    · cases h
  | or a b iha ihb =>
    refine ⟨fun o e' h => ?_, fun o es h => by simp [chkEs] at h⟩
    simp only [chkE] at h
    split at h
    · rw [Bool.and_eq_true] at h
      exact pe_orr (iha.one o _ h.1).1 (iha.one o _ h.1).2 (ihb.one o _ h.2).1 (ihb.one o _ h.2).2
    · cases h
  | ife t a b iht iha ihb =>
    refine ⟨fun o e' h => ?_, fun o es h => by simp [chkEs] at h⟩
    cases e' <;> simp only [chkE, Bool.false_eq_true, Bool.and_eq_true] at h
    exact pe_if (iht.one o _ h.1.1).2 (iha.one o _ h.1.2).1 (ihb.one o _ h.2).1 (iha.one o _ h.1.2).2 (ihb.one o _ h.2).2
  | idx a b iha ihb =>
    refine ⟨fun o e' h => ?_, fun o es h => by simp [chkEs] at h⟩
    cases e' <;> simp only [chkE, Bool.false_eq_true, Bool.and_eq_true, Bool.not_eq_true'] at h
    exact both rfl (pe_ixx o h.1.1 (iha.one o _ h.1.2).1 (ihb.one o _ h.2).1)
  | slc a lo hi iha ihl ihh =>
    refine ⟨fun o e' h => ?_, fun o es h => by simp [chkEs] at h⟩
    simp only [chkE] at h
    split at h
    · rename_i lo' hi' _ _
      rw [Bool.and_eq_true, Bool.and_eq_true] at h
      refine both rfl (pe_sl (iha.one o _ h.1.1).1 (po_pt ?_) (po_pt ?_))
      · have h := h.1.2
        cases lo' with
        | none => exact .inl ⟨rfl, h⟩
        | some x =>
          simp only [Bool.and_eq_true, Bool.not_eq_true'] at h
          exact .inr ⟨x, rfl, h.1, (ihl.one o _ h.2).1⟩
      · have h := h.2
        cases hi' with
        | none => exact .inl ⟨rfl, h⟩
        | some x =>
          simp only [Bool.and_eq_true, Bool.not_eq_true'] at h
          exact .inr ⟨x, rfl, h.1, (ihh.one o _ h.2).1⟩
    · cases h
  | rev a iha =>
    refine ⟨fun o e' h => ?_, fun o es h => by simp [chkEs] at h⟩
    simp only [chkE] at h
    split at h
    · exact both rfl (pe_rv (iha.one o _ h).1)
    · cases h
  | call f es ih =>
    refine ⟨fun o e' h => ?_, fun o es h => by simp [chkEs] at h⟩
    simp only [chkE] at h
    split at h
    · simp only [Bool.and_eq_true] at h
      obtain ⟨⟨⟨h1, h2⟩, h3⟩, h4⟩ := h
      split at h1
      · exact both rfl (pe_cl o (by assumption) (by simpa using h1) h2 h3 h4 (ih.row o _ h4).1)
      · cases h1
    · cases h
  | blt b es ih =>
    refine ⟨fun o e' h => ?_, fun o es h => by simp [chkEs] at h⟩
    simp only [chkE] at h
    split at h
    · simp only [Bool.and_eq_true, decide_eq_true_eq, Bool.not_eq_true'] at h
      obtain ⟨⟨⟨h1, h2⟩, h3⟩, h4⟩ := h
      subst h1
      rename_i es' _
      cases es' with
      | nil => cases h3
      | cons e1 es1 => exact both rfl (pe_bl o h2 h4 (ih.row o _ h4).2)
    · cases h
  | mth m oe es iho ih =>
    refine ⟨fun o e' h => ?_, fun o es h => by simp [chkEs] at h⟩
    simp only [chkE] at h
    split at h
    · simp only [Bool.and_eq_true, decide_eq_true_eq, Bool.not_eq_true'] at h
      obtain ⟨⟨⟨⟨⟨⟨h1, h2⟩, h3⟩, h4⟩, h5⟩, h6⟩, h7⟩ := h
      subst h1
      rename_i es' _
      cases es' with
      | nil => cases h4
      | cons e1 es1 => exact both rfl (pe_mt o h2 h3 h5 h7 (iho.one o _ h6).1 (ih.row o _ h7).2)
    · cases h
  | isin a t iha => exact ⟨fun o e' h => by simp [chkE] at h, fun o es h => by simp [chkEs] at h⟩
  | setlen a iha =>
    refine ⟨fun o e' h => ?_, fun o es h => by simp [chkEs] at h⟩
    simp only [chkE] at h
    split at h
    · simp only [Bool.and_eq_true, decide_eq_true_eq, Bool.not_eq_true'] at h
      obtain ⟨⟨⟨⟨⟨h1, h2⟩, h3⟩, h4⟩, h5⟩, h6⟩ := h
      subst h1 h2
      exact both rfl (pe_sln o h3 h4 h5 (iha.one o _ h6).1)
    · cases h
  | lc own elt tg kk a b cd ihe iha ihb ihc =>
    refine ⟨fun o e' h => ?_, fun o es h => by simp [chkEs] at h⟩
    obtain ⟨elt', tg', it', ifs', scope, p, rfl, h1, h2, h3, h4, h5, h6, h7⟩ := lc_parts o ihe iha ihb ihc h
    have key := pe_lc (pos := p) o.calm (by rw [o.N]; exact o.nd) h2 h3 h4 h5 h6 h7
    rw [own_snd] at key
    exact both rfl (pew key fun σ H Q q => lc_sim h1 q)
end Ev

set_option maxRecDepth 100000
set_option maxHeartbeats 2000000
/-! EvM: a def's run, moment by moment. -/
namespace Ev
open PySem PySem.Spec PyProof.Rows L2
/-- from one moment of a def's run to a later one; L: the slots' own objects -/
structure Sx (ρ L : List Addr) (H : Hp) (ρ' L' : List Addr) (H' : Hp) : Prop where
  pre : ∃ news, ρ' = ρ ++ news
  new : ∀ a ∈ ρ', a ∈ ρ ∨ a ∈ L ∨ H a = none
  newL : ∀ a ∈ L', a ∈ L ∨ H a = none
  ext : ∀ a o, H a = some o → a ∉ ρ → a ∉ L → H' a = some o
structure Stt (K : PySem.W.Frag) (ρ L B0 : List Addr) (env : Sls) (h : Hh) (σ : L2.St) (H : Hp) : Prop where
  g : GSim K ρ (L ++ B0) h H
  z : SSim K ρ (L ++ B0) L env σ H
section
variable {K : PySem.W.Frag} {W ρ ρ1 ρ2 ρ' B B' L L' L1 L2' B0 : List Addr} {H H1 H2 H' : Hp} {h h' h1 : Hh} {env : Sls} {σ : L2.St} {D : Addr}
theorem Sx.refl : Sx ρ L H ρ L H := ⟨⟨[], by simp⟩, fun a m => .inl m, fun a m => .inl m, fun a o e _ _ => e⟩
theorem Sx.trans (x : Sx ρ L H ρ1 L1 H1) (g : GSim K ρ1 B h1 H1) (y : Sx ρ1 L1 H1 ρ2 L2' H2) : Sx ρ L H ρ2 L2' H2 := by
  have back : ∀ a, H1 a = none → a ∈ L ∨ H a = none := fun a e => by
    by_cases c : a ∈ ρ
    · obtain ⟨u, q⟩ := x.pre
      exact absurd e (g.ne (by rw [q]; exact List.mem_append_left _ c))
    · by_cases c2 : a ∈ L
      · exact .inl c2
      · cases q : H a with
        | none => exact .inr rfl
        | some o => rw [x.ext a o q c c2] at e; cases e
  refine ⟨?_, fun a m => ?_, fun a m => ?_, fun a o e c c2 => ?_⟩
  · obtain ⟨u, e⟩ := x.pre
    obtain ⟨v, e'⟩ := y.pre
    exact ⟨u ++ v, by rw [e', e, List.append_assoc]⟩
  · rcases y.new a m with q | q | q
    · exact x.new a q
    · exact .inr (x.newL a q)
    · exact .inr (back a q)
  · rcases y.newL a m with q | q
    · exact x.newL a q
    · exact back a q
  · refine y.ext a o (x.ext a o e c c2) (fun m => ?_) fun m => ?_
    · rcases x.new a m with q | q | q
      · exact c q
      · exact c2 q
      · rw [e] at q; cases q
    · rcases x.newL a m with q | q
      · exact c2 q
      · rw [e] at q; cases q
/-- an expression's steps -/
theorem Sx.of (n : Nx ρ ρ B H ρ' B' H') (l : ∀ a ∈ L', a ∈ L ∨ H a = none) : Sx ρ L H ρ' L' H' :=
  ⟨n.pre, fun a m => (n.new a m).elim .inl fun q => .inr (.inr q), l, fun a o e c _ => n.ext a o e c⟩
theorem Stt.wr (s : Stt K ρ L B0 env h σ H) {a : Addr} (m : a ∈ ρ ∨ a ∈ L) : LD H a := by
  rcases m with m | m
  · exact s.g.at m
  · exact s.g.own a (List.mem_append_left _ m)
theorem LD.nf {o : Obj} {u : HO} {a : Addr} (l : LD H a) (e : H a = some (.frz o u)) : False := by
  rcases l with ⟨_, q⟩ | ⟨_, q⟩ <;> (rw [e] at q; cases q)
theorem LD.nt {vs : List V} {a : Addr} (l : LD H a) (e : H a = some (.tup vs)) : False := by
  rcases l with ⟨_, q⟩ | ⟨_, q⟩ <;> (rw [e] at q; cases q)
theorem KL.sx {a : Addr} {vs : List V} (x : Sx ρ L H ρ' L' H') (w : ∀ a, a ∈ ρ ∨ a ∈ L → LD H a) (k : KL K H a vs) : KL K H' a vs := by
  rcases k with ⟨o, k⟩ | k
  · exact .inl ⟨o, x.ext a _ k (fun m => (w a (.inl m)).nf k) fun m => (w a (.inr m)).nf k⟩
  · exact .inr k
theorem SqT.sx {a : Addr} {vs : List V} (x : Sx ρ L H ρ' L' H') (w : ∀ a, a ∈ ρ ∨ a ∈ L → LD H a) (k : SqT K H a vs) : SqT K H' a vs := by
  rcases k with (k | ⟨o, k⟩) | k
  · exact .inl (.inl (x.ext a _ k (fun m => (w a (.inl m)).nt k) fun m => (w a (.inr m)).nt k))
  · exact .inl (.inr ⟨o, x.ext a _ k (fun m => (w a (.inl m)).nf k) fun m => (w a (.inr m)).nf k⟩)
  · exact .inr k
mutual
theorem Rep.sx (x : Sx ρ L H ρ' L' H') (w : ∀ a, a ∈ ρ ∨ a ∈ L → LD H a) : ∀ (v : PV) {y : V}, Rep K ρ (L ++ B0) H v y → Rep K ρ' (L' ++ B0) H' v y
  | .non, _, .non => .non
  | .bl _, _, .bl b => .bl b
  | .int _, _, .int i => .int i
  | .str _, _, .str z => .str z
  | .lst xs, _, .lst (a := a) e h1 h2 r => by
    have nL : a ∉ L := fun m => h2 (List.mem_append_left _ m)
    refine .lst (x.ext a _ e h1 nL) (fun m => ?_) (fun m => ?_) (Reps.sx x w xs r)
    · rcases x.new a m with q | q | q
      · exact h1 q
      · exact nL q
      · rw [e] at q; cases q
    · rcases List.mem_append.mp m with m | m
      · rcases x.newL a m with q | q
        · exact nL q
        · rw [e] at q; cases q
      · exact h2 (List.mem_append_right _ m)
  | .kl xs, _, .kl k r => .kl (k.sx x w) (Reps.sx x w xs r)
  | .tup xs, _, .tup k r => .tup (SqT.sx x w k) (Reps.sx x w xs r)
  | .ref _, _, .ref e => by
    obtain ⟨y, q⟩ := x.pre
    refine .ref ?_
    rw [q, List.getElem?_append_left (List.getElem?_eq_some_iff.mp e).1]
    exact e
theorem Reps.sx (x : Sx ρ L H ρ' L' H') (w : ∀ a, a ∈ ρ ∨ a ∈ L → LD H a) : ∀ (xs : List PV) {vs : List V}, Reps K ρ (L ++ B0) H xs vs → Reps K ρ' (L' ++ B0) H' xs vs
  | [], _, .nil => .nil
  | v :: xs, _, .cons r t => .cons (Rep.sx x w v r) (Reps.sx x w xs t)
end
theorem StL.sx {a : Addr} {vs : List V} (x : Sx ρ L H ρ' L' H') (w : ∀ a, a ∈ ρ ∨ a ∈ L → LD H a) (k : StL K ρ L H a vs) : StL K ρ' L' H' a vs := by
  rcases k with ⟨e, h1, nL⟩ | k
  · refine .inl ⟨x.ext a _ e h1 nL, fun m => ?_, fun m => ?_⟩
    · rcases x.new a m with q | q | q
      · exact h1 q
      · exact nL q
      · rw [e] at q; cases q
    · rcases x.newL a m with q | q
      · exact nL q
      · rw [e] at q; cases q
  · exact .inr (k.sx x w)
theorem Src.sx {J : It} {items : List PV} (x : Sx ρ L H ρ' L' H') (w : ∀ a, a ∈ ρ ∨ a ∈ L → LD H a) (q : Src K ρ (L ++ B0) L H J items) : Src K ρ' (L' ++ B0) L' H' J items := by
  cases q with
  | lst h r => exact .lst (h.sx x w) (Reps.sx x w _ r)
  | tup h r => exact .tup (SqT.sx x w h) (Reps.sx x w _ r)
  | str z => exact .str z
  | rng lo n => exact .rng lo n
  | enL h r => exact .enL (h.sx x w) (Reps.sx x w _ r)
  | enT h r => exact .enT (SqT.sx x w h) (Reps.sx x w _ r)
/-! ### a slot takes a new object -/
theorem SSim.putG {i : Nat} {o : Ob} {a : Addr} (z : SSim K ρ B L env σ H) (hi : i < env.length) (r : ORep K ρ B H o a) (mL : a ∈ L') (s1 : ∀ b ∈ L, b ∈ L') (s2 : ∀ b ∈ L', b ∈ B) (n : ∀ (j : Nat) (ob : Ob), env[j]? = some (.ow ob) → σ[j]? ≠ some (some (.ref a))) :
    SSim K ρ B L' (env.set i (.ow o)) (σ.set i (some (.ref a))) H := by
  have hi' : i < σ.length := by rw [z.len]; exact hi
  have key : ∀ j, j ≠ i → (env.set i (.ow o))[j]? = env[j]? ∧ (σ.set i (some (.ref a)))[j]? = σ[j]? := fun j ne => ⟨List.getElem?_set_ne (Ne.symm ne), List.getElem?_set_ne (Ne.symm ne)⟩
  refine ⟨by simp [z.len], s2, fun j u e => ?_, fun j ob e => ?_, fun j j' b ob ob' e1 e2 e3 e4 => ?_⟩
  · by_cases c : j = i
    · subst c
      rw [List.getElem?_set_self hi] at e
      cases e
    · rw [(key j c).1] at e
      rw [(key j c).2]
      exact z.sh j u e
  · by_cases c : j = i
    · subst c
      rw [List.getElem?_set_self hi] at e
      cases e
      exact ⟨a, List.getElem?_set_self hi', mL, r⟩
    · rw [(key j c).1] at e
      rw [(key j c).2]
      obtain ⟨b, e1, m1, r1⟩ := z.ow j ob e
      exact ⟨b, e1, s1 b m1, r1⟩
  · by_cases c : j = i
    · by_cases c' : j' = i
      · rw [c, c']
      · subst c
        rw [List.getElem?_set_self hi'] at e3
        rw [(key j' c').1] at e2
        rw [(key j' c').2] at e4
        cases e3
        exact absurd e4 (n j' ob' e2)
    · by_cases c' : j' = i
      · subst c'
        rw [List.getElem?_set_self hi'] at e4
        rw [(key j c).1] at e1
        rw [(key j c).2] at e3
        cases e4
        exact absurd e3 (n j ob e1)
      · rw [(key j c).1] at e1
        rw [(key j' c').1] at e2
        rw [(key j c).2] at e3
        rw [(key j' c').2] at e4
        exact z.inj j j' b ob ob' e1 e2 e3 e4
theorem SSim.putO {i : Nat} {o : Ob} {a : Addr} (z : SSim K ρ B L env σ H) (hi : i < env.length) (r : ORep K ρ B H o a) (m : a ∈ B) (n : a ∉ L) : SSim K ρ B (a :: L) (env.set i (.ow o)) (σ.set i (some (.ref a))) H := by
  refine z.putG hi r List.mem_cons_self (fun b m => List.mem_cons_of_mem _ m) (fun b q => ?_) fun j ob e e' => ?_
  · rcases List.mem_cons.mp q with q | q
    · rw [q]; exact m
    · exact z.sub b q
  · obtain ⟨b', f1, f2, _⟩ := z.ow j ob e
    rw [e'] at f1
    cases f1
    exact n f2
theorem SSim.widen (z : SSim K ρ B L env σ H) (s1 : ∀ b ∈ L, b ∈ L') (s2 : ∀ b ∈ L', b ∈ B) : SSim K ρ B L' env σ H :=
  ⟨z.len, s2, z.sh, fun i o e => by obtain ⟨a, e1, m, r⟩ := z.ow i o e; exact ⟨a, e1, s1 a m, r⟩, z.inj⟩
/-- a slot's own object is another -/
theorem SSim.owed {i : Nat} {o o' : Ob} {a : Addr} (z : SSim K ρ B L env σ H) (g : GSim K ρ B h H) {u : HO} (e : env[i]? = some (.ow o)) (ea : σ[i]? = some (some (.ref a))) (nx : Nx [a] ρ B H ρ B (upd H a u)) (w : Wr [a] H) (ma : a ∈ L) (r : ORep K ρ B (upd H a u) o' a) :
    SSim K ρ B L (env.set i (.ow o')) σ (upd H a u) := by
  have hi : i < env.length := (List.getElem?_eq_some_iff.mp e).1
  have key : ∀ j, j ≠ i → (env.set i (.ow o'))[j]? = env[j]? := fun j ne => List.getElem?_set_ne (Ne.symm ne)
  have hB : ∀ b ∈ [a], b ∈ ρ ∨ b ∈ B ∨ H b = none := fun b m => by rw [List.mem_singleton.mp m]; exact .inr (.inl (z.sub a ma))
  refine ⟨by simp [z.len], z.sub, fun j v ej => ?_, fun j ob ej => ?_, fun j j' b ob ob' e1 e2 e3 e4 => ?_⟩
  · have c : j ≠ i := fun c => by
      subst c
      rw [List.getElem?_set_self hi] at ej
      cases ej
    rw [key j c] at ej
    obtain ⟨x, f1, f2⟩ := z.sh j v ej
    exact ⟨x, f1, Rep.mono nx w hB _ f2⟩
  · by_cases c : j = i
    · subst c
      rw [List.getElem?_set_self hi] at ej
      cases ej
      exact ⟨a, ea, ma, r⟩
    · rw [key j c] at ej
      obtain ⟨b, f1, f2, f3⟩ := z.ow j ob ej
      refine ⟨b, f1, f2, f3.mono nx w hB fun m => c ?_⟩
      rw [List.mem_singleton.mp m] at f1
      exact z.inj j i a ob o ej e f1 ea
  · have back : ∀ (j : Nat) (ob : Ob), (env.set i (.ow o'))[j]? = some (Sl.ow ob) → ∃ ob, env[j]? = some (Sl.ow ob) := fun j ob ej => by
      by_cases c : j = i
      · subst c; exact ⟨_, e⟩
      · rw [key j c] at ej; exact ⟨_, ej⟩
    obtain ⟨_, q1⟩ := back j ob e1
    obtain ⟨_, q2⟩ := back j' ob' e2
    exact z.inj j j' b _ _ q1 q2 e3 e4
/-- a box is written to -/
theorem GSim.boxed {n : Nat} {xs ys : List PV} {vs : List V} (g : GSim K ρ B h H) (e : h[n]? = some (.l xs)) (ea : ρ[n]? = some D) (r : Reps K ρ B H ys vs) :
    GSim K ρ B (h.set n (.l ys)) (upd H D (.lst vs)) ∧ Nx [D] ρ B H ρ B (upd H D (.lst vs)) ∧ Wr [D] H := by
  have mD : D ∈ ρ := List.mem_of_getElem? ea
  have nx : Nx [D] ρ B H ρ B (upd H D (.lst vs)) := ⟨⟨[], by simp⟩, fun a m => .inl m, fun a m => .inl m, fun a o e q => by rw [upd_ne (fun c => q (by rw [c]; exact List.mem_singleton_self _))]; exact e⟩
  have w : Wr [D] H := fun b q => by rw [List.mem_singleton.mp q]; exact g.wr D mD
  have hB : ∀ b ∈ [D], b ∈ ρ ∨ b ∈ B ∨ H b = none := fun b m => by rw [List.mem_singleton.mp m]; exact .inl mD
  have hn : n < h.length := (List.getElem?_eq_some_iff.mp e).1
  refine ⟨⟨g.nd, by simp [g.len], fun i o a e1 e2 => ?_, fun a m => ?_⟩, nx, w⟩
  · by_cases c : i = n
    · subst c
      rw [List.getElem?_set_self hn] at e1
      cases e1
      rw [ea] at e2
      cases e2
      exact ⟨vs, upd_same, Reps.mono nx w hB _ r⟩
    · rw [List.getElem?_set_ne (Ne.symm c)] at e1
      refine (g.obj i o a e1 e2).mono nx w hB fun m => c ?_
      rw [List.mem_singleton.mp m] at e2
      have nd := (List.nodup_append.mp g.nd).1
      obtain ⟨l1, q1⟩ := List.getElem?_eq_some_iff.mp e2
      obtain ⟨l2, q2⟩ := List.getElem?_eq_some_iff.mp ea
      have inj := List.pairwise_iff_getElem.mp nd
      rcases Nat.lt_trichotomy i n with q | q | q
      · exact absurd (q1.trans q2.symm) (inj i n l1 l2 q)
      · exact q
      · exact absurd (q2.trans q1.symm) (inj n i l2 l1 q)
  · have ne : a ≠ D := fun c => g.apart m (by rw [c]; exact mD)
    exact (g.own a m).keep fun o e => by rw [upd_ne ne]; exact e
theorem SSim.boxed (z : SSim K ρ B L env σ H) (g : GSim K ρ B h H) {u : HO} (mD : D ∈ ρ) (nx : Nx [D] ρ B H ρ B (upd H D u)) (w : Wr [D] H) : SSim K ρ B L env σ (upd H D u) := by
  have hB : ∀ b ∈ [D], b ∈ ρ ∨ b ∈ B ∨ H b = none := fun b m => by rw [List.mem_singleton.mp m]; exact .inl mD
  refine ⟨z.len, z.sub, fun j v ej => ?_, fun j ob ej => ?_, z.inj⟩
  · obtain ⟨x, f1, f2⟩ := z.sh j v ej
    exact ⟨x, f1, Rep.mono nx w hB _ f2⟩
  · obtain ⟨b, f1, f2, f3⟩ := z.ow j ob ej
    exact ⟨b, f1, f2, f3.mono nx w hB fun m => g.apart (z.sub b f2) (by rw [List.mem_singleton.mp m]; exact mD)⟩
theorem Sx.wr {a : Addr} {u : HO} (m : a ∈ ρ ∨ a ∈ L) : Sx ρ L H ρ L (upd H a u) := ⟨⟨[], by simp⟩, fun a m => .inl m, fun a m => .inl m, fun b o e c c2 => by
  rw [upd_ne (fun q => by subst q; exact m.elim c c2)]; exact e⟩
/-! ### a slot's own object is handed on: locked, or a box -/
theorem Sx.to (s : ∀ a ∈ L', a ∈ L) : Sx ρ L H ρ L' H := ⟨⟨[], by simp⟩, fun a m => .inl m, fun a m => .inl (s a m), fun a o e _ _ => e⟩
mutual
theorem Rep.prm (m : D ∈ B) (s : ∀ a ∈ B', a ∈ B) : ∀ (v : PV) {y : V}, Rep K ρ B H v y → Rep K (ρ ++ [D]) B' H v y
  | .non, _, .non => .non
  | .bl _, _, .bl b => .bl b
  | .int _, _, .int i => .int i
  | .str _, _, .str z => .str z
  | .lst xs, _, .lst (a := a) e h1 h2 r => by
    refine .lst e (fun q => ?_) (fun q => h2 (s a q)) (Reps.prm m s xs r)
    rcases List.mem_append.mp q with q | q
    · exact h1 q
    · rw [List.mem_singleton.mp q] at h2; exact h2 m
  | .kl xs, _, .kl k r => .kl k (Reps.prm m s xs r)
  | .tup xs, _, .tup k r => .tup k (Reps.prm m s xs r)
  | .ref _, _, .ref e => .ref (by rw [List.getElem?_append_left (List.getElem?_eq_some_iff.mp e).1]; exact e)
theorem Reps.prm (m : D ∈ B) (s : ∀ a ∈ B', a ∈ B) : ∀ (xs : List PV) {vs : List V}, Reps K ρ B H xs vs → Reps K (ρ ++ [D]) B' H xs vs
  | [], _, .nil => .nil
  | v :: xs, _, .cons r t => .cons (Rep.prm m s v r) (Reps.prm m s xs t)
end
theorem KRep.prm (m : D ∈ B) (s : ∀ a ∈ B', a ∈ B) {kvs : List (Key × PV)} {ws : List (Key × V)} (r : KRep K ρ B H kvs ws) : KRep K (ρ ++ [D]) B' H kvs ws := Paired.mapP r fun _ _ q => ⟨q.1, Rep.prm m s _ q.2⟩
theorem ORep.prm (m : D ∈ B) (s : ∀ a ∈ B', a ∈ B) {o : Ob} {a : Addr} (r : ORep K ρ B H o a) : ORep K (ρ ++ [D]) B' H o a := by
  cases o with
  | l xs => obtain ⟨vs, e, r⟩ := r; exact ⟨vs, e, Reps.prm m s xs r⟩
  | d kvs => obtain ⟨ws, e, r⟩ := r; exact ⟨ws, e, r.prm m s⟩
/-- L without one -/
theorem erase_sub (L : List Addr) (D : Addr) : ∀ a ∈ L.erase D, a ∈ L := fun a m => List.mem_of_mem_erase m
theorem Stt.frz {i : Nat} {xs : List PV} (s : Stt K ρ L B0 env h σ H) (e : env[i]? = some (.ow (.l xs))) : ∃ L', Sx ρ L H ρ L' H ∧ Stt K ρ L' B0 (env.set i (.sh (.lst xs))) h σ H := by
  obtain ⟨a, ea, ma, vs, e1, r⟩ := s.z.ow i _ e
  have hi : i < env.length := (List.getElem?_eq_some_iff.mp e).1
  have sl : (L.erase a ++ B0).Sublist (L ++ B0) := (List.erase_sublist).append (List.Sublist.refl _)
  have sb : ∀ b ∈ L.erase a ++ B0, b ∈ L ++ B0 := fun b m => sl.subset m
  have nd := (List.nodup_append.mp s.g.nd).2.1
  have ndL := (List.nodup_append.mp nd).1
  have na : a ∉ L.erase a ++ B0 := fun m => by
    rcases List.mem_append.mp m with m | m
    · exact (List.Nodup.mem_erase_iff ndL).mp m |>.1 rfl
    · exact (List.nodup_append.mp nd).2.2 a ma a m rfl
  refine ⟨L.erase a, Sx.to (erase_sub L a), s.g.drop sl, ?_⟩
  have key : ∀ j, j ≠ i → (env.set i (.sh (.lst xs)))[j]? = env[j]? := fun j ne => List.getElem?_set_ne (Ne.symm ne)
  refine ⟨by simp [s.z.len], fun b m => List.mem_append_left _ m, fun j v ej => ?_, fun j ob ej => ?_, fun j j' b ob ob' e1 e2 e3 e4 => ?_⟩
  · by_cases c : j = i
    · subst c
      rw [List.getElem?_set_self hi] at ej
      cases ej
      exact ⟨.ref a, ea, .lst e1 (s.g.apart (List.mem_append_left _ ma)) na (r.drop sb)⟩
    · rw [key j c] at ej
      obtain ⟨x, f1, f2⟩ := s.z.sh j v ej
      exact ⟨x, f1, f2.drop sb⟩
  · have c : j ≠ i := fun c => by
      subst c
      rw [List.getElem?_set_self hi] at ej
      cases ej
    rw [key j c] at ej
    obtain ⟨b, f1, f2, f3⟩ := s.z.ow j ob ej
    refine ⟨b, f1, (List.mem_erase_of_ne fun q => c ?_).mpr f2, f3.drop sb⟩
    rw [q] at f1
    exact s.z.inj j i a ob _ ej e f1 ea
  · have back : ∀ (j : Nat) (ob : Ob), (env.set i (.sh (.lst xs)))[j]? = some (Sl.ow ob) → env[j]? = some (Sl.ow ob) := fun j ob ej => by
      by_cases c : j = i
      · subst c
        rw [List.getElem?_set_self hi] at ej
        cases ej
      · rw [key j c] at ej; exact ej
    exact s.z.inj j j' b _ _ (back j ob e1) (back j' ob' e2) e3 e4
theorem Stt.prm {i : Nat} {o : Ob} (s : Stt K ρ L B0 env h σ H) (e : env[i]? = some (.ow o)) : ∃ ρ' L', Sx ρ L H ρ' L' H ∧ Stt K ρ' L' B0 (env.set i (.sh (.ref h.length))) (h ++ [o]) σ H := by
  obtain ⟨a, ea, ma, r⟩ := s.z.ow i _ e
  have hi : i < env.length := (List.getElem?_eq_some_iff.mp e).1
  have sl : (L.erase a ++ B0).Sublist (L ++ B0) := (List.erase_sublist).append (List.Sublist.refl _)
  have sb : ∀ b ∈ L.erase a ++ B0, b ∈ L ++ B0 := fun b m => sl.subset m
  have mB : a ∈ L ++ B0 := List.mem_append_left _ ma
  have nd := (List.nodup_append.mp s.g.nd)
  have ndL := (List.nodup_append.mp nd.2.1).1
  have na : a ∉ L.erase a ++ B0 := fun m => by
    rcases List.mem_append.mp m with m | m
    · exact (List.Nodup.mem_erase_iff ndL).mp m |>.1 rfl
    · exact (List.nodup_append.mp nd.2.1).2.2 a ma a m rfl
  have nr : a ∉ ρ := s.g.apart mB
  refine ⟨ρ ++ [a], L.erase a, ⟨⟨[a], rfl⟩, fun b m => ?_, fun b m => .inl (erase_sub L a b m), fun b o e _ _ => e⟩, ⟨?_, by simp [s.g.len], fun n ob b e1 e2 => ?_, fun b m => s.g.own b (sb b m)⟩, ?_⟩
  · rcases List.mem_append.mp m with m | m
    · exact .inl m
    · rw [List.mem_singleton.mp m]; exact .inr (.inl ma)
  · rw [List.append_assoc, List.nodup_append]
    refine ⟨nd.1, ?_, fun b mb c mc => ?_⟩
    · exact List.nodup_cons.mpr ⟨na, (nd.2.1).sublist sl⟩
    · rcases List.mem_cons.mp mc with q | q
      · rw [q]; exact fun z => nr (z ▸ mb)
      · exact nd.2.2 b mb c (sb c q)
  · by_cases c : n < h.length
    · rw [List.getElem?_append_left c] at e1
      rw [List.getElem?_append_left (by rw [s.g.len]; exact c)] at e2
      exact (s.g.obj n ob b e1 e2).prm mB sb
    · have hn : n = h.length := by
        have := (List.getElem?_eq_some_iff.mp e1).1
        simp at this
        omega
      subst hn
      rw [List.getElem?_append_right (Nat.le_refl _)] at e1
      rw [List.getElem?_append_right (by rw [s.g.len]; exact Nat.le_refl _), s.g.len] at e2
      simp at e1 e2
      subst e1 e2
      exact r.prm mB sb
  · have key : ∀ j, j ≠ i → (env.set i (.sh (.ref h.length)))[j]? = env[j]? := fun j ne => List.getElem?_set_ne (Ne.symm ne)
    refine ⟨by simp [s.z.len], fun b m => List.mem_append_left _ m, fun j v ej => ?_, fun j ob ej => ?_, fun j j' b ob ob' e1 e2 e3 e4 => ?_⟩
    · by_cases c : j = i
      · subst c
        rw [List.getElem?_set_self hi] at ej
        cases ej
        exact ⟨.ref a, ea, .ref (by rw [← s.g.len]; simp)⟩
      · rw [key j c] at ej
        obtain ⟨x, f1, f2⟩ := s.z.sh j v ej
        exact ⟨x, f1, Rep.prm mB sb _ f2⟩
    · have c : j ≠ i := fun c => by
        subst c
        rw [List.getElem?_set_self hi] at ej
        cases ej
      rw [key j c] at ej
      obtain ⟨b, f1, f2, f3⟩ := s.z.ow j ob ej
      refine ⟨b, f1, (List.mem_erase_of_ne fun q => c ?_).mpr f2, f3.prm mB sb⟩
      rw [q] at f1
      exact s.z.inj j i a ob _ ej e f1 ea
    · have back : ∀ (j : Nat) (ob : Ob), (env.set i (.sh (.ref h.length)))[j]? = some (Sl.ow ob) → env[j]? = some (Sl.ow ob) := fun j ob ej => by
        by_cases c : j = i
        · subst c
          rw [List.getElem?_set_self hi] at ej
          cases ej
        · rw [key j c] at ej; exact ej
      exact s.z.inj j j' b _ _ (back j ob e1) (back j' ob' e2) e3 e4
end
end Ev

set_option maxRecDepth 100000
set_option maxHeartbeats 2000000
/-! EvN: which statements the small language tells; each of them. -/
namespace Ev
open PySem PySem.Spec PyProof.Rows L2
def R.isPv : R → Bool
  | .pv _ => true
  | _ => false
/-- it gives no slot's own object -/
def E.noBr : E → Bool
  | .var _ => false
  | .and a b => a.noBr && b.noBr
  | .or a b => a.noBr && b.noBr
  | .ife _ a b => a.noBr && b.noBr
  | _ => true
def E.retOk : E → Bool
  | .and a b => a.noBr && b.noBr
  | .or a b => a.noBr && b.noBr
  | .ife _ a b => a.retOk && b.retOk
  | _ => true
/-- a comprehension's scope -/
def compScope : Expr → Option Scope
  | .ListComp _ _ s _ => some s
  | .SetComp _ _ s _ => some s
  | .DictComp _ _ _ s _ => some s
  | _ => none
/-- name = comprehension: stored before the block's names go -/
def swB (v : Expr) (x : Str) (p : Pos) (sc : Scope) : Bool := match compScope v with
  | some scope => (sc.names.lookup x == some .local) && (p.line == v.pos.line) && !(scope.names.any fun (n, k) => n == x && (k == .local || k == .cell))
  | none => false
def isFn (sc : Scope) : Bool := match sc.kind with
  | .function => true
  | _ => false
theorem isFn_of {sc : Scope} (h : isFn sc = true) : sc.kind = .function := by
  unfold isFn at h
  split at h
  · assumption
  · cases h
theorem blk_fn {env : Env} (h : env.scope.kind = .function) : env.blockKind = .function := by
  unfold Env.blockKind; rw [h]; rfl
theorem sw_eq {env : Env} {v : Expr} {x : Str} {p : Pos} {l : Nat} (h : env.scope.kind = .function) : swapsWith v (some (.Name x p)) l env = pure (swB v x p env.scope) := by
  have hb := blk_fn h
  have hk : env.kindOf x = env.scope.names.lookup x := rfl
  unfold swapsWith swB compScope
  cases v <;> first
    | rfl
    | (simp only [hb, hk]; rfl)
theorem sw_tup {env : Env} {v : Expr} {l : Nat} {ts : List Expr} {kk : Nat} {p : Pos} : swapsWith v (some (.Tuple ts kk p)) l env = pure false := by
  cases v <;> rfl
theorem sw_sub {env : Env} {v a b : Expr} {l : Nat} {p : Pos} : swapsWith v (some (.Subscript a b p)) l env = pure false := by
  cases v <;> rfl
/-- (a, b) = (.., ..): the names that are stored from the right; none where the run does not go on -/
def swNames (ts : List Expr) (sc : Scope) : List Str := ts.filterMap fun
  | .Name id pos => if sc.names.lookup id == some .local && pos.line == (ts.head?.map (·.pos.line)).getD 0 then some id else none
  | _ => none
def swS (ts vs : List Expr) (sc : Scope) : Option (Option (List Str)) :=
  if !(ts.length == 2 || ts.length == 3) || vs.length != ts.length then some none
  else if vs.any isStar then some none
  else if (swNames ts sc).length != ts.length || (swNames ts sc).eraseDups.length != (swNames ts sc).length then some none
  else if vs.all (foldedForSure 8) then some none
  else if vs.all (constantsAlone 8) then none
  else some (some (swNames ts sc))
theorem star_eq : (fun x : Expr => match x with | .Starred .. => true | _ => false) = isStar := by
  funext x
  cases x <;> rfl
theorem swS_eq {env : Env} {ts vs : List Expr} {k1 k2 : Nat} {p1 p2 : Pos} {r : Option (List Str)} (h : env.scope.kind = .function) (e : swS ts vs env.scope = some r) : swappedStores [.Tuple ts k1 p1] (.Tuple vs k2 p2) env = pure r := by
  have hb := blk_fn h
  unfold swS at e
  unfold swappedStores
  simp only [hb]
  change (if (!(ts.length == 2 || ts.length == 3) || vs.length != ts.length || false) = true then pure none
    else if vs.any isStar = true then pure none
    else if ((swNames ts env.scope).length != ts.length || (swNames ts env.scope).eraseDups.length != (swNames ts env.scope).length) = true then pure none
    else if vs.all (foldedForSure 8) = true then pure none
    else if vs.all (constantsAlone 8) = true then do
      unsupported "assign.tuple-of-constant-expressions:order-of-the-stores"
      pure (some (swNames ts env.scope))
    else pure (some (swNames ts env.scope)) : Sem (Option (List Str))) = pure r
  rw [Bool.or_false]
  split at e
  · rename_i c; cases e; rw [if_pos c]
  rename_i c; rw [if_neg c]
  split at e
  · rename_i c; cases e; rw [if_pos c]
  rename_i c; rw [if_neg c]
  split at e
  · rename_i c; cases e; rw [if_pos c]
  rename_i c; rw [if_neg c]
  split at e
  · rename_i c; cases e; rw [if_pos c]
  rename_i c; rw [if_neg c]
  split at e
  · cases e
  rename_i c; rw [if_neg c]
  cases e
  rfl
theorem swS_no {env : Env} {ts : List Expr} {v : Expr} {k1 : Nat} {p1 : Pos} (h : ∀ vs k2 p2, v ≠ .Tuple vs k2 p2) : swappedStores [.Tuple ts k1 p1] v env = pure none := by
  cases v <;> first
    | rfl
    | exact absurd rfl (h _ _ _)
/-! ### which statements -/
def isLc : E → Bool
  | .lc .. => true
  | _ => false
/-- what a for walks -/
def chkI (G : Gb) (k : Ik) (a b : E) (s : Sc) (tg' it' : Expr) : Bool := !isSetE it' && (match k with
  | .val => b.isNil && chkE G a s it'
  | .rng1 => b.isNil && (match it' with
    | .Call (.Name x _) [a'] [] _ => decide (x = ("range" : Str)) && s.gl x && !isStar a' && chkE G a s a'
    | _ => false)
  | .rng2 => !b.isNil && (match it' with
    | .Call (.Name x _) [a', b'] [] _ => decide (x = ("range" : Str)) && s.gl x && !isStar a' && !isStar b' && chkE G a s a' && chkE G b s b'
    | _ => false)
  | .enum => b.isNil && (match tg' with | .Tuple _ _ _ => true | _ => false) && (match it' with
    | .Call (.Name x _) [a'] [] _ => decide (x = ("enumerate" : Str)) && s.gl x && !isStar a' && chkE G a s a'
    | _ => false)
  | .zip => false)
def isLocal (s : Sc) (x : Str) : Bool := decide (s.sc.names.lookup x = some .local)
/-- (x, y) = (a, b): stored from the right -/
def parOk (is : List Nat) (s : Sc) (ts vs : List Expr) : Bool := match ts, vs, is with
  | [.Name x _, .Name y _], [_, _], [i, j] => decide (swS ts vs s.sc = some (some [x, y])) && decide (s.N[i]? = some x) && decide (s.N[j]? = some y) && decide (i ≠ j) && isLocal s x && isLocal s y
  | [.Name x _, .Name y _, .Name z _], [_, _, _], [i, j, l] => decide (swS ts vs s.sc = some (some [x, y, z])) && decide (s.N[i]? = some x) && decide (s.N[j]? = some y) && decide (s.N[l]? = some z) && decide (i ≠ j) && decide (i ≠ l) && decide (j ≠ l) && isLocal s x && isLocal s y && isLocal s z
  | _, _, _ => false
/-- how a value is stored -/
def assOk (s : Sc) (e : E) (t' e' : Expr) : Bool := match t' with
  | .Name x px => !swB e' x px s.sc || (isLc e && isLocal s x)
  | .Tuple ts _ _ => (match e' with
    | .Tuple vs _ _ => decide (swS ts vs s.sc = some none)
    | _ => true)
  | _ => false
mutual
def chkS (G : Gb) : S → Sc → Stmt → Bool
  | .ass tg e, s, st => (match st with
    | .Assign [t'] e' _ => chkT tg s t' && chkE G e s e' && assOk s e t' e'
    | _ => false)
  | .par is es, s, st => (match st with
    | .Assign [.Tuple ts _ _] (.Tuple vs _ _) _ => chkEs G es s vs && parOk is s ts vs
    | _ => false)
  | .sub o i e, s, st => (match st with
    | .Assign [.Subscript o' i' _] e' _ => !isSliceE i' && chkE G o s o' && chkE G i s i' && chkE G e s e'
    | _ => false)
  | .app sl e, s, st => (match st with
    | .Expr (.Call (.Attribute (.Name x _) m p2) [e'] [] p) _ => decide (m = ("append" : Str)) && decide (s.N[sl]? = some x) && s.vis x && okName x && !isStar e' && (p2.endLine == p.line) && chkE G e s e'
    | _ => false)
  | .ex e, s, st => (match st with
    | .Expr e' _ => !isCompE e' && chkE G e s e'
    | _ => false)
  | .ret e, s, st => (match st with
    | .Return (some e') _ => e.retOk && chkE G e s e'
    | _ => false)
  | .retN, s, st => (match st with
    | .Return none _ => true
    | _ => false)
  | .ite t a b, s, st => (match st with
    | .If t' a' b' _ => chkE G t s t' && chkB G a s a' && chkB G b s b'
    | _ => false)
  | .for tg k a b body, s, st => (match st with
    | .For tg' it' body' [] _ => chkT tg s tg' && chkI G k a b s tg' it' && chkB G body s body'
    | _ => false)
  | .whil n t b, s, st => (match st with
    | .While t' b' [] _ => chkE G t s t' && chkB G b s b'
    | _ => false)
  | .brk, s, st => (match st with
    | .Break _ => true
    | _ => false)
  | .cnt, s, st => (match st with
    | .Continue _ => true
    | _ => false)
  | .pass, s, st => (match st with
    | .Pass _ => true
    | .Expr (.Constant (.str _) _ _) _ => true
    | _ => false)
  | _, _, _ => false
def chkB (G : Gb) : S → Sc → List Stmt → Bool
  | .skip, _, [] => true
  | .seq a b, s, st :: rest => chkS G a s st && chkB G b s rest
  | .frz _ b, s, sts => chkB G b s sts
  | .prm _ b, s, sts => chkB G b s sts
  | _, _, _ => false
end
/-! ### ends -/
def SE (K : PySem.W.Frag) (ρ L B0 : List Addr) (H : Hp) (o : O) (D : Ends) : Prop := match o with
  | .nx env h => ∀ ρ' L' σ' H', Sx ρ L H ρ' L' H' → Stt K ρ' L' B0 env h σ' H' → D.nx σ' H'
  | .bk env h => ∀ ρ' L' σ' H', Sx ρ L H ρ' L' H' → Stt K ρ' L' B0 env h σ' H' → D.bk σ' H'
  | .ct env h => ∀ ρ' L' σ' H', Sx ρ L H ρ' L' H' → Stt K ρ' L' B0 env h σ' H' → D.ct σ' H'
  | .rt r h => ∀ ρ' L' x H', Sx ρ L H ρ' L' H' → GSim K ρ' (L' ++ B0) h H' → RRep K ρ' (L' ++ B0) H' r x → (r.isPv = false → ∃ a ∈ L', x = .ref a) → D.rt x H'
def tS (K : PySem.W.Frag) (C : Call) (b : S) : TS := fun D σ H => ∃ ρ L B0 env h o, Stt K ρ L B0 env h σ H ∧ evS C b env h = some o ∧ SE K ρ L B0 H o D
def tRv (K : PySem.W.Frag) (C : Call) (e : E) : TE := fun σ H Q => ∃ ρ L B0 env h r h', Stt K ρ L B0 env h σ H ∧ ev C e env h = some (r, h') ∧
  ∀ ρ' L' x H', Sx ρ L H ρ' L' H' → GSim K ρ' (L' ++ B0) h' H' → RRep K ρ' (L' ++ B0) H' r x → (r.isPv = false → ∃ a ∈ L', x = .ref a) → Q x H'
section
variable {K : PySem.W.Frag} {C : Call} {ρ ρ1 ρ' B B' L L1 L' B0 : List Addr} {H H1 H' : Hp} {h h1 h' : Hh} {env env' : Sls} {σ : L2.St} {r : R} {x : V} {o : O} {D : Ends} {Q : VK} {e : E}
theorem SE.seq (q : SE K ρ L B0 H o D) (x : Sx ρ L H ρ1 L1 H1) (g : GSim K ρ1 B h1 H1) : SE K ρ1 L1 B0 H1 o D := by
  cases o with
  | nx env h => exact fun ρ' L' σ' H' y s => q ρ' L' σ' H' (x.trans g y) s
  | bk env h => exact fun ρ' L' σ' H' y s => q ρ' L' σ' H' (x.trans g y) s
  | ct env h => exact fun ρ' L' σ' H' y s => q ρ' L' σ' H' (x.trans g y) s
  | rt r h => exact fun ρ' L' v H' y g' r i => q ρ' L' v H' (x.trans g y) g' r i
theorem Stt.ev (s : Stt K ρ L B0 env h σ H) (e1 : ev C e env h = some (r, h1)) (q : ∀ ρ' B' x H', Nx ρ ρ (L ++ B0) H ρ' B' H' → GSim K ρ' B' h1 H' → RRep K ρ' B' H' r x → RPost r x (L ++ B0) B' H → Q x H') : tE K C e σ H Q :=
  ⟨ρ, L ++ B0, L, env, h, r, h1, s.g, s.z, e1, q⟩
theorem Stt.next (s : Stt K ρ L B0 env h σ H) (n : Nx ρ ρ (L ++ B0) H ρ' B' H') (g' : GSim K ρ' B' h1 H') (p : RPost r x (L ++ B0) B' H) : Sx ρ L H ρ' L H' ∧ Stt K ρ' L B0 env h1 σ H' := by
  obtain ⟨n', g''⟩ := drp n g' p
  exact ⟨Sx.of n' fun a m => .inl m, g'', s.z.nxt s.g n'⟩
/-- a slot takes what an expression gave -/
theorem give_slot {i : Nat} (s : Stt K ρ L B0 env h σ H) (n : Nx ρ ρ (L ++ B0) H ρ' B' H') (g' : GSim K ρ' B' h1 H') (q : RRep K ρ' B' H' r x) (p : RPost r x (L ++ B0) B' H) (e : giveTo i r env = some env') :
    ∃ L', Sx ρ L H ρ' L' H' ∧ Stt K ρ' L' B0 env' h1 (σ.set i (some x)) H' := by
  unfold giveTo at e
  split at e
  · rename_i hi
    split at e
    · cases e
      obtain rfl : B' = L ++ B0 := p
      exact ⟨L, Sx.of n fun a m => .inl m, g', (s.z.nxt s.g n).put hi q⟩
    · cases e
      obtain ⟨a, rfl, rfl, f⟩ := p
      obtain ⟨a', ea, m, r⟩ := q
      injection ea with ea
      subst ea
      have nL : a ∉ L := fun m => by
        obtain ⟨o, e⟩ := s.g.live (List.mem_append_left _ m)
        rw [f] at e
        cases e
      refine ⟨a :: L, Sx.of n fun b m => ?_, g', (s.z.next n s.g fun b m => List.mem_cons_of_mem _ m).putO hi r List.mem_cons_self nL⟩
      rcases List.mem_cons.mp m with c | c
      · rw [c]; exact .inr f
      · exact .inl c
    · cases e
  · cases e
end
section
variable {X : Cx} {K : PySem.W.Frag} {C : Call}
theorem psw {st : Stmt} {t t' : TS} (h : PS X st t) (w : ∀ D σ H, t' D σ H → t D σ H) : PS X st t' := ⟨fun pins s σ H D I q => h.run pins s σ H D I (w _ _ _ q)⟩
theorem pssw {sts : List Stmt} {t t' : TS} (h : PSs X sts t) (w : ∀ D σ H, t' D σ H → t D σ H) : PSs X sts t' := ⟨fun pins s σ H D I q => h.run pins s σ H D I (w _ _ _ q)⟩
theorem t_seq {a b : S} {D : Ends} {σ : L2.St} {H : Hp} (q : tS K C (.seq a b) D σ H) : tSeq (tS K C a) (tS K C b) D σ H := by
  obtain ⟨ρ, L, B0, env, h, o, s, e, q⟩ := q
  simp only [evS] at e
  obtain ⟨o1, e1, e2⟩ := Option.bind_eq_some_iff.mp e
  refine ⟨ρ, L, B0, env, h, o1, s, e1, ?_⟩
  cases o1 with
  | nx env1 h1 => exact fun ρ' L' σ' H' x s' => ⟨ρ', L', B0, env1, h1, o, s', e2, q.seq x s'.g⟩
  | rt r h1 => cases e2; exact q
  | bk env1 h1 => cases e2; exact q
  | ct env1 h1 => cases e2; exact q
theorem t_skip {D : Ends} {σ : L2.St} {H : Hp} (q : tS K C .skip D σ H) : tNext D σ H := by
  obtain ⟨ρ, L, B0, env, h, o, s, e, q⟩ := q
  simp only [evS, Option.some.injEq] at e
  subst e
  exact q ρ L σ H Sx.refl s
theorem t_frz {i : Nat} {b : S} {D : Ends} {σ : L2.St} {H : Hp} (q : tS K C (.frz i b) D σ H) : tS K C b D σ H := by
  obtain ⟨ρ, L, B0, env, h, o, s, e, q⟩ := q
  simp only [evS] at e
  split at e
  · obtain ⟨L', x, s'⟩ := s.frz (by assumption)
    exact ⟨ρ, L', B0, _, h, o, s', e, q.seq x s'.g⟩
  · exact ⟨ρ, L, B0, env, h, o, s, e, q⟩
  · cases e
theorem t_prm {i : Nat} {b : S} {D : Ends} {σ : L2.St} {H : Hp} (q : tS K C (.prm i b) D σ H) : tS K C b D σ H := by
  obtain ⟨ρ, L, B0, env, h, o, s, e, q⟩ := q
  simp only [evS] at e
  split at e
  · obtain ⟨ρ', L', x, s'⟩ := s.prm (by assumption)
    exact ⟨ρ', L', B0, _, _, o, s', e, q.seq x s'.g⟩
  · exact ⟨ρ, L, B0, env, h, o, s, e, q⟩
  · cases e
theorem t_ite {t : E} {a b : S} {D : Ends} {σ : L2.St} {H : Hp} (q : tS K C (.ite t a b) D σ H) : tIfS (tT K C t) (tS K C a) (tS K C b) D σ H := by
  obtain ⟨ρ, L, B0, env, h, o, s, e, q⟩ := q
  simp only [evS] at e
  obtain ⟨⟨c, h1⟩, e1, e2⟩ := Option.bind_eq_some_iff.mp e
  refine ⟨ρ, L ++ B0, L, env, h, c, h1, s.g, s.z, e1, fun ρ' H' n g => ?_⟩
  have x : Sx ρ L H ρ' L H' := Sx.of n fun a m => .inl m
  have s' : Stt K ρ' L B0 env h1 σ H' := ⟨g, s.z.nxt s.g n⟩
  cases c with
  | true => exact ⟨ρ', L, B0, env, h1, o, s', e2, q.seq x g⟩
  | false => exact ⟨ρ', L, B0, env, h1, o, s', e2, q.seq x g⟩
theorem t_ex {e : E} {D : Ends} {σ : L2.St} {H : Hp} (q : tS K C (.ex e) D σ H) : tDrop (tE K C e) D σ H := by
  obtain ⟨ρ, L, B0, env, h, o, s, ee, q⟩ := q
  simp only [evS] at ee
  obtain ⟨⟨r, h1⟩, e1, rfl⟩ := Option.map_eq_some_iff.mp ee
  refine s.ev e1 fun ρ' B' x H' n g q' p => ?_
  obtain ⟨x, s'⟩ := s.next n g p
  exact q ρ' L σ H' x s'
theorem t_ret {e : E} {D : Ends} {σ : L2.St} {H : Hp} (q : tS K C (.ret e) D σ H) : tRet (tRv K C e) D σ H := by
  obtain ⟨ρ, L, B0, env, h, o, s, ee, q⟩ := q
  simp only [evS] at ee
  obtain ⟨⟨r, h1⟩, e1, rfl⟩ := Option.map_eq_some_iff.mp ee
  exact ⟨ρ, L, B0, env, h, r, h1, s, e1, q⟩
theorem t_retN {D : Ends} {σ : L2.St} {H : Hp} (q : tS K C .retN D σ H) : tRetN D σ H := by
  obtain ⟨ρ, L, B0, env, h, o, s, ee, q⟩ := q
  simp only [evS, Option.some.injEq] at ee
  subst ee
  exact q ρ L .non H Sx.refl s.g .non (fun h => by cases h)
theorem t_assV {i : Nat} {e : E} {D : Ends} {σ : L2.St} {H : Hp} (q : tS K C (.ass (.v i) e) D σ H) : tAsg (tE K C e) (gName i) D σ H := by
  obtain ⟨ρ, L, B0, env, h, o, s, ee, q⟩ := q
  simp only [evS] at ee
  obtain ⟨⟨r, h1⟩, e1, ee⟩ := Option.bind_eq_some_iff.mp ee
  obtain ⟨env1, e2, rfl⟩ := Option.map_eq_some_iff.mp ee
  refine s.ev e1 fun ρ' B' x H' n g q' p => ?_
  obtain ⟨L', x, s'⟩ := give_slot s n g q' p e2
  exact q ρ' L' _ H' x s'
theorem t_assT {ts : Tg} {e : E} {D : Ends} {σ : L2.St} {H : Hp} (q : tS K C (.ass (.t ts) e) D σ H) : tAsg (tE K C e) (gT K (.t ts)) D σ H := by
  obtain ⟨ρ, L, B0, env, h, o, s, ee, q⟩ := q
  simp only [evS] at ee
  obtain ⟨⟨r, h1⟩, e1, ee⟩ := Option.bind_eq_some_iff.mp ee
  obtain ⟨env1, e2, rfl⟩ := Option.map_eq_some_iff.mp ee
  refine s.ev e1 fun ρ' B' x H' n g q' p => ?_
  obtain ⟨v, e3, e4⟩ := Option.bind_eq_some_iff.mp (show (r.give.bind fun v => asg (.t ts) v env) = some env1 from e2)
  have rv := give_rep g q' p e3
  obtain ⟨x, s'⟩ := s.next n g p
  exact asg_ok (.t ts) s'.z e4 rv fun σ' z' _ => q ρ' L σ' H' x ⟨s'.g, z'⟩
end
end Ev

set_option maxRecDepth 100000
set_option maxHeartbeats 2000000
/-! EvO: the rest of the statements; every block. -/
namespace Ev
open PySem PySem.Spec PyProof.Rows L2
def setAll : L2.St → List Nat → List V → L2.St
  | σ, i :: is, x :: xs => setAll (σ.set i (some x)) is xs
  | σ, _, _ => σ
section
variable {X : Cx} {K : PySem.W.Frag} {C : Call} {ρ ρ1 ρ' B B' L L1 L' B0 : List Addr} {H H1 H' : Hp} {h h1 h' : Hh}
theorem giveAll_ok : ∀ {is : List Nat} {rs : List R} {xs : List V} {P : List Addr} {env env' : Sls} {σ : L2.St}, SSim K ρ B L env σ H → RReps K ρ B H rs xs P → (∀ a ∈ P, a ∈ L) → P.Nodup →
    (∀ a ∈ P, ∀ (j : Nat) (ob : Ob), env[j]? = some (.ow ob) → σ[j]? ≠ some (some (.ref a))) → giveAll is rs env = some env' → SSim K ρ B L env' (setAll σ is xs) H
  | [], [], _, _, env, env', σ, z, r, m, nd, ne, e => by
    cases e
    cases r
    exact z
  | [], _ :: _, _, _, env, env', σ, z, r, m, nd, ne, e => by cases e
  | _ :: _, [], _, _, env, env', σ, z, r, m, nd, ne, e => by cases e
  | i :: is, r1 :: rs, xs, P, env, env', σ, z, r, m, nd, ne, e => by
    obtain ⟨env1, e1, e2⟩ := Option.bind_eq_some_iff.mp (show ((giveTo i r1 env).bind fun e => giveAll is rs e) = some env' from e)
    unfold giveTo at e1
    split at e1
    case isFalse => cases e1
    rename_i hi
    have hi' : i < σ.length := by rw [z.len]; exact hi
    cases r with
    | pv q t =>
      cases e1
      refine giveAll_ok (is := is) (z.put hi q) t m nd (fun a ma j ob ej => ?_) e2
      by_cases c : j = i
      · subst c
        rw [List.getElem?_set_self hi] at ej
        cases ej
      · rw [List.getElem?_set_ne (Ne.symm c)] at ej ⊢
        exact ne a ma j ob ej
    | br => cases e1
    | @fr o a _ xs1 P1 ma q t =>
      cases e1
      have mP : a ∈ P1 ++ [a] := List.mem_append_right _ (List.mem_singleton_self _)
      have nd' := List.nodup_append.mp nd
      refine giveAll_ok (is := is) (z.putG hi q (m a mP) (fun b m => m) z.sub (ne a mP)) t (fun b mb => m b (List.mem_append_left _ mb)) nd'.1 (fun b mb j ob ej => ?_) e2
      by_cases c : j = i
      · subst c
        rw [List.getElem?_set_self hi']
        intro e
        cases e
        exact nd'.2.2 _ mb _ (List.mem_singleton_self _) rfl
      · rw [List.getElem?_set_ne (Ne.symm c)] at ej ⊢
        exact ne b (List.mem_append_left _ mb) j ob ej
theorem giveAll_len : ∀ {is : List Nat} {rs : List R} {env env' : Sls}, giveAll is rs env = some env' → is.length = rs.length
  | [], [], _, _, _ => rfl
  | [], _ :: _, _, _, e => by cases e
  | _ :: _, [], _, _, e => by cases e
  | i :: is, r1 :: rs, env, env', e => by
    obtain ⟨env1, e1, e2⟩ := Option.bind_eq_some_iff.mp (show ((giveTo i r1 env).bind fun e => giveAll is rs e) = some env' from e)
    simp [giveAll_len e2]
theorem RReps.length : ∀ {rs : List R} {xs : List V} {P : List Addr}, RReps K ρ B H rs xs P → rs.length = xs.length
  | _, _, _, .nil => rfl
  | _, _, _, .pv _ t => congrArg Nat.succ (RReps.length t)
  | _, _, _, .br _ _ t => congrArg Nat.succ (RReps.length t)
  | _, _, _, .fr _ _ t => congrArg Nat.succ (RReps.length t)
theorem t_par {is : List Nat} {es : E} {D : Ends} {σ : L2.St} {H : Hp} (q : tS K C (.par is es) D σ H) : tR K C es σ H fun xs H1 => xs.length = is.length ∧ D.nx (setAll σ is xs) H1 := by
  obtain ⟨ρ, L, B0, env, h, o, s, ee, q⟩ := q
  simp only [evS] at ee
  obtain ⟨⟨rs, h1⟩, e1, ee⟩ := Option.bind_eq_some_iff.mp ee
  obtain ⟨env1, e2, rfl⟩ := Option.map_eq_some_iff.mp ee
  refine ⟨ρ, L ++ B0, L, env, h, rs, h1, s.g, s.z, e1, fun ρ' P xs H' n g r f => ?_⟩
  rw [← List.append_assoc] at n g r
  have z1 : SSim K ρ' (P ++ L ++ B0) (P ++ L) env σ H' := (s.z.next n s.g fun a m => by rw [List.append_assoc]; exact List.mem_append_right _ m).widen (fun b m => List.mem_append_right _ m) fun b m => List.mem_append_left _ m
  have ndB := (List.nodup_append.mp (List.nodup_append.mp g.nd).2.1).1
  have z2 := giveAll_ok z1 r (fun a m => List.mem_append_left _ m) (List.nodup_append.mp ndB).1 (fun a m j ob ej c => by
    obtain ⟨b, f1, f2, f3⟩ := s.z.ow j ob ej
    rw [c] at f1
    cases f1
    obtain ⟨o, e⟩ := s.g.live (List.mem_append_left _ f2)
    rw [f a m] at e
    cases e) e2
  exact ⟨by rw [← r.length, giveAll_len e2], q ρ' (P ++ L) _ H' (Sx.of n fun b m => (List.mem_append.mp m).elim (fun m => .inr (f b m)) .inl) ⟨g, z2⟩⟩
theorem setR_some {h h' : Hh} {o i : R} {v : PV} (e : setR h o i v = some h') : ∃ (n : Nat) (j : Int) (xs : List PV) (m : Nat), o = .pv (.ref n) ∧ i = .pv (.int j) ∧ h[n]? = some (.l xs) ∧ ixN xs.length j = some m ∧ h' = h.set n (.l (xs.set m v)) := by
  unfold setR at e
  split at e
  · split at e
    · rename_i n j _ xs hx
      obtain ⟨m, e6, e7⟩ := Option.map_eq_some_iff.mp e
      exact ⟨n, j, xs, m, rfl, rfl, hx, e6, e7.symm⟩
    · cases e
  · cases e
theorem t_sub {oe i e : E} {D : Ends} {σ : L2.St} {H : Hp} (q : tS K C (.sub oe i e) D σ H) : tAsg (tE K C e) (gSub (tE K C oe) (tE K C i) rSetL) D σ H := by
  obtain ⟨ρ, L, B0, env, h, o, s, ee, q⟩ := q
  simp only [evS] at ee
  obtain ⟨⟨r1, h1⟩, e1, ee⟩ := Option.bind_eq_some_iff.mp ee
  obtain ⟨v, e2, ee⟩ := Option.bind_eq_some_iff.mp ee
  obtain ⟨⟨r3, h3⟩, e3, ee⟩ := Option.bind_eq_some_iff.mp ee
  obtain ⟨⟨r4, h4⟩, e4, ee⟩ := Option.bind_eq_some_iff.mp ee
  obtain ⟨h5, e5, rfl⟩ := Option.map_eq_some_iff.mp ee
  refine s.ev e1 fun ρ1 B1 x H1 n1 g1 q1 p1 => ?_
  have rv := give_rep g1 q1 p1 e2
  obtain ⟨x1, s1⟩ := s.next n1 g1 p1
  refine s1.ev e3 fun ρ2 B2 ov H2 n2 g2 q2 p2 => ?_
  obtain ⟨x2, s2⟩ := s1.next n2 g2 p2
  have rv2 := rv.next (n2.to p2.sup) s1.g
  refine s2.ev e4 fun ρ3 B3 iv H3 n3 g3 q3 p3 => ?_
  obtain ⟨x3, s3⟩ := s2.next n3 g3 p3
  have rv3 := rv2.next (n3.to p3.sup) s2.g
  simp only at e5
  obtain ⟨nn, j, xs, m, rfl, rfl, hx, e6, rfl⟩ := setR_some e5
  have q2' : Rep K ρ3 (L ++ B0) H3 (.ref nn) ov := by
    obtain rfl : B2 = L ++ B0 := p2
    exact Rep.next (n3.to p3.sup) s2.g q2
  have q3' := rep_int q3
  subst q3'
  cases q2' with
  | @ref a _ ea =>
    obtain ⟨vs, ha, rr⟩ := s3.g.obj _ _ _ hx ea
    obtain ⟨g4, n4, w4⟩ := s3.g.boxed hx ea (rr.set rv3 m)
    have ma : a ∈ ρ3 := List.mem_of_getElem? ea
    refine ⟨a, vs, j, m, rfl, rfl, ha, by rw [← rr.length]; exact e6, ?_⟩
    exact q ρ3 L σ _ (((x1.trans s1.g x2).trans s2.g x3).trans s3.g (Sx.wr (.inl ma))) ⟨g4, s3.z.boxed s3.g ma n4 w4⟩
theorem t_app {i : Nat} {e : E} {D : Ends} {σ : L2.St} {H : Hp} (q : tS K C (.app i e) D σ H) : tDrop (tBM K "list" rAppend (tVar i) (tA K C (.cons e .nil))) D σ H := by
  obtain ⟨ρ, L, B0, env, h, o, s, ee, q⟩ := q
  simp only [evS] at ee
  split at ee
  · cases ee
  rename_i hok
  obtain ⟨⟨r1, h1⟩, e1, ee⟩ := Option.bind_eq_some_iff.mp ee
  obtain ⟨v, e2, ee⟩ := Option.bind_eq_some_iff.mp ee
  obtain ⟨⟨env1, h2⟩, e3, rfl⟩ := Option.map_eq_some_iff.mp ee
  have evl : evs C (.cons e .nil) env h = some ([v], h1) := by simp only [evs, e1, Option.bind_some, e2, Option.map_some]
  unfold appS at e3
  split at e3
  · rename_i xs hs
    split at e3
    case isFalse => cases e3
    rename_i hl
    cases e3
    obtain ⟨a, ea, ma, vs, ha, rr⟩ := s.z.ow i _ hs
    refine ⟨.ref a, ea, .inl ⟨rfl, vs, SqL.of ha⟩, ρ, L ++ B0, L, env, h, [v], _, s.g, s.z, evl, fun ρ1 ys H1 n1 g1 r1 => ?_⟩
    obtain ⟨y, rfl, rv⟩ : ∃ y, ys = [y] ∧ Rep K ρ1 (L ++ B0) H1 v y := by
      cases r1 with
      | cons r t => cases t; exact ⟨_, rfl, r⟩
    have z1 := s.z.nxt s.g n1
    obtain ⟨a', ea', _, vs', ha', rr'⟩ := z1.ow i _ hs
    rw [ea] at ea'
    cases ea'
    have hB : a ∈ L ++ B0 := z1.sub a ma
    obtain ⟨g2, n2, w2⟩ := g1.wr1 (u := .lst (vs' ++ [y])) hB (.inl ⟨_, ha'⟩) (.inl ⟨_, rfl⟩)
    refine ⟨a, vs', y, rfl, rfl, ha', by rw [← rr'.length]; exact lt_lim hl, ?_⟩
    have rn : Reps K ρ1 (L ++ B0) (upd H1 a (.lst (vs' ++ [y]))) (xs ++ [v]) (vs' ++ [y]) := Reps.wr1 hB n2 w2 (rr'.snoc rv)
    exact q ρ1 L σ _ ((Sx.of n1 fun b m => .inl m).trans g1 (Sx.wr (.inr ma))) ⟨g2, z1.owed g1 hs ea n2 w2 ma ⟨_, upd_same, rn⟩⟩
  · rename_i nn hs
    split at e3
    case h_2 => cases e3
    rename_i xs hx
    split at e3
    case isFalse => cases e3
    rename_i hl
    cases e3
    obtain ⟨x, ex, rx⟩ := s.z.sh i _ hs
    cases rx with
    | @ref a _ ea =>
      have tyq : tyV K "list" (.ref a) H := by
        simp only [appOk, hs] at hok
        split at hok
        · obtain ⟨vs, e, _⟩ := s.g.obj _ _ _ (by assumption) ea
          exact .inl ⟨rfl, vs, SqL.of e⟩
        · exact absurd rfl hok
      refine ⟨.ref a, ex, tyq, ρ, L ++ B0, L, env, h, [v], _, s.g, s.z, evl, fun ρ1 ys H1 n1 g1 r1 => ?_⟩
      obtain ⟨y, rfl, rv⟩ : ∃ y, ys = [y] ∧ Rep K ρ1 (L ++ B0) H1 v y := by
        cases r1 with
        | cons r t => cases t; exact ⟨_, rfl, r⟩
      have ea1 : ρ1[nn]? = some a := by
        obtain ⟨u, q⟩ := n1.pre
        rw [q, List.getElem?_append_left (List.getElem?_eq_some_iff.mp ea).1]
        exact ea
      obtain ⟨vs', ha', rr'⟩ := g1.obj _ _ _ hx ea1
      have ma : a ∈ ρ1 := List.mem_of_getElem? ea1
      obtain ⟨g2, n2, w2⟩ := g1.boxed hx ea1 (rr'.snoc rv)
      refine ⟨a, vs', y, rfl, rfl, ha', by rw [← rr'.length]; exact lt_lim hl, ?_⟩
      exact q ρ1 L σ _ ((Sx.of n1 fun b m => .inl m).trans g1 (Sx.wr (.inl ma))) ⟨g2, (s.z.nxt s.g n1).boxed g1 ma n2 w2⟩
  · cases e3
end
end Ev

set_option maxRecDepth 100000
set_option maxHeartbeats 2000000
/-! EvP: loops; every block. -/
namespace Ev
open PySem PySem.Spec PyProof.Rows L2
section
variable {X : Cx} {K : PySem.W.Frag} {C : Call}
theorem Src.drop {ρ B B' L : List Addr} {H : Hp} {J : It} {items : List PV} (s : ∀ a ∈ B', a ∈ B) (q : Src K ρ B L H J items) : Src K ρ B' L H J items :=
  q.mono (W := []) (Nx.shrink s) (fun _ m => nomatch m) (fun _ m => nomatch m) (fun _ m => nomatch m) fun b m => .inl m
theorem t_for {tg : Tg} {kk : Ik} {a b : E} {body : S} {D : Ends} {σ : L2.St} {H : Hp} (q : tS K C (.for tg kk a b body) D σ H) : tFor (tI K C false kk a b) (gT K tg) (tS K C body) D σ H := by
  obtain ⟨ρ, L, B0, env, h, o, s, ee, q⟩ := q
  simp only [evS] at ee
  obtain ⟨⟨items, h1⟩, e1, ee⟩ := Option.bind_eq_some_iff.mp ee
  generalize hf : (fun (x : PV) (env : Sls) (h : Hh) => (asg tg x env).bind fun env1 => evS C body env1 h) = f at ee
  refine ⟨ρ, L ++ B0, L, env, h, items, h1, s.g, s.z, e1, fun ρ1 P J H1 n1 g1 f1 src => ?_⟩
  have src : Src K ρ1 (L ++ B0) L H1 J items := Src.drop (fun a m => List.mem_append_right _ m) src
  have n1' := n1.to fun a (m : a ∈ L ++ B0) => List.mem_append_right P m
  have s1 : Stt K ρ1 L B0 env h1 σ H1 := ⟨g1.drop (List.sublist_append_right _ _), s.z.nxt s.g n1'⟩
  let Pv : Nat → L2.St → Hp → Prop := fun i σ H2 => ∃ ρi Li envi hi, Sx ρ L H ρi Li H2 ∧ Stt K ρi Li B0 envi hi σ H2 ∧ Src K ρi (Li ++ B0) Li H2 J items ∧ loop f (items.drop i) envi hi = some o
  refine for_it Src.walk Pv ⟨ρ1, L, env, h1, Sx.of n1' fun a m => .inl m, s1, src, ee⟩ (fun i σ H _ ⟨ρi, Li, _, _, _, _, q, _⟩ => ⟨ρi, _, Li, q⟩) ?_ ?_
  · intro i x σ2 H2 H2' hi ⟨ρi, Li, envi, hh, xx, ss, sr, el⟩ y
    obtain ⟨it, ei, ri, g2, n2⟩ := y ρi (Li ++ B0) Li hh sr ss.g
    have ht : items.drop i = it :: items.drop (i + 1) := by
      rw [List.drop_eq_getElem_cons hi]
      congr 1
      rw [List.getElem?_eq_getElem hi] at ei
      exact Option.some.inj ei
    rw [ht, loop] at el
    obtain ⟨ob, eb, el⟩ := Option.bind_eq_some_iff.mp el
    rw [← hf] at eb
    obtain ⟨env1, ea, eb⟩ := Option.bind_eq_some_iff.mp eb
    have s2 : Stt K ρi Li B0 envi hh σ2 H2' := ⟨g2, ss.z.nxt ss.g n2⟩
    have x2 : Sx ρ L H ρi Li H2' := xx.trans ss.g (Sx.of n2 fun a m => .inl m)
    have sr2 := sr.next n2 ss.g
    refine asg_ok tg s2.z ea ri fun σ3 z3 _ => ⟨ρi, Li, B0, env1, hh, ob, ⟨g2, z3⟩, eb, ?_⟩
    have w : ∀ a, a ∈ ρi ∨ a ∈ Li → LD H2' a := fun a m => s2.wr m
    cases ob with
    | nx env2 h2 => exact fun ρ' L' σ' H' x' s' => ⟨ρ', L', env2, h2, x2.trans g2 x', s', sr2.sx x' w, el⟩
    | ct env2 h2 => exact fun ρ' L' σ' H' x' s' => ⟨ρ', L', env2, h2, x2.trans g2 x', s', sr2.sx x' w, el⟩
    | bk env2 h2 => cases el; exact fun ρ' L' σ' H' x' s' => q ρ' L' σ' H' (x2.trans g2 x') s'
    | rt r h2 => cases el; exact fun ρ' L' v H' x' g' r' i' => q ρ' L' v H' (x2.trans g2 x') g' r' i'
  · intro σ2 H2 ⟨ρi, Li, envi, hh, xx, ss, sr, el⟩
    rw [List.drop_length, loop] at el
    cases el
    exact q ρi Li σ2 H2 xx ss
theorem t_whil {n : Nat} {t : E} {body : S} {D : Ends} {σ : L2.St} {H : Hp} (q : tS K C (.whil n t body) D σ H) : tWhile (tT K C t) (tS K C body) D σ H := by
  obtain ⟨ρ, L, B0, env, h, o, s, ee, q⟩ := q
  simp only [evS] at ee
  refine ⟨fun m σ2 H2 => ∃ ρi Li envi hi, Sx ρ L H ρi Li H2 ∧ Stt K ρi Li B0 envi hi σ2 H2 ∧ wloop (evt C t) (evS C body) m envi hi = some o, ⟨n, ρ, L, env, h, Sx.refl, s, ee⟩, ?_⟩
  intro m σ2 H2 ⟨ρi, Li, envi, hh, xx, ss, el⟩
  cases m with
  | zero => cases el
  | succ m =>
    rw [wloop] at el
    obtain ⟨⟨c, h1⟩, e1, el⟩ := Option.bind_eq_some_iff.mp el
    refine ⟨ρi, Li ++ B0, Li, envi, hh, c, h1, ss.g, ss.z, e1, fun ρ1 H1 n1 g1 => ?_⟩
    have x1 : Sx ρ L H ρ1 Li H1 := xx.trans ss.g (Sx.of n1 fun a m => .inl m)
    have s1 : Stt K ρ1 Li B0 envi h1 σ2 H1 := ⟨g1, ss.z.nxt ss.g n1⟩
    cases c with
    | false =>
      simp only [Bool.false_eq_true, if_false, Option.some.injEq] at el
      subst el
      dsimp only
      rw [if_neg Bool.false_ne_true]
      exact q ρ1 Li σ2 H1 x1 s1
    | true =>
      simp only [if_true] at el
      obtain ⟨ob, eb, el⟩ := Option.bind_eq_some_iff.mp el
      dsimp only
      rw [if_pos rfl]
      refine ⟨fun σ3 H3 => ∃ ρi Li envi hi, Sx ρ L H ρi Li H3 ∧ Stt K ρi Li B0 envi hi σ3 H3 ∧ wloop (evt C t) (evS C body) m envi hi = some o, fun σ' H' z => ⟨m, Nat.lt_succ_self m, z⟩, ρ1, Li, B0, envi, h1, ob, s1, eb, ?_⟩
      cases ob with
      | nx env2 h2 => exact fun ρ' L' σ' H' x' s' => ⟨ρ', L', env2, h2, x1.trans g1 x', s', el⟩
      | ct env2 h2 => exact fun ρ' L' σ' H' x' s' => ⟨ρ', L', env2, h2, x1.trans g1 x', s', el⟩
      | bk env2 h2 => cases el; exact fun ρ' L' σ' H' x' s' => q ρ' L' σ' H' (x1.trans g1 x') s'
      | rt r h2 => cases el; exact fun ρ' L' v H' x' g' r' i' => q ρ' L' v H' (x1.trans g1 x') g' r' i'
end
/-! ### what is returned -/
section
variable {G : Gb} {k : Nat} {s : Sc} {X : Cx}
theorem call_nb {ds : List Def} {k f : Nat} {vs : List PV} {h h' : Hh} {r : R} (e : callK ds k f vs h = some (r, h')) : r.nb = true := by
  cases k with
  | zero => cases e
  | succ k =>
    simp only [callK] at e
    obtain ⟨d, _, e⟩ := Option.bind_eq_some_iff.mp e
    split at e
    · obtain ⟨o, _, e⟩ := Option.bind_eq_some_iff.mp e
      unfold out at e
      split at e <;> first
        | (cases e; rfl)
        | cases e
    · cases e
theorem rv_of {C : Call} {e : E} {e' : Expr} (he : PE X e' (tE X.K C e)) (nb : ∀ env h r h', ev C e env h = some (r, h') → r.nb = true) : PE X e' (tRv X.K C e) := by
  refine pew he fun σ H Q ⟨ρ, L, B0, env, h, r, h', s, ee, q⟩ => ⟨ρ, L ++ B0, L, env, h, r, h', s.g, s.z, ee, fun ρ' B' x H' n g q' p => ?_⟩
  have hnb := nb _ _ _ _ ee
  cases r with
  | pv v =>
    obtain rfl : B' = L ++ B0 := p
    exact q ρ' L x H' (Sx.of n fun a m => .inl m) g q' fun h => by cases h
  | fr ob =>
    obtain ⟨a, rfl, rfl, f⟩ := p
    refine q ρ' (a :: L) _ H' (Sx.of n fun b m => ?_) g q' fun _ => ⟨a, List.mem_cons_self, rfl⟩
    rcases List.mem_cons.mp m with c | c
    · rw [c]; exact .inr f
    · exact .inl c
  | br ob => cases hnb
theorem nbd {α β : Type} {x : Option α} {f : α → Option (R × Hh)} {r : R} {h' : Hh} (e : x.bind f = some (r, h')) (w : ∀ a, f a = some (r, h') → r.nb = true) : r.nb = true := by
  obtain ⟨a, _, e⟩ := Option.bind_eq_some_iff.mp e
  exact w a e
theorem ev_nb1 {ds : List Def} {e : E} (ok : match e with | .var _ => False | .and _ _ => False | .or _ _ => False | .ife _ _ _ => False | _ => True) : e.noBr = true → ∀ env h r h', ev (callK ds k) e env h = some (r, h') → r.nb = true := by
  intro _ env h r h' ee
  cases e <;> first
    | exact ok.elim
    | skip
  all_goals simp only [ev] at ee
  case con => cases ee; rfl
  case glob => cases ee; rfl
  case tup => obtain ⟨p, _, ee⟩ := Option.bind_eq_some_iff.mp ee; split at ee <;> cases ee; rfl
  case lst => obtain ⟨p, _, ee⟩ := Option.bind_eq_some_iff.mp ee; split at ee <;> cases ee; rfl
  case nil => cases ee
  case cons => cases ee
  case bin => obtain ⟨p, _, ee⟩ := Option.bind_eq_some_iff.mp ee; obtain ⟨p2, _, ee⟩ := Option.bind_eq_some_iff.mp ee; obtain ⟨p3, e3, ee⟩ := Option.map_eq_some_iff.mp ee; cases ee; exact bop_nb e3
  case neg => obtain ⟨p, _, ee⟩ := Option.bind_eq_some_iff.mp ee; split at ee <;> cases ee; rfl
  case cmp => obtain ⟨p, _, ee⟩ := Option.bind_eq_some_iff.mp ee; obtain ⟨p2, _, ee⟩ := Option.bind_eq_some_iff.mp ee; obtain ⟨p3, e3, ee⟩ := Option.map_eq_some_iff.mp ee; cases ee; rfl
  case chain =>
    obtain ⟨p, _, ee⟩ := Option.bind_eq_some_iff.mp ee; obtain ⟨p2, _, ee⟩ := Option.bind_eq_some_iff.mp ee; obtain ⟨p3, e3, ee⟩ := Option.bind_eq_some_iff.mp ee
    split at ee
    · obtain ⟨p4, _, ee⟩ := Option.bind_eq_some_iff.mp ee; obtain ⟨p5, e3, ee⟩ := Option.map_eq_some_iff.mp ee; cases ee; rfl
    · cases ee; rfl
  case isN => obtain ⟨p, _, ee⟩ := Option.map_eq_some_iff.mp ee; cases ee; rfl
  case not => obtain ⟨p, _, ee⟩ := Option.bind_eq_some_iff.mp ee; obtain ⟨p3, e3, ee⟩ := Option.map_eq_some_iff.mp ee; cases ee; rfl
  case idx => obtain ⟨p, _, ee⟩ := Option.bind_eq_some_iff.mp ee; obtain ⟨p2, _, ee⟩ := Option.bind_eq_some_iff.mp ee; obtain ⟨p3, e3, ee⟩ := Option.map_eq_some_iff.mp ee; cases ee; exact ix_nb e3
  case slc => obtain ⟨p, _, ee⟩ := Option.bind_eq_some_iff.mp ee; obtain ⟨p2, _, ee⟩ := Option.bind_eq_some_iff.mp ee; obtain ⟨p4, _, ee⟩ := Option.bind_eq_some_iff.mp ee; obtain ⟨p3, e3, ee⟩ := Option.map_eq_some_iff.mp ee; cases ee; exact sl_nb e3
  case rev =>
    obtain ⟨p, _, ee⟩ := Option.bind_eq_some_iff.mp ee; obtain ⟨p3, e3, ee⟩ := Option.map_eq_some_iff.mp ee; cases ee
    unfold rvR at e3
    split at e3 <;> cases e3
    rfl
  case call => obtain ⟨p, _, ee⟩ := Option.bind_eq_some_iff.mp ee; exact call_nb ee
  case blt => obtain ⟨p, _, ee⟩ := Option.bind_eq_some_iff.mp ee; obtain ⟨p3, e3, ee⟩ := Option.map_eq_some_iff.mp ee; cases ee; exact blt_nb e3
  case mth =>
    obtain ⟨p, _, ee⟩ := Option.bind_eq_some_iff.mp ee
    split at ee
    · obtain ⟨p, _, ee⟩ := Option.bind_eq_some_iff.mp ee; obtain ⟨p3, e3, ee⟩ := Option.map_eq_some_iff.mp ee; cases ee; exact mth_nb e3
    · cases ee
  case isin => obtain ⟨p, _, ee⟩ := Option.bind_eq_some_iff.mp ee; obtain ⟨p3, e3, ee⟩ := Option.map_eq_some_iff.mp ee; cases ee; rfl
  case setlen =>
    obtain ⟨p, _, ee⟩ := Option.bind_eq_some_iff.mp ee; obtain ⟨p2, _, ee⟩ := Option.bind_eq_some_iff.mp ee
    split at ee
    · cases ee
    obtain ⟨p3, _, ee⟩ := Option.bind_eq_some_iff.mp ee
    split at ee <;> cases ee
    rfl
  case lc =>
    obtain ⟨p, _, ee⟩ := Option.bind_eq_some_iff.mp ee; obtain ⟨p2, _, ee⟩ := Option.bind_eq_some_iff.mp ee; obtain ⟨p3, _, ee⟩ := Option.bind_eq_some_iff.mp ee; obtain ⟨p4, _, ee⟩ := Option.bind_eq_some_iff.mp ee
    split at ee <;> cases ee
    rfl
theorem ev_nb {ds : List Def} : ∀ {e : E}, e.noBr = true → ∀ env h r h', ev (callK ds k) e env h = some (r, h') → r.nb = true := by
  intro e
  induction e with
  | var i => intro ok; cases ok
  | and a b iha ihb =>
    intro ok env h r h' ee
    rw [E.noBr, Bool.and_eq_true] at ok
    simp only [ev] at ee
    obtain ⟨p, e1, ee⟩ := Option.bind_eq_some_iff.mp ee
    obtain ⟨c, e2, ee⟩ := Option.bind_eq_some_iff.mp ee
    split at ee
    · exact ihb ok.2 _ _ _ _ ee
    · cases ee; exact iha ok.1 _ _ _ _ e1
  | or a b iha ihb =>
    intro ok env h r h' ee
    rw [E.noBr, Bool.and_eq_true] at ok
    simp only [ev] at ee
    obtain ⟨p, e1, ee⟩ := Option.bind_eq_some_iff.mp ee
    obtain ⟨c, e2, ee⟩ := Option.bind_eq_some_iff.mp ee
    split at ee
    · cases ee; exact iha ok.1 _ _ _ _ e1
    · exact ihb ok.2 _ _ _ _ ee
  | ife t a b iht iha ihb =>
    intro ok env h r h' ee
    rw [E.noBr, Bool.and_eq_true] at ok
    simp only [ev] at ee
    obtain ⟨p, e1, ee⟩ := Option.bind_eq_some_iff.mp ee
    obtain ⟨c, e2, ee⟩ := Option.bind_eq_some_iff.mp ee
    split at ee
    · exact iha ok.1 _ _ _ _ ee
    · exact ihb ok.2 _ _ _ _ ee
  | _ => exact ev_nb1 (by trivial)
theorem rv (o : Ok G k s X) : ∀ (e : E) {e' : Expr}, e.retOk = true → chkE G e s e' = true → PE X e' (tRv X.K (callK G.ds k) e) := fun e => by
  induction e with
  | var i =>
    intro e' _ h
    cases e' <;> simp only [chkE, Bool.false_eq_true, Bool.and_eq_true, decide_eq_true_eq] at h
    obtain ⟨d1, d2⟩ := okName_d h.2
    refine pew (pe_var (by rw [o.N]; exact h.1.1) (o.vis h.1.2) d1 d2) fun σ H Q ⟨ρ, L, B0, env, hh, r, h', st, ee, q⟩ => ?_
    simp only [ev] at ee
    split at ee
    · cases ee
      obtain ⟨x, e1, r1⟩ := st.z.sh i _ (by assumption)
      exact ⟨x, e1, q ρ L x H Sx.refl st.g r1 fun h => by cases h⟩
    · cases ee
      obtain ⟨a, e1, m, r1⟩ := st.z.ow i _ (by assumption)
      exact ⟨_, e1, q ρ L _ H Sx.refl st.g ⟨a, rfl, st.z.sub a m, r1⟩ fun _ => ⟨a, m, rfl⟩⟩
    · cases ee
  | ife t a b iht iha ihb =>
    intro e' ok h
    rw [E.retOk, Bool.and_eq_true] at ok
    cases e' <;> simp only [chkE, Bool.false_eq_true, Bool.and_eq_true] at h
    refine pew (pe_ifExp ((snd G k t).one o _ h.1.1).2 (iha ok.1 h.1.2) (ihb ok.2 h.2)) fun σ H Q ⟨ρ, L, B0, env, hh, r, h', st, ee, q⟩ => ?_
    simp only [ev] at ee
    obtain ⟨⟨r1, h1⟩, e1, ee⟩ := Option.bind_eq_some_iff.mp ee
    obtain ⟨t, e2, e3⟩ := Option.bind_eq_some_iff.mp ee
    refine ⟨ρ, L ++ B0, L, env, hh, t, h1, st.g, st.z, by simp only [evt, e1, Option.bind_some, e2, Option.map_some], fun ρ1 H1 n1 g1 => ?_⟩
    have x1 : Sx ρ L H ρ1 L H1 := Sx.of n1 fun a m => .inl m
    have s1 : Stt X.K ρ1 L B0 env h1 σ H1 := ⟨g1, st.z.nxt st.g n1⟩
    cases t with
    | true => exact ⟨ρ1, L, B0, env, h1, r, h', s1, e3, fun ρ' L' x H' y => q ρ' L' x H' (x1.trans g1 y)⟩
    | false => exact ⟨ρ1, L, B0, env, h1, r, h', s1, e3, fun ρ' L' x H' y => q ρ' L' x H' (x1.trans g1 y)⟩
  | and a b =>
    intro e' ok h
    exact rv_of ((snd G k _).one o _ h).1 (ev_nb (e := .and a b) ok)
  | or a b =>
    intro e' ok h
    exact rv_of ((snd G k _).one o _ h).1 (ev_nb (e := .or a b) ok)
  | _ =>
    intro e' _ h
    exact rv_of ((snd G k _).one o _ h).1 (ev_nb rfl)
end
end Ev

set_option maxRecDepth 100000
set_option maxHeartbeats 2000000
/-! EvQ: every block that the check lets through. -/
namespace Ev
open PySem PySem.Spec PyProof.Rows L2
section
variable {G : Gb} {k : Nat} {s : Sc} {X : Cx} {C : Call}
theorem pi_of (o : Ok G k s X) {br : Bool} {kk : Ik} {a b : E} {tg' it' : Expr} (h : chkI G kk a b s tg' it' = true) : PI X tg' it' (tI X.K (callK G.ds k) br kk a b) ∧ isSetE it' = false := by
  unfold chkI at h
  rw [Bool.and_eq_true] at h
  obtain ⟨h0, h⟩ := h
  refine ⟨?_, by simpa using h0⟩
  cases kk with
  | val =>
    simp only [Bool.and_eq_true] at h
    exact pi_vl ((snd G k a).one o _ h.2).1 h.1
  | rng1 =>
    simp only [Bool.and_eq_true] at h
    obtain ⟨h7, h8⟩ := h
    split at h8
    · simp only [Bool.and_eq_true, decide_eq_true_eq, Bool.not_eq_true'] at h8
      obtain ⟨⟨⟨h8, h9⟩, h10⟩, h11⟩ := h8
      subst h8
      exact pi_r1 o h9 h10 ((snd G k a).one o _ h11).1 h7
    · cases h8
  | rng2 =>
    simp only [Bool.and_eq_true] at h
    obtain ⟨h7, h8⟩ := h
    split at h8
    · simp only [Bool.and_eq_true, decide_eq_true_eq, Bool.not_eq_true'] at h8
      obtain ⟨⟨⟨⟨⟨h8, h9⟩, h10⟩, h11⟩, h12⟩, h13⟩ := h8
      subst h8
      exact pi_r2 o h9 h10 h11 ((snd G k a).one o _ h12).1 ((snd G k b).one o _ h13).1 (by simpa using h7)
    · cases h8
  | enum =>
    simp only [Bool.and_eq_true] at h
    obtain ⟨⟨h7, h8⟩, h9⟩ := h
    split at h9
    · simp only [Bool.and_eq_true, decide_eq_true_eq, Bool.not_eq_true'] at h9
      obtain ⟨⟨⟨h9, h10⟩, h11⟩, h12⟩ := h9
      subst h9
      split at h8
      · exact pi_en o h10 h11 ((snd G k a).one o _ h12).1 h7
      · cases h8
    · cases h9
  | zip => cases h
theorem sole_tup {env : Env} {v : Expr} {l : Nat} {ts : List Expr} {kk : Nat} {p : Pos} : swapsWithSole [.Tuple ts kk p] v l env = pure false := by
  show swapsWith v (some (.Tuple ts kk p)) l env = pure false
  exact sw_tup
theorem sole_sub {env : Env} {v a b : Expr} {l : Nat} {p : Pos} : swapsWithSole [.Subscript a b p] v l env = pure false := by
  show swapsWith v (some (.Subscript a b p)) l env = pure false
  exact sw_sub
theorem stores_sub {env : Env} {v a b : Expr} {p : Pos} : swappedStores [.Subscript a b p] v env = pure none := by cases v <;> rfl
theorem tR_mono {K : PySem.W.Frag} {es : E} {σ : L2.St} {H : Hp} {Q Q' : List V → Hp → Prop} (w : ∀ xs H', Q xs H' → Q' xs H') (q : tR K C es σ H Q) : tR K C es σ H Q' := by
  obtain ⟨ρ, B, L, env, h, rs, h', g, z, e, q⟩ := q
  exact ⟨ρ, B, L, env, h, rs, h', g, z, e, fun ρ' P xs H' n g r f => w _ _ (q ρ' P xs H' n g r f)⟩
/-- what a statement's context is to have -/
structure Kx (G : Gb) (k : Nat) (s : Sc) (X : Cx) : Prop where
  o : Ok G k s X
  hp : PassesOwn (model X.prog X.w) X.A X.env X.xe
  fn : isFn s.sc = true
structure Bs (G : Gb) (k : Nat) (b : S) : Prop where
  st : ∀ {s : Sc} {X : Cx}, Kx G k s X → ∀ st', chkS G b s st' = true → PS X st' (tS X.K (callK G.ds k) b)
  bk : ∀ {s : Sc} {X : Cx}, Kx G k s X → ∀ sts, chkB G b s sts = true → PSs X sts (tS X.K (callK G.ds k) b)
theorem Kx.kind (c : Kx G k s X) : X.env.scope.kind = .function := by rw [c.o.sc]; exact isFn_of c.fn
theorem loc_of (o : Ok G k s X) {x : Str} (h : isLocal s x = true) : X.env.scope.names.lookup x = some .local := by
  rw [o.sc]
  simpa [isLocal] using h
theorem ps_ass (c : Kx G k s X) {tg : Tg} {e : E} {t' e' : Expr} {p : Pos} (h1 : chkT tg s t' = true) (h2 : chkE G e s e' = true) (h3 : assOk s e t' e' = true) : PS X (.Assign [t'] e' p) (tS X.K (callK G.ds k) (.ass tg e)) := by
  have hN : X.N.Nodup := by rw [c.o.N]; exact c.o.nd
  have he := ((snd G k e).one c.o _ h2).1
  unfold assOk at h3
  split at h3
  · rename_i x px
    cases tg <;> simp only [chkT, Bool.false_eq_true, Bool.and_eq_true, decide_eq_true_eq] at h1
    rename_i i
    have hi : X.N[i]? = some x := by rw [c.o.N]; exact h1.1
    obtain ⟨l1, l2⟩ := c.o.sto h1.2
    cases sb : swB e' x px s.sc with
    | false => exact psw (ps_set hN hi l1 he (by rw [sw_eq c.kind, c.o.sc, sb]) l2) fun D σ H q => t_assV q
    | true =>
      rw [sb, Bool.not_true, Bool.false_or, Bool.and_eq_true] at h3
      cases e <;> simp only [isLc, Bool.false_eq_true, false_and] at h3
      rename_i own elt tg kk a b cd
      obtain ⟨elt', tg', it', ifs', scope, p2, rfl, f1, f2, f3, f4, f5, f6, f7⟩ := lc_parts c.o (snd G k elt) (snd G k a) (snd G k b) (snd G k cd) h2
      have key := ps_setLc (py := px) (pos := p2) (spos := p) c.o.calm hN hi (loc_of c.o h3.2) (by rw [sw_eq c.kind, c.o.sc, sb]) f2 f3 f4 f5 f6 f7
      rw [own_snd] at key
      exact psw key fun D σ H q => lc_sim f1 (t_assV q)
  · rename_i ts kk p2
    cases tg with
    | t tt =>
      refine psw (ps_asg he (tgt_ok c.o (.t tt) h1) sole_tup ?_) fun D σ H q => t_assT q
      split at h3
      · rw [decide_eq_true_eq] at h3
        exact swS_eq c.kind (by rw [c.o.sc]; exact h3)
      · rename_i hn
        exact swS_no fun vs k2 p2 => hn vs k2 p2
    | _ => simp [chkT] at h1
  · cases h3
theorem ps_parr (c : Kx G k s X) {is : List Nat} {es : E} {ts vs : List Expr} {k1 k2 : Nat} {p1 p2 p : Pos} (h1 : chkEs G es s vs = true) (h2 : parOk is s ts vs = true) : PS X (.Assign [.Tuple ts k1 p1] (.Tuple vs k2 p2) p) (tS X.K (callK G.ds k) (.par is es)) := by
  have hN : X.N.Nodup := by rw [c.o.N]; exact c.o.nd
  have ha := ((snd G k es).row c.o _ h1).2
  unfold parOk at h2
  split at h2
  · simp only [Bool.and_eq_true, decide_eq_true_eq] at h2
    obtain ⟨⟨⟨⟨⟨e1, e2⟩, e3⟩, e4⟩, e5⟩, e6⟩ := h2
    refine psw (ps_par c.o.calm hN (by rw [c.o.N]; exact e2) (by rw [c.o.N]; exact e3) e4 (loc_of c.o e5) (loc_of c.o e6) ha (swS_eq c.kind (by rw [c.o.sc]; exact e1)) sole_tup) fun D σ H q => ?_
    refine tR_mono (fun xs H' ⟨hl, q⟩ => ?_) (t_par q)
    match xs, hl, q with
    | [v, w], _, q => exact ⟨v, w, rfl, q⟩
  · simp only [Bool.and_eq_true, decide_eq_true_eq] at h2
    obtain ⟨⟨⟨⟨⟨⟨⟨⟨⟨e1, e2⟩, e3⟩, e4⟩, e5⟩, e6⟩, e7⟩, e8⟩, e9⟩, e10⟩ := h2
    refine psw (ps_par3 c.o.calm hN (by rw [c.o.N]; exact e2) (by rw [c.o.N]; exact e3) (by rw [c.o.N]; exact e4) e5 e6 e7 (loc_of c.o e8) (loc_of c.o e9) (loc_of c.o e10) ha (swS_eq c.kind (by rw [c.o.sc]; exact e1)) sole_tup) fun D σ H q => ?_
    refine tR_mono (fun xs H' ⟨hl, q⟩ => ?_) (t_par q)
    match xs, hl, q with
    | [u, v, w], _, q => exact ⟨u, v, w, rfl, q⟩
  · cases h2
theorem asg_sub {o' i' : Expr} {p : Pos} {env : Env} (h : isSliceE i' = false) : ∀ v, assign (.Subscript o' i' p) env v = (do
      let ov ← holding [v] (eval o' env)
      let iv ← holding [v, ov] (eval i' env)
      standAt p
      holding [v, ov, iv] (setItem ov iv v)
      release [v, ov, iv] []) := fun v => by
  cases i' <;> first
    | rfl
    | cases h
theorem ps_appp (c : Kx G k s X) {sl : Nat} {e : E} {e' : Expr} {x : Str} {p0 p2 p p9 : Pos} (h1 : s.N[sl]? = some x) (h2 : s.vis x = true) (h3 : okName x = true) (h4 : isStar e' = false) (h5 : (p2.endLine == p.line) = true) (h6 : chkE G e s e' = true) :
    PS X (.Expr (.Call (.Attribute (.Name x p0) "append" p2) [e'] [] p) p9) (tS X.K (callK G.ds k) (.app sl e)) := by
  obtain ⟨d1, d2⟩ := okName_d h3
  have pa : PA X [e'] (tA X.K (callK G.ds k) (.cons e .nil)) := pa_c h4 ((snd G k e).one c.o _ h6).1 pa_n
  have few : ((backTo p (starEach [e'] X.env)).all (fun x => !x.1) && (backToKw p (keywordEach [] X.env)).all (fun x => x.1.isSome)
      && decide ([e'].length + ([] : List Keyword).length + (if ([] : List Keyword).isEmpty then 0 else 1) < 30)) = true := by
    rw [back_all (es := [e']) (by simp [h4])]
    rfl
  exact psw (ps_expr (pe_bm PySem.F.plainAttrs_list PySem.F.slot_list_append PySem.F.type_list_append mt_append (pe_var (by rw [c.o.N]; exact h1) (c.o.vis h2) d1 d2) pa rfl few h5 (star_one h4) rfl) rfl) fun D σ H q => t_app q
theorem bsnd (G : Gb) (k : Nat) : ∀ b : S, Bs G k b := fun b => by
  induction b with
  | ass tg e =>
    refine ⟨fun c st' h => ?_, fun c sts h => by simp [chkB] at h⟩
    simp only [chkS] at h
    split at h
    · rw [Bool.and_eq_true, Bool.and_eq_true] at h
      exact ps_ass c h.1.1 h.1.2 h.2
    · cases h
  | par is es =>
    refine ⟨fun c st' h => ?_, fun c sts h => by simp [chkB] at h⟩
    simp only [chkS] at h
    split at h
    · rw [Bool.and_eq_true] at h
      exact ps_parr c h.1 h.2
    · cases h
  | sub oe i e =>
    refine ⟨fun c st' h => ?_, fun c sts h => by simp [chkB] at h⟩
    simp only [chkS] at h
    split at h
    · simp only [Bool.and_eq_true, Bool.not_eq_true'] at h
      obtain ⟨⟨⟨h0, h1⟩, h2⟩, h3⟩ := h
      exact psw (ps_asg ((snd G k e).one c.o _ h3).1 (pg_sub ((snd G k oe).one c.o _ h1).1 ((snd G k i).one c.o _ h2).1 set_list (asg_sub h0)) sole_sub stores_sub) fun D σ H q => t_sub q
    · cases h
  | app sl e =>
    refine ⟨fun c st' h => ?_, fun c sts h => by simp [chkB] at h⟩
    simp only [chkS] at h
    split at h
    · simp only [Bool.and_eq_true, decide_eq_true_eq, Bool.not_eq_true'] at h
      obtain ⟨⟨⟨⟨⟨⟨h0, h1⟩, h2⟩, h3⟩, h4⟩, h5⟩, h6⟩ := h
      subst h0
      exact ps_appp c h1 h2 h3 h4 h5 h6
    · cases h
  | ex e =>
    refine ⟨fun c st' h => ?_, fun c sts h => by simp [chkB] at h⟩
    simp only [chkS] at h
    split at h
    · simp only [Bool.and_eq_true, Bool.not_eq_true'] at h
      exact psw (ps_expr ((snd G k e).one c.o _ h.2).1 (swap_no h.1)) fun D σ H q => t_ex q
    · cases h
  | ret e =>
    refine ⟨fun c st' h => ?_, fun c sts h => by simp [chkB] at h⟩
    simp only [chkS] at h
    split at h
    · rw [Bool.and_eq_true] at h
      exact psw (ps_ret (rv c.o e h.1 h.2)) fun D σ H q => t_ret q
    · cases h
  | retN =>
    refine ⟨fun c st' h => ?_, fun c sts h => by simp [chkB] at h⟩
    simp only [chkS] at h
    split at h
    · exact psw ps_retN fun D σ H q => t_retN q
    · cases h
  | ite t a b iha ihb =>
    refine ⟨fun c st' h => ?_, fun c sts h => by simp [chkB] at h⟩
    simp only [chkS] at h
    split at h
    · simp only [Bool.and_eq_true] at h
      exact psw (ps_if ((snd G k t).one c.o _ h.1.1).2 (iha.bk c _ h.1.2) (ihb.bk c _ h.2)) fun D σ H q => t_ite q
    · cases h
  | «for» tg kk a b body ih =>
    refine ⟨fun c st' h => ?_, fun c sts h => by simp [chkB] at h⟩
    simp only [chkS] at h
    split at h
    · simp only [Bool.and_eq_true] at h
      obtain ⟨p1, p2⟩ := pi_of (br := false) c.o h.1.2
      exact psw (ps_for c.hp c.o.calm p1 (tgt_ok c.o tg h.1.1) (ih.bk c _ h.2) (fold_no p2)) fun D σ H q => t_for q
    · cases h
  | whil n t body ih =>
    refine ⟨fun c st' h => ?_, fun c sts h => by simp [chkB] at h⟩
    simp only [chkS] at h
    split at h
    · simp only [Bool.and_eq_true] at h
      exact psw (ps_while c.hp ((snd G k t).one c.o _ h.1).2 (ih.bk c _ h.2)) fun D σ H q => t_whil q
    · cases h
  | brk =>
    refine ⟨fun c st' h => ?_, fun c sts h => by simp [chkB] at h⟩
    simp only [chkS] at h
    split at h
    · refine psw ps_break fun D σ H ⟨ρ, L, B0, env, hh, o, s, ee, q⟩ => ?_
      simp only [evS, Option.some.injEq] at ee
      subst ee
      exact q ρ L σ H Sx.refl s
    · cases h
  | cnt =>
    refine ⟨fun c st' h => ?_, fun c sts h => by simp [chkB] at h⟩
    simp only [chkS] at h
    split at h
    · refine psw ps_continue fun D σ H ⟨ρ, L, B0, env, hh, o, s, ee, q⟩ => ?_
      simp only [evS, Option.some.injEq] at ee
      subst ee
      exact q ρ L σ H Sx.refl s
    · cases h
  | pass =>
    refine ⟨fun c st' h => ?_, fun c sts h => by simp [chkB] at h⟩
    simp only [chkS] at h
    split at h
    · refine psw ps_pass fun D σ H ⟨ρ, L, B0, env, hh, o, s, ee, q⟩ => ?_
      simp only [evS, Option.some.injEq] at ee
      subst ee
      exact q ρ L σ H Sx.refl s
    · refine psw ps_doc fun D σ H ⟨ρ, L, B0, env, hh, o, s, ee, q⟩ => ?_
      simp only [evS, Option.some.injEq] at ee
      subst ee
      exact q ρ L σ H Sx.refl s
    · cases h
  | skip =>
    refine ⟨fun c st' h => by simp [chkS] at h, fun c sts h => ?_⟩
    cases sts with
    | nil => exact pssw pss_nil fun D σ H q => t_skip q
    | cons => simp [chkB] at h
  | seq a b iha ihb =>
    refine ⟨fun c st' h => by simp [chkS] at h, fun c sts h => ?_⟩
    cases sts with
    | nil => simp [chkB] at h
    | cons st rest =>
      rw [chkB, Bool.and_eq_true] at h
      exact pssw (pss_cons (iha.st c _ h.1) (ihb.bk c _ h.2)) fun D σ H q => t_seq q
  | frz i b ih =>
    refine ⟨fun c st' h => by simp [chkS] at h, fun c sts h => ?_⟩
    exact pssw (ih.bk c sts (by cases sts <;> simpa [chkB] using h)) fun D σ H q => t_frz q
  | prm i b ih =>
    refine ⟨fun c st' h => by simp [chkS] at h, fun c sts h => ?_⟩
    exact pssw (ih.bk c sts (by cases sts <;> simpa [chkB] using h)) fun D σ H q => t_prm q
end
end Ev

set_option maxRecDepth 100000
set_option maxHeartbeats 2000000
/-! EvR: all defs of a module, and its end. -/
namespace Ev
open PySem PySem.Spec PyProof.Rows L2
/-! ### plain parameters -/
def plainPars (p : Arguments) (ps : List Str) : Bool := p.posonlyargs.isEmpty && p.kwonlyargs.isEmpty && p.vararg.isNone && p.kwarg.isNone && decide (p.args.map (·.arg) = ps) && decide ps.Nodup
theorem zip_lookup : ∀ {ps : List Str} {us : List Value} {i : Nat} {x : Str}, ps.Nodup → us.length = ps.length → ps[i]? = some x → ∃ u, us[i]? = some u ∧ (ps.zip us).lookup x = some u
  | [], _, _, _, _, _, e => by simp at e
  | p :: ps, [], _, _, _, h, _ => by simp at h
  | p :: ps, u :: us, 0, x, _, _, e => by
    simp at e
    subst e
    exact ⟨u, rfl, by simp [List.lookup]⟩
  | p :: ps, u :: us, i + 1, x, nd, h, e => by
    have nd' := List.nodup_cons.mp nd
    obtain ⟨v, e1, e2⟩ := zip_lookup (i := i) (x := x) nd'.2 (by simpa using h) (by simpa using e)
    have hx : x ∈ ps := List.mem_of_getElem? (by simpa using e)
    have ne : (x == p) = false := by
      rw [beq_eq_false_iff_ne]
      exact fun c => nd'.1 (c ▸ hx)
    exact ⟨v, by simpa using e1, by rw [List.zip_cons_cons, List.lookup_cons, ne]; exact e2⟩
theorem zip_map {ps : List Str} {us : List Value} (nd : ps.Nodup) (h : us.length = ps.length) : (ps.filterMap fun n => ((ps.zip us).lookup n).map (n, ·)) = ps.zip us := by
  have key : ∀ (qs : List Str) (ws : List Value), ws.length = qs.length → (∀ (i : Nat) (x : Str), qs[i]? = some x → ∃ u, ws[i]? = some u ∧ (ps.zip us).lookup x = some u) → (qs.filterMap fun n => ((ps.zip us).lookup n).map (n, ·)) = qs.zip ws := by
    intro qs
    induction qs with
    | nil => intro ws _ _; rfl
    | cons q qs ih =>
      intro ws hl hk
      cases ws with
      | nil => simp at hl
      | cons w ws =>
        obtain ⟨u, e1, e2⟩ := hk 0 q rfl
        simp at e1
        subst e1
        rw [List.filterMap_cons, e2, List.zip_cons_cons]
        show (q, w) :: _ = _
        rw [ih ws (by simpa using hl) fun i x e => by simpa using hk (i + 1) x (by simpa using e)]
  exact key ps us h fun i x e => zip_lookup nd h e
theorem zip_none {ps : List Str} {us : List Value} (nd : ps.Nodup) (h : us.length = ps.length) : (ps.filter fun n => ((ps.zip us).lookup n).isNone) = [] := by
  rw [List.filter_eq_nil_iff]
  intro x m
  obtain ⟨i, hi, e⟩ := List.getElem_of_mem m
  obtain ⟨u, _, e2⟩ := zip_lookup (i := i) (x := x) nd h (by rw [List.getElem?_eq_getElem hi, e])
  rw [e2]
  simp
theorem bind_plain {x qual : Str} {params : Arguments} {body : List Stmt} {scope : Scope} {kV doc pm cdv ct : Value} {an : Option Addr} {ps : List Str} {us : List Value} (hp : plainPars params ps = true) (h : us.length = ps.length) :
    bindArgs (PySem.W.fnOf x qual params body scope .none kV doc pm an cdv ct) ⟨us, []⟩ = pure (ps.zip us) := by
  obtain ⟨po, ar, va, ko, kd, kw, df⟩ := params
  simp only [plainPars, Bool.and_eq_true, List.isEmpty_iff, Option.isNone_iff_eq_none, decide_eq_true_eq] at hp
  obtain ⟨⟨⟨⟨⟨rfl, rfl⟩, rfl⟩, rfl⟩, e⟩, nd⟩ := hp
  have h1 := zip_map nd h
  have h2 := zip_none nd h
  unfold bindArgs PySem.W.fnOf
  simp only [List.map_nil, List.nil_append, List.append_nil, e]
  rw [show seqItems? Value.none = pure none from rfl]
  have hgt : ¬ us.length > ps.length := by omega
  simp only [List.forIn_nil, pure_bind]
  rw [if_neg (by simp [hgt])]
  have e0 : ((none : Option (Array Value)).getD #[]).toList = [] := rfl
  simp only [e0, List.drop_nil, List.length_nil, Nat.sub_zero, List.take_length, h2, List.isEmpty_nil, Bool.not_true, Bool.false_eq_true, if_false, List.drop_length, List.zip_nil_left, List.forIn_nil, pure_bind, h1]
/-! ### the module's own data -/
mutual
def pvB (K : PySem.W.Frag) : PV → Value → Bool
  | .non, .none => true
  | .bl b, .bool c => b == c
  | .int i, .int j _ => decide (i = j)
  | .str x, .str y _ => decide (x = y)
  | .tup xs, .ref a => (match K.lookup a with
    | some ⟨.type c, _, .seq its _, _⟩ => decide (c = "tuple") && (decide (its.size ≤ sizeLine) && pvBs K xs its.toList)
    | _ => false)
  | .kl xs, .ref a => (match K.lookup a with
    | some ⟨.type c, none, .seq its _, _⟩ => decide (c = "list") && (decide (its.size ≤ sizeLine) && pvBs K xs its.toList)
    | _ => false)
  | _, _ => false
def pvBs (K : PySem.W.Frag) : List PV → List Value → Bool
  | [], [] => true
  | x :: xs, u :: us => pvB K x u && pvBs K xs us
  | _, _ => false
end
mutual
theorem pvB_ok {K : PySem.W.Frag} : ∀ (v : PV) (u : Value), pvB K v u = true → ∃ y, RelV y u ∧ ∀ ρ B H, Rep K ρ B H v y
  | .non, u, h => by cases u <;> first | (cases h; done) | exact ⟨.non, rfl, fun _ _ _ => .non⟩
  | .bl b, u, h => by
    cases u <;> first | (cases h; done) | skip
    rename_i c
    rw [pvB, beq_iff_eq] at h
    subst h
    exact ⟨.bl b, rfl, fun _ _ _ => .bl b⟩
  | .int i, u, h => by
    cases u <;> first | (cases h; done) | skip
    rename_i c tk
    rw [pvB, decide_eq_true_eq] at h
    subst h
    exact ⟨.int i, ⟨_, rfl⟩, fun _ _ _ => .int i⟩
  | .str x, u, h => by
    cases u <;> first | (cases h; done) | skip
    rename_i c tk
    rw [pvB, decide_eq_true_eq] at h
    subst h
    exact ⟨.str x, ⟨_, rfl⟩, fun _ _ _ => .str x⟩
  | .tup xs, u, h => by
    cases u <;> first | (simp [pvB] at h; done) | skip
    rename_i a
    rw [pvB] at h
    cases q : K.lookup a with
    | none => rw [q] at h; cases h
    | some o =>
      obtain ⟨oc, od, dt, osl⟩ := o
      rw [q] at h
      cases oc <;> first | (cases h; done) | skip
      cases dt <;> first | (cases h; done) | skip
      rename_i c its n
      simp only [Bool.and_eq_true, decide_eq_true_eq] at h
      obtain ⟨h1, h2, h3⟩ := h
      subst h1
      obtain ⟨ys, r1, r2⟩ := pvBs_ok xs _ h3
      exact ⟨.ref a, rfl, fun ρ B H => .tup (.inr ⟨_, its, n, q, rfl, rfl, h2, r1⟩) (r2 ρ B H)⟩
  | .kl xs, u, h => by
    cases u <;> first | (simp [pvB] at h; done) | skip
    rename_i a
    rw [pvB] at h
    cases q : K.lookup a with
    | none => rw [q] at h; cases h
    | some o =>
      obtain ⟨oc, od, dt, osl⟩ := o
      rw [q] at h
      cases oc <;> first | (cases h; done) | (cases od <;> cases dt <;> cases h; done) | skip
      cases od <;> first | (cases dt <;> cases h; done) | skip
      cases dt <;> first | (cases h; done) | skip
      rename_i c its n
      simp only [Bool.and_eq_true, decide_eq_true_eq] at h
      obtain ⟨h1, h2, h3⟩ := h
      subst h1
      obtain ⟨ys, r1, r2⟩ := pvBs_ok xs _ h3
      exact ⟨.ref a, rfl, fun ρ B H => .kl (.inr (.inr ⟨_, its, n, q, rfl, rfl, rfl, h2, r1⟩)) (r2 ρ B H)⟩
  | .lst _, u, h => by cases u <;> simp [pvB] at h
  | .ref _, u, h => by cases u <;> simp [pvB] at h
theorem pvBs_ok {K : PySem.W.Frag} : ∀ (xs : List PV) (us : List Value), pvBs K xs us = true → ∃ ys, Vals ys us ∧ ∀ ρ B H, Reps K ρ B H xs ys
  | [], [], _ => ⟨[], .nil, fun _ _ _ => .nil⟩
  | [], _ :: _, h => by simp [pvBs] at h
  | _ :: _, [], h => by simp [pvBs] at h
  | x :: xs, u :: us, h => by
    rw [pvBs, Bool.and_eq_true] at h
    obtain ⟨y, r1, r2⟩ := pvB_ok x u h.1
    obtain ⟨ys, q1, q2⟩ := pvBs_ok xs us h.2
    exact ⟨y :: ys, .cons r1 q1, fun ρ B H => .cons (r2 ρ B H) (q2 ρ B H)⟩
end
def glB (K : PySem.W.Frag) (g : Str × PV) : Bool := match PySem.W.nsIn K mainGlobals g.1 with
  | some (some u) => pvB K g.2 u
  | _ => false
theorem glB_ok {K : PySem.W.Frag} {h : Heap} {mg : Str → Option Value} (X : K.In h) (G : h.Ns mainGlobals mg) {g : Str × PV} (c : glB K g = true) : ∃ u y, mg g.1 = some u ∧ RelV y u ∧ ∀ ρ B H, Rep K ρ B H g.2 y := by
  unfold glB at c
  cases e : PySem.W.nsIn K mainGlobals g.1 with
  | none => rw [e] at c; cases c
  | some o =>
    rw [e] at c
    cases o with
    | none => cases c
    | some u =>
      obtain ⟨y, r1, r2⟩ := pvB_ok g.2 u c
      exact ⟨u, y, PySem.W.mg_of X G e, r1, r2⟩
/-! ### what the head is to see -/
def faOf (G : Gb) : List He.Fa := G.ds.map (fun d => He.Fa.glo d.name) ++ bltNames.map He.Fa.free
def obsP (G : Gb) (fn : List He.DefD) (K : PySem.W.Frag) : He.AlD := ((He.obsD (faOf G) fn K).1 && G.globs.all fun g => glB K g, (He.obsD (faOf G) fn K).2)
def SaysP (G : Gb) (fn : List He.DefD) (K : PySem.W.Frag) : Prop := obsP G fn K = He.valD fn
def obsPG (n : Nat) (G : Gb) (fn : List He.DefD) (g : Addr → Option Obj) : He.AlD := obsP G fn (He.frG g (He.asD g n))
def hookP (n : Nat) (G : Gb) (fn : List He.DefD) : PySem.W.Hook where
  α := He.AlD
  obs := fun s => obsPG n G fn s.heap.get?
  val := fun _ => He.valD fn
  says := fun _ h => ∃ K : PySem.W.Frag, K.In h ∧ SaysP G fn K
  of := fun _ _ e => ⟨_, He.frG_in, e⟩
  keeps := fun _ _ _ ⟨K, hK, c⟩ k => ⟨K, PySem.W.Frag.In.keeps hK k, c⟩
theorem obsPG_eq {n : Nat} {G : Gb} {fn : List He.DefD} {g : Addr → Option Obj} {s : Shared} (h : ∀ a, g a = s.heap.get? a) : obsPG n G fn g = (hookP n G fn).obs s := by
  have e : g = s.heap.get? := funext h
  rw [e] <;> rfl
theorem SaysP.d {G : Gb} {fn : List He.DefD} {K : PySem.W.Frag} (c : SaysP G fn K) : He.SaysD (faOf G) fn K ∧ ∀ g ∈ G.globs, glB K g = true := by
  have c1 : ((He.obsD (faOf G) fn K).1 && G.globs.all fun g => glB K g) = true := congrArg (fun z : He.AlD => z.1) (show obsP G fn K = He.valD fn from c)
  have c2 : (He.obsD (faOf G) fn K).2 = (He.valD fn).2 := by
    have z : obsP G fn K = He.valD fn := c
    have z2 := congrArg Prod.snd z
    exact z2
  rw [Bool.and_eq_true, List.all_eq_true] at c1
  exact ⟨Prod.ext c1.1 c2, c1.2⟩
theorem SaysP.fact {G : Gb} {fn : List He.DefD} {K : PySem.W.Frag} (c : SaysP G fn K) {f : He.Fa} (m : f ∈ faOf G) : f.ok K = true := by
  have c1 : ((faOf G).all (fun f => f.ok K) && fn.all fun d => d.ok K) = true := congrArg (fun z : He.AlD => z.1) c.d.1
  rw [Bool.and_eq_true, List.all_eq_true] at c1
  exact c1.1 f m
/-! ### every def -/
def scOk (N ps : List Str) (sc : Scope) : Bool := isFn sc && !sc.isCoroutine && !sc.isGenerator && decide N.Nodup && decide (N.take ps.length = ps) &&
  (ps.all fun x => match sc.names.lookup x with | some .local => true | some .cell => true | _ => false) && sc.names.all fun y => match y.2 with | .free => false | _ => true
theorem scOk_by {N ps : List Str} {sc : Scope} (h : scOk N ps sc = true) : FnScope N ps sc := by
  simp only [scOk, Bool.and_eq_true, Bool.not_eq_true', decide_eq_true_eq, List.all_eq_true] at h
  obtain ⟨⟨⟨⟨⟨⟨h1, h2⟩, h3⟩, h4⟩, h5⟩, h6⟩, h7⟩ := h
  refine ⟨isFn_of h1, h2, h3, h4, h5, fun x hx => ?_, fun y hy e => ?_⟩
  · have q := h6 x hx
    split at q
    · exact .inl (by assumption)
    · exact .inr (by assumption)
    · cases q
  · have q := h7 y hy
    rw [e] at q
    cases q
def chkDef (G : Gb) (d : Def) (dd : He.DefD) : Bool := decide (dd.at_ = (d.name, none)) && decide (dd.name = d.name) && dd.dfl.isEmpty && plainPars dd.params d.pars && scOk d.slots d.pars dd.scope && isFn dd.scope && chkB G d.body ⟨d.slots, dd.scope, fun _ => true⟩ dd.body
def chkM (G : Gb) (fn : List He.DefD) : Bool := decide (fn.length = G.ds.length) && (G.ds.zip fn).all fun p => chkDef G p.1 p.2
/-- a def's run, from its promise -/
theorem def_run {K : PySem.W.Frag} {ds : List Def} {k i : Nat} {d : Def} (hd : ds[i]? = some d) {vs : List V} {H : Hp} {Q : VK} {E : XK} (q : spEv K ds (k + 1) i vs H Q E) : tS K (callK ds k) d.body { nx := fun _ H' => Q .non H', rt := Q } (L2.start d.slots vs) H := by
  obtain ⟨ρ, B, h, xs, r, h', g, rs, ee, q⟩ := q
  simp only [callK, hd, Option.bind_some] at ee
  split at ee
  case isFalse => cases ee
  rename_i hl
  obtain ⟨o, e1, e2⟩ := Option.bind_eq_some_iff.mp ee
  have hlen : (L2.start d.slots vs).length = (xs.map Sl.sh ++ List.replicate (d.slots.length - xs.length) Sl.un).length := by
    simp [L2.start, rs.length]
  have z : SSim K ρ ([] ++ B) [] (xs.map Sl.sh ++ List.replicate (d.slots.length - xs.length) Sl.un) (L2.start d.slots vs) H := by
    refine ⟨hlen, fun a m => (nomatch m), fun j v ej => ?_, fun j ob ej => ?_, fun j j' a ob ob' ej => ?_⟩
    · by_cases c : j < xs.length
      · rw [List.getElem?_append_left (by simpa using c), List.getElem?_map] at ej
        obtain ⟨v', e3, e4⟩ := Option.map_eq_some_iff.mp ej
        cases e4
        obtain ⟨y, f1, f2⟩ := rs.get e3
        refine ⟨y, ?_, f2⟩
        unfold L2.start
        rw [List.getElem?_append_left (by simp [← rs.length, c]), List.getElem?_map, f1]
        rfl
      · rw [List.getElem?_append_right (by simpa using c), List.getElem?_replicate] at ej
        split at ej <;> cases ej
    all_goals
      by_cases c : j < xs.length
      · rw [List.getElem?_append_left (by simpa using c), List.getElem?_map] at ej
        obtain ⟨v', e3, e4⟩ := Option.map_eq_some_iff.mp ej
        cases e4
      · rw [List.getElem?_append_right (by simpa using c), List.getElem?_replicate] at ej
        split at ej <;> cases ej
  refine ⟨ρ, [], B, _, h, o, ⟨g, z⟩, e1, ?_⟩
  have nx : ∀ {ρ' L' B' : List Addr} {H' : Hp}, Sx ρ [] H ρ' L' H' → (∀ a ∈ B', a ∈ B ∨ H a = none) → Nx ρ ρ B H ρ' B' H' := fun {ρ' L' B' H'} x l => ⟨x.pre, fun a m => (x.new a m).elim .inl fun z => z.elim (fun z => (nomatch z)) .inr, l, fun a ob e c => x.ext a ob e c (fun z => nomatch z)⟩
  have obj : ∀ {ob : Ob} {h1 : Hh}, r = .fr ob → h1 = h' → (∀ r0, (∀ ρ' L' x H', RRep K ρ' (L' ++ B) H' r0 x → ∃ a, x = .ref a ∧ ORep K ρ' (L' ++ B) H' ob a) → r0.isPv = false → SE K ρ [] B H (.rt r0 h1) { nx := fun _ H' => Q .non H', rt := Q }) := fun {ob h1} er eh r0 hr0 hpv ρ' L' x H' sx g' rr own => by
    subst er eh
    obtain ⟨a, e3, ro⟩ := hr0 ρ' L' x H' rr
    subst e3
    obtain ⟨a', m, e4⟩ := own hpv
    cases e4
    have hn : H a = none := (sx.newL a m).elim (fun z => (nomatch z)) id
    have sl : (a :: B).Sublist (L' ++ B) := (List.singleton_sublist.mpr m).append (List.Sublist.refl B)
    refine q ρ' (a :: B) _ H' (nx sx fun b mb => ?_) (g'.drop sl) ⟨a, rfl, List.mem_cons_self, ro.drop fun b mb => sl.subset mb⟩ ⟨a, rfl, rfl, hn⟩
    rcases List.mem_cons.mp mb with c | c
    · rw [c]; exact .inr hn
    · exact .inl c
  unfold out at e2
  split at e2
  · cases e2
    exact fun ρ' L' x H' sx g' rr _ => q ρ' B x H' (nx sx fun a m => .inl m) (g'.drop (List.sublist_append_right _ _)) (Rep.drop (fun a m => List.mem_append_right _ m) rr) rfl
  · cases e2
    exact obj rfl rfl _ (fun ρ' L' x H' rr => by obtain ⟨a, e, _, ro⟩ := rr; exact ⟨a, e, ro⟩) rfl
  · cases e2
    exact obj rfl rfl _ (fun ρ' L' x H' rr => by obtain ⟨a, e, _, ro⟩ := rr; exact ⟨a, e, ro⟩) rfl
  · cases e2
    exact fun ρ' L' σ' H' sx s' => q ρ' B .non H' (nx sx fun a m => .inl m) (s'.g.drop (List.sublist_append_right _ _)) .non rfl
  · cases e2
/-- what the head tells of one def -/
structure OneD (G : Gb) (K : PySem.W.Frag) (mg : Str → Option Value) (d : Def) (dd : He.DefD) (fd : FuncData) : Prop where
  f : FunD K dd.name dd.qual dd.params dd.body dd.scope [] (dd.kws K) (He.ga K d.name) fd
  m : mg d.name = some (.ref (He.ga K d.name))
  p : plainPars dd.params d.pars = true
  s : FnScope d.slots d.pars dd.scope
  n : isFn dd.scope = true
  c : chkB G d.body ⟨d.slots, dd.scope, fun _ => true⟩ dd.body = true
theorem one_ok {G : Gb} {fn : List He.DefD} {K : PySem.W.Frag} {mg : Str → Option Value} {h : Heap} (hc : chkM G fn = true) (X : K.In h) (Gn : h.Ns mainGlobals mg) (sy : SaysP G fn K) {i : Nat} {d : Def} (hi : G.ds[i]? = some d) :
    ∃ (dd : He.DefD) (fd : FuncData), OneD G K mg d dd fd := by
  unfold chkM at hc
  rw [Bool.and_eq_true, decide_eq_true_eq, List.all_eq_true] at hc
  have hl : i < G.ds.length := (List.getElem?_eq_some_iff.mp hi).1
  have hl2 : i < fn.length := by rw [hc.1]; exact hl
  have hm : (d, fn[i]) ∈ G.ds.zip fn := by
    refine List.mem_iff_getElem?.mpr ⟨i, ?_⟩
    rw [List.getElem?_zip_eq_some]
    exact ⟨hi, List.getElem?_eq_getElem hl2⟩
  have cd := hc.2 _ hm
  unfold chkDef at cd
  simp only [Bool.and_eq_true, decide_eq_true_eq, List.isEmpty_iff] at cd
  obtain ⟨⟨⟨⟨⟨⟨c1, c2⟩, c3⟩, c4⟩, c5⟩, c6⟩, c7⟩ := cd
  obtain ⟨fd, F⟩ := sy.d.1.def_ i (d := fn[i]) (List.getElem?_eq_getElem hl2)
  have e1 : (fn[i]).dvs K = [] := by unfold He.DefD.dvs; rw [c3]; rfl
  have e2 : He.fAd K (fn[i]).at_ = He.ga K d.name := by rw [c1]; rfl
  rw [e1, e2] at F
  refine ⟨fn[i], fd, F, He.glo_ok X Gn (sy.fact (f := .glo d.name) ?_), c4, scOk_by c5, c6, c7⟩
  exact List.mem_append_left _ (List.mem_map.mpr ⟨d, List.mem_of_getElem? hi, rfl⟩)
theorem OneD.bn {G : Gb} {K : PySem.W.Frag} {mg : Str → Option Value} {d : Def} {dd : He.DefD} {fd : FuncData} (O : OneD G K mg d dd fd) : Binds K fd d.pars [] := O.f.bindsN fun _ _ _ _ _ _ us hl => bind_plain O.p hl
theorem OneD.bt {G : Gb} {K : PySem.W.Frag} {mg : Str → Option Value} {d : Def} {dd : He.DefD} {fd : FuncData} (O : OneD G K mg d dd fd) (s : Shared) (us : List Value) (h : us.length = d.pars.length) : BindsTo s fd ⟨us, []⟩ (d.pars.zip us) :=
  O.f.bindsA (fun _ _ _ _ _ _ us hl => bind_plain O.p hl) s us h
theorem md_ok {G : Gb} {fn : List He.DefD} {P : Program} {w : World} {K : PySem.W.Frag} {mg : Str → Option Value} {base : Heap} {h : Heap} (hc : chkM G fn = true) (X : K.In h) (Gn : h.Ns mainGlobals mg) (sy : SaysP G fn K) :
    ∀ (k i : Nat) (d : Def) (dd : He.DefD) (fd : FuncData), G.ds[i]? = some d → OneD G K mg d dd fd → FnG G.gd P w K mg base k (He.ga K d.name) fd d.pars (spEv K G.ds k i) := by
  intro k
  induction k with
  | zero =>
    intro i d dd fd hi O
    exact ⟨fun vs H Q E q => (by obtain ⟨_, _, _, _, _, _, _, _, e, _⟩ := q; cases e), fun A out s H as us vs Q E _ _ _ _ q => (by obtain ⟨_, _, _, _, _, _, _, _, e, _⟩ := q; cases e)⟩
  | succ k ih =>
    intro i d dd fd hi O
    obtain ⟨oc, od, dV, kV, doc, pm, an, cdv, ct, osl, rfl, lk, hcd, _, _⟩ := O.f.ex
    refine fn_g lk hcd O.s (fun vs H Q E q => ?_) fun A o s H vs Q E hr hg q => ⟨_, ?_, def_run hi q⟩
    · obtain ⟨ρ, B, h, xs, r, h', g, rs, e, _⟩ := q
      simp only [callK, hi, Option.bind_some] at e
      split at e
      · rw [← rs.length]; assumption
      · cases e
    · have ok : Ok G k ⟨d.slots, dd.scope, fun _ => true⟩ (cxOf CX0 P w K mg base d.slots dd.qual dd.scope (He.ga K d.name) cdv A o s H E) := by
        refine ⟨rfl, O.s.nd, rfl, rfl, rfl, hr, hg, fun f d' hf => ?_, fun x hx => ?_, fun x v hx => glB_ok X Gn (g := (x, v)) (sy.d.2 _ hx)⟩
        · obtain ⟨dd', fd', O'⟩ := one_ok hc X Gn sy hf
          exact ⟨_, fd', O'.m, O'.f.kp, O'.bn, ih f d' dd' fd' hf O'⟩
        · exact He.free_ok X Gn (sy.fact (f := .free x) (List.mem_append_right _ (List.mem_map.mpr ⟨x, hx, rfl⟩)))
      exact (bsnd G k d.body).bk ⟨ok, passes_of rfl, O.n⟩ _ O.c
end Ev

set_option maxRecDepth 100000
set_option maxHeartbeats 2000000
/-! EvS: the law at the module's end. -/
namespace Ev
open PySem PySem.Spec PyProof.Rows L2
/-- the law answers True, as the small language tells it -/
def Says (G : Gb) (k i n : Nat) : Prop := ∀ ns : List Int, ns.length ≤ n → ∃ h', callK G.ds k i [.kl (ns.map PV.int)] [] = some (.pv (.bl true), h')
def spLaw (K : PySem.W.Frag) (n : Nat) : Sp := fun vs H Q _ => ∃ (a : Addr) (ns : List Int), vs = [.ref a] ∧ ns.length ≤ n ∧ Only H ∧ SqL K H a (ns.map V.int) ∧ ∀ H', Q (.bl true) H'
theorem says_sp {G : Gb} {k i n : Nat} {K : PySem.W.Frag} (hs : Says G k i n) (vs : List V) (H : Hp) (Q : VK) (E : XK) (q : spLaw K n vs H Q E) : spEv K G.ds k i vs H Q E := by
  obtain ⟨a, ns, rfl, hl, hO, hS, hq⟩ := q
  obtain ⟨h', e⟩ := hs ns hl
  refine ⟨[], [], [], [.kl (ns.map PV.int)], .pv (.bl true), h', ⟨.nil, rfl, fun i o a e => by simp at e, fun a m => nomatch m⟩, .cons (.kl ?_ (Reps.ints ns)) .nil, e, fun ρ' B' x H' _ _ r _ => ?_⟩
  · rcases hS with (e | ⟨o, e⟩) | e
    · rcases hO a with z | ⟨o, xs, z⟩ <;> (rw [e] at z; cases z)
    · exact .inl ⟨o, e⟩
    · exact .inr (.inr e)
  · cases r
    exact hq H'
theorem law_walk {l : PySem.W.OpenLaw} {n k i j : Nat} {q : Program} {loose : List Str} {XP : (Str → Option Value) → Heap → Prop} {d : DefRec} {G : Gb} {fn : List He.DefD} {dl : Def} (hgd : G.gd = false) (hn : l.most = some n) (hn2 : n ≤ sizeLine) (hdf : d.params.defaults = []) (hr : Room k callerA)
    (hi : G.ds[i]? = some dl) (hdn : dl.name = d.name) (hdp : dl.pars = [("script" : Str)]) (hc : chkM G fn = true) (hs : Says G k i n) : PySem.W.WalkO q loose XP (hookP j G fn).says l.row.toRowW d [] (fun f vs => PySem.call f vs) := by
  refine walk_ofE (l := l) (n := n) (k := k) (x := "script") (CX := CX0) hn hn2 hdf hr (fun w mg fa h Y Gn hmg0 => ?_) fun _ _ _ _ z => z
  obtain ⟨K, KX, sy⟩ := Y
  obtain ⟨dd, fd, O⟩ := one_ok hc KX Gn sy hi
  have q1 := O.m
  rw [hdn, hmg0] at q1
  refine ⟨K, fd, spLaw K n, KX, fun s u => ?_, fun H a ns hl hO hS => ⟨a, ns, rfl, hl, hO, hS, fun _ => rfl⟩, fun base hb hns => ?_⟩
  · have := O.bt s [u] (by rw [hdp]; rfl)
    rw [hdp] at this
    exact this
  · have F := (md_ok (P := l.prog) (w := w) (base := base) hc KX Gn sy k i dl dd fd hi O).imp (says_sp (n := n) hs)
    rw [hdp, hgd] at F
    have ea : fa = He.ga K d.name := by
      injection q1 with z
      injection z
    rw [hdn] at F
    rw [ea]
    exact ⟨F.len, fun A o s H as us vs Q E r e b v q => F.go A o s H as us vs Q E ⟨r, fun z => by cases z⟩ e b v q⟩
end Ev

set_option maxRecDepth 100000
set_option maxHeartbeats 2000000
/-! EvT: to reckon with the small language by simp, from the left, no branch that is not gone. -/
namespace Ev
open PySem
section
variable {α β : Type}
theorem b_some (a : α) (f : α → Option β) : (some a).bind f = f a := rfl
theorem m_some (a : α) (f : α → β) : Option.map f (some a) = some (f a) := rfl
end
section
variable {C : Call} {env : Sls} {h : Hh} {a b c e es lo hi t o i cd elt : E} {p q : S} {v : PV} {n k : Nat}
def nxt (f : Sls → Hh → Option O) : O → Option O
  | .nx env h => f env h
  | o => some o
theorem nxt_nx {f : Sls → Hh → Option O} : nxt f (.nx env h) = f env h := rfl
theorem nxt_rt {f : Sls → Hh → Option O} {r : R} : nxt f (.rt r h) = some (.rt r h) := rfl
theorem nxt_bk {f : Sls → Hh → Option O} : nxt f (.bk env h) = some (.bk env h) := rfl
theorem nxt_ct {f : Sls → Hh → Option O} : nxt f (.ct env h) = some (.ct env h) := rfl
theorem s_seq : evS C (.seq p q) env h = (evS C p env h).bind (nxt (evS C q)) := by
  rw [evS]
  congr 1
theorem s_skip : evS C .skip env h = some (.nx env h) := rfl
theorem s_pass : evS C .pass env h = some (.nx env h) := rfl
theorem s_brk : evS C .brk env h = some (.bk env h) := rfl
theorem s_cnt : evS C .cnt env h = some (.ct env h) := rfl
theorem s_retN : evS C .retN env h = some (.rt (.pv .non) h) := rfl
def rtK (p : R × Hh) : O := .rt p.1 p.2
theorem rtK_p {r : R} : rtK (r, h) = .rt r h := rfl
theorem s_ret : evS C (.ret e) env h = (ev C e env h).map rtK := by rw [evS]; rfl
def exK (env : Sls) (p : R × Hh) : O := .nx env p.2
theorem exK_p {r : R} : exK env (r, h) = .nx env h := rfl
theorem s_ex : evS C (.ex e) env h = (ev C e env h).map (exK env) := by rw [evS]; rfl
def iteK (f g : Sls → Hh → Option O) (env : Sls) : Bool × Hh → Option O
  | (true, h) => f env h
  | (false, h) => g env h
theorem iteK_t {f g : Sls → Hh → Option O} : iteK f g env (true, h) = f env h := rfl
theorem iteK_f {f g : Sls → Hh → Option O} : iteK f g env (false, h) = g env h := rfl
theorem s_ite : evS C (.ite t p q) env h = (evt C t env h).bind (iteK (evS C p) (evS C q) env) := by
  rw [evS]
  congr 1
  funext o
  obtain ⟨b, h⟩ := o
  cases b <;> rfl
def nxO (h : Hh) (env : Sls) : O := .nx env h
theorem nxO_e : nxO h env = .nx env h := rfl
def assK (tg : Tg) (env : Sls) (p : R × Hh) : Option O := (asgR tg p.1 env).map (nxO p.2)
theorem assK_p {tg : Tg} {r : R} : assK tg env (r, h) = (asgR tg r env).map (nxO h) := rfl
theorem s_ass {tg : Tg} : evS C (.ass tg e) env h = (ev C e env h).bind (assK tg env) := by rw [evS]; rfl
def parK (is : List Nat) (env : Sls) (p : List R × Hh) : Option O := (giveAll is p.1 env).map (nxO p.2)
theorem parK_p {is : List Nat} {rs : List R} : parK is env (rs, h) = (giveAll is rs env).map (nxO h) := rfl
theorem s_par {is : List Nat} : evS C (.par is es) env h = (evr C es env h).bind (parK is env) := by rw [evS]; rfl
def subK3 (env : Sls) (v : PV) (o : R) (p : R × Hh) : Option O := (setR p.2 o p.1 v).map (O.nx env)
def subK2 (C : Call) (i : E) (env : Sls) (v : PV) (p : R × Hh) : Option O := (ev C i env p.2).bind (subK3 env v p.1)
def subK1 (C : Call) (o i : E) (env : Sls) (h : Hh) (v : PV) : Option O := (ev C o env h).bind (subK2 C i env v)
def subK (C : Call) (o i : E) (env : Sls) (p : R × Hh) : Option O := p.1.give.bind (subK1 C o i env p.2)
theorem subK3_p {r u : R} : subK3 env v r (u, h) = (setR h r u v).map (O.nx env) := rfl
theorem subK2_p {r : R} : subK2 C i env v (r, h) = (ev C i env h).bind (subK3 env v r) := rfl
theorem subK1_p : subK1 C o i env h v = (ev C o env h).bind (subK2 C i env v) := rfl
theorem subK_p {r : R} : subK C o i env (r, h) = r.give.bind (subK1 C o i env h) := rfl
theorem s_sub : evS C (.sub o i e) env h = (ev C e env h).bind (subK C o i env) := by rw [evS]; rfl
def nx2 (p : Sls × Hh) : O := .nx p.1 p.2
theorem nx2_p : nx2 (env, h) = .nx env h := rfl
def appK1 (n : Nat) (env : Sls) (h : Hh) (v : PV) : Option O := (appS n v env h).map nx2
def appK (n : Nat) (env : Sls) (p : R × Hh) : Option O := p.1.give.bind (appK1 n env p.2)
theorem appK1_p : appK1 n env h v = (appS n v env h).map nx2 := rfl
theorem appK_p {r : R} : appK n env (r, h) = r.give.bind (appK1 n env h) := rfl
def okK (f : Option O) : Bool → Option O
  | true => f
  | false => none
theorem okK_t {f : Option O} : okK f true = f := rfl
theorem s_app : evS C (.app n e) env h = okK ((ev C e env h).bind (appK n env)) (appOk n env h) := by
  rw [evS]
  cases appOk n env h <;> rfl
def forK (C : Call) (tg : Tg) (p : S) (x : PV) (env : Sls) (h : Hh) : Option O := (asg tg x env).bind fun env1 => evS C p env1 h
def forL (C : Call) (tg : Tg) (p : S) (env : Sls) (q : List PV × Hh) : Option O := loop (forK C tg p) q.1 env q.2
theorem forL_p {tg : Tg} {xs : List PV} : forL C tg p env (xs, h) = loop (forK C tg p) xs env h := rfl
theorem s_for {tg : Tg} {kk : Ik} : evS C (.for tg kk a b p) env h = (evi C false kk a b env h).bind (forL C tg p env) := by rw [evS]; rfl
theorem s_whil : evS C (.whil n t p) env h = wloop (evt C t) (evS C p) n env h := by rw [evS]
def frzK (f : Sls → Hh → Option O) (s : Nat) (env : Sls) (h : Hh) : Option Sl → Option O
  | some (.ow (.l xs)) => f (env.set s (.sh (.lst xs))) h
  | some (.sh _) => f env h
  | _ => none
theorem frzK_o {f : Sls → Hh → Option O} {xs : List PV} : frzK f n env h (some (.ow (.l xs))) = f (env.set n (.sh (.lst xs))) h := rfl
theorem frzK_s {f : Sls → Hh → Option O} : frzK f n env h (some (.sh v)) = f env h := rfl
theorem s_frz : evS C (.frz n p) env h = frzK (evS C p) n env h env[n]? := by
  rw [evS]
  cases env[n]? with
  | none => rfl
  | some s => cases s <;> first | rfl | (rename_i o; cases o <;> rfl)
def prmK (f : Sls → Hh → Option O) (s : Nat) (env : Sls) (h : Hh) : Option Sl → Option O
  | some (.ow o) => f (env.set s (.sh (.ref h.length))) (h ++ [o])
  | some (.sh _) => f env h
  | _ => none
theorem prmK_o {f : Sls → Hh → Option O} {o : Ob} : prmK f n env h (some (.ow o)) = f (env.set n (.sh (.ref h.length))) (h ++ [o]) := rfl
theorem prmK_s {f : Sls → Hh → Option O} : prmK f n env h (some (.sh v)) = f env h := rfl
theorem s_prm : evS C (.prm n p) env h = prmK (evS C p) n env h env[n]? := by
  rw [evS]
  cases env[n]? with
  | none => rfl
  | some s => cases s <;> rfl
/-! ### expressions -/
theorem e_con : ev C (.con v) env h = some (.pv v, h) := by rw [ev]
theorem e_glob {x : Str} : ev C (.glob x v) env h = some (.pv v, h) := by rw [ev]
def varK (h : Hh) : Option Sl → Option (R × Hh)
  | some (.sh v) => some (.pv v, h)
  | some (.ow o) => some (.br o, h)
  | _ => none
theorem varK_s : varK h (some (.sh v)) = some (.pv v, h) := rfl
theorem varK_o {o : Ob} : varK h (some (.ow o)) = some (.br o, h) := rfl
theorem e_var : ev C (.var n) env h = varK h env[n]? := by
  rw [ev]
  cases env[n]? with
  | none => rfl
  | some s => cases s <;> rfl
def tupK (p : List PV × Hh) : Option (R × Hh) := if p.1.length ≤ lim then some (.pv (.tup p.1), p.2) else none
def lstK (p : List PV × Hh) : Option (R × Hh) := if p.1.length ≤ lim then some (.fr (.l p.1), p.2) else none
theorem tupK_p {xs : List PV} (hl : xs.length ≤ lim) : tupK (xs, h) = some (.pv (.tup xs), h) := if_pos hl
theorem lstK_p {xs : List PV} (hl : xs.length ≤ lim) : lstK (xs, h) = some (.fr (.l xs), h) := if_pos hl
theorem e_tup : ev C (.tup es) env h = (evs C es env h).bind tupK := by rw [ev]; rfl
theorem e_lst : ev C (.lst es) env h = (evs C es env h).bind lstK := by rw [ev]; rfl
def wiK {α : Type} (h : Hh) (a : α) : α × Hh := (a, h)
theorem wiK_a {α : Type} (r : α) : wiK h r = (r, h) := rfl
def binK1 (op : Operator) (r : R) (q : R × Hh) : Option (R × Hh) := (bop op q.2 r q.1).map (wiK q.2)
def binK (C : Call) (op : Operator) (b : E) (env : Sls) (p : R × Hh) : Option (R × Hh) := (ev C b env p.2).bind (binK1 op p.1)
theorem binK1_p {op : Operator} {r u : R} : binK1 op r (u, h) = (bop op h r u).map (wiK h) := rfl
theorem binK_p {op : Operator} {r : R} : binK C op b env (r, h) = (ev C b env h).bind (binK1 op r) := rfl
theorem e_bin {op : Operator} : ev C (.bin op a b) env h = (ev C a env h).bind (binK C op b env) := by rw [ev]; rfl
def negK : R × Hh → Option (R × Hh)
  | (.pv (.int i), h) => some (.pv (.int (-i)), h)
  | _ => none
theorem negK_i {i : Int} : negK (.pv (.int i), h) = some (.pv (.int (-i)), h) := rfl
theorem e_neg : ev C (.neg a) env h = (ev C a env h).bind negK := by
  rw [ev]
  congr 1
  funext p
  obtain ⟨r, h⟩ := p
  cases r <;> first | rfl | skip
  rename_i v
  cases v <;> rfl
def blK (h : Hh) (b : Bool) : R × Hh := (.pv (.bl b), h)
theorem blK_b {b : Bool} : blK h b = (.pv (.bl b), h) := rfl
def cmpK1 (op : CmpOp) (r : R) (q : R × Hh) : Option (R × Hh) := (cop op q.2 r q.1).map (blK q.2)
def cmpK (C : Call) (op : CmpOp) (b : E) (env : Sls) (p : R × Hh) : Option (R × Hh) := (ev C b env p.2).bind (cmpK1 op p.1)
theorem cmpK1_p {op : CmpOp} {r u : R} : cmpK1 op r (u, h) = (cop op h r u).map (blK h) := rfl
theorem cmpK_p {op : CmpOp} {r : R} : cmpK C op b env (r, h) = (ev C b env h).bind (cmpK1 op r) := rfl
theorem e_cmp {op : CmpOp} : ev C (.cmp op a b) env h = (ev C a env h).bind (cmpK C op b env) := by rw [ev]; rfl
def chainK (C : Call) (op : CmpOp) (c : E) (env : Sls) (r : R) (h : Hh) : Bool → Option (R × Hh)
  | true => (ev C c env h).bind (cmpK1 op r)
  | false => some (.pv (.bl false), h)
theorem chainK_t {op : CmpOp} {r : R} : chainK C op c env r h true = (ev C c env h).bind (cmpK1 op r) := rfl
theorem chainK_f {op : CmpOp} {r : R} : chainK C op c env r h false = some (.pv (.bl false), h) := rfl
def chK1 (C : Call) (op op' : CmpOp) (c : E) (env : Sls) (r : R) (q : R × Hh) : Option (R × Hh) := (cop op q.2 r q.1).bind (chainK C op' c env q.1 q.2)
def chK (C : Call) (op op' : CmpOp) (b c : E) (env : Sls) (p : R × Hh) : Option (R × Hh) := (ev C b env p.2).bind (chK1 C op op' c env p.1)
theorem chK1_p {op op' : CmpOp} {r u : R} : chK1 C op op' c env r (u, h) = (cop op h r u).bind (chainK C op' c env u h) := rfl
theorem chK_p {op op' : CmpOp} {r : R} : chK C op op' b c env (r, h) = (ev C b env h).bind (chK1 C op op' c env r) := rfl
theorem e_chain {op op' : CmpOp} : ev C (.chain op op' a b c) env h = (ev C a env h).bind (chK C op op' b c env) := by
  rw [ev]
  congr 1
  funext p
  unfold chK
  congr 1
  funext q
  unfold chK1
  congr 1
  funext k
  cases k <;> rfl
def isNK (n : Bool) (p : R × Hh) : R × Hh := (.pv (.bl (p.1.isNon != n)), p.2)
theorem isNK_p {n : Bool} {r : R} : isNK n (r, h) = (.pv (.bl (r.isNon != n)), h) := rfl
theorem e_isN {n : Bool} : ev C (.isN n a) env h = (ev C a env h).map (isNK n) := by rw [ev]; rfl
def nblK (h : Hh) (b : Bool) : R × Hh := (.pv (.bl (!b)), h)
theorem nblK_b {b : Bool} : nblK h b = (.pv (.bl (!b)), h) := rfl
def notK (p : R × Hh) : Option (R × Hh) := (p.1.tru p.2).map (nblK p.2)
theorem notK_p {r : R} : notK (r, h) = (r.tru h).map (nblK h) := rfl
theorem e_not : ev C (.not a) env h = (ev C a env h).bind notK := by rw [ev]; rfl
def andK (C : Call) (b : E) (env : Sls) (p : R × Hh) : Bool → Option (R × Hh)
  | true => ev C b env p.2
  | false => some p
theorem andK_t {r : R} : andK C b env (r, h) true = ev C b env h := rfl
theorem andK_f {p : R × Hh} : andK C b env p false = some p := rfl
def anK (C : Call) (b : E) (env : Sls) (p : R × Hh) : Option (R × Hh) := (p.1.tru p.2).bind (andK C b env p)
theorem anK_p {r : R} : anK C b env (r, h) = (r.tru h).bind (andK C b env (r, h)) := rfl
theorem e_and : ev C (.and a b) env h = (ev C a env h).bind (anK C b env) := by
  rw [ev]
  congr 1
  funext p
  unfold anK
  congr 1
  funext k
  cases k <;> rfl
def orK (C : Call) (b : E) (env : Sls) (p : R × Hh) : Bool → Option (R × Hh)
  | true => some p
  | false => ev C b env p.2
theorem orK_t {p : R × Hh} : orK C b env p true = some p := rfl
theorem orK_f {r : R} : orK C b env (r, h) false = ev C b env h := rfl
def oK (C : Call) (b : E) (env : Sls) (p : R × Hh) : Option (R × Hh) := (p.1.tru p.2).bind (orK C b env p)
theorem oK_p {r : R} : oK C b env (r, h) = (r.tru h).bind (orK C b env (r, h)) := rfl
theorem e_or : ev C (.or a b) env h = (ev C a env h).bind (oK C b env) := by
  rw [ev]
  congr 1
  funext p
  unfold oK
  congr 1
  funext k
  cases k <;> rfl
def ifeK (C : Call) (a b : E) (env : Sls) (h : Hh) : Bool → Option (R × Hh)
  | true => ev C a env h
  | false => ev C b env h
theorem ifeK_t : ifeK C a b env h true = ev C a env h := rfl
theorem ifeK_f : ifeK C a b env h false = ev C b env h := rfl
def ifK (C : Call) (a b : E) (env : Sls) (p : R × Hh) : Option (R × Hh) := (p.1.tru p.2).bind (ifeK C a b env p.2)
theorem ifK_p {r : R} : ifK C a b env (r, h) = (r.tru h).bind (ifeK C a b env h) := rfl
theorem e_ife : ev C (.ife t a b) env h = (ev C t env h).bind (ifK C a b env) := by
  rw [ev]
  congr 1
  funext p
  unfold ifK
  congr 1
  funext k
  cases k <;> rfl
def idxK1 (r : R) (q : R × Hh) : Option (R × Hh) := (ixR q.2 r q.1).map (wiK q.2)
def idxK (C : Call) (b : E) (env : Sls) (p : R × Hh) : Option (R × Hh) := (ev C b env p.2).bind (idxK1 p.1)
theorem idxK1_p {r u : R} : idxK1 r (u, h) = (ixR h r u).map (wiK h) := rfl
theorem idxK_p {r : R} : idxK C b env (r, h) = (ev C b env h).bind (idxK1 r) := rfl
theorem e_idx : ev C (.idx a b) env h = (ev C a env h).bind (idxK C b env) := by rw [ev]; rfl
/-- a slice's part -/
def siK (h : Hh) (i : Int) : Option Int × Hh := (some i, h)
theorem siK_i {i : Int} : siK h i = (some i, h) := rfl
def aiK (p : R × Hh) : Option (Option Int × Hh) := p.1.asI.map (siK p.2)
theorem aiK_p {r : R} : aiK (r, h) = r.asI.map (siK h) := rfl
def ptE (C : Call) (e : E) (env : Sls) (h : Hh) : Option (Option Int × Hh) := if e.isNil then some (none, h) else (ev C e env h).bind aiK
theorem pt_nil : ptE C .nil env h = some (none, h) := rfl
theorem ptt_some (hn : e.isNil = false) : ptE C e env h = (ev C e env h).bind aiK := by rw [ptE, hn]; rfl
def slcK2 (r : R) (lo : Option Int) (z : Option Int × Hh) : Option (R × Hh) := (slR z.2 r lo z.1).map (wiK z.2)
def slcK1 (C : Call) (hi : E) (env : Sls) (r : R) (q : Option Int × Hh) : Option (R × Hh) := (ptE C hi env q.2).bind (slcK2 r q.1)
def slcK (C : Call) (lo hi : E) (env : Sls) (p : R × Hh) : Option (R × Hh) := (ptE C lo env p.2).bind (slcK1 C hi env p.1)
theorem slcK2_p {r : R} {l u : Option Int} : slcK2 r l (u, h) = (slR h r l u).map (wiK h) := rfl
theorem slcK1_p {r : R} {l : Option Int} : slcK1 C hi env r (l, h) = (ptE C hi env h).bind (slcK2 r l) := rfl
theorem slcK_p {r : R} : slcK C lo hi env (r, h) = (ptE C lo env h).bind (slcK1 C hi env r) := rfl
theorem e_slc : ev C (.slc a lo hi) env h = (ev C a env h).bind (slcK C lo hi env) := by rw [ev]; rfl
def revK (p : R × Hh) : Option (R × Hh) := (rvR p.2 p.1).map (wiK p.2)
theorem revK_p {r : R} : revK (r, h) = (rvR h r).map (wiK h) := rfl
theorem e_rev : ev C (.rev a) env h = (ev C a env h).bind revK := by rw [ev]; rfl
def callE (C : Call) (n : Nat) (p : List PV × Hh) : Option (R × Hh) := C n p.1 p.2
theorem callE_p {xs : List PV} : callE C n (xs, h) = C n xs h := rfl
theorem e_call : ev C (.call n es) env h = (evs C es env h).bind (callE C n) := by rw [ev]; rfl
def bltK (b : Blt) (p : List R × Hh) : Option (R × Hh) := (blt b p.2 p.1).map (wiK p.2)
theorem bltK_p {b : Blt} {rs : List R} : bltK b (rs, h) = (blt b h rs).map (wiK h) := rfl
theorem e_blt {b : Blt} : ev C (.blt b es) env h = (evr C es env h).bind (bltK b) := by rw [ev]; rfl
def mthK1 (m : Mth) (r : R) (q : List R × Hh) : Option (R × Hh) := (mth m q.2 r q.1).map (wiK q.2)
def mthK0 (C : Call) (m : Mth) (es : E) (env : Sls) (r : R) (h : Hh) : Bool → Option (R × Hh)
  | true => (evr C es env h).bind (mthK1 m r)
  | false => none
def mthK (C : Call) (m : Mth) (es : E) (env : Sls) (p : R × Hh) : Option (R × Hh) := mthK0 C m es env p.1 p.2 (mthOk m p.2 p.1)
theorem mthK1_p {m : Mth} {r : R} {rs : List R} : mthK1 m r (rs, h) = (mth m h r rs).map (wiK h) := rfl
theorem mthK0_t {m : Mth} {r : R} : mthK0 C m es env r h true = (evr C es env h).bind (mthK1 m r) := rfl
theorem mthK_p {m : Mth} {r : R} : mthK C m es env (r, h) = mthK0 C m es env r h (mthOk m h r) := rfl
theorem e_mth {m : Mth} : ev C (.mth m o es) env h = (ev C o env h).bind (mthK C m es env) := by
  rw [ev]
  congr 1
  funext p
  unfold mthK
  cases mthOk m p.2 p.1 <;> rfl
def isinK (t : Ty) (p : R × Hh) : Option (R × Hh) := (isTy t p.2 p.1).map (blK p.2)
theorem isinK_p {t : Ty} {r : R} : isinK t (r, h) = (isTy t h r).map (blK h) := rfl
theorem e_isin {t : Ty} : ev C (.isin a t) env h = (ev C a env h).bind (isinK t) := by rw [ev]; rfl
def slnK1 (h : Hh) (ns : List Int) : Option (R × Hh) := if ns.Nodup ∧ ns.length < 64 then some (.pv (.int ns.length), h) else none
def slnK0 (h : Hh) (q : Bool × List PV) : Option (R × Hh) := if q.1 then none else (intsP q.2).bind (slnK1 h)
def slnK (p : R × Hh) : Option (R × Hh) := (p.1.seq p.2).bind (slnK0 p.2)
theorem slnK1_p {ns : List Int} (hn : ns.Nodup ∧ ns.length < 64) : slnK1 h ns = some (.pv (.int ns.length), h) := if_pos hn
theorem slnK0_p {xs : List PV} : slnK0 h (false, xs) = (intsP xs).bind (slnK1 h) := rfl
theorem slnK_p {r : R} : slnK (r, h) = (r.seq h).bind (slnK0 h) := rfl
theorem e_setlen : ev C (.setlen a) env h = (ev C a env h).bind slnK := by rw [ev]; rfl
def soK (h : Hh) (v : PV) : Option PV × Hh := (some v, h)
theorem soK_v : soK h v = (some v, h) := rfl
def giK (p : R × Hh) : Option (Option PV × Hh) := p.1.give.map (soK p.2)
theorem giK_p {r : R} : giK (r, h) = r.give.map (soK h) := rfl
def trK1 (h : Hh) (b : Bool) : Bool × Hh := (b, h)
theorem trK1_b {b : Bool} : trK1 h b = (b, h) := rfl
def trK (p : R × Hh) : Option (Bool × Hh) := (p.1.tru p.2).map (trK1 p.2)
theorem trK_p {r : R} : trK (r, h) = (r.tru h).map (trK1 h) := rfl
def elK (C : Call) (elt : E) (env1 : Sls) : Bool × Hh → Option (Option PV × Hh)
  | (true, h) => (ev C elt env1 h).bind giK
  | (false, h) => some (none, h)
theorem elK_t : elK C elt env (true, h) = (ev C elt env h).bind giK := rfl
theorem elK_f : elK C elt env (false, h) = some (none, h) := rfl
def cdK (C : Call) (cd : E) (env : Sls) (h : Hh) : Option (Bool × Hh) := if cd.isNil then some (true, h) else (ev C cd env h).bind trK
theorem cd_nil : cdK C .nil env h = some (true, h) := rfl
theorem cdd_some (hn : e.isNil = false) : cdK C e env h = (ev C e env h).bind trK := by rw [cdK, hn]; rfl
def lcK1 (C : Call) (elt cd : E) (h : Hh) (env1 : Sls) : Option (Option PV × Hh) := (cdK C cd env1 h).bind (elK C elt env1)
theorem lcK1_p : lcK1 C elt cd h env = (cdK C cd env h).bind (elK C elt env) := rfl
/-- a comprehension's turn -/
def lcK (C : Call) (own : List Nat) (elt : E) (tg : Tg) (cd : E) (env : Sls) (x : PV) (h : Hh) : Option (Option PV × Hh) := (asg tg x (wipeE env own)).bind (lcK1 C elt cd h)
theorem lcK_p {own : List Nat} {tg : Tg} {x : PV} : lcK C own elt tg cd env x h = (asg tg x (wipeE env own)).bind (lcK1 C elt cd h) := rfl
def tuK (C : Call) (own : List Nat) (elt : E) (tg : Tg) (cd : E) (env : Sls) (p : List PV × Hh) : Option (R × Hh) := (turns (lcK C own elt tg cd env) p.1 p.2).bind lstK
theorem tuK_p {own : List Nat} {tg : Tg} {xs : List PV} : tuK C own elt tg cd env (xs, h) = (turns (lcK C own elt tg cd env) xs h).bind lstK := rfl
theorem e_lc {own : List Nat} {tg : Tg} {kk : Ik} : ev C (.lc own elt tg kk a b cd) env h = (evi C true kk a b env h).bind (tuK C own elt tg cd env) := by
  rw [ev, evi]
  simp only [Option.bind_assoc, Option.bind_map]
  congr 1
  funext p
  congr 1
  funext q
  cases itemsOf kk true p.1 q.1 with
  | none => rfl
  | some xs =>
    show (turns _ xs q.2).bind _ = _
    show _ = (turns _ xs q.2).bind _
    congr 2
    funext x h1
    unfold lcK
    congr 1
    funext env1
    unfold lcK1 cdK
    congr 1
    funext u
    obtain ⟨b, h2⟩ := u
    cases b <;> rfl
def itK1 (kk : Ik) (br : Bool) (p : R × Hh) : Option (List PV × Hh) := (itemsOf kk br p.1 none).map (wiK p.2)
theorem itK1_p {br : Bool} {kk : Ik} {r : R} : itK1 kk br (r, h) = (itemsOf kk br r none).map (wiK h) := rfl
theorem i_one {br : Bool} {kk : Ik} : evi C br kk a .nil env h = (ev C a env h).bind (itK1 kk br) := by rw [evi]; rfl
def itK2 (kk : Ik) (br : Bool) (r : R) (q : R × Hh) : Option (List PV × Hh) := (itemsOf kk br r (some q.1)).map (wiK q.2)
def itK (C : Call) (kk : Ik) (br : Bool) (b : E) (env : Sls) (p : R × Hh) : Option (List PV × Hh) := (ev C b env p.2).bind (itK2 kk br p.1)
theorem itK2_p {br : Bool} {kk : Ik} {r u : R} : itK2 kk br r (u, h) = (itemsOf kk br r (some u)).map (wiK h) := rfl
theorem itK_p {br : Bool} {kk : Ik} {r : R} : itK C kk br b env (r, h) = (ev C b env h).bind (itK2 kk br r) := rfl
theorem ii_two {br : Bool} {kk : Ik} (hn : b.isNil = false) : evi C br kk a b env h = (ev C a env h).bind (itK C kk br b env) := by
  rw [evi]
  congr 1
  funext p
  rw [hn]
  simp only [Bool.false_eq_true, if_false]
  unfold itK
  cases ev C b env p.2 <;> rfl
theorem t_t : evt C e env h = (ev C e env h).bind trK := rfl
theorem r_nil : evs C .nil env h = some ([], h) := by rw [evs]
def coK (v : PV) (q : List PV × Hh) : List PV × Hh := (v :: q.1, q.2)
theorem coK_p {xs : List PV} : coK v (xs, h) = (v :: xs, h) := rfl
def rcK1 (C : Call) (es : E) (env : Sls) (h : Hh) (v : PV) : Option (List PV × Hh) := (evs C es env h).map (coK v)
theorem rcK1_p : rcK1 C es env h v = (evs C es env h).map (coK v) := rfl
def rcK (C : Call) (es : E) (env : Sls) (p : R × Hh) : Option (List PV × Hh) := p.1.give.bind (rcK1 C es env p.2)
theorem rcK_p {r : R} : rcK C es env (r, h) = r.give.bind (rcK1 C es env h) := rfl
theorem r_cons : evs C (.cons e es) env h = (ev C e env h).bind (rcK C es env) := by rw [evs]; rfl
theorem rr_nil : evr C .nil env h = some ([], h) := by rw [evr]
def crK (r : R) (q : List R × Hh) : List R × Hh := (r :: q.1, q.2)
theorem crK_p {r : R} {xs : List R} : crK r (xs, h) = (r :: xs, h) := rfl
def rrK (C : Call) (es : E) (env : Sls) (p : R × Hh) : Option (List R × Hh) := (evr C es env p.2).map (crK p.1)
theorem rrK_p {r : R} : rrK C es env (r, h) = (evr C es env h).map (crK r) := rfl
theorem rr_cons : evr C (.cons e es) env h = (ev C e env h).bind (rrK C es env) := by rw [evr]; rfl
/-! ### looks -/
theorem l_tup {xs : List PV} : R.seq h (.pv (.tup xs)) = some (true, xs) := rfl
theorem l_lst {xs : List PV} : R.seq h (.pv (.lst xs)) = some (false, xs) := rfl
theorem l_kl {xs : List PV} : R.seq h (.pv (.kl xs)) = some (false, xs) := rfl
theorem l_fr {xs : List PV} : R.seq h (.fr (.l xs)) = some (false, xs) := rfl
theorem l_br {xs : List PV} : R.seq h (.br (.l xs)) = some (false, xs) := rfl
theorem g_pv : R.give (.pv v) = some v := rfl
theorem g_fr {xs : List PV} : R.give (.fr (.l xs)) = some (.lst xs) := rfl
theorem d_lst {xs : List PV} : R.dat h (.pv (.lst xs)) = some (.lst xs) := rfl
theorem d_fr {xs : List PV} : R.dat h (.fr (.l xs)) = some (.lst xs) := rfl
theorem d_br {xs : List PV} : R.dat h (.br (.l xs)) = some (.lst xs) := rfl
theorem d_str {x : Str} : R.dat h (.pv (.str x)) = some (.str x) := rfl
theorem d_int {i : Int} : R.dat h (.pv (.int i)) = some (.int i) := rfl
theorem d_bl {i : Bool} : R.dat h (.pv (.bl i)) = some (.bl i) := rfl
theorem d_non : R.dat h (.pv .non) = some .non := rfl
theorem d_tup {xs : List PV} : R.dat h (.pv (.tup xs)) = some (.tup xs) := rfl
theorem tr_bl {b : Bool} : R.tru h (.pv (.bl b)) = some b := rfl
theorem tr_int {i : Int} : R.tru h (.pv (.int i)) = some (i != 0) := rfl
theorem tr_non : R.tru h (.pv .non) = some false := rfl
theorem tr_str {x : Str} (hl : x.length ≤ lim) : R.tru h (.pv (.str x)) = some ((x.length : Int) != 0) := if_pos hl
theorem n_non : R.isNon (.pv .non) = true := rfl
theorem n_int {i : Int} : R.isNon (.pv (.int i)) = false := rfl
theorem n_str {i : Str} : R.isNon (.pv (.str i)) = false := rfl
theorem n_tup {i : List PV} : R.isNon (.pv (.tup i)) = false := rfl
theorem n_lst {i : List PV} : R.isNon (.pv (.lst i)) = false := rfl
theorem n_bl {i : Bool} : R.isNon (.pv (.bl i)) = false := rfl
theorem n_ref {i : Nat} : R.isNon (.pv (.ref i)) = false := rfl
theorem x_tup {xs : List PV} {i : Int} : ixR h (.pv (.tup xs)) (.pv (.int i)) = (L2.atI xs i).map .pv := rfl
theorem x_lst {xs : List PV} {i : Int} : ixR h (.pv (.lst xs)) (.pv (.int i)) = (L2.atI xs i).map .pv := rfl
theorem x_kl {xs : List PV} {i : Int} : ixR h (.pv (.kl xs)) (.pv (.int i)) = (L2.atI xs i).map .pv := rfl
theorem x_fr {xs : List PV} {i : Int} : ixR h (.fr (.l xs)) (.pv (.int i)) = (L2.atI xs i).map .pv := rfl
theorem x_br {xs : List PV} {i : Int} : ixR h (.br (.l xs)) (.pv (.int i)) = (L2.atI xs i).map .pv := rfl
theorem a_v {r : R} : asgR (.v n) r env = giveTo n r env := rfl
theorem a_t {ts : Tg} {r : R} : asgR (.t ts) r env = r.give.bind fun v => asg (.t ts) v env := rfl
theorem gt_pv (hl : n < env.length) : giveTo n (.pv v) env = some (env.set n (.sh v)) := if_pos hl
theorem gt_fr {o : Ob} (hl : n < env.length) : giveTo n (.fr o) env = some (env.set n (.ow o)) := if_pos hl
theorem as_v (hl : n < env.length) : asg (.v n) v env = some (env.set n (.sh v)) := by rw [asg, if_pos hl]
theorem as_tt {ts : Tg} {xs : List PV} : asg (.t ts) (.tup xs) env = asgs ts xs env := by rw [asg]
theorem as_tl {ts : Tg} {xs : List PV} : asg (.t ts) (.lst xs) env = asgs ts xs env := by rw [asg]
theorem as_n : asgs .nil [] env = some env := by rw [asgs]
theorem as_c {a ts : Tg} {xs : List PV} : asgs (.cons a ts) (v :: xs) env = (asg a v env).bind (asgs ts xs) := by rw [asgs]
theorem o_rtp : out (.rt (.pv v) h) = some (.pv v, h) := rfl
theorem o_rtf {o : Ob} : out (.rt (.fr o) h) = some (.fr o, h) := rfl
theorem o_rtb {o : Ob} : out (.rt (.br o) h) = some (.fr o, h) := rfl
theorem o_nx : out (.nx env h) = some (.pv .non, h) := rfl
theorem lp_n {f : PV → Sls → Hh → Option O} : loop f [] env h = some (.nx env h) := rfl
def lpK (f : PV → Sls → Hh → Option O) (xs : List PV) : O → Option O
  | .nx env h => loop f xs env h
  | .ct env h => loop f xs env h
  | .bk env h => some (.nx env h)
  | .rt r h => some (.rt r h)
theorem lp_c {f : PV → Sls → Hh → Option O} {x : PV} {xs : List PV} : loop f (x :: xs) env h = (f x env h).bind (lpK f xs) := by
  rw [loop]
  congr 1
theorem lpK_nx {f : PV → Sls → Hh → Option O} {xs : List PV} : lpK f xs (.nx env h) = loop f xs env h := rfl
theorem lpK_ct {f : PV → Sls → Hh → Option O} {xs : List PV} : lpK f xs (.ct env h) = loop f xs env h := rfl
theorem lpK_bk {f : PV → Sls → Hh → Option O} {xs : List PV} : lpK f xs (.bk env h) = some (.nx env h) := rfl
theorem lpK_rt {f : PV → Sls → Hh → Option O} {xs : List PV} {r : R} : lpK f xs (.rt r h) = some (.rt r h) := rfl
def foK (C : Call) (p : S) (h : Hh) (env : Sls) : Option O := evS C p env h
theorem foK_e : foK C p h env = evS C p env h := rfl
theorem forK_p {tg : Tg} {x : PV} : forK C tg p x env h = (asg tg x env).bind (foK C p h) := rfl
theorem turns_all {α : Type} {f : PV → Hh → Option (Option PV × Hh)} {rep : α → PV} {g : α → PV} : ∀ (xs : List α) (h : Hh), (∀ x ∈ xs, f (rep x) h = some (some (g x), h)) → turns f (xs.map rep) h = some (xs.map g, h)
  | [], h, _ => rfl
  | x :: xs, h, hf => by
    rw [List.map_cons, turns, hf x List.mem_cons_self]
    show (turns f (xs.map rep) h).map _ = _
    rw [turns_all xs h fun y m => hf y (List.mem_cons_of_mem _ m)]
    rfl
/-- a comprehension whose turns leave the boxes as they are -/
theorem turns_map {α : Type} {f : PV → Hh → Option (Option PV × Hh)} {rep : α → PV} {g : α → Option PV} : ∀ (xs : List α) (h : Hh), (∀ x ∈ xs, f (rep x) h = some (g x, h)) → turns f (xs.map rep) h = some (xs.filterMap g, h)
  | [], h, _ => rfl
  | x :: xs, h, hf => by
    rw [List.map_cons, turns, hf x List.mem_cons_self]
    show (turns f (xs.map rep) h).map _ = _
    rw [turns_map xs h fun y m => hf y (List.mem_cons_of_mem _ m), List.filterMap_cons]
    cases g x <;> rfl
end
theorem call_at {ds : List Def} {d : Def} {f k : Nat} {vs : List PV} {h : Hh} {b : S} {env : Sls} (hd : ds[f]? = some d) (hl : vs.length = d.pars.length) (hb : d.body = b) (he : vs.map Sl.sh ++ List.replicate (d.slots.length - vs.length) .un = env) :
    callK ds (k + 1) f vs h = (evS (callK ds k) b env h).bind out := by
  subst hb he
  simp only [callK, hd, Option.bind_some, hl, if_true]
/-! ### what is not nil -/
section
variable {C : Call} {env : Sls} {h : Hh} {a a1 b c e es lo hi t o i cd elt : E} {v : PV} {n : Nat} {x : Str} {op : Operator} {cp cp2 : CmpOp} {bb br : Bool} {bt : Blt} {mt : Mth} {ty : Ty} {own : List Nat} {tg : Tg} {kk ik : Ik}
theorem cd_con : cdK C (.con v) env h = (ev C (.con v) env h).bind trK := rfl
theorem pt_con : ptE C (.con v) env h = (ev C (.con v) env h).bind aiK := rfl
theorem i_con : evi C br ik a1 (.con v) env h = (ev C a1 env h).bind (itK C ik br (.con v) env) := ii_two rfl
theorem cd_var : cdK C (.var n) env h = (ev C (.var n) env h).bind trK := rfl
theorem pt_var : ptE C (.var n) env h = (ev C (.var n) env h).bind aiK := rfl
theorem i_var : evi C br ik a1 (.var n) env h = (ev C a1 env h).bind (itK C ik br (.var n) env) := ii_two rfl
theorem cd_glob : cdK C (.glob x v) env h = (ev C (.glob x v) env h).bind trK := rfl
theorem pt_glob : ptE C (.glob x v) env h = (ev C (.glob x v) env h).bind aiK := rfl
theorem i_glob : evi C br ik a1 (.glob x v) env h = (ev C a1 env h).bind (itK C ik br (.glob x v) env) := ii_two rfl
theorem cd_tup : cdK C (.tup es) env h = (ev C (.tup es) env h).bind trK := rfl
theorem pt_tup : ptE C (.tup es) env h = (ev C (.tup es) env h).bind aiK := rfl
theorem i_tup : evi C br ik a1 (.tup es) env h = (ev C a1 env h).bind (itK C ik br (.tup es) env) := ii_two rfl
theorem cd_lst : cdK C (.lst es) env h = (ev C (.lst es) env h).bind trK := rfl
theorem pt_lst : ptE C (.lst es) env h = (ev C (.lst es) env h).bind aiK := rfl
theorem i_lst : evi C br ik a1 (.lst es) env h = (ev C a1 env h).bind (itK C ik br (.lst es) env) := ii_two rfl
theorem cd_bin : cdK C (.bin op a b) env h = (ev C (.bin op a b) env h).bind trK := rfl
theorem pt_bin : ptE C (.bin op a b) env h = (ev C (.bin op a b) env h).bind aiK := rfl
theorem i_bin : evi C br ik a1 (.bin op a b) env h = (ev C a1 env h).bind (itK C ik br (.bin op a b) env) := ii_two rfl
theorem cd_neg : cdK C (.neg a) env h = (ev C (.neg a) env h).bind trK := rfl
theorem pt_neg : ptE C (.neg a) env h = (ev C (.neg a) env h).bind aiK := rfl
theorem i_neg : evi C br ik a1 (.neg a) env h = (ev C a1 env h).bind (itK C ik br (.neg a) env) := ii_two rfl
theorem cd_cmp : cdK C (.cmp cp a b) env h = (ev C (.cmp cp a b) env h).bind trK := rfl
theorem pt_cmp : ptE C (.cmp cp a b) env h = (ev C (.cmp cp a b) env h).bind aiK := rfl
theorem i_cmp : evi C br ik a1 (.cmp cp a b) env h = (ev C a1 env h).bind (itK C ik br (.cmp cp a b) env) := ii_two rfl
theorem cd_chain : cdK C (.chain cp cp2 a b c) env h = (ev C (.chain cp cp2 a b c) env h).bind trK := rfl
theorem pt_chain : ptE C (.chain cp cp2 a b c) env h = (ev C (.chain cp cp2 a b c) env h).bind aiK := rfl
theorem i_chain : evi C br ik a1 (.chain cp cp2 a b c) env h = (ev C a1 env h).bind (itK C ik br (.chain cp cp2 a b c) env) := ii_two rfl
theorem cd_isN : cdK C (.isN bb a) env h = (ev C (.isN bb a) env h).bind trK := rfl
theorem pt_isN : ptE C (.isN bb a) env h = (ev C (.isN bb a) env h).bind aiK := rfl
theorem i_isN : evi C br ik a1 (.isN bb a) env h = (ev C a1 env h).bind (itK C ik br (.isN bb a) env) := ii_two rfl
theorem cd_not : cdK C (.not a) env h = (ev C (.not a) env h).bind trK := rfl
theorem pt_not : ptE C (.not a) env h = (ev C (.not a) env h).bind aiK := rfl
theorem i_not : evi C br ik a1 (.not a) env h = (ev C a1 env h).bind (itK C ik br (.not a) env) := ii_two rfl
theorem cd_and : cdK C (.and a b) env h = (ev C (.and a b) env h).bind trK := rfl
theorem pt_and : ptE C (.and a b) env h = (ev C (.and a b) env h).bind aiK := rfl
theorem i_and : evi C br ik a1 (.and a b) env h = (ev C a1 env h).bind (itK C ik br (.and a b) env) := ii_two rfl
theorem cd_or : cdK C (.or a b) env h = (ev C (.or a b) env h).bind trK := rfl
theorem pt_or : ptE C (.or a b) env h = (ev C (.or a b) env h).bind aiK := rfl
theorem i_or : evi C br ik a1 (.or a b) env h = (ev C a1 env h).bind (itK C ik br (.or a b) env) := ii_two rfl
theorem cd_ife : cdK C (.ife t a b) env h = (ev C (.ife t a b) env h).bind trK := rfl
theorem pt_ife : ptE C (.ife t a b) env h = (ev C (.ife t a b) env h).bind aiK := rfl
theorem i_ife : evi C br ik a1 (.ife t a b) env h = (ev C a1 env h).bind (itK C ik br (.ife t a b) env) := ii_two rfl
theorem cd_idx : cdK C (.idx a b) env h = (ev C (.idx a b) env h).bind trK := rfl
theorem pt_idx : ptE C (.idx a b) env h = (ev C (.idx a b) env h).bind aiK := rfl
theorem i_idx : evi C br ik a1 (.idx a b) env h = (ev C a1 env h).bind (itK C ik br (.idx a b) env) := ii_two rfl
theorem cd_slc : cdK C (.slc a lo hi) env h = (ev C (.slc a lo hi) env h).bind trK := rfl
theorem pt_slc : ptE C (.slc a lo hi) env h = (ev C (.slc a lo hi) env h).bind aiK := rfl
theorem i_slc : evi C br ik a1 (.slc a lo hi) env h = (ev C a1 env h).bind (itK C ik br (.slc a lo hi) env) := ii_two rfl
theorem cd_rev : cdK C (.rev a) env h = (ev C (.rev a) env h).bind trK := rfl
theorem pt_rev : ptE C (.rev a) env h = (ev C (.rev a) env h).bind aiK := rfl
theorem i_rev : evi C br ik a1 (.rev a) env h = (ev C a1 env h).bind (itK C ik br (.rev a) env) := ii_two rfl
theorem cd_call : cdK C (.call n es) env h = (ev C (.call n es) env h).bind trK := rfl
theorem pt_call : ptE C (.call n es) env h = (ev C (.call n es) env h).bind aiK := rfl
theorem i_call : evi C br ik a1 (.call n es) env h = (ev C a1 env h).bind (itK C ik br (.call n es) env) := ii_two rfl
theorem cd_blt : cdK C (.blt bt es) env h = (ev C (.blt bt es) env h).bind trK := rfl
theorem pt_blt : ptE C (.blt bt es) env h = (ev C (.blt bt es) env h).bind aiK := rfl
theorem i_blt : evi C br ik a1 (.blt bt es) env h = (ev C a1 env h).bind (itK C ik br (.blt bt es) env) := ii_two rfl
theorem cd_mth : cdK C (.mth mt o es) env h = (ev C (.mth mt o es) env h).bind trK := rfl
theorem pt_mth : ptE C (.mth mt o es) env h = (ev C (.mth mt o es) env h).bind aiK := rfl
theorem i_mth : evi C br ik a1 (.mth mt o es) env h = (ev C a1 env h).bind (itK C ik br (.mth mt o es) env) := ii_two rfl
theorem cd_isin : cdK C (.isin a ty) env h = (ev C (.isin a ty) env h).bind trK := rfl
theorem pt_isin : ptE C (.isin a ty) env h = (ev C (.isin a ty) env h).bind aiK := rfl
theorem i_isin : evi C br ik a1 (.isin a ty) env h = (ev C a1 env h).bind (itK C ik br (.isin a ty) env) := ii_two rfl
theorem cd_setlen : cdK C (.setlen a) env h = (ev C (.setlen a) env h).bind trK := rfl
theorem pt_setlen : ptE C (.setlen a) env h = (ev C (.setlen a) env h).bind aiK := rfl
theorem i_setlen : evi C br ik a1 (.setlen a) env h = (ev C a1 env h).bind (itK C ik br (.setlen a) env) := ii_two rfl
theorem cd_lc : cdK C (.lc own elt tg kk a b cd) env h = (ev C (.lc own elt tg kk a b cd) env h).bind trK := rfl
theorem pt_lc : ptE C (.lc own elt tg kk a b cd) env h = (ev C (.lc own elt tg kk a b cd) env h).bind aiK := rfl
theorem i_lc : evi C br ik a1 (.lc own elt tg kk a b cd) env h = (ev C a1 env h).bind (itK C ik br (.lc own elt tg kk a b cd) env) := ii_two rfl
end
end Ev

set_option maxRecDepth 100000
set_option maxHeartbeats 2000000
/-! EvU: more to reckon with: items, operators, built-ins. -/
namespace Ev
open PySem
section
variable {h : Hh} {xs ys : List PV} {br : Bool} {v u : PV} {x y : Str} {i j : Int} {n : Nat} {r : R}
theorem itm_tup : itemsOf .val br (.pv (.tup xs)) none = some xs := rfl
theorem itm_lst : itemsOf .val br (.pv (.lst xs)) none = some xs := rfl
theorem itm_kl : itemsOf .val br (.pv (.kl xs)) none = some xs := rfl
theorem itm_fr : itemsOf .val br (.fr (.l xs)) none = some xs := rfl
theorem itm_br : itemsOf .val true (.br (.l xs)) none = some xs := rfl
theorem itm_etup : itemsOf .enum br (.pv (.tup xs)) none = some (numbered 0 xs) := rfl
theorem itm_elst : itemsOf .enum br (.pv (.lst xs)) none = some (numbered 0 xs) := rfl
theorem itm_ekl : itemsOf .enum br (.pv (.kl xs)) none = some (numbered 0 xs) := rfl
theorem itm_efr : itemsOf .enum br (.fr (.l xs)) none = some (numbered 0 xs) := rfl
theorem itm_ebr : itemsOf .enum true (.br (.l xs)) none = some (numbered 0 xs) := rfl
theorem itm_r1 (hn : small 62 i = true) : itemsOf .rng1 br (.pv (.int i)) none = some ((List.range i.toNat).map fun (i : Nat) => PV.int i) := if_pos hn
theorem itm_r2 (hn : (small 62 i && small 62 j) = true) : itemsOf .rng2 br (.pv (.int i)) (some (.pv (.int j))) = some ((List.range (j - i).toNat).map fun (n : Nat) => PV.int (i + n)) := if_pos hn
theorem at_nat {α : Type} {xs : List α} : L2.atI xs (n : Int) = xs[n]? := by
  unfold L2.atI L2.ixN
  by_cases c : n < xs.length
  · have : (n : Int) < xs.length := by omega
    simp [this]
  · have : ¬ (n : Int) < xs.length := by omega
    simp [this]
    omega
theorem at_0 {α : Type} {xs : List α} : L2.atI xs 0 = xs[0]? := at_nat (n := 0)
theorem at_1 {α : Type} {xs : List α} : L2.atI xs 1 = xs[1]? := at_nat (n := 1)
theorem at_2 {α : Type} {xs : List α} : L2.atI xs 2 = xs[2]? := at_nat (n := 2)
theorem at_3 {α : Type} {xs : List α} : L2.atI xs 3 = xs[3]? := at_nat (n := 3)
theorem at_4 {α : Type} {xs : List α} : L2.atI xs 4 = xs[4]? := at_nat (n := 4)
theorem at_5 {α : Type} {xs : List α} : L2.atI xs 5 = xs[5]? := at_nat (n := 5)
theorem at_6 {α : Type} {xs : List α} : L2.atI xs 6 = xs[6]? := at_nat (n := 6)
theorem at_7 {α : Type} {xs : List α} : L2.atI xs 7 = xs[7]? := at_nat (n := 7)
/-! operators -/
theorem p_ii : bop .Add h (.pv (.int i)) (.pv (.int j)) = some (.pv (.int (i + j))) := rfl
theorem p_ss (hl : x.length + y.length ≤ lim) : bop .Add h (.pv (.str x)) (.pv (.str y)) = some (.pv (.str (x ++ y))) := if_pos hl
theorem p_tt (hl : xs.length + ys.length ≤ lim) : bop .Add h (.pv (.tup xs)) (.pv (.tup ys)) = some (.pv (.tup (xs ++ ys))) := if_pos hl
theorem p_oo {a b : R} (ha : a.own h = some xs) (hb : b.own h = some ys) (hl : xs.length + ys.length ≤ lim) : bop .Add h a b = some (.fr (.l (xs ++ ys))) := by
  have key : (a.own h).bind (fun xs => (b.own h).bind fun ys => if xs.length + ys.length ≤ lim then some (R.fr (.l (xs ++ ys))) else none) = some (.fr (.l (xs ++ ys))) := by
    rw [ha, hb]
    exact if_pos hl
  cases a with
  | pv va => cases va <;> first | exact key | cases ha
  | fr => exact key
  | br => exact key
theorem p_ff (hl : xs.length + ys.length ≤ lim) : bop .Add h (.fr (.l xs)) (.fr (.l ys)) = some (.fr (.l (xs ++ ys))) := p_oo rfl rfl hl
theorem p_bf (hl : xs.length + ys.length ≤ lim) : bop .Add h (.br (.l xs)) (.fr (.l ys)) = some (.fr (.l (xs ++ ys))) := p_oo rfl rfl hl
theorem p_lf (hl : xs.length + ys.length ≤ lim) : bop .Add h (.pv (.lst xs)) (.fr (.l ys)) = some (.fr (.l (xs ++ ys))) := p_oo rfl rfl hl
theorem p_fl (hl : xs.length + ys.length ≤ lim) : bop .Add h (.fr (.l xs)) (.pv (.lst ys)) = some (.fr (.l (xs ++ ys))) := p_oo rfl rfl hl
theorem p_ll (hl : xs.length + ys.length ≤ lim) : bop .Add h (.pv (.lst xs)) (.pv (.lst ys)) = some (.fr (.l (xs ++ ys))) := p_oo rfl rfl hl
theorem p_bl (hl : xs.length + ys.length ≤ lim) : bop .Add h (.br (.l xs)) (.pv (.lst ys)) = some (.fr (.l (xs ++ ys))) := p_oo rfl rfl hl
theorem p_sub : bop .Sub h (.pv (.int i)) (.pv (.int j)) = some (.pv (.int (i - j))) := rfl
theorem p_mul (hl : (small 64 i || small 64 j) = true) : bop .Mult h (.pv (.int i)) (.pv (.int j)) = some (.pv (.int (i * j))) := if_pos hl
theorem p_mulL (hl : small 64 i = true) : bop .Mult h (.pv (.int i)) (.pv (.int j)) = some (.pv (.int (i * j))) := p_mul (by rw [hl]; rfl)
theorem p_mulR (hl : small 64 j = true) : bop .Mult h (.pv (.int i)) (.pv (.int j)) = some (.pv (.int (i * j))) := p_mul (by rw [hl, Bool.or_true])
theorem p_divP (h1 : 0 < j) (h2 : j < 1073741824) : bop .FloorDiv h (.pv (.int i)) (.pv (.int j)) = some (.pv (.int (i.fdiv j))) := if_pos (by omega)
theorem p_modP (h1 : 0 < j) : bop .Mod h (.pv (.int i)) (.pv (.int j)) = some (.pv (.int (i.fmod j))) := if_pos (by omega)
theorem p_div (hl : j ≠ 0 ∧ j.natAbs < 1073741824) : bop .FloorDiv h (.pv (.int i)) (.pv (.int j)) = some (.pv (.int (i.fdiv j))) := if_pos hl
theorem p_mod (hl : j ≠ 0) : bop .Mod h (.pv (.int i)) (.pv (.int j)) = some (.pv (.int (i.fmod j))) := if_pos hl
theorem p_pow (hl : 0 ≤ j ∧ j.toNat ≤ 1000000 ∧ small 64 i = true) : bop .Pow h (.pv (.int i)) (.pv (.int j)) = some (.pv (.int (i ^ j.toNat))) := if_pos hl
/-! comparisons -/
theorem c_lt : cop .Lt h (.pv (.int i)) (.pv (.int j)) = some (decide (i < j)) := rfl
theorem c_le : cop .LtE h (.pv (.int i)) (.pv (.int j)) = some (decide (i ≤ j)) := rfl
theorem c_gt : cop .Gt h (.pv (.int i)) (.pv (.int j)) = some (decide (j < i)) := rfl
theorem c_ge : cop .GtE h (.pv (.int i)) (.pv (.int j)) = some (decide (j ≤ i)) := rfl
def eqK2 (v u : PV) : Option Bool := if okD v && okD u then some (pvEq v u) else none
def eqK1 (h : Hh) (b : R) (v : PV) : Option Bool := (b.dat h).bind (eqK2 v)
theorem eqK1_v {b : R} : eqK1 h b v = (b.dat h).bind (eqK2 v) := rfl
theorem eqK2_v (hv : okD v = true) (hu : okD u = true) : eqK2 v u = some (pvEq v u) := by rw [eqK2, hv, hu]; rfl
theorem c_eq {a b : R} : cop .Eq h a b = (a.dat h).bind (eqK1 h b) := rfl
theorem c_ne {a b : R} : cop .NotEq h a b = ((a.dat h).bind (eqK1 h b)).map not := rfl
theorem c_in {a b : R} : cop .In h a b = inR h a b := rfl
theorem c_ni {a b : R} : cop .NotIn h a b = (inR h a b).map not := rfl
def inK (u : PV) (xs : List PV) (v : PV) : Option Bool := if okD v && okD u then some (xs.any fun z => pvEq z v) else none
theorem inK_v (hv : okD v = true) (hu : okD u = true) : inK u xs v = some (xs.any fun z => pvEq z v) := by rw [inK, hv, hu]; rfl
theorem in_tup {a : R} : inR h a (.pv (.tup xs)) = (a.dat h).bind (inK (.tup xs) xs) := rfl
theorem in_lst {a : R} : inR h a (.pv (.lst xs)) = (a.dat h).bind (inK (.lst xs) xs) := rfl
theorem in_kl {a : R} : inR h a (.pv (.kl xs)) = (a.dat h).bind (inK (.kl xs) xs) := rfl
theorem in_fr {a : R} : inR h a (.fr (.l xs)) = (a.dat h).bind (inK (.lst xs) xs) := rfl
theorem in_br {a : R} : inR h a (.br (.l xs)) = (a.dat h).bind (inK (.lst xs) xs) := rfl
/-! built-ins -/
theorem f_abs : blt .abs h [.pv (.int i)] = some (.pv (.int (if i < 0 then -i else i))) := rfl
theorem f_int : blt .int h [.pv (.int i)] = some (.pv (.int i)) := rfl
theorem f_lenS (hl : x.length ≤ lim) : blt .len h [.pv (.str x)] = some (.pv (.int x.length)) := if_pos hl
theorem f_lent : blt .len h [.pv (.tup xs)] = some (.pv (.int xs.length)) := rfl
theorem f_lenl : blt .len h [.pv (.lst xs)] = some (.pv (.int xs.length)) := rfl
theorem f_lenk : blt .len h [.pv (.kl xs)] = some (.pv (.int xs.length)) := rfl
theorem f_lenf : blt .len h [.fr (.l xs)] = some (.pv (.int xs.length)) := rfl
theorem f_lenb : blt .len h [.br (.l xs)] = some (.pv (.int xs.length)) := rfl
theorem f_lst {b : Bool} (hr : r.seq h = some (b, xs)) : blt .list h [r] = some (.fr (.l xs)) := by
  show (r.seq h).map _ = _
  rw [hr]; rfl
theorem f_listk : blt .list h [.pv (.kl xs)] = some (.fr (.l xs)) := rfl
theorem f_listl : blt .list h [.pv (.lst xs)] = some (.fr (.l xs)) := rfl
theorem f_listt : blt .list h [.pv (.tup xs)] = some (.fr (.l xs)) := rfl
theorem f_listf : blt .list h [.fr (.l xs)] = some (.fr (.l xs)) := rfl
theorem f_tupl : blt .tuple h [.pv (.lst xs)] = some (.pv (.tup xs)) := rfl
theorem f_tupt : blt .tuple h [.pv (.tup xs)] = some (.pv (.tup xs)) := rfl
theorem f_tupf : blt .tuple h [.fr (.l xs)] = some (.pv (.tup xs)) := rfl
theorem f_tupb : blt .tuple h [.br (.l xs)] = some (.pv (.tup xs)) := rfl
def allK (bs : List Bool) : R := .pv (.bl (bs.all id))
def anyK (bs : List Bool) : R := .pv (.bl (bs.any id))
theorem f_all : blt .all h [.fr (.l xs)] = (boolsP xs).map allK := rfl
theorem f_any : blt .any h [.fr (.l xs)] = (boolsP xs).map anyK := rfl
theorem bools_map : ∀ (bs : List Bool), boolsP (bs.map PV.bl) = some bs
  | [] => rfl
  | b :: bs => by
    show (boolsP (bs.map PV.bl)).map (b :: ·) = _
    rw [bools_map bs]; rfl
theorem allK_b {bs : List Bool} : allK bs = .pv (.bl (bs.all id)) := rfl
theorem anyK_b {bs : List Bool} : anyK bs = .pv (.bl (bs.any id)) := rfl
theorem f_sort1 {v : PV} : blt .sorted h [.br (.l [v])] = some (.fr (.l [v])) := rfl
theorem f_sort1f {v : PV} : blt .sorted h [.fr (.l [v])] = some (.fr (.l [v])) := rfl
theorem ints_map : ∀ (bs : List Int), intsP (bs.map PV.int) = some bs
  | [] => rfl
  | b :: bs => by
    show (intsP (bs.map PV.int)).map (b :: ·) = _
    rw [ints_map bs]; rfl
/-! methods -/
theorem mo_i {m : Mth} (hm : m = .index ∨ m = .count) (hr : r.seq h = some (false, xs)) : mthOk m h r = true := by
  rcases hm with rfl | rfl <;> (unfold mthOk; rw [hr])
theorem mo_il : mthOk .index h (.pv (.lst xs)) = true := rfl
theorem mo_ib : mthOk .index h (.br (.l xs)) = true := rfl
theorem mo_ik : mthOk .index h (.pv (.kl xs)) = true := rfl
theorem mo_if : mthOk .index h (.fr (.l xs)) = true := rfl
theorem mo_cl : mthOk .count h (.pv (.lst xs)) = true := rfl
theorem mo_cb : mthOk .count h (.br (.l xs)) = true := rfl
theorem mo_cf : mthOk .count h (.fr (.l xs)) = true := rfl
def ixK0 (n : Nat) : R := .pv (.int n)
theorem ixK0_n : ixK0 n = .pv (.int n) := rfl
def ixMK (xs : List PV) (v : PV) : Option R := if okD v && okD (.lst xs) then (firstAt v 0 xs).map ixK0 else none
theorem ixMK_v (hv : okD v = true) (hu : okD (.lst xs) = true) : ixMK xs v = (firstAt v 0 xs).map ixK0 := by rw [ixMK, hv, hu]; rfl
theorem m_il : mth .index h (.pv (.lst xs)) [r] = (r.dat h).bind (ixMK xs) := rfl
theorem m_ib : mth .index h (.br (.l xs)) [r] = (r.dat h).bind (ixMK xs) := rfl
theorem m_if : mth .index h (.fr (.l xs)) [r] = (r.dat h).bind (ixMK xs) := rfl
def coMK (xs : List PV) (v : PV) : Option R := if okD v && okD (.lst xs) then some (.pv (.int (xs.countP fun z => pvEq z v))) else none
theorem coMK_v (hv : okD v = true) (hu : okD (.lst xs) = true) : coMK xs v = some (.pv (.int (xs.countP fun z => pvEq z v))) := by rw [coMK, hv, hu]; rfl
theorem m_cl : mth .count h (.pv (.lst xs)) [r] = (r.dat h).bind (coMK xs) := rfl
theorem m_cb : mth .count h (.br (.l xs)) [r] = (r.dat h).bind (coMK xs) := rfl
theorem m_cf : mth .count h (.fr (.l xs)) [r] = (r.dat h).bind (coMK xs) := rfl
/-! stores -/
def boK : Option Ob → Bool
  | some (.l _) => true
  | _ => false
def apoK (h : Hh) : Option Sl → Bool
  | some (.ow (.l _)) => true
  | some (.sh (.ref n)) => boK h[n]?
  | _ => false
theorem apo_s {env : Sls} : appOk n env h = apoK h env[n]? := by
  unfold appOk
  cases env[n]? with
  | none => rfl
  | some s => cases s with
    | un => rfl
    | sh v => cases v <;> rfl
    | ow o => cases o <;> rfl
theorem apoK_o : apoK h (some (.ow (.l xs))) = true := rfl
theorem apoK_r {m : Nat} : apoK h (some (.sh (.ref m))) = boK h[m]? := rfl
theorem boK_l : boK (some (.l xs)) = true := rfl
def bxK (n : Nat) (v : PV) (env : Sls) (h : Hh) : Option Ob → Option (Sls × Hh)
  | some (.l xs) => if xs.length < lim then some (env, h.set n (.l (xs ++ [v]))) else none
  | _ => none
def apK (n : Nat) (v : PV) (env : Sls) (h : Hh) : Option Sl → Option (Sls × Hh)
  | some (.ow (.l xs)) => if xs.length < lim then some (env.set n (.ow (.l (xs ++ [v]))), h) else none
  | some (.sh (.ref m)) => bxK m v env h h[m]?
  | _ => none
theorem ap_s {env : Sls} : appS n v env h = apK n v env h env[n]? := by
  unfold appS
  cases env[n]? with
  | none => rfl
  | some s => cases s with
    | un => rfl
    | sh u => cases u <;> rfl
    | ow o => cases o <;> rfl
theorem apK_o {env : Sls} (hl : xs.length < lim) : apK n v env h (some (.ow (.l xs))) = some (env.set n (.ow (.l (xs ++ [v]))), h) := if_pos hl
theorem apK_r {env : Sls} {m : Nat} : apK n v env h (some (.sh (.ref m))) = bxK m v env h h[m]? := rfl
theorem bxK_l {env : Sls} (hl : xs.length < lim) : bxK n v env h (some (.l xs)) = some (env, h.set n (.l (xs ++ [v]))) := if_pos hl
theorem gu_n : giveAll [] [] = fun env => some env := rfl
theorem gu_c {env : Sls} {is : List Nat} {rs : List R} : giveAll (n :: is) (r :: rs) env = (giveTo n r env).bind (giveAll is rs) := rfl
theorem gu_e {env : Sls} : giveAll [] [] env = some env := rfl
theorem se_p {m : Nat} : setR h (.pv (.ref n)) (.pv (.int i)) v = (match h[n]? with | some (.l xs) => (L2.ixN xs.length i).map fun m => h.set n (.l (xs.set m v)) | _ => none) := rfl
/-! data -/
theorem ok_non : okD .non = true := by rw [okD]; rfl
theorem ok_bl {b : Bool} : okD (.bl b) = true := by rw [okD]; rfl
theorem ok_int : okD (.int i) = true := by rw [okD]; rfl
theorem ok_str (hs : PyData.strOk x = true) : okD (.str x) = true := by simp [okD, plain, dep, hs]
theorem plains_all : plains xs = xs.all plain := by
  induction xs with
  | nil => rfl
  | cons a r ih => rw [plains, ih]; rfl
theorem deps_le {m : Nat} (hd : ∀ v ∈ xs, dep v ≤ m) : deps xs ≤ m := by
  induction xs with
  | nil => exact Nat.zero_le _
  | cons a r ih =>
    rw [deps]
    exact Nat.max_le.mpr ⟨hd a List.mem_cons_self, ih fun v m => hd v (List.mem_cons_of_mem _ m)⟩
/-- flat rows: no boxes, not deep -/
def flat (m : Nat) (v : PV) : Bool := plain v && decide (dep v ≤ m)
theorem ok_flat {m : Nat} (hm : m ≤ 64) (hv : flat m v = true) : okD v = true := by
  simp only [flat, okD, Bool.and_eq_true, decide_eq_true_eq] at *
  exact ⟨hv.1, by omega⟩
theorem flat_lst {m : Nat} (hx : ∀ v ∈ xs, flat m v = true) : flat (m + 1) (.lst xs) = true := by
  simp only [flat, Bool.and_eq_true, decide_eq_true_eq, plain, dep] at *
  exact ⟨by rw [plains_all, List.all_eq_true]; exact fun v q => (hx v q).1, decide_eq_true (Nat.succ_le_succ (deps_le fun v q => (hx v q).2))⟩
theorem flat_tup {m : Nat} (hx : ∀ v ∈ xs, flat m v = true) : flat (m + 1) (.tup xs) = true := flat_lst hx
theorem flat_up {m k : Nat} (hk : m ≤ k) (hx : flat m v = true) : flat k v = true := by
  simp only [flat, Bool.and_eq_true, decide_eq_true_eq] at *
  exact ⟨hx.1, by omega⟩
theorem numbered_map {α : Type} {rep : α → PV} : ∀ (n : Nat) (xs : List α), numbered n (xs.map rep) = (xs.zipIdx n).map fun p => .tup [.int (p.2 : Int), rep p.1]
  | _, [] => rfl
  | n, x :: xs => by
    rw [List.map_cons, numbered, numbered_map (n + 1) xs]
    rfl
end
section
variable {h : Hh} {f : PV → Hh → Option (Option PV × Hh)} {x : PV} {xs ys : List PV} {b : Bool} {bs : List Bool} {v : Option PV} {i : Int} {is : List Int}
def catK (v : Option PV) (q : List PV × Hh) : List PV × Hh := (v.toList ++ q.1, q.2)
theorem catK_s {u : PV} : catK (some u) (ys, h) = (u :: ys, h) := rfl
theorem catK_n : catK none (ys, h) = (ys, h) := rfl
def turK (f : PV → Hh → Option (Option PV × Hh)) (xs : List PV) (p : Option PV × Hh) : Option (List PV × Hh) := (turns f xs p.2).map (catK p.1)
theorem turK_p : turK f xs (v, h) = (turns f xs h).map (catK v) := rfl
theorem tu_n : turns f [] h = some ([], h) := rfl
theorem tu_c : turns f (x :: xs) h = (f x h).bind (turK f xs) := rfl
theorem bo_n : boolsP [] = some [] := rfl
theorem bo_c : boolsP (.bl b :: xs) = (boolsP xs).map (List.cons b) := rfl
theorem in_n : intsP [] = some [] := rfl
theorem in_c : intsP (.int i :: xs) = (intsP xs).map (List.cons i) := rfl
theorem al_n : allK [] = .pv (.bl true) := rfl
theorem al_t : allK (true :: bs) = allK bs := by simp [allK]
theorem al_f : allK (false :: bs) = .pv (.bl false) := by simp [allK]
theorem nu_n {n : Nat} : numbered n [] = [] := rfl
theorem nu_c {n : Nat} : numbered n (x :: xs) = .tup [.int n, x] :: numbered (n + 1) xs := rfl
end
section
variable {h : Hh} {n m : Nat} {i : Int} {xs ys : List PV} {v : PV} {x : Str}
/-! ### boxes -/
def refK (i : Int) : Option Ob → Option R
  | some (.l xs) => (L2.atI xs i).map .pv
  | _ => none
theorem refK_l : refK i (some (.l xs)) = (L2.atI xs i).map .pv := rfl
theorem x_ref (e : h[n]? = some (.l xs)) : ixR h (.pv (.ref n)) (.pv (.int i)) = (L2.atI xs i).map .pv := by
  have e1 : R.dct h (.pv (.ref n)) = none := by
    show (match h[n]? with | some (.d kvs) => some kvs | _ => none) = none
    rw [e]
  have e2 : R.seq h (.pv (.ref n)) = some (false, xs) := by
    show (match h[n]? with | some (.l xs) => some (false, xs) | _ => none) = some (false, xs)
    rw [e]
  unfold ixR
  rw [e1]
  show (R.seq h (.pv (.ref n))).bind (fun p => (L2.atI p.2 i).map R.pv) = _
  rw [e2]
  rfl
def setK1 (h : Hh) (n : Nat) (v : PV) (xs : List PV) (m : Nat) : Hh := h.set n (.l (xs.set m v))
theorem setK1_m : setK1 h n v xs m = h.set n (.l (xs.set m v)) := rfl
def setK (h : Hh) (n : Nat) (i : Int) (v : PV) : Option Ob → Option Hh
  | some (.l xs) => (L2.ixN xs.length i).map (setK1 h n v xs)
  | _ => none
theorem setK_l : setK h n i v (some (.l xs)) = (L2.ixN xs.length i).map (setK1 h n v xs) := rfl
theorem set_ref : setR h (.pv (.ref n)) (.pv (.int i)) v = setK h n i v h[n]? := by
  simp only [setR]
  cases h[n]? with
  | none => rfl
  | some o => cases o <;> rfl
theorem ixn_20 : L2.ixN 2 0 = some 0 := rfl
theorem ixn_21 : L2.ixN 2 1 = some 1 := rfl
theorem ixn_31 : L2.ixN 3 1 = some 1 := rfl
theorem ixn_30 : L2.ixN 3 0 = some 0 := rfl
theorem ixn_32 : L2.ixN 3 2 = some 2 := rfl
theorem sl_tup {lo hi : Option Int} : slR h (.pv (.tup xs)) lo hi = some (.pv (.tup (cutP xs lo hi))) := rfl
theorem sl_lst {lo hi : Option Int} : slR h (.pv (.lst xs)) lo hi = some (.fr (.l (cutP xs lo hi))) := rfl
theorem sl_fr {lo hi : Option Int} : slR h (.fr (.l xs)) lo hi = some (.fr (.l (cutP xs lo hi))) := rfl
theorem sl_br {lo hi : Option Int} : slR h (.br (.l xs)) lo hi = some (.fr (.l (cutP xs lo hi))) := rfl
theorem rv_lst : rvR h (.pv (.lst xs)) = some (.fr (.l xs.reverse)) := rfl
theorem rv_fr : rvR h (.fr (.l xs)) = some (.fr (.l xs.reverse)) := rfl
theorem rv_br : rvR h (.br (.l xs)) = some (.fr (.l xs.reverse)) := rfl
theorem asI_i : R.asI (.pv (.int i)) = some i := rfl
end
/-! ### loops -/
inductive Two {α β : Type} (P : α → β → Prop) : List α → List β → Prop
  | nil : Two P [] []
  | cons {x : α} {y : β} {xs : List α} {ys : List β} : P x y → Two P xs ys → Two P (x :: xs) (y :: ys)
/-- turns that keep or drop, the heap within an invariant -/
theorem turns_sub {f : PV → Hh → Option (Option PV × Hh)} {I : Hh → Prop} : ∀ (xs : List PV) (h : Hh), I h → (∀ x ∈ xs, ∀ h, I h → ∃ (b : Bool) (h' : Hh), f x h = some (if b then some x else none, h') ∧ I h') → ∃ ys h', turns f xs h = some (ys, h') ∧ ys.Sublist xs ∧ I h'
  | [], h, i, _ => ⟨[], h, rfl, List.Sublist.refl _, i⟩
  | x :: xs, h, i, hf => by
    obtain ⟨b, h1, e1, i1⟩ := hf x List.mem_cons_self h i
    obtain ⟨ys, h2, e2, s2, i2⟩ := turns_sub xs h1 i1 fun y m => hf y (List.mem_cons_of_mem _ m)
    cases b with
    | true => exact ⟨x :: ys, h2, by rw [tu_c, e1, b_some, turK_p, e2]; rfl, s2.cons_cons x, i2⟩
    | false => exact ⟨ys, h2, by rw [tu_c, e1, b_some, turK_p, e2]; rfl, s2.cons x, i2⟩
/-- turns that give one thing each, the heap within an invariant -/
theorem turns_each {α : Type} {f : PV → Hh → Option (Option PV × Hh)} {rep : α → PV} {I : Hh → Prop} {P : α → PV → Prop} : ∀ (xs : List α) (h : Hh), I h → (∀ x ∈ xs, ∀ h, I h → ∃ (y : PV) (h' : Hh), f (rep x) h = some (some y, h') ∧ P x y ∧ I h') →
    ∃ ys h', turns f (xs.map rep) h = some (ys, h') ∧ Two P xs ys ∧ I h'
  | [], h, i, _ => ⟨[], h, rfl, .nil, i⟩
  | x :: xs, h, i, hf => by
    obtain ⟨y, h1, e1, p1, i1⟩ := hf x List.mem_cons_self h i
    obtain ⟨ys, h2, e2, p2, i2⟩ := turns_each xs h1 i1 fun y m => hf y (List.mem_cons_of_mem _ m)
    exact ⟨y :: ys, h2, by rw [List.map_cons, tu_c, e1, b_some, turK_p, e2]; rfl, .cons p1 p2, i2⟩
/-- a for that appends one thing a turn, the heap within an invariant -/
theorem loop_each {α J : Type} {f : PV → Sls → Hh → Option O} {rep : α → PV} {E : J → List PV → Sls} {I : Hh → Prop} {P : α → PV → Prop} {M : Nat} : ∀ (xs : List α) (j : J) (acc : List PV) (h : Hh), I h → acc.length + xs.length ≤ M →
    (∀ x ∈ xs, ∀ (j : J) (acc : List PV) (h : Hh), I h → acc.length + 1 ≤ M → ∃ j' y h', f (rep x) (E j acc) h = some (.nx (E j' (acc ++ [y])) h') ∧ P x y ∧ I h') →
    ∃ j' ys h', loop f (xs.map rep) (E j acc) h = some (.nx (E j' (acc ++ ys)) h') ∧ Two P xs ys ∧ I h'
  | [], j, acc, h, i, _, _ => ⟨j, [], h, by simp [loop], .nil, i⟩
  | x :: xs, j, acc, h, i, hb, hf => by
    rw [List.length_cons] at hb
    obtain ⟨j1, y, h1, e1, p1, i1⟩ := hf x List.mem_cons_self j acc h i (by omega)
    obtain ⟨j2, ys, h2, e2, p2, i2⟩ := loop_each xs j1 (acc ++ [y]) h1 i1 (by rw [List.length_append, List.length_singleton]; omega) fun z m => hf z (List.mem_cons_of_mem _ m)
    refine ⟨j2, y :: ys, h2, ?_, .cons p1 p2, i2⟩
    rw [List.map_cons, lp_c, e1, b_some, lpK_nx, e2, List.append_assoc]
    rfl
/-- a for that appends to one list; J: what else its turns leave in the slots -/
theorem loop_app {α J : Type} {f : PV → Sls → Hh → Option O} {rep : α → PV} {g : α → List PV} {E : J → List PV → Sls} {h : Hh} {M : Nat} : ∀ (xs : List α) (j : J) (acc : List PV), acc.length + (xs.flatMap g).length ≤ M →
    (∀ x ∈ xs, ∀ (j : J) (acc : List PV), acc.length + (g x).length ≤ M → ∃ j', f (rep x) (E j acc) h = some (.nx (E j' (acc ++ g x)) h)) → ∃ j', loop f (xs.map rep) (E j acc) h = some (.nx (E j' (acc ++ xs.flatMap g)) h)
  | [], j, acc, _, _ => ⟨j, by simp [loop]⟩
  | x :: xs, j, acc, hb, hf => by
    rw [List.flatMap_cons, List.length_append] at hb
    obtain ⟨j1, e1⟩ := hf x List.mem_cons_self j acc (by omega)
    obtain ⟨j2, e2⟩ := loop_app xs j1 (acc ++ g x) (by rw [List.length_append]; omega) fun y m => hf y (List.mem_cons_of_mem _ m)
    refine ⟨j2, ?_⟩
    rw [List.map_cons, lp_c, e1]
    show loop f (xs.map rep) (E j1 (acc ++ g x)) h = _
    rw [e2, List.flatMap_cons, List.append_assoc]
end Ev

set_option maxRecDepth 100000
set_option maxHeartbeats 0
namespace K57
open PySem Ev
abbrev fuel : Nat := 1000000000
def c_PLAIN : PV := .tup [.tup [.str "int"], .tup [.str "text"]]
def l_named_0 : S := (.seq (.ite (.cmp .Eq (.idx (.var 2) (.con (.int 0))) (.var 1)) (.seq (.ret (.var 2)) .skip) .skip) .skip)
def b_named : S := (.seq (.for (.v 2) .val (.var 0) .nil l_named_0) (.seq (.ret (.con (.non))) .skip))
def d_named : Def := ⟨"named", ["rows", "name"], ["rows", "name", "row"], b_named⟩
def b_fields_in : S := (.seq (.ass (.v 3) (.call 0 (.cons (.idx (.var 0) (.con (.int 0))) (.cons (.var 1) .nil)))) (.frz 3 (.seq (.ass (.v 4) (.ife (.isN false (.var 3)) (.con (.non)) (.call 0 (.cons (.idx (.var 3) (.con (.int 2))) (.cons (.var 2) .nil))))) (.frz 4 (.seq (.ret (.ife (.isN false (.var 4)) (.con (.non)) (.idx (.var 4) (.con (.int 1))))) .skip)))))
def d_fields_in : Def := ⟨"fields_in", ["program", "kind", "case"], ["program", "kind", "case", "found", "held"], b_fields_in⟩
def e_source_in_0 : E := (.idx (.var 4) (.con (.int 0)))
def b_source_in : S := (.seq (.ass (.v 2) (.lc [4] e_source_in_0 (.v 4) .val (.var 0) .nil .nil)) (.frz 2 (.seq (.ass (.v 3) (.ife (.isN false (.idx (.var 1) (.con (.int 1)))) (.idx (.var 1) (.con (.int 0))) (.idx (.var 1) (.con (.int 1))))) (.frz 3 (.seq (.ret (.ife (.cmp .In (.var 3) (.var 2)) (.mth .index (.var 2) (.cons (.var 3) .nil)) (.con (.non)))) .skip)))))
def d_source_in : Def := ⟨"source_in", ["elders", "row"], ["elders", "row", "names", "name", "elder"], b_source_in⟩
def w_is_wrong_0 : E := (.cmp .NotEq (.var 5) (.var 2))
def e_is_wrong_0 : E := (.idx (.var 6) (.con (.int 1)))
def e_is_wrong_1 : E := (.idx (.var 7) (.con (.int 0)))
def e_is_wrong_2 : E := (.idx (.var 6) (.con (.int 0)))
def b_is_wrong : S := (.seq (.ass (.v 3) (.idx (.idx (.var 1) (.var 2)) (.con (.int 1)))) (.frz 3 (.seq (.ite (.isN false (.var 3)) (.seq (.ret (.con (.bl false))) .skip) .skip) (.seq (.ass (.v 4) (.lc [5, 6] e_is_wrong_0 (.t (.cons (.v 5) (.cons (.v 6) .nil))) .enum (.var 1) .nil w_is_wrong_0)) (.frz 4 (.seq (.ret (.or (.cmp .In (.var 3) (.var 4)) (.or (.cmp .In (.var 3) (.lc [6] e_is_wrong_2 (.v 6) .val (.var 1) .nil .nil)) (.cmp .NotIn (.var 3) (.lc [7] e_is_wrong_1 (.v 7) .val (.var 0) .nil .nil))))) .skip))))))
def d_is_wrong : Def := ⟨"is_wrong", ["elders", "rows", "index"], ["elders", "rows", "index", "told", "others", "at", "row", "elder"], b_is_wrong⟩
def b_word_against : S := (.seq (.ite (.call 3 (.cons (.var 0) (.cons (.var 1) (.cons (.var 2) .nil)))) (.seq (.ret (.con (.str "was"))) .skip) .skip) (.seq (.ass (.v 3) (.call 2 (.cons (.var 0) (.cons (.idx (.var 1) (.var 2)) .nil)))) (.frz 3 (.seq (.ret (.ife (.and (.isN true (.var 3)) (.cmp .NotEq (.idx (.idx (.var 0) (.var 3)) (.con (.int 2))) (.idx (.idx (.var 1) (.var 2)) (.con (.int 2))))) (.con (.str "type")) (.con (.non)))) .skip))))
def d_word_against : Def := ⟨"word_against", ["elders", "rows", "index"], ["elders", "rows", "index", "source"], b_word_against⟩
def b_is_bare : S := (.seq (.ret (.or (.isN false (.idx (.var 0) (.con (.int 3)))) (.cmp .NotIn (.idx (.var 0) (.con (.int 2))) (.glob "PLAIN" c_PLAIN)))) .skip)
def d_is_bare : Def := ⟨"is_bare", ["field"], ["field"], b_is_bare⟩
def l_field_objections_0 : S := (.seq (.ass (.v 8) (.bin .Add (.var 2) (.tup (.cons (.con (.int 1)) (.cons (.var 6) .nil))))) (.frz 8 (.seq (.ass (.v 9) (.call 4 (.cons (.ife (.isN false (.var 4)) (.tup .nil) (.var 4)) (.cons (.idx (.var 3) (.con (.int 1))) (.cons (.var 6) .nil))))) (.frz 9 (.seq (.ite (.isN true (.var 9)) (.seq (.app 5 (.tup (.cons (.var 8) (.cons (.var 9) .nil)))) .skip) (.seq (.ite (.and (.isN true (.var 4)) (.and (.isN false (.call 2 (.cons (.var 4) (.cons (.var 7) .nil)))) (.call 5 (.cons (.var 7) .nil)))) (.seq (.app 5 (.tup (.cons (.var 8) (.cons (.con (.str "new")) .nil)))) .skip) .skip) .skip)) .skip)))))
def b_field_objections : S := (.seq (.ass (.v 4) (.call 1 (.cons (.var 0) (.cons (.var 1) (.cons (.idx (.var 3) (.con (.int 0))) .nil))))) (.frz 4 (.seq (.ass (.v 5) (.lst .nil)) (.seq (.for (.t (.cons (.v 6) (.cons (.v 7) .nil))) .enum (.idx (.var 3) (.con (.int 1))) .nil l_field_objections_0) (.seq (.ret (.var 5)) .skip)))))
def d_field_objections : Def := ⟨"field_objections", ["elder", "kind", "place", "case"], ["elder", "kind", "place", "case", "elders", "found", "index", "field", "at", "word"], b_field_objections⟩
def e_type_objections_0 : E := (.isN true (.call 0 (.cons (.idx (.var 1) (.con (.int 2))) (.cons (.idx (.var 6) (.con (.int 0))) .nil))))
def l_type_objections_0 : S := (.seq (.ass (.v 3) (.bin .Add (.var 3) (.call 6 (.cons (.var 0) (.cons (.idx (.var 1) (.con (.int 0))) (.cons (.bin .Add (.var 2) (.tup (.cons (.con (.int 2)) (.cons (.var 5) .nil)))) (.cons (.var 6) .nil))))))) .skip)
def b_type_objections : S := (.seq (.par [3, 4] (.cons (.lst .nil) (.cons (.call 0 (.cons (.idx (.var 0) (.con (.int 0))) (.cons (.idx (.var 1) (.con (.int 0))) .nil))) .nil))) (.frz 4 (.seq (.ite (.and (.isN true (.var 4)) (.cmp .NotEq (.idx (.var 4) (.con (.int 1))) (.idx (.var 1) (.con (.int 1))))) (.seq (.app 3 (.tup (.cons (.var 2) (.cons (.con (.str "parameter")) .nil)))) .skip) .skip) (.seq (.ite (.and (.isN true (.var 4)) (.not (.blt .all (.cons (.lc [6] e_type_objections_0 (.v 6) .val (.idx (.var 4) (.con (.int 2))) .nil .nil) .nil)))) (.seq (.app 3 (.tup (.cons (.var 2) (.cons (.con (.str "case")) .nil)))) .skip) .skip) (.seq (.for (.t (.cons (.v 5) (.cons (.v 6) .nil))) .enum (.idx (.var 1) (.con (.int 2))) .nil l_type_objections_0) (.seq (.ret (.var 3)) .skip))))))
def d_type_objections : Def := ⟨"type_objections", ["elder", "kind", "place"], ["elder", "kind", "place", "found", "held", "index", "case"], b_type_objections⟩
def l_objections_0 : S := (.seq (.ass (.v 2) (.bin .Add (.var 2) (.call 7 (.cons (.var 0) (.cons (.var 4) (.cons (.tup (.cons (.con (.int 0)) (.cons (.var 3) .nil))) .nil)))))) .skip)
def l_objections_1 : S := (.seq (.ass (.v 5) (.call 4 (.cons (.idx (.var 0) (.con (.int 1))) (.cons (.idx (.var 1) (.con (.int 1))) (.cons (.var 3) .nil))))) (.frz 5 (.seq (.ite (.isN true (.var 5)) (.seq (.app 2 (.tup (.cons (.tup (.cons (.con (.int 1)) (.cons (.var 3) .nil))) (.cons (.var 5) .nil)))) .skip) .skip) .skip)))
def e_objections_0 : E := (.isN true (.call 0 (.cons (.idx (.var 1) (.con (.int 0))) (.cons (.idx (.var 4) (.con (.int 0))) .nil))))
def b_objections : S := (.seq (.ass (.v 2) (.lst .nil)) (.seq (.for (.t (.cons (.v 3) (.cons (.v 4) .nil))) .enum (.idx (.var 1) (.con (.int 0))) .nil l_objections_0) (.seq (.for (.v 3) .rng1 (.blt .len (.cons (.idx (.var 1) (.con (.int 1))) .nil)) .nil l_objections_1) (.seq (.ite (.not (.blt .all (.cons (.lc [4] e_objections_0 (.v 4) .val (.idx (.var 0) (.con (.int 0))) .nil .nil) .nil))) (.seq (.app 2 (.tup (.cons (.tup .nil) (.cons (.con (.str "gone")) .nil)))) .skip) .skip) (.seq (.ret (.blt .tuple (.cons (.var 2) .nil))) .skip)))))
def d_objections : Def := ⟨"objections", ["elder", "program"], ["elder", "program", "found", "index", "kind", "word"], b_objections⟩
def b_source_of : S := (.seq (.ite (.cmp .Eq (.idx (.var 2) (.con (.int 0))) (.con (.int 1))) (.seq (.ret (.call 2 (.cons (.idx (.var 0) (.con (.int 1))) (.cons (.idx (.idx (.var 1) (.con (.int 1))) (.idx (.var 2) (.con (.int 1)))) .nil)))) .skip) .skip) (.seq (.ass (.v 3) (.idx (.idx (.var 1) (.con (.int 0))) (.idx (.var 2) (.con (.int 1))))) (.frz 3 (.seq (.ass (.v 4) (.idx (.idx (.var 3) (.con (.int 2))) (.idx (.var 2) (.con (.int 3))))) (.frz 4 (.seq (.ass (.v 5) (.call 1 (.cons (.var 0) (.cons (.idx (.var 3) (.con (.int 0))) (.cons (.idx (.var 4) (.con (.int 0))) .nil))))) (.frz 5 (.seq (.ret (.ife (.isN false (.var 5)) (.con (.non)) (.call 2 (.cons (.var 5) (.cons (.idx (.idx (.var 4) (.con (.int 1))) (.idx (.var 2) (.con (.int 5)))) .nil))))) .skip))))))))
def d_source_of : Def := ⟨"source_of", ["elder", "program", "place"], ["elder", "program", "place", "kind", "case", "elders"], b_source_of⟩
def l_sources_between_0 : S := (.seq (.ass (.v 4) (.call 2 (.cons (.var 0) (.cons (.var 3) .nil)))) (.frz 4 (.seq (.app 2 (.ife (.isN false (.var 4)) (.tup (.cons (.con (.str "constant")) (.cons (.idx (.var 3) (.con (.int 3))) .nil))) (.tup (.cons (.con (.str "from")) (.cons (.var 4) .nil))))) .skip)))
def b_sources_between : S := (.seq (.ass (.v 2) (.lst .nil)) (.seq (.for (.v 3) .val (.var 1) .nil l_sources_between_0) (.seq (.ret (.blt .tuple (.cons (.var 2) .nil))) .skip)))
def d_sources_between : Def := ⟨"sources_between", ["elders", "fields"], ["elders", "fields", "found", "field", "source"], b_sources_between⟩
def l_way_between_1 : S := (.seq (.app 2 (.tup (.cons (.idx (.var 4) (.con (.int 0))) (.cons (.call 10 (.cons (.idx (.var 4) (.con (.int 1))) (.cons (.call 1 (.cons (.var 1) (.cons (.idx (.var 3) (.con (.int 0))) (.cons (.idx (.var 4) (.con (.int 0))) .nil)))) .nil))) .nil)))) .skip)
def l_way_between_0 : S := (.seq (.for (.v 4) .val (.idx (.var 3) (.con (.int 2))) .nil l_way_between_1) .skip)
def b_way_between : S := (.seq (.ass (.v 2) (.lst .nil)) (.seq (.for (.v 3) .val (.idx (.var 0) (.con (.int 0))) .nil l_way_between_0) (.seq (.ret (.blt .tuple (.cons (.blt .sorted (.cons (.var 2) .nil)) .nil))) .skip)))
def d_way_between : Def := ⟨"way_between", ["elder", "program"], ["elder", "program", "found", "kind", "case"], b_way_between⟩
def e_root_way_0 : E := (.call 2 (.cons (.idx (.var 0) (.con (.int 1))) (.cons (.var 2) .nil)))
def b_root_way : S := (.seq (.ret (.blt .tuple (.cons (.lc [2] e_root_way_0 (.v 2) .val (.idx (.var 1) (.con (.int 1))) .nil .nil) .nil))) .skip)
def d_root_way : Def := ⟨"root_way", ["elder", "program"], ["elder", "program", "root"], b_root_way⟩
def b__law_cup : S := (.seq (.ass (.v 1) (.blt .abs (.cons (.idx (.bin .Add (.blt .list (.cons (.var 0) .nil)) (.lst (.cons (.con (.int 0)) .nil))) (.con (.int 0))) .nil))) (.frz 1 (.seq (.ret (.lst (.cons (.ife (.cmp .GtE (.var 1) (.bin .Pow (.con (.int 10)) (.con (.int 18)))) (.bin .FloorDiv (.var 1) (.con (.int 67))) (.con (.int 0))) (.cons (.bin .Add (.bin .Mod (.blt .int (.cons (.bin .Add (.bin .Mult (.var 1) (.con (.int 277))) (.con (.int 2609))) .nil)) (.con (.int 2077503167))) (.con (.int 163))) .nil)))) .skip)))
def d__law_cup : Def := ⟨"_law_cup", ["script"], ["script", "cell"], b__law_cup⟩
def b__law_roll : S := (.seq (.ite (.cmp .Gt (.idx (.var 0) (.con (.int 0))) (.con (.int 0))) (.seq (.ass (.v 3) (.bin .Mod (.blt .int (.cons (.idx (.var 0) (.con (.int 0))) .nil)) (.var 1))) (.seq (.sub (.var 0) (.con (.int 0)) (.bin .FloorDiv (.idx (.var 0) (.con (.int 0))) (.var 1))) (.seq (.ret (.var 3)) .skip))) .skip) (.seq (.sub (.var 0) (.con (.int 1)) (.bin .Mod (.blt .int (.cons (.bin .Add (.bin .Mult (.idx (.var 0) (.con (.int 1))) (.con (.int 31051))) (.con (.int 7993))) .nil)) (.con (.int 2147483543)))) (.seq (.ass (.v 2) (.bin .Mod (.blt .int (.cons (.bin .Mult (.idx (.var 0) (.con (.int 1))) (.bin .Add (.idx (.var 0) (.con (.int 1))) (.con (.int 229)))) .nil)) (.con (.int 2147483587)))) (.seq (.ret (.bin .Mod (.blt .int (.cons (.bin .FloorDiv (.var 2) (.con (.int 821))) .nil)) (.var 1))) .skip))))
def d__law_roll : Def := ⟨"_law_roll", ["cup", "many"], ["cup", "many", "deep", "found"], b__law_roll⟩
def b__law_some : S := (.seq (.ret (.idx (.var 1) (.call 14 (.cons (.var 0) (.cons (.blt .len (.cons (.var 1) .nil)) .nil))))) .skip)
def d__law_some : Def := ⟨"_law_some", ["cup", "things"], ["cup", "things"], b__law_some⟩
def w__law_rows_0 : E := (.cmp .Gt (.call 14 (.cons (.var 0) (.cons (.con (.int 3)) .nil))) (.con (.int 0)))
def e__law_rows_0 : E := (.var 2)
def l__law_rows_0 : S := (.seq (.ass (.v 3) (.ife (.cmp .Gt (.call 14 (.cons (.var 0) (.cons (.con (.int 9)) .nil))) (.con (.int 0))) (.tup (.cons (.con (.str "int")) .nil)) (.tup (.cons (.con (.str "text")) .nil)))) (.frz 3 (.seq (.app 1 (.tup (.cons (.var 2) (.cons (.call 15 (.cons (.var 0) (.cons (.lst (.cons (.con (.non)) (.cons (.con (.non)) (.cons (.con (.non)) (.cons (.con (.str "a")) (.cons (.con (.str "b")) (.cons (.con (.str "c")) (.cons (.con (.str "x")) (.cons (.con (.str "d")) .nil))))))))) .nil))) (.cons (.var 3) .nil))))) .skip)))
def b__law_rows : S := (.seq (.ass (.v 1) (.lst .nil)) (.seq (.for (.v 2) .val (.lc [2] e__law_rows_0 (.v 2) .val (.lst (.cons (.con (.str "a")) (.cons (.con (.str "b")) (.cons (.con (.str "c")) (.cons (.con (.str "d")) .nil))))) .nil w__law_rows_0) .nil l__law_rows_0) (.seq (.ret (.ife (.cmp .Eq (.call 14 (.cons (.var 0) (.cons (.con (.int 2)) .nil))) (.con (.int 0))) (.var 1) (.rev (.var 1)))) .skip)))
def d__law_rows : Def := ⟨"_law_rows", ["cup"], ["cup", "found", "name", "kind"], b__law_rows⟩
def e__law_word_0 : E := (.idx (.var 7) (.con (.int 1)))
def e__law_word_1 : E := (.idx (.var 7) (.con (.int 0)))
def b__law_word : S := (.seq (.ass (.t (.cons (.v 4) (.cons (.v 5) (.cons (.v 6) .nil)))) (.idx (.var 1) (.var 2))) (.seq (.ite (.and (.isN true (.var 5)) (.or (.cmp .NotIn (.var 5) (.var 0)) (.or (.cmp .In (.var 5) (.lc [7] e__law_word_1 (.v 7) .val (.var 1) .nil .nil)) (.cmp .Gt (.mth .count (.lc [7] e__law_word_0 (.v 7) .val (.var 1) .nil .nil) (.cons (.var 5) .nil)) (.con (.int 1)))))) (.seq (.ret (.con (.str "was"))) .skip) .skip) (.seq (.ite (.cmp .In (.or (.var 5) (.var 4)) (.var 0)) (.seq (.ret (.ife (.cmp .NotEq (.var 6) (.tup (.cons (.con (.str "int")) .nil))) (.con (.str "type")) (.con (.non)))) .skip) .skip) (.seq (.ret (.ife (.and (.var 3) (.cmp .Eq (.var 2) (.con (.int 0)))) (.con (.str "new")) (.con (.non)))) .skip))))
def d__law_word : Def := ⟨"_law_word", ["elders", "rows", "index", "is_field"], ["elders", "rows", "index", "is_field", "name", "told", "kind", "row"], b__law_word⟩
def e__law_drawn_right_0 : E := (.tup (.cons (.var 16) (.cons (.con (.non)) (.cons (.tup (.cons (.con (.str "int")) .nil)) (.cons (.con (.non)) .nil)))))
def e__law_drawn_right_1 : E := (.tup (.cons (.idx (.idx (.var 6) (.var 13)) (.con (.int 0))) (.cons (.idx (.idx (.var 6) (.var 13)) (.con (.int 1))) (.cons (.idx (.idx (.var 6) (.var 13)) (.con (.int 2))) (.cons (.ife (.cmp .Eq (.var 13) (.con (.int 0))) (.con (.non)) (.ife (.cmp .Eq (.idx (.idx (.var 6) (.var 13)) (.con (.int 2))) (.tup (.cons (.con (.str "int")) .nil))) (.con (.int 5)) (.con (.str "no")))) .nil)))))
def e__law_drawn_right_2 : E := (.tup (.cons (.tup (.cons (.tup (.cons (.con (.str "Box")) (.cons (.con (.bl false)) (.cons (.tup (.cons (.tup (.cons (.con (.str "Box")) (.cons (.var 12) .nil))) .nil)) .nil)))) .nil)) (.cons (.tup .nil) (.cons (.tup .nil) .nil))))
def e__law_drawn_right_3 : E := (.call 17 (.cons (.var 5) (.cons (.var 6) (.cons (.var 13) (.cons (.con (.bl true)) .nil)))))
def w__law_drawn_right_4 : E := (.isN true (.idx (.var 3) (.var 13)))
def e__law_drawn_right_4 : E := (.tup (.cons (.tup (.cons (.con (.int 0)) (.cons (.con (.int 0)) (.cons (.con (.int 2)) (.cons (.con (.int 0)) (.cons (.con (.int 1)) (.cons (.var 13) .nil))))))) (.cons (.idx (.var 3) (.var 13)) .nil)))
def e__law_drawn_right_5 : E := (.ife (.cmp .In (.or (.idx (.var 14) (.con (.int 1))) (.idx (.var 14) (.con (.int 0)))) (.var 5)) (.mth .index (.var 5) (.cons (.or (.idx (.var 14) (.con (.int 1))) (.idx (.var 14) (.con (.int 0)))) .nil)) (.con (.non)))
def e__law_drawn_right_6 : E := (.call 9 (.cons (.var 7) (.cons (.var 8) (.cons (.tup (.cons (.con (.int 0)) (.cons (.con (.int 0)) (.cons (.con (.int 2)) (.cons (.con (.int 0)) (.cons (.con (.int 1)) (.cons (.var 13) .nil))))))) .nil))))
def e__law_drawn_right_7 : E := (.ife (.isN false (.idx (.var 4) (.var 13))) (.tup (.cons (.con (.str "constant")) (.cons (.idx (.idx (.var 2) (.var 13)) (.con (.int 3))) .nil))) (.tup (.cons (.con (.str "from")) (.cons (.idx (.var 4) (.var 13)) .nil))))
def w__law_drawn_right_8 : E := (.isN true (.var 13))
def e__law_drawn_right_8 : E := (.var 13)
def w__law_drawn_right_9 : E := (.isN true (.var 13))
def e__law_drawn_right_9 : E := (.var 13)
def e__law_drawn_right_11 : E := (.tup (.cons (.idx (.var 14) (.con (.int 0))) (.cons (.idx (.var 14) (.con (.int 1))) (.cons (.idx (.var 14) (.con (.int 2))) (.cons (.ife (.cmp .Eq (.idx (.var 14) (.con (.int 2))) (.tup (.cons (.con (.str "int")) .nil))) (.tup (.cons (.con (.str "int")) (.cons (.con (.int 1)) .nil))) (.tup (.cons (.con (.str "text")) (.cons (.con (.str "")) .nil)))) .nil)))))
def e__law_drawn_right_10 : E := (.tup (.cons (.tup .nil) (.cons (.blt .tuple (.cons (.lc [14] e__law_drawn_right_11 (.v 14) .val (.var 15) .nil .nil) .nil)) (.cons (.tup .nil) .nil))))
def e__law_drawn_right_12 : E := (.call 17 (.cons (.var 5) (.cons (.var 6) (.cons (.var 13) (.cons (.con (.bl false)) .nil)))))
def w__law_drawn_right_13 : E := (.isN true (.idx (.var 3) (.var 13)))
def e__law_drawn_right_13 : E := (.tup (.cons (.tup (.cons (.con (.int 1)) (.cons (.var 13) .nil))) (.cons (.idx (.var 3) (.var 13)) .nil)))
def b__law_drawn_right : S := (.seq (.ass (.t (.cons (.v 5) (.cons (.v 6) .nil))) (.tup (.cons (.lst (.cons (.con (.str "a")) (.cons (.con (.str "b")) (.cons (.con (.str "c")) .nil)))) (.cons (.call 16 (.cons (.var 0) .nil)) .nil)))) (.seq (.ass (.v 1) (.blt .tuple (.cons (.lc [16] e__law_drawn_right_0 (.v 16) .val (.var 5) .nil .nil) .nil))) (.frz 1 (.seq (.ass (.v 2) (.blt .tuple (.cons (.lc [13] e__law_drawn_right_1 (.v 13) .rng1 (.blt .len (.cons (.var 6) .nil)) .nil .nil) .nil))) (.frz 2 (.seq (.ass (.t (.cons (.v 7) (.cons (.v 8) .nil))) (.lc [12] e__law_drawn_right_2 (.v 12) .val (.tup (.cons (.var 1) (.cons (.var 2) .nil))) .nil .nil)) (.seq (.ass (.v 3) (.lc [13] e__law_drawn_right_3 (.v 13) .rng1 (.blt .len (.cons (.var 6) .nil)) .nil .nil)) (.frz 3 (.seq (.ite (.cmp .NotEq (.call 8 (.cons (.var 7) (.cons (.var 8) .nil))) (.blt .tuple (.cons (.lc [13] e__law_drawn_right_4 (.v 13) .rng1 (.blt .len (.cons (.var 6) .nil)) .nil w__law_drawn_right_4) .nil))) (.seq (.ret (.con (.bl false))) .skip) .skip) (.seq (.ass (.v 4) (.lc [14] e__law_drawn_right_5 (.v 14) .val (.var 6) .nil .nil)) (.frz 4 (.seq (.ite (.cmp .NotEq (.lc [13] e__law_drawn_right_6 (.v 13) .rng1 (.blt .len (.cons (.var 6) .nil)) .nil .nil) (.var 4)) (.seq (.ret (.con (.bl false))) .skip) .skip) (.seq (.ite (.cmp .Eq (.mth .count (.var 3) (.cons (.con (.non)) .nil)) (.blt .len (.cons (.var 3) .nil))) (.seq (.ass (.v 9) (.lc [13] e__law_drawn_right_7 (.v 13) .rng1 (.blt .len (.cons (.var 6) .nil)) .nil .nil)) (.frz 9 (.seq (.ite (.or (.cmp .NotEq (.call 11 (.cons (.var 7) (.cons (.var 8) .nil))) (.tup (.cons (.tup (.cons (.con (.str "Box")) (.cons (.blt .tuple (.cons (.var 9) .nil)) .nil))) .nil))) (.cmp .NotEq (.setlen (.lc [13] e__law_drawn_right_8 (.v 13) .val (.var 4) .nil w__law_drawn_right_8)) (.blt .len (.cons (.lc [13] e__law_drawn_right_9 (.v 13) .val (.var 4) .nil w__law_drawn_right_9) .nil)))) (.seq (.ret (.con (.bl false))) .skip) .skip) .skip))) .skip) (.seq (.ass (.t (.cons (.v 10) (.cons (.v 11) .nil))) (.lc [15] e__law_drawn_right_10 (.v 15) .val (.tup (.cons (.var 1) (.cons (.var 6) .nil))) .nil .nil)) (.seq (.ass (.v 3) (.lc [13] e__law_drawn_right_12 (.v 13) .rng1 (.blt .len (.cons (.var 6) .nil)) .nil .nil)) (.frz 3 (.seq (.ite (.cmp .NotEq (.call 8 (.cons (.var 10) (.cons (.var 11) .nil))) (.blt .tuple (.cons (.lc [13] e__law_drawn_right_13 (.v 13) .rng1 (.blt .len (.cons (.var 6) .nil)) .nil w__law_drawn_right_13) .nil))) (.seq (.ret (.con (.bl false))) .skip) .skip) (.seq (.ret (.or (.cmp .Lt (.mth .count (.var 3) (.cons (.con (.non)) .nil)) (.blt .len (.cons (.var 3) .nil))) (.cmp .Eq (.call 12 (.cons (.var 10) (.cons (.var 11) .nil))) (.blt .tuple (.cons (.var 4) .nil))))) .skip))))))))))))))))))
def d__law_drawn_right : Def := ⟨"_law_drawn_right", ["cup"], ["cup", "old", "new", "words", "due", "elders", "rows", "one", "two", "sources", "three", "four", "fields", "at", "row", "some", "name"], b__law_drawn_right⟩
def l__law_written_right_0 : S := (.seq (.ite (.cmp .NotEq (.call 8 (.cons (.var 1) (.cons (.tup (.cons (.var 4) (.cons (.tup (.cons (.tup (.cons (.con (.str "s")) (.cons (.con (.str "q")) (.cons (.tup (.cons (.con (.str "int")) .nil)) (.cons (.tup (.cons (.con (.str "int")) (.cons (.con (.int 1)) .nil))) .nil))))) .nil)) (.cons (.tup .nil) .nil)))) .nil))) (.var 7)) (.seq (.ret (.con (.bl false))) .skip) .skip) .skip)
def b__law_written_right : S := (.seq (.ass (.v 0) (.tup (.cons (.tup (.cons (.con (.str "n")) (.cons (.con (.non)) (.cons (.tup (.cons (.con (.str "int")) .nil)) (.cons (.con (.non)) .nil))))) .nil))) (.seq (.ass (.v 1) (.tup (.cons (.tup (.cons (.tup (.cons (.con (.str "Box")) (.cons (.con (.bl true)) (.cons (.tup (.cons (.tup (.cons (.con (.str "Box")) (.cons (.var 0) .nil))) (.cons (.tup (.cons (.con (.str "No")) (.cons (.tup .nil) .nil))) .nil))) .nil)))) .nil)) (.cons (.tup (.cons (.tup (.cons (.con (.str "r")) (.cons (.con (.non)) (.cons (.tup (.cons (.con (.str "int")) .nil)) (.cons (.tup (.cons (.con (.str "int")) (.cons (.con (.int 1)) .nil))) .nil))))) .nil)) (.cons (.tup .nil) .nil))))) (.seq (.ass (.v 2) (.lst (.cons (.tup (.cons (.tup (.cons (.tup (.cons (.con (.str "Box")) (.cons (.con (.bl false)) (.cons (.tup (.cons (.tup (.cons (.con (.str "Box")) (.cons (.var 0) .nil))) .nil)) .nil)))) .nil)) (.cons (.tup (.cons (.tup (.cons (.tup (.cons (.con (.int 0)) (.cons (.con (.int 0)) .nil))) (.cons (.con (.str "parameter")) .nil))) (.cons (.tup (.cons (.tup (.cons (.con (.int 0)) (.cons (.con (.int 0)) .nil))) (.cons (.con (.str "case")) .nil))) (.cons (.tup (.cons (.tup (.cons (.con (.int 1)) (.cons (.con (.int 0)) .nil))) (.cons (.con (.str "was")) .nil))) .nil)))) .nil))) .nil))) (.seq (.ass (.v 3) (.tup (.cons (.con (.str "All")) (.cons (.tup (.cons (.tup (.cons (.con (.str "z")) (.cons (.con (.str "n")) (.cons (.tup (.cons (.con (.str "int")) .nil)) (.cons (.con (.int 1)) .nil))))) (.cons (.tup (.cons (.con (.str "y")) (.cons (.con (.non)) (.cons (.tup (.cons (.con (.str "int")) .nil)) (.cons (.con (.non)) .nil))))) .nil))) .nil)))) (.seq (.ass (.v 4) (.tup (.cons (.tup (.cons (.con (.str "Box")) (.cons (.con (.bl true)) (.cons (.tup (.cons (.tup (.cons (.con (.str "No")) (.cons (.tup .nil) .nil))) (.cons (.tup (.cons (.con (.str "Box")) (.cons (.tup (.cons (.tup (.cons (.con (.str "k")) (.cons (.con (.non)) (.cons (.tup (.cons (.con (.str "own")) .nil)) (.cons (.con (.non)) .nil))))) .nil)) .nil))) (.cons (.var 3) .nil)))) .nil)))) .nil))) (.seq (.app 2 (.tup (.cons (.var 4) (.cons (.tup (.cons (.tup (.cons (.tup (.cons (.con (.int 0)) (.cons (.con (.int 0)) (.cons (.con (.int 2)) (.cons (.con (.int 1)) (.cons (.con (.int 1)) (.cons (.con (.int 0)) .nil))))))) (.cons (.con (.str "new")) .nil))) (.cons (.tup (.cons (.tup (.cons (.con (.int 0)) (.cons (.con (.int 0)) (.cons (.con (.int 2)) (.cons (.con (.int 2)) (.cons (.con (.int 1)) (.cons (.con (.int 0)) .nil))))))) (.cons (.con (.str "was")) .nil))) (.cons (.tup (.cons (.tup (.cons (.con (.int 1)) (.cons (.con (.int 0)) .nil))) (.cons (.con (.str "was")) .nil))) .nil)))) .nil)))) (.seq (.app 2 (.tup (.cons (.tup (.cons (.tup (.cons (.con (.str "Two")) (.cons (.con (.bl false)) (.cons (.tup (.cons (.tup (.cons (.con (.str "Two")) (.cons (.tup (.cons (.tup (.cons (.con (.str "z")) (.cons (.con (.non)) (.cons (.tup (.cons (.con (.str "own")) .nil)) (.cons (.con (.non)) .nil))))) .nil)) .nil))) .nil)) .nil)))) .nil)) (.cons (.tup (.cons (.tup (.cons (.tup (.cons (.con (.int 1)) (.cons (.con (.int 0)) .nil))) (.cons (.con (.str "was")) .nil))) (.cons (.tup (.cons (.tup .nil) (.cons (.con (.str "gone")) .nil))) .nil))) .nil)))) (.frz 2 (.seq (.for (.t (.cons (.v 4) (.cons (.v 7) .nil))) .val (.var 2) .nil l__law_written_right_0) (.seq (.ass (.v 5) (.tup (.cons (.tup (.cons (.tup (.cons (.con (.str "A")) (.cons (.con (.bl false)) (.cons (.tup (.cons (.tup (.cons (.con (.str "X")) (.cons (.tup (.cons (.tup (.cons (.con (.str "n")) (.cons (.con (.non)) (.cons (.tup (.cons (.con (.str "int")) .nil)) (.cons (.con (.non)) .nil))))) .nil)) .nil))) (.cons (.tup (.cons (.con (.str "Y")) (.cons (.tup .nil) .nil))) .nil))) .nil)))) .nil)) (.cons (.tup .nil) (.cons (.tup .nil) .nil))))) (.seq (.ass (.v 6) (.tup (.cons (.tup (.cons (.tup (.cons (.con (.str "A")) (.cons (.con (.bl false)) (.cons (.tup (.cons (.tup (.cons (.con (.str "Y")) (.cons (.tup .nil) .nil))) .nil)) .nil)))) (.cons (.tup (.cons (.con (.str "B")) (.cons (.con (.bl false)) (.cons (.tup (.cons (.tup (.cons (.con (.str "X")) (.cons (.tup (.cons (.tup (.cons (.con (.str "n")) (.cons (.con (.non)) (.cons (.tup (.cons (.con (.str "text")) .nil)) (.cons (.con (.non)) .nil))))) .nil)) .nil))) .nil)) .nil)))) .nil))) (.cons (.tup .nil) (.cons (.tup .nil) .nil))))) (.seq (.ite (.or (.cmp .NotEq (.call 8 (.cons (.var 5) (.cons (.var 6) .nil))) (.tup (.cons (.tup (.cons (.tup (.cons (.con (.int 0)) (.cons (.con (.int 0)) .nil))) (.cons (.con (.str "case")) .nil))) .nil))) (.isN true (.call 9 (.cons (.var 5) (.cons (.var 6) (.cons (.tup (.cons (.con (.int 0)) (.cons (.con (.int 1)) (.cons (.con (.int 2)) (.cons (.con (.int 0)) (.cons (.con (.int 1)) (.cons (.con (.int 0)) .nil))))))) .nil)))))) (.seq (.ret (.con (.bl false))) .skip) .skip) (.seq (.ret (.cmp .Eq (.call 8 (.cons (.var 1) (.cons (.tup (.cons (.idx (.var 1) (.con (.int 0))) (.cons (.tup (.cons (.tup (.cons (.con (.str "r")) (.cons (.con (.non)) (.cons (.tup (.cons (.con (.str "text")) .nil)) (.cons (.tup (.cons (.con (.str "text")) (.cons (.con (.str "")) .nil))) .nil))))) .nil)) (.cons (.tup .nil) .nil)))) .nil))) (.tup (.cons (.tup (.cons (.tup (.cons (.con (.int 1)) (.cons (.con (.int 0)) .nil))) (.cons (.con (.str "type")) .nil))) .nil)))) .skip)))))))))))))
def d__law_written_right : Def := ⟨"_law_written_right", [], ["bare", "base", "rows", "other", "types", "one", "two", "due"], b__law_written_right⟩
def l_law_0 : S := (.seq (.ite (.not (.call 18 (.cons (.var 1) .nil))) (.seq (.ret (.con (.bl false))) .skip) .skip) .skip)
def b_law : S := (.seq (.ass (.v 1) (.call 13 (.cons (.var 0) .nil))) (.prm 1 (.seq (.for (.v 2) .rng1 (.con (.int 6)) .nil l_law_0) (.seq (.ret (.call 19 .nil)) .skip))))
def d_law : Def := ⟨"law", ["script"], ["script", "cup", "turn"], b_law⟩
def G : Gb := ⟨[d_named, d_fields_in, d_source_in, d_is_wrong, d_word_against, d_is_bare, d_field_objections, d_type_objections, d_objections, d_source_of, d_sources_between, d_way_between, d_root_way, d__law_cup, d__law_roll, d__law_some, d__law_rows, d__law_word, d__law_drawn_right, d__law_written_right, d_law], [("PLAIN", c_PLAIN)], false⟩
def top (i : Nat) : Stmt := PySem.Challenge.pw_persisthall_k57_elder_names.main.body.getD i (.Pass ⟨0, 0, 0, 0⟩)
def dd (i : Nat) (x : Str) : He.DefD := ⟨(x, none), x, x, L2.defArgs (top i), L2.defBody (top i), L2.defScope (top i), [], []⟩
def fn : List He.DefD := [dd 2 "named", dd 3 "fields_in", dd 4 "source_in", dd 5 "is_wrong", dd 6 "word_against", dd 7 "is_bare", dd 8 "field_objections", dd 9 "type_objections", dd 10 "objections", dd 11 "source_of", dd 13 "sources_between", dd 14 "way_between", dd 15 "root_way", dd 17 "_law_cup", dd 18 "_law_roll", dd 19 "_law_some", dd 20 "_law_rows", dd 21 "_law_word", dd 22 "_law_drawn_right", dd 23 "_law_written_right", dd 24 "law"]
theorem k_named {k : Nat} {h : Hh} {a0 a1 : PV} : callK G.ds (k + 1) 0 [a0, a1] h = (evS (callK G.ds k) b_named [.sh a0, .sh a1, .un] h).bind out := call_at (d := d_named) rfl rfl rfl rfl
theorem k_fields_in {k : Nat} {h : Hh} {a0 a1 a2 : PV} : callK G.ds (k + 1) 1 [a0, a1, a2] h = (evS (callK G.ds k) b_fields_in [.sh a0, .sh a1, .sh a2, .un, .un] h).bind out := call_at (d := d_fields_in) rfl rfl rfl rfl
theorem k_source_in {k : Nat} {h : Hh} {a0 a1 : PV} : callK G.ds (k + 1) 2 [a0, a1] h = (evS (callK G.ds k) b_source_in [.sh a0, .sh a1, .un, .un, .un] h).bind out := call_at (d := d_source_in) rfl rfl rfl rfl
theorem k_is_wrong {k : Nat} {h : Hh} {a0 a1 a2 : PV} : callK G.ds (k + 1) 3 [a0, a1, a2] h = (evS (callK G.ds k) b_is_wrong [.sh a0, .sh a1, .sh a2, .un, .un, .un, .un, .un] h).bind out := call_at (d := d_is_wrong) rfl rfl rfl rfl
theorem k_word_against {k : Nat} {h : Hh} {a0 a1 a2 : PV} : callK G.ds (k + 1) 4 [a0, a1, a2] h = (evS (callK G.ds k) b_word_against [.sh a0, .sh a1, .sh a2, .un] h).bind out := call_at (d := d_word_against) rfl rfl rfl rfl
theorem k_is_bare {k : Nat} {h : Hh} {a0 : PV} : callK G.ds (k + 1) 5 [a0] h = (evS (callK G.ds k) b_is_bare [.sh a0] h).bind out := call_at (d := d_is_bare) rfl rfl rfl rfl
theorem k_field_objections {k : Nat} {h : Hh} {a0 a1 a2 a3 : PV} : callK G.ds (k + 1) 6 [a0, a1, a2, a3] h = (evS (callK G.ds k) b_field_objections [.sh a0, .sh a1, .sh a2, .sh a3, .un, .un, .un, .un, .un, .un] h).bind out := call_at (d := d_field_objections) rfl rfl rfl rfl
theorem k_type_objections {k : Nat} {h : Hh} {a0 a1 a2 : PV} : callK G.ds (k + 1) 7 [a0, a1, a2] h = (evS (callK G.ds k) b_type_objections [.sh a0, .sh a1, .sh a2, .un, .un, .un, .un] h).bind out := call_at (d := d_type_objections) rfl rfl rfl rfl
theorem k_objections {k : Nat} {h : Hh} {a0 a1 : PV} : callK G.ds (k + 1) 8 [a0, a1] h = (evS (callK G.ds k) b_objections [.sh a0, .sh a1, .un, .un, .un, .un] h).bind out := call_at (d := d_objections) rfl rfl rfl rfl
theorem k_source_of {k : Nat} {h : Hh} {a0 a1 a2 : PV} : callK G.ds (k + 1) 9 [a0, a1, a2] h = (evS (callK G.ds k) b_source_of [.sh a0, .sh a1, .sh a2, .un, .un, .un] h).bind out := call_at (d := d_source_of) rfl rfl rfl rfl
theorem k_sources_between {k : Nat} {h : Hh} {a0 a1 : PV} : callK G.ds (k + 1) 10 [a0, a1] h = (evS (callK G.ds k) b_sources_between [.sh a0, .sh a1, .un, .un, .un] h).bind out := call_at (d := d_sources_between) rfl rfl rfl rfl
theorem k_way_between {k : Nat} {h : Hh} {a0 a1 : PV} : callK G.ds (k + 1) 11 [a0, a1] h = (evS (callK G.ds k) b_way_between [.sh a0, .sh a1, .un, .un, .un] h).bind out := call_at (d := d_way_between) rfl rfl rfl rfl
theorem k_root_way {k : Nat} {h : Hh} {a0 a1 : PV} : callK G.ds (k + 1) 12 [a0, a1] h = (evS (callK G.ds k) b_root_way [.sh a0, .sh a1, .un] h).bind out := call_at (d := d_root_way) rfl rfl rfl rfl
theorem k__law_cup {k : Nat} {h : Hh} {a0 : PV} : callK G.ds (k + 1) 13 [a0] h = (evS (callK G.ds k) b__law_cup [.sh a0, .un] h).bind out := call_at (d := d__law_cup) rfl rfl rfl rfl
theorem k__law_roll {k : Nat} {h : Hh} {a0 a1 : PV} : callK G.ds (k + 1) 14 [a0, a1] h = (evS (callK G.ds k) b__law_roll [.sh a0, .sh a1, .un, .un] h).bind out := call_at (d := d__law_roll) rfl rfl rfl rfl
theorem k__law_some {k : Nat} {h : Hh} {a0 a1 : PV} : callK G.ds (k + 1) 15 [a0, a1] h = (evS (callK G.ds k) b__law_some [.sh a0, .sh a1] h).bind out := call_at (d := d__law_some) rfl rfl rfl rfl
theorem k__law_rows {k : Nat} {h : Hh} {a0 : PV} : callK G.ds (k + 1) 16 [a0] h = (evS (callK G.ds k) b__law_rows [.sh a0, .un, .un, .un] h).bind out := call_at (d := d__law_rows) rfl rfl rfl rfl
theorem k__law_word {k : Nat} {h : Hh} {a0 a1 a2 a3 : PV} : callK G.ds (k + 1) 17 [a0, a1, a2, a3] h = (evS (callK G.ds k) b__law_word [.sh a0, .sh a1, .sh a2, .sh a3, .un, .un, .un, .un] h).bind out := call_at (d := d__law_word) rfl rfl rfl rfl
theorem k__law_drawn_right {k : Nat} {h : Hh} {a0 : PV} : callK G.ds (k + 1) 18 [a0] h = (evS (callK G.ds k) b__law_drawn_right [.sh a0, .un, .un, .un, .un, .un, .un, .un, .un, .un, .un, .un, .un, .un, .un, .un, .un] h).bind out := call_at (d := d__law_drawn_right) rfl rfl rfl rfl
theorem k__law_written_right {k : Nat} {h : Hh} : callK G.ds (k + 1) 19 [] h = (evS (callK G.ds k) b__law_written_right [.un, .un, .un, .un, .un, .un, .un, .un] h).bind out := call_at (d := d__law_written_right) rfl rfl rfl rfl
theorem k_law {k : Nat} {h : Hh} {a0 : PV} : callK G.ds (k + 1) 20 [a0] h = (evS (callK G.ds k) b_law [.sh a0, .un, .un] h).bind out := call_at (d := d_law) rfl rfl rfl rfl
end K57

set_option maxRecDepth 100000
set_option maxHeartbeats 1000000
namespace K57
open PySem Ev
structure Row where
  name : Str
  told : Option Str
  kind : PV
  rest : List PV
def tp : Option Str → PV
  | none => .non
  | some s => .str s
def np : Option Nat → PV
  | none => .non
  | some s => .int s
theorem tp_n : tp none = .non := rfl
theorem tp_s {s : Str} : tp (some s) = .str s := rfl
theorem np_n : np none = .non := rfl
theorem np_s {s : Nat} : np (some s) = .int s := rfl
def cell (r : Row) : PV := .tup (.str r.name :: tp r.told :: r.kind :: r.rest)
structure Good (r : Row) : Prop where
  n : PyData.strOk r.name = true
  t : ∀ t, r.told = some t → PyData.strOk t = true
  k : okD r.kind = true
def key (r : Row) : Str := r.told.getD r.name
def src (el : List Row) (r : Row) : Option Nat := el.findIdx? fun e => e.name == key r
theorem first_str {el : List Row} {x : Str} : ∀ n, firstAt (.str x) n (el.map fun e => PV.str e.name) = (el.findIdx? fun e => e.name == x).map (· + n) := by
  induction el with
  | nil => intro n; rfl
  | cons e el ih =>
    intro n
    rw [List.map_cons, firstAt, List.findIdx?_cons]
    show (if (e.name == x) = true then _ else _) = _
    cases e.name == x with
    | true => simp
    | false =>
      simp only [Bool.false_eq_true, if_false]
      rw [ih (n + 1)]
      cases el.findIdx? fun e => e.name == x <;> simp <;> omega
theorem any_str {el : List Row} {x : Str} : (el.map fun e => PV.str e.name).any (fun z => pvEq z (.str x)) = (el.findIdx? fun e => e.name == x).isSome := by
  rw [List.any_map, List.findIdx?_isSome]
  rfl
theorem ok_names {el : List Row} (hel : ∀ e ∈ el, Good e) : okD (.lst (el.map fun e => PV.str e.name)) = true := by
  refine ok_flat (m := 1) (by decide) (flat_lst fun v m => ?_)
  obtain ⟨e, me, rfl⟩ := List.mem_map.mp m
  simp [flat, Ev.plain, dep, (hel e me).n]
theorem source_in_ok (k : Nat) (h : Hh) {el : List Row} {r : Row} (hel : ∀ e ∈ el, Good e) (hl : el.length ≤ 100) (hr : Good r) : callK G.ds (k + 1) 2 [.tup (el.map cell), cell r] h = some (.pv (np (src el r)), h) := by
  obtain ⟨nm, td, kd, rs⟩ := r
  have hk : PyData.strOk (key ⟨nm, td, kd, rs⟩) = true := by
    cases td with
    | none => exact hr.n
    | some t => exact hr.t t rfl
  have ha : ∀ s0 s1 s2 s3 : Sl, turns (lcK (callK G.ds k) [4] (.idx (.var 4) (.con (.int 0))) (.v 4) .nil [s0, s1, s2, s3, .un]) (el.map cell) h = some (el.map fun e => PV.str e.name, h) := fun s0 s1 s2 s3 =>
    turns_all el h fun e _ => by
      obtain ⟨nm, td, kd, rs⟩ := e
      simp only [lcK_p, cell, ↓s_seq, ↓s_skip, ↓s_pass, ↓s_brk, ↓s_cnt, ↓s_retN, ↓s_ret, ↓s_ex, ↓s_ite, ↓s_ass, ↓s_par, ↓s_sub, ↓s_app, ↓s_frz, ↓s_prm, ↓e_con, ↓e_glob, ↓e_var, ↓e_tup, ↓e_lst, ↓e_bin, ↓e_neg, ↓e_cmp, ↓e_chain, ↓e_isN, ↓e_not, ↓e_and, ↓e_or, ↓e_ife, ↓e_idx, ↓pt_nil, ↓e_slc, ↓e_rev, ↓e_call, ↓e_blt, ↓e_mth, ↓e_isin, ↓e_setlen, ↓cd_nil, ↓i_one, ↓t_t, ↓r_nil, ↓r_cons, ↓rr_nil, ↓rr_cons, ↓lp_n, ↓lp_c, ↓cd_con, ↓pt_con, ↓i_con, ↓cd_var, ↓pt_var, ↓i_var, ↓cd_glob, ↓pt_glob, ↓i_glob, ↓cd_tup, ↓pt_tup, ↓i_tup, ↓cd_lst, ↓pt_lst, ↓i_lst, ↓cd_bin, ↓pt_bin, ↓i_bin, ↓cd_neg, ↓pt_neg, ↓i_neg, ↓cd_cmp, ↓pt_cmp, ↓i_cmp, ↓cd_chain, ↓pt_chain, ↓i_chain, ↓cd_isN, ↓pt_isN, ↓i_isN, ↓cd_not, ↓pt_not, ↓i_not, ↓cd_and, ↓pt_and, ↓i_and, ↓cd_or, ↓pt_or, ↓i_or, ↓cd_ife, ↓pt_ife, ↓i_ife, ↓cd_idx, ↓pt_idx, ↓i_idx, ↓cd_slc, ↓pt_slc, ↓i_slc, ↓cd_rev, ↓pt_rev, ↓i_rev, ↓cd_call, ↓pt_call, ↓i_call, ↓cd_blt, ↓pt_blt, ↓i_blt, ↓cd_mth, ↓pt_mth, ↓i_mth, ↓cd_isin, ↓pt_isin, ↓i_isin, ↓cd_setlen, ↓pt_setlen, ↓i_setlen, ↓cd_lc, ↓pt_lc, ↓i_lc, s_seq, s_skip, s_pass, s_brk, s_cnt, s_retN, s_ret, s_ex, s_ite, s_ass, s_par, s_sub, s_app, s_frz, s_prm, e_con, e_glob, e_var, e_tup, e_lst, e_bin, e_neg, e_cmp, e_chain, e_isN, e_not, e_and, e_or, e_ife, e_idx, pt_nil, e_slc, e_rev, e_call, e_blt, e_mth, e_isin, e_setlen, cd_nil, i_one, t_t, r_nil, r_cons, rr_nil, rr_cons, lp_n, lp_c, cd_con, pt_con, i_con, cd_var, pt_var, i_var, cd_glob, pt_glob, i_glob, cd_tup, pt_tup, i_tup, cd_lst, pt_lst, i_lst, cd_bin, pt_bin, i_bin, cd_neg, pt_neg, i_neg, cd_cmp, pt_cmp, i_cmp, cd_chain, pt_chain, i_chain, cd_isN, pt_isN, i_isN, cd_not, pt_not, i_not, cd_and, pt_and, i_and, cd_or, pt_or, i_or, cd_ife, pt_ife, i_ife, cd_idx, pt_idx, i_idx, cd_slc, pt_slc, i_slc, cd_rev, pt_rev, i_rev, cd_call, pt_call, i_call, cd_blt, pt_blt, i_blt, cd_mth, pt_mth, i_mth, cd_isin, pt_isin, i_isin, cd_setlen, pt_setlen, i_setlen, cd_lc, pt_lc, i_lc, ↓e_lc, ↓s_for, e_lc, s_for, nxt_nx, nxt_rt, nxt_bk, nxt_ct, rtK_p, exK_p, iteK_t, iteK_f, nxO_e, assK_p, parK_p, subK3_p, subK2_p, subK1_p, subK_p, nx2_p, appK1_p, appK_p, okK_t, forL_p, frzK_o, frzK_s, prmK_o, prmK_s, varK_s, varK_o, tupK_p, lstK_p, wiK_a, binK1_p, binK_p, negK_i, blK_b, cmpK1_p, cmpK_p, chainK_t, chainK_f, chK1_p, chK_p, isNK_p, nblK_b, notK_p, andK_t, andK_f, anK_p, orK_t, orK_f, oK_p, ifeK_t, ifeK_f, ifK_p, idxK1_p, idxK_p, siK_i, aiK_p, slcK2_p, slcK1_p, slcK_p, revK_p, callE_p, bltK_p, mthK1_p, mthK0_t, mthK_p, isinK_p, slnK1_p, slnK0_p, slnK_p, soK_v, giK_p, trK1_b, trK_p, elK_t, elK_f, lcK1_p, lcK_p, tuK_p, itK1_p, itK2_p, itK_p, coK_p, rcK1_p, rcK_p, crK_p, rrK_p, l_tup, l_lst, l_kl, l_fr, l_br, g_pv, g_fr, d_lst, d_fr, d_br, d_str, d_int, d_bl, d_non, d_tup, tr_bl, tr_int, tr_non, tr_str, n_non, n_int, n_str, n_tup, n_lst, n_bl, n_ref, x_tup, x_lst, x_kl, x_fr, x_br, a_v, a_t, gt_pv, gt_fr, as_v, as_tt, as_tl, as_n, as_c, o_rtp, o_rtf, o_rtb, o_nx, lpK_nx, lpK_ct, lpK_bk, lpK_rt, foK_e, forK_p, itm_tup, itm_lst, itm_kl, itm_fr, itm_br, itm_etup, itm_elst, itm_ekl, itm_efr, itm_ebr, itm_r1, itm_r2, at_nat, at_0, at_1, at_2, at_3, at_4, at_5, at_6, at_7, p_ii, p_ss, p_tt, p_ff, p_bf, p_lf, p_fl, p_ll, p_bl, p_sub, p_mulL, p_mulR, p_divP, p_modP, p_pow, c_lt, c_le, c_gt, c_ge, eqK1_v, eqK2_v, c_eq, c_ne, c_in, c_ni, inK_v, in_tup, in_lst, in_kl, in_fr, in_br, f_abs, f_int, f_lenS, f_lent, f_lenl, f_lenk, f_lenf, f_lenb, f_listk, f_listl, f_listt, f_listf, f_tupl, f_tupt, f_tupf, f_tupb, f_all, f_any, anyK_b, f_sort1, f_sort1f, mo_il, mo_ib, mo_ik, mo_if, mo_cl, mo_cb, mo_cf, ixK0_n, ixMK_v, m_il, m_ib, m_if, coMK_v, m_cl, m_cb, m_cf, apo_s, apoK_o, apoK_r, boK_l, ap_s, apK_o, apK_r, bxK_l, gu_c, gu_e, ok_non, ok_bl, ok_int, catK_s, catK_n, turK_p, tu_n, tu_c, bo_n, bo_c, in_n, in_c, al_n, al_t, al_f, nu_n, nu_c, refK_l, x_ref, setK1_m, setK_l, set_ref, ixn_20, ixn_21, ixn_31, ixn_30, ixn_32, sl_tup, sl_lst, sl_fr, sl_br, rv_lst, rv_fr, rv_br, asI_i, b_some, m_some, List.getElem?_cons_succ, List.getElem?_cons_zero, List.getElem?_nil, List.set_cons_succ, List.set_cons_zero, List.length_cons, List.length_nil, lim, Nat.reduceAdd, Nat.reduceLeDiff, Int.reduceLT, Nat.reduceLT, Nat.lt_add_left_iff_pos, E.isNil, wipeE, Nat.zero_lt_succ, if_true, if_false, Bool.true_bne, Bool.false_bne, bne_self_eq_false, Bool.not_true, Bool.not_false, Bool.not_not, Bool.bne_false, Bool.bne_true]
  have hlen : (el.map fun e => PV.str e.name).length ≤ 16777216 := by rw [List.length_map]; omega
  cases td with
  | none =>
    have hx : okD (.str nm) = true := ok_str hk
    cases hf : el.findIdx? fun e => e.name == nm with
    | none =>
      have hs : src el ⟨nm, none, kd, rs⟩ = none := hf
      simp only [k_source_in, b_source_in, e_source_in_0, ha, hlen, cell, tp_n, tp_s, hx, ok_names hel, any_str, first_str, hf, hs, Option.isSome_none, np_n, np_s, ↓s_seq, ↓s_skip, ↓s_pass, ↓s_brk, ↓s_cnt, ↓s_retN, ↓s_ret, ↓s_ex, ↓s_ite, ↓s_ass, ↓s_par, ↓s_sub, ↓s_app, ↓s_frz, ↓s_prm, ↓e_con, ↓e_glob, ↓e_var, ↓e_tup, ↓e_lst, ↓e_bin, ↓e_neg, ↓e_cmp, ↓e_chain, ↓e_isN, ↓e_not, ↓e_and, ↓e_or, ↓e_ife, ↓e_idx, ↓pt_nil, ↓e_slc, ↓e_rev, ↓e_call, ↓e_blt, ↓e_mth, ↓e_isin, ↓e_setlen, ↓cd_nil, ↓i_one, ↓t_t, ↓r_nil, ↓r_cons, ↓rr_nil, ↓rr_cons, ↓lp_n, ↓lp_c, ↓cd_con, ↓pt_con, ↓i_con, ↓cd_var, ↓pt_var, ↓i_var, ↓cd_glob, ↓pt_glob, ↓i_glob, ↓cd_tup, ↓pt_tup, ↓i_tup, ↓cd_lst, ↓pt_lst, ↓i_lst, ↓cd_bin, ↓pt_bin, ↓i_bin, ↓cd_neg, ↓pt_neg, ↓i_neg, ↓cd_cmp, ↓pt_cmp, ↓i_cmp, ↓cd_chain, ↓pt_chain, ↓i_chain, ↓cd_isN, ↓pt_isN, ↓i_isN, ↓cd_not, ↓pt_not, ↓i_not, ↓cd_and, ↓pt_and, ↓i_and, ↓cd_or, ↓pt_or, ↓i_or, ↓cd_ife, ↓pt_ife, ↓i_ife, ↓cd_idx, ↓pt_idx, ↓i_idx, ↓cd_slc, ↓pt_slc, ↓i_slc, ↓cd_rev, ↓pt_rev, ↓i_rev, ↓cd_call, ↓pt_call, ↓i_call, ↓cd_blt, ↓pt_blt, ↓i_blt, ↓cd_mth, ↓pt_mth, ↓i_mth, ↓cd_isin, ↓pt_isin, ↓i_isin, ↓cd_setlen, ↓pt_setlen, ↓i_setlen, ↓cd_lc, ↓pt_lc, ↓i_lc, s_seq, s_skip, s_pass, s_brk, s_cnt, s_retN, s_ret, s_ex, s_ite, s_ass, s_par, s_sub, s_app, s_frz, s_prm, e_con, e_glob, e_var, e_tup, e_lst, e_bin, e_neg, e_cmp, e_chain, e_isN, e_not, e_and, e_or, e_ife, e_idx, pt_nil, e_slc, e_rev, e_call, e_blt, e_mth, e_isin, e_setlen, cd_nil, i_one, t_t, r_nil, r_cons, rr_nil, rr_cons, lp_n, lp_c, cd_con, pt_con, i_con, cd_var, pt_var, i_var, cd_glob, pt_glob, i_glob, cd_tup, pt_tup, i_tup, cd_lst, pt_lst, i_lst, cd_bin, pt_bin, i_bin, cd_neg, pt_neg, i_neg, cd_cmp, pt_cmp, i_cmp, cd_chain, pt_chain, i_chain, cd_isN, pt_isN, i_isN, cd_not, pt_not, i_not, cd_and, pt_and, i_and, cd_or, pt_or, i_or, cd_ife, pt_ife, i_ife, cd_idx, pt_idx, i_idx, cd_slc, pt_slc, i_slc, cd_rev, pt_rev, i_rev, cd_call, pt_call, i_call, cd_blt, pt_blt, i_blt, cd_mth, pt_mth, i_mth, cd_isin, pt_isin, i_isin, cd_setlen, pt_setlen, i_setlen, cd_lc, pt_lc, i_lc, ↓e_lc, ↓s_for, e_lc, s_for, nxt_nx, nxt_rt, nxt_bk, nxt_ct, rtK_p, exK_p, iteK_t, iteK_f, nxO_e, assK_p, parK_p, subK3_p, subK2_p, subK1_p, subK_p, nx2_p, appK1_p, appK_p, okK_t, forL_p, frzK_o, frzK_s, prmK_o, prmK_s, varK_s, varK_o, tupK_p, lstK_p, wiK_a, binK1_p, binK_p, negK_i, blK_b, cmpK1_p, cmpK_p, chainK_t, chainK_f, chK1_p, chK_p, isNK_p, nblK_b, notK_p, andK_t, andK_f, anK_p, orK_t, orK_f, oK_p, ifeK_t, ifeK_f, ifK_p, idxK1_p, idxK_p, siK_i, aiK_p, slcK2_p, slcK1_p, slcK_p, revK_p, callE_p, bltK_p, mthK1_p, mthK0_t, mthK_p, isinK_p, slnK1_p, slnK0_p, slnK_p, soK_v, giK_p, trK1_b, trK_p, elK_t, elK_f, lcK1_p, lcK_p, tuK_p, itK1_p, itK2_p, itK_p, coK_p, rcK1_p, rcK_p, crK_p, rrK_p, l_tup, l_lst, l_kl, l_fr, l_br, g_pv, g_fr, d_lst, d_fr, d_br, d_str, d_int, d_bl, d_non, d_tup, tr_bl, tr_int, tr_non, tr_str, n_non, n_int, n_str, n_tup, n_lst, n_bl, n_ref, x_tup, x_lst, x_kl, x_fr, x_br, a_v, a_t, gt_pv, gt_fr, as_v, as_tt, as_tl, as_n, as_c, o_rtp, o_rtf, o_rtb, o_nx, lpK_nx, lpK_ct, lpK_bk, lpK_rt, foK_e, forK_p, itm_tup, itm_lst, itm_kl, itm_fr, itm_br, itm_etup, itm_elst, itm_ekl, itm_efr, itm_ebr, itm_r1, itm_r2, at_nat, at_0, at_1, at_2, at_3, at_4, at_5, at_6, at_7, p_ii, p_ss, p_tt, p_ff, p_bf, p_lf, p_fl, p_ll, p_bl, p_sub, p_mulL, p_mulR, p_divP, p_modP, p_pow, c_lt, c_le, c_gt, c_ge, eqK1_v, eqK2_v, c_eq, c_ne, c_in, c_ni, inK_v, in_tup, in_lst, in_kl, in_fr, in_br, f_abs, f_int, f_lenS, f_lent, f_lenl, f_lenk, f_lenf, f_lenb, f_listk, f_listl, f_listt, f_listf, f_tupl, f_tupt, f_tupf, f_tupb, f_all, f_any, anyK_b, f_sort1, f_sort1f, mo_il, mo_ib, mo_ik, mo_if, mo_cl, mo_cb, mo_cf, ixK0_n, ixMK_v, m_il, m_ib, m_if, coMK_v, m_cl, m_cb, m_cf, apo_s, apoK_o, apoK_r, boK_l, ap_s, apK_o, apK_r, bxK_l, gu_c, gu_e, ok_non, ok_bl, ok_int, catK_s, catK_n, turK_p, tu_n, tu_c, bo_n, bo_c, in_n, in_c, al_n, al_t, al_f, nu_n, nu_c, refK_l, x_ref, setK1_m, setK_l, set_ref, ixn_20, ixn_21, ixn_31, ixn_30, ixn_32, sl_tup, sl_lst, sl_fr, sl_br, rv_lst, rv_fr, rv_br, asI_i, b_some, m_some, List.getElem?_cons_succ, List.getElem?_cons_zero, List.getElem?_nil, List.set_cons_succ, List.set_cons_zero, List.length_cons, List.length_nil, lim, Nat.reduceAdd, Nat.reduceLeDiff, Int.reduceLT, Nat.reduceLT, Nat.lt_add_left_iff_pos, E.isNil, wipeE, Nat.zero_lt_succ, if_true, if_false, Bool.true_bne, Bool.false_bne, bne_self_eq_false, Bool.not_true, Bool.not_false, Bool.not_not, Bool.bne_false, Bool.bne_true]
    | some j =>
      have hs : src el ⟨nm, none, kd, rs⟩ = some j := hf
      simp only [k_source_in, b_source_in, e_source_in_0, ha, hlen, cell, tp_n, tp_s, hx, ok_names hel, any_str, first_str, hf, hs, Option.isSome_some, np_n, np_s, Nat.add_zero, ↓s_seq, ↓s_skip, ↓s_pass, ↓s_brk, ↓s_cnt, ↓s_retN, ↓s_ret, ↓s_ex, ↓s_ite, ↓s_ass, ↓s_par, ↓s_sub, ↓s_app, ↓s_frz, ↓s_prm, ↓e_con, ↓e_glob, ↓e_var, ↓e_tup, ↓e_lst, ↓e_bin, ↓e_neg, ↓e_cmp, ↓e_chain, ↓e_isN, ↓e_not, ↓e_and, ↓e_or, ↓e_ife, ↓e_idx, ↓pt_nil, ↓e_slc, ↓e_rev, ↓e_call, ↓e_blt, ↓e_mth, ↓e_isin, ↓e_setlen, ↓cd_nil, ↓i_one, ↓t_t, ↓r_nil, ↓r_cons, ↓rr_nil, ↓rr_cons, ↓lp_n, ↓lp_c, ↓cd_con, ↓pt_con, ↓i_con, ↓cd_var, ↓pt_var, ↓i_var, ↓cd_glob, ↓pt_glob, ↓i_glob, ↓cd_tup, ↓pt_tup, ↓i_tup, ↓cd_lst, ↓pt_lst, ↓i_lst, ↓cd_bin, ↓pt_bin, ↓i_bin, ↓cd_neg, ↓pt_neg, ↓i_neg, ↓cd_cmp, ↓pt_cmp, ↓i_cmp, ↓cd_chain, ↓pt_chain, ↓i_chain, ↓cd_isN, ↓pt_isN, ↓i_isN, ↓cd_not, ↓pt_not, ↓i_not, ↓cd_and, ↓pt_and, ↓i_and, ↓cd_or, ↓pt_or, ↓i_or, ↓cd_ife, ↓pt_ife, ↓i_ife, ↓cd_idx, ↓pt_idx, ↓i_idx, ↓cd_slc, ↓pt_slc, ↓i_slc, ↓cd_rev, ↓pt_rev, ↓i_rev, ↓cd_call, ↓pt_call, ↓i_call, ↓cd_blt, ↓pt_blt, ↓i_blt, ↓cd_mth, ↓pt_mth, ↓i_mth, ↓cd_isin, ↓pt_isin, ↓i_isin, ↓cd_setlen, ↓pt_setlen, ↓i_setlen, ↓cd_lc, ↓pt_lc, ↓i_lc, s_seq, s_skip, s_pass, s_brk, s_cnt, s_retN, s_ret, s_ex, s_ite, s_ass, s_par, s_sub, s_app, s_frz, s_prm, e_con, e_glob, e_var, e_tup, e_lst, e_bin, e_neg, e_cmp, e_chain, e_isN, e_not, e_and, e_or, e_ife, e_idx, pt_nil, e_slc, e_rev, e_call, e_blt, e_mth, e_isin, e_setlen, cd_nil, i_one, t_t, r_nil, r_cons, rr_nil, rr_cons, lp_n, lp_c, cd_con, pt_con, i_con, cd_var, pt_var, i_var, cd_glob, pt_glob, i_glob, cd_tup, pt_tup, i_tup, cd_lst, pt_lst, i_lst, cd_bin, pt_bin, i_bin, cd_neg, pt_neg, i_neg, cd_cmp, pt_cmp, i_cmp, cd_chain, pt_chain, i_chain, cd_isN, pt_isN, i_isN, cd_not, pt_not, i_not, cd_and, pt_and, i_and, cd_or, pt_or, i_or, cd_ife, pt_ife, i_ife, cd_idx, pt_idx, i_idx, cd_slc, pt_slc, i_slc, cd_rev, pt_rev, i_rev, cd_call, pt_call, i_call, cd_blt, pt_blt, i_blt, cd_mth, pt_mth, i_mth, cd_isin, pt_isin, i_isin, cd_setlen, pt_setlen, i_setlen, cd_lc, pt_lc, i_lc, ↓e_lc, ↓s_for, e_lc, s_for, nxt_nx, nxt_rt, nxt_bk, nxt_ct, rtK_p, exK_p, iteK_t, iteK_f, nxO_e, assK_p, parK_p, subK3_p, subK2_p, subK1_p, subK_p, nx2_p, appK1_p, appK_p, okK_t, forL_p, frzK_o, frzK_s, prmK_o, prmK_s, varK_s, varK_o, tupK_p, lstK_p, wiK_a, binK1_p, binK_p, negK_i, blK_b, cmpK1_p, cmpK_p, chainK_t, chainK_f, chK1_p, chK_p, isNK_p, nblK_b, notK_p, andK_t, andK_f, anK_p, orK_t, orK_f, oK_p, ifeK_t, ifeK_f, ifK_p, idxK1_p, idxK_p, siK_i, aiK_p, slcK2_p, slcK1_p, slcK_p, revK_p, callE_p, bltK_p, mthK1_p, mthK0_t, mthK_p, isinK_p, slnK1_p, slnK0_p, slnK_p, soK_v, giK_p, trK1_b, trK_p, elK_t, elK_f, lcK1_p, lcK_p, tuK_p, itK1_p, itK2_p, itK_p, coK_p, rcK1_p, rcK_p, crK_p, rrK_p, l_tup, l_lst, l_kl, l_fr, l_br, g_pv, g_fr, d_lst, d_fr, d_br, d_str, d_int, d_bl, d_non, d_tup, tr_bl, tr_int, tr_non, tr_str, n_non, n_int, n_str, n_tup, n_lst, n_bl, n_ref, x_tup, x_lst, x_kl, x_fr, x_br, a_v, a_t, gt_pv, gt_fr, as_v, as_tt, as_tl, as_n, as_c, o_rtp, o_rtf, o_rtb, o_nx, lpK_nx, lpK_ct, lpK_bk, lpK_rt, foK_e, forK_p, itm_tup, itm_lst, itm_kl, itm_fr, itm_br, itm_etup, itm_elst, itm_ekl, itm_efr, itm_ebr, itm_r1, itm_r2, at_nat, at_0, at_1, at_2, at_3, at_4, at_5, at_6, at_7, p_ii, p_ss, p_tt, p_ff, p_bf, p_lf, p_fl, p_ll, p_bl, p_sub, p_mulL, p_mulR, p_divP, p_modP, p_pow, c_lt, c_le, c_gt, c_ge, eqK1_v, eqK2_v, c_eq, c_ne, c_in, c_ni, inK_v, in_tup, in_lst, in_kl, in_fr, in_br, f_abs, f_int, f_lenS, f_lent, f_lenl, f_lenk, f_lenf, f_lenb, f_listk, f_listl, f_listt, f_listf, f_tupl, f_tupt, f_tupf, f_tupb, f_all, f_any, anyK_b, f_sort1, f_sort1f, mo_il, mo_ib, mo_ik, mo_if, mo_cl, mo_cb, mo_cf, ixK0_n, ixMK_v, m_il, m_ib, m_if, coMK_v, m_cl, m_cb, m_cf, apo_s, apoK_o, apoK_r, boK_l, ap_s, apK_o, apK_r, bxK_l, gu_c, gu_e, ok_non, ok_bl, ok_int, catK_s, catK_n, turK_p, tu_n, tu_c, bo_n, bo_c, in_n, in_c, al_n, al_t, al_f, nu_n, nu_c, refK_l, x_ref, setK1_m, setK_l, set_ref, ixn_20, ixn_21, ixn_31, ixn_30, ixn_32, sl_tup, sl_lst, sl_fr, sl_br, rv_lst, rv_fr, rv_br, asI_i, b_some, m_some, List.getElem?_cons_succ, List.getElem?_cons_zero, List.getElem?_nil, List.set_cons_succ, List.set_cons_zero, List.length_cons, List.length_nil, lim, Nat.reduceAdd, Nat.reduceLeDiff, Int.reduceLT, Nat.reduceLT, Nat.lt_add_left_iff_pos, E.isNil, wipeE, Nat.zero_lt_succ, if_true, if_false, Bool.true_bne, Bool.false_bne, bne_self_eq_false, Bool.not_true, Bool.not_false, Bool.not_not, Bool.bne_false, Bool.bne_true]
  | some t =>
    have hx : okD (.str t) = true := ok_str hk
    cases hf : el.findIdx? fun e => e.name == t with
    | none =>
      have hs : src el ⟨nm, some t, kd, rs⟩ = none := hf
      simp only [k_source_in, b_source_in, e_source_in_0, ha, hlen, cell, tp_n, tp_s, hx, ok_names hel, any_str, first_str, hf, hs, Option.isSome_none, np_n, np_s, ↓s_seq, ↓s_skip, ↓s_pass, ↓s_brk, ↓s_cnt, ↓s_retN, ↓s_ret, ↓s_ex, ↓s_ite, ↓s_ass, ↓s_par, ↓s_sub, ↓s_app, ↓s_frz, ↓s_prm, ↓e_con, ↓e_glob, ↓e_var, ↓e_tup, ↓e_lst, ↓e_bin, ↓e_neg, ↓e_cmp, ↓e_chain, ↓e_isN, ↓e_not, ↓e_and, ↓e_or, ↓e_ife, ↓e_idx, ↓pt_nil, ↓e_slc, ↓e_rev, ↓e_call, ↓e_blt, ↓e_mth, ↓e_isin, ↓e_setlen, ↓cd_nil, ↓i_one, ↓t_t, ↓r_nil, ↓r_cons, ↓rr_nil, ↓rr_cons, ↓lp_n, ↓lp_c, ↓cd_con, ↓pt_con, ↓i_con, ↓cd_var, ↓pt_var, ↓i_var, ↓cd_glob, ↓pt_glob, ↓i_glob, ↓cd_tup, ↓pt_tup, ↓i_tup, ↓cd_lst, ↓pt_lst, ↓i_lst, ↓cd_bin, ↓pt_bin, ↓i_bin, ↓cd_neg, ↓pt_neg, ↓i_neg, ↓cd_cmp, ↓pt_cmp, ↓i_cmp, ↓cd_chain, ↓pt_chain, ↓i_chain, ↓cd_isN, ↓pt_isN, ↓i_isN, ↓cd_not, ↓pt_not, ↓i_not, ↓cd_and, ↓pt_and, ↓i_and, ↓cd_or, ↓pt_or, ↓i_or, ↓cd_ife, ↓pt_ife, ↓i_ife, ↓cd_idx, ↓pt_idx, ↓i_idx, ↓cd_slc, ↓pt_slc, ↓i_slc, ↓cd_rev, ↓pt_rev, ↓i_rev, ↓cd_call, ↓pt_call, ↓i_call, ↓cd_blt, ↓pt_blt, ↓i_blt, ↓cd_mth, ↓pt_mth, ↓i_mth, ↓cd_isin, ↓pt_isin, ↓i_isin, ↓cd_setlen, ↓pt_setlen, ↓i_setlen, ↓cd_lc, ↓pt_lc, ↓i_lc, s_seq, s_skip, s_pass, s_brk, s_cnt, s_retN, s_ret, s_ex, s_ite, s_ass, s_par, s_sub, s_app, s_frz, s_prm, e_con, e_glob, e_var, e_tup, e_lst, e_bin, e_neg, e_cmp, e_chain, e_isN, e_not, e_and, e_or, e_ife, e_idx, pt_nil, e_slc, e_rev, e_call, e_blt, e_mth, e_isin, e_setlen, cd_nil, i_one, t_t, r_nil, r_cons, rr_nil, rr_cons, lp_n, lp_c, cd_con, pt_con, i_con, cd_var, pt_var, i_var, cd_glob, pt_glob, i_glob, cd_tup, pt_tup, i_tup, cd_lst, pt_lst, i_lst, cd_bin, pt_bin, i_bin, cd_neg, pt_neg, i_neg, cd_cmp, pt_cmp, i_cmp, cd_chain, pt_chain, i_chain, cd_isN, pt_isN, i_isN, cd_not, pt_not, i_not, cd_and, pt_and, i_and, cd_or, pt_or, i_or, cd_ife, pt_ife, i_ife, cd_idx, pt_idx, i_idx, cd_slc, pt_slc, i_slc, cd_rev, pt_rev, i_rev, cd_call, pt_call, i_call, cd_blt, pt_blt, i_blt, cd_mth, pt_mth, i_mth, cd_isin, pt_isin, i_isin, cd_setlen, pt_setlen, i_setlen, cd_lc, pt_lc, i_lc, ↓e_lc, ↓s_for, e_lc, s_for, nxt_nx, nxt_rt, nxt_bk, nxt_ct, rtK_p, exK_p, iteK_t, iteK_f, nxO_e, assK_p, parK_p, subK3_p, subK2_p, subK1_p, subK_p, nx2_p, appK1_p, appK_p, okK_t, forL_p, frzK_o, frzK_s, prmK_o, prmK_s, varK_s, varK_o, tupK_p, lstK_p, wiK_a, binK1_p, binK_p, negK_i, blK_b, cmpK1_p, cmpK_p, chainK_t, chainK_f, chK1_p, chK_p, isNK_p, nblK_b, notK_p, andK_t, andK_f, anK_p, orK_t, orK_f, oK_p, ifeK_t, ifeK_f, ifK_p, idxK1_p, idxK_p, siK_i, aiK_p, slcK2_p, slcK1_p, slcK_p, revK_p, callE_p, bltK_p, mthK1_p, mthK0_t, mthK_p, isinK_p, slnK1_p, slnK0_p, slnK_p, soK_v, giK_p, trK1_b, trK_p, elK_t, elK_f, lcK1_p, lcK_p, tuK_p, itK1_p, itK2_p, itK_p, coK_p, rcK1_p, rcK_p, crK_p, rrK_p, l_tup, l_lst, l_kl, l_fr, l_br, g_pv, g_fr, d_lst, d_fr, d_br, d_str, d_int, d_bl, d_non, d_tup, tr_bl, tr_int, tr_non, tr_str, n_non, n_int, n_str, n_tup, n_lst, n_bl, n_ref, x_tup, x_lst, x_kl, x_fr, x_br, a_v, a_t, gt_pv, gt_fr, as_v, as_tt, as_tl, as_n, as_c, o_rtp, o_rtf, o_rtb, o_nx, lpK_nx, lpK_ct, lpK_bk, lpK_rt, foK_e, forK_p, itm_tup, itm_lst, itm_kl, itm_fr, itm_br, itm_etup, itm_elst, itm_ekl, itm_efr, itm_ebr, itm_r1, itm_r2, at_nat, at_0, at_1, at_2, at_3, at_4, at_5, at_6, at_7, p_ii, p_ss, p_tt, p_ff, p_bf, p_lf, p_fl, p_ll, p_bl, p_sub, p_mulL, p_mulR, p_divP, p_modP, p_pow, c_lt, c_le, c_gt, c_ge, eqK1_v, eqK2_v, c_eq, c_ne, c_in, c_ni, inK_v, in_tup, in_lst, in_kl, in_fr, in_br, f_abs, f_int, f_lenS, f_lent, f_lenl, f_lenk, f_lenf, f_lenb, f_listk, f_listl, f_listt, f_listf, f_tupl, f_tupt, f_tupf, f_tupb, f_all, f_any, anyK_b, f_sort1, f_sort1f, mo_il, mo_ib, mo_ik, mo_if, mo_cl, mo_cb, mo_cf, ixK0_n, ixMK_v, m_il, m_ib, m_if, coMK_v, m_cl, m_cb, m_cf, apo_s, apoK_o, apoK_r, boK_l, ap_s, apK_o, apK_r, bxK_l, gu_c, gu_e, ok_non, ok_bl, ok_int, catK_s, catK_n, turK_p, tu_n, tu_c, bo_n, bo_c, in_n, in_c, al_n, al_t, al_f, nu_n, nu_c, refK_l, x_ref, setK1_m, setK_l, set_ref, ixn_20, ixn_21, ixn_31, ixn_30, ixn_32, sl_tup, sl_lst, sl_fr, sl_br, rv_lst, rv_fr, rv_br, asI_i, b_some, m_some, List.getElem?_cons_succ, List.getElem?_cons_zero, List.getElem?_nil, List.set_cons_succ, List.set_cons_zero, List.length_cons, List.length_nil, lim, Nat.reduceAdd, Nat.reduceLeDiff, Int.reduceLT, Nat.reduceLT, Nat.lt_add_left_iff_pos, E.isNil, wipeE, Nat.zero_lt_succ, if_true, if_false, Bool.true_bne, Bool.false_bne, bne_self_eq_false, Bool.not_true, Bool.not_false, Bool.not_not, Bool.bne_false, Bool.bne_true]
    | some j =>
      have hs : src el ⟨nm, some t, kd, rs⟩ = some j := hf
      simp only [k_source_in, b_source_in, e_source_in_0, ha, hlen, cell, tp_n, tp_s, hx, ok_names hel, any_str, first_str, hf, hs, Option.isSome_some, np_n, np_s, Nat.add_zero, ↓s_seq, ↓s_skip, ↓s_pass, ↓s_brk, ↓s_cnt, ↓s_retN, ↓s_ret, ↓s_ex, ↓s_ite, ↓s_ass, ↓s_par, ↓s_sub, ↓s_app, ↓s_frz, ↓s_prm, ↓e_con, ↓e_glob, ↓e_var, ↓e_tup, ↓e_lst, ↓e_bin, ↓e_neg, ↓e_cmp, ↓e_chain, ↓e_isN, ↓e_not, ↓e_and, ↓e_or, ↓e_ife, ↓e_idx, ↓pt_nil, ↓e_slc, ↓e_rev, ↓e_call, ↓e_blt, ↓e_mth, ↓e_isin, ↓e_setlen, ↓cd_nil, ↓i_one, ↓t_t, ↓r_nil, ↓r_cons, ↓rr_nil, ↓rr_cons, ↓lp_n, ↓lp_c, ↓cd_con, ↓pt_con, ↓i_con, ↓cd_var, ↓pt_var, ↓i_var, ↓cd_glob, ↓pt_glob, ↓i_glob, ↓cd_tup, ↓pt_tup, ↓i_tup, ↓cd_lst, ↓pt_lst, ↓i_lst, ↓cd_bin, ↓pt_bin, ↓i_bin, ↓cd_neg, ↓pt_neg, ↓i_neg, ↓cd_cmp, ↓pt_cmp, ↓i_cmp, ↓cd_chain, ↓pt_chain, ↓i_chain, ↓cd_isN, ↓pt_isN, ↓i_isN, ↓cd_not, ↓pt_not, ↓i_not, ↓cd_and, ↓pt_and, ↓i_and, ↓cd_or, ↓pt_or, ↓i_or, ↓cd_ife, ↓pt_ife, ↓i_ife, ↓cd_idx, ↓pt_idx, ↓i_idx, ↓cd_slc, ↓pt_slc, ↓i_slc, ↓cd_rev, ↓pt_rev, ↓i_rev, ↓cd_call, ↓pt_call, ↓i_call, ↓cd_blt, ↓pt_blt, ↓i_blt, ↓cd_mth, ↓pt_mth, ↓i_mth, ↓cd_isin, ↓pt_isin, ↓i_isin, ↓cd_setlen, ↓pt_setlen, ↓i_setlen, ↓cd_lc, ↓pt_lc, ↓i_lc, s_seq, s_skip, s_pass, s_brk, s_cnt, s_retN, s_ret, s_ex, s_ite, s_ass, s_par, s_sub, s_app, s_frz, s_prm, e_con, e_glob, e_var, e_tup, e_lst, e_bin, e_neg, e_cmp, e_chain, e_isN, e_not, e_and, e_or, e_ife, e_idx, pt_nil, e_slc, e_rev, e_call, e_blt, e_mth, e_isin, e_setlen, cd_nil, i_one, t_t, r_nil, r_cons, rr_nil, rr_cons, lp_n, lp_c, cd_con, pt_con, i_con, cd_var, pt_var, i_var, cd_glob, pt_glob, i_glob, cd_tup, pt_tup, i_tup, cd_lst, pt_lst, i_lst, cd_bin, pt_bin, i_bin, cd_neg, pt_neg, i_neg, cd_cmp, pt_cmp, i_cmp, cd_chain, pt_chain, i_chain, cd_isN, pt_isN, i_isN, cd_not, pt_not, i_not, cd_and, pt_and, i_and, cd_or, pt_or, i_or, cd_ife, pt_ife, i_ife, cd_idx, pt_idx, i_idx, cd_slc, pt_slc, i_slc, cd_rev, pt_rev, i_rev, cd_call, pt_call, i_call, cd_blt, pt_blt, i_blt, cd_mth, pt_mth, i_mth, cd_isin, pt_isin, i_isin, cd_setlen, pt_setlen, i_setlen, cd_lc, pt_lc, i_lc, ↓e_lc, ↓s_for, e_lc, s_for, nxt_nx, nxt_rt, nxt_bk, nxt_ct, rtK_p, exK_p, iteK_t, iteK_f, nxO_e, assK_p, parK_p, subK3_p, subK2_p, subK1_p, subK_p, nx2_p, appK1_p, appK_p, okK_t, forL_p, frzK_o, frzK_s, prmK_o, prmK_s, varK_s, varK_o, tupK_p, lstK_p, wiK_a, binK1_p, binK_p, negK_i, blK_b, cmpK1_p, cmpK_p, chainK_t, chainK_f, chK1_p, chK_p, isNK_p, nblK_b, notK_p, andK_t, andK_f, anK_p, orK_t, orK_f, oK_p, ifeK_t, ifeK_f, ifK_p, idxK1_p, idxK_p, siK_i, aiK_p, slcK2_p, slcK1_p, slcK_p, revK_p, callE_p, bltK_p, mthK1_p, mthK0_t, mthK_p, isinK_p, slnK1_p, slnK0_p, slnK_p, soK_v, giK_p, trK1_b, trK_p, elK_t, elK_f, lcK1_p, lcK_p, tuK_p, itK1_p, itK2_p, itK_p, coK_p, rcK1_p, rcK_p, crK_p, rrK_p, l_tup, l_lst, l_kl, l_fr, l_br, g_pv, g_fr, d_lst, d_fr, d_br, d_str, d_int, d_bl, d_non, d_tup, tr_bl, tr_int, tr_non, tr_str, n_non, n_int, n_str, n_tup, n_lst, n_bl, n_ref, x_tup, x_lst, x_kl, x_fr, x_br, a_v, a_t, gt_pv, gt_fr, as_v, as_tt, as_tl, as_n, as_c, o_rtp, o_rtf, o_rtb, o_nx, lpK_nx, lpK_ct, lpK_bk, lpK_rt, foK_e, forK_p, itm_tup, itm_lst, itm_kl, itm_fr, itm_br, itm_etup, itm_elst, itm_ekl, itm_efr, itm_ebr, itm_r1, itm_r2, at_nat, at_0, at_1, at_2, at_3, at_4, at_5, at_6, at_7, p_ii, p_ss, p_tt, p_ff, p_bf, p_lf, p_fl, p_ll, p_bl, p_sub, p_mulL, p_mulR, p_divP, p_modP, p_pow, c_lt, c_le, c_gt, c_ge, eqK1_v, eqK2_v, c_eq, c_ne, c_in, c_ni, inK_v, in_tup, in_lst, in_kl, in_fr, in_br, f_abs, f_int, f_lenS, f_lent, f_lenl, f_lenk, f_lenf, f_lenb, f_listk, f_listl, f_listt, f_listf, f_tupl, f_tupt, f_tupf, f_tupb, f_all, f_any, anyK_b, f_sort1, f_sort1f, mo_il, mo_ib, mo_ik, mo_if, mo_cl, mo_cb, mo_cf, ixK0_n, ixMK_v, m_il, m_ib, m_if, coMK_v, m_cl, m_cb, m_cf, apo_s, apoK_o, apoK_r, boK_l, ap_s, apK_o, apK_r, bxK_l, gu_c, gu_e, ok_non, ok_bl, ok_int, catK_s, catK_n, turK_p, tu_n, tu_c, bo_n, bo_c, in_n, in_c, al_n, al_t, al_f, nu_n, nu_c, refK_l, x_ref, setK1_m, setK_l, set_ref, ixn_20, ixn_21, ixn_31, ixn_30, ixn_32, sl_tup, sl_lst, sl_fr, sl_br, rv_lst, rv_fr, rv_br, asI_i, b_some, m_some, List.getElem?_cons_succ, List.getElem?_cons_zero, List.getElem?_nil, List.set_cons_succ, List.set_cons_zero, List.length_cons, List.length_nil, lim, Nat.reduceAdd, Nat.reduceLeDiff, Int.reduceLT, Nat.reduceLT, Nat.lt_add_left_iff_pos, E.isNil, wipeE, Nat.zero_lt_succ, if_true, if_false, Bool.true_bne, Bool.false_bne, bne_self_eq_false, Bool.not_true, Bool.not_false, Bool.not_not, Bool.bne_false, Bool.bne_true]
/-! ### is_wrong -/
/-- the tolds of the others -/
def others (rs : List Row) (i : Nat) : List (Option Str) := rs.zipIdx.filterMap fun p => if p.2 = i then none else some p.1.told
def wrong (el rs : List Row) (i : Nat) : Option Str → Bool
  | none => false
  | some t => (others rs i).any (· == some t) || (rs.any fun r => r.name == t) || !(el.any fun e => e.name == t)
theorem tp_eq {o : Option Str} {t : Str} : pvEq (tp o) (.str t) = (o == some t) := by
  cases o with
  | none => rfl
  | some s =>
    show (s == t) = (some s == some t)
    rfl
theorem ok_tps {os : List (Option Str)} (ho : ∀ o ∈ os, ∀ t, o = some t → PyData.strOk t = true) : okD (.lst (os.map tp)) = true := by
  refine ok_flat (m := 1) (by decide) (flat_lst fun v m => ?_)
  obtain ⟨o, mo, rfl⟩ := List.mem_map.mp m
  cases o with
  | none => rfl
  | some t => simp [tp, flat, Ev.plain, dep, ho _ mo t rfl]
theorem is_wrong_ok (k : Nat) (h : Hh) {el rs : List Row} {r : Row} {i : Nat} (hi : rs[i]? = some r) (hel : ∀ e ∈ el, Good e) (hrs : ∀ e ∈ rs, Good e) (hl : el.length ≤ 100) (hl2 : rs.length ≤ 100) :
    callK G.ds (k + 1) 3 [.tup (el.map cell), .tup (rs.map cell), .int i] h = some (.pv (.bl (wrong el rs i r.told)), h) := by
  have hx : L2.atI (rs.map cell) (i : Int) = some (cell r) := by
    rw [at_nat, List.getElem?_map, hi]; rfl
  have gr : Good r := hrs r (List.mem_of_getElem? hi)
  obtain ⟨nm, td, kd, re⟩ := r
  cases td with
  | none => simp only [k_is_wrong, b_is_wrong, w_is_wrong_0, e_is_wrong_0, e_is_wrong_1, e_is_wrong_2, hx, cell, tp_n, tp_s, wrong, ↓s_seq, ↓s_skip, ↓s_pass, ↓s_brk, ↓s_cnt, ↓s_retN, ↓s_ret, ↓s_ex, ↓s_ite, ↓s_ass, ↓s_par, ↓s_sub, ↓s_app, ↓s_frz, ↓s_prm, ↓e_con, ↓e_glob, ↓e_var, ↓e_tup, ↓e_lst, ↓e_bin, ↓e_neg, ↓e_cmp, ↓e_chain, ↓e_isN, ↓e_not, ↓e_and, ↓e_or, ↓e_ife, ↓e_idx, ↓pt_nil, ↓e_slc, ↓e_rev, ↓e_call, ↓e_blt, ↓e_mth, ↓e_isin, ↓e_setlen, ↓cd_nil, ↓i_one, ↓t_t, ↓r_nil, ↓r_cons, ↓rr_nil, ↓rr_cons, ↓lp_n, ↓lp_c, ↓cd_con, ↓pt_con, ↓i_con, ↓cd_var, ↓pt_var, ↓i_var, ↓cd_glob, ↓pt_glob, ↓i_glob, ↓cd_tup, ↓pt_tup, ↓i_tup, ↓cd_lst, ↓pt_lst, ↓i_lst, ↓cd_bin, ↓pt_bin, ↓i_bin, ↓cd_neg, ↓pt_neg, ↓i_neg, ↓cd_cmp, ↓pt_cmp, ↓i_cmp, ↓cd_chain, ↓pt_chain, ↓i_chain, ↓cd_isN, ↓pt_isN, ↓i_isN, ↓cd_not, ↓pt_not, ↓i_not, ↓cd_and, ↓pt_and, ↓i_and, ↓cd_or, ↓pt_or, ↓i_or, ↓cd_ife, ↓pt_ife, ↓i_ife, ↓cd_idx, ↓pt_idx, ↓i_idx, ↓cd_slc, ↓pt_slc, ↓i_slc, ↓cd_rev, ↓pt_rev, ↓i_rev, ↓cd_call, ↓pt_call, ↓i_call, ↓cd_blt, ↓pt_blt, ↓i_blt, ↓cd_mth, ↓pt_mth, ↓i_mth, ↓cd_isin, ↓pt_isin, ↓i_isin, ↓cd_setlen, ↓pt_setlen, ↓i_setlen, ↓cd_lc, ↓pt_lc, ↓i_lc, s_seq, s_skip, s_pass, s_brk, s_cnt, s_retN, s_ret, s_ex, s_ite, s_ass, s_par, s_sub, s_app, s_frz, s_prm, e_con, e_glob, e_var, e_tup, e_lst, e_bin, e_neg, e_cmp, e_chain, e_isN, e_not, e_and, e_or, e_ife, e_idx, pt_nil, e_slc, e_rev, e_call, e_blt, e_mth, e_isin, e_setlen, cd_nil, i_one, t_t, r_nil, r_cons, rr_nil, rr_cons, lp_n, lp_c, cd_con, pt_con, i_con, cd_var, pt_var, i_var, cd_glob, pt_glob, i_glob, cd_tup, pt_tup, i_tup, cd_lst, pt_lst, i_lst, cd_bin, pt_bin, i_bin, cd_neg, pt_neg, i_neg, cd_cmp, pt_cmp, i_cmp, cd_chain, pt_chain, i_chain, cd_isN, pt_isN, i_isN, cd_not, pt_not, i_not, cd_and, pt_and, i_and, cd_or, pt_or, i_or, cd_ife, pt_ife, i_ife, cd_idx, pt_idx, i_idx, cd_slc, pt_slc, i_slc, cd_rev, pt_rev, i_rev, cd_call, pt_call, i_call, cd_blt, pt_blt, i_blt, cd_mth, pt_mth, i_mth, cd_isin, pt_isin, i_isin, cd_setlen, pt_setlen, i_setlen, cd_lc, pt_lc, i_lc, ↓e_lc, ↓s_for, e_lc, s_for, nxt_nx, nxt_rt, nxt_bk, nxt_ct, rtK_p, exK_p, iteK_t, iteK_f, nxO_e, assK_p, parK_p, subK3_p, subK2_p, subK1_p, subK_p, nx2_p, appK1_p, appK_p, okK_t, forL_p, frzK_o, frzK_s, prmK_o, prmK_s, varK_s, varK_o, tupK_p, lstK_p, wiK_a, binK1_p, binK_p, negK_i, blK_b, cmpK1_p, cmpK_p, chainK_t, chainK_f, chK1_p, chK_p, isNK_p, nblK_b, notK_p, andK_t, andK_f, anK_p, orK_t, orK_f, oK_p, ifeK_t, ifeK_f, ifK_p, idxK1_p, idxK_p, siK_i, aiK_p, slcK2_p, slcK1_p, slcK_p, revK_p, callE_p, bltK_p, mthK1_p, mthK0_t, mthK_p, isinK_p, slnK1_p, slnK0_p, slnK_p, soK_v, giK_p, trK1_b, trK_p, elK_t, elK_f, lcK1_p, lcK_p, tuK_p, itK1_p, itK2_p, itK_p, coK_p, rcK1_p, rcK_p, crK_p, rrK_p, l_tup, l_lst, l_kl, l_fr, l_br, g_pv, g_fr, d_lst, d_fr, d_br, d_str, d_int, d_bl, d_non, d_tup, tr_bl, tr_int, tr_non, tr_str, n_non, n_int, n_str, n_tup, n_lst, n_bl, n_ref, x_tup, x_lst, x_kl, x_fr, x_br, a_v, a_t, gt_pv, gt_fr, as_v, as_tt, as_tl, as_n, as_c, o_rtp, o_rtf, o_rtb, o_nx, lpK_nx, lpK_ct, lpK_bk, lpK_rt, foK_e, forK_p, itm_tup, itm_lst, itm_kl, itm_fr, itm_br, itm_etup, itm_elst, itm_ekl, itm_efr, itm_ebr, itm_r1, itm_r2, at_nat, at_0, at_1, at_2, at_3, at_4, at_5, at_6, at_7, p_ii, p_ss, p_tt, p_ff, p_bf, p_lf, p_fl, p_ll, p_bl, p_sub, p_mulL, p_mulR, p_divP, p_modP, p_pow, c_lt, c_le, c_gt, c_ge, eqK1_v, eqK2_v, c_eq, c_ne, c_in, c_ni, inK_v, in_tup, in_lst, in_kl, in_fr, in_br, f_abs, f_int, f_lenS, f_lent, f_lenl, f_lenk, f_lenf, f_lenb, f_listk, f_listl, f_listt, f_listf, f_tupl, f_tupt, f_tupf, f_tupb, f_all, f_any, anyK_b, f_sort1, f_sort1f, mo_il, mo_ib, mo_ik, mo_if, mo_cl, mo_cb, mo_cf, ixK0_n, ixMK_v, m_il, m_ib, m_if, coMK_v, m_cl, m_cb, m_cf, apo_s, apoK_o, apoK_r, boK_l, ap_s, apK_o, apK_r, bxK_l, gu_c, gu_e, ok_non, ok_bl, ok_int, catK_s, catK_n, turK_p, tu_n, tu_c, bo_n, bo_c, in_n, in_c, al_n, al_t, al_f, nu_n, nu_c, refK_l, x_ref, setK1_m, setK_l, set_ref, ixn_20, ixn_21, ixn_31, ixn_30, ixn_32, sl_tup, sl_lst, sl_fr, sl_br, rv_lst, rv_fr, rv_br, asI_i, b_some, m_some, List.getElem?_cons_succ, List.getElem?_cons_zero, List.getElem?_nil, List.set_cons_succ, List.set_cons_zero, List.length_cons, List.length_nil, lim, Nat.reduceAdd, Nat.reduceLeDiff, Int.reduceLT, Nat.reduceLT, Nat.lt_add_left_iff_pos, E.isNil, wipeE, Nat.zero_lt_succ, if_true, if_false, Bool.true_bne, Bool.false_bne, bne_self_eq_false, Bool.not_true, Bool.not_false, Bool.not_not, Bool.bne_false, Bool.bne_true]
  | some t =>
    have ht := gr.t t rfl
    have ot : okD (.str t) = true := ok_str ht
    have h1 : ∀ s0 s1 s3 s4 s5 s6 s7 : Sl, turns (lcK (callK G.ds k) [5, 6] (.idx (.var 6) (.con (.int 1))) (.t (.cons (.v 5) (.cons (.v 6) .nil))) (.cmp .NotEq (.var 5) (.var 2)) [s0, s1, .sh (.int i), s3, s4, s5, s6, s7]) (numbered 0 (rs.map cell)) h = some ((others rs i).map tp, h) := fun s0 s1 s3 s4 s5 s6 s7 => by
      rw [numbered_map, turns_map (g := fun p => if p.2 = i then none else some (tp p.1.told))]
      · unfold others
        rw [List.map_filterMap]
        congr 2
        congr 1
        funext p
        by_cases c : p.2 = i <;> simp [c]
      · intro p _
        obtain ⟨⟨nm, td, kd, re⟩, j⟩ := p
        have e : pvEq (.int (j : Int)) (.int (i : Int)) = decide (j = i) := by
          show ((j : Int) == (i : Int)) = _
          by_cases c : j = i
          · subst c; simp
          · simp only [c, decide_false, beq_eq_false_iff_ne]; omega
        by_cases c : j = i
        · subst c
          have e' : pvEq (.int (j : Int)) (.int (j : Int)) = true := by simp [pvEq]
          simp only [lcK_p, cell, e', ↓s_seq, ↓s_skip, ↓s_pass, ↓s_brk, ↓s_cnt, ↓s_retN, ↓s_ret, ↓s_ex, ↓s_ite, ↓s_ass, ↓s_par, ↓s_sub, ↓s_app, ↓s_frz, ↓s_prm, ↓e_con, ↓e_glob, ↓e_var, ↓e_tup, ↓e_lst, ↓e_bin, ↓e_neg, ↓e_cmp, ↓e_chain, ↓e_isN, ↓e_not, ↓e_and, ↓e_or, ↓e_ife, ↓e_idx, ↓pt_nil, ↓e_slc, ↓e_rev, ↓e_call, ↓e_blt, ↓e_mth, ↓e_isin, ↓e_setlen, ↓cd_nil, ↓i_one, ↓t_t, ↓r_nil, ↓r_cons, ↓rr_nil, ↓rr_cons, ↓lp_n, ↓lp_c, ↓cd_con, ↓pt_con, ↓i_con, ↓cd_var, ↓pt_var, ↓i_var, ↓cd_glob, ↓pt_glob, ↓i_glob, ↓cd_tup, ↓pt_tup, ↓i_tup, ↓cd_lst, ↓pt_lst, ↓i_lst, ↓cd_bin, ↓pt_bin, ↓i_bin, ↓cd_neg, ↓pt_neg, ↓i_neg, ↓cd_cmp, ↓pt_cmp, ↓i_cmp, ↓cd_chain, ↓pt_chain, ↓i_chain, ↓cd_isN, ↓pt_isN, ↓i_isN, ↓cd_not, ↓pt_not, ↓i_not, ↓cd_and, ↓pt_and, ↓i_and, ↓cd_or, ↓pt_or, ↓i_or, ↓cd_ife, ↓pt_ife, ↓i_ife, ↓cd_idx, ↓pt_idx, ↓i_idx, ↓cd_slc, ↓pt_slc, ↓i_slc, ↓cd_rev, ↓pt_rev, ↓i_rev, ↓cd_call, ↓pt_call, ↓i_call, ↓cd_blt, ↓pt_blt, ↓i_blt, ↓cd_mth, ↓pt_mth, ↓i_mth, ↓cd_isin, ↓pt_isin, ↓i_isin, ↓cd_setlen, ↓pt_setlen, ↓i_setlen, ↓cd_lc, ↓pt_lc, ↓i_lc, s_seq, s_skip, s_pass, s_brk, s_cnt, s_retN, s_ret, s_ex, s_ite, s_ass, s_par, s_sub, s_app, s_frz, s_prm, e_con, e_glob, e_var, e_tup, e_lst, e_bin, e_neg, e_cmp, e_chain, e_isN, e_not, e_and, e_or, e_ife, e_idx, pt_nil, e_slc, e_rev, e_call, e_blt, e_mth, e_isin, e_setlen, cd_nil, i_one, t_t, r_nil, r_cons, rr_nil, rr_cons, lp_n, lp_c, cd_con, pt_con, i_con, cd_var, pt_var, i_var, cd_glob, pt_glob, i_glob, cd_tup, pt_tup, i_tup, cd_lst, pt_lst, i_lst, cd_bin, pt_bin, i_bin, cd_neg, pt_neg, i_neg, cd_cmp, pt_cmp, i_cmp, cd_chain, pt_chain, i_chain, cd_isN, pt_isN, i_isN, cd_not, pt_not, i_not, cd_and, pt_and, i_and, cd_or, pt_or, i_or, cd_ife, pt_ife, i_ife, cd_idx, pt_idx, i_idx, cd_slc, pt_slc, i_slc, cd_rev, pt_rev, i_rev, cd_call, pt_call, i_call, cd_blt, pt_blt, i_blt, cd_mth, pt_mth, i_mth, cd_isin, pt_isin, i_isin, cd_setlen, pt_setlen, i_setlen, cd_lc, pt_lc, i_lc, ↓e_lc, ↓s_for, e_lc, s_for, nxt_nx, nxt_rt, nxt_bk, nxt_ct, rtK_p, exK_p, iteK_t, iteK_f, nxO_e, assK_p, parK_p, subK3_p, subK2_p, subK1_p, subK_p, nx2_p, appK1_p, appK_p, okK_t, forL_p, frzK_o, frzK_s, prmK_o, prmK_s, varK_s, varK_o, tupK_p, lstK_p, wiK_a, binK1_p, binK_p, negK_i, blK_b, cmpK1_p, cmpK_p, chainK_t, chainK_f, chK1_p, chK_p, isNK_p, nblK_b, notK_p, andK_t, andK_f, anK_p, orK_t, orK_f, oK_p, ifeK_t, ifeK_f, ifK_p, idxK1_p, idxK_p, siK_i, aiK_p, slcK2_p, slcK1_p, slcK_p, revK_p, callE_p, bltK_p, mthK1_p, mthK0_t, mthK_p, isinK_p, slnK1_p, slnK0_p, slnK_p, soK_v, giK_p, trK1_b, trK_p, elK_t, elK_f, lcK1_p, lcK_p, tuK_p, itK1_p, itK2_p, itK_p, coK_p, rcK1_p, rcK_p, crK_p, rrK_p, l_tup, l_lst, l_kl, l_fr, l_br, g_pv, g_fr, d_lst, d_fr, d_br, d_str, d_int, d_bl, d_non, d_tup, tr_bl, tr_int, tr_non, tr_str, n_non, n_int, n_str, n_tup, n_lst, n_bl, n_ref, x_tup, x_lst, x_kl, x_fr, x_br, a_v, a_t, gt_pv, gt_fr, as_v, as_tt, as_tl, as_n, as_c, o_rtp, o_rtf, o_rtb, o_nx, lpK_nx, lpK_ct, lpK_bk, lpK_rt, foK_e, forK_p, itm_tup, itm_lst, itm_kl, itm_fr, itm_br, itm_etup, itm_elst, itm_ekl, itm_efr, itm_ebr, itm_r1, itm_r2, at_nat, at_0, at_1, at_2, at_3, at_4, at_5, at_6, at_7, p_ii, p_ss, p_tt, p_ff, p_bf, p_lf, p_fl, p_ll, p_bl, p_sub, p_mulL, p_mulR, p_divP, p_modP, p_pow, c_lt, c_le, c_gt, c_ge, eqK1_v, eqK2_v, c_eq, c_ne, c_in, c_ni, inK_v, in_tup, in_lst, in_kl, in_fr, in_br, f_abs, f_int, f_lenS, f_lent, f_lenl, f_lenk, f_lenf, f_lenb, f_listk, f_listl, f_listt, f_listf, f_tupl, f_tupt, f_tupf, f_tupb, f_all, f_any, anyK_b, f_sort1, f_sort1f, mo_il, mo_ib, mo_ik, mo_if, mo_cl, mo_cb, mo_cf, ixK0_n, ixMK_v, m_il, m_ib, m_if, coMK_v, m_cl, m_cb, m_cf, apo_s, apoK_o, apoK_r, boK_l, ap_s, apK_o, apK_r, bxK_l, gu_c, gu_e, ok_non, ok_bl, ok_int, catK_s, catK_n, turK_p, tu_n, tu_c, bo_n, bo_c, in_n, in_c, al_n, al_t, al_f, nu_n, nu_c, refK_l, x_ref, setK1_m, setK_l, set_ref, ixn_20, ixn_21, ixn_31, ixn_30, ixn_32, sl_tup, sl_lst, sl_fr, sl_br, rv_lst, rv_fr, rv_br, asI_i, b_some, m_some, List.getElem?_cons_succ, List.getElem?_cons_zero, List.getElem?_nil, List.set_cons_succ, List.set_cons_zero, List.length_cons, List.length_nil, lim, Nat.reduceAdd, Nat.reduceLeDiff, Int.reduceLT, Nat.reduceLT, Nat.lt_add_left_iff_pos, E.isNil, wipeE, Nat.zero_lt_succ, if_true, if_false, Bool.true_bne, Bool.false_bne, bne_self_eq_false, Bool.not_true, Bool.not_false, Bool.not_not, Bool.bne_false, Bool.bne_true]
        · simp only [lcK_p, cell, e, c, decide_false, ↓s_seq, ↓s_skip, ↓s_pass, ↓s_brk, ↓s_cnt, ↓s_retN, ↓s_ret, ↓s_ex, ↓s_ite, ↓s_ass, ↓s_par, ↓s_sub, ↓s_app, ↓s_frz, ↓s_prm, ↓e_con, ↓e_glob, ↓e_var, ↓e_tup, ↓e_lst, ↓e_bin, ↓e_neg, ↓e_cmp, ↓e_chain, ↓e_isN, ↓e_not, ↓e_and, ↓e_or, ↓e_ife, ↓e_idx, ↓pt_nil, ↓e_slc, ↓e_rev, ↓e_call, ↓e_blt, ↓e_mth, ↓e_isin, ↓e_setlen, ↓cd_nil, ↓i_one, ↓t_t, ↓r_nil, ↓r_cons, ↓rr_nil, ↓rr_cons, ↓lp_n, ↓lp_c, ↓cd_con, ↓pt_con, ↓i_con, ↓cd_var, ↓pt_var, ↓i_var, ↓cd_glob, ↓pt_glob, ↓i_glob, ↓cd_tup, ↓pt_tup, ↓i_tup, ↓cd_lst, ↓pt_lst, ↓i_lst, ↓cd_bin, ↓pt_bin, ↓i_bin, ↓cd_neg, ↓pt_neg, ↓i_neg, ↓cd_cmp, ↓pt_cmp, ↓i_cmp, ↓cd_chain, ↓pt_chain, ↓i_chain, ↓cd_isN, ↓pt_isN, ↓i_isN, ↓cd_not, ↓pt_not, ↓i_not, ↓cd_and, ↓pt_and, ↓i_and, ↓cd_or, ↓pt_or, ↓i_or, ↓cd_ife, ↓pt_ife, ↓i_ife, ↓cd_idx, ↓pt_idx, ↓i_idx, ↓cd_slc, ↓pt_slc, ↓i_slc, ↓cd_rev, ↓pt_rev, ↓i_rev, ↓cd_call, ↓pt_call, ↓i_call, ↓cd_blt, ↓pt_blt, ↓i_blt, ↓cd_mth, ↓pt_mth, ↓i_mth, ↓cd_isin, ↓pt_isin, ↓i_isin, ↓cd_setlen, ↓pt_setlen, ↓i_setlen, ↓cd_lc, ↓pt_lc, ↓i_lc, s_seq, s_skip, s_pass, s_brk, s_cnt, s_retN, s_ret, s_ex, s_ite, s_ass, s_par, s_sub, s_app, s_frz, s_prm, e_con, e_glob, e_var, e_tup, e_lst, e_bin, e_neg, e_cmp, e_chain, e_isN, e_not, e_and, e_or, e_ife, e_idx, pt_nil, e_slc, e_rev, e_call, e_blt, e_mth, e_isin, e_setlen, cd_nil, i_one, t_t, r_nil, r_cons, rr_nil, rr_cons, lp_n, lp_c, cd_con, pt_con, i_con, cd_var, pt_var, i_var, cd_glob, pt_glob, i_glob, cd_tup, pt_tup, i_tup, cd_lst, pt_lst, i_lst, cd_bin, pt_bin, i_bin, cd_neg, pt_neg, i_neg, cd_cmp, pt_cmp, i_cmp, cd_chain, pt_chain, i_chain, cd_isN, pt_isN, i_isN, cd_not, pt_not, i_not, cd_and, pt_and, i_and, cd_or, pt_or, i_or, cd_ife, pt_ife, i_ife, cd_idx, pt_idx, i_idx, cd_slc, pt_slc, i_slc, cd_rev, pt_rev, i_rev, cd_call, pt_call, i_call, cd_blt, pt_blt, i_blt, cd_mth, pt_mth, i_mth, cd_isin, pt_isin, i_isin, cd_setlen, pt_setlen, i_setlen, cd_lc, pt_lc, i_lc, ↓e_lc, ↓s_for, e_lc, s_for, nxt_nx, nxt_rt, nxt_bk, nxt_ct, rtK_p, exK_p, iteK_t, iteK_f, nxO_e, assK_p, parK_p, subK3_p, subK2_p, subK1_p, subK_p, nx2_p, appK1_p, appK_p, okK_t, forL_p, frzK_o, frzK_s, prmK_o, prmK_s, varK_s, varK_o, tupK_p, lstK_p, wiK_a, binK1_p, binK_p, negK_i, blK_b, cmpK1_p, cmpK_p, chainK_t, chainK_f, chK1_p, chK_p, isNK_p, nblK_b, notK_p, andK_t, andK_f, anK_p, orK_t, orK_f, oK_p, ifeK_t, ifeK_f, ifK_p, idxK1_p, idxK_p, siK_i, aiK_p, slcK2_p, slcK1_p, slcK_p, revK_p, callE_p, bltK_p, mthK1_p, mthK0_t, mthK_p, isinK_p, slnK1_p, slnK0_p, slnK_p, soK_v, giK_p, trK1_b, trK_p, elK_t, elK_f, lcK1_p, lcK_p, tuK_p, itK1_p, itK2_p, itK_p, coK_p, rcK1_p, rcK_p, crK_p, rrK_p, l_tup, l_lst, l_kl, l_fr, l_br, g_pv, g_fr, d_lst, d_fr, d_br, d_str, d_int, d_bl, d_non, d_tup, tr_bl, tr_int, tr_non, tr_str, n_non, n_int, n_str, n_tup, n_lst, n_bl, n_ref, x_tup, x_lst, x_kl, x_fr, x_br, a_v, a_t, gt_pv, gt_fr, as_v, as_tt, as_tl, as_n, as_c, o_rtp, o_rtf, o_rtb, o_nx, lpK_nx, lpK_ct, lpK_bk, lpK_rt, foK_e, forK_p, itm_tup, itm_lst, itm_kl, itm_fr, itm_br, itm_etup, itm_elst, itm_ekl, itm_efr, itm_ebr, itm_r1, itm_r2, at_nat, at_0, at_1, at_2, at_3, at_4, at_5, at_6, at_7, p_ii, p_ss, p_tt, p_ff, p_bf, p_lf, p_fl, p_ll, p_bl, p_sub, p_mulL, p_mulR, p_divP, p_modP, p_pow, c_lt, c_le, c_gt, c_ge, eqK1_v, eqK2_v, c_eq, c_ne, c_in, c_ni, inK_v, in_tup, in_lst, in_kl, in_fr, in_br, f_abs, f_int, f_lenS, f_lent, f_lenl, f_lenk, f_lenf, f_lenb, f_listk, f_listl, f_listt, f_listf, f_tupl, f_tupt, f_tupf, f_tupb, f_all, f_any, anyK_b, f_sort1, f_sort1f, mo_il, mo_ib, mo_ik, mo_if, mo_cl, mo_cb, mo_cf, ixK0_n, ixMK_v, m_il, m_ib, m_if, coMK_v, m_cl, m_cb, m_cf, apo_s, apoK_o, apoK_r, boK_l, ap_s, apK_o, apK_r, bxK_l, gu_c, gu_e, ok_non, ok_bl, ok_int, catK_s, catK_n, turK_p, tu_n, tu_c, bo_n, bo_c, in_n, in_c, al_n, al_t, al_f, nu_n, nu_c, refK_l, x_ref, setK1_m, setK_l, set_ref, ixn_20, ixn_21, ixn_31, ixn_30, ixn_32, sl_tup, sl_lst, sl_fr, sl_br, rv_lst, rv_fr, rv_br, asI_i, b_some, m_some, List.getElem?_cons_succ, List.getElem?_cons_zero, List.getElem?_nil, List.set_cons_succ, List.set_cons_zero, List.length_cons, List.length_nil, lim, Nat.reduceAdd, Nat.reduceLeDiff, Int.reduceLT, Nat.reduceLT, Nat.lt_add_left_iff_pos, E.isNil, wipeE, Nat.zero_lt_succ, if_true, if_false, Bool.true_bne, Bool.false_bne, bne_self_eq_false, Bool.not_true, Bool.not_false, Bool.not_not, Bool.bne_false, Bool.bne_true]
    have h2 : ∀ s0 s1 s2 s3 s4 s5 s6 s7 : Sl, turns (lcK (callK G.ds k) [6] (.idx (.var 6) (.con (.int 0))) (.v 6) .nil [s0, s1, s2, s3, s4, s5, s6, s7]) (rs.map cell) h = some (rs.map fun e => PV.str e.name, h) := fun s0 s1 s2 s3 s4 s5 s6 s7 =>
      turns_all rs h fun e _ => by
        obtain ⟨nm, td, kd, re⟩ := e
        simp only [lcK_p, cell, ↓s_seq, ↓s_skip, ↓s_pass, ↓s_brk, ↓s_cnt, ↓s_retN, ↓s_ret, ↓s_ex, ↓s_ite, ↓s_ass, ↓s_par, ↓s_sub, ↓s_app, ↓s_frz, ↓s_prm, ↓e_con, ↓e_glob, ↓e_var, ↓e_tup, ↓e_lst, ↓e_bin, ↓e_neg, ↓e_cmp, ↓e_chain, ↓e_isN, ↓e_not, ↓e_and, ↓e_or, ↓e_ife, ↓e_idx, ↓pt_nil, ↓e_slc, ↓e_rev, ↓e_call, ↓e_blt, ↓e_mth, ↓e_isin, ↓e_setlen, ↓cd_nil, ↓i_one, ↓t_t, ↓r_nil, ↓r_cons, ↓rr_nil, ↓rr_cons, ↓lp_n, ↓lp_c, ↓cd_con, ↓pt_con, ↓i_con, ↓cd_var, ↓pt_var, ↓i_var, ↓cd_glob, ↓pt_glob, ↓i_glob, ↓cd_tup, ↓pt_tup, ↓i_tup, ↓cd_lst, ↓pt_lst, ↓i_lst, ↓cd_bin, ↓pt_bin, ↓i_bin, ↓cd_neg, ↓pt_neg, ↓i_neg, ↓cd_cmp, ↓pt_cmp, ↓i_cmp, ↓cd_chain, ↓pt_chain, ↓i_chain, ↓cd_isN, ↓pt_isN, ↓i_isN, ↓cd_not, ↓pt_not, ↓i_not, ↓cd_and, ↓pt_and, ↓i_and, ↓cd_or, ↓pt_or, ↓i_or, ↓cd_ife, ↓pt_ife, ↓i_ife, ↓cd_idx, ↓pt_idx, ↓i_idx, ↓cd_slc, ↓pt_slc, ↓i_slc, ↓cd_rev, ↓pt_rev, ↓i_rev, ↓cd_call, ↓pt_call, ↓i_call, ↓cd_blt, ↓pt_blt, ↓i_blt, ↓cd_mth, ↓pt_mth, ↓i_mth, ↓cd_isin, ↓pt_isin, ↓i_isin, ↓cd_setlen, ↓pt_setlen, ↓i_setlen, ↓cd_lc, ↓pt_lc, ↓i_lc, s_seq, s_skip, s_pass, s_brk, s_cnt, s_retN, s_ret, s_ex, s_ite, s_ass, s_par, s_sub, s_app, s_frz, s_prm, e_con, e_glob, e_var, e_tup, e_lst, e_bin, e_neg, e_cmp, e_chain, e_isN, e_not, e_and, e_or, e_ife, e_idx, pt_nil, e_slc, e_rev, e_call, e_blt, e_mth, e_isin, e_setlen, cd_nil, i_one, t_t, r_nil, r_cons, rr_nil, rr_cons, lp_n, lp_c, cd_con, pt_con, i_con, cd_var, pt_var, i_var, cd_glob, pt_glob, i_glob, cd_tup, pt_tup, i_tup, cd_lst, pt_lst, i_lst, cd_bin, pt_bin, i_bin, cd_neg, pt_neg, i_neg, cd_cmp, pt_cmp, i_cmp, cd_chain, pt_chain, i_chain, cd_isN, pt_isN, i_isN, cd_not, pt_not, i_not, cd_and, pt_and, i_and, cd_or, pt_or, i_or, cd_ife, pt_ife, i_ife, cd_idx, pt_idx, i_idx, cd_slc, pt_slc, i_slc, cd_rev, pt_rev, i_rev, cd_call, pt_call, i_call, cd_blt, pt_blt, i_blt, cd_mth, pt_mth, i_mth, cd_isin, pt_isin, i_isin, cd_setlen, pt_setlen, i_setlen, cd_lc, pt_lc, i_lc, ↓e_lc, ↓s_for, e_lc, s_for, nxt_nx, nxt_rt, nxt_bk, nxt_ct, rtK_p, exK_p, iteK_t, iteK_f, nxO_e, assK_p, parK_p, subK3_p, subK2_p, subK1_p, subK_p, nx2_p, appK1_p, appK_p, okK_t, forL_p, frzK_o, frzK_s, prmK_o, prmK_s, varK_s, varK_o, tupK_p, lstK_p, wiK_a, binK1_p, binK_p, negK_i, blK_b, cmpK1_p, cmpK_p, chainK_t, chainK_f, chK1_p, chK_p, isNK_p, nblK_b, notK_p, andK_t, andK_f, anK_p, orK_t, orK_f, oK_p, ifeK_t, ifeK_f, ifK_p, idxK1_p, idxK_p, siK_i, aiK_p, slcK2_p, slcK1_p, slcK_p, revK_p, callE_p, bltK_p, mthK1_p, mthK0_t, mthK_p, isinK_p, slnK1_p, slnK0_p, slnK_p, soK_v, giK_p, trK1_b, trK_p, elK_t, elK_f, lcK1_p, lcK_p, tuK_p, itK1_p, itK2_p, itK_p, coK_p, rcK1_p, rcK_p, crK_p, rrK_p, l_tup, l_lst, l_kl, l_fr, l_br, g_pv, g_fr, d_lst, d_fr, d_br, d_str, d_int, d_bl, d_non, d_tup, tr_bl, tr_int, tr_non, tr_str, n_non, n_int, n_str, n_tup, n_lst, n_bl, n_ref, x_tup, x_lst, x_kl, x_fr, x_br, a_v, a_t, gt_pv, gt_fr, as_v, as_tt, as_tl, as_n, as_c, o_rtp, o_rtf, o_rtb, o_nx, lpK_nx, lpK_ct, lpK_bk, lpK_rt, foK_e, forK_p, itm_tup, itm_lst, itm_kl, itm_fr, itm_br, itm_etup, itm_elst, itm_ekl, itm_efr, itm_ebr, itm_r1, itm_r2, at_nat, at_0, at_1, at_2, at_3, at_4, at_5, at_6, at_7, p_ii, p_ss, p_tt, p_ff, p_bf, p_lf, p_fl, p_ll, p_bl, p_sub, p_mulL, p_mulR, p_divP, p_modP, p_pow, c_lt, c_le, c_gt, c_ge, eqK1_v, eqK2_v, c_eq, c_ne, c_in, c_ni, inK_v, in_tup, in_lst, in_kl, in_fr, in_br, f_abs, f_int, f_lenS, f_lent, f_lenl, f_lenk, f_lenf, f_lenb, f_listk, f_listl, f_listt, f_listf, f_tupl, f_tupt, f_tupf, f_tupb, f_all, f_any, anyK_b, f_sort1, f_sort1f, mo_il, mo_ib, mo_ik, mo_if, mo_cl, mo_cb, mo_cf, ixK0_n, ixMK_v, m_il, m_ib, m_if, coMK_v, m_cl, m_cb, m_cf, apo_s, apoK_o, apoK_r, boK_l, ap_s, apK_o, apK_r, bxK_l, gu_c, gu_e, ok_non, ok_bl, ok_int, catK_s, catK_n, turK_p, tu_n, tu_c, bo_n, bo_c, in_n, in_c, al_n, al_t, al_f, nu_n, nu_c, refK_l, x_ref, setK1_m, setK_l, set_ref, ixn_20, ixn_21, ixn_31, ixn_30, ixn_32, sl_tup, sl_lst, sl_fr, sl_br, rv_lst, rv_fr, rv_br, asI_i, b_some, m_some, List.getElem?_cons_succ, List.getElem?_cons_zero, List.getElem?_nil, List.set_cons_succ, List.set_cons_zero, List.length_cons, List.length_nil, lim, Nat.reduceAdd, Nat.reduceLeDiff, Int.reduceLT, Nat.reduceLT, Nat.lt_add_left_iff_pos, E.isNil, wipeE, Nat.zero_lt_succ, if_true, if_false, Bool.true_bne, Bool.false_bne, bne_self_eq_false, Bool.not_true, Bool.not_false, Bool.not_not, Bool.bne_false, Bool.bne_true]
    have h3 : ∀ s0 s1 s2 s3 s4 s5 s6 s7 : Sl, turns (lcK (callK G.ds k) [7] (.idx (.var 7) (.con (.int 0))) (.v 7) .nil [s0, s1, s2, s3, s4, s5, s6, s7]) (el.map cell) h = some (el.map fun e => PV.str e.name, h) := fun s0 s1 s2 s3 s4 s5 s6 s7 =>
      turns_all el h fun e _ => by
        obtain ⟨nm, td, kd, re⟩ := e
        simp only [lcK_p, cell, ↓s_seq, ↓s_skip, ↓s_pass, ↓s_brk, ↓s_cnt, ↓s_retN, ↓s_ret, ↓s_ex, ↓s_ite, ↓s_ass, ↓s_par, ↓s_sub, ↓s_app, ↓s_frz, ↓s_prm, ↓e_con, ↓e_glob, ↓e_var, ↓e_tup, ↓e_lst, ↓e_bin, ↓e_neg, ↓e_cmp, ↓e_chain, ↓e_isN, ↓e_not, ↓e_and, ↓e_or, ↓e_ife, ↓e_idx, ↓pt_nil, ↓e_slc, ↓e_rev, ↓e_call, ↓e_blt, ↓e_mth, ↓e_isin, ↓e_setlen, ↓cd_nil, ↓i_one, ↓t_t, ↓r_nil, ↓r_cons, ↓rr_nil, ↓rr_cons, ↓lp_n, ↓lp_c, ↓cd_con, ↓pt_con, ↓i_con, ↓cd_var, ↓pt_var, ↓i_var, ↓cd_glob, ↓pt_glob, ↓i_glob, ↓cd_tup, ↓pt_tup, ↓i_tup, ↓cd_lst, ↓pt_lst, ↓i_lst, ↓cd_bin, ↓pt_bin, ↓i_bin, ↓cd_neg, ↓pt_neg, ↓i_neg, ↓cd_cmp, ↓pt_cmp, ↓i_cmp, ↓cd_chain, ↓pt_chain, ↓i_chain, ↓cd_isN, ↓pt_isN, ↓i_isN, ↓cd_not, ↓pt_not, ↓i_not, ↓cd_and, ↓pt_and, ↓i_and, ↓cd_or, ↓pt_or, ↓i_or, ↓cd_ife, ↓pt_ife, ↓i_ife, ↓cd_idx, ↓pt_idx, ↓i_idx, ↓cd_slc, ↓pt_slc, ↓i_slc, ↓cd_rev, ↓pt_rev, ↓i_rev, ↓cd_call, ↓pt_call, ↓i_call, ↓cd_blt, ↓pt_blt, ↓i_blt, ↓cd_mth, ↓pt_mth, ↓i_mth, ↓cd_isin, ↓pt_isin, ↓i_isin, ↓cd_setlen, ↓pt_setlen, ↓i_setlen, ↓cd_lc, ↓pt_lc, ↓i_lc, s_seq, s_skip, s_pass, s_brk, s_cnt, s_retN, s_ret, s_ex, s_ite, s_ass, s_par, s_sub, s_app, s_frz, s_prm, e_con, e_glob, e_var, e_tup, e_lst, e_bin, e_neg, e_cmp, e_chain, e_isN, e_not, e_and, e_or, e_ife, e_idx, pt_nil, e_slc, e_rev, e_call, e_blt, e_mth, e_isin, e_setlen, cd_nil, i_one, t_t, r_nil, r_cons, rr_nil, rr_cons, lp_n, lp_c, cd_con, pt_con, i_con, cd_var, pt_var, i_var, cd_glob, pt_glob, i_glob, cd_tup, pt_tup, i_tup, cd_lst, pt_lst, i_lst, cd_bin, pt_bin, i_bin, cd_neg, pt_neg, i_neg, cd_cmp, pt_cmp, i_cmp, cd_chain, pt_chain, i_chain, cd_isN, pt_isN, i_isN, cd_not, pt_not, i_not, cd_and, pt_and, i_and, cd_or, pt_or, i_or, cd_ife, pt_ife, i_ife, cd_idx, pt_idx, i_idx, cd_slc, pt_slc, i_slc, cd_rev, pt_rev, i_rev, cd_call, pt_call, i_call, cd_blt, pt_blt, i_blt, cd_mth, pt_mth, i_mth, cd_isin, pt_isin, i_isin, cd_setlen, pt_setlen, i_setlen, cd_lc, pt_lc, i_lc, ↓e_lc, ↓s_for, e_lc, s_for, nxt_nx, nxt_rt, nxt_bk, nxt_ct, rtK_p, exK_p, iteK_t, iteK_f, nxO_e, assK_p, parK_p, subK3_p, subK2_p, subK1_p, subK_p, nx2_p, appK1_p, appK_p, okK_t, forL_p, frzK_o, frzK_s, prmK_o, prmK_s, varK_s, varK_o, tupK_p, lstK_p, wiK_a, binK1_p, binK_p, negK_i, blK_b, cmpK1_p, cmpK_p, chainK_t, chainK_f, chK1_p, chK_p, isNK_p, nblK_b, notK_p, andK_t, andK_f, anK_p, orK_t, orK_f, oK_p, ifeK_t, ifeK_f, ifK_p, idxK1_p, idxK_p, siK_i, aiK_p, slcK2_p, slcK1_p, slcK_p, revK_p, callE_p, bltK_p, mthK1_p, mthK0_t, mthK_p, isinK_p, slnK1_p, slnK0_p, slnK_p, soK_v, giK_p, trK1_b, trK_p, elK_t, elK_f, lcK1_p, lcK_p, tuK_p, itK1_p, itK2_p, itK_p, coK_p, rcK1_p, rcK_p, crK_p, rrK_p, l_tup, l_lst, l_kl, l_fr, l_br, g_pv, g_fr, d_lst, d_fr, d_br, d_str, d_int, d_bl, d_non, d_tup, tr_bl, tr_int, tr_non, tr_str, n_non, n_int, n_str, n_tup, n_lst, n_bl, n_ref, x_tup, x_lst, x_kl, x_fr, x_br, a_v, a_t, gt_pv, gt_fr, as_v, as_tt, as_tl, as_n, as_c, o_rtp, o_rtf, o_rtb, o_nx, lpK_nx, lpK_ct, lpK_bk, lpK_rt, foK_e, forK_p, itm_tup, itm_lst, itm_kl, itm_fr, itm_br, itm_etup, itm_elst, itm_ekl, itm_efr, itm_ebr, itm_r1, itm_r2, at_nat, at_0, at_1, at_2, at_3, at_4, at_5, at_6, at_7, p_ii, p_ss, p_tt, p_ff, p_bf, p_lf, p_fl, p_ll, p_bl, p_sub, p_mulL, p_mulR, p_divP, p_modP, p_pow, c_lt, c_le, c_gt, c_ge, eqK1_v, eqK2_v, c_eq, c_ne, c_in, c_ni, inK_v, in_tup, in_lst, in_kl, in_fr, in_br, f_abs, f_int, f_lenS, f_lent, f_lenl, f_lenk, f_lenf, f_lenb, f_listk, f_listl, f_listt, f_listf, f_tupl, f_tupt, f_tupf, f_tupb, f_all, f_any, anyK_b, f_sort1, f_sort1f, mo_il, mo_ib, mo_ik, mo_if, mo_cl, mo_cb, mo_cf, ixK0_n, ixMK_v, m_il, m_ib, m_if, coMK_v, m_cl, m_cb, m_cf, apo_s, apoK_o, apoK_r, boK_l, ap_s, apK_o, apK_r, bxK_l, gu_c, gu_e, ok_non, ok_bl, ok_int, catK_s, catK_n, turK_p, tu_n, tu_c, bo_n, bo_c, in_n, in_c, al_n, al_t, al_f, nu_n, nu_c, refK_l, x_ref, setK1_m, setK_l, set_ref, ixn_20, ixn_21, ixn_31, ixn_30, ixn_32, sl_tup, sl_lst, sl_fr, sl_br, rv_lst, rv_fr, rv_br, asI_i, b_some, m_some, List.getElem?_cons_succ, List.getElem?_cons_zero, List.getElem?_nil, List.set_cons_succ, List.set_cons_zero, List.length_cons, List.length_nil, lim, Nat.reduceAdd, Nat.reduceLeDiff, Int.reduceLT, Nat.reduceLT, Nat.lt_add_left_iff_pos, E.isNil, wipeE, Nat.zero_lt_succ, if_true, if_false, Bool.true_bne, Bool.false_bne, bne_self_eq_false, Bool.not_true, Bool.not_false, Bool.not_not, Bool.bne_false, Bool.bne_true]
    have l1 : ((others rs i).map tp).length ≤ 16777216 := by
      rw [List.length_map]
      have : (others rs i).length ≤ rs.zipIdx.length := List.length_filterMap_le _ _
      rw [List.length_zipIdx] at this
      omega
    have l2 : (rs.map fun e => PV.str e.name).length ≤ 16777216 := by rw [List.length_map]; omega
    have l3 : (el.map fun e => PV.str e.name).length ≤ 16777216 := by rw [List.length_map]; omega
    have oo : okD (.lst ((others rs i).map tp)) = true := ok_tps fun o mo t e => by
      subst e
      unfold others at mo
      obtain ⟨p, mp, e⟩ := List.mem_filterMap.mp mo
      split at e
      · cases e
      · exact (hrs p.1 (List.mem_of_getElem? (List.mem_zipIdx_iff_getElem?.mp mp))).t t (Option.some.inj e)
    have any1 : ((others rs i).map tp).any (fun z => pvEq z (.str t)) = (others rs i).any (· == some t) := by
      rw [List.any_map]
      congr 1
      funext o
      exact tp_eq
    have any2 : ∀ l : List Row, (l.map fun e => PV.str e.name).any (fun z => pvEq z (.str t)) = l.any fun r => r.name == t := fun l => by
      rw [List.any_map]
      rfl
    simp only [k_is_wrong, b_is_wrong, w_is_wrong_0, e_is_wrong_0, e_is_wrong_1, e_is_wrong_2, hx, cell, tp_n, tp_s, wrong, h1, h2, h3, l1, l2, l3, oo, ok_names hel, ok_names hrs, ot, any1, any2, ↓s_seq, ↓s_skip, ↓s_pass, ↓s_brk, ↓s_cnt, ↓s_retN, ↓s_ret, ↓s_ex, ↓s_ite, ↓s_ass, ↓s_par, ↓s_sub, ↓s_app, ↓s_frz, ↓s_prm, ↓e_con, ↓e_glob, ↓e_var, ↓e_tup, ↓e_lst, ↓e_bin, ↓e_neg, ↓e_cmp, ↓e_chain, ↓e_isN, ↓e_not, ↓e_and, ↓e_or, ↓e_ife, ↓e_idx, ↓pt_nil, ↓e_slc, ↓e_rev, ↓e_call, ↓e_blt, ↓e_mth, ↓e_isin, ↓e_setlen, ↓cd_nil, ↓i_one, ↓t_t, ↓r_nil, ↓r_cons, ↓rr_nil, ↓rr_cons, ↓lp_n, ↓lp_c, ↓cd_con, ↓pt_con, ↓i_con, ↓cd_var, ↓pt_var, ↓i_var, ↓cd_glob, ↓pt_glob, ↓i_glob, ↓cd_tup, ↓pt_tup, ↓i_tup, ↓cd_lst, ↓pt_lst, ↓i_lst, ↓cd_bin, ↓pt_bin, ↓i_bin, ↓cd_neg, ↓pt_neg, ↓i_neg, ↓cd_cmp, ↓pt_cmp, ↓i_cmp, ↓cd_chain, ↓pt_chain, ↓i_chain, ↓cd_isN, ↓pt_isN, ↓i_isN, ↓cd_not, ↓pt_not, ↓i_not, ↓cd_and, ↓pt_and, ↓i_and, ↓cd_or, ↓pt_or, ↓i_or, ↓cd_ife, ↓pt_ife, ↓i_ife, ↓cd_idx, ↓pt_idx, ↓i_idx, ↓cd_slc, ↓pt_slc, ↓i_slc, ↓cd_rev, ↓pt_rev, ↓i_rev, ↓cd_call, ↓pt_call, ↓i_call, ↓cd_blt, ↓pt_blt, ↓i_blt, ↓cd_mth, ↓pt_mth, ↓i_mth, ↓cd_isin, ↓pt_isin, ↓i_isin, ↓cd_setlen, ↓pt_setlen, ↓i_setlen, ↓cd_lc, ↓pt_lc, ↓i_lc, s_seq, s_skip, s_pass, s_brk, s_cnt, s_retN, s_ret, s_ex, s_ite, s_ass, s_par, s_sub, s_app, s_frz, s_prm, e_con, e_glob, e_var, e_tup, e_lst, e_bin, e_neg, e_cmp, e_chain, e_isN, e_not, e_and, e_or, e_ife, e_idx, pt_nil, e_slc, e_rev, e_call, e_blt, e_mth, e_isin, e_setlen, cd_nil, i_one, t_t, r_nil, r_cons, rr_nil, rr_cons, lp_n, lp_c, cd_con, pt_con, i_con, cd_var, pt_var, i_var, cd_glob, pt_glob, i_glob, cd_tup, pt_tup, i_tup, cd_lst, pt_lst, i_lst, cd_bin, pt_bin, i_bin, cd_neg, pt_neg, i_neg, cd_cmp, pt_cmp, i_cmp, cd_chain, pt_chain, i_chain, cd_isN, pt_isN, i_isN, cd_not, pt_not, i_not, cd_and, pt_and, i_and, cd_or, pt_or, i_or, cd_ife, pt_ife, i_ife, cd_idx, pt_idx, i_idx, cd_slc, pt_slc, i_slc, cd_rev, pt_rev, i_rev, cd_call, pt_call, i_call, cd_blt, pt_blt, i_blt, cd_mth, pt_mth, i_mth, cd_isin, pt_isin, i_isin, cd_setlen, pt_setlen, i_setlen, cd_lc, pt_lc, i_lc, ↓e_lc, ↓s_for, e_lc, s_for, nxt_nx, nxt_rt, nxt_bk, nxt_ct, rtK_p, exK_p, iteK_t, iteK_f, nxO_e, assK_p, parK_p, subK3_p, subK2_p, subK1_p, subK_p, nx2_p, appK1_p, appK_p, okK_t, forL_p, frzK_o, frzK_s, prmK_o, prmK_s, varK_s, varK_o, tupK_p, lstK_p, wiK_a, binK1_p, binK_p, negK_i, blK_b, cmpK1_p, cmpK_p, chainK_t, chainK_f, chK1_p, chK_p, isNK_p, nblK_b, notK_p, andK_t, andK_f, anK_p, orK_t, orK_f, oK_p, ifeK_t, ifeK_f, ifK_p, idxK1_p, idxK_p, siK_i, aiK_p, slcK2_p, slcK1_p, slcK_p, revK_p, callE_p, bltK_p, mthK1_p, mthK0_t, mthK_p, isinK_p, slnK1_p, slnK0_p, slnK_p, soK_v, giK_p, trK1_b, trK_p, elK_t, elK_f, lcK1_p, lcK_p, tuK_p, itK1_p, itK2_p, itK_p, coK_p, rcK1_p, rcK_p, crK_p, rrK_p, l_tup, l_lst, l_kl, l_fr, l_br, g_pv, g_fr, d_lst, d_fr, d_br, d_str, d_int, d_bl, d_non, d_tup, tr_bl, tr_int, tr_non, tr_str, n_non, n_int, n_str, n_tup, n_lst, n_bl, n_ref, x_tup, x_lst, x_kl, x_fr, x_br, a_v, a_t, gt_pv, gt_fr, as_v, as_tt, as_tl, as_n, as_c, o_rtp, o_rtf, o_rtb, o_nx, lpK_nx, lpK_ct, lpK_bk, lpK_rt, foK_e, forK_p, itm_tup, itm_lst, itm_kl, itm_fr, itm_br, itm_etup, itm_elst, itm_ekl, itm_efr, itm_ebr, itm_r1, itm_r2, at_nat, at_0, at_1, at_2, at_3, at_4, at_5, at_6, at_7, p_ii, p_ss, p_tt, p_ff, p_bf, p_lf, p_fl, p_ll, p_bl, p_sub, p_mulL, p_mulR, p_divP, p_modP, p_pow, c_lt, c_le, c_gt, c_ge, eqK1_v, eqK2_v, c_eq, c_ne, c_in, c_ni, inK_v, in_tup, in_lst, in_kl, in_fr, in_br, f_abs, f_int, f_lenS, f_lent, f_lenl, f_lenk, f_lenf, f_lenb, f_listk, f_listl, f_listt, f_listf, f_tupl, f_tupt, f_tupf, f_tupb, f_all, f_any, anyK_b, f_sort1, f_sort1f, mo_il, mo_ib, mo_ik, mo_if, mo_cl, mo_cb, mo_cf, ixK0_n, ixMK_v, m_il, m_ib, m_if, coMK_v, m_cl, m_cb, m_cf, apo_s, apoK_o, apoK_r, boK_l, ap_s, apK_o, apK_r, bxK_l, gu_c, gu_e, ok_non, ok_bl, ok_int, catK_s, catK_n, turK_p, tu_n, tu_c, bo_n, bo_c, in_n, in_c, al_n, al_t, al_f, nu_n, nu_c, refK_l, x_ref, setK1_m, setK_l, set_ref, ixn_20, ixn_21, ixn_31, ixn_30, ixn_32, sl_tup, sl_lst, sl_fr, sl_br, rv_lst, rv_fr, rv_br, asI_i, b_some, m_some, List.getElem?_cons_succ, List.getElem?_cons_zero, List.getElem?_nil, List.set_cons_succ, List.set_cons_zero, List.length_cons, List.length_nil, lim, Nat.reduceAdd, Nat.reduceLeDiff, Int.reduceLT, Nat.reduceLT, Nat.lt_add_left_iff_pos, E.isNil, wipeE, Nat.zero_lt_succ, if_true, if_false, Bool.true_bne, Bool.false_bne, bne_self_eq_false, Bool.not_true, Bool.not_false, Bool.not_not, Bool.bne_false, Bool.bne_true]
    cases hA : (others rs i).any (· == some t) <;> cases hB : (rs.any fun r => r.name == t) <;> cases hC : (el.any fun r => r.name == t) <;> simp only [hA, hB, hC, Bool.or_true, Bool.or_false, Bool.false_or, Bool.true_or, h1, h2, h3, l1, l2, l3, oo, ok_names hel, ok_names hrs, ot, any1, any2, ↓s_seq, ↓s_skip, ↓s_pass, ↓s_brk, ↓s_cnt, ↓s_retN, ↓s_ret, ↓s_ex, ↓s_ite, ↓s_ass, ↓s_par, ↓s_sub, ↓s_app, ↓s_frz, ↓s_prm, ↓e_con, ↓e_glob, ↓e_var, ↓e_tup, ↓e_lst, ↓e_bin, ↓e_neg, ↓e_cmp, ↓e_chain, ↓e_isN, ↓e_not, ↓e_and, ↓e_or, ↓e_ife, ↓e_idx, ↓pt_nil, ↓e_slc, ↓e_rev, ↓e_call, ↓e_blt, ↓e_mth, ↓e_isin, ↓e_setlen, ↓cd_nil, ↓i_one, ↓t_t, ↓r_nil, ↓r_cons, ↓rr_nil, ↓rr_cons, ↓lp_n, ↓lp_c, ↓cd_con, ↓pt_con, ↓i_con, ↓cd_var, ↓pt_var, ↓i_var, ↓cd_glob, ↓pt_glob, ↓i_glob, ↓cd_tup, ↓pt_tup, ↓i_tup, ↓cd_lst, ↓pt_lst, ↓i_lst, ↓cd_bin, ↓pt_bin, ↓i_bin, ↓cd_neg, ↓pt_neg, ↓i_neg, ↓cd_cmp, ↓pt_cmp, ↓i_cmp, ↓cd_chain, ↓pt_chain, ↓i_chain, ↓cd_isN, ↓pt_isN, ↓i_isN, ↓cd_not, ↓pt_not, ↓i_not, ↓cd_and, ↓pt_and, ↓i_and, ↓cd_or, ↓pt_or, ↓i_or, ↓cd_ife, ↓pt_ife, ↓i_ife, ↓cd_idx, ↓pt_idx, ↓i_idx, ↓cd_slc, ↓pt_slc, ↓i_slc, ↓cd_rev, ↓pt_rev, ↓i_rev, ↓cd_call, ↓pt_call, ↓i_call, ↓cd_blt, ↓pt_blt, ↓i_blt, ↓cd_mth, ↓pt_mth, ↓i_mth, ↓cd_isin, ↓pt_isin, ↓i_isin, ↓cd_setlen, ↓pt_setlen, ↓i_setlen, ↓cd_lc, ↓pt_lc, ↓i_lc, s_seq, s_skip, s_pass, s_brk, s_cnt, s_retN, s_ret, s_ex, s_ite, s_ass, s_par, s_sub, s_app, s_frz, s_prm, e_con, e_glob, e_var, e_tup, e_lst, e_bin, e_neg, e_cmp, e_chain, e_isN, e_not, e_and, e_or, e_ife, e_idx, pt_nil, e_slc, e_rev, e_call, e_blt, e_mth, e_isin, e_setlen, cd_nil, i_one, t_t, r_nil, r_cons, rr_nil, rr_cons, lp_n, lp_c, cd_con, pt_con, i_con, cd_var, pt_var, i_var, cd_glob, pt_glob, i_glob, cd_tup, pt_tup, i_tup, cd_lst, pt_lst, i_lst, cd_bin, pt_bin, i_bin, cd_neg, pt_neg, i_neg, cd_cmp, pt_cmp, i_cmp, cd_chain, pt_chain, i_chain, cd_isN, pt_isN, i_isN, cd_not, pt_not, i_not, cd_and, pt_and, i_and, cd_or, pt_or, i_or, cd_ife, pt_ife, i_ife, cd_idx, pt_idx, i_idx, cd_slc, pt_slc, i_slc, cd_rev, pt_rev, i_rev, cd_call, pt_call, i_call, cd_blt, pt_blt, i_blt, cd_mth, pt_mth, i_mth, cd_isin, pt_isin, i_isin, cd_setlen, pt_setlen, i_setlen, cd_lc, pt_lc, i_lc, ↓e_lc, ↓s_for, e_lc, s_for, nxt_nx, nxt_rt, nxt_bk, nxt_ct, rtK_p, exK_p, iteK_t, iteK_f, nxO_e, assK_p, parK_p, subK3_p, subK2_p, subK1_p, subK_p, nx2_p, appK1_p, appK_p, okK_t, forL_p, frzK_o, frzK_s, prmK_o, prmK_s, varK_s, varK_o, tupK_p, lstK_p, wiK_a, binK1_p, binK_p, negK_i, blK_b, cmpK1_p, cmpK_p, chainK_t, chainK_f, chK1_p, chK_p, isNK_p, nblK_b, notK_p, andK_t, andK_f, anK_p, orK_t, orK_f, oK_p, ifeK_t, ifeK_f, ifK_p, idxK1_p, idxK_p, siK_i, aiK_p, slcK2_p, slcK1_p, slcK_p, revK_p, callE_p, bltK_p, mthK1_p, mthK0_t, mthK_p, isinK_p, slnK1_p, slnK0_p, slnK_p, soK_v, giK_p, trK1_b, trK_p, elK_t, elK_f, lcK1_p, lcK_p, tuK_p, itK1_p, itK2_p, itK_p, coK_p, rcK1_p, rcK_p, crK_p, rrK_p, l_tup, l_lst, l_kl, l_fr, l_br, g_pv, g_fr, d_lst, d_fr, d_br, d_str, d_int, d_bl, d_non, d_tup, tr_bl, tr_int, tr_non, tr_str, n_non, n_int, n_str, n_tup, n_lst, n_bl, n_ref, x_tup, x_lst, x_kl, x_fr, x_br, a_v, a_t, gt_pv, gt_fr, as_v, as_tt, as_tl, as_n, as_c, o_rtp, o_rtf, o_rtb, o_nx, lpK_nx, lpK_ct, lpK_bk, lpK_rt, foK_e, forK_p, itm_tup, itm_lst, itm_kl, itm_fr, itm_br, itm_etup, itm_elst, itm_ekl, itm_efr, itm_ebr, itm_r1, itm_r2, at_nat, at_0, at_1, at_2, at_3, at_4, at_5, at_6, at_7, p_ii, p_ss, p_tt, p_ff, p_bf, p_lf, p_fl, p_ll, p_bl, p_sub, p_mulL, p_mulR, p_divP, p_modP, p_pow, c_lt, c_le, c_gt, c_ge, eqK1_v, eqK2_v, c_eq, c_ne, c_in, c_ni, inK_v, in_tup, in_lst, in_kl, in_fr, in_br, f_abs, f_int, f_lenS, f_lent, f_lenl, f_lenk, f_lenf, f_lenb, f_listk, f_listl, f_listt, f_listf, f_tupl, f_tupt, f_tupf, f_tupb, f_all, f_any, anyK_b, f_sort1, f_sort1f, mo_il, mo_ib, mo_ik, mo_if, mo_cl, mo_cb, mo_cf, ixK0_n, ixMK_v, m_il, m_ib, m_if, coMK_v, m_cl, m_cb, m_cf, apo_s, apoK_o, apoK_r, boK_l, ap_s, apK_o, apK_r, bxK_l, gu_c, gu_e, ok_non, ok_bl, ok_int, catK_s, catK_n, turK_p, tu_n, tu_c, bo_n, bo_c, in_n, in_c, al_n, al_t, al_f, nu_n, nu_c, refK_l, x_ref, setK1_m, setK_l, set_ref, ixn_20, ixn_21, ixn_31, ixn_30, ixn_32, sl_tup, sl_lst, sl_fr, sl_br, rv_lst, rv_fr, rv_br, asI_i, b_some, m_some, List.getElem?_cons_succ, List.getElem?_cons_zero, List.getElem?_nil, List.set_cons_succ, List.set_cons_zero, List.length_cons, List.length_nil, lim, Nat.reduceAdd, Nat.reduceLeDiff, Int.reduceLT, Nat.reduceLT, Nat.lt_add_left_iff_pos, E.isNil, wipeE, Nat.zero_lt_succ, if_true, if_false, Bool.true_bne, Bool.false_bne, bne_self_eq_false, Bool.not_true, Bool.not_false, Bool.not_not, Bool.bne_false, Bool.bne_true]
/-! ### word_against -/
def word (el rs : List Row) (i : Nat) (r : Row) : Option Str := if wrong el rs i r.told then some ("was" : Str) else match src el r with
  | none => none
  | some j => match el[j]? with
    | none => none
    | some e => if pvEq e.kind r.kind then none else some ("type" : Str)
theorem src_at {el : List Row} {r : Row} {j : Nat} (h : src el r = some j) : ∃ e, el[j]? = some e := by
  have := List.findIdx?_eq_some_iff_getElem.mp h
  obtain ⟨hj, _⟩ := this
  exact ⟨el[j], List.getElem?_eq_getElem hj⟩
theorem word_against_ok (k : Nat) (h : Hh) {el rs : List Row} {r : Row} {i : Nat} (hi : rs[i]? = some r) (hel : ∀ e ∈ el, Good e) (hrs : ∀ e ∈ rs, Good e) (hl : el.length ≤ 100) (hl2 : rs.length ≤ 100) :
    callK G.ds (k + 2) 4 [.tup (el.map cell), .tup (rs.map cell), .int i] h = some (.pv (tp (word el rs i r)), h) := by
  have hx : L2.atI (rs.map cell) (i : Int) = some (cell r) := by
    rw [at_nat, List.getElem?_map, hi]; rfl
  have gr : Good r := hrs r (List.mem_of_getElem? hi)
  have w := is_wrong_ok k h hi hel hrs hl hl2
  have sr := source_in_ok k h hel hl gr
  cases hw : wrong el rs i r.told with
  | true =>
    have hr : word el rs i r = some ("was" : Str) := by unfold word; rw [hw]; rfl
    simp only [k_word_against, b_word_against, w, hw, hr, tp_n, tp_s, ↓s_seq, ↓s_skip, ↓s_pass, ↓s_brk, ↓s_cnt, ↓s_retN, ↓s_ret, ↓s_ex, ↓s_ite, ↓s_ass, ↓s_par, ↓s_sub, ↓s_app, ↓s_frz, ↓s_prm, ↓e_con, ↓e_glob, ↓e_var, ↓e_tup, ↓e_lst, ↓e_bin, ↓e_neg, ↓e_cmp, ↓e_chain, ↓e_isN, ↓e_not, ↓e_and, ↓e_or, ↓e_ife, ↓e_idx, ↓pt_nil, ↓e_slc, ↓e_rev, ↓e_call, ↓e_blt, ↓e_mth, ↓e_isin, ↓e_setlen, ↓cd_nil, ↓i_one, ↓t_t, ↓r_nil, ↓r_cons, ↓rr_nil, ↓rr_cons, ↓lp_n, ↓lp_c, ↓cd_con, ↓pt_con, ↓i_con, ↓cd_var, ↓pt_var, ↓i_var, ↓cd_glob, ↓pt_glob, ↓i_glob, ↓cd_tup, ↓pt_tup, ↓i_tup, ↓cd_lst, ↓pt_lst, ↓i_lst, ↓cd_bin, ↓pt_bin, ↓i_bin, ↓cd_neg, ↓pt_neg, ↓i_neg, ↓cd_cmp, ↓pt_cmp, ↓i_cmp, ↓cd_chain, ↓pt_chain, ↓i_chain, ↓cd_isN, ↓pt_isN, ↓i_isN, ↓cd_not, ↓pt_not, ↓i_not, ↓cd_and, ↓pt_and, ↓i_and, ↓cd_or, ↓pt_or, ↓i_or, ↓cd_ife, ↓pt_ife, ↓i_ife, ↓cd_idx, ↓pt_idx, ↓i_idx, ↓cd_slc, ↓pt_slc, ↓i_slc, ↓cd_rev, ↓pt_rev, ↓i_rev, ↓cd_call, ↓pt_call, ↓i_call, ↓cd_blt, ↓pt_blt, ↓i_blt, ↓cd_mth, ↓pt_mth, ↓i_mth, ↓cd_isin, ↓pt_isin, ↓i_isin, ↓cd_setlen, ↓pt_setlen, ↓i_setlen, ↓cd_lc, ↓pt_lc, ↓i_lc, s_seq, s_skip, s_pass, s_brk, s_cnt, s_retN, s_ret, s_ex, s_ite, s_ass, s_par, s_sub, s_app, s_frz, s_prm, e_con, e_glob, e_var, e_tup, e_lst, e_bin, e_neg, e_cmp, e_chain, e_isN, e_not, e_and, e_or, e_ife, e_idx, pt_nil, e_slc, e_rev, e_call, e_blt, e_mth, e_isin, e_setlen, cd_nil, i_one, t_t, r_nil, r_cons, rr_nil, rr_cons, lp_n, lp_c, cd_con, pt_con, i_con, cd_var, pt_var, i_var, cd_glob, pt_glob, i_glob, cd_tup, pt_tup, i_tup, cd_lst, pt_lst, i_lst, cd_bin, pt_bin, i_bin, cd_neg, pt_neg, i_neg, cd_cmp, pt_cmp, i_cmp, cd_chain, pt_chain, i_chain, cd_isN, pt_isN, i_isN, cd_not, pt_not, i_not, cd_and, pt_and, i_and, cd_or, pt_or, i_or, cd_ife, pt_ife, i_ife, cd_idx, pt_idx, i_idx, cd_slc, pt_slc, i_slc, cd_rev, pt_rev, i_rev, cd_call, pt_call, i_call, cd_blt, pt_blt, i_blt, cd_mth, pt_mth, i_mth, cd_isin, pt_isin, i_isin, cd_setlen, pt_setlen, i_setlen, cd_lc, pt_lc, i_lc, ↓e_lc, ↓s_for, e_lc, s_for, nxt_nx, nxt_rt, nxt_bk, nxt_ct, rtK_p, exK_p, iteK_t, iteK_f, nxO_e, assK_p, parK_p, subK3_p, subK2_p, subK1_p, subK_p, nx2_p, appK1_p, appK_p, okK_t, forL_p, frzK_o, frzK_s, prmK_o, prmK_s, varK_s, varK_o, tupK_p, lstK_p, wiK_a, binK1_p, binK_p, negK_i, blK_b, cmpK1_p, cmpK_p, chainK_t, chainK_f, chK1_p, chK_p, isNK_p, nblK_b, notK_p, andK_t, andK_f, anK_p, orK_t, orK_f, oK_p, ifeK_t, ifeK_f, ifK_p, idxK1_p, idxK_p, siK_i, aiK_p, slcK2_p, slcK1_p, slcK_p, revK_p, callE_p, bltK_p, mthK1_p, mthK0_t, mthK_p, isinK_p, slnK1_p, slnK0_p, slnK_p, soK_v, giK_p, trK1_b, trK_p, elK_t, elK_f, lcK1_p, lcK_p, tuK_p, itK1_p, itK2_p, itK_p, coK_p, rcK1_p, rcK_p, crK_p, rrK_p, l_tup, l_lst, l_kl, l_fr, l_br, g_pv, g_fr, d_lst, d_fr, d_br, d_str, d_int, d_bl, d_non, d_tup, tr_bl, tr_int, tr_non, tr_str, n_non, n_int, n_str, n_tup, n_lst, n_bl, n_ref, x_tup, x_lst, x_kl, x_fr, x_br, a_v, a_t, gt_pv, gt_fr, as_v, as_tt, as_tl, as_n, as_c, o_rtp, o_rtf, o_rtb, o_nx, lpK_nx, lpK_ct, lpK_bk, lpK_rt, foK_e, forK_p, itm_tup, itm_lst, itm_kl, itm_fr, itm_br, itm_etup, itm_elst, itm_ekl, itm_efr, itm_ebr, itm_r1, itm_r2, at_nat, at_0, at_1, at_2, at_3, at_4, at_5, at_6, at_7, p_ii, p_ss, p_tt, p_ff, p_bf, p_lf, p_fl, p_ll, p_bl, p_sub, p_mulL, p_mulR, p_divP, p_modP, p_pow, c_lt, c_le, c_gt, c_ge, eqK1_v, eqK2_v, c_eq, c_ne, c_in, c_ni, inK_v, in_tup, in_lst, in_kl, in_fr, in_br, f_abs, f_int, f_lenS, f_lent, f_lenl, f_lenk, f_lenf, f_lenb, f_listk, f_listl, f_listt, f_listf, f_tupl, f_tupt, f_tupf, f_tupb, f_all, f_any, anyK_b, f_sort1, f_sort1f, mo_il, mo_ib, mo_ik, mo_if, mo_cl, mo_cb, mo_cf, ixK0_n, ixMK_v, m_il, m_ib, m_if, coMK_v, m_cl, m_cb, m_cf, apo_s, apoK_o, apoK_r, boK_l, ap_s, apK_o, apK_r, bxK_l, gu_c, gu_e, ok_non, ok_bl, ok_int, catK_s, catK_n, turK_p, tu_n, tu_c, bo_n, bo_c, in_n, in_c, al_n, al_t, al_f, nu_n, nu_c, refK_l, x_ref, setK1_m, setK_l, set_ref, ixn_20, ixn_21, ixn_31, ixn_30, ixn_32, sl_tup, sl_lst, sl_fr, sl_br, rv_lst, rv_fr, rv_br, asI_i, b_some, m_some, List.getElem?_cons_succ, List.getElem?_cons_zero, List.getElem?_nil, List.set_cons_succ, List.set_cons_zero, List.length_cons, List.length_nil, lim, Nat.reduceAdd, Nat.reduceLeDiff, Int.reduceLT, Nat.reduceLT, Nat.lt_add_left_iff_pos, E.isNil, wipeE, Nat.zero_lt_succ, if_true, if_false, Bool.true_bne, Bool.false_bne, bne_self_eq_false, Bool.not_true, Bool.not_false, Bool.not_not, Bool.bne_false, Bool.bne_true]
  | false =>
    cases hs : src el r with
    | none =>
      have hr : word el rs i r = none := by unfold word; rw [hw, hs]; rfl
      simp only [k_word_against, b_word_against, w, hw, hr, hx, sr, hs, np_n, np_s, tp_n, tp_s, ↓s_seq, ↓s_skip, ↓s_pass, ↓s_brk, ↓s_cnt, ↓s_retN, ↓s_ret, ↓s_ex, ↓s_ite, ↓s_ass, ↓s_par, ↓s_sub, ↓s_app, ↓s_frz, ↓s_prm, ↓e_con, ↓e_glob, ↓e_var, ↓e_tup, ↓e_lst, ↓e_bin, ↓e_neg, ↓e_cmp, ↓e_chain, ↓e_isN, ↓e_not, ↓e_and, ↓e_or, ↓e_ife, ↓e_idx, ↓pt_nil, ↓e_slc, ↓e_rev, ↓e_call, ↓e_blt, ↓e_mth, ↓e_isin, ↓e_setlen, ↓cd_nil, ↓i_one, ↓t_t, ↓r_nil, ↓r_cons, ↓rr_nil, ↓rr_cons, ↓lp_n, ↓lp_c, ↓cd_con, ↓pt_con, ↓i_con, ↓cd_var, ↓pt_var, ↓i_var, ↓cd_glob, ↓pt_glob, ↓i_glob, ↓cd_tup, ↓pt_tup, ↓i_tup, ↓cd_lst, ↓pt_lst, ↓i_lst, ↓cd_bin, ↓pt_bin, ↓i_bin, ↓cd_neg, ↓pt_neg, ↓i_neg, ↓cd_cmp, ↓pt_cmp, ↓i_cmp, ↓cd_chain, ↓pt_chain, ↓i_chain, ↓cd_isN, ↓pt_isN, ↓i_isN, ↓cd_not, ↓pt_not, ↓i_not, ↓cd_and, ↓pt_and, ↓i_and, ↓cd_or, ↓pt_or, ↓i_or, ↓cd_ife, ↓pt_ife, ↓i_ife, ↓cd_idx, ↓pt_idx, ↓i_idx, ↓cd_slc, ↓pt_slc, ↓i_slc, ↓cd_rev, ↓pt_rev, ↓i_rev, ↓cd_call, ↓pt_call, ↓i_call, ↓cd_blt, ↓pt_blt, ↓i_blt, ↓cd_mth, ↓pt_mth, ↓i_mth, ↓cd_isin, ↓pt_isin, ↓i_isin, ↓cd_setlen, ↓pt_setlen, ↓i_setlen, ↓cd_lc, ↓pt_lc, ↓i_lc, s_seq, s_skip, s_pass, s_brk, s_cnt, s_retN, s_ret, s_ex, s_ite, s_ass, s_par, s_sub, s_app, s_frz, s_prm, e_con, e_glob, e_var, e_tup, e_lst, e_bin, e_neg, e_cmp, e_chain, e_isN, e_not, e_and, e_or, e_ife, e_idx, pt_nil, e_slc, e_rev, e_call, e_blt, e_mth, e_isin, e_setlen, cd_nil, i_one, t_t, r_nil, r_cons, rr_nil, rr_cons, lp_n, lp_c, cd_con, pt_con, i_con, cd_var, pt_var, i_var, cd_glob, pt_glob, i_glob, cd_tup, pt_tup, i_tup, cd_lst, pt_lst, i_lst, cd_bin, pt_bin, i_bin, cd_neg, pt_neg, i_neg, cd_cmp, pt_cmp, i_cmp, cd_chain, pt_chain, i_chain, cd_isN, pt_isN, i_isN, cd_not, pt_not, i_not, cd_and, pt_and, i_and, cd_or, pt_or, i_or, cd_ife, pt_ife, i_ife, cd_idx, pt_idx, i_idx, cd_slc, pt_slc, i_slc, cd_rev, pt_rev, i_rev, cd_call, pt_call, i_call, cd_blt, pt_blt, i_blt, cd_mth, pt_mth, i_mth, cd_isin, pt_isin, i_isin, cd_setlen, pt_setlen, i_setlen, cd_lc, pt_lc, i_lc, ↓e_lc, ↓s_for, e_lc, s_for, nxt_nx, nxt_rt, nxt_bk, nxt_ct, rtK_p, exK_p, iteK_t, iteK_f, nxO_e, assK_p, parK_p, subK3_p, subK2_p, subK1_p, subK_p, nx2_p, appK1_p, appK_p, okK_t, forL_p, frzK_o, frzK_s, prmK_o, prmK_s, varK_s, varK_o, tupK_p, lstK_p, wiK_a, binK1_p, binK_p, negK_i, blK_b, cmpK1_p, cmpK_p, chainK_t, chainK_f, chK1_p, chK_p, isNK_p, nblK_b, notK_p, andK_t, andK_f, anK_p, orK_t, orK_f, oK_p, ifeK_t, ifeK_f, ifK_p, idxK1_p, idxK_p, siK_i, aiK_p, slcK2_p, slcK1_p, slcK_p, revK_p, callE_p, bltK_p, mthK1_p, mthK0_t, mthK_p, isinK_p, slnK1_p, slnK0_p, slnK_p, soK_v, giK_p, trK1_b, trK_p, elK_t, elK_f, lcK1_p, lcK_p, tuK_p, itK1_p, itK2_p, itK_p, coK_p, rcK1_p, rcK_p, crK_p, rrK_p, l_tup, l_lst, l_kl, l_fr, l_br, g_pv, g_fr, d_lst, d_fr, d_br, d_str, d_int, d_bl, d_non, d_tup, tr_bl, tr_int, tr_non, tr_str, n_non, n_int, n_str, n_tup, n_lst, n_bl, n_ref, x_tup, x_lst, x_kl, x_fr, x_br, a_v, a_t, gt_pv, gt_fr, as_v, as_tt, as_tl, as_n, as_c, o_rtp, o_rtf, o_rtb, o_nx, lpK_nx, lpK_ct, lpK_bk, lpK_rt, foK_e, forK_p, itm_tup, itm_lst, itm_kl, itm_fr, itm_br, itm_etup, itm_elst, itm_ekl, itm_efr, itm_ebr, itm_r1, itm_r2, at_nat, at_0, at_1, at_2, at_3, at_4, at_5, at_6, at_7, p_ii, p_ss, p_tt, p_ff, p_bf, p_lf, p_fl, p_ll, p_bl, p_sub, p_mulL, p_mulR, p_divP, p_modP, p_pow, c_lt, c_le, c_gt, c_ge, eqK1_v, eqK2_v, c_eq, c_ne, c_in, c_ni, inK_v, in_tup, in_lst, in_kl, in_fr, in_br, f_abs, f_int, f_lenS, f_lent, f_lenl, f_lenk, f_lenf, f_lenb, f_listk, f_listl, f_listt, f_listf, f_tupl, f_tupt, f_tupf, f_tupb, f_all, f_any, anyK_b, f_sort1, f_sort1f, mo_il, mo_ib, mo_ik, mo_if, mo_cl, mo_cb, mo_cf, ixK0_n, ixMK_v, m_il, m_ib, m_if, coMK_v, m_cl, m_cb, m_cf, apo_s, apoK_o, apoK_r, boK_l, ap_s, apK_o, apK_r, bxK_l, gu_c, gu_e, ok_non, ok_bl, ok_int, catK_s, catK_n, turK_p, tu_n, tu_c, bo_n, bo_c, in_n, in_c, al_n, al_t, al_f, nu_n, nu_c, refK_l, x_ref, setK1_m, setK_l, set_ref, ixn_20, ixn_21, ixn_31, ixn_30, ixn_32, sl_tup, sl_lst, sl_fr, sl_br, rv_lst, rv_fr, rv_br, asI_i, b_some, m_some, List.getElem?_cons_succ, List.getElem?_cons_zero, List.getElem?_nil, List.set_cons_succ, List.set_cons_zero, List.length_cons, List.length_nil, lim, Nat.reduceAdd, Nat.reduceLeDiff, Int.reduceLT, Nat.reduceLT, Nat.lt_add_left_iff_pos, E.isNil, wipeE, Nat.zero_lt_succ, if_true, if_false, Bool.true_bne, Bool.false_bne, bne_self_eq_false, Bool.not_true, Bool.not_false, Bool.not_not, Bool.bne_false, Bool.bne_true]
    | some j =>
      obtain ⟨e, he⟩ := src_at hs
      have hy : L2.atI (el.map cell) (j : Int) = some (cell e) := by
        rw [at_nat, List.getElem?_map, he]; rfl
      have ge : Good e := hel e (List.mem_of_getElem? he)
      have hr : word el rs i r = if pvEq e.kind r.kind then none else some ("type" : Str) := by unfold word; rw [hw, hs]; simp only [he]; rfl
      have k1 := ge.k
      have k2 := gr.k
      have d1 : ∀ v, okD v = true → R.dat h (.pv v) = some v := fun v hv => by cases v <;> first | rfl | (simp [okD, Ev.plain] at hv)
      have d2 := d1 _ k1
      have d3 := d1 _ k2
      obtain ⟨nm, td, kd, re⟩ := r
      obtain ⟨nm2, td2, kd2, re2⟩ := e
      simp only [cell] at hx hy w sr
      simp only at hr d2 d3 k1 k2
      simp only [k_word_against, b_word_against, w, hw, hr, hx, hy, sr, hs, np_n, np_s, tp_n, tp_s, cell, d2, d3, k1, k2, ↓s_seq, ↓s_skip, ↓s_pass, ↓s_brk, ↓s_cnt, ↓s_retN, ↓s_ret, ↓s_ex, ↓s_ite, ↓s_ass, ↓s_par, ↓s_sub, ↓s_app, ↓s_frz, ↓s_prm, ↓e_con, ↓e_glob, ↓e_var, ↓e_tup, ↓e_lst, ↓e_bin, ↓e_neg, ↓e_cmp, ↓e_chain, ↓e_isN, ↓e_not, ↓e_and, ↓e_or, ↓e_ife, ↓e_idx, ↓pt_nil, ↓e_slc, ↓e_rev, ↓e_call, ↓e_blt, ↓e_mth, ↓e_isin, ↓e_setlen, ↓cd_nil, ↓i_one, ↓t_t, ↓r_nil, ↓r_cons, ↓rr_nil, ↓rr_cons, ↓lp_n, ↓lp_c, ↓cd_con, ↓pt_con, ↓i_con, ↓cd_var, ↓pt_var, ↓i_var, ↓cd_glob, ↓pt_glob, ↓i_glob, ↓cd_tup, ↓pt_tup, ↓i_tup, ↓cd_lst, ↓pt_lst, ↓i_lst, ↓cd_bin, ↓pt_bin, ↓i_bin, ↓cd_neg, ↓pt_neg, ↓i_neg, ↓cd_cmp, ↓pt_cmp, ↓i_cmp, ↓cd_chain, ↓pt_chain, ↓i_chain, ↓cd_isN, ↓pt_isN, ↓i_isN, ↓cd_not, ↓pt_not, ↓i_not, ↓cd_and, ↓pt_and, ↓i_and, ↓cd_or, ↓pt_or, ↓i_or, ↓cd_ife, ↓pt_ife, ↓i_ife, ↓cd_idx, ↓pt_idx, ↓i_idx, ↓cd_slc, ↓pt_slc, ↓i_slc, ↓cd_rev, ↓pt_rev, ↓i_rev, ↓cd_call, ↓pt_call, ↓i_call, ↓cd_blt, ↓pt_blt, ↓i_blt, ↓cd_mth, ↓pt_mth, ↓i_mth, ↓cd_isin, ↓pt_isin, ↓i_isin, ↓cd_setlen, ↓pt_setlen, ↓i_setlen, ↓cd_lc, ↓pt_lc, ↓i_lc, s_seq, s_skip, s_pass, s_brk, s_cnt, s_retN, s_ret, s_ex, s_ite, s_ass, s_par, s_sub, s_app, s_frz, s_prm, e_con, e_glob, e_var, e_tup, e_lst, e_bin, e_neg, e_cmp, e_chain, e_isN, e_not, e_and, e_or, e_ife, e_idx, pt_nil, e_slc, e_rev, e_call, e_blt, e_mth, e_isin, e_setlen, cd_nil, i_one, t_t, r_nil, r_cons, rr_nil, rr_cons, lp_n, lp_c, cd_con, pt_con, i_con, cd_var, pt_var, i_var, cd_glob, pt_glob, i_glob, cd_tup, pt_tup, i_tup, cd_lst, pt_lst, i_lst, cd_bin, pt_bin, i_bin, cd_neg, pt_neg, i_neg, cd_cmp, pt_cmp, i_cmp, cd_chain, pt_chain, i_chain, cd_isN, pt_isN, i_isN, cd_not, pt_not, i_not, cd_and, pt_and, i_and, cd_or, pt_or, i_or, cd_ife, pt_ife, i_ife, cd_idx, pt_idx, i_idx, cd_slc, pt_slc, i_slc, cd_rev, pt_rev, i_rev, cd_call, pt_call, i_call, cd_blt, pt_blt, i_blt, cd_mth, pt_mth, i_mth, cd_isin, pt_isin, i_isin, cd_setlen, pt_setlen, i_setlen, cd_lc, pt_lc, i_lc, ↓e_lc, ↓s_for, e_lc, s_for, nxt_nx, nxt_rt, nxt_bk, nxt_ct, rtK_p, exK_p, iteK_t, iteK_f, nxO_e, assK_p, parK_p, subK3_p, subK2_p, subK1_p, subK_p, nx2_p, appK1_p, appK_p, okK_t, forL_p, frzK_o, frzK_s, prmK_o, prmK_s, varK_s, varK_o, tupK_p, lstK_p, wiK_a, binK1_p, binK_p, negK_i, blK_b, cmpK1_p, cmpK_p, chainK_t, chainK_f, chK1_p, chK_p, isNK_p, nblK_b, notK_p, andK_t, andK_f, anK_p, orK_t, orK_f, oK_p, ifeK_t, ifeK_f, ifK_p, idxK1_p, idxK_p, siK_i, aiK_p, slcK2_p, slcK1_p, slcK_p, revK_p, callE_p, bltK_p, mthK1_p, mthK0_t, mthK_p, isinK_p, slnK1_p, slnK0_p, slnK_p, soK_v, giK_p, trK1_b, trK_p, elK_t, elK_f, lcK1_p, lcK_p, tuK_p, itK1_p, itK2_p, itK_p, coK_p, rcK1_p, rcK_p, crK_p, rrK_p, l_tup, l_lst, l_kl, l_fr, l_br, g_pv, g_fr, d_lst, d_fr, d_br, d_str, d_int, d_bl, d_non, d_tup, tr_bl, tr_int, tr_non, tr_str, n_non, n_int, n_str, n_tup, n_lst, n_bl, n_ref, x_tup, x_lst, x_kl, x_fr, x_br, a_v, a_t, gt_pv, gt_fr, as_v, as_tt, as_tl, as_n, as_c, o_rtp, o_rtf, o_rtb, o_nx, lpK_nx, lpK_ct, lpK_bk, lpK_rt, foK_e, forK_p, itm_tup, itm_lst, itm_kl, itm_fr, itm_br, itm_etup, itm_elst, itm_ekl, itm_efr, itm_ebr, itm_r1, itm_r2, at_nat, at_0, at_1, at_2, at_3, at_4, at_5, at_6, at_7, p_ii, p_ss, p_tt, p_ff, p_bf, p_lf, p_fl, p_ll, p_bl, p_sub, p_mulL, p_mulR, p_divP, p_modP, p_pow, c_lt, c_le, c_gt, c_ge, eqK1_v, eqK2_v, c_eq, c_ne, c_in, c_ni, inK_v, in_tup, in_lst, in_kl, in_fr, in_br, f_abs, f_int, f_lenS, f_lent, f_lenl, f_lenk, f_lenf, f_lenb, f_listk, f_listl, f_listt, f_listf, f_tupl, f_tupt, f_tupf, f_tupb, f_all, f_any, anyK_b, f_sort1, f_sort1f, mo_il, mo_ib, mo_ik, mo_if, mo_cl, mo_cb, mo_cf, ixK0_n, ixMK_v, m_il, m_ib, m_if, coMK_v, m_cl, m_cb, m_cf, apo_s, apoK_o, apoK_r, boK_l, ap_s, apK_o, apK_r, bxK_l, gu_c, gu_e, ok_non, ok_bl, ok_int, catK_s, catK_n, turK_p, tu_n, tu_c, bo_n, bo_c, in_n, in_c, al_n, al_t, al_f, nu_n, nu_c, refK_l, x_ref, setK1_m, setK_l, set_ref, ixn_20, ixn_21, ixn_31, ixn_30, ixn_32, sl_tup, sl_lst, sl_fr, sl_br, rv_lst, rv_fr, rv_br, asI_i, b_some, m_some, List.getElem?_cons_succ, List.getElem?_cons_zero, List.getElem?_nil, List.set_cons_succ, List.set_cons_zero, List.length_cons, List.length_nil, lim, Nat.reduceAdd, Nat.reduceLeDiff, Int.reduceLT, Nat.reduceLT, Nat.lt_add_left_iff_pos, E.isNil, wipeE, Nat.zero_lt_succ, if_true, if_false, Bool.true_bne, Bool.false_bne, bne_self_eq_false, Bool.not_true, Bool.not_false, Bool.not_not, Bool.bne_false, Bool.bne_true]
      cases pvEq kd2 kd <;> simp only [tp_n, tp_s, Bool.false_eq_true, ↓s_seq, ↓s_skip, ↓s_pass, ↓s_brk, ↓s_cnt, ↓s_retN, ↓s_ret, ↓s_ex, ↓s_ite, ↓s_ass, ↓s_par, ↓s_sub, ↓s_app, ↓s_frz, ↓s_prm, ↓e_con, ↓e_glob, ↓e_var, ↓e_tup, ↓e_lst, ↓e_bin, ↓e_neg, ↓e_cmp, ↓e_chain, ↓e_isN, ↓e_not, ↓e_and, ↓e_or, ↓e_ife, ↓e_idx, ↓pt_nil, ↓e_slc, ↓e_rev, ↓e_call, ↓e_blt, ↓e_mth, ↓e_isin, ↓e_setlen, ↓cd_nil, ↓i_one, ↓t_t, ↓r_nil, ↓r_cons, ↓rr_nil, ↓rr_cons, ↓lp_n, ↓lp_c, ↓cd_con, ↓pt_con, ↓i_con, ↓cd_var, ↓pt_var, ↓i_var, ↓cd_glob, ↓pt_glob, ↓i_glob, ↓cd_tup, ↓pt_tup, ↓i_tup, ↓cd_lst, ↓pt_lst, ↓i_lst, ↓cd_bin, ↓pt_bin, ↓i_bin, ↓cd_neg, ↓pt_neg, ↓i_neg, ↓cd_cmp, ↓pt_cmp, ↓i_cmp, ↓cd_chain, ↓pt_chain, ↓i_chain, ↓cd_isN, ↓pt_isN, ↓i_isN, ↓cd_not, ↓pt_not, ↓i_not, ↓cd_and, ↓pt_and, ↓i_and, ↓cd_or, ↓pt_or, ↓i_or, ↓cd_ife, ↓pt_ife, ↓i_ife, ↓cd_idx, ↓pt_idx, ↓i_idx, ↓cd_slc, ↓pt_slc, ↓i_slc, ↓cd_rev, ↓pt_rev, ↓i_rev, ↓cd_call, ↓pt_call, ↓i_call, ↓cd_blt, ↓pt_blt, ↓i_blt, ↓cd_mth, ↓pt_mth, ↓i_mth, ↓cd_isin, ↓pt_isin, ↓i_isin, ↓cd_setlen, ↓pt_setlen, ↓i_setlen, ↓cd_lc, ↓pt_lc, ↓i_lc, s_seq, s_skip, s_pass, s_brk, s_cnt, s_retN, s_ret, s_ex, s_ite, s_ass, s_par, s_sub, s_app, s_frz, s_prm, e_con, e_glob, e_var, e_tup, e_lst, e_bin, e_neg, e_cmp, e_chain, e_isN, e_not, e_and, e_or, e_ife, e_idx, pt_nil, e_slc, e_rev, e_call, e_blt, e_mth, e_isin, e_setlen, cd_nil, i_one, t_t, r_nil, r_cons, rr_nil, rr_cons, lp_n, lp_c, cd_con, pt_con, i_con, cd_var, pt_var, i_var, cd_glob, pt_glob, i_glob, cd_tup, pt_tup, i_tup, cd_lst, pt_lst, i_lst, cd_bin, pt_bin, i_bin, cd_neg, pt_neg, i_neg, cd_cmp, pt_cmp, i_cmp, cd_chain, pt_chain, i_chain, cd_isN, pt_isN, i_isN, cd_not, pt_not, i_not, cd_and, pt_and, i_and, cd_or, pt_or, i_or, cd_ife, pt_ife, i_ife, cd_idx, pt_idx, i_idx, cd_slc, pt_slc, i_slc, cd_rev, pt_rev, i_rev, cd_call, pt_call, i_call, cd_blt, pt_blt, i_blt, cd_mth, pt_mth, i_mth, cd_isin, pt_isin, i_isin, cd_setlen, pt_setlen, i_setlen, cd_lc, pt_lc, i_lc, ↓e_lc, ↓s_for, e_lc, s_for, nxt_nx, nxt_rt, nxt_bk, nxt_ct, rtK_p, exK_p, iteK_t, iteK_f, nxO_e, assK_p, parK_p, subK3_p, subK2_p, subK1_p, subK_p, nx2_p, appK1_p, appK_p, okK_t, forL_p, frzK_o, frzK_s, prmK_o, prmK_s, varK_s, varK_o, tupK_p, lstK_p, wiK_a, binK1_p, binK_p, negK_i, blK_b, cmpK1_p, cmpK_p, chainK_t, chainK_f, chK1_p, chK_p, isNK_p, nblK_b, notK_p, andK_t, andK_f, anK_p, orK_t, orK_f, oK_p, ifeK_t, ifeK_f, ifK_p, idxK1_p, idxK_p, siK_i, aiK_p, slcK2_p, slcK1_p, slcK_p, revK_p, callE_p, bltK_p, mthK1_p, mthK0_t, mthK_p, isinK_p, slnK1_p, slnK0_p, slnK_p, soK_v, giK_p, trK1_b, trK_p, elK_t, elK_f, lcK1_p, lcK_p, tuK_p, itK1_p, itK2_p, itK_p, coK_p, rcK1_p, rcK_p, crK_p, rrK_p, l_tup, l_lst, l_kl, l_fr, l_br, g_pv, g_fr, d_lst, d_fr, d_br, d_str, d_int, d_bl, d_non, d_tup, tr_bl, tr_int, tr_non, tr_str, n_non, n_int, n_str, n_tup, n_lst, n_bl, n_ref, x_tup, x_lst, x_kl, x_fr, x_br, a_v, a_t, gt_pv, gt_fr, as_v, as_tt, as_tl, as_n, as_c, o_rtp, o_rtf, o_rtb, o_nx, lpK_nx, lpK_ct, lpK_bk, lpK_rt, foK_e, forK_p, itm_tup, itm_lst, itm_kl, itm_fr, itm_br, itm_etup, itm_elst, itm_ekl, itm_efr, itm_ebr, itm_r1, itm_r2, at_nat, at_0, at_1, at_2, at_3, at_4, at_5, at_6, at_7, p_ii, p_ss, p_tt, p_ff, p_bf, p_lf, p_fl, p_ll, p_bl, p_sub, p_mulL, p_mulR, p_divP, p_modP, p_pow, c_lt, c_le, c_gt, c_ge, eqK1_v, eqK2_v, c_eq, c_ne, c_in, c_ni, inK_v, in_tup, in_lst, in_kl, in_fr, in_br, f_abs, f_int, f_lenS, f_lent, f_lenl, f_lenk, f_lenf, f_lenb, f_listk, f_listl, f_listt, f_listf, f_tupl, f_tupt, f_tupf, f_tupb, f_all, f_any, anyK_b, f_sort1, f_sort1f, mo_il, mo_ib, mo_ik, mo_if, mo_cl, mo_cb, mo_cf, ixK0_n, ixMK_v, m_il, m_ib, m_if, coMK_v, m_cl, m_cb, m_cf, apo_s, apoK_o, apoK_r, boK_l, ap_s, apK_o, apK_r, bxK_l, gu_c, gu_e, ok_non, ok_bl, ok_int, catK_s, catK_n, turK_p, tu_n, tu_c, bo_n, bo_c, in_n, in_c, al_n, al_t, al_f, nu_n, nu_c, refK_l, x_ref, setK1_m, setK_l, set_ref, ixn_20, ixn_21, ixn_31, ixn_30, ixn_32, sl_tup, sl_lst, sl_fr, sl_br, rv_lst, rv_fr, rv_br, asI_i, b_some, m_some, List.getElem?_cons_succ, List.getElem?_cons_zero, List.getElem?_nil, List.set_cons_succ, List.set_cons_zero, List.length_cons, List.length_nil, lim, Nat.reduceAdd, Nat.reduceLeDiff, Int.reduceLT, Nat.reduceLT, Nat.lt_add_left_iff_pos, E.isNil, wipeE, Nat.zero_lt_succ, if_true, if_false, Bool.true_bne, Bool.false_bne, bne_self_eq_false, Bool.not_true, Bool.not_false, Bool.not_not, Bool.bne_false, Bool.bne_true]
/-! ### is_bare -/
def plK (v : PV) : Bool := [PV.tup [.str "int"], .tup [.str "text"]].any fun z => pvEq z v
def bare (r : Row) : Bool := (match r.rest with
  | .non :: _ => true
  | _ => false) || !plK r.kind
theorem dat_ok {v : PV} {h : Hh} (hv : okD v = true) : R.dat h (.pv v) = some v := by cases v <;> first | rfl | (simp [okD, Ev.plain] at hv)
theorem okP : okD (.tup [.tup [.str "int"], .tup [.str "text"]]) = true := by decide +kernel
theorem is_bare_ok (k : Nat) (h : Hh) {r : Row} {v : PV} {re : List PV} (hr : r.rest = v :: re) (gr : Good r) : callK G.ds (k + 1) 5 [cell r] h = some (.pv (.bl (bare r)), h) := by
  obtain ⟨nm, td, kd, rs⟩ := r
  cases hr
  have k1 := gr.k
  have k2 := dat_ok (h := h) k1
  simp only at k1 k2
  have key : ∀ v, R.isNon (.pv v) = true ∨ R.isNon (.pv v) = false := fun v => by cases R.isNon (.pv v) <;> simp
  rcases key v with hn | hn
  · have e : bare ⟨nm, td, kd, v :: re⟩ = true := by
      cases v <;> first | rfl | cases hn
    simp only [k_is_bare, b_is_bare, cell, hn, e, ↓s_seq, ↓s_skip, ↓s_pass, ↓s_brk, ↓s_cnt, ↓s_retN, ↓s_ret, ↓s_ex, ↓s_ite, ↓s_ass, ↓s_par, ↓s_sub, ↓s_app, ↓s_frz, ↓s_prm, ↓e_con, ↓e_glob, ↓e_var, ↓e_tup, ↓e_lst, ↓e_bin, ↓e_neg, ↓e_cmp, ↓e_chain, ↓e_isN, ↓e_not, ↓e_and, ↓e_or, ↓e_ife, ↓e_idx, ↓pt_nil, ↓e_slc, ↓e_rev, ↓e_call, ↓e_blt, ↓e_mth, ↓e_isin, ↓e_setlen, ↓cd_nil, ↓i_one, ↓t_t, ↓r_nil, ↓r_cons, ↓rr_nil, ↓rr_cons, ↓lp_n, ↓lp_c, ↓cd_con, ↓pt_con, ↓i_con, ↓cd_var, ↓pt_var, ↓i_var, ↓cd_glob, ↓pt_glob, ↓i_glob, ↓cd_tup, ↓pt_tup, ↓i_tup, ↓cd_lst, ↓pt_lst, ↓i_lst, ↓cd_bin, ↓pt_bin, ↓i_bin, ↓cd_neg, ↓pt_neg, ↓i_neg, ↓cd_cmp, ↓pt_cmp, ↓i_cmp, ↓cd_chain, ↓pt_chain, ↓i_chain, ↓cd_isN, ↓pt_isN, ↓i_isN, ↓cd_not, ↓pt_not, ↓i_not, ↓cd_and, ↓pt_and, ↓i_and, ↓cd_or, ↓pt_or, ↓i_or, ↓cd_ife, ↓pt_ife, ↓i_ife, ↓cd_idx, ↓pt_idx, ↓i_idx, ↓cd_slc, ↓pt_slc, ↓i_slc, ↓cd_rev, ↓pt_rev, ↓i_rev, ↓cd_call, ↓pt_call, ↓i_call, ↓cd_blt, ↓pt_blt, ↓i_blt, ↓cd_mth, ↓pt_mth, ↓i_mth, ↓cd_isin, ↓pt_isin, ↓i_isin, ↓cd_setlen, ↓pt_setlen, ↓i_setlen, ↓cd_lc, ↓pt_lc, ↓i_lc, s_seq, s_skip, s_pass, s_brk, s_cnt, s_retN, s_ret, s_ex, s_ite, s_ass, s_par, s_sub, s_app, s_frz, s_prm, e_con, e_glob, e_var, e_tup, e_lst, e_bin, e_neg, e_cmp, e_chain, e_isN, e_not, e_and, e_or, e_ife, e_idx, pt_nil, e_slc, e_rev, e_call, e_blt, e_mth, e_isin, e_setlen, cd_nil, i_one, t_t, r_nil, r_cons, rr_nil, rr_cons, lp_n, lp_c, cd_con, pt_con, i_con, cd_var, pt_var, i_var, cd_glob, pt_glob, i_glob, cd_tup, pt_tup, i_tup, cd_lst, pt_lst, i_lst, cd_bin, pt_bin, i_bin, cd_neg, pt_neg, i_neg, cd_cmp, pt_cmp, i_cmp, cd_chain, pt_chain, i_chain, cd_isN, pt_isN, i_isN, cd_not, pt_not, i_not, cd_and, pt_and, i_and, cd_or, pt_or, i_or, cd_ife, pt_ife, i_ife, cd_idx, pt_idx, i_idx, cd_slc, pt_slc, i_slc, cd_rev, pt_rev, i_rev, cd_call, pt_call, i_call, cd_blt, pt_blt, i_blt, cd_mth, pt_mth, i_mth, cd_isin, pt_isin, i_isin, cd_setlen, pt_setlen, i_setlen, cd_lc, pt_lc, i_lc, ↓e_lc, ↓s_for, e_lc, s_for, nxt_nx, nxt_rt, nxt_bk, nxt_ct, rtK_p, exK_p, iteK_t, iteK_f, nxO_e, assK_p, parK_p, subK3_p, subK2_p, subK1_p, subK_p, nx2_p, appK1_p, appK_p, okK_t, forL_p, frzK_o, frzK_s, prmK_o, prmK_s, varK_s, varK_o, tupK_p, lstK_p, wiK_a, binK1_p, binK_p, negK_i, blK_b, cmpK1_p, cmpK_p, chainK_t, chainK_f, chK1_p, chK_p, isNK_p, nblK_b, notK_p, andK_t, andK_f, anK_p, orK_t, orK_f, oK_p, ifeK_t, ifeK_f, ifK_p, idxK1_p, idxK_p, siK_i, aiK_p, slcK2_p, slcK1_p, slcK_p, revK_p, callE_p, bltK_p, mthK1_p, mthK0_t, mthK_p, isinK_p, slnK1_p, slnK0_p, slnK_p, soK_v, giK_p, trK1_b, trK_p, elK_t, elK_f, lcK1_p, lcK_p, tuK_p, itK1_p, itK2_p, itK_p, coK_p, rcK1_p, rcK_p, crK_p, rrK_p, l_tup, l_lst, l_kl, l_fr, l_br, g_pv, g_fr, d_lst, d_fr, d_br, d_str, d_int, d_bl, d_non, d_tup, tr_bl, tr_int, tr_non, tr_str, n_non, n_int, n_str, n_tup, n_lst, n_bl, n_ref, x_tup, x_lst, x_kl, x_fr, x_br, a_v, a_t, gt_pv, gt_fr, as_v, as_tt, as_tl, as_n, as_c, o_rtp, o_rtf, o_rtb, o_nx, lpK_nx, lpK_ct, lpK_bk, lpK_rt, foK_e, forK_p, itm_tup, itm_lst, itm_kl, itm_fr, itm_br, itm_etup, itm_elst, itm_ekl, itm_efr, itm_ebr, itm_r1, itm_r2, at_nat, at_0, at_1, at_2, at_3, at_4, at_5, at_6, at_7, p_ii, p_ss, p_tt, p_ff, p_bf, p_lf, p_fl, p_ll, p_bl, p_sub, p_mulL, p_mulR, p_divP, p_modP, p_pow, c_lt, c_le, c_gt, c_ge, eqK1_v, eqK2_v, c_eq, c_ne, c_in, c_ni, inK_v, in_tup, in_lst, in_kl, in_fr, in_br, f_abs, f_int, f_lenS, f_lent, f_lenl, f_lenk, f_lenf, f_lenb, f_listk, f_listl, f_listt, f_listf, f_tupl, f_tupt, f_tupf, f_tupb, f_all, f_any, anyK_b, f_sort1, f_sort1f, mo_il, mo_ib, mo_ik, mo_if, mo_cl, mo_cb, mo_cf, ixK0_n, ixMK_v, m_il, m_ib, m_if, coMK_v, m_cl, m_cb, m_cf, apo_s, apoK_o, apoK_r, boK_l, ap_s, apK_o, apK_r, bxK_l, gu_c, gu_e, ok_non, ok_bl, ok_int, catK_s, catK_n, turK_p, tu_n, tu_c, bo_n, bo_c, in_n, in_c, al_n, al_t, al_f, nu_n, nu_c, refK_l, x_ref, setK1_m, setK_l, set_ref, ixn_20, ixn_21, ixn_31, ixn_30, ixn_32, sl_tup, sl_lst, sl_fr, sl_br, rv_lst, rv_fr, rv_br, asI_i, b_some, m_some, List.getElem?_cons_succ, List.getElem?_cons_zero, List.getElem?_nil, List.set_cons_succ, List.set_cons_zero, List.length_cons, List.length_nil, lim, Nat.reduceAdd, Nat.reduceLeDiff, Int.reduceLT, Nat.reduceLT, Nat.lt_add_left_iff_pos, E.isNil, wipeE, Nat.zero_lt_succ, if_true, if_false, Bool.true_bne, Bool.false_bne, bne_self_eq_false, Bool.not_true, Bool.not_false, Bool.not_not, Bool.bne_false, Bool.bne_true]
  · have e : bare ⟨nm, td, kd, v :: re⟩ = !plK kd := by
      cases v <;> first | rfl | exact absurd hn (by decide)
    have e2 : ([PV.tup [.str "int"], .tup [.str "text"]].any fun z => pvEq z kd) = plK kd := rfl
    simp only [k_is_bare, b_is_bare, c_PLAIN, cell, hn, e, k1, k2, okP, e2, ↓s_seq, ↓s_skip, ↓s_pass, ↓s_brk, ↓s_cnt, ↓s_retN, ↓s_ret, ↓s_ex, ↓s_ite, ↓s_ass, ↓s_par, ↓s_sub, ↓s_app, ↓s_frz, ↓s_prm, ↓e_con, ↓e_glob, ↓e_var, ↓e_tup, ↓e_lst, ↓e_bin, ↓e_neg, ↓e_cmp, ↓e_chain, ↓e_isN, ↓e_not, ↓e_and, ↓e_or, ↓e_ife, ↓e_idx, ↓pt_nil, ↓e_slc, ↓e_rev, ↓e_call, ↓e_blt, ↓e_mth, ↓e_isin, ↓e_setlen, ↓cd_nil, ↓i_one, ↓t_t, ↓r_nil, ↓r_cons, ↓rr_nil, ↓rr_cons, ↓lp_n, ↓lp_c, ↓cd_con, ↓pt_con, ↓i_con, ↓cd_var, ↓pt_var, ↓i_var, ↓cd_glob, ↓pt_glob, ↓i_glob, ↓cd_tup, ↓pt_tup, ↓i_tup, ↓cd_lst, ↓pt_lst, ↓i_lst, ↓cd_bin, ↓pt_bin, ↓i_bin, ↓cd_neg, ↓pt_neg, ↓i_neg, ↓cd_cmp, ↓pt_cmp, ↓i_cmp, ↓cd_chain, ↓pt_chain, ↓i_chain, ↓cd_isN, ↓pt_isN, ↓i_isN, ↓cd_not, ↓pt_not, ↓i_not, ↓cd_and, ↓pt_and, ↓i_and, ↓cd_or, ↓pt_or, ↓i_or, ↓cd_ife, ↓pt_ife, ↓i_ife, ↓cd_idx, ↓pt_idx, ↓i_idx, ↓cd_slc, ↓pt_slc, ↓i_slc, ↓cd_rev, ↓pt_rev, ↓i_rev, ↓cd_call, ↓pt_call, ↓i_call, ↓cd_blt, ↓pt_blt, ↓i_blt, ↓cd_mth, ↓pt_mth, ↓i_mth, ↓cd_isin, ↓pt_isin, ↓i_isin, ↓cd_setlen, ↓pt_setlen, ↓i_setlen, ↓cd_lc, ↓pt_lc, ↓i_lc, s_seq, s_skip, s_pass, s_brk, s_cnt, s_retN, s_ret, s_ex, s_ite, s_ass, s_par, s_sub, s_app, s_frz, s_prm, e_con, e_glob, e_var, e_tup, e_lst, e_bin, e_neg, e_cmp, e_chain, e_isN, e_not, e_and, e_or, e_ife, e_idx, pt_nil, e_slc, e_rev, e_call, e_blt, e_mth, e_isin, e_setlen, cd_nil, i_one, t_t, r_nil, r_cons, rr_nil, rr_cons, lp_n, lp_c, cd_con, pt_con, i_con, cd_var, pt_var, i_var, cd_glob, pt_glob, i_glob, cd_tup, pt_tup, i_tup, cd_lst, pt_lst, i_lst, cd_bin, pt_bin, i_bin, cd_neg, pt_neg, i_neg, cd_cmp, pt_cmp, i_cmp, cd_chain, pt_chain, i_chain, cd_isN, pt_isN, i_isN, cd_not, pt_not, i_not, cd_and, pt_and, i_and, cd_or, pt_or, i_or, cd_ife, pt_ife, i_ife, cd_idx, pt_idx, i_idx, cd_slc, pt_slc, i_slc, cd_rev, pt_rev, i_rev, cd_call, pt_call, i_call, cd_blt, pt_blt, i_blt, cd_mth, pt_mth, i_mth, cd_isin, pt_isin, i_isin, cd_setlen, pt_setlen, i_setlen, cd_lc, pt_lc, i_lc, ↓e_lc, ↓s_for, e_lc, s_for, nxt_nx, nxt_rt, nxt_bk, nxt_ct, rtK_p, exK_p, iteK_t, iteK_f, nxO_e, assK_p, parK_p, subK3_p, subK2_p, subK1_p, subK_p, nx2_p, appK1_p, appK_p, okK_t, forL_p, frzK_o, frzK_s, prmK_o, prmK_s, varK_s, varK_o, tupK_p, lstK_p, wiK_a, binK1_p, binK_p, negK_i, blK_b, cmpK1_p, cmpK_p, chainK_t, chainK_f, chK1_p, chK_p, isNK_p, nblK_b, notK_p, andK_t, andK_f, anK_p, orK_t, orK_f, oK_p, ifeK_t, ifeK_f, ifK_p, idxK1_p, idxK_p, siK_i, aiK_p, slcK2_p, slcK1_p, slcK_p, revK_p, callE_p, bltK_p, mthK1_p, mthK0_t, mthK_p, isinK_p, slnK1_p, slnK0_p, slnK_p, soK_v, giK_p, trK1_b, trK_p, elK_t, elK_f, lcK1_p, lcK_p, tuK_p, itK1_p, itK2_p, itK_p, coK_p, rcK1_p, rcK_p, crK_p, rrK_p, l_tup, l_lst, l_kl, l_fr, l_br, g_pv, g_fr, d_lst, d_fr, d_br, d_str, d_int, d_bl, d_non, d_tup, tr_bl, tr_int, tr_non, tr_str, n_non, n_int, n_str, n_tup, n_lst, n_bl, n_ref, x_tup, x_lst, x_kl, x_fr, x_br, a_v, a_t, gt_pv, gt_fr, as_v, as_tt, as_tl, as_n, as_c, o_rtp, o_rtf, o_rtb, o_nx, lpK_nx, lpK_ct, lpK_bk, lpK_rt, foK_e, forK_p, itm_tup, itm_lst, itm_kl, itm_fr, itm_br, itm_etup, itm_elst, itm_ekl, itm_efr, itm_ebr, itm_r1, itm_r2, at_nat, at_0, at_1, at_2, at_3, at_4, at_5, at_6, at_7, p_ii, p_ss, p_tt, p_ff, p_bf, p_lf, p_fl, p_ll, p_bl, p_sub, p_mulL, p_mulR, p_divP, p_modP, p_pow, c_lt, c_le, c_gt, c_ge, eqK1_v, eqK2_v, c_eq, c_ne, c_in, c_ni, inK_v, in_tup, in_lst, in_kl, in_fr, in_br, f_abs, f_int, f_lenS, f_lent, f_lenl, f_lenk, f_lenf, f_lenb, f_listk, f_listl, f_listt, f_listf, f_tupl, f_tupt, f_tupf, f_tupb, f_all, f_any, anyK_b, f_sort1, f_sort1f, mo_il, mo_ib, mo_ik, mo_if, mo_cl, mo_cb, mo_cf, ixK0_n, ixMK_v, m_il, m_ib, m_if, coMK_v, m_cl, m_cb, m_cf, apo_s, apoK_o, apoK_r, boK_l, ap_s, apK_o, apK_r, bxK_l, gu_c, gu_e, ok_non, ok_bl, ok_int, catK_s, catK_n, turK_p, tu_n, tu_c, bo_n, bo_c, in_n, in_c, al_n, al_t, al_f, nu_n, nu_c, refK_l, x_ref, setK1_m, setK_l, set_ref, ixn_20, ixn_21, ixn_31, ixn_30, ixn_32, sl_tup, sl_lst, sl_fr, sl_br, rv_lst, rv_fr, rv_br, asI_i, b_some, m_some, List.getElem?_cons_succ, List.getElem?_cons_zero, List.getElem?_nil, List.set_cons_succ, List.set_cons_zero, List.length_cons, List.length_nil, lim, Nat.reduceAdd, Nat.reduceLeDiff, Int.reduceLT, Nat.reduceLT, Nat.lt_add_left_iff_pos, E.isNil, wipeE, Nat.zero_lt_succ, if_true, if_false, Bool.true_bne, Bool.false_bne, bne_self_eq_false, Bool.not_true, Bool.not_false, Bool.not_not, Bool.bne_false, Bool.bne_true]
/-! ### fields_in, field_objections -/
def prog (fs rt : List PV) : PV := .tup [.tup [.tup [.str "Box", .bl false, .tup [.tup [.str "Box", .tup fs]]]], .tup rt, .tup []]
theorem okBox : okD (.str "Box") = true := by decide +kernel
theorem eqBox : pvEq (.str "Box") (.str "Box") = true := by decide +kernel
theorem fields_in_ok (k : Nat) (h : Hh) {fs rt : List PV} : callK G.ds (k + 2) 1 [prog fs rt, .str "Box", .str "Box"] h = some (.pv (.tup fs), h) := by
  simp only [k_fields_in, b_fields_in, k_named, b_named, l_named_0, prog, okBox, eqBox, lp_c, ↓s_seq, ↓s_skip, ↓s_pass, ↓s_brk, ↓s_cnt, ↓s_retN, ↓s_ret, ↓s_ex, ↓s_ite, ↓s_ass, ↓s_par, ↓s_sub, ↓s_app, ↓s_frz, ↓s_prm, ↓e_con, ↓e_glob, ↓e_var, ↓e_tup, ↓e_lst, ↓e_bin, ↓e_neg, ↓e_cmp, ↓e_chain, ↓e_isN, ↓e_not, ↓e_and, ↓e_or, ↓e_ife, ↓e_idx, ↓pt_nil, ↓e_slc, ↓e_rev, ↓e_call, ↓e_blt, ↓e_mth, ↓e_isin, ↓e_setlen, ↓cd_nil, ↓i_one, ↓t_t, ↓r_nil, ↓r_cons, ↓rr_nil, ↓rr_cons, ↓lp_n, ↓lp_c, ↓cd_con, ↓pt_con, ↓i_con, ↓cd_var, ↓pt_var, ↓i_var, ↓cd_glob, ↓pt_glob, ↓i_glob, ↓cd_tup, ↓pt_tup, ↓i_tup, ↓cd_lst, ↓pt_lst, ↓i_lst, ↓cd_bin, ↓pt_bin, ↓i_bin, ↓cd_neg, ↓pt_neg, ↓i_neg, ↓cd_cmp, ↓pt_cmp, ↓i_cmp, ↓cd_chain, ↓pt_chain, ↓i_chain, ↓cd_isN, ↓pt_isN, ↓i_isN, ↓cd_not, ↓pt_not, ↓i_not, ↓cd_and, ↓pt_and, ↓i_and, ↓cd_or, ↓pt_or, ↓i_or, ↓cd_ife, ↓pt_ife, ↓i_ife, ↓cd_idx, ↓pt_idx, ↓i_idx, ↓cd_slc, ↓pt_slc, ↓i_slc, ↓cd_rev, ↓pt_rev, ↓i_rev, ↓cd_call, ↓pt_call, ↓i_call, ↓cd_blt, ↓pt_blt, ↓i_blt, ↓cd_mth, ↓pt_mth, ↓i_mth, ↓cd_isin, ↓pt_isin, ↓i_isin, ↓cd_setlen, ↓pt_setlen, ↓i_setlen, ↓cd_lc, ↓pt_lc, ↓i_lc, s_seq, s_skip, s_pass, s_brk, s_cnt, s_retN, s_ret, s_ex, s_ite, s_ass, s_par, s_sub, s_app, s_frz, s_prm, e_con, e_glob, e_var, e_tup, e_lst, e_bin, e_neg, e_cmp, e_chain, e_isN, e_not, e_and, e_or, e_ife, e_idx, pt_nil, e_slc, e_rev, e_call, e_blt, e_mth, e_isin, e_setlen, cd_nil, i_one, t_t, r_nil, r_cons, rr_nil, rr_cons, lp_n, lp_c, cd_con, pt_con, i_con, cd_var, pt_var, i_var, cd_glob, pt_glob, i_glob, cd_tup, pt_tup, i_tup, cd_lst, pt_lst, i_lst, cd_bin, pt_bin, i_bin, cd_neg, pt_neg, i_neg, cd_cmp, pt_cmp, i_cmp, cd_chain, pt_chain, i_chain, cd_isN, pt_isN, i_isN, cd_not, pt_not, i_not, cd_and, pt_and, i_and, cd_or, pt_or, i_or, cd_ife, pt_ife, i_ife, cd_idx, pt_idx, i_idx, cd_slc, pt_slc, i_slc, cd_rev, pt_rev, i_rev, cd_call, pt_call, i_call, cd_blt, pt_blt, i_blt, cd_mth, pt_mth, i_mth, cd_isin, pt_isin, i_isin, cd_setlen, pt_setlen, i_setlen, cd_lc, pt_lc, i_lc, ↓e_lc, ↓s_for, e_lc, s_for, nxt_nx, nxt_rt, nxt_bk, nxt_ct, rtK_p, exK_p, iteK_t, iteK_f, nxO_e, assK_p, parK_p, subK3_p, subK2_p, subK1_p, subK_p, nx2_p, appK1_p, appK_p, okK_t, forL_p, frzK_o, frzK_s, prmK_o, prmK_s, varK_s, varK_o, tupK_p, lstK_p, wiK_a, binK1_p, binK_p, negK_i, blK_b, cmpK1_p, cmpK_p, chainK_t, chainK_f, chK1_p, chK_p, isNK_p, nblK_b, notK_p, andK_t, andK_f, anK_p, orK_t, orK_f, oK_p, ifeK_t, ifeK_f, ifK_p, idxK1_p, idxK_p, siK_i, aiK_p, slcK2_p, slcK1_p, slcK_p, revK_p, callE_p, bltK_p, mthK1_p, mthK0_t, mthK_p, isinK_p, slnK1_p, slnK0_p, slnK_p, soK_v, giK_p, trK1_b, trK_p, elK_t, elK_f, lcK1_p, lcK_p, tuK_p, itK1_p, itK2_p, itK_p, coK_p, rcK1_p, rcK_p, crK_p, rrK_p, l_tup, l_lst, l_kl, l_fr, l_br, g_pv, g_fr, d_lst, d_fr, d_br, d_str, d_int, d_bl, d_non, d_tup, tr_bl, tr_int, tr_non, tr_str, n_non, n_int, n_str, n_tup, n_lst, n_bl, n_ref, x_tup, x_lst, x_kl, x_fr, x_br, a_v, a_t, gt_pv, gt_fr, as_v, as_tt, as_tl, as_n, as_c, o_rtp, o_rtf, o_rtb, o_nx, lpK_nx, lpK_ct, lpK_bk, lpK_rt, foK_e, forK_p, itm_tup, itm_lst, itm_kl, itm_fr, itm_br, itm_etup, itm_elst, itm_ekl, itm_efr, itm_ebr, itm_r1, itm_r2, at_nat, at_0, at_1, at_2, at_3, at_4, at_5, at_6, at_7, p_ii, p_ss, p_tt, p_ff, p_bf, p_lf, p_fl, p_ll, p_bl, p_sub, p_mulL, p_mulR, p_divP, p_modP, p_pow, c_lt, c_le, c_gt, c_ge, eqK1_v, eqK2_v, c_eq, c_ne, c_in, c_ni, inK_v, in_tup, in_lst, in_kl, in_fr, in_br, f_abs, f_int, f_lenS, f_lent, f_lenl, f_lenk, f_lenf, f_lenb, f_listk, f_listl, f_listt, f_listf, f_tupl, f_tupt, f_tupf, f_tupb, f_all, f_any, anyK_b, f_sort1, f_sort1f, mo_il, mo_ib, mo_ik, mo_if, mo_cl, mo_cb, mo_cf, ixK0_n, ixMK_v, m_il, m_ib, m_if, coMK_v, m_cl, m_cb, m_cf, apo_s, apoK_o, apoK_r, boK_l, ap_s, apK_o, apK_r, bxK_l, gu_c, gu_e, ok_non, ok_bl, ok_int, catK_s, catK_n, turK_p, tu_n, tu_c, bo_n, bo_c, in_n, in_c, al_n, al_t, al_f, nu_n, nu_c, refK_l, x_ref, setK1_m, setK_l, set_ref, ixn_20, ixn_21, ixn_31, ixn_30, ixn_32, sl_tup, sl_lst, sl_fr, sl_br, rv_lst, rv_fr, rv_br, asI_i, b_some, m_some, List.getElem?_cons_succ, List.getElem?_cons_zero, List.getElem?_nil, List.set_cons_succ, List.set_cons_zero, List.length_cons, List.length_nil, lim, Nat.reduceAdd, Nat.reduceLeDiff, Int.reduceLT, Nat.reduceLT, Nat.lt_add_left_iff_pos, E.isNil, wipeE, Nat.zero_lt_succ, if_true, if_false, Bool.true_bne, Bool.false_bne, bne_self_eq_false, Bool.not_true, Bool.not_false, Bool.not_not, Bool.bne_false, Bool.bne_true]
theorem flat_le {α β : Type} {g : α → List β} : ∀ {xs : List α}, (∀ x ∈ xs, (g x).length ≤ 1) → (xs.flatMap g).length ≤ xs.length
  | [], _ => Nat.le_refl _
  | x :: xs, h => by
    rw [List.flatMap_cons, List.length_append, List.length_cons]
    have h1 := h x List.mem_cons_self
    have h2 := flat_le (g := g) (xs := xs) fun y m => h y (List.mem_cons_of_mem _ m)
    omega
theorem flat_one {α β : Type} {g : α → β} : ∀ xs : List α, (xs.flatMap fun r => [g r]) = xs.map g
  | [] => rfl
  | x :: xs => by rw [List.flatMap_cons, flat_one xs]; rfl
/-- what one field is told -/
def fword (el rs : List Row) (i : Nat) (r : Row) : Option Str := match word el rs i r with
  | some w => some w
  | none => if (src el r).isNone && bare r then some ("new" : Str) else none
def objF (pl : List PV) (el rs : List Row) (p : Row × Nat) : List PV := ((fword el rs p.2 p.1).map fun w => PV.tup [.tup (pl ++ [.int 1, .int p.2]), .str w]).toList
theorem field_ok (k : Nat) (h : Hh) {pl rt : List PV} {el rs : List Row} (hel : ∀ e ∈ el, Good e) (hrs : ∀ e ∈ rs, Good e) (hl : el.length ≤ 100) (hl2 : rs.length ≤ 100) (hv : ∀ e ∈ rs, ∃ v re, e.rest = v :: re) (hp : pl.length + 2 ≤ 16777216) :
    callK G.ds (k + 3) 6 [prog (el.map cell) rt, .str "Box", .tup pl, .tup [.str "Box", .tup (rs.map cell)]] h = some (.fr (.l (rs.zipIdx.flatMap (objF pl el rs))), h) := by
  have fi := fields_in_ok k h (fs := el.map cell) (rt := rt)
  have lpF : ∃ j : Sl × Sl × Sl × Sl, loop (forK (callK G.ds (k + 2)) (.t (.cons (.v 6) (.cons (.v 7) .nil))) (.seq (.ass (.v 8) (.bin .Add (.var 2) (.tup (.cons (.con (.int 1)) (.cons (.var 6) .nil))))) (.frz 8 (.seq (.ass (.v 9) (.call 4 (.cons (.ife (.isN false (.var 4)) (.tup .nil) (.var 4)) (.cons (.idx (.var 3) (.con (.int 1))) (.cons (.var 6) .nil))))) (.frz 9 (.seq (.ite (.isN true (.var 9)) (.seq (.app 5 (.tup (.cons (.var 8) (.cons (.var 9) .nil)))) .skip) (.seq (.ite (.and (.isN true (.var 4)) (.and (.isN false (.call 2 (.cons (.var 4) (.cons (.var 7) .nil)))) (.call 5 (.cons (.var 7) .nil)))) (.seq (.app 5 (.tup (.cons (.var 8) (.cons (.con (.str "new")) .nil)))) .skip) .skip) .skip)) .skip)))))) (numbered 0 (rs.map cell))
      [.sh (prog (el.map cell) rt), .sh (.str "Box"), .sh (.tup pl), .sh (.tup [.str "Box", .tup (rs.map cell)]), .sh (.tup (el.map cell)), .ow (.l []), .un, .un, .un, .un] h =
      some (.nx [.sh (prog (el.map cell) rt), .sh (.str "Box"), .sh (.tup pl), .sh (.tup [.str "Box", .tup (rs.map cell)]), .sh (.tup (el.map cell)), .ow (.l (rs.zipIdx.flatMap (objF pl el rs))), j.1, j.2.1, j.2.2.1, j.2.2.2] h) := by
    rw [numbered_map]
    refine loop_app (J := Sl × Sl × Sl × Sl) (M := 100) (E := fun j acc => [.sh (prog (el.map cell) rt), .sh (.str "Box"), .sh (.tup pl), .sh (.tup [.str "Box", .tup (rs.map cell)]), .sh (.tup (el.map cell)), .ow (.l acc), j.1, j.2.1, j.2.2.1, j.2.2.2]) (g := objF pl el rs) rs.zipIdx (.un, .un, .un, .un) [] ?_ ?_
    · have : (rs.zipIdx.flatMap (objF pl el rs)).length ≤ rs.zipIdx.length := flat_le fun x _ => by
        unfold objF
        cases fword el rs x.2 x.1 <;> simp
      rw [List.length_zipIdx] at this
      simp only [List.length_nil]
      omega
    · rintro ⟨r, i⟩ m ⟨j1, j2, j3, j4⟩ acc hb
      have hi : rs[i]? = some r := List.mem_zipIdx_iff_getElem?.mp m
      have wa := word_against_ok k h hi hel hrs hl hl2
      have mr := List.mem_of_getElem? hi
      have sr := source_in_ok (k + 1) h hel hl (hrs r mr)
      obtain ⟨v, re, hv⟩ := hv r mr
      have ib := is_bare_ok (k + 1) h hv (hrs r mr)
      simp only [objF, fword] at hb ⊢
      cases hw : word el rs i r with
      | some w =>
        rw [hw] at wa hb
        have hb2 : acc.length < 16777216 := by simp at hb; omega
        exact ⟨(.sh (.int i), .sh (cell r), .sh (.tup (pl ++ [.int 1, .int i])), .sh (.str w)), by simp only [wa, tp_n, tp_s, hp, hb2, Option.toList_none, Option.toList_some, Option.map_none, ↓s_seq, ↓s_skip, ↓s_pass, ↓s_brk, ↓s_cnt, ↓s_retN, ↓s_ret, ↓s_ex, ↓s_ite, ↓s_ass, ↓s_par, ↓s_sub, ↓s_app, ↓s_frz, ↓s_prm, ↓e_con, ↓e_glob, ↓e_var, ↓e_tup, ↓e_lst, ↓e_bin, ↓e_neg, ↓e_cmp, ↓e_chain, ↓e_isN, ↓e_not, ↓e_and, ↓e_or, ↓e_ife, ↓e_idx, ↓pt_nil, ↓e_slc, ↓e_rev, ↓e_call, ↓e_blt, ↓e_mth, ↓e_isin, ↓e_setlen, ↓cd_nil, ↓i_one, ↓t_t, ↓r_nil, ↓r_cons, ↓rr_nil, ↓rr_cons, ↓lp_n, ↓lp_c, ↓cd_con, ↓pt_con, ↓i_con, ↓cd_var, ↓pt_var, ↓i_var, ↓cd_glob, ↓pt_glob, ↓i_glob, ↓cd_tup, ↓pt_tup, ↓i_tup, ↓cd_lst, ↓pt_lst, ↓i_lst, ↓cd_bin, ↓pt_bin, ↓i_bin, ↓cd_neg, ↓pt_neg, ↓i_neg, ↓cd_cmp, ↓pt_cmp, ↓i_cmp, ↓cd_chain, ↓pt_chain, ↓i_chain, ↓cd_isN, ↓pt_isN, ↓i_isN, ↓cd_not, ↓pt_not, ↓i_not, ↓cd_and, ↓pt_and, ↓i_and, ↓cd_or, ↓pt_or, ↓i_or, ↓cd_ife, ↓pt_ife, ↓i_ife, ↓cd_idx, ↓pt_idx, ↓i_idx, ↓cd_slc, ↓pt_slc, ↓i_slc, ↓cd_rev, ↓pt_rev, ↓i_rev, ↓cd_call, ↓pt_call, ↓i_call, ↓cd_blt, ↓pt_blt, ↓i_blt, ↓cd_mth, ↓pt_mth, ↓i_mth, ↓cd_isin, ↓pt_isin, ↓i_isin, ↓cd_setlen, ↓pt_setlen, ↓i_setlen, ↓cd_lc, ↓pt_lc, ↓i_lc, s_seq, s_skip, s_pass, s_brk, s_cnt, s_retN, s_ret, s_ex, s_ite, s_ass, s_par, s_sub, s_app, s_frz, s_prm, e_con, e_glob, e_var, e_tup, e_lst, e_bin, e_neg, e_cmp, e_chain, e_isN, e_not, e_and, e_or, e_ife, e_idx, pt_nil, e_slc, e_rev, e_call, e_blt, e_mth, e_isin, e_setlen, cd_nil, i_one, t_t, r_nil, r_cons, rr_nil, rr_cons, lp_n, lp_c, cd_con, pt_con, i_con, cd_var, pt_var, i_var, cd_glob, pt_glob, i_glob, cd_tup, pt_tup, i_tup, cd_lst, pt_lst, i_lst, cd_bin, pt_bin, i_bin, cd_neg, pt_neg, i_neg, cd_cmp, pt_cmp, i_cmp, cd_chain, pt_chain, i_chain, cd_isN, pt_isN, i_isN, cd_not, pt_not, i_not, cd_and, pt_and, i_and, cd_or, pt_or, i_or, cd_ife, pt_ife, i_ife, cd_idx, pt_idx, i_idx, cd_slc, pt_slc, i_slc, cd_rev, pt_rev, i_rev, cd_call, pt_call, i_call, cd_blt, pt_blt, i_blt, cd_mth, pt_mth, i_mth, cd_isin, pt_isin, i_isin, cd_setlen, pt_setlen, i_setlen, cd_lc, pt_lc, i_lc, ↓e_lc, ↓s_for, e_lc, s_for, nxt_nx, nxt_rt, nxt_bk, nxt_ct, rtK_p, exK_p, iteK_t, iteK_f, nxO_e, assK_p, parK_p, subK3_p, subK2_p, subK1_p, subK_p, nx2_p, appK1_p, appK_p, okK_t, forL_p, frzK_o, frzK_s, prmK_o, prmK_s, varK_s, varK_o, tupK_p, lstK_p, wiK_a, binK1_p, binK_p, negK_i, blK_b, cmpK1_p, cmpK_p, chainK_t, chainK_f, chK1_p, chK_p, isNK_p, nblK_b, notK_p, andK_t, andK_f, anK_p, orK_t, orK_f, oK_p, ifeK_t, ifeK_f, ifK_p, idxK1_p, idxK_p, siK_i, aiK_p, slcK2_p, slcK1_p, slcK_p, revK_p, callE_p, bltK_p, mthK1_p, mthK0_t, mthK_p, isinK_p, slnK1_p, slnK0_p, slnK_p, soK_v, giK_p, trK1_b, trK_p, elK_t, elK_f, lcK1_p, lcK_p, tuK_p, itK1_p, itK2_p, itK_p, coK_p, rcK1_p, rcK_p, crK_p, rrK_p, l_tup, l_lst, l_kl, l_fr, l_br, g_pv, g_fr, d_lst, d_fr, d_br, d_str, d_int, d_bl, d_non, d_tup, tr_bl, tr_int, tr_non, tr_str, n_non, n_int, n_str, n_tup, n_lst, n_bl, n_ref, x_tup, x_lst, x_kl, x_fr, x_br, a_v, a_t, gt_pv, gt_fr, as_v, as_tt, as_tl, as_n, as_c, o_rtp, o_rtf, o_rtb, o_nx, lpK_nx, lpK_ct, lpK_bk, lpK_rt, foK_e, forK_p, itm_tup, itm_lst, itm_kl, itm_fr, itm_br, itm_etup, itm_elst, itm_ekl, itm_efr, itm_ebr, itm_r1, itm_r2, at_nat, at_0, at_1, at_2, at_3, at_4, at_5, at_6, at_7, p_ii, p_ss, p_tt, p_ff, p_bf, p_lf, p_fl, p_ll, p_bl, p_sub, p_mulL, p_mulR, p_divP, p_modP, p_pow, c_lt, c_le, c_gt, c_ge, eqK1_v, eqK2_v, c_eq, c_ne, c_in, c_ni, inK_v, in_tup, in_lst, in_kl, in_fr, in_br, f_abs, f_int, f_lenS, f_lent, f_lenl, f_lenk, f_lenf, f_lenb, f_listk, f_listl, f_listt, f_listf, f_tupl, f_tupt, f_tupf, f_tupb, f_all, f_any, anyK_b, f_sort1, f_sort1f, mo_il, mo_ib, mo_ik, mo_if, mo_cl, mo_cb, mo_cf, ixK0_n, ixMK_v, m_il, m_ib, m_if, coMK_v, m_cl, m_cb, m_cf, apo_s, apoK_o, apoK_r, boK_l, ap_s, apK_o, apK_r, bxK_l, gu_c, gu_e, ok_non, ok_bl, ok_int, catK_s, catK_n, turK_p, tu_n, tu_c, bo_n, bo_c, in_n, in_c, al_n, al_t, al_f, nu_n, nu_c, refK_l, x_ref, setK1_m, setK_l, set_ref, ixn_20, ixn_21, ixn_31, ixn_30, ixn_32, sl_tup, sl_lst, sl_fr, sl_br, rv_lst, rv_fr, rv_br, asI_i, b_some, m_some, List.getElem?_cons_succ, List.getElem?_cons_zero, List.getElem?_nil, List.set_cons_succ, List.set_cons_zero, List.length_cons, List.length_nil, lim, Nat.reduceAdd, Nat.reduceLeDiff, Int.reduceLT, Nat.reduceLT, Nat.lt_add_left_iff_pos, E.isNil, wipeE, Nat.zero_lt_succ, if_true, if_false, Bool.true_bne, Bool.false_bne, bne_self_eq_false, Bool.not_true, Bool.not_false, Bool.not_not, Bool.bne_false, Bool.bne_true]⟩
      | none =>
        rw [hw] at wa hb
        cases hs : src el r with
        | some j =>
          rw [hs] at sr
          exact ⟨(.sh (.int i), .sh (cell r), .sh (.tup (pl ++ [.int 1, .int i])), .sh .non), by simp only [wa, sr, tp_n, np_s, hp, Option.toList_none, Option.toList_some, Option.map_none, Option.isNone_some, Bool.false_and, Bool.false_eq_true, List.append_nil, ↓s_seq, ↓s_skip, ↓s_pass, ↓s_brk, ↓s_cnt, ↓s_retN, ↓s_ret, ↓s_ex, ↓s_ite, ↓s_ass, ↓s_par, ↓s_sub, ↓s_app, ↓s_frz, ↓s_prm, ↓e_con, ↓e_glob, ↓e_var, ↓e_tup, ↓e_lst, ↓e_bin, ↓e_neg, ↓e_cmp, ↓e_chain, ↓e_isN, ↓e_not, ↓e_and, ↓e_or, ↓e_ife, ↓e_idx, ↓pt_nil, ↓e_slc, ↓e_rev, ↓e_call, ↓e_blt, ↓e_mth, ↓e_isin, ↓e_setlen, ↓cd_nil, ↓i_one, ↓t_t, ↓r_nil, ↓r_cons, ↓rr_nil, ↓rr_cons, ↓lp_n, ↓lp_c, ↓cd_con, ↓pt_con, ↓i_con, ↓cd_var, ↓pt_var, ↓i_var, ↓cd_glob, ↓pt_glob, ↓i_glob, ↓cd_tup, ↓pt_tup, ↓i_tup, ↓cd_lst, ↓pt_lst, ↓i_lst, ↓cd_bin, ↓pt_bin, ↓i_bin, ↓cd_neg, ↓pt_neg, ↓i_neg, ↓cd_cmp, ↓pt_cmp, ↓i_cmp, ↓cd_chain, ↓pt_chain, ↓i_chain, ↓cd_isN, ↓pt_isN, ↓i_isN, ↓cd_not, ↓pt_not, ↓i_not, ↓cd_and, ↓pt_and, ↓i_and, ↓cd_or, ↓pt_or, ↓i_or, ↓cd_ife, ↓pt_ife, ↓i_ife, ↓cd_idx, ↓pt_idx, ↓i_idx, ↓cd_slc, ↓pt_slc, ↓i_slc, ↓cd_rev, ↓pt_rev, ↓i_rev, ↓cd_call, ↓pt_call, ↓i_call, ↓cd_blt, ↓pt_blt, ↓i_blt, ↓cd_mth, ↓pt_mth, ↓i_mth, ↓cd_isin, ↓pt_isin, ↓i_isin, ↓cd_setlen, ↓pt_setlen, ↓i_setlen, ↓cd_lc, ↓pt_lc, ↓i_lc, s_seq, s_skip, s_pass, s_brk, s_cnt, s_retN, s_ret, s_ex, s_ite, s_ass, s_par, s_sub, s_app, s_frz, s_prm, e_con, e_glob, e_var, e_tup, e_lst, e_bin, e_neg, e_cmp, e_chain, e_isN, e_not, e_and, e_or, e_ife, e_idx, pt_nil, e_slc, e_rev, e_call, e_blt, e_mth, e_isin, e_setlen, cd_nil, i_one, t_t, r_nil, r_cons, rr_nil, rr_cons, lp_n, lp_c, cd_con, pt_con, i_con, cd_var, pt_var, i_var, cd_glob, pt_glob, i_glob, cd_tup, pt_tup, i_tup, cd_lst, pt_lst, i_lst, cd_bin, pt_bin, i_bin, cd_neg, pt_neg, i_neg, cd_cmp, pt_cmp, i_cmp, cd_chain, pt_chain, i_chain, cd_isN, pt_isN, i_isN, cd_not, pt_not, i_not, cd_and, pt_and, i_and, cd_or, pt_or, i_or, cd_ife, pt_ife, i_ife, cd_idx, pt_idx, i_idx, cd_slc, pt_slc, i_slc, cd_rev, pt_rev, i_rev, cd_call, pt_call, i_call, cd_blt, pt_blt, i_blt, cd_mth, pt_mth, i_mth, cd_isin, pt_isin, i_isin, cd_setlen, pt_setlen, i_setlen, cd_lc, pt_lc, i_lc, ↓e_lc, ↓s_for, e_lc, s_for, nxt_nx, nxt_rt, nxt_bk, nxt_ct, rtK_p, exK_p, iteK_t, iteK_f, nxO_e, assK_p, parK_p, subK3_p, subK2_p, subK1_p, subK_p, nx2_p, appK1_p, appK_p, okK_t, forL_p, frzK_o, frzK_s, prmK_o, prmK_s, varK_s, varK_o, tupK_p, lstK_p, wiK_a, binK1_p, binK_p, negK_i, blK_b, cmpK1_p, cmpK_p, chainK_t, chainK_f, chK1_p, chK_p, isNK_p, nblK_b, notK_p, andK_t, andK_f, anK_p, orK_t, orK_f, oK_p, ifeK_t, ifeK_f, ifK_p, idxK1_p, idxK_p, siK_i, aiK_p, slcK2_p, slcK1_p, slcK_p, revK_p, callE_p, bltK_p, mthK1_p, mthK0_t, mthK_p, isinK_p, slnK1_p, slnK0_p, slnK_p, soK_v, giK_p, trK1_b, trK_p, elK_t, elK_f, lcK1_p, lcK_p, tuK_p, itK1_p, itK2_p, itK_p, coK_p, rcK1_p, rcK_p, crK_p, rrK_p, l_tup, l_lst, l_kl, l_fr, l_br, g_pv, g_fr, d_lst, d_fr, d_br, d_str, d_int, d_bl, d_non, d_tup, tr_bl, tr_int, tr_non, tr_str, n_non, n_int, n_str, n_tup, n_lst, n_bl, n_ref, x_tup, x_lst, x_kl, x_fr, x_br, a_v, a_t, gt_pv, gt_fr, as_v, as_tt, as_tl, as_n, as_c, o_rtp, o_rtf, o_rtb, o_nx, lpK_nx, lpK_ct, lpK_bk, lpK_rt, foK_e, forK_p, itm_tup, itm_lst, itm_kl, itm_fr, itm_br, itm_etup, itm_elst, itm_ekl, itm_efr, itm_ebr, itm_r1, itm_r2, at_nat, at_0, at_1, at_2, at_3, at_4, at_5, at_6, at_7, p_ii, p_ss, p_tt, p_ff, p_bf, p_lf, p_fl, p_ll, p_bl, p_sub, p_mulL, p_mulR, p_divP, p_modP, p_pow, c_lt, c_le, c_gt, c_ge, eqK1_v, eqK2_v, c_eq, c_ne, c_in, c_ni, inK_v, in_tup, in_lst, in_kl, in_fr, in_br, f_abs, f_int, f_lenS, f_lent, f_lenl, f_lenk, f_lenf, f_lenb, f_listk, f_listl, f_listt, f_listf, f_tupl, f_tupt, f_tupf, f_tupb, f_all, f_any, anyK_b, f_sort1, f_sort1f, mo_il, mo_ib, mo_ik, mo_if, mo_cl, mo_cb, mo_cf, ixK0_n, ixMK_v, m_il, m_ib, m_if, coMK_v, m_cl, m_cb, m_cf, apo_s, apoK_o, apoK_r, boK_l, ap_s, apK_o, apK_r, bxK_l, gu_c, gu_e, ok_non, ok_bl, ok_int, catK_s, catK_n, turK_p, tu_n, tu_c, bo_n, bo_c, in_n, in_c, al_n, al_t, al_f, nu_n, nu_c, refK_l, x_ref, setK1_m, setK_l, set_ref, ixn_20, ixn_21, ixn_31, ixn_30, ixn_32, sl_tup, sl_lst, sl_fr, sl_br, rv_lst, rv_fr, rv_br, asI_i, b_some, m_some, List.getElem?_cons_succ, List.getElem?_cons_zero, List.getElem?_nil, List.set_cons_succ, List.set_cons_zero, List.length_cons, List.length_nil, lim, Nat.reduceAdd, Nat.reduceLeDiff, Int.reduceLT, Nat.reduceLT, Nat.lt_add_left_iff_pos, E.isNil, wipeE, Nat.zero_lt_succ, if_true, if_false, Bool.true_bne, Bool.false_bne, bne_self_eq_false, Bool.not_true, Bool.not_false, Bool.not_not, Bool.bne_false, Bool.bne_true]⟩
        | none =>
          rw [hs] at sr hb
          cases hba : bare r with
          | true =>
            rw [hba] at ib hb
            have hb2 : acc.length < 16777216 := by simp at hb; omega
            exact ⟨(.sh (.int i), .sh (cell r), .sh (.tup (pl ++ [.int 1, .int i])), .sh .non), by simp only [wa, sr, ib, tp_n, np_n, hp, hb2, Option.toList_none, Option.toList_some, Option.map_none, Option.isNone_none, Bool.true_and, ↓s_seq, ↓s_skip, ↓s_pass, ↓s_brk, ↓s_cnt, ↓s_retN, ↓s_ret, ↓s_ex, ↓s_ite, ↓s_ass, ↓s_par, ↓s_sub, ↓s_app, ↓s_frz, ↓s_prm, ↓e_con, ↓e_glob, ↓e_var, ↓e_tup, ↓e_lst, ↓e_bin, ↓e_neg, ↓e_cmp, ↓e_chain, ↓e_isN, ↓e_not, ↓e_and, ↓e_or, ↓e_ife, ↓e_idx, ↓pt_nil, ↓e_slc, ↓e_rev, ↓e_call, ↓e_blt, ↓e_mth, ↓e_isin, ↓e_setlen, ↓cd_nil, ↓i_one, ↓t_t, ↓r_nil, ↓r_cons, ↓rr_nil, ↓rr_cons, ↓lp_n, ↓lp_c, ↓cd_con, ↓pt_con, ↓i_con, ↓cd_var, ↓pt_var, ↓i_var, ↓cd_glob, ↓pt_glob, ↓i_glob, ↓cd_tup, ↓pt_tup, ↓i_tup, ↓cd_lst, ↓pt_lst, ↓i_lst, ↓cd_bin, ↓pt_bin, ↓i_bin, ↓cd_neg, ↓pt_neg, ↓i_neg, ↓cd_cmp, ↓pt_cmp, ↓i_cmp, ↓cd_chain, ↓pt_chain, ↓i_chain, ↓cd_isN, ↓pt_isN, ↓i_isN, ↓cd_not, ↓pt_not, ↓i_not, ↓cd_and, ↓pt_and, ↓i_and, ↓cd_or, ↓pt_or, ↓i_or, ↓cd_ife, ↓pt_ife, ↓i_ife, ↓cd_idx, ↓pt_idx, ↓i_idx, ↓cd_slc, ↓pt_slc, ↓i_slc, ↓cd_rev, ↓pt_rev, ↓i_rev, ↓cd_call, ↓pt_call, ↓i_call, ↓cd_blt, ↓pt_blt, ↓i_blt, ↓cd_mth, ↓pt_mth, ↓i_mth, ↓cd_isin, ↓pt_isin, ↓i_isin, ↓cd_setlen, ↓pt_setlen, ↓i_setlen, ↓cd_lc, ↓pt_lc, ↓i_lc, s_seq, s_skip, s_pass, s_brk, s_cnt, s_retN, s_ret, s_ex, s_ite, s_ass, s_par, s_sub, s_app, s_frz, s_prm, e_con, e_glob, e_var, e_tup, e_lst, e_bin, e_neg, e_cmp, e_chain, e_isN, e_not, e_and, e_or, e_ife, e_idx, pt_nil, e_slc, e_rev, e_call, e_blt, e_mth, e_isin, e_setlen, cd_nil, i_one, t_t, r_nil, r_cons, rr_nil, rr_cons, lp_n, lp_c, cd_con, pt_con, i_con, cd_var, pt_var, i_var, cd_glob, pt_glob, i_glob, cd_tup, pt_tup, i_tup, cd_lst, pt_lst, i_lst, cd_bin, pt_bin, i_bin, cd_neg, pt_neg, i_neg, cd_cmp, pt_cmp, i_cmp, cd_chain, pt_chain, i_chain, cd_isN, pt_isN, i_isN, cd_not, pt_not, i_not, cd_and, pt_and, i_and, cd_or, pt_or, i_or, cd_ife, pt_ife, i_ife, cd_idx, pt_idx, i_idx, cd_slc, pt_slc, i_slc, cd_rev, pt_rev, i_rev, cd_call, pt_call, i_call, cd_blt, pt_blt, i_blt, cd_mth, pt_mth, i_mth, cd_isin, pt_isin, i_isin, cd_setlen, pt_setlen, i_setlen, cd_lc, pt_lc, i_lc, ↓e_lc, ↓s_for, e_lc, s_for, nxt_nx, nxt_rt, nxt_bk, nxt_ct, rtK_p, exK_p, iteK_t, iteK_f, nxO_e, assK_p, parK_p, subK3_p, subK2_p, subK1_p, subK_p, nx2_p, appK1_p, appK_p, okK_t, forL_p, frzK_o, frzK_s, prmK_o, prmK_s, varK_s, varK_o, tupK_p, lstK_p, wiK_a, binK1_p, binK_p, negK_i, blK_b, cmpK1_p, cmpK_p, chainK_t, chainK_f, chK1_p, chK_p, isNK_p, nblK_b, notK_p, andK_t, andK_f, anK_p, orK_t, orK_f, oK_p, ifeK_t, ifeK_f, ifK_p, idxK1_p, idxK_p, siK_i, aiK_p, slcK2_p, slcK1_p, slcK_p, revK_p, callE_p, bltK_p, mthK1_p, mthK0_t, mthK_p, isinK_p, slnK1_p, slnK0_p, slnK_p, soK_v, giK_p, trK1_b, trK_p, elK_t, elK_f, lcK1_p, lcK_p, tuK_p, itK1_p, itK2_p, itK_p, coK_p, rcK1_p, rcK_p, crK_p, rrK_p, l_tup, l_lst, l_kl, l_fr, l_br, g_pv, g_fr, d_lst, d_fr, d_br, d_str, d_int, d_bl, d_non, d_tup, tr_bl, tr_int, tr_non, tr_str, n_non, n_int, n_str, n_tup, n_lst, n_bl, n_ref, x_tup, x_lst, x_kl, x_fr, x_br, a_v, a_t, gt_pv, gt_fr, as_v, as_tt, as_tl, as_n, as_c, o_rtp, o_rtf, o_rtb, o_nx, lpK_nx, lpK_ct, lpK_bk, lpK_rt, foK_e, forK_p, itm_tup, itm_lst, itm_kl, itm_fr, itm_br, itm_etup, itm_elst, itm_ekl, itm_efr, itm_ebr, itm_r1, itm_r2, at_nat, at_0, at_1, at_2, at_3, at_4, at_5, at_6, at_7, p_ii, p_ss, p_tt, p_ff, p_bf, p_lf, p_fl, p_ll, p_bl, p_sub, p_mulL, p_mulR, p_divP, p_modP, p_pow, c_lt, c_le, c_gt, c_ge, eqK1_v, eqK2_v, c_eq, c_ne, c_in, c_ni, inK_v, in_tup, in_lst, in_kl, in_fr, in_br, f_abs, f_int, f_lenS, f_lent, f_lenl, f_lenk, f_lenf, f_lenb, f_listk, f_listl, f_listt, f_listf, f_tupl, f_tupt, f_tupf, f_tupb, f_all, f_any, anyK_b, f_sort1, f_sort1f, mo_il, mo_ib, mo_ik, mo_if, mo_cl, mo_cb, mo_cf, ixK0_n, ixMK_v, m_il, m_ib, m_if, coMK_v, m_cl, m_cb, m_cf, apo_s, apoK_o, apoK_r, boK_l, ap_s, apK_o, apK_r, bxK_l, gu_c, gu_e, ok_non, ok_bl, ok_int, catK_s, catK_n, turK_p, tu_n, tu_c, bo_n, bo_c, in_n, in_c, al_n, al_t, al_f, nu_n, nu_c, refK_l, x_ref, setK1_m, setK_l, set_ref, ixn_20, ixn_21, ixn_31, ixn_30, ixn_32, sl_tup, sl_lst, sl_fr, sl_br, rv_lst, rv_fr, rv_br, asI_i, b_some, m_some, List.getElem?_cons_succ, List.getElem?_cons_zero, List.getElem?_nil, List.set_cons_succ, List.set_cons_zero, List.length_cons, List.length_nil, lim, Nat.reduceAdd, Nat.reduceLeDiff, Int.reduceLT, Nat.reduceLT, Nat.lt_add_left_iff_pos, E.isNil, wipeE, Nat.zero_lt_succ, if_true, if_false, Bool.true_bne, Bool.false_bne, bne_self_eq_false, Bool.not_true, Bool.not_false, Bool.not_not, Bool.bne_false, Bool.bne_true]⟩
          | false =>
            rw [hba] at ib
            exact ⟨(.sh (.int i), .sh (cell r), .sh (.tup (pl ++ [.int 1, .int i])), .sh .non), by simp only [wa, sr, ib, tp_n, np_n, hp, Option.toList_none, Option.toList_some, Option.map_none, Option.isNone_none, Bool.true_and, Bool.false_eq_true, List.append_nil, ↓s_seq, ↓s_skip, ↓s_pass, ↓s_brk, ↓s_cnt, ↓s_retN, ↓s_ret, ↓s_ex, ↓s_ite, ↓s_ass, ↓s_par, ↓s_sub, ↓s_app, ↓s_frz, ↓s_prm, ↓e_con, ↓e_glob, ↓e_var, ↓e_tup, ↓e_lst, ↓e_bin, ↓e_neg, ↓e_cmp, ↓e_chain, ↓e_isN, ↓e_not, ↓e_and, ↓e_or, ↓e_ife, ↓e_idx, ↓pt_nil, ↓e_slc, ↓e_rev, ↓e_call, ↓e_blt, ↓e_mth, ↓e_isin, ↓e_setlen, ↓cd_nil, ↓i_one, ↓t_t, ↓r_nil, ↓r_cons, ↓rr_nil, ↓rr_cons, ↓lp_n, ↓lp_c, ↓cd_con, ↓pt_con, ↓i_con, ↓cd_var, ↓pt_var, ↓i_var, ↓cd_glob, ↓pt_glob, ↓i_glob, ↓cd_tup, ↓pt_tup, ↓i_tup, ↓cd_lst, ↓pt_lst, ↓i_lst, ↓cd_bin, ↓pt_bin, ↓i_bin, ↓cd_neg, ↓pt_neg, ↓i_neg, ↓cd_cmp, ↓pt_cmp, ↓i_cmp, ↓cd_chain, ↓pt_chain, ↓i_chain, ↓cd_isN, ↓pt_isN, ↓i_isN, ↓cd_not, ↓pt_not, ↓i_not, ↓cd_and, ↓pt_and, ↓i_and, ↓cd_or, ↓pt_or, ↓i_or, ↓cd_ife, ↓pt_ife, ↓i_ife, ↓cd_idx, ↓pt_idx, ↓i_idx, ↓cd_slc, ↓pt_slc, ↓i_slc, ↓cd_rev, ↓pt_rev, ↓i_rev, ↓cd_call, ↓pt_call, ↓i_call, ↓cd_blt, ↓pt_blt, ↓i_blt, ↓cd_mth, ↓pt_mth, ↓i_mth, ↓cd_isin, ↓pt_isin, ↓i_isin, ↓cd_setlen, ↓pt_setlen, ↓i_setlen, ↓cd_lc, ↓pt_lc, ↓i_lc, s_seq, s_skip, s_pass, s_brk, s_cnt, s_retN, s_ret, s_ex, s_ite, s_ass, s_par, s_sub, s_app, s_frz, s_prm, e_con, e_glob, e_var, e_tup, e_lst, e_bin, e_neg, e_cmp, e_chain, e_isN, e_not, e_and, e_or, e_ife, e_idx, pt_nil, e_slc, e_rev, e_call, e_blt, e_mth, e_isin, e_setlen, cd_nil, i_one, t_t, r_nil, r_cons, rr_nil, rr_cons, lp_n, lp_c, cd_con, pt_con, i_con, cd_var, pt_var, i_var, cd_glob, pt_glob, i_glob, cd_tup, pt_tup, i_tup, cd_lst, pt_lst, i_lst, cd_bin, pt_bin, i_bin, cd_neg, pt_neg, i_neg, cd_cmp, pt_cmp, i_cmp, cd_chain, pt_chain, i_chain, cd_isN, pt_isN, i_isN, cd_not, pt_not, i_not, cd_and, pt_and, i_and, cd_or, pt_or, i_or, cd_ife, pt_ife, i_ife, cd_idx, pt_idx, i_idx, cd_slc, pt_slc, i_slc, cd_rev, pt_rev, i_rev, cd_call, pt_call, i_call, cd_blt, pt_blt, i_blt, cd_mth, pt_mth, i_mth, cd_isin, pt_isin, i_isin, cd_setlen, pt_setlen, i_setlen, cd_lc, pt_lc, i_lc, ↓e_lc, ↓s_for, e_lc, s_for, nxt_nx, nxt_rt, nxt_bk, nxt_ct, rtK_p, exK_p, iteK_t, iteK_f, nxO_e, assK_p, parK_p, subK3_p, subK2_p, subK1_p, subK_p, nx2_p, appK1_p, appK_p, okK_t, forL_p, frzK_o, frzK_s, prmK_o, prmK_s, varK_s, varK_o, tupK_p, lstK_p, wiK_a, binK1_p, binK_p, negK_i, blK_b, cmpK1_p, cmpK_p, chainK_t, chainK_f, chK1_p, chK_p, isNK_p, nblK_b, notK_p, andK_t, andK_f, anK_p, orK_t, orK_f, oK_p, ifeK_t, ifeK_f, ifK_p, idxK1_p, idxK_p, siK_i, aiK_p, slcK2_p, slcK1_p, slcK_p, revK_p, callE_p, bltK_p, mthK1_p, mthK0_t, mthK_p, isinK_p, slnK1_p, slnK0_p, slnK_p, soK_v, giK_p, trK1_b, trK_p, elK_t, elK_f, lcK1_p, lcK_p, tuK_p, itK1_p, itK2_p, itK_p, coK_p, rcK1_p, rcK_p, crK_p, rrK_p, l_tup, l_lst, l_kl, l_fr, l_br, g_pv, g_fr, d_lst, d_fr, d_br, d_str, d_int, d_bl, d_non, d_tup, tr_bl, tr_int, tr_non, tr_str, n_non, n_int, n_str, n_tup, n_lst, n_bl, n_ref, x_tup, x_lst, x_kl, x_fr, x_br, a_v, a_t, gt_pv, gt_fr, as_v, as_tt, as_tl, as_n, as_c, o_rtp, o_rtf, o_rtb, o_nx, lpK_nx, lpK_ct, lpK_bk, lpK_rt, foK_e, forK_p, itm_tup, itm_lst, itm_kl, itm_fr, itm_br, itm_etup, itm_elst, itm_ekl, itm_efr, itm_ebr, itm_r1, itm_r2, at_nat, at_0, at_1, at_2, at_3, at_4, at_5, at_6, at_7, p_ii, p_ss, p_tt, p_ff, p_bf, p_lf, p_fl, p_ll, p_bl, p_sub, p_mulL, p_mulR, p_divP, p_modP, p_pow, c_lt, c_le, c_gt, c_ge, eqK1_v, eqK2_v, c_eq, c_ne, c_in, c_ni, inK_v, in_tup, in_lst, in_kl, in_fr, in_br, f_abs, f_int, f_lenS, f_lent, f_lenl, f_lenk, f_lenf, f_lenb, f_listk, f_listl, f_listt, f_listf, f_tupl, f_tupt, f_tupf, f_tupb, f_all, f_any, anyK_b, f_sort1, f_sort1f, mo_il, mo_ib, mo_ik, mo_if, mo_cl, mo_cb, mo_cf, ixK0_n, ixMK_v, m_il, m_ib, m_if, coMK_v, m_cl, m_cb, m_cf, apo_s, apoK_o, apoK_r, boK_l, ap_s, apK_o, apK_r, bxK_l, gu_c, gu_e, ok_non, ok_bl, ok_int, catK_s, catK_n, turK_p, tu_n, tu_c, bo_n, bo_c, in_n, in_c, al_n, al_t, al_f, nu_n, nu_c, refK_l, x_ref, setK1_m, setK_l, set_ref, ixn_20, ixn_21, ixn_31, ixn_30, ixn_32, sl_tup, sl_lst, sl_fr, sl_br, rv_lst, rv_fr, rv_br, asI_i, b_some, m_some, List.getElem?_cons_succ, List.getElem?_cons_zero, List.getElem?_nil, List.set_cons_succ, List.set_cons_zero, List.length_cons, List.length_nil, lim, Nat.reduceAdd, Nat.reduceLeDiff, Int.reduceLT, Nat.reduceLT, Nat.lt_add_left_iff_pos, E.isNil, wipeE, Nat.zero_lt_succ, if_true, if_false, Bool.true_bne, Bool.false_bne, bne_self_eq_false, Bool.not_true, Bool.not_false, Bool.not_not, Bool.bne_false, Bool.bne_true]⟩
  obtain ⟨⟨j1, j2, j3, j4⟩, lpF⟩ := lpF
  simp only [k_field_objections, b_field_objections, l_field_objections_0, fi, lpF, ↓s_seq, ↓s_skip, ↓s_pass, ↓s_brk, ↓s_cnt, ↓s_retN, ↓s_ret, ↓s_ex, ↓s_ite, ↓s_ass, ↓s_par, ↓s_sub, ↓s_app, ↓s_frz, ↓s_prm, ↓e_con, ↓e_glob, ↓e_var, ↓e_tup, ↓e_lst, ↓e_bin, ↓e_neg, ↓e_cmp, ↓e_chain, ↓e_isN, ↓e_not, ↓e_and, ↓e_or, ↓e_ife, ↓e_idx, ↓pt_nil, ↓e_slc, ↓e_rev, ↓e_call, ↓e_blt, ↓e_mth, ↓e_isin, ↓e_setlen, ↓cd_nil, ↓i_one, ↓t_t, ↓r_nil, ↓r_cons, ↓rr_nil, ↓rr_cons, ↓lp_n, ↓lp_c, ↓cd_con, ↓pt_con, ↓i_con, ↓cd_var, ↓pt_var, ↓i_var, ↓cd_glob, ↓pt_glob, ↓i_glob, ↓cd_tup, ↓pt_tup, ↓i_tup, ↓cd_lst, ↓pt_lst, ↓i_lst, ↓cd_bin, ↓pt_bin, ↓i_bin, ↓cd_neg, ↓pt_neg, ↓i_neg, ↓cd_cmp, ↓pt_cmp, ↓i_cmp, ↓cd_chain, ↓pt_chain, ↓i_chain, ↓cd_isN, ↓pt_isN, ↓i_isN, ↓cd_not, ↓pt_not, ↓i_not, ↓cd_and, ↓pt_and, ↓i_and, ↓cd_or, ↓pt_or, ↓i_or, ↓cd_ife, ↓pt_ife, ↓i_ife, ↓cd_idx, ↓pt_idx, ↓i_idx, ↓cd_slc, ↓pt_slc, ↓i_slc, ↓cd_rev, ↓pt_rev, ↓i_rev, ↓cd_call, ↓pt_call, ↓i_call, ↓cd_blt, ↓pt_blt, ↓i_blt, ↓cd_mth, ↓pt_mth, ↓i_mth, ↓cd_isin, ↓pt_isin, ↓i_isin, ↓cd_setlen, ↓pt_setlen, ↓i_setlen, ↓cd_lc, ↓pt_lc, ↓i_lc, s_seq, s_skip, s_pass, s_brk, s_cnt, s_retN, s_ret, s_ex, s_ite, s_ass, s_par, s_sub, s_app, s_frz, s_prm, e_con, e_glob, e_var, e_tup, e_lst, e_bin, e_neg, e_cmp, e_chain, e_isN, e_not, e_and, e_or, e_ife, e_idx, pt_nil, e_slc, e_rev, e_call, e_blt, e_mth, e_isin, e_setlen, cd_nil, i_one, t_t, r_nil, r_cons, rr_nil, rr_cons, lp_n, lp_c, cd_con, pt_con, i_con, cd_var, pt_var, i_var, cd_glob, pt_glob, i_glob, cd_tup, pt_tup, i_tup, cd_lst, pt_lst, i_lst, cd_bin, pt_bin, i_bin, cd_neg, pt_neg, i_neg, cd_cmp, pt_cmp, i_cmp, cd_chain, pt_chain, i_chain, cd_isN, pt_isN, i_isN, cd_not, pt_not, i_not, cd_and, pt_and, i_and, cd_or, pt_or, i_or, cd_ife, pt_ife, i_ife, cd_idx, pt_idx, i_idx, cd_slc, pt_slc, i_slc, cd_rev, pt_rev, i_rev, cd_call, pt_call, i_call, cd_blt, pt_blt, i_blt, cd_mth, pt_mth, i_mth, cd_isin, pt_isin, i_isin, cd_setlen, pt_setlen, i_setlen, cd_lc, pt_lc, i_lc, ↓e_lc, ↓s_for, e_lc, s_for, nxt_nx, nxt_rt, nxt_bk, nxt_ct, rtK_p, exK_p, iteK_t, iteK_f, nxO_e, assK_p, parK_p, subK3_p, subK2_p, subK1_p, subK_p, nx2_p, appK1_p, appK_p, okK_t, forL_p, frzK_o, frzK_s, prmK_o, prmK_s, varK_s, varK_o, tupK_p, lstK_p, wiK_a, binK1_p, binK_p, negK_i, blK_b, cmpK1_p, cmpK_p, chainK_t, chainK_f, chK1_p, chK_p, isNK_p, nblK_b, notK_p, andK_t, andK_f, anK_p, orK_t, orK_f, oK_p, ifeK_t, ifeK_f, ifK_p, idxK1_p, idxK_p, siK_i, aiK_p, slcK2_p, slcK1_p, slcK_p, revK_p, callE_p, bltK_p, mthK1_p, mthK0_t, mthK_p, isinK_p, slnK1_p, slnK0_p, slnK_p, soK_v, giK_p, trK1_b, trK_p, elK_t, elK_f, lcK1_p, lcK_p, tuK_p, itK1_p, itK2_p, itK_p, coK_p, rcK1_p, rcK_p, crK_p, rrK_p, l_tup, l_lst, l_kl, l_fr, l_br, g_pv, g_fr, d_lst, d_fr, d_br, d_str, d_int, d_bl, d_non, d_tup, tr_bl, tr_int, tr_non, tr_str, n_non, n_int, n_str, n_tup, n_lst, n_bl, n_ref, x_tup, x_lst, x_kl, x_fr, x_br, a_v, a_t, gt_pv, gt_fr, as_v, as_tt, as_tl, as_n, as_c, o_rtp, o_rtf, o_rtb, o_nx, lpK_nx, lpK_ct, lpK_bk, lpK_rt, foK_e, forK_p, itm_tup, itm_lst, itm_kl, itm_fr, itm_br, itm_etup, itm_elst, itm_ekl, itm_efr, itm_ebr, itm_r1, itm_r2, at_nat, at_0, at_1, at_2, at_3, at_4, at_5, at_6, at_7, p_ii, p_ss, p_tt, p_ff, p_bf, p_lf, p_fl, p_ll, p_bl, p_sub, p_mulL, p_mulR, p_divP, p_modP, p_pow, c_lt, c_le, c_gt, c_ge, eqK1_v, eqK2_v, c_eq, c_ne, c_in, c_ni, inK_v, in_tup, in_lst, in_kl, in_fr, in_br, f_abs, f_int, f_lenS, f_lent, f_lenl, f_lenk, f_lenf, f_lenb, f_listk, f_listl, f_listt, f_listf, f_tupl, f_tupt, f_tupf, f_tupb, f_all, f_any, anyK_b, f_sort1, f_sort1f, mo_il, mo_ib, mo_ik, mo_if, mo_cl, mo_cb, mo_cf, ixK0_n, ixMK_v, m_il, m_ib, m_if, coMK_v, m_cl, m_cb, m_cf, apo_s, apoK_o, apoK_r, boK_l, ap_s, apK_o, apK_r, bxK_l, gu_c, gu_e, ok_non, ok_bl, ok_int, catK_s, catK_n, turK_p, tu_n, tu_c, bo_n, bo_c, in_n, in_c, al_n, al_t, al_f, nu_n, nu_c, refK_l, x_ref, setK1_m, setK_l, set_ref, ixn_20, ixn_21, ixn_31, ixn_30, ixn_32, sl_tup, sl_lst, sl_fr, sl_br, rv_lst, rv_fr, rv_br, asI_i, b_some, m_some, List.getElem?_cons_succ, List.getElem?_cons_zero, List.getElem?_nil, List.set_cons_succ, List.set_cons_zero, List.length_cons, List.length_nil, lim, Nat.reduceAdd, Nat.reduceLeDiff, Int.reduceLT, Nat.reduceLT, Nat.lt_add_left_iff_pos, E.isNil, wipeE, Nat.zero_lt_succ, if_true, if_false, Bool.true_bne, Bool.false_bne, bne_self_eq_false, Bool.not_true, Bool.not_false, Bool.not_not, Bool.bne_false, Bool.bne_true]
/-! ### objections -/
theorem objs_le {pl : List PV} {el rs : List Row} : (rs.zipIdx.flatMap (objF pl el rs)).length ≤ rs.length := by
  have : (rs.zipIdx.flatMap (objF pl el rs)).length ≤ rs.zipIdx.length := flat_le fun x _ => by
    unfold objF
    cases fword el rs x.2 x.1 <;> simp
  rw [List.length_zipIdx] at this
  exact this
theorem type_ok (k : Nat) (h : Hh) {rt : List PV} {el rs : List Row} (hel : ∀ e ∈ el, Good e) (hrs : ∀ e ∈ rs, Good e) (hl : el.length ≤ 100) (hl2 : rs.length ≤ 100) (hv : ∀ e ∈ rs, ∃ v re, e.rest = v :: re) :
    callK G.ds (k + 4) 7 [prog (el.map cell) rt, .tup [.str "Box", .bl false, .tup [.tup [.str "Box", .tup (rs.map cell)]]], .tup [.int 0, .int 0]] h = some (.fr (.l (rs.zipIdx.flatMap (objF [.int 0, .int 0, .int 2, .int 0] el rs))), h) := by
  have fo := field_ok k h (pl := [.int 0, .int 0, .int 2, .int 0]) (rt := rt) hel hrs hl hl2 hv (by decide)
  have ebl : pvEq (.bl false) (.bl false) = true := rfl
  have le : 0 + (rs.zipIdx.flatMap (objF [.int 0, .int 0, .int 2, .int 0] el rs)).length ≤ 16777216 := by
    have := objs_le (pl := [.int 0, .int 0, .int 2, .int 0]) (el := el) (rs := rs)
    omega
  simp only [prog] at fo
  simp only [k_type_objections, b_type_objections, e_type_objections_0, l_type_objections_0, k_named, b_named, l_named_0, prog, okBox, eqBox, ebl, fo, le, List.nil_append, List.cons_append, Int.cast_ofNat_Int, ↓s_seq, ↓s_skip, ↓s_pass, ↓s_brk, ↓s_cnt, ↓s_retN, ↓s_ret, ↓s_ex, ↓s_ite, ↓s_ass, ↓s_par, ↓s_sub, ↓s_app, ↓s_frz, ↓s_prm, ↓e_con, ↓e_glob, ↓e_var, ↓e_tup, ↓e_lst, ↓e_bin, ↓e_neg, ↓e_cmp, ↓e_chain, ↓e_isN, ↓e_not, ↓e_and, ↓e_or, ↓e_ife, ↓e_idx, ↓pt_nil, ↓e_slc, ↓e_rev, ↓e_call, ↓e_blt, ↓e_mth, ↓e_isin, ↓e_setlen, ↓cd_nil, ↓i_one, ↓t_t, ↓r_nil, ↓r_cons, ↓rr_nil, ↓rr_cons, ↓lp_n, ↓lp_c, ↓cd_con, ↓pt_con, ↓i_con, ↓cd_var, ↓pt_var, ↓i_var, ↓cd_glob, ↓pt_glob, ↓i_glob, ↓cd_tup, ↓pt_tup, ↓i_tup, ↓cd_lst, ↓pt_lst, ↓i_lst, ↓cd_bin, ↓pt_bin, ↓i_bin, ↓cd_neg, ↓pt_neg, ↓i_neg, ↓cd_cmp, ↓pt_cmp, ↓i_cmp, ↓cd_chain, ↓pt_chain, ↓i_chain, ↓cd_isN, ↓pt_isN, ↓i_isN, ↓cd_not, ↓pt_not, ↓i_not, ↓cd_and, ↓pt_and, ↓i_and, ↓cd_or, ↓pt_or, ↓i_or, ↓cd_ife, ↓pt_ife, ↓i_ife, ↓cd_idx, ↓pt_idx, ↓i_idx, ↓cd_slc, ↓pt_slc, ↓i_slc, ↓cd_rev, ↓pt_rev, ↓i_rev, ↓cd_call, ↓pt_call, ↓i_call, ↓cd_blt, ↓pt_blt, ↓i_blt, ↓cd_mth, ↓pt_mth, ↓i_mth, ↓cd_isin, ↓pt_isin, ↓i_isin, ↓cd_setlen, ↓pt_setlen, ↓i_setlen, ↓cd_lc, ↓pt_lc, ↓i_lc, s_seq, s_skip, s_pass, s_brk, s_cnt, s_retN, s_ret, s_ex, s_ite, s_ass, s_par, s_sub, s_app, s_frz, s_prm, e_con, e_glob, e_var, e_tup, e_lst, e_bin, e_neg, e_cmp, e_chain, e_isN, e_not, e_and, e_or, e_ife, e_idx, pt_nil, e_slc, e_rev, e_call, e_blt, e_mth, e_isin, e_setlen, cd_nil, i_one, t_t, r_nil, r_cons, rr_nil, rr_cons, lp_n, lp_c, cd_con, pt_con, i_con, cd_var, pt_var, i_var, cd_glob, pt_glob, i_glob, cd_tup, pt_tup, i_tup, cd_lst, pt_lst, i_lst, cd_bin, pt_bin, i_bin, cd_neg, pt_neg, i_neg, cd_cmp, pt_cmp, i_cmp, cd_chain, pt_chain, i_chain, cd_isN, pt_isN, i_isN, cd_not, pt_not, i_not, cd_and, pt_and, i_and, cd_or, pt_or, i_or, cd_ife, pt_ife, i_ife, cd_idx, pt_idx, i_idx, cd_slc, pt_slc, i_slc, cd_rev, pt_rev, i_rev, cd_call, pt_call, i_call, cd_blt, pt_blt, i_blt, cd_mth, pt_mth, i_mth, cd_isin, pt_isin, i_isin, cd_setlen, pt_setlen, i_setlen, cd_lc, pt_lc, i_lc, ↓e_lc, ↓s_for, e_lc, s_for, nxt_nx, nxt_rt, nxt_bk, nxt_ct, rtK_p, exK_p, iteK_t, iteK_f, nxO_e, assK_p, parK_p, subK3_p, subK2_p, subK1_p, subK_p, nx2_p, appK1_p, appK_p, okK_t, forL_p, frzK_o, frzK_s, prmK_o, prmK_s, varK_s, varK_o, tupK_p, lstK_p, wiK_a, binK1_p, binK_p, negK_i, blK_b, cmpK1_p, cmpK_p, chainK_t, chainK_f, chK1_p, chK_p, isNK_p, nblK_b, notK_p, andK_t, andK_f, anK_p, orK_t, orK_f, oK_p, ifeK_t, ifeK_f, ifK_p, idxK1_p, idxK_p, siK_i, aiK_p, slcK2_p, slcK1_p, slcK_p, revK_p, callE_p, bltK_p, mthK1_p, mthK0_t, mthK_p, isinK_p, slnK1_p, slnK0_p, slnK_p, soK_v, giK_p, trK1_b, trK_p, elK_t, elK_f, lcK1_p, lcK_p, tuK_p, itK1_p, itK2_p, itK_p, coK_p, rcK1_p, rcK_p, crK_p, rrK_p, l_tup, l_lst, l_kl, l_fr, l_br, g_pv, g_fr, d_lst, d_fr, d_br, d_str, d_int, d_bl, d_non, d_tup, tr_bl, tr_int, tr_non, tr_str, n_non, n_int, n_str, n_tup, n_lst, n_bl, n_ref, x_tup, x_lst, x_kl, x_fr, x_br, a_v, a_t, gt_pv, gt_fr, as_v, as_tt, as_tl, as_n, as_c, o_rtp, o_rtf, o_rtb, o_nx, lpK_nx, lpK_ct, lpK_bk, lpK_rt, foK_e, forK_p, itm_tup, itm_lst, itm_kl, itm_fr, itm_br, itm_etup, itm_elst, itm_ekl, itm_efr, itm_ebr, itm_r1, itm_r2, at_nat, at_0, at_1, at_2, at_3, at_4, at_5, at_6, at_7, p_ii, p_ss, p_tt, p_ff, p_bf, p_lf, p_fl, p_ll, p_bl, p_sub, p_mulL, p_mulR, p_divP, p_modP, p_pow, c_lt, c_le, c_gt, c_ge, eqK1_v, eqK2_v, c_eq, c_ne, c_in, c_ni, inK_v, in_tup, in_lst, in_kl, in_fr, in_br, f_abs, f_int, f_lenS, f_lent, f_lenl, f_lenk, f_lenf, f_lenb, f_listk, f_listl, f_listt, f_listf, f_tupl, f_tupt, f_tupf, f_tupb, f_all, f_any, anyK_b, f_sort1, f_sort1f, mo_il, mo_ib, mo_ik, mo_if, mo_cl, mo_cb, mo_cf, ixK0_n, ixMK_v, m_il, m_ib, m_if, coMK_v, m_cl, m_cb, m_cf, apo_s, apoK_o, apoK_r, boK_l, ap_s, apK_o, apK_r, bxK_l, gu_c, gu_e, ok_non, ok_bl, ok_int, catK_s, catK_n, turK_p, tu_n, tu_c, bo_n, bo_c, in_n, in_c, al_n, al_t, al_f, nu_n, nu_c, refK_l, x_ref, setK1_m, setK_l, set_ref, ixn_20, ixn_21, ixn_31, ixn_30, ixn_32, sl_tup, sl_lst, sl_fr, sl_br, rv_lst, rv_fr, rv_br, asI_i, b_some, m_some, List.getElem?_cons_succ, List.getElem?_cons_zero, List.getElem?_nil, List.set_cons_succ, List.set_cons_zero, List.length_cons, List.length_nil, lim, Nat.reduceAdd, Nat.reduceLeDiff, Int.reduceLT, Nat.reduceLT, Nat.lt_add_left_iff_pos, E.isNil, wipeE, Nat.zero_lt_succ, if_true, if_false, Bool.true_bne, Bool.false_bne, bne_self_eq_false, Bool.not_true, Bool.not_false, Bool.not_not, Bool.bne_false, Bool.bne_true]
theorem objections_ok (k : Nat) (h : Hh) {el rs : List Row} (hel : ∀ e ∈ el, Good e) (hrs : ∀ e ∈ rs, Good e) (hl : el.length ≤ 100) (hl2 : rs.length ≤ 100) (hv : ∀ e ∈ rs, ∃ v re, e.rest = v :: re) :
    callK G.ds (k + 5) 8 [prog (el.map cell) [], prog (rs.map cell) []] h = some (.pv (.tup (rs.zipIdx.flatMap (objF [.int 0, .int 0, .int 2, .int 0] el rs))), h) := by
  have ty := type_ok k h (rt := []) hel hrs hl hl2 hv
  have le : 0 + (rs.zipIdx.flatMap (objF [.int 0, .int 0, .int 2, .int 0] el rs)).length ≤ 16777216 := by
    have := objs_le (pl := [.int 0, .int 0, .int 2, .int 0]) (el := el) (rs := rs)
    omega
  have e0 : itemsOf .rng1 false (.pv (.int 0)) none = some [] := rfl
  simp only [prog] at ty
  simp only [k_objections, b_objections, l_objections_0, l_objections_1, e_objections_0, k_named, b_named, l_named_0, prog, okBox, eqBox, ty, le, e0, List.nil_append, List.cons_append, Int.cast_ofNat_Int, ↓s_for, ↓s_seq, ↓s_skip, ↓s_pass, ↓s_brk, ↓s_cnt, ↓s_retN, ↓s_ret, ↓s_ex, ↓s_ite, ↓s_ass, ↓s_par, ↓s_sub, ↓s_app, ↓s_frz, ↓s_prm, ↓e_con, ↓e_glob, ↓e_var, ↓e_tup, ↓e_lst, ↓e_bin, ↓e_neg, ↓e_cmp, ↓e_chain, ↓e_isN, ↓e_not, ↓e_and, ↓e_or, ↓e_ife, ↓e_idx, ↓pt_nil, ↓e_slc, ↓e_rev, ↓e_call, ↓e_blt, ↓e_mth, ↓e_isin, ↓e_setlen, ↓cd_nil, ↓i_one, ↓t_t, ↓r_nil, ↓r_cons, ↓rr_nil, ↓rr_cons, ↓lp_n, ↓lp_c, ↓cd_con, ↓pt_con, ↓i_con, ↓cd_var, ↓pt_var, ↓i_var, ↓cd_glob, ↓pt_glob, ↓i_glob, ↓cd_tup, ↓pt_tup, ↓i_tup, ↓cd_lst, ↓pt_lst, ↓i_lst, ↓cd_bin, ↓pt_bin, ↓i_bin, ↓cd_neg, ↓pt_neg, ↓i_neg, ↓cd_cmp, ↓pt_cmp, ↓i_cmp, ↓cd_chain, ↓pt_chain, ↓i_chain, ↓cd_isN, ↓pt_isN, ↓i_isN, ↓cd_not, ↓pt_not, ↓i_not, ↓cd_and, ↓pt_and, ↓i_and, ↓cd_or, ↓pt_or, ↓i_or, ↓cd_ife, ↓pt_ife, ↓i_ife, ↓cd_idx, ↓pt_idx, ↓i_idx, ↓cd_slc, ↓pt_slc, ↓i_slc, ↓cd_rev, ↓pt_rev, ↓i_rev, ↓cd_call, ↓pt_call, ↓i_call, ↓cd_blt, ↓pt_blt, ↓i_blt, ↓cd_mth, ↓pt_mth, ↓i_mth, ↓cd_isin, ↓pt_isin, ↓i_isin, ↓cd_setlen, ↓pt_setlen, ↓i_setlen, ↓cd_lc, ↓pt_lc, ↓i_lc, s_seq, s_skip, s_pass, s_brk, s_cnt, s_retN, s_ret, s_ex, s_ite, s_ass, s_par, s_sub, s_app, s_frz, s_prm, e_con, e_glob, e_var, e_tup, e_lst, e_bin, e_neg, e_cmp, e_chain, e_isN, e_not, e_and, e_or, e_ife, e_idx, pt_nil, e_slc, e_rev, e_call, e_blt, e_mth, e_isin, e_setlen, cd_nil, i_one, t_t, r_nil, r_cons, rr_nil, rr_cons, lp_n, lp_c, cd_con, pt_con, i_con, cd_var, pt_var, i_var, cd_glob, pt_glob, i_glob, cd_tup, pt_tup, i_tup, cd_lst, pt_lst, i_lst, cd_bin, pt_bin, i_bin, cd_neg, pt_neg, i_neg, cd_cmp, pt_cmp, i_cmp, cd_chain, pt_chain, i_chain, cd_isN, pt_isN, i_isN, cd_not, pt_not, i_not, cd_and, pt_and, i_and, cd_or, pt_or, i_or, cd_ife, pt_ife, i_ife, cd_idx, pt_idx, i_idx, cd_slc, pt_slc, i_slc, cd_rev, pt_rev, i_rev, cd_call, pt_call, i_call, cd_blt, pt_blt, i_blt, cd_mth, pt_mth, i_mth, cd_isin, pt_isin, i_isin, cd_setlen, pt_setlen, i_setlen, cd_lc, pt_lc, i_lc, ↓e_lc, ↓s_for, e_lc, s_for, nxt_nx, nxt_rt, nxt_bk, nxt_ct, rtK_p, exK_p, iteK_t, iteK_f, nxO_e, assK_p, parK_p, subK3_p, subK2_p, subK1_p, subK_p, nx2_p, appK1_p, appK_p, okK_t, forL_p, frzK_o, frzK_s, prmK_o, prmK_s, varK_s, varK_o, tupK_p, lstK_p, wiK_a, binK1_p, binK_p, negK_i, blK_b, cmpK1_p, cmpK_p, chainK_t, chainK_f, chK1_p, chK_p, isNK_p, nblK_b, notK_p, andK_t, andK_f, anK_p, orK_t, orK_f, oK_p, ifeK_t, ifeK_f, ifK_p, idxK1_p, idxK_p, siK_i, aiK_p, slcK2_p, slcK1_p, slcK_p, revK_p, callE_p, bltK_p, mthK1_p, mthK0_t, mthK_p, isinK_p, slnK1_p, slnK0_p, slnK_p, soK_v, giK_p, trK1_b, trK_p, elK_t, elK_f, lcK1_p, lcK_p, tuK_p, itK1_p, itK2_p, itK_p, coK_p, rcK1_p, rcK_p, crK_p, rrK_p, l_tup, l_lst, l_kl, l_fr, l_br, g_pv, g_fr, d_lst, d_fr, d_br, d_str, d_int, d_bl, d_non, d_tup, tr_bl, tr_int, tr_non, tr_str, n_non, n_int, n_str, n_tup, n_lst, n_bl, n_ref, x_tup, x_lst, x_kl, x_fr, x_br, a_v, a_t, gt_pv, gt_fr, as_v, as_tt, as_tl, as_n, as_c, o_rtp, o_rtf, o_rtb, o_nx, lpK_nx, lpK_ct, lpK_bk, lpK_rt, foK_e, forK_p, itm_tup, itm_lst, itm_kl, itm_fr, itm_br, itm_etup, itm_elst, itm_ekl, itm_efr, itm_ebr, itm_r1, itm_r2, at_nat, at_0, at_1, at_2, at_3, at_4, at_5, at_6, at_7, p_ii, p_ss, p_tt, p_ff, p_bf, p_lf, p_fl, p_ll, p_bl, p_sub, p_mulL, p_mulR, p_divP, p_modP, p_pow, c_lt, c_le, c_gt, c_ge, eqK1_v, eqK2_v, c_eq, c_ne, c_in, c_ni, inK_v, in_tup, in_lst, in_kl, in_fr, in_br, f_abs, f_int, f_lenS, f_lent, f_lenl, f_lenk, f_lenf, f_lenb, f_listk, f_listl, f_listt, f_listf, f_tupl, f_tupt, f_tupf, f_tupb, f_all, f_any, anyK_b, f_sort1, f_sort1f, mo_il, mo_ib, mo_ik, mo_if, mo_cl, mo_cb, mo_cf, ixK0_n, ixMK_v, m_il, m_ib, m_if, coMK_v, m_cl, m_cb, m_cf, apo_s, apoK_o, apoK_r, boK_l, ap_s, apK_o, apK_r, bxK_l, gu_c, gu_e, ok_non, ok_bl, ok_int, catK_s, catK_n, turK_p, tu_n, tu_c, bo_n, bo_c, in_n, in_c, al_n, al_t, al_f, nu_n, nu_c, refK_l, x_ref, setK1_m, setK_l, set_ref, ixn_20, ixn_21, ixn_31, ixn_30, ixn_32, sl_tup, sl_lst, sl_fr, sl_br, rv_lst, rv_fr, rv_br, asI_i, b_some, m_some, List.getElem?_cons_succ, List.getElem?_cons_zero, List.getElem?_nil, List.set_cons_succ, List.set_cons_zero, List.length_cons, List.length_nil, lim, Nat.reduceAdd, Nat.reduceLeDiff, Int.reduceLT, Nat.reduceLT, Nat.lt_add_left_iff_pos, E.isNil, wipeE, Nat.zero_lt_succ, if_true, if_false, Bool.true_bne, Bool.false_bne, bne_self_eq_false, Bool.not_true, Bool.not_false, Bool.not_not, Bool.bne_false, Bool.bne_true]
/-! ### source_of, ways -/
theorem source_of_ok (k : Nat) (h : Hh) {el rs : List Row} {rt rt2 : List PV} {r : Row} {i : Nat} (hi : rs[i]? = some r) (hel : ∀ e ∈ el, Good e) (hrs : ∀ e ∈ rs, Good e) (hl : el.length ≤ 100) :
    callK G.ds (k + 3) 9 [prog (el.map cell) rt, prog (rs.map cell) rt2, .tup [.int 0, .int 0, .int 2, .int 0, .int 1, .int i]] h = some (.pv (np (src el r)), h) := by
  have hx : L2.atI (rs.map cell) (i : Int) = some (cell r) := by
    rw [at_nat, List.getElem?_map, hi]; rfl
  have fi := fields_in_ok k h (fs := el.map cell) (rt := rt)
  have sr := source_in_ok (k + 1) h hel hl (hrs r (List.mem_of_getElem? hi))
  have e0 : pvEq (.int 0) (.int 1) = false := rfl
  simp only [prog] at fi
  simp only [k_source_of, b_source_of, prog, fi, hx, e0, sr, ↓s_seq, ↓s_skip, ↓s_pass, ↓s_brk, ↓s_cnt, ↓s_retN, ↓s_ret, ↓s_ex, ↓s_ite, ↓s_ass, ↓s_par, ↓s_sub, ↓s_app, ↓s_frz, ↓s_prm, ↓e_con, ↓e_glob, ↓e_var, ↓e_tup, ↓e_lst, ↓e_bin, ↓e_neg, ↓e_cmp, ↓e_chain, ↓e_isN, ↓e_not, ↓e_and, ↓e_or, ↓e_ife, ↓e_idx, ↓pt_nil, ↓e_slc, ↓e_rev, ↓e_call, ↓e_blt, ↓e_mth, ↓e_isin, ↓e_setlen, ↓cd_nil, ↓i_one, ↓t_t, ↓r_nil, ↓r_cons, ↓rr_nil, ↓rr_cons, ↓lp_n, ↓lp_c, ↓cd_con, ↓pt_con, ↓i_con, ↓cd_var, ↓pt_var, ↓i_var, ↓cd_glob, ↓pt_glob, ↓i_glob, ↓cd_tup, ↓pt_tup, ↓i_tup, ↓cd_lst, ↓pt_lst, ↓i_lst, ↓cd_bin, ↓pt_bin, ↓i_bin, ↓cd_neg, ↓pt_neg, ↓i_neg, ↓cd_cmp, ↓pt_cmp, ↓i_cmp, ↓cd_chain, ↓pt_chain, ↓i_chain, ↓cd_isN, ↓pt_isN, ↓i_isN, ↓cd_not, ↓pt_not, ↓i_not, ↓cd_and, ↓pt_and, ↓i_and, ↓cd_or, ↓pt_or, ↓i_or, ↓cd_ife, ↓pt_ife, ↓i_ife, ↓cd_idx, ↓pt_idx, ↓i_idx, ↓cd_slc, ↓pt_slc, ↓i_slc, ↓cd_rev, ↓pt_rev, ↓i_rev, ↓cd_call, ↓pt_call, ↓i_call, ↓cd_blt, ↓pt_blt, ↓i_blt, ↓cd_mth, ↓pt_mth, ↓i_mth, ↓cd_isin, ↓pt_isin, ↓i_isin, ↓cd_setlen, ↓pt_setlen, ↓i_setlen, ↓cd_lc, ↓pt_lc, ↓i_lc, s_seq, s_skip, s_pass, s_brk, s_cnt, s_retN, s_ret, s_ex, s_ite, s_ass, s_par, s_sub, s_app, s_frz, s_prm, e_con, e_glob, e_var, e_tup, e_lst, e_bin, e_neg, e_cmp, e_chain, e_isN, e_not, e_and, e_or, e_ife, e_idx, pt_nil, e_slc, e_rev, e_call, e_blt, e_mth, e_isin, e_setlen, cd_nil, i_one, t_t, r_nil, r_cons, rr_nil, rr_cons, lp_n, lp_c, cd_con, pt_con, i_con, cd_var, pt_var, i_var, cd_glob, pt_glob, i_glob, cd_tup, pt_tup, i_tup, cd_lst, pt_lst, i_lst, cd_bin, pt_bin, i_bin, cd_neg, pt_neg, i_neg, cd_cmp, pt_cmp, i_cmp, cd_chain, pt_chain, i_chain, cd_isN, pt_isN, i_isN, cd_not, pt_not, i_not, cd_and, pt_and, i_and, cd_or, pt_or, i_or, cd_ife, pt_ife, i_ife, cd_idx, pt_idx, i_idx, cd_slc, pt_slc, i_slc, cd_rev, pt_rev, i_rev, cd_call, pt_call, i_call, cd_blt, pt_blt, i_blt, cd_mth, pt_mth, i_mth, cd_isin, pt_isin, i_isin, cd_setlen, pt_setlen, i_setlen, cd_lc, pt_lc, i_lc, ↓e_lc, ↓s_for, e_lc, s_for, nxt_nx, nxt_rt, nxt_bk, nxt_ct, rtK_p, exK_p, iteK_t, iteK_f, nxO_e, assK_p, parK_p, subK3_p, subK2_p, subK1_p, subK_p, nx2_p, appK1_p, appK_p, okK_t, forL_p, frzK_o, frzK_s, prmK_o, prmK_s, varK_s, varK_o, tupK_p, lstK_p, wiK_a, binK1_p, binK_p, negK_i, blK_b, cmpK1_p, cmpK_p, chainK_t, chainK_f, chK1_p, chK_p, isNK_p, nblK_b, notK_p, andK_t, andK_f, anK_p, orK_t, orK_f, oK_p, ifeK_t, ifeK_f, ifK_p, idxK1_p, idxK_p, siK_i, aiK_p, slcK2_p, slcK1_p, slcK_p, revK_p, callE_p, bltK_p, mthK1_p, mthK0_t, mthK_p, isinK_p, slnK1_p, slnK0_p, slnK_p, soK_v, giK_p, trK1_b, trK_p, elK_t, elK_f, lcK1_p, lcK_p, tuK_p, itK1_p, itK2_p, itK_p, coK_p, rcK1_p, rcK_p, crK_p, rrK_p, l_tup, l_lst, l_kl, l_fr, l_br, g_pv, g_fr, d_lst, d_fr, d_br, d_str, d_int, d_bl, d_non, d_tup, tr_bl, tr_int, tr_non, tr_str, n_non, n_int, n_str, n_tup, n_lst, n_bl, n_ref, x_tup, x_lst, x_kl, x_fr, x_br, a_v, a_t, gt_pv, gt_fr, as_v, as_tt, as_tl, as_n, as_c, o_rtp, o_rtf, o_rtb, o_nx, lpK_nx, lpK_ct, lpK_bk, lpK_rt, foK_e, forK_p, itm_tup, itm_lst, itm_kl, itm_fr, itm_br, itm_etup, itm_elst, itm_ekl, itm_efr, itm_ebr, itm_r1, itm_r2, at_nat, at_0, at_1, at_2, at_3, at_4, at_5, at_6, at_7, p_ii, p_ss, p_tt, p_ff, p_bf, p_lf, p_fl, p_ll, p_bl, p_sub, p_mulL, p_mulR, p_divP, p_modP, p_pow, c_lt, c_le, c_gt, c_ge, eqK1_v, eqK2_v, c_eq, c_ne, c_in, c_ni, inK_v, in_tup, in_lst, in_kl, in_fr, in_br, f_abs, f_int, f_lenS, f_lent, f_lenl, f_lenk, f_lenf, f_lenb, f_listk, f_listl, f_listt, f_listf, f_tupl, f_tupt, f_tupf, f_tupb, f_all, f_any, anyK_b, f_sort1, f_sort1f, mo_il, mo_ib, mo_ik, mo_if, mo_cl, mo_cb, mo_cf, ixK0_n, ixMK_v, m_il, m_ib, m_if, coMK_v, m_cl, m_cb, m_cf, apo_s, apoK_o, apoK_r, boK_l, ap_s, apK_o, apK_r, bxK_l, gu_c, gu_e, ok_non, ok_bl, ok_int, catK_s, catK_n, turK_p, tu_n, tu_c, bo_n, bo_c, in_n, in_c, al_n, al_t, al_f, nu_n, nu_c, refK_l, x_ref, setK1_m, setK_l, set_ref, ixn_20, ixn_21, ixn_31, ixn_30, ixn_32, sl_tup, sl_lst, sl_fr, sl_br, rv_lst, rv_fr, rv_br, asI_i, b_some, m_some, List.getElem?_cons_succ, List.getElem?_cons_zero, List.getElem?_nil, List.set_cons_succ, List.set_cons_zero, List.length_cons, List.length_nil, lim, Nat.reduceAdd, Nat.reduceLeDiff, Int.reduceLT, Nat.reduceLT, Nat.lt_add_left_iff_pos, E.isNil, wipeE, Nat.zero_lt_succ, if_true, if_false, Bool.true_bne, Bool.false_bne, bne_self_eq_false, Bool.not_true, Bool.not_false, Bool.not_not, Bool.bne_false, Bool.bne_true]
/-- a row's own part of the way -/
def wayR (el : List Row) (r : Row) (v : PV) : PV := match src el r with
  | none => .tup [.str "constant", v]
  | some j => .tup [.str "from", .int j]
def lastOf (r : Row) : PV := r.rest.headD .non
theorem sources_ok (k : Nat) (h : Hh) {el rs : List Row} (hel : ∀ e ∈ el, Good e) (hrs : ∀ e ∈ rs, Good e) (hl : el.length ≤ 100) (hl2 : rs.length ≤ 100) (hv : ∀ e ∈ rs, ∃ v re, e.rest = v :: re) :
    callK G.ds (k + 2) 10 [.tup (el.map cell), .tup (rs.map cell)] h = some (.pv (.tup (rs.map fun r => wayR el r (lastOf r))), h) := by
  have lpF : ∃ j : Sl × Sl, loop (forK (callK G.ds (k + 1)) (.v 3) (.seq (.ass (.v 4) (.call 2 (.cons (.var 0) (.cons (.var 3) .nil)))) (.frz 4 (.seq (.app 2 (.ife (.isN false (.var 4)) (.tup (.cons (.con (.str "constant")) (.cons (.idx (.var 3) (.con (.int 3))) .nil))) (.tup (.cons (.con (.str "from")) (.cons (.var 4) .nil))))) .skip)))) (rs.map cell)
      [.sh (.tup (el.map cell)), .sh (.tup (rs.map cell)), .ow (.l []), .un, .un] h =
      some (.nx [.sh (.tup (el.map cell)), .sh (.tup (rs.map cell)), .ow (.l ([] ++ rs.flatMap fun r => [wayR el r (lastOf r)])), j.1, j.2] h) := by
    refine loop_app (J := Sl × Sl) (M := 100) (E := fun j acc => [.sh (.tup (el.map cell)), .sh (.tup (rs.map cell)), .ow (.l acc), j.1, j.2]) rs (.un, .un) [] ?_ ?_
    · have := flat_le (g := fun r => [wayR el r (lastOf r)]) (xs := rs) fun x _ => Nat.le_refl _
      simp only [List.length_nil]
      omega
    · rintro r m ⟨j1, j2⟩ acc hb
      have hb2 : acc.length < 16777216 := by simp at hb; omega
      have sr := source_in_ok k h hel hl (hrs r m)
      obtain ⟨v, re, hv⟩ := hv r m
      have hlast : lastOf r = v := by unfold lastOf; rw [hv]; rfl
      have ci : ixR h (.pv (cell r)) (.pv (.int 3)) = some (.pv v) := by
        unfold cell
        rw [hv]
        simp only [↓s_seq, ↓s_skip, ↓s_pass, ↓s_brk, ↓s_cnt, ↓s_retN, ↓s_ret, ↓s_ex, ↓s_ite, ↓s_ass, ↓s_par, ↓s_sub, ↓s_app, ↓s_frz, ↓s_prm, ↓e_con, ↓e_glob, ↓e_var, ↓e_tup, ↓e_lst, ↓e_bin, ↓e_neg, ↓e_cmp, ↓e_chain, ↓e_isN, ↓e_not, ↓e_and, ↓e_or, ↓e_ife, ↓e_idx, ↓pt_nil, ↓e_slc, ↓e_rev, ↓e_call, ↓e_blt, ↓e_mth, ↓e_isin, ↓e_setlen, ↓cd_nil, ↓i_one, ↓t_t, ↓r_nil, ↓r_cons, ↓rr_nil, ↓rr_cons, ↓lp_n, ↓lp_c, ↓cd_con, ↓pt_con, ↓i_con, ↓cd_var, ↓pt_var, ↓i_var, ↓cd_glob, ↓pt_glob, ↓i_glob, ↓cd_tup, ↓pt_tup, ↓i_tup, ↓cd_lst, ↓pt_lst, ↓i_lst, ↓cd_bin, ↓pt_bin, ↓i_bin, ↓cd_neg, ↓pt_neg, ↓i_neg, ↓cd_cmp, ↓pt_cmp, ↓i_cmp, ↓cd_chain, ↓pt_chain, ↓i_chain, ↓cd_isN, ↓pt_isN, ↓i_isN, ↓cd_not, ↓pt_not, ↓i_not, ↓cd_and, ↓pt_and, ↓i_and, ↓cd_or, ↓pt_or, ↓i_or, ↓cd_ife, ↓pt_ife, ↓i_ife, ↓cd_idx, ↓pt_idx, ↓i_idx, ↓cd_slc, ↓pt_slc, ↓i_slc, ↓cd_rev, ↓pt_rev, ↓i_rev, ↓cd_call, ↓pt_call, ↓i_call, ↓cd_blt, ↓pt_blt, ↓i_blt, ↓cd_mth, ↓pt_mth, ↓i_mth, ↓cd_isin, ↓pt_isin, ↓i_isin, ↓cd_setlen, ↓pt_setlen, ↓i_setlen, ↓cd_lc, ↓pt_lc, ↓i_lc, s_seq, s_skip, s_pass, s_brk, s_cnt, s_retN, s_ret, s_ex, s_ite, s_ass, s_par, s_sub, s_app, s_frz, s_prm, e_con, e_glob, e_var, e_tup, e_lst, e_bin, e_neg, e_cmp, e_chain, e_isN, e_not, e_and, e_or, e_ife, e_idx, pt_nil, e_slc, e_rev, e_call, e_blt, e_mth, e_isin, e_setlen, cd_nil, i_one, t_t, r_nil, r_cons, rr_nil, rr_cons, lp_n, lp_c, cd_con, pt_con, i_con, cd_var, pt_var, i_var, cd_glob, pt_glob, i_glob, cd_tup, pt_tup, i_tup, cd_lst, pt_lst, i_lst, cd_bin, pt_bin, i_bin, cd_neg, pt_neg, i_neg, cd_cmp, pt_cmp, i_cmp, cd_chain, pt_chain, i_chain, cd_isN, pt_isN, i_isN, cd_not, pt_not, i_not, cd_and, pt_and, i_and, cd_or, pt_or, i_or, cd_ife, pt_ife, i_ife, cd_idx, pt_idx, i_idx, cd_slc, pt_slc, i_slc, cd_rev, pt_rev, i_rev, cd_call, pt_call, i_call, cd_blt, pt_blt, i_blt, cd_mth, pt_mth, i_mth, cd_isin, pt_isin, i_isin, cd_setlen, pt_setlen, i_setlen, cd_lc, pt_lc, i_lc, ↓e_lc, ↓s_for, e_lc, s_for, nxt_nx, nxt_rt, nxt_bk, nxt_ct, rtK_p, exK_p, iteK_t, iteK_f, nxO_e, assK_p, parK_p, subK3_p, subK2_p, subK1_p, subK_p, nx2_p, appK1_p, appK_p, okK_t, forL_p, frzK_o, frzK_s, prmK_o, prmK_s, varK_s, varK_o, tupK_p, lstK_p, wiK_a, binK1_p, binK_p, negK_i, blK_b, cmpK1_p, cmpK_p, chainK_t, chainK_f, chK1_p, chK_p, isNK_p, nblK_b, notK_p, andK_t, andK_f, anK_p, orK_t, orK_f, oK_p, ifeK_t, ifeK_f, ifK_p, idxK1_p, idxK_p, siK_i, aiK_p, slcK2_p, slcK1_p, slcK_p, revK_p, callE_p, bltK_p, mthK1_p, mthK0_t, mthK_p, isinK_p, slnK1_p, slnK0_p, slnK_p, soK_v, giK_p, trK1_b, trK_p, elK_t, elK_f, lcK1_p, lcK_p, tuK_p, itK1_p, itK2_p, itK_p, coK_p, rcK1_p, rcK_p, crK_p, rrK_p, l_tup, l_lst, l_kl, l_fr, l_br, g_pv, g_fr, d_lst, d_fr, d_br, d_str, d_int, d_bl, d_non, d_tup, tr_bl, tr_int, tr_non, tr_str, n_non, n_int, n_str, n_tup, n_lst, n_bl, n_ref, x_tup, x_lst, x_kl, x_fr, x_br, a_v, a_t, gt_pv, gt_fr, as_v, as_tt, as_tl, as_n, as_c, o_rtp, o_rtf, o_rtb, o_nx, lpK_nx, lpK_ct, lpK_bk, lpK_rt, foK_e, forK_p, itm_tup, itm_lst, itm_kl, itm_fr, itm_br, itm_etup, itm_elst, itm_ekl, itm_efr, itm_ebr, itm_r1, itm_r2, at_nat, at_0, at_1, at_2, at_3, at_4, at_5, at_6, at_7, p_ii, p_ss, p_tt, p_ff, p_bf, p_lf, p_fl, p_ll, p_bl, p_sub, p_mulL, p_mulR, p_divP, p_modP, p_pow, c_lt, c_le, c_gt, c_ge, eqK1_v, eqK2_v, c_eq, c_ne, c_in, c_ni, inK_v, in_tup, in_lst, in_kl, in_fr, in_br, f_abs, f_int, f_lenS, f_lent, f_lenl, f_lenk, f_lenf, f_lenb, f_listk, f_listl, f_listt, f_listf, f_tupl, f_tupt, f_tupf, f_tupb, f_all, f_any, anyK_b, f_sort1, f_sort1f, mo_il, mo_ib, mo_ik, mo_if, mo_cl, mo_cb, mo_cf, ixK0_n, ixMK_v, m_il, m_ib, m_if, coMK_v, m_cl, m_cb, m_cf, apo_s, apoK_o, apoK_r, boK_l, ap_s, apK_o, apK_r, bxK_l, gu_c, gu_e, ok_non, ok_bl, ok_int, catK_s, catK_n, turK_p, tu_n, tu_c, bo_n, bo_c, in_n, in_c, al_n, al_t, al_f, nu_n, nu_c, refK_l, x_ref, setK1_m, setK_l, set_ref, ixn_20, ixn_21, ixn_31, ixn_30, ixn_32, sl_tup, sl_lst, sl_fr, sl_br, rv_lst, rv_fr, rv_br, asI_i, b_some, m_some, List.getElem?_cons_succ, List.getElem?_cons_zero, List.getElem?_nil, List.set_cons_succ, List.set_cons_zero, List.length_cons, List.length_nil, lim, Nat.reduceAdd, Nat.reduceLeDiff, Int.reduceLT, Nat.reduceLT, Nat.lt_add_left_iff_pos, E.isNil, wipeE, Nat.zero_lt_succ, if_true, if_false, Bool.true_bne, Bool.false_bne, bne_self_eq_false, Bool.not_true, Bool.not_false, Bool.not_not, Bool.bne_false, Bool.bne_true]
      rw [hlast]
      unfold wayR
      cases hs : src el r with
      | none =>
        rw [hs] at sr
        exact ⟨(.sh (cell r), .sh .non), by simp only [sr, np_n, hb2, ci, ↓s_seq, ↓s_skip, ↓s_pass, ↓s_brk, ↓s_cnt, ↓s_retN, ↓s_ret, ↓s_ex, ↓s_ite, ↓s_ass, ↓s_par, ↓s_sub, ↓s_app, ↓s_frz, ↓s_prm, ↓e_con, ↓e_glob, ↓e_var, ↓e_tup, ↓e_lst, ↓e_bin, ↓e_neg, ↓e_cmp, ↓e_chain, ↓e_isN, ↓e_not, ↓e_and, ↓e_or, ↓e_ife, ↓e_idx, ↓pt_nil, ↓e_slc, ↓e_rev, ↓e_call, ↓e_blt, ↓e_mth, ↓e_isin, ↓e_setlen, ↓cd_nil, ↓i_one, ↓t_t, ↓r_nil, ↓r_cons, ↓rr_nil, ↓rr_cons, ↓lp_n, ↓lp_c, ↓cd_con, ↓pt_con, ↓i_con, ↓cd_var, ↓pt_var, ↓i_var, ↓cd_glob, ↓pt_glob, ↓i_glob, ↓cd_tup, ↓pt_tup, ↓i_tup, ↓cd_lst, ↓pt_lst, ↓i_lst, ↓cd_bin, ↓pt_bin, ↓i_bin, ↓cd_neg, ↓pt_neg, ↓i_neg, ↓cd_cmp, ↓pt_cmp, ↓i_cmp, ↓cd_chain, ↓pt_chain, ↓i_chain, ↓cd_isN, ↓pt_isN, ↓i_isN, ↓cd_not, ↓pt_not, ↓i_not, ↓cd_and, ↓pt_and, ↓i_and, ↓cd_or, ↓pt_or, ↓i_or, ↓cd_ife, ↓pt_ife, ↓i_ife, ↓cd_idx, ↓pt_idx, ↓i_idx, ↓cd_slc, ↓pt_slc, ↓i_slc, ↓cd_rev, ↓pt_rev, ↓i_rev, ↓cd_call, ↓pt_call, ↓i_call, ↓cd_blt, ↓pt_blt, ↓i_blt, ↓cd_mth, ↓pt_mth, ↓i_mth, ↓cd_isin, ↓pt_isin, ↓i_isin, ↓cd_setlen, ↓pt_setlen, ↓i_setlen, ↓cd_lc, ↓pt_lc, ↓i_lc, s_seq, s_skip, s_pass, s_brk, s_cnt, s_retN, s_ret, s_ex, s_ite, s_ass, s_par, s_sub, s_app, s_frz, s_prm, e_con, e_glob, e_var, e_tup, e_lst, e_bin, e_neg, e_cmp, e_chain, e_isN, e_not, e_and, e_or, e_ife, e_idx, pt_nil, e_slc, e_rev, e_call, e_blt, e_mth, e_isin, e_setlen, cd_nil, i_one, t_t, r_nil, r_cons, rr_nil, rr_cons, lp_n, lp_c, cd_con, pt_con, i_con, cd_var, pt_var, i_var, cd_glob, pt_glob, i_glob, cd_tup, pt_tup, i_tup, cd_lst, pt_lst, i_lst, cd_bin, pt_bin, i_bin, cd_neg, pt_neg, i_neg, cd_cmp, pt_cmp, i_cmp, cd_chain, pt_chain, i_chain, cd_isN, pt_isN, i_isN, cd_not, pt_not, i_not, cd_and, pt_and, i_and, cd_or, pt_or, i_or, cd_ife, pt_ife, i_ife, cd_idx, pt_idx, i_idx, cd_slc, pt_slc, i_slc, cd_rev, pt_rev, i_rev, cd_call, pt_call, i_call, cd_blt, pt_blt, i_blt, cd_mth, pt_mth, i_mth, cd_isin, pt_isin, i_isin, cd_setlen, pt_setlen, i_setlen, cd_lc, pt_lc, i_lc, ↓e_lc, ↓s_for, e_lc, s_for, nxt_nx, nxt_rt, nxt_bk, nxt_ct, rtK_p, exK_p, iteK_t, iteK_f, nxO_e, assK_p, parK_p, subK3_p, subK2_p, subK1_p, subK_p, nx2_p, appK1_p, appK_p, okK_t, forL_p, frzK_o, frzK_s, prmK_o, prmK_s, varK_s, varK_o, tupK_p, lstK_p, wiK_a, binK1_p, binK_p, negK_i, blK_b, cmpK1_p, cmpK_p, chainK_t, chainK_f, chK1_p, chK_p, isNK_p, nblK_b, notK_p, andK_t, andK_f, anK_p, orK_t, orK_f, oK_p, ifeK_t, ifeK_f, ifK_p, idxK1_p, idxK_p, siK_i, aiK_p, slcK2_p, slcK1_p, slcK_p, revK_p, callE_p, bltK_p, mthK1_p, mthK0_t, mthK_p, isinK_p, slnK1_p, slnK0_p, slnK_p, soK_v, giK_p, trK1_b, trK_p, elK_t, elK_f, lcK1_p, lcK_p, tuK_p, itK1_p, itK2_p, itK_p, coK_p, rcK1_p, rcK_p, crK_p, rrK_p, l_tup, l_lst, l_kl, l_fr, l_br, g_pv, g_fr, d_lst, d_fr, d_br, d_str, d_int, d_bl, d_non, d_tup, tr_bl, tr_int, tr_non, tr_str, n_non, n_int, n_str, n_tup, n_lst, n_bl, n_ref, x_tup, x_lst, x_kl, x_fr, x_br, a_v, a_t, gt_pv, gt_fr, as_v, as_tt, as_tl, as_n, as_c, o_rtp, o_rtf, o_rtb, o_nx, lpK_nx, lpK_ct, lpK_bk, lpK_rt, foK_e, forK_p, itm_tup, itm_lst, itm_kl, itm_fr, itm_br, itm_etup, itm_elst, itm_ekl, itm_efr, itm_ebr, itm_r1, itm_r2, at_nat, at_0, at_1, at_2, at_3, at_4, at_5, at_6, at_7, p_ii, p_ss, p_tt, p_ff, p_bf, p_lf, p_fl, p_ll, p_bl, p_sub, p_mulL, p_mulR, p_divP, p_modP, p_pow, c_lt, c_le, c_gt, c_ge, eqK1_v, eqK2_v, c_eq, c_ne, c_in, c_ni, inK_v, in_tup, in_lst, in_kl, in_fr, in_br, f_abs, f_int, f_lenS, f_lent, f_lenl, f_lenk, f_lenf, f_lenb, f_listk, f_listl, f_listt, f_listf, f_tupl, f_tupt, f_tupf, f_tupb, f_all, f_any, anyK_b, f_sort1, f_sort1f, mo_il, mo_ib, mo_ik, mo_if, mo_cl, mo_cb, mo_cf, ixK0_n, ixMK_v, m_il, m_ib, m_if, coMK_v, m_cl, m_cb, m_cf, apo_s, apoK_o, apoK_r, boK_l, ap_s, apK_o, apK_r, bxK_l, gu_c, gu_e, ok_non, ok_bl, ok_int, catK_s, catK_n, turK_p, tu_n, tu_c, bo_n, bo_c, in_n, in_c, al_n, al_t, al_f, nu_n, nu_c, refK_l, x_ref, setK1_m, setK_l, set_ref, ixn_20, ixn_21, ixn_31, ixn_30, ixn_32, sl_tup, sl_lst, sl_fr, sl_br, rv_lst, rv_fr, rv_br, asI_i, b_some, m_some, List.getElem?_cons_succ, List.getElem?_cons_zero, List.getElem?_nil, List.set_cons_succ, List.set_cons_zero, List.length_cons, List.length_nil, lim, Nat.reduceAdd, Nat.reduceLeDiff, Int.reduceLT, Nat.reduceLT, Nat.lt_add_left_iff_pos, E.isNil, wipeE, Nat.zero_lt_succ, if_true, if_false, Bool.true_bne, Bool.false_bne, bne_self_eq_false, Bool.not_true, Bool.not_false, Bool.not_not, Bool.bne_false, Bool.bne_true]⟩
      | some j =>
        rw [hs] at sr
        exact ⟨(.sh (cell r), .sh (.int j)), by simp only [sr, np_s, hb2, ci, ↓s_seq, ↓s_skip, ↓s_pass, ↓s_brk, ↓s_cnt, ↓s_retN, ↓s_ret, ↓s_ex, ↓s_ite, ↓s_ass, ↓s_par, ↓s_sub, ↓s_app, ↓s_frz, ↓s_prm, ↓e_con, ↓e_glob, ↓e_var, ↓e_tup, ↓e_lst, ↓e_bin, ↓e_neg, ↓e_cmp, ↓e_chain, ↓e_isN, ↓e_not, ↓e_and, ↓e_or, ↓e_ife, ↓e_idx, ↓pt_nil, ↓e_slc, ↓e_rev, ↓e_call, ↓e_blt, ↓e_mth, ↓e_isin, ↓e_setlen, ↓cd_nil, ↓i_one, ↓t_t, ↓r_nil, ↓r_cons, ↓rr_nil, ↓rr_cons, ↓lp_n, ↓lp_c, ↓cd_con, ↓pt_con, ↓i_con, ↓cd_var, ↓pt_var, ↓i_var, ↓cd_glob, ↓pt_glob, ↓i_glob, ↓cd_tup, ↓pt_tup, ↓i_tup, ↓cd_lst, ↓pt_lst, ↓i_lst, ↓cd_bin, ↓pt_bin, ↓i_bin, ↓cd_neg, ↓pt_neg, ↓i_neg, ↓cd_cmp, ↓pt_cmp, ↓i_cmp, ↓cd_chain, ↓pt_chain, ↓i_chain, ↓cd_isN, ↓pt_isN, ↓i_isN, ↓cd_not, ↓pt_not, ↓i_not, ↓cd_and, ↓pt_and, ↓i_and, ↓cd_or, ↓pt_or, ↓i_or, ↓cd_ife, ↓pt_ife, ↓i_ife, ↓cd_idx, ↓pt_idx, ↓i_idx, ↓cd_slc, ↓pt_slc, ↓i_slc, ↓cd_rev, ↓pt_rev, ↓i_rev, ↓cd_call, ↓pt_call, ↓i_call, ↓cd_blt, ↓pt_blt, ↓i_blt, ↓cd_mth, ↓pt_mth, ↓i_mth, ↓cd_isin, ↓pt_isin, ↓i_isin, ↓cd_setlen, ↓pt_setlen, ↓i_setlen, ↓cd_lc, ↓pt_lc, ↓i_lc, s_seq, s_skip, s_pass, s_brk, s_cnt, s_retN, s_ret, s_ex, s_ite, s_ass, s_par, s_sub, s_app, s_frz, s_prm, e_con, e_glob, e_var, e_tup, e_lst, e_bin, e_neg, e_cmp, e_chain, e_isN, e_not, e_and, e_or, e_ife, e_idx, pt_nil, e_slc, e_rev, e_call, e_blt, e_mth, e_isin, e_setlen, cd_nil, i_one, t_t, r_nil, r_cons, rr_nil, rr_cons, lp_n, lp_c, cd_con, pt_con, i_con, cd_var, pt_var, i_var, cd_glob, pt_glob, i_glob, cd_tup, pt_tup, i_tup, cd_lst, pt_lst, i_lst, cd_bin, pt_bin, i_bin, cd_neg, pt_neg, i_neg, cd_cmp, pt_cmp, i_cmp, cd_chain, pt_chain, i_chain, cd_isN, pt_isN, i_isN, cd_not, pt_not, i_not, cd_and, pt_and, i_and, cd_or, pt_or, i_or, cd_ife, pt_ife, i_ife, cd_idx, pt_idx, i_idx, cd_slc, pt_slc, i_slc, cd_rev, pt_rev, i_rev, cd_call, pt_call, i_call, cd_blt, pt_blt, i_blt, cd_mth, pt_mth, i_mth, cd_isin, pt_isin, i_isin, cd_setlen, pt_setlen, i_setlen, cd_lc, pt_lc, i_lc, ↓e_lc, ↓s_for, e_lc, s_for, nxt_nx, nxt_rt, nxt_bk, nxt_ct, rtK_p, exK_p, iteK_t, iteK_f, nxO_e, assK_p, parK_p, subK3_p, subK2_p, subK1_p, subK_p, nx2_p, appK1_p, appK_p, okK_t, forL_p, frzK_o, frzK_s, prmK_o, prmK_s, varK_s, varK_o, tupK_p, lstK_p, wiK_a, binK1_p, binK_p, negK_i, blK_b, cmpK1_p, cmpK_p, chainK_t, chainK_f, chK1_p, chK_p, isNK_p, nblK_b, notK_p, andK_t, andK_f, anK_p, orK_t, orK_f, oK_p, ifeK_t, ifeK_f, ifK_p, idxK1_p, idxK_p, siK_i, aiK_p, slcK2_p, slcK1_p, slcK_p, revK_p, callE_p, bltK_p, mthK1_p, mthK0_t, mthK_p, isinK_p, slnK1_p, slnK0_p, slnK_p, soK_v, giK_p, trK1_b, trK_p, elK_t, elK_f, lcK1_p, lcK_p, tuK_p, itK1_p, itK2_p, itK_p, coK_p, rcK1_p, rcK_p, crK_p, rrK_p, l_tup, l_lst, l_kl, l_fr, l_br, g_pv, g_fr, d_lst, d_fr, d_br, d_str, d_int, d_bl, d_non, d_tup, tr_bl, tr_int, tr_non, tr_str, n_non, n_int, n_str, n_tup, n_lst, n_bl, n_ref, x_tup, x_lst, x_kl, x_fr, x_br, a_v, a_t, gt_pv, gt_fr, as_v, as_tt, as_tl, as_n, as_c, o_rtp, o_rtf, o_rtb, o_nx, lpK_nx, lpK_ct, lpK_bk, lpK_rt, foK_e, forK_p, itm_tup, itm_lst, itm_kl, itm_fr, itm_br, itm_etup, itm_elst, itm_ekl, itm_efr, itm_ebr, itm_r1, itm_r2, at_nat, at_0, at_1, at_2, at_3, at_4, at_5, at_6, at_7, p_ii, p_ss, p_tt, p_ff, p_bf, p_lf, p_fl, p_ll, p_bl, p_sub, p_mulL, p_mulR, p_divP, p_modP, p_pow, c_lt, c_le, c_gt, c_ge, eqK1_v, eqK2_v, c_eq, c_ne, c_in, c_ni, inK_v, in_tup, in_lst, in_kl, in_fr, in_br, f_abs, f_int, f_lenS, f_lent, f_lenl, f_lenk, f_lenf, f_lenb, f_listk, f_listl, f_listt, f_listf, f_tupl, f_tupt, f_tupf, f_tupb, f_all, f_any, anyK_b, f_sort1, f_sort1f, mo_il, mo_ib, mo_ik, mo_if, mo_cl, mo_cb, mo_cf, ixK0_n, ixMK_v, m_il, m_ib, m_if, coMK_v, m_cl, m_cb, m_cf, apo_s, apoK_o, apoK_r, boK_l, ap_s, apK_o, apK_r, bxK_l, gu_c, gu_e, ok_non, ok_bl, ok_int, catK_s, catK_n, turK_p, tu_n, tu_c, bo_n, bo_c, in_n, in_c, al_n, al_t, al_f, nu_n, nu_c, refK_l, x_ref, setK1_m, setK_l, set_ref, ixn_20, ixn_21, ixn_31, ixn_30, ixn_32, sl_tup, sl_lst, sl_fr, sl_br, rv_lst, rv_fr, rv_br, asI_i, b_some, m_some, List.getElem?_cons_succ, List.getElem?_cons_zero, List.getElem?_nil, List.set_cons_succ, List.set_cons_zero, List.length_cons, List.length_nil, lim, Nat.reduceAdd, Nat.reduceLeDiff, Int.reduceLT, Nat.reduceLT, Nat.lt_add_left_iff_pos, E.isNil, wipeE, Nat.zero_lt_succ, if_true, if_false, Bool.true_bne, Bool.false_bne, bne_self_eq_false, Bool.not_true, Bool.not_false, Bool.not_not, Bool.bne_false, Bool.bne_true]⟩
  obtain ⟨⟨j1, j2⟩, lpF⟩ := lpF
  have fm : (rs.flatMap fun r => [wayR el r (lastOf r)]) = rs.map fun r => wayR el r (lastOf r) := flat_one rs
  rw [fm, List.nil_append] at lpF
  simp only [k_sources_between, b_sources_between, l_sources_between_0, lpF, ↓s_seq, ↓s_skip, ↓s_pass, ↓s_brk, ↓s_cnt, ↓s_retN, ↓s_ret, ↓s_ex, ↓s_ite, ↓s_ass, ↓s_par, ↓s_sub, ↓s_app, ↓s_frz, ↓s_prm, ↓e_con, ↓e_glob, ↓e_var, ↓e_tup, ↓e_lst, ↓e_bin, ↓e_neg, ↓e_cmp, ↓e_chain, ↓e_isN, ↓e_not, ↓e_and, ↓e_or, ↓e_ife, ↓e_idx, ↓pt_nil, ↓e_slc, ↓e_rev, ↓e_call, ↓e_blt, ↓e_mth, ↓e_isin, ↓e_setlen, ↓cd_nil, ↓i_one, ↓t_t, ↓r_nil, ↓r_cons, ↓rr_nil, ↓rr_cons, ↓lp_n, ↓lp_c, ↓cd_con, ↓pt_con, ↓i_con, ↓cd_var, ↓pt_var, ↓i_var, ↓cd_glob, ↓pt_glob, ↓i_glob, ↓cd_tup, ↓pt_tup, ↓i_tup, ↓cd_lst, ↓pt_lst, ↓i_lst, ↓cd_bin, ↓pt_bin, ↓i_bin, ↓cd_neg, ↓pt_neg, ↓i_neg, ↓cd_cmp, ↓pt_cmp, ↓i_cmp, ↓cd_chain, ↓pt_chain, ↓i_chain, ↓cd_isN, ↓pt_isN, ↓i_isN, ↓cd_not, ↓pt_not, ↓i_not, ↓cd_and, ↓pt_and, ↓i_and, ↓cd_or, ↓pt_or, ↓i_or, ↓cd_ife, ↓pt_ife, ↓i_ife, ↓cd_idx, ↓pt_idx, ↓i_idx, ↓cd_slc, ↓pt_slc, ↓i_slc, ↓cd_rev, ↓pt_rev, ↓i_rev, ↓cd_call, ↓pt_call, ↓i_call, ↓cd_blt, ↓pt_blt, ↓i_blt, ↓cd_mth, ↓pt_mth, ↓i_mth, ↓cd_isin, ↓pt_isin, ↓i_isin, ↓cd_setlen, ↓pt_setlen, ↓i_setlen, ↓cd_lc, ↓pt_lc, ↓i_lc, s_seq, s_skip, s_pass, s_brk, s_cnt, s_retN, s_ret, s_ex, s_ite, s_ass, s_par, s_sub, s_app, s_frz, s_prm, e_con, e_glob, e_var, e_tup, e_lst, e_bin, e_neg, e_cmp, e_chain, e_isN, e_not, e_and, e_or, e_ife, e_idx, pt_nil, e_slc, e_rev, e_call, e_blt, e_mth, e_isin, e_setlen, cd_nil, i_one, t_t, r_nil, r_cons, rr_nil, rr_cons, lp_n, lp_c, cd_con, pt_con, i_con, cd_var, pt_var, i_var, cd_glob, pt_glob, i_glob, cd_tup, pt_tup, i_tup, cd_lst, pt_lst, i_lst, cd_bin, pt_bin, i_bin, cd_neg, pt_neg, i_neg, cd_cmp, pt_cmp, i_cmp, cd_chain, pt_chain, i_chain, cd_isN, pt_isN, i_isN, cd_not, pt_not, i_not, cd_and, pt_and, i_and, cd_or, pt_or, i_or, cd_ife, pt_ife, i_ife, cd_idx, pt_idx, i_idx, cd_slc, pt_slc, i_slc, cd_rev, pt_rev, i_rev, cd_call, pt_call, i_call, cd_blt, pt_blt, i_blt, cd_mth, pt_mth, i_mth, cd_isin, pt_isin, i_isin, cd_setlen, pt_setlen, i_setlen, cd_lc, pt_lc, i_lc, ↓e_lc, ↓s_for, e_lc, s_for, nxt_nx, nxt_rt, nxt_bk, nxt_ct, rtK_p, exK_p, iteK_t, iteK_f, nxO_e, assK_p, parK_p, subK3_p, subK2_p, subK1_p, subK_p, nx2_p, appK1_p, appK_p, okK_t, forL_p, frzK_o, frzK_s, prmK_o, prmK_s, varK_s, varK_o, tupK_p, lstK_p, wiK_a, binK1_p, binK_p, negK_i, blK_b, cmpK1_p, cmpK_p, chainK_t, chainK_f, chK1_p, chK_p, isNK_p, nblK_b, notK_p, andK_t, andK_f, anK_p, orK_t, orK_f, oK_p, ifeK_t, ifeK_f, ifK_p, idxK1_p, idxK_p, siK_i, aiK_p, slcK2_p, slcK1_p, slcK_p, revK_p, callE_p, bltK_p, mthK1_p, mthK0_t, mthK_p, isinK_p, slnK1_p, slnK0_p, slnK_p, soK_v, giK_p, trK1_b, trK_p, elK_t, elK_f, lcK1_p, lcK_p, tuK_p, itK1_p, itK2_p, itK_p, coK_p, rcK1_p, rcK_p, crK_p, rrK_p, l_tup, l_lst, l_kl, l_fr, l_br, g_pv, g_fr, d_lst, d_fr, d_br, d_str, d_int, d_bl, d_non, d_tup, tr_bl, tr_int, tr_non, tr_str, n_non, n_int, n_str, n_tup, n_lst, n_bl, n_ref, x_tup, x_lst, x_kl, x_fr, x_br, a_v, a_t, gt_pv, gt_fr, as_v, as_tt, as_tl, as_n, as_c, o_rtp, o_rtf, o_rtb, o_nx, lpK_nx, lpK_ct, lpK_bk, lpK_rt, foK_e, forK_p, itm_tup, itm_lst, itm_kl, itm_fr, itm_br, itm_etup, itm_elst, itm_ekl, itm_efr, itm_ebr, itm_r1, itm_r2, at_nat, at_0, at_1, at_2, at_3, at_4, at_5, at_6, at_7, p_ii, p_ss, p_tt, p_ff, p_bf, p_lf, p_fl, p_ll, p_bl, p_sub, p_mulL, p_mulR, p_divP, p_modP, p_pow, c_lt, c_le, c_gt, c_ge, eqK1_v, eqK2_v, c_eq, c_ne, c_in, c_ni, inK_v, in_tup, in_lst, in_kl, in_fr, in_br, f_abs, f_int, f_lenS, f_lent, f_lenl, f_lenk, f_lenf, f_lenb, f_listk, f_listl, f_listt, f_listf, f_tupl, f_tupt, f_tupf, f_tupb, f_all, f_any, anyK_b, f_sort1, f_sort1f, mo_il, mo_ib, mo_ik, mo_if, mo_cl, mo_cb, mo_cf, ixK0_n, ixMK_v, m_il, m_ib, m_if, coMK_v, m_cl, m_cb, m_cf, apo_s, apoK_o, apoK_r, boK_l, ap_s, apK_o, apK_r, bxK_l, gu_c, gu_e, ok_non, ok_bl, ok_int, catK_s, catK_n, turK_p, tu_n, tu_c, bo_n, bo_c, in_n, in_c, al_n, al_t, al_f, nu_n, nu_c, refK_l, x_ref, setK1_m, setK_l, set_ref, ixn_20, ixn_21, ixn_31, ixn_30, ixn_32, sl_tup, sl_lst, sl_fr, sl_br, rv_lst, rv_fr, rv_br, asI_i, b_some, m_some, List.getElem?_cons_succ, List.getElem?_cons_zero, List.getElem?_nil, List.set_cons_succ, List.set_cons_zero, List.length_cons, List.length_nil, lim, Nat.reduceAdd, Nat.reduceLeDiff, Int.reduceLT, Nat.reduceLT, Nat.lt_add_left_iff_pos, E.isNil, wipeE, Nat.zero_lt_succ, if_true, if_false, Bool.true_bne, Bool.false_bne, bne_self_eq_false, Bool.not_true, Bool.not_false, Bool.not_not, Bool.bne_false, Bool.bne_true]
theorem way_ok (k : Nat) (h : Hh) {el rs : List Row} {rt rt2 : List PV} (hel : ∀ e ∈ el, Good e) (hrs : ∀ e ∈ rs, Good e) (hl : el.length ≤ 100) (hl2 : rs.length ≤ 100) (hv : ∀ e ∈ rs, ∃ v re, e.rest = v :: re) :
    callK G.ds (k + 3) 11 [prog (el.map cell) rt, prog (rs.map cell) rt2] h = some (.pv (.tup [.tup [.str "Box", .tup (rs.map fun r => wayR el r (lastOf r))]]), h) := by
  have so := sources_ok k h hel hrs hl hl2 hv
  have fi := fields_in_ok k h (fs := rs.map cell) (rt := rt2)
  simp only [prog] at fi
  simp only [k_way_between, b_way_between, l_way_between_1, l_way_between_0, prog, so, fi, List.nil_append, ↓s_seq, ↓s_skip, ↓s_pass, ↓s_brk, ↓s_cnt, ↓s_retN, ↓s_ret, ↓s_ex, ↓s_ite, ↓s_ass, ↓s_par, ↓s_sub, ↓s_app, ↓s_frz, ↓s_prm, ↓e_con, ↓e_glob, ↓e_var, ↓e_tup, ↓e_lst, ↓e_bin, ↓e_neg, ↓e_cmp, ↓e_chain, ↓e_isN, ↓e_not, ↓e_and, ↓e_or, ↓e_ife, ↓e_idx, ↓pt_nil, ↓e_slc, ↓e_rev, ↓e_call, ↓e_blt, ↓e_mth, ↓e_isin, ↓e_setlen, ↓cd_nil, ↓i_one, ↓t_t, ↓r_nil, ↓r_cons, ↓rr_nil, ↓rr_cons, ↓lp_n, ↓lp_c, ↓cd_con, ↓pt_con, ↓i_con, ↓cd_var, ↓pt_var, ↓i_var, ↓cd_glob, ↓pt_glob, ↓i_glob, ↓cd_tup, ↓pt_tup, ↓i_tup, ↓cd_lst, ↓pt_lst, ↓i_lst, ↓cd_bin, ↓pt_bin, ↓i_bin, ↓cd_neg, ↓pt_neg, ↓i_neg, ↓cd_cmp, ↓pt_cmp, ↓i_cmp, ↓cd_chain, ↓pt_chain, ↓i_chain, ↓cd_isN, ↓pt_isN, ↓i_isN, ↓cd_not, ↓pt_not, ↓i_not, ↓cd_and, ↓pt_and, ↓i_and, ↓cd_or, ↓pt_or, ↓i_or, ↓cd_ife, ↓pt_ife, ↓i_ife, ↓cd_idx, ↓pt_idx, ↓i_idx, ↓cd_slc, ↓pt_slc, ↓i_slc, ↓cd_rev, ↓pt_rev, ↓i_rev, ↓cd_call, ↓pt_call, ↓i_call, ↓cd_blt, ↓pt_blt, ↓i_blt, ↓cd_mth, ↓pt_mth, ↓i_mth, ↓cd_isin, ↓pt_isin, ↓i_isin, ↓cd_setlen, ↓pt_setlen, ↓i_setlen, ↓cd_lc, ↓pt_lc, ↓i_lc, s_seq, s_skip, s_pass, s_brk, s_cnt, s_retN, s_ret, s_ex, s_ite, s_ass, s_par, s_sub, s_app, s_frz, s_prm, e_con, e_glob, e_var, e_tup, e_lst, e_bin, e_neg, e_cmp, e_chain, e_isN, e_not, e_and, e_or, e_ife, e_idx, pt_nil, e_slc, e_rev, e_call, e_blt, e_mth, e_isin, e_setlen, cd_nil, i_one, t_t, r_nil, r_cons, rr_nil, rr_cons, lp_n, lp_c, cd_con, pt_con, i_con, cd_var, pt_var, i_var, cd_glob, pt_glob, i_glob, cd_tup, pt_tup, i_tup, cd_lst, pt_lst, i_lst, cd_bin, pt_bin, i_bin, cd_neg, pt_neg, i_neg, cd_cmp, pt_cmp, i_cmp, cd_chain, pt_chain, i_chain, cd_isN, pt_isN, i_isN, cd_not, pt_not, i_not, cd_and, pt_and, i_and, cd_or, pt_or, i_or, cd_ife, pt_ife, i_ife, cd_idx, pt_idx, i_idx, cd_slc, pt_slc, i_slc, cd_rev, pt_rev, i_rev, cd_call, pt_call, i_call, cd_blt, pt_blt, i_blt, cd_mth, pt_mth, i_mth, cd_isin, pt_isin, i_isin, cd_setlen, pt_setlen, i_setlen, cd_lc, pt_lc, i_lc, ↓e_lc, ↓s_for, e_lc, s_for, nxt_nx, nxt_rt, nxt_bk, nxt_ct, rtK_p, exK_p, iteK_t, iteK_f, nxO_e, assK_p, parK_p, subK3_p, subK2_p, subK1_p, subK_p, nx2_p, appK1_p, appK_p, okK_t, forL_p, frzK_o, frzK_s, prmK_o, prmK_s, varK_s, varK_o, tupK_p, lstK_p, wiK_a, binK1_p, binK_p, negK_i, blK_b, cmpK1_p, cmpK_p, chainK_t, chainK_f, chK1_p, chK_p, isNK_p, nblK_b, notK_p, andK_t, andK_f, anK_p, orK_t, orK_f, oK_p, ifeK_t, ifeK_f, ifK_p, idxK1_p, idxK_p, siK_i, aiK_p, slcK2_p, slcK1_p, slcK_p, revK_p, callE_p, bltK_p, mthK1_p, mthK0_t, mthK_p, isinK_p, slnK1_p, slnK0_p, slnK_p, soK_v, giK_p, trK1_b, trK_p, elK_t, elK_f, lcK1_p, lcK_p, tuK_p, itK1_p, itK2_p, itK_p, coK_p, rcK1_p, rcK_p, crK_p, rrK_p, l_tup, l_lst, l_kl, l_fr, l_br, g_pv, g_fr, d_lst, d_fr, d_br, d_str, d_int, d_bl, d_non, d_tup, tr_bl, tr_int, tr_non, tr_str, n_non, n_int, n_str, n_tup, n_lst, n_bl, n_ref, x_tup, x_lst, x_kl, x_fr, x_br, a_v, a_t, gt_pv, gt_fr, as_v, as_tt, as_tl, as_n, as_c, o_rtp, o_rtf, o_rtb, o_nx, lpK_nx, lpK_ct, lpK_bk, lpK_rt, foK_e, forK_p, itm_tup, itm_lst, itm_kl, itm_fr, itm_br, itm_etup, itm_elst, itm_ekl, itm_efr, itm_ebr, itm_r1, itm_r2, at_nat, at_0, at_1, at_2, at_3, at_4, at_5, at_6, at_7, p_ii, p_ss, p_tt, p_ff, p_bf, p_lf, p_fl, p_ll, p_bl, p_sub, p_mulL, p_mulR, p_divP, p_modP, p_pow, c_lt, c_le, c_gt, c_ge, eqK1_v, eqK2_v, c_eq, c_ne, c_in, c_ni, inK_v, in_tup, in_lst, in_kl, in_fr, in_br, f_abs, f_int, f_lenS, f_lent, f_lenl, f_lenk, f_lenf, f_lenb, f_listk, f_listl, f_listt, f_listf, f_tupl, f_tupt, f_tupf, f_tupb, f_all, f_any, anyK_b, f_sort1, f_sort1f, mo_il, mo_ib, mo_ik, mo_if, mo_cl, mo_cb, mo_cf, ixK0_n, ixMK_v, m_il, m_ib, m_if, coMK_v, m_cl, m_cb, m_cf, apo_s, apoK_o, apoK_r, boK_l, ap_s, apK_o, apK_r, bxK_l, gu_c, gu_e, ok_non, ok_bl, ok_int, catK_s, catK_n, turK_p, tu_n, tu_c, bo_n, bo_c, in_n, in_c, al_n, al_t, al_f, nu_n, nu_c, refK_l, x_ref, setK1_m, setK_l, set_ref, ixn_20, ixn_21, ixn_31, ixn_30, ixn_32, sl_tup, sl_lst, sl_fr, sl_br, rv_lst, rv_fr, rv_br, asI_i, b_some, m_some, List.getElem?_cons_succ, List.getElem?_cons_zero, List.getElem?_nil, List.set_cons_succ, List.set_cons_zero, List.length_cons, List.length_nil, lim, Nat.reduceAdd, Nat.reduceLeDiff, Int.reduceLT, Nat.reduceLT, Nat.lt_add_left_iff_pos, E.isNil, wipeE, Nat.zero_lt_succ, if_true, if_false, Bool.true_bne, Bool.false_bne, bne_self_eq_false, Bool.not_true, Bool.not_false, Bool.not_not, Bool.bne_false, Bool.bne_true]
/-- the roots' programs -/
def rprog (rt : List PV) : PV := .tup [.tup [], .tup rt, .tup []]
theorem root_way_ok (k : Nat) (h : Hh) {el rs : List Row} (hel : ∀ e ∈ el, Good e) (hrs : ∀ e ∈ rs, Good e) (hl : el.length ≤ 100) (hl2 : rs.length ≤ 100) :
    callK G.ds (k + 2) 12 [rprog (el.map cell), rprog (rs.map cell)] h = some (.pv (.tup (rs.map fun r => np (src el r))), h) := by
  have ha : ∀ s0 s1 s2 : Sl, s0 = .sh (rprog (el.map cell)) → turns (lcK (callK G.ds (k + 1)) [2] (.call 2 (.cons (.idx (.var 0) (.con (.int 1))) (.cons (.var 2) .nil))) (.v 2) .nil [s0, s1, s2]) (rs.map cell) h = some (rs.map fun r => np (src el r), h) := fun s0 s1 s2 e => by
    subst e
    refine turns_all rs h fun r m => ?_
    have sr := source_in_ok k h hel hl (hrs r m)
    simp only [lcK_p, rprog, sr, ↓s_seq, ↓s_skip, ↓s_pass, ↓s_brk, ↓s_cnt, ↓s_retN, ↓s_ret, ↓s_ex, ↓s_ite, ↓s_ass, ↓s_par, ↓s_sub, ↓s_app, ↓s_frz, ↓s_prm, ↓e_con, ↓e_glob, ↓e_var, ↓e_tup, ↓e_lst, ↓e_bin, ↓e_neg, ↓e_cmp, ↓e_chain, ↓e_isN, ↓e_not, ↓e_and, ↓e_or, ↓e_ife, ↓e_idx, ↓pt_nil, ↓e_slc, ↓e_rev, ↓e_call, ↓e_blt, ↓e_mth, ↓e_isin, ↓e_setlen, ↓cd_nil, ↓i_one, ↓t_t, ↓r_nil, ↓r_cons, ↓rr_nil, ↓rr_cons, ↓lp_n, ↓lp_c, ↓cd_con, ↓pt_con, ↓i_con, ↓cd_var, ↓pt_var, ↓i_var, ↓cd_glob, ↓pt_glob, ↓i_glob, ↓cd_tup, ↓pt_tup, ↓i_tup, ↓cd_lst, ↓pt_lst, ↓i_lst, ↓cd_bin, ↓pt_bin, ↓i_bin, ↓cd_neg, ↓pt_neg, ↓i_neg, ↓cd_cmp, ↓pt_cmp, ↓i_cmp, ↓cd_chain, ↓pt_chain, ↓i_chain, ↓cd_isN, ↓pt_isN, ↓i_isN, ↓cd_not, ↓pt_not, ↓i_not, ↓cd_and, ↓pt_and, ↓i_and, ↓cd_or, ↓pt_or, ↓i_or, ↓cd_ife, ↓pt_ife, ↓i_ife, ↓cd_idx, ↓pt_idx, ↓i_idx, ↓cd_slc, ↓pt_slc, ↓i_slc, ↓cd_rev, ↓pt_rev, ↓i_rev, ↓cd_call, ↓pt_call, ↓i_call, ↓cd_blt, ↓pt_blt, ↓i_blt, ↓cd_mth, ↓pt_mth, ↓i_mth, ↓cd_isin, ↓pt_isin, ↓i_isin, ↓cd_setlen, ↓pt_setlen, ↓i_setlen, ↓cd_lc, ↓pt_lc, ↓i_lc, s_seq, s_skip, s_pass, s_brk, s_cnt, s_retN, s_ret, s_ex, s_ite, s_ass, s_par, s_sub, s_app, s_frz, s_prm, e_con, e_glob, e_var, e_tup, e_lst, e_bin, e_neg, e_cmp, e_chain, e_isN, e_not, e_and, e_or, e_ife, e_idx, pt_nil, e_slc, e_rev, e_call, e_blt, e_mth, e_isin, e_setlen, cd_nil, i_one, t_t, r_nil, r_cons, rr_nil, rr_cons, lp_n, lp_c, cd_con, pt_con, i_con, cd_var, pt_var, i_var, cd_glob, pt_glob, i_glob, cd_tup, pt_tup, i_tup, cd_lst, pt_lst, i_lst, cd_bin, pt_bin, i_bin, cd_neg, pt_neg, i_neg, cd_cmp, pt_cmp, i_cmp, cd_chain, pt_chain, i_chain, cd_isN, pt_isN, i_isN, cd_not, pt_not, i_not, cd_and, pt_and, i_and, cd_or, pt_or, i_or, cd_ife, pt_ife, i_ife, cd_idx, pt_idx, i_idx, cd_slc, pt_slc, i_slc, cd_rev, pt_rev, i_rev, cd_call, pt_call, i_call, cd_blt, pt_blt, i_blt, cd_mth, pt_mth, i_mth, cd_isin, pt_isin, i_isin, cd_setlen, pt_setlen, i_setlen, cd_lc, pt_lc, i_lc, ↓e_lc, ↓s_for, e_lc, s_for, nxt_nx, nxt_rt, nxt_bk, nxt_ct, rtK_p, exK_p, iteK_t, iteK_f, nxO_e, assK_p, parK_p, subK3_p, subK2_p, subK1_p, subK_p, nx2_p, appK1_p, appK_p, okK_t, forL_p, frzK_o, frzK_s, prmK_o, prmK_s, varK_s, varK_o, tupK_p, lstK_p, wiK_a, binK1_p, binK_p, negK_i, blK_b, cmpK1_p, cmpK_p, chainK_t, chainK_f, chK1_p, chK_p, isNK_p, nblK_b, notK_p, andK_t, andK_f, anK_p, orK_t, orK_f, oK_p, ifeK_t, ifeK_f, ifK_p, idxK1_p, idxK_p, siK_i, aiK_p, slcK2_p, slcK1_p, slcK_p, revK_p, callE_p, bltK_p, mthK1_p, mthK0_t, mthK_p, isinK_p, slnK1_p, slnK0_p, slnK_p, soK_v, giK_p, trK1_b, trK_p, elK_t, elK_f, lcK1_p, lcK_p, tuK_p, itK1_p, itK2_p, itK_p, coK_p, rcK1_p, rcK_p, crK_p, rrK_p, l_tup, l_lst, l_kl, l_fr, l_br, g_pv, g_fr, d_lst, d_fr, d_br, d_str, d_int, d_bl, d_non, d_tup, tr_bl, tr_int, tr_non, tr_str, n_non, n_int, n_str, n_tup, n_lst, n_bl, n_ref, x_tup, x_lst, x_kl, x_fr, x_br, a_v, a_t, gt_pv, gt_fr, as_v, as_tt, as_tl, as_n, as_c, o_rtp, o_rtf, o_rtb, o_nx, lpK_nx, lpK_ct, lpK_bk, lpK_rt, foK_e, forK_p, itm_tup, itm_lst, itm_kl, itm_fr, itm_br, itm_etup, itm_elst, itm_ekl, itm_efr, itm_ebr, itm_r1, itm_r2, at_nat, at_0, at_1, at_2, at_3, at_4, at_5, at_6, at_7, p_ii, p_ss, p_tt, p_ff, p_bf, p_lf, p_fl, p_ll, p_bl, p_sub, p_mulL, p_mulR, p_divP, p_modP, p_pow, c_lt, c_le, c_gt, c_ge, eqK1_v, eqK2_v, c_eq, c_ne, c_in, c_ni, inK_v, in_tup, in_lst, in_kl, in_fr, in_br, f_abs, f_int, f_lenS, f_lent, f_lenl, f_lenk, f_lenf, f_lenb, f_listk, f_listl, f_listt, f_listf, f_tupl, f_tupt, f_tupf, f_tupb, f_all, f_any, anyK_b, f_sort1, f_sort1f, mo_il, mo_ib, mo_ik, mo_if, mo_cl, mo_cb, mo_cf, ixK0_n, ixMK_v, m_il, m_ib, m_if, coMK_v, m_cl, m_cb, m_cf, apo_s, apoK_o, apoK_r, boK_l, ap_s, apK_o, apK_r, bxK_l, gu_c, gu_e, ok_non, ok_bl, ok_int, catK_s, catK_n, turK_p, tu_n, tu_c, bo_n, bo_c, in_n, in_c, al_n, al_t, al_f, nu_n, nu_c, refK_l, x_ref, setK1_m, setK_l, set_ref, ixn_20, ixn_21, ixn_31, ixn_30, ixn_32, sl_tup, sl_lst, sl_fr, sl_br, rv_lst, rv_fr, rv_br, asI_i, b_some, m_some, List.getElem?_cons_succ, List.getElem?_cons_zero, List.getElem?_nil, List.set_cons_succ, List.set_cons_zero, List.length_cons, List.length_nil, lim, Nat.reduceAdd, Nat.reduceLeDiff, Int.reduceLT, Nat.reduceLT, Nat.lt_add_left_iff_pos, E.isNil, wipeE, Nat.zero_lt_succ, if_true, if_false, Bool.true_bne, Bool.false_bne, bne_self_eq_false, Bool.not_true, Bool.not_false, Bool.not_not, Bool.bne_false, Bool.bne_true]
  have le : (rs.map fun r => np (src el r)).length ≤ 16777216 := by rw [List.length_map]; omega
  simp only [rprog] at ha
  simp only [k_root_way, b_root_way, e_root_way_0, rprog, ha, le, ↓s_seq, ↓s_skip, ↓s_pass, ↓s_brk, ↓s_cnt, ↓s_retN, ↓s_ret, ↓s_ex, ↓s_ite, ↓s_ass, ↓s_par, ↓s_sub, ↓s_app, ↓s_frz, ↓s_prm, ↓e_con, ↓e_glob, ↓e_var, ↓e_tup, ↓e_lst, ↓e_bin, ↓e_neg, ↓e_cmp, ↓e_chain, ↓e_isN, ↓e_not, ↓e_and, ↓e_or, ↓e_ife, ↓e_idx, ↓pt_nil, ↓e_slc, ↓e_rev, ↓e_call, ↓e_blt, ↓e_mth, ↓e_isin, ↓e_setlen, ↓cd_nil, ↓i_one, ↓t_t, ↓r_nil, ↓r_cons, ↓rr_nil, ↓rr_cons, ↓lp_n, ↓lp_c, ↓cd_con, ↓pt_con, ↓i_con, ↓cd_var, ↓pt_var, ↓i_var, ↓cd_glob, ↓pt_glob, ↓i_glob, ↓cd_tup, ↓pt_tup, ↓i_tup, ↓cd_lst, ↓pt_lst, ↓i_lst, ↓cd_bin, ↓pt_bin, ↓i_bin, ↓cd_neg, ↓pt_neg, ↓i_neg, ↓cd_cmp, ↓pt_cmp, ↓i_cmp, ↓cd_chain, ↓pt_chain, ↓i_chain, ↓cd_isN, ↓pt_isN, ↓i_isN, ↓cd_not, ↓pt_not, ↓i_not, ↓cd_and, ↓pt_and, ↓i_and, ↓cd_or, ↓pt_or, ↓i_or, ↓cd_ife, ↓pt_ife, ↓i_ife, ↓cd_idx, ↓pt_idx, ↓i_idx, ↓cd_slc, ↓pt_slc, ↓i_slc, ↓cd_rev, ↓pt_rev, ↓i_rev, ↓cd_call, ↓pt_call, ↓i_call, ↓cd_blt, ↓pt_blt, ↓i_blt, ↓cd_mth, ↓pt_mth, ↓i_mth, ↓cd_isin, ↓pt_isin, ↓i_isin, ↓cd_setlen, ↓pt_setlen, ↓i_setlen, ↓cd_lc, ↓pt_lc, ↓i_lc, s_seq, s_skip, s_pass, s_brk, s_cnt, s_retN, s_ret, s_ex, s_ite, s_ass, s_par, s_sub, s_app, s_frz, s_prm, e_con, e_glob, e_var, e_tup, e_lst, e_bin, e_neg, e_cmp, e_chain, e_isN, e_not, e_and, e_or, e_ife, e_idx, pt_nil, e_slc, e_rev, e_call, e_blt, e_mth, e_isin, e_setlen, cd_nil, i_one, t_t, r_nil, r_cons, rr_nil, rr_cons, lp_n, lp_c, cd_con, pt_con, i_con, cd_var, pt_var, i_var, cd_glob, pt_glob, i_glob, cd_tup, pt_tup, i_tup, cd_lst, pt_lst, i_lst, cd_bin, pt_bin, i_bin, cd_neg, pt_neg, i_neg, cd_cmp, pt_cmp, i_cmp, cd_chain, pt_chain, i_chain, cd_isN, pt_isN, i_isN, cd_not, pt_not, i_not, cd_and, pt_and, i_and, cd_or, pt_or, i_or, cd_ife, pt_ife, i_ife, cd_idx, pt_idx, i_idx, cd_slc, pt_slc, i_slc, cd_rev, pt_rev, i_rev, cd_call, pt_call, i_call, cd_blt, pt_blt, i_blt, cd_mth, pt_mth, i_mth, cd_isin, pt_isin, i_isin, cd_setlen, pt_setlen, i_setlen, cd_lc, pt_lc, i_lc, ↓e_lc, ↓s_for, e_lc, s_for, nxt_nx, nxt_rt, nxt_bk, nxt_ct, rtK_p, exK_p, iteK_t, iteK_f, nxO_e, assK_p, parK_p, subK3_p, subK2_p, subK1_p, subK_p, nx2_p, appK1_p, appK_p, okK_t, forL_p, frzK_o, frzK_s, prmK_o, prmK_s, varK_s, varK_o, tupK_p, lstK_p, wiK_a, binK1_p, binK_p, negK_i, blK_b, cmpK1_p, cmpK_p, chainK_t, chainK_f, chK1_p, chK_p, isNK_p, nblK_b, notK_p, andK_t, andK_f, anK_p, orK_t, orK_f, oK_p, ifeK_t, ifeK_f, ifK_p, idxK1_p, idxK_p, siK_i, aiK_p, slcK2_p, slcK1_p, slcK_p, revK_p, callE_p, bltK_p, mthK1_p, mthK0_t, mthK_p, isinK_p, slnK1_p, slnK0_p, slnK_p, soK_v, giK_p, trK1_b, trK_p, elK_t, elK_f, lcK1_p, lcK_p, tuK_p, itK1_p, itK2_p, itK_p, coK_p, rcK1_p, rcK_p, crK_p, rrK_p, l_tup, l_lst, l_kl, l_fr, l_br, g_pv, g_fr, d_lst, d_fr, d_br, d_str, d_int, d_bl, d_non, d_tup, tr_bl, tr_int, tr_non, tr_str, n_non, n_int, n_str, n_tup, n_lst, n_bl, n_ref, x_tup, x_lst, x_kl, x_fr, x_br, a_v, a_t, gt_pv, gt_fr, as_v, as_tt, as_tl, as_n, as_c, o_rtp, o_rtf, o_rtb, o_nx, lpK_nx, lpK_ct, lpK_bk, lpK_rt, foK_e, forK_p, itm_tup, itm_lst, itm_kl, itm_fr, itm_br, itm_etup, itm_elst, itm_ekl, itm_efr, itm_ebr, itm_r1, itm_r2, at_nat, at_0, at_1, at_2, at_3, at_4, at_5, at_6, at_7, p_ii, p_ss, p_tt, p_ff, p_bf, p_lf, p_fl, p_ll, p_bl, p_sub, p_mulL, p_mulR, p_divP, p_modP, p_pow, c_lt, c_le, c_gt, c_ge, eqK1_v, eqK2_v, c_eq, c_ne, c_in, c_ni, inK_v, in_tup, in_lst, in_kl, in_fr, in_br, f_abs, f_int, f_lenS, f_lent, f_lenl, f_lenk, f_lenf, f_lenb, f_listk, f_listl, f_listt, f_listf, f_tupl, f_tupt, f_tupf, f_tupb, f_all, f_any, anyK_b, f_sort1, f_sort1f, mo_il, mo_ib, mo_ik, mo_if, mo_cl, mo_cb, mo_cf, ixK0_n, ixMK_v, m_il, m_ib, m_if, coMK_v, m_cl, m_cb, m_cf, apo_s, apoK_o, apoK_r, boK_l, ap_s, apK_o, apK_r, bxK_l, gu_c, gu_e, ok_non, ok_bl, ok_int, catK_s, catK_n, turK_p, tu_n, tu_c, bo_n, bo_c, in_n, in_c, al_n, al_t, al_f, nu_n, nu_c, refK_l, x_ref, setK1_m, setK_l, set_ref, ixn_20, ixn_21, ixn_31, ixn_30, ixn_32, sl_tup, sl_lst, sl_fr, sl_br, rv_lst, rv_fr, rv_br, asI_i, b_some, m_some, List.getElem?_cons_succ, List.getElem?_cons_zero, List.getElem?_nil, List.set_cons_succ, List.set_cons_zero, List.length_cons, List.length_nil, lim, Nat.reduceAdd, Nat.reduceLeDiff, Int.reduceLT, Nat.reduceLT, Nat.lt_add_left_iff_pos, E.isNil, wipeE, Nat.zero_lt_succ, if_true, if_false, Bool.true_bne, Bool.false_bne, bne_self_eq_false, Bool.not_true, Bool.not_false, Bool.not_not, Bool.bne_false, Bool.bne_true]
def objR (el rs : List Row) (p : Row × Nat) : List PV := ((word el rs p.2 p.1).map fun w => PV.tup [.tup [.int 1, .int p.2], .str w]).toList
theorem objs2_le {el rs : List Row} : (rs.zipIdx.flatMap (objR el rs)).length ≤ rs.length := by
  have : (rs.zipIdx.flatMap (objR el rs)).length ≤ rs.zipIdx.length := flat_le fun x _ => by
    unfold objR
    cases word el rs x.2 x.1 <;> simp
  rw [List.length_zipIdx] at this
  exact this
theorem range_map (rs : List Row) : ((List.range rs.length).map fun (i : Nat) => PV.int i) = rs.zipIdx.map fun p => PV.int p.2 := by
  apply List.ext_getElem
  · simp
  · intro i h1 h2
    simp
theorem range_len (rs : List Row) (hl2 : rs.length ≤ 100) : itemsOf .rng1 false (.pv (.int ((rs.map cell).length : Int))) none = some ((List.range rs.length).map fun (i : Nat) => PV.int i) := by
  have bd : small 62 ((rs.map cell).length : Int) = true := by
    refine small_of ?_
    rw [List.length_map, Int.natAbs_natCast]
    omega
  rw [itm_r1 bd, Int.toNat_natCast, List.length_map]
theorem obj2_loop (k : Nat) (h : Hh) {el rs : List Row} (hel : ∀ e ∈ el, Good e) (hrs : ∀ e ∈ rs, Good e) (hl : el.length ≤ 100) (hl2 : rs.length ≤ 100) (s3 s4 s5 : Sl) : ∃ j : Sl × Sl × Sl, loop (forK (callK G.ds (k + 2)) (.v 3) (.seq (.ass (.v 5) (.call 4 (.cons (.idx (.var 0) (.con (.int 1))) (.cons (.idx (.var 1) (.con (.int 1))) (.cons (.var 3) .nil))))) (.frz 5 (.seq (.ite (.isN true (.var 5)) (.seq (.app 2 (.tup (.cons (.tup (.cons (.con (.int 1)) (.cons (.var 3) .nil))) (.cons (.var 5) .nil)))) .skip) .skip) .skip)))) ((List.range rs.length).map fun (i : Nat) => PV.int i)
    [.sh (rprog (el.map cell)), .sh (rprog (rs.map cell)), .ow (.l []), s3, s4, s5] h =
    some (.nx [.sh (rprog (el.map cell)), .sh (rprog (rs.map cell)), .ow (.l ([] ++ rs.zipIdx.flatMap (objR el rs))), j.1, j.2.1, j.2.2] h) := by
  rw [range_map]
  refine loop_app (J := Sl × Sl × Sl) (M := 100) (E := fun j acc => [.sh (rprog (el.map cell)), .sh (rprog (rs.map cell)), .ow (.l acc), j.1, j.2.1, j.2.2]) (g := objR el rs) rs.zipIdx (s3, s4, s5) [] ?_ ?_
  · have := objs2_le (el := el) (rs := rs)
    simp only [List.length_nil]
    omega
  · rintro ⟨r, i⟩ m ⟨j1, j2, j3⟩ acc hb
    have hi : rs[i]? = some r := List.mem_zipIdx_iff_getElem?.mp m
    have wa := word_against_ok k h hi hel hrs hl hl2
    simp only [objR] at hb ⊢
    cases hw : word el rs i r with
    | some w =>
      rw [hw] at wa hb
      have hb2 : acc.length < 16777216 := by simp at hb; omega
      exact ⟨(.sh (.int i), j2, .sh (.str w)), by simp only [rprog, wa, tp_s, hb2, Option.toList_some, ↓s_seq, ↓s_skip, ↓s_pass, ↓s_brk, ↓s_cnt, ↓s_retN, ↓s_ret, ↓s_ex, ↓s_ite, ↓s_ass, ↓s_par, ↓s_sub, ↓s_app, ↓s_frz, ↓s_prm, ↓e_con, ↓e_glob, ↓e_var, ↓e_tup, ↓e_lst, ↓e_bin, ↓e_neg, ↓e_cmp, ↓e_chain, ↓e_isN, ↓e_not, ↓e_and, ↓e_or, ↓e_ife, ↓e_idx, ↓pt_nil, ↓e_slc, ↓e_rev, ↓e_call, ↓e_blt, ↓e_mth, ↓e_isin, ↓e_setlen, ↓cd_nil, ↓i_one, ↓t_t, ↓r_nil, ↓r_cons, ↓rr_nil, ↓rr_cons, ↓lp_n, ↓lp_c, ↓cd_con, ↓pt_con, ↓i_con, ↓cd_var, ↓pt_var, ↓i_var, ↓cd_glob, ↓pt_glob, ↓i_glob, ↓cd_tup, ↓pt_tup, ↓i_tup, ↓cd_lst, ↓pt_lst, ↓i_lst, ↓cd_bin, ↓pt_bin, ↓i_bin, ↓cd_neg, ↓pt_neg, ↓i_neg, ↓cd_cmp, ↓pt_cmp, ↓i_cmp, ↓cd_chain, ↓pt_chain, ↓i_chain, ↓cd_isN, ↓pt_isN, ↓i_isN, ↓cd_not, ↓pt_not, ↓i_not, ↓cd_and, ↓pt_and, ↓i_and, ↓cd_or, ↓pt_or, ↓i_or, ↓cd_ife, ↓pt_ife, ↓i_ife, ↓cd_idx, ↓pt_idx, ↓i_idx, ↓cd_slc, ↓pt_slc, ↓i_slc, ↓cd_rev, ↓pt_rev, ↓i_rev, ↓cd_call, ↓pt_call, ↓i_call, ↓cd_blt, ↓pt_blt, ↓i_blt, ↓cd_mth, ↓pt_mth, ↓i_mth, ↓cd_isin, ↓pt_isin, ↓i_isin, ↓cd_setlen, ↓pt_setlen, ↓i_setlen, ↓cd_lc, ↓pt_lc, ↓i_lc, s_seq, s_skip, s_pass, s_brk, s_cnt, s_retN, s_ret, s_ex, s_ite, s_ass, s_par, s_sub, s_app, s_frz, s_prm, e_con, e_glob, e_var, e_tup, e_lst, e_bin, e_neg, e_cmp, e_chain, e_isN, e_not, e_and, e_or, e_ife, e_idx, pt_nil, e_slc, e_rev, e_call, e_blt, e_mth, e_isin, e_setlen, cd_nil, i_one, t_t, r_nil, r_cons, rr_nil, rr_cons, lp_n, lp_c, cd_con, pt_con, i_con, cd_var, pt_var, i_var, cd_glob, pt_glob, i_glob, cd_tup, pt_tup, i_tup, cd_lst, pt_lst, i_lst, cd_bin, pt_bin, i_bin, cd_neg, pt_neg, i_neg, cd_cmp, pt_cmp, i_cmp, cd_chain, pt_chain, i_chain, cd_isN, pt_isN, i_isN, cd_not, pt_not, i_not, cd_and, pt_and, i_and, cd_or, pt_or, i_or, cd_ife, pt_ife, i_ife, cd_idx, pt_idx, i_idx, cd_slc, pt_slc, i_slc, cd_rev, pt_rev, i_rev, cd_call, pt_call, i_call, cd_blt, pt_blt, i_blt, cd_mth, pt_mth, i_mth, cd_isin, pt_isin, i_isin, cd_setlen, pt_setlen, i_setlen, cd_lc, pt_lc, i_lc, ↓e_lc, ↓s_for, e_lc, s_for, nxt_nx, nxt_rt, nxt_bk, nxt_ct, rtK_p, exK_p, iteK_t, iteK_f, nxO_e, assK_p, parK_p, subK3_p, subK2_p, subK1_p, subK_p, nx2_p, appK1_p, appK_p, okK_t, forL_p, frzK_o, frzK_s, prmK_o, prmK_s, varK_s, varK_o, tupK_p, lstK_p, wiK_a, binK1_p, binK_p, negK_i, blK_b, cmpK1_p, cmpK_p, chainK_t, chainK_f, chK1_p, chK_p, isNK_p, nblK_b, notK_p, andK_t, andK_f, anK_p, orK_t, orK_f, oK_p, ifeK_t, ifeK_f, ifK_p, idxK1_p, idxK_p, siK_i, aiK_p, slcK2_p, slcK1_p, slcK_p, revK_p, callE_p, bltK_p, mthK1_p, mthK0_t, mthK_p, isinK_p, slnK1_p, slnK0_p, slnK_p, soK_v, giK_p, trK1_b, trK_p, elK_t, elK_f, lcK1_p, lcK_p, tuK_p, itK1_p, itK2_p, itK_p, coK_p, rcK1_p, rcK_p, crK_p, rrK_p, l_tup, l_lst, l_kl, l_fr, l_br, g_pv, g_fr, d_lst, d_fr, d_br, d_str, d_int, d_bl, d_non, d_tup, tr_bl, tr_int, tr_non, tr_str, n_non, n_int, n_str, n_tup, n_lst, n_bl, n_ref, x_tup, x_lst, x_kl, x_fr, x_br, a_v, a_t, gt_pv, gt_fr, as_v, as_tt, as_tl, as_n, as_c, o_rtp, o_rtf, o_rtb, o_nx, lpK_nx, lpK_ct, lpK_bk, lpK_rt, foK_e, forK_p, itm_tup, itm_lst, itm_kl, itm_fr, itm_br, itm_etup, itm_elst, itm_ekl, itm_efr, itm_ebr, itm_r1, itm_r2, at_nat, at_0, at_1, at_2, at_3, at_4, at_5, at_6, at_7, p_ii, p_ss, p_tt, p_ff, p_bf, p_lf, p_fl, p_ll, p_bl, p_sub, p_mulL, p_mulR, p_divP, p_modP, p_pow, c_lt, c_le, c_gt, c_ge, eqK1_v, eqK2_v, c_eq, c_ne, c_in, c_ni, inK_v, in_tup, in_lst, in_kl, in_fr, in_br, f_abs, f_int, f_lenS, f_lent, f_lenl, f_lenk, f_lenf, f_lenb, f_listk, f_listl, f_listt, f_listf, f_tupl, f_tupt, f_tupf, f_tupb, f_all, f_any, anyK_b, f_sort1, f_sort1f, mo_il, mo_ib, mo_ik, mo_if, mo_cl, mo_cb, mo_cf, ixK0_n, ixMK_v, m_il, m_ib, m_if, coMK_v, m_cl, m_cb, m_cf, apo_s, apoK_o, apoK_r, boK_l, ap_s, apK_o, apK_r, bxK_l, gu_c, gu_e, ok_non, ok_bl, ok_int, catK_s, catK_n, turK_p, tu_n, tu_c, bo_n, bo_c, in_n, in_c, al_n, al_t, al_f, nu_n, nu_c, refK_l, x_ref, setK1_m, setK_l, set_ref, ixn_20, ixn_21, ixn_31, ixn_30, ixn_32, sl_tup, sl_lst, sl_fr, sl_br, rv_lst, rv_fr, rv_br, asI_i, b_some, m_some, List.getElem?_cons_succ, List.getElem?_cons_zero, List.getElem?_nil, List.set_cons_succ, List.set_cons_zero, List.length_cons, List.length_nil, lim, Nat.reduceAdd, Nat.reduceLeDiff, Int.reduceLT, Nat.reduceLT, Nat.lt_add_left_iff_pos, E.isNil, wipeE, Nat.zero_lt_succ, if_true, if_false, Bool.true_bne, Bool.false_bne, bne_self_eq_false, Bool.not_true, Bool.not_false, Bool.not_not, Bool.bne_false, Bool.bne_true]⟩
    | none =>
      rw [hw] at wa
      exact ⟨(.sh (.int i), j2, .sh .non), by simp only [rprog, wa, tp_n, Option.map_none, Option.toList_none, List.append_nil, ↓s_seq, ↓s_skip, ↓s_pass, ↓s_brk, ↓s_cnt, ↓s_retN, ↓s_ret, ↓s_ex, ↓s_ite, ↓s_ass, ↓s_par, ↓s_sub, ↓s_app, ↓s_frz, ↓s_prm, ↓e_con, ↓e_glob, ↓e_var, ↓e_tup, ↓e_lst, ↓e_bin, ↓e_neg, ↓e_cmp, ↓e_chain, ↓e_isN, ↓e_not, ↓e_and, ↓e_or, ↓e_ife, ↓e_idx, ↓pt_nil, ↓e_slc, ↓e_rev, ↓e_call, ↓e_blt, ↓e_mth, ↓e_isin, ↓e_setlen, ↓cd_nil, ↓i_one, ↓t_t, ↓r_nil, ↓r_cons, ↓rr_nil, ↓rr_cons, ↓lp_n, ↓lp_c, ↓cd_con, ↓pt_con, ↓i_con, ↓cd_var, ↓pt_var, ↓i_var, ↓cd_glob, ↓pt_glob, ↓i_glob, ↓cd_tup, ↓pt_tup, ↓i_tup, ↓cd_lst, ↓pt_lst, ↓i_lst, ↓cd_bin, ↓pt_bin, ↓i_bin, ↓cd_neg, ↓pt_neg, ↓i_neg, ↓cd_cmp, ↓pt_cmp, ↓i_cmp, ↓cd_chain, ↓pt_chain, ↓i_chain, ↓cd_isN, ↓pt_isN, ↓i_isN, ↓cd_not, ↓pt_not, ↓i_not, ↓cd_and, ↓pt_and, ↓i_and, ↓cd_or, ↓pt_or, ↓i_or, ↓cd_ife, ↓pt_ife, ↓i_ife, ↓cd_idx, ↓pt_idx, ↓i_idx, ↓cd_slc, ↓pt_slc, ↓i_slc, ↓cd_rev, ↓pt_rev, ↓i_rev, ↓cd_call, ↓pt_call, ↓i_call, ↓cd_blt, ↓pt_blt, ↓i_blt, ↓cd_mth, ↓pt_mth, ↓i_mth, ↓cd_isin, ↓pt_isin, ↓i_isin, ↓cd_setlen, ↓pt_setlen, ↓i_setlen, ↓cd_lc, ↓pt_lc, ↓i_lc, s_seq, s_skip, s_pass, s_brk, s_cnt, s_retN, s_ret, s_ex, s_ite, s_ass, s_par, s_sub, s_app, s_frz, s_prm, e_con, e_glob, e_var, e_tup, e_lst, e_bin, e_neg, e_cmp, e_chain, e_isN, e_not, e_and, e_or, e_ife, e_idx, pt_nil, e_slc, e_rev, e_call, e_blt, e_mth, e_isin, e_setlen, cd_nil, i_one, t_t, r_nil, r_cons, rr_nil, rr_cons, lp_n, lp_c, cd_con, pt_con, i_con, cd_var, pt_var, i_var, cd_glob, pt_glob, i_glob, cd_tup, pt_tup, i_tup, cd_lst, pt_lst, i_lst, cd_bin, pt_bin, i_bin, cd_neg, pt_neg, i_neg, cd_cmp, pt_cmp, i_cmp, cd_chain, pt_chain, i_chain, cd_isN, pt_isN, i_isN, cd_not, pt_not, i_not, cd_and, pt_and, i_and, cd_or, pt_or, i_or, cd_ife, pt_ife, i_ife, cd_idx, pt_idx, i_idx, cd_slc, pt_slc, i_slc, cd_rev, pt_rev, i_rev, cd_call, pt_call, i_call, cd_blt, pt_blt, i_blt, cd_mth, pt_mth, i_mth, cd_isin, pt_isin, i_isin, cd_setlen, pt_setlen, i_setlen, cd_lc, pt_lc, i_lc, ↓e_lc, ↓s_for, e_lc, s_for, nxt_nx, nxt_rt, nxt_bk, nxt_ct, rtK_p, exK_p, iteK_t, iteK_f, nxO_e, assK_p, parK_p, subK3_p, subK2_p, subK1_p, subK_p, nx2_p, appK1_p, appK_p, okK_t, forL_p, frzK_o, frzK_s, prmK_o, prmK_s, varK_s, varK_o, tupK_p, lstK_p, wiK_a, binK1_p, binK_p, negK_i, blK_b, cmpK1_p, cmpK_p, chainK_t, chainK_f, chK1_p, chK_p, isNK_p, nblK_b, notK_p, andK_t, andK_f, anK_p, orK_t, orK_f, oK_p, ifeK_t, ifeK_f, ifK_p, idxK1_p, idxK_p, siK_i, aiK_p, slcK2_p, slcK1_p, slcK_p, revK_p, callE_p, bltK_p, mthK1_p, mthK0_t, mthK_p, isinK_p, slnK1_p, slnK0_p, slnK_p, soK_v, giK_p, trK1_b, trK_p, elK_t, elK_f, lcK1_p, lcK_p, tuK_p, itK1_p, itK2_p, itK_p, coK_p, rcK1_p, rcK_p, crK_p, rrK_p, l_tup, l_lst, l_kl, l_fr, l_br, g_pv, g_fr, d_lst, d_fr, d_br, d_str, d_int, d_bl, d_non, d_tup, tr_bl, tr_int, tr_non, tr_str, n_non, n_int, n_str, n_tup, n_lst, n_bl, n_ref, x_tup, x_lst, x_kl, x_fr, x_br, a_v, a_t, gt_pv, gt_fr, as_v, as_tt, as_tl, as_n, as_c, o_rtp, o_rtf, o_rtb, o_nx, lpK_nx, lpK_ct, lpK_bk, lpK_rt, foK_e, forK_p, itm_tup, itm_lst, itm_kl, itm_fr, itm_br, itm_etup, itm_elst, itm_ekl, itm_efr, itm_ebr, itm_r1, itm_r2, at_nat, at_0, at_1, at_2, at_3, at_4, at_5, at_6, at_7, p_ii, p_ss, p_tt, p_ff, p_bf, p_lf, p_fl, p_ll, p_bl, p_sub, p_mulL, p_mulR, p_divP, p_modP, p_pow, c_lt, c_le, c_gt, c_ge, eqK1_v, eqK2_v, c_eq, c_ne, c_in, c_ni, inK_v, in_tup, in_lst, in_kl, in_fr, in_br, f_abs, f_int, f_lenS, f_lent, f_lenl, f_lenk, f_lenf, f_lenb, f_listk, f_listl, f_listt, f_listf, f_tupl, f_tupt, f_tupf, f_tupb, f_all, f_any, anyK_b, f_sort1, f_sort1f, mo_il, mo_ib, mo_ik, mo_if, mo_cl, mo_cb, mo_cf, ixK0_n, ixMK_v, m_il, m_ib, m_if, coMK_v, m_cl, m_cb, m_cf, apo_s, apoK_o, apoK_r, boK_l, ap_s, apK_o, apK_r, bxK_l, gu_c, gu_e, ok_non, ok_bl, ok_int, catK_s, catK_n, turK_p, tu_n, tu_c, bo_n, bo_c, in_n, in_c, al_n, al_t, al_f, nu_n, nu_c, refK_l, x_ref, setK1_m, setK_l, set_ref, ixn_20, ixn_21, ixn_31, ixn_30, ixn_32, sl_tup, sl_lst, sl_fr, sl_br, rv_lst, rv_fr, rv_br, asI_i, b_some, m_some, List.getElem?_cons_succ, List.getElem?_cons_zero, List.getElem?_nil, List.set_cons_succ, List.set_cons_zero, List.length_cons, List.length_nil, lim, Nat.reduceAdd, Nat.reduceLeDiff, Int.reduceLT, Nat.reduceLT, Nat.lt_add_left_iff_pos, E.isNil, wipeE, Nat.zero_lt_succ, if_true, if_false, Bool.true_bne, Bool.false_bne, bne_self_eq_false, Bool.not_true, Bool.not_false, Bool.not_not, Bool.bne_false, Bool.bne_true]⟩
theorem objections2_ok (k : Nat) (h : Hh) {el rs : List Row} (hel : ∀ e ∈ el, Good e) (hrs : ∀ e ∈ rs, Good e) (hl : el.length ≤ 100) (hl2 : rs.length ≤ 100) :
    callK G.ds (k + 3) 8 [rprog (el.map cell), rprog (rs.map cell)] h = some (.pv (.tup (rs.zipIdx.flatMap (objR el rs))), h) := by
  have ri := range_len rs hl2
  have lpF := obj2_loop k h hel hrs hl hl2 .un .un .un
  simp only [rprog, List.nil_append] at lpF
  obtain ⟨⟨j1, j2, j3⟩, lpF⟩ := lpF
  simp only [k_objections, b_objections, l_objections_0, l_objections_1, e_objections_0, rprog, ri, lpF, ↓s_seq, ↓s_skip, ↓s_pass, ↓s_brk, ↓s_cnt, ↓s_retN, ↓s_ret, ↓s_ex, ↓s_ite, ↓s_ass, ↓s_par, ↓s_sub, ↓s_app, ↓s_frz, ↓s_prm, ↓e_con, ↓e_glob, ↓e_var, ↓e_tup, ↓e_lst, ↓e_bin, ↓e_neg, ↓e_cmp, ↓e_chain, ↓e_isN, ↓e_not, ↓e_and, ↓e_or, ↓e_ife, ↓e_idx, ↓pt_nil, ↓e_slc, ↓e_rev, ↓e_call, ↓e_blt, ↓e_mth, ↓e_isin, ↓e_setlen, ↓cd_nil, ↓i_one, ↓t_t, ↓r_nil, ↓r_cons, ↓rr_nil, ↓rr_cons, ↓lp_n, ↓lp_c, ↓cd_con, ↓pt_con, ↓i_con, ↓cd_var, ↓pt_var, ↓i_var, ↓cd_glob, ↓pt_glob, ↓i_glob, ↓cd_tup, ↓pt_tup, ↓i_tup, ↓cd_lst, ↓pt_lst, ↓i_lst, ↓cd_bin, ↓pt_bin, ↓i_bin, ↓cd_neg, ↓pt_neg, ↓i_neg, ↓cd_cmp, ↓pt_cmp, ↓i_cmp, ↓cd_chain, ↓pt_chain, ↓i_chain, ↓cd_isN, ↓pt_isN, ↓i_isN, ↓cd_not, ↓pt_not, ↓i_not, ↓cd_and, ↓pt_and, ↓i_and, ↓cd_or, ↓pt_or, ↓i_or, ↓cd_ife, ↓pt_ife, ↓i_ife, ↓cd_idx, ↓pt_idx, ↓i_idx, ↓cd_slc, ↓pt_slc, ↓i_slc, ↓cd_rev, ↓pt_rev, ↓i_rev, ↓cd_call, ↓pt_call, ↓i_call, ↓cd_blt, ↓pt_blt, ↓i_blt, ↓cd_mth, ↓pt_mth, ↓i_mth, ↓cd_isin, ↓pt_isin, ↓i_isin, ↓cd_setlen, ↓pt_setlen, ↓i_setlen, ↓cd_lc, ↓pt_lc, ↓i_lc, s_seq, s_skip, s_pass, s_brk, s_cnt, s_retN, s_ret, s_ex, s_ite, s_ass, s_par, s_sub, s_app, s_frz, s_prm, e_con, e_glob, e_var, e_tup, e_lst, e_bin, e_neg, e_cmp, e_chain, e_isN, e_not, e_and, e_or, e_ife, e_idx, pt_nil, e_slc, e_rev, e_call, e_blt, e_mth, e_isin, e_setlen, cd_nil, i_one, t_t, r_nil, r_cons, rr_nil, rr_cons, lp_n, lp_c, cd_con, pt_con, i_con, cd_var, pt_var, i_var, cd_glob, pt_glob, i_glob, cd_tup, pt_tup, i_tup, cd_lst, pt_lst, i_lst, cd_bin, pt_bin, i_bin, cd_neg, pt_neg, i_neg, cd_cmp, pt_cmp, i_cmp, cd_chain, pt_chain, i_chain, cd_isN, pt_isN, i_isN, cd_not, pt_not, i_not, cd_and, pt_and, i_and, cd_or, pt_or, i_or, cd_ife, pt_ife, i_ife, cd_idx, pt_idx, i_idx, cd_slc, pt_slc, i_slc, cd_rev, pt_rev, i_rev, cd_call, pt_call, i_call, cd_blt, pt_blt, i_blt, cd_mth, pt_mth, i_mth, cd_isin, pt_isin, i_isin, cd_setlen, pt_setlen, i_setlen, cd_lc, pt_lc, i_lc, ↓e_lc, ↓s_for, e_lc, s_for, nxt_nx, nxt_rt, nxt_bk, nxt_ct, rtK_p, exK_p, iteK_t, iteK_f, nxO_e, assK_p, parK_p, subK3_p, subK2_p, subK1_p, subK_p, nx2_p, appK1_p, appK_p, okK_t, forL_p, frzK_o, frzK_s, prmK_o, prmK_s, varK_s, varK_o, tupK_p, lstK_p, wiK_a, binK1_p, binK_p, negK_i, blK_b, cmpK1_p, cmpK_p, chainK_t, chainK_f, chK1_p, chK_p, isNK_p, nblK_b, notK_p, andK_t, andK_f, anK_p, orK_t, orK_f, oK_p, ifeK_t, ifeK_f, ifK_p, idxK1_p, idxK_p, siK_i, aiK_p, slcK2_p, slcK1_p, slcK_p, revK_p, callE_p, bltK_p, mthK1_p, mthK0_t, mthK_p, isinK_p, slnK1_p, slnK0_p, slnK_p, soK_v, giK_p, trK1_b, trK_p, elK_t, elK_f, lcK1_p, lcK_p, tuK_p, itK1_p, itK2_p, itK_p, coK_p, rcK1_p, rcK_p, crK_p, rrK_p, l_tup, l_lst, l_kl, l_fr, l_br, g_pv, g_fr, d_lst, d_fr, d_br, d_str, d_int, d_bl, d_non, d_tup, tr_bl, tr_int, tr_non, tr_str, n_non, n_int, n_str, n_tup, n_lst, n_bl, n_ref, x_tup, x_lst, x_kl, x_fr, x_br, a_v, a_t, gt_pv, gt_fr, as_v, as_tt, as_tl, as_n, as_c, o_rtp, o_rtf, o_rtb, o_nx, lpK_nx, lpK_ct, lpK_bk, lpK_rt, foK_e, forK_p, itm_tup, itm_lst, itm_kl, itm_fr, itm_br, itm_etup, itm_elst, itm_ekl, itm_efr, itm_ebr, itm_r1, itm_r2, at_nat, at_0, at_1, at_2, at_3, at_4, at_5, at_6, at_7, p_ii, p_ss, p_tt, p_ff, p_bf, p_lf, p_fl, p_ll, p_bl, p_sub, p_mulL, p_mulR, p_divP, p_modP, p_pow, c_lt, c_le, c_gt, c_ge, eqK1_v, eqK2_v, c_eq, c_ne, c_in, c_ni, inK_v, in_tup, in_lst, in_kl, in_fr, in_br, f_abs, f_int, f_lenS, f_lent, f_lenl, f_lenk, f_lenf, f_lenb, f_listk, f_listl, f_listt, f_listf, f_tupl, f_tupt, f_tupf, f_tupb, f_all, f_any, anyK_b, f_sort1, f_sort1f, mo_il, mo_ib, mo_ik, mo_if, mo_cl, mo_cb, mo_cf, ixK0_n, ixMK_v, m_il, m_ib, m_if, coMK_v, m_cl, m_cb, m_cf, apo_s, apoK_o, apoK_r, boK_l, ap_s, apK_o, apK_r, bxK_l, gu_c, gu_e, ok_non, ok_bl, ok_int, catK_s, catK_n, turK_p, tu_n, tu_c, bo_n, bo_c, in_n, in_c, al_n, al_t, al_f, nu_n, nu_c, refK_l, x_ref, setK1_m, setK_l, set_ref, ixn_20, ixn_21, ixn_31, ixn_30, ixn_32, sl_tup, sl_lst, sl_fr, sl_br, rv_lst, rv_fr, rv_br, asI_i, b_some, m_some, List.getElem?_cons_succ, List.getElem?_cons_zero, List.getElem?_nil, List.set_cons_succ, List.set_cons_zero, List.length_cons, List.length_nil, lim, Nat.reduceAdd, Nat.reduceLeDiff, Int.reduceLT, Nat.reduceLT, Nat.lt_add_left_iff_pos, E.isNil, wipeE, Nat.zero_lt_succ, if_true, if_false, Bool.true_bne, Bool.false_bne, bne_self_eq_false, Bool.not_true, Bool.not_false, Bool.not_not, Bool.bne_false, Bool.bne_true]
end K57

set_option maxRecDepth 100000
set_option maxHeartbeats 1000000
namespace K57
open PySem Ev
/-! ### the cup -/
def cup (c0 c1 : Int) : Hh := [.l [.int c0, .int c1]]
def Cup (h : Hh) : Prop := ∃ c0 c1 : Int, h = cup c0 c1 ∧ c1.natAbs < 2 ^ 62
theorem fmod_lt {a : Int} (m : Int) (hm : 0 < m) : (a.fmod m).natAbs < m.natAbs := by
  have h1 := Int.fmod_nonneg_of_pos a hm
  have h2 := Int.fmod_lt_of_pos a hm
  omega
theorem cup_ok (k : Nat) (ns : List Int) (hl : ns.length ≤ 63) : ∃ c0 c1 : Int, callK G.ds (k + 1) 13 [.kl (ns.map PV.int)] [] = some (.fr (.l [.int c0, .int c1]), []) ∧ c1.natAbs < 2 ^ 62 := by
  have fst : ∃ i : Int, L2.atI (ns.map PV.int ++ [.int 0]) 0 = some (.int i) := by
    rw [at_0]
    cases ns with
    | nil => exact ⟨0, rfl⟩
    | cons a r => exact ⟨a, rfl⟩
  obtain ⟨i, fst⟩ := fst
  have le : (ns.map PV.int).length + 1 ≤ 16777216 := by rw [List.length_map]; omega
  generalize hz : (if i < 0 then -i else i) = z
  have s1 : small 64 277 = true := by decide
  have s2 : small 64 10 = true := by decide
  have pw : bop .Pow [] (.pv (.int 10)) (.pv (.int 18)) = some (.pv (.int (10 ^ 18))) := by rfl
  have hb : ((z * 277 + 2609).fmod 2077503167 + 163).natAbs < 2 ^ 62 := by
    have h1 := Int.fmod_nonneg_of_pos (z * 277 + 2609) (b := 2077503167) (by decide)
    have h2 := Int.fmod_lt_of_pos (z * 277 + 2609) (b := 2077503167) (by decide)
    omega
  by_cases c : (10 : Int) ^ 18 ≤ z
  · have e : decide ((10 : Int) ^ 18 ≤ z) = true := decide_eq_true c
    exact ⟨z.fdiv 67, _, by simp only [k__law_cup, b__law_cup, fst, le, hz, s1, pw, e, ↓s_seq, ↓s_skip, ↓s_pass, ↓s_brk, ↓s_cnt, ↓s_retN, ↓s_ret, ↓s_ex, ↓s_ite, ↓s_ass, ↓s_par, ↓s_sub, ↓s_app, ↓s_frz, ↓s_prm, ↓e_con, ↓e_glob, ↓e_var, ↓e_tup, ↓e_lst, ↓e_bin, ↓e_neg, ↓e_cmp, ↓e_chain, ↓e_isN, ↓e_not, ↓e_and, ↓e_or, ↓e_ife, ↓e_idx, ↓pt_nil, ↓e_slc, ↓e_rev, ↓e_call, ↓e_blt, ↓e_mth, ↓e_isin, ↓e_setlen, ↓cd_nil, ↓i_one, ↓t_t, ↓r_nil, ↓r_cons, ↓rr_nil, ↓rr_cons, ↓lp_n, ↓lp_c, ↓cd_con, ↓pt_con, ↓i_con, ↓cd_var, ↓pt_var, ↓i_var, ↓cd_glob, ↓pt_glob, ↓i_glob, ↓cd_tup, ↓pt_tup, ↓i_tup, ↓cd_lst, ↓pt_lst, ↓i_lst, ↓cd_bin, ↓pt_bin, ↓i_bin, ↓cd_neg, ↓pt_neg, ↓i_neg, ↓cd_cmp, ↓pt_cmp, ↓i_cmp, ↓cd_chain, ↓pt_chain, ↓i_chain, ↓cd_isN, ↓pt_isN, ↓i_isN, ↓cd_not, ↓pt_not, ↓i_not, ↓cd_and, ↓pt_and, ↓i_and, ↓cd_or, ↓pt_or, ↓i_or, ↓cd_ife, ↓pt_ife, ↓i_ife, ↓cd_idx, ↓pt_idx, ↓i_idx, ↓cd_slc, ↓pt_slc, ↓i_slc, ↓cd_rev, ↓pt_rev, ↓i_rev, ↓cd_call, ↓pt_call, ↓i_call, ↓cd_blt, ↓pt_blt, ↓i_blt, ↓cd_mth, ↓pt_mth, ↓i_mth, ↓cd_isin, ↓pt_isin, ↓i_isin, ↓cd_setlen, ↓pt_setlen, ↓i_setlen, ↓cd_lc, ↓pt_lc, ↓i_lc, s_seq, s_skip, s_pass, s_brk, s_cnt, s_retN, s_ret, s_ex, s_ite, s_ass, s_par, s_sub, s_app, s_frz, s_prm, e_con, e_glob, e_var, e_tup, e_lst, e_bin, e_neg, e_cmp, e_chain, e_isN, e_not, e_and, e_or, e_ife, e_idx, pt_nil, e_slc, e_rev, e_call, e_blt, e_mth, e_isin, e_setlen, cd_nil, i_one, t_t, r_nil, r_cons, rr_nil, rr_cons, lp_n, lp_c, cd_con, pt_con, i_con, cd_var, pt_var, i_var, cd_glob, pt_glob, i_glob, cd_tup, pt_tup, i_tup, cd_lst, pt_lst, i_lst, cd_bin, pt_bin, i_bin, cd_neg, pt_neg, i_neg, cd_cmp, pt_cmp, i_cmp, cd_chain, pt_chain, i_chain, cd_isN, pt_isN, i_isN, cd_not, pt_not, i_not, cd_and, pt_and, i_and, cd_or, pt_or, i_or, cd_ife, pt_ife, i_ife, cd_idx, pt_idx, i_idx, cd_slc, pt_slc, i_slc, cd_rev, pt_rev, i_rev, cd_call, pt_call, i_call, cd_blt, pt_blt, i_blt, cd_mth, pt_mth, i_mth, cd_isin, pt_isin, i_isin, cd_setlen, pt_setlen, i_setlen, cd_lc, pt_lc, i_lc, ↓e_lc, ↓s_for, e_lc, s_for, nxt_nx, nxt_rt, nxt_bk, nxt_ct, rtK_p, exK_p, iteK_t, iteK_f, nxO_e, assK_p, parK_p, subK3_p, subK2_p, subK1_p, subK_p, nx2_p, appK1_p, appK_p, okK_t, forL_p, frzK_o, frzK_s, prmK_o, prmK_s, varK_s, varK_o, tupK_p, lstK_p, wiK_a, binK1_p, binK_p, negK_i, blK_b, cmpK1_p, cmpK_p, chainK_t, chainK_f, chK1_p, chK_p, isNK_p, nblK_b, notK_p, andK_t, andK_f, anK_p, orK_t, orK_f, oK_p, ifeK_t, ifeK_f, ifK_p, idxK1_p, idxK_p, siK_i, aiK_p, slcK2_p, slcK1_p, slcK_p, revK_p, callE_p, bltK_p, mthK1_p, mthK0_t, mthK_p, isinK_p, slnK1_p, slnK0_p, slnK_p, soK_v, giK_p, trK1_b, trK_p, elK_t, elK_f, lcK1_p, lcK_p, tuK_p, itK1_p, itK2_p, itK_p, coK_p, rcK1_p, rcK_p, crK_p, rrK_p, l_tup, l_lst, l_kl, l_fr, l_br, g_pv, g_fr, d_lst, d_fr, d_br, d_str, d_int, d_bl, d_non, d_tup, tr_bl, tr_int, tr_non, tr_str, n_non, n_int, n_str, n_tup, n_lst, n_bl, n_ref, x_tup, x_lst, x_kl, x_fr, x_br, a_v, a_t, gt_pv, gt_fr, as_v, as_tt, as_tl, as_n, as_c, o_rtp, o_rtf, o_rtb, o_nx, lpK_nx, lpK_ct, lpK_bk, lpK_rt, foK_e, forK_p, itm_tup, itm_lst, itm_kl, itm_fr, itm_br, itm_etup, itm_elst, itm_ekl, itm_efr, itm_ebr, itm_r1, itm_r2, at_nat, at_0, at_1, at_2, at_3, at_4, at_5, at_6, at_7, p_ii, p_ss, p_tt, p_ff, p_bf, p_lf, p_fl, p_ll, p_bl, p_sub, p_mulL, p_mulR, p_divP, p_modP, p_pow, c_lt, c_le, c_gt, c_ge, eqK1_v, eqK2_v, c_eq, c_ne, c_in, c_ni, inK_v, in_tup, in_lst, in_kl, in_fr, in_br, f_abs, f_int, f_lenS, f_lent, f_lenl, f_lenk, f_lenf, f_lenb, f_listk, f_listl, f_listt, f_listf, f_tupl, f_tupt, f_tupf, f_tupb, f_all, f_any, anyK_b, f_sort1, f_sort1f, mo_il, mo_ib, mo_ik, mo_if, mo_cl, mo_cb, mo_cf, ixK0_n, ixMK_v, m_il, m_ib, m_if, coMK_v, m_cl, m_cb, m_cf, apo_s, apoK_o, apoK_r, boK_l, ap_s, apK_o, apK_r, bxK_l, gu_c, gu_e, ok_non, ok_bl, ok_int, catK_s, catK_n, turK_p, tu_n, tu_c, bo_n, bo_c, in_n, in_c, al_n, al_t, al_f, nu_n, nu_c, refK_l, x_ref, setK1_m, setK_l, set_ref, ixn_20, ixn_21, ixn_31, ixn_30, ixn_32, sl_tup, sl_lst, sl_fr, sl_br, rv_lst, rv_fr, rv_br, asI_i, b_some, m_some, List.getElem?_cons_succ, List.getElem?_cons_zero, List.getElem?_nil, List.set_cons_succ, List.set_cons_zero, List.length_cons, List.length_nil, lim, Nat.reduceAdd, Nat.reduceLeDiff, Int.reduceLT, Nat.reduceLT, Nat.lt_add_left_iff_pos, E.isNil, wipeE, Nat.zero_lt_succ, if_true, if_false, Bool.true_bne, Bool.false_bne, bne_self_eq_false, Bool.not_true, Bool.not_false, Bool.not_not, Bool.bne_false, Bool.bne_true], hb⟩
  · have e : decide ((10 : Int) ^ 18 ≤ z) = false := decide_eq_false c
    exact ⟨0, _, by simp only [k__law_cup, b__law_cup, fst, le, hz, s1, pw, e, ↓s_seq, ↓s_skip, ↓s_pass, ↓s_brk, ↓s_cnt, ↓s_retN, ↓s_ret, ↓s_ex, ↓s_ite, ↓s_ass, ↓s_par, ↓s_sub, ↓s_app, ↓s_frz, ↓s_prm, ↓e_con, ↓e_glob, ↓e_var, ↓e_tup, ↓e_lst, ↓e_bin, ↓e_neg, ↓e_cmp, ↓e_chain, ↓e_isN, ↓e_not, ↓e_and, ↓e_or, ↓e_ife, ↓e_idx, ↓pt_nil, ↓e_slc, ↓e_rev, ↓e_call, ↓e_blt, ↓e_mth, ↓e_isin, ↓e_setlen, ↓cd_nil, ↓i_one, ↓t_t, ↓r_nil, ↓r_cons, ↓rr_nil, ↓rr_cons, ↓lp_n, ↓lp_c, ↓cd_con, ↓pt_con, ↓i_con, ↓cd_var, ↓pt_var, ↓i_var, ↓cd_glob, ↓pt_glob, ↓i_glob, ↓cd_tup, ↓pt_tup, ↓i_tup, ↓cd_lst, ↓pt_lst, ↓i_lst, ↓cd_bin, ↓pt_bin, ↓i_bin, ↓cd_neg, ↓pt_neg, ↓i_neg, ↓cd_cmp, ↓pt_cmp, ↓i_cmp, ↓cd_chain, ↓pt_chain, ↓i_chain, ↓cd_isN, ↓pt_isN, ↓i_isN, ↓cd_not, ↓pt_not, ↓i_not, ↓cd_and, ↓pt_and, ↓i_and, ↓cd_or, ↓pt_or, ↓i_or, ↓cd_ife, ↓pt_ife, ↓i_ife, ↓cd_idx, ↓pt_idx, ↓i_idx, ↓cd_slc, ↓pt_slc, ↓i_slc, ↓cd_rev, ↓pt_rev, ↓i_rev, ↓cd_call, ↓pt_call, ↓i_call, ↓cd_blt, ↓pt_blt, ↓i_blt, ↓cd_mth, ↓pt_mth, ↓i_mth, ↓cd_isin, ↓pt_isin, ↓i_isin, ↓cd_setlen, ↓pt_setlen, ↓i_setlen, ↓cd_lc, ↓pt_lc, ↓i_lc, s_seq, s_skip, s_pass, s_brk, s_cnt, s_retN, s_ret, s_ex, s_ite, s_ass, s_par, s_sub, s_app, s_frz, s_prm, e_con, e_glob, e_var, e_tup, e_lst, e_bin, e_neg, e_cmp, e_chain, e_isN, e_not, e_and, e_or, e_ife, e_idx, pt_nil, e_slc, e_rev, e_call, e_blt, e_mth, e_isin, e_setlen, cd_nil, i_one, t_t, r_nil, r_cons, rr_nil, rr_cons, lp_n, lp_c, cd_con, pt_con, i_con, cd_var, pt_var, i_var, cd_glob, pt_glob, i_glob, cd_tup, pt_tup, i_tup, cd_lst, pt_lst, i_lst, cd_bin, pt_bin, i_bin, cd_neg, pt_neg, i_neg, cd_cmp, pt_cmp, i_cmp, cd_chain, pt_chain, i_chain, cd_isN, pt_isN, i_isN, cd_not, pt_not, i_not, cd_and, pt_and, i_and, cd_or, pt_or, i_or, cd_ife, pt_ife, i_ife, cd_idx, pt_idx, i_idx, cd_slc, pt_slc, i_slc, cd_rev, pt_rev, i_rev, cd_call, pt_call, i_call, cd_blt, pt_blt, i_blt, cd_mth, pt_mth, i_mth, cd_isin, pt_isin, i_isin, cd_setlen, pt_setlen, i_setlen, cd_lc, pt_lc, i_lc, ↓e_lc, ↓s_for, e_lc, s_for, nxt_nx, nxt_rt, nxt_bk, nxt_ct, rtK_p, exK_p, iteK_t, iteK_f, nxO_e, assK_p, parK_p, subK3_p, subK2_p, subK1_p, subK_p, nx2_p, appK1_p, appK_p, okK_t, forL_p, frzK_o, frzK_s, prmK_o, prmK_s, varK_s, varK_o, tupK_p, lstK_p, wiK_a, binK1_p, binK_p, negK_i, blK_b, cmpK1_p, cmpK_p, chainK_t, chainK_f, chK1_p, chK_p, isNK_p, nblK_b, notK_p, andK_t, andK_f, anK_p, orK_t, orK_f, oK_p, ifeK_t, ifeK_f, ifK_p, idxK1_p, idxK_p, siK_i, aiK_p, slcK2_p, slcK1_p, slcK_p, revK_p, callE_p, bltK_p, mthK1_p, mthK0_t, mthK_p, isinK_p, slnK1_p, slnK0_p, slnK_p, soK_v, giK_p, trK1_b, trK_p, elK_t, elK_f, lcK1_p, lcK_p, tuK_p, itK1_p, itK2_p, itK_p, coK_p, rcK1_p, rcK_p, crK_p, rrK_p, l_tup, l_lst, l_kl, l_fr, l_br, g_pv, g_fr, d_lst, d_fr, d_br, d_str, d_int, d_bl, d_non, d_tup, tr_bl, tr_int, tr_non, tr_str, n_non, n_int, n_str, n_tup, n_lst, n_bl, n_ref, x_tup, x_lst, x_kl, x_fr, x_br, a_v, a_t, gt_pv, gt_fr, as_v, as_tt, as_tl, as_n, as_c, o_rtp, o_rtf, o_rtb, o_nx, lpK_nx, lpK_ct, lpK_bk, lpK_rt, foK_e, forK_p, itm_tup, itm_lst, itm_kl, itm_fr, itm_br, itm_etup, itm_elst, itm_ekl, itm_efr, itm_ebr, itm_r1, itm_r2, at_nat, at_0, at_1, at_2, at_3, at_4, at_5, at_6, at_7, p_ii, p_ss, p_tt, p_ff, p_bf, p_lf, p_fl, p_ll, p_bl, p_sub, p_mulL, p_mulR, p_divP, p_modP, p_pow, c_lt, c_le, c_gt, c_ge, eqK1_v, eqK2_v, c_eq, c_ne, c_in, c_ni, inK_v, in_tup, in_lst, in_kl, in_fr, in_br, f_abs, f_int, f_lenS, f_lent, f_lenl, f_lenk, f_lenf, f_lenb, f_listk, f_listl, f_listt, f_listf, f_tupl, f_tupt, f_tupf, f_tupb, f_all, f_any, anyK_b, f_sort1, f_sort1f, mo_il, mo_ib, mo_ik, mo_if, mo_cl, mo_cb, mo_cf, ixK0_n, ixMK_v, m_il, m_ib, m_if, coMK_v, m_cl, m_cb, m_cf, apo_s, apoK_o, apoK_r, boK_l, ap_s, apK_o, apK_r, bxK_l, gu_c, gu_e, ok_non, ok_bl, ok_int, catK_s, catK_n, turK_p, tu_n, tu_c, bo_n, bo_c, in_n, in_c, al_n, al_t, al_f, nu_n, nu_c, refK_l, x_ref, setK1_m, setK_l, set_ref, ixn_20, ixn_21, ixn_31, ixn_30, ixn_32, sl_tup, sl_lst, sl_fr, sl_br, rv_lst, rv_fr, rv_br, asI_i, b_some, m_some, List.getElem?_cons_succ, List.getElem?_cons_zero, List.getElem?_nil, List.set_cons_succ, List.set_cons_zero, List.length_cons, List.length_nil, lim, Nat.reduceAdd, Nat.reduceLeDiff, Int.reduceLT, Nat.reduceLT, Nat.lt_add_left_iff_pos, E.isNil, wipeE, Nat.zero_lt_succ, if_true, if_false, Bool.true_bne, Bool.false_bne, bne_self_eq_false, Bool.not_true, Bool.not_false, Bool.not_not, Bool.bne_false, Bool.bne_true], hb⟩
theorem roll_ok (k : Nat) {h : Hh} {m : Int} (hc : Cup h) (hm : 0 < m) (hm2 : m < 1000000) : ∃ (r : Int) (h' : Hh), callK G.ds (k + 1) 14 [.ref 0, .int m] h = some (.pv (.int r), h') ∧ 0 ≤ r ∧ r < m ∧ Cup h' := by
  obtain ⟨c0, c1, rfl, hb⟩ := hc
  have m2 : m < 1073741824 := by omega
  have xr : ∀ (a b i : Int), ixR (cup a b) (.pv (.ref 0)) (.pv (.int i)) = (L2.atI [PV.int a, .int b] i).map .pv := fun a b i => x_ref rfl
  have s0 : ∀ (a b v : Int), setR (cup a b) (.pv (.ref 0)) (.pv (.int 0)) (.int v) = some (cup v b) := fun a b v => by rw [set_ref]; rfl
  have s1 : ∀ (a b v : Int), setR (cup a b) (.pv (.ref 0)) (.pv (.int 1)) (.int v) = some (cup a v) := fun a b v => by rw [set_ref]; rfl
  have w1 : small 64 31051 = true := by decide
  by_cases c : 0 < c0
  · refine ⟨c0.fmod m, cup (c0.fdiv m) c1, ?_, Int.fmod_nonneg_of_pos _ hm, Int.fmod_lt_of_pos _ hm, _, _, rfl, hb⟩
    have e : decide (0 < c0) = true := decide_eq_true c
    simp only [k__law_roll, b__law_roll, xr, s0, s1, e, hm, m2, ↓s_seq, ↓s_skip, ↓s_pass, ↓s_brk, ↓s_cnt, ↓s_retN, ↓s_ret, ↓s_ex, ↓s_ite, ↓s_ass, ↓s_par, ↓s_sub, ↓s_app, ↓s_frz, ↓s_prm, ↓e_con, ↓e_glob, ↓e_var, ↓e_tup, ↓e_lst, ↓e_bin, ↓e_neg, ↓e_cmp, ↓e_chain, ↓e_isN, ↓e_not, ↓e_and, ↓e_or, ↓e_ife, ↓e_idx, ↓pt_nil, ↓e_slc, ↓e_rev, ↓e_call, ↓e_blt, ↓e_mth, ↓e_isin, ↓e_setlen, ↓cd_nil, ↓i_one, ↓t_t, ↓r_nil, ↓r_cons, ↓rr_nil, ↓rr_cons, ↓lp_n, ↓lp_c, ↓cd_con, ↓pt_con, ↓i_con, ↓cd_var, ↓pt_var, ↓i_var, ↓cd_glob, ↓pt_glob, ↓i_glob, ↓cd_tup, ↓pt_tup, ↓i_tup, ↓cd_lst, ↓pt_lst, ↓i_lst, ↓cd_bin, ↓pt_bin, ↓i_bin, ↓cd_neg, ↓pt_neg, ↓i_neg, ↓cd_cmp, ↓pt_cmp, ↓i_cmp, ↓cd_chain, ↓pt_chain, ↓i_chain, ↓cd_isN, ↓pt_isN, ↓i_isN, ↓cd_not, ↓pt_not, ↓i_not, ↓cd_and, ↓pt_and, ↓i_and, ↓cd_or, ↓pt_or, ↓i_or, ↓cd_ife, ↓pt_ife, ↓i_ife, ↓cd_idx, ↓pt_idx, ↓i_idx, ↓cd_slc, ↓pt_slc, ↓i_slc, ↓cd_rev, ↓pt_rev, ↓i_rev, ↓cd_call, ↓pt_call, ↓i_call, ↓cd_blt, ↓pt_blt, ↓i_blt, ↓cd_mth, ↓pt_mth, ↓i_mth, ↓cd_isin, ↓pt_isin, ↓i_isin, ↓cd_setlen, ↓pt_setlen, ↓i_setlen, ↓cd_lc, ↓pt_lc, ↓i_lc, s_seq, s_skip, s_pass, s_brk, s_cnt, s_retN, s_ret, s_ex, s_ite, s_ass, s_par, s_sub, s_app, s_frz, s_prm, e_con, e_glob, e_var, e_tup, e_lst, e_bin, e_neg, e_cmp, e_chain, e_isN, e_not, e_and, e_or, e_ife, e_idx, pt_nil, e_slc, e_rev, e_call, e_blt, e_mth, e_isin, e_setlen, cd_nil, i_one, t_t, r_nil, r_cons, rr_nil, rr_cons, lp_n, lp_c, cd_con, pt_con, i_con, cd_var, pt_var, i_var, cd_glob, pt_glob, i_glob, cd_tup, pt_tup, i_tup, cd_lst, pt_lst, i_lst, cd_bin, pt_bin, i_bin, cd_neg, pt_neg, i_neg, cd_cmp, pt_cmp, i_cmp, cd_chain, pt_chain, i_chain, cd_isN, pt_isN, i_isN, cd_not, pt_not, i_not, cd_and, pt_and, i_and, cd_or, pt_or, i_or, cd_ife, pt_ife, i_ife, cd_idx, pt_idx, i_idx, cd_slc, pt_slc, i_slc, cd_rev, pt_rev, i_rev, cd_call, pt_call, i_call, cd_blt, pt_blt, i_blt, cd_mth, pt_mth, i_mth, cd_isin, pt_isin, i_isin, cd_setlen, pt_setlen, i_setlen, cd_lc, pt_lc, i_lc, ↓e_lc, ↓s_for, e_lc, s_for, nxt_nx, nxt_rt, nxt_bk, nxt_ct, rtK_p, exK_p, iteK_t, iteK_f, nxO_e, assK_p, parK_p, subK3_p, subK2_p, subK1_p, subK_p, nx2_p, appK1_p, appK_p, okK_t, forL_p, frzK_o, frzK_s, prmK_o, prmK_s, varK_s, varK_o, tupK_p, lstK_p, wiK_a, binK1_p, binK_p, negK_i, blK_b, cmpK1_p, cmpK_p, chainK_t, chainK_f, chK1_p, chK_p, isNK_p, nblK_b, notK_p, andK_t, andK_f, anK_p, orK_t, orK_f, oK_p, ifeK_t, ifeK_f, ifK_p, idxK1_p, idxK_p, siK_i, aiK_p, slcK2_p, slcK1_p, slcK_p, revK_p, callE_p, bltK_p, mthK1_p, mthK0_t, mthK_p, isinK_p, slnK1_p, slnK0_p, slnK_p, soK_v, giK_p, trK1_b, trK_p, elK_t, elK_f, lcK1_p, lcK_p, tuK_p, itK1_p, itK2_p, itK_p, coK_p, rcK1_p, rcK_p, crK_p, rrK_p, l_tup, l_lst, l_kl, l_fr, l_br, g_pv, g_fr, d_lst, d_fr, d_br, d_str, d_int, d_bl, d_non, d_tup, tr_bl, tr_int, tr_non, tr_str, n_non, n_int, n_str, n_tup, n_lst, n_bl, n_ref, x_tup, x_lst, x_kl, x_fr, x_br, a_v, a_t, gt_pv, gt_fr, as_v, as_tt, as_tl, as_n, as_c, o_rtp, o_rtf, o_rtb, o_nx, lpK_nx, lpK_ct, lpK_bk, lpK_rt, foK_e, forK_p, itm_tup, itm_lst, itm_kl, itm_fr, itm_br, itm_etup, itm_elst, itm_ekl, itm_efr, itm_ebr, itm_r1, itm_r2, at_nat, at_0, at_1, at_2, at_3, at_4, at_5, at_6, at_7, p_ii, p_ss, p_tt, p_ff, p_bf, p_lf, p_fl, p_ll, p_bl, p_sub, p_mulL, p_mulR, p_divP, p_modP, p_pow, c_lt, c_le, c_gt, c_ge, eqK1_v, eqK2_v, c_eq, c_ne, c_in, c_ni, inK_v, in_tup, in_lst, in_kl, in_fr, in_br, f_abs, f_int, f_lenS, f_lent, f_lenl, f_lenk, f_lenf, f_lenb, f_listk, f_listl, f_listt, f_listf, f_tupl, f_tupt, f_tupf, f_tupb, f_all, f_any, anyK_b, f_sort1, f_sort1f, mo_il, mo_ib, mo_ik, mo_if, mo_cl, mo_cb, mo_cf, ixK0_n, ixMK_v, m_il, m_ib, m_if, coMK_v, m_cl, m_cb, m_cf, apo_s, apoK_o, apoK_r, boK_l, ap_s, apK_o, apK_r, bxK_l, gu_c, gu_e, ok_non, ok_bl, ok_int, catK_s, catK_n, turK_p, tu_n, tu_c, bo_n, bo_c, in_n, in_c, al_n, al_t, al_f, nu_n, nu_c, refK_l, x_ref, setK1_m, setK_l, set_ref, ixn_20, ixn_21, ixn_31, ixn_30, ixn_32, sl_tup, sl_lst, sl_fr, sl_br, rv_lst, rv_fr, rv_br, asI_i, b_some, m_some, List.getElem?_cons_succ, List.getElem?_cons_zero, List.getElem?_nil, List.set_cons_succ, List.set_cons_zero, List.length_cons, List.length_nil, lim, Nat.reduceAdd, Nat.reduceLeDiff, Int.reduceLT, Nat.reduceLT, Nat.lt_add_left_iff_pos, E.isNil, wipeE, Nat.zero_lt_succ, if_true, if_false, Bool.true_bne, Bool.false_bne, bne_self_eq_false, Bool.not_true, Bool.not_false, Bool.not_not, Bool.bne_false, Bool.bne_true]
  · have e : decide (0 < c0) = false := decide_eq_false c
    generalize hy : (c1 * 31051 + 7993).fmod 2147483543 = y
    have hy2 : y.natAbs < 2 ^ 62 := by
      have := fmod_lt (a := c1 * 31051 + 7993) 2147483543 (by decide)
      rw [hy] at this
      omega
    have w2 : small 64 y = true := small_of (by omega)
    refine ⟨(((y * (y + 229)).fmod 2147483587).fdiv 821).fmod m, cup c0 y, by simp only [k__law_roll, b__law_roll, xr, s0, s1, e, hm, m2, w1, w2, hy, ↓s_seq, ↓s_skip, ↓s_pass, ↓s_brk, ↓s_cnt, ↓s_retN, ↓s_ret, ↓s_ex, ↓s_ite, ↓s_ass, ↓s_par, ↓s_sub, ↓s_app, ↓s_frz, ↓s_prm, ↓e_con, ↓e_glob, ↓e_var, ↓e_tup, ↓e_lst, ↓e_bin, ↓e_neg, ↓e_cmp, ↓e_chain, ↓e_isN, ↓e_not, ↓e_and, ↓e_or, ↓e_ife, ↓e_idx, ↓pt_nil, ↓e_slc, ↓e_rev, ↓e_call, ↓e_blt, ↓e_mth, ↓e_isin, ↓e_setlen, ↓cd_nil, ↓i_one, ↓t_t, ↓r_nil, ↓r_cons, ↓rr_nil, ↓rr_cons, ↓lp_n, ↓lp_c, ↓cd_con, ↓pt_con, ↓i_con, ↓cd_var, ↓pt_var, ↓i_var, ↓cd_glob, ↓pt_glob, ↓i_glob, ↓cd_tup, ↓pt_tup, ↓i_tup, ↓cd_lst, ↓pt_lst, ↓i_lst, ↓cd_bin, ↓pt_bin, ↓i_bin, ↓cd_neg, ↓pt_neg, ↓i_neg, ↓cd_cmp, ↓pt_cmp, ↓i_cmp, ↓cd_chain, ↓pt_chain, ↓i_chain, ↓cd_isN, ↓pt_isN, ↓i_isN, ↓cd_not, ↓pt_not, ↓i_not, ↓cd_and, ↓pt_and, ↓i_and, ↓cd_or, ↓pt_or, ↓i_or, ↓cd_ife, ↓pt_ife, ↓i_ife, ↓cd_idx, ↓pt_idx, ↓i_idx, ↓cd_slc, ↓pt_slc, ↓i_slc, ↓cd_rev, ↓pt_rev, ↓i_rev, ↓cd_call, ↓pt_call, ↓i_call, ↓cd_blt, ↓pt_blt, ↓i_blt, ↓cd_mth, ↓pt_mth, ↓i_mth, ↓cd_isin, ↓pt_isin, ↓i_isin, ↓cd_setlen, ↓pt_setlen, ↓i_setlen, ↓cd_lc, ↓pt_lc, ↓i_lc, s_seq, s_skip, s_pass, s_brk, s_cnt, s_retN, s_ret, s_ex, s_ite, s_ass, s_par, s_sub, s_app, s_frz, s_prm, e_con, e_glob, e_var, e_tup, e_lst, e_bin, e_neg, e_cmp, e_chain, e_isN, e_not, e_and, e_or, e_ife, e_idx, pt_nil, e_slc, e_rev, e_call, e_blt, e_mth, e_isin, e_setlen, cd_nil, i_one, t_t, r_nil, r_cons, rr_nil, rr_cons, lp_n, lp_c, cd_con, pt_con, i_con, cd_var, pt_var, i_var, cd_glob, pt_glob, i_glob, cd_tup, pt_tup, i_tup, cd_lst, pt_lst, i_lst, cd_bin, pt_bin, i_bin, cd_neg, pt_neg, i_neg, cd_cmp, pt_cmp, i_cmp, cd_chain, pt_chain, i_chain, cd_isN, pt_isN, i_isN, cd_not, pt_not, i_not, cd_and, pt_and, i_and, cd_or, pt_or, i_or, cd_ife, pt_ife, i_ife, cd_idx, pt_idx, i_idx, cd_slc, pt_slc, i_slc, cd_rev, pt_rev, i_rev, cd_call, pt_call, i_call, cd_blt, pt_blt, i_blt, cd_mth, pt_mth, i_mth, cd_isin, pt_isin, i_isin, cd_setlen, pt_setlen, i_setlen, cd_lc, pt_lc, i_lc, ↓e_lc, ↓s_for, e_lc, s_for, nxt_nx, nxt_rt, nxt_bk, nxt_ct, rtK_p, exK_p, iteK_t, iteK_f, nxO_e, assK_p, parK_p, subK3_p, subK2_p, subK1_p, subK_p, nx2_p, appK1_p, appK_p, okK_t, forL_p, frzK_o, frzK_s, prmK_o, prmK_s, varK_s, varK_o, tupK_p, lstK_p, wiK_a, binK1_p, binK_p, negK_i, blK_b, cmpK1_p, cmpK_p, chainK_t, chainK_f, chK1_p, chK_p, isNK_p, nblK_b, notK_p, andK_t, andK_f, anK_p, orK_t, orK_f, oK_p, ifeK_t, ifeK_f, ifK_p, idxK1_p, idxK_p, siK_i, aiK_p, slcK2_p, slcK1_p, slcK_p, revK_p, callE_p, bltK_p, mthK1_p, mthK0_t, mthK_p, isinK_p, slnK1_p, slnK0_p, slnK_p, soK_v, giK_p, trK1_b, trK_p, elK_t, elK_f, lcK1_p, lcK_p, tuK_p, itK1_p, itK2_p, itK_p, coK_p, rcK1_p, rcK_p, crK_p, rrK_p, l_tup, l_lst, l_kl, l_fr, l_br, g_pv, g_fr, d_lst, d_fr, d_br, d_str, d_int, d_bl, d_non, d_tup, tr_bl, tr_int, tr_non, tr_str, n_non, n_int, n_str, n_tup, n_lst, n_bl, n_ref, x_tup, x_lst, x_kl, x_fr, x_br, a_v, a_t, gt_pv, gt_fr, as_v, as_tt, as_tl, as_n, as_c, o_rtp, o_rtf, o_rtb, o_nx, lpK_nx, lpK_ct, lpK_bk, lpK_rt, foK_e, forK_p, itm_tup, itm_lst, itm_kl, itm_fr, itm_br, itm_etup, itm_elst, itm_ekl, itm_efr, itm_ebr, itm_r1, itm_r2, at_nat, at_0, at_1, at_2, at_3, at_4, at_5, at_6, at_7, p_ii, p_ss, p_tt, p_ff, p_bf, p_lf, p_fl, p_ll, p_bl, p_sub, p_mulL, p_mulR, p_divP, p_modP, p_pow, c_lt, c_le, c_gt, c_ge, eqK1_v, eqK2_v, c_eq, c_ne, c_in, c_ni, inK_v, in_tup, in_lst, in_kl, in_fr, in_br, f_abs, f_int, f_lenS, f_lent, f_lenl, f_lenk, f_lenf, f_lenb, f_listk, f_listl, f_listt, f_listf, f_tupl, f_tupt, f_tupf, f_tupb, f_all, f_any, anyK_b, f_sort1, f_sort1f, mo_il, mo_ib, mo_ik, mo_if, mo_cl, mo_cb, mo_cf, ixK0_n, ixMK_v, m_il, m_ib, m_if, coMK_v, m_cl, m_cb, m_cf, apo_s, apoK_o, apoK_r, boK_l, ap_s, apK_o, apK_r, bxK_l, gu_c, gu_e, ok_non, ok_bl, ok_int, catK_s, catK_n, turK_p, tu_n, tu_c, bo_n, bo_c, in_n, in_c, al_n, al_t, al_f, nu_n, nu_c, refK_l, x_ref, setK1_m, setK_l, set_ref, ixn_20, ixn_21, ixn_31, ixn_30, ixn_32, sl_tup, sl_lst, sl_fr, sl_br, rv_lst, rv_fr, rv_br, asI_i, b_some, m_some, List.getElem?_cons_succ, List.getElem?_cons_zero, List.getElem?_nil, List.set_cons_succ, List.set_cons_zero, List.length_cons, List.length_nil, lim, Nat.reduceAdd, Nat.reduceLeDiff, Int.reduceLT, Nat.reduceLT, Nat.lt_add_left_iff_pos, E.isNil, wipeE, Nat.zero_lt_succ, if_true, if_false, Bool.true_bne, Bool.false_bne, bne_self_eq_false, Bool.not_true, Bool.not_false, Bool.not_not, Bool.bne_false, Bool.bne_true], Int.fmod_nonneg_of_pos _ hm, Int.fmod_lt_of_pos _ hm, _, _, rfl, hy2⟩
theorem some_ok (k : Nat) {h : Hh} {xs : List PV} (hc : Cup h) (h0 : 0 < xs.length) (h1 : xs.length < 1000) : ∃ (x : PV) (h' : Hh), callK G.ds (k + 2) 15 [.ref 0, .lst xs] h = some (.pv x, h') ∧ x ∈ xs ∧ Cup h' := by
  obtain ⟨r, h', e, r0, r1, hc'⟩ := roll_ok k (m := xs.length) hc (by omega) (by omega)
  obtain ⟨n, rfl⟩ := Int.eq_ofNat_of_zero_le r0
  have hn : n < xs.length := by omega
  have ea : L2.atI xs (n : Int) = some xs[n] := by rw [at_nat, List.getElem?_eq_getElem hn]
  exact ⟨xs[n], h', by simp only [k__law_some, b__law_some, e, ea, ↓s_seq, ↓s_skip, ↓s_pass, ↓s_brk, ↓s_cnt, ↓s_retN, ↓s_ret, ↓s_ex, ↓s_ite, ↓s_ass, ↓s_par, ↓s_sub, ↓s_app, ↓s_frz, ↓s_prm, ↓e_con, ↓e_glob, ↓e_var, ↓e_tup, ↓e_lst, ↓e_bin, ↓e_neg, ↓e_cmp, ↓e_chain, ↓e_isN, ↓e_not, ↓e_and, ↓e_or, ↓e_ife, ↓e_idx, ↓pt_nil, ↓e_slc, ↓e_rev, ↓e_call, ↓e_blt, ↓e_mth, ↓e_isin, ↓e_setlen, ↓cd_nil, ↓i_one, ↓t_t, ↓r_nil, ↓r_cons, ↓rr_nil, ↓rr_cons, ↓lp_n, ↓lp_c, ↓cd_con, ↓pt_con, ↓i_con, ↓cd_var, ↓pt_var, ↓i_var, ↓cd_glob, ↓pt_glob, ↓i_glob, ↓cd_tup, ↓pt_tup, ↓i_tup, ↓cd_lst, ↓pt_lst, ↓i_lst, ↓cd_bin, ↓pt_bin, ↓i_bin, ↓cd_neg, ↓pt_neg, ↓i_neg, ↓cd_cmp, ↓pt_cmp, ↓i_cmp, ↓cd_chain, ↓pt_chain, ↓i_chain, ↓cd_isN, ↓pt_isN, ↓i_isN, ↓cd_not, ↓pt_not, ↓i_not, ↓cd_and, ↓pt_and, ↓i_and, ↓cd_or, ↓pt_or, ↓i_or, ↓cd_ife, ↓pt_ife, ↓i_ife, ↓cd_idx, ↓pt_idx, ↓i_idx, ↓cd_slc, ↓pt_slc, ↓i_slc, ↓cd_rev, ↓pt_rev, ↓i_rev, ↓cd_call, ↓pt_call, ↓i_call, ↓cd_blt, ↓pt_blt, ↓i_blt, ↓cd_mth, ↓pt_mth, ↓i_mth, ↓cd_isin, ↓pt_isin, ↓i_isin, ↓cd_setlen, ↓pt_setlen, ↓i_setlen, ↓cd_lc, ↓pt_lc, ↓i_lc, s_seq, s_skip, s_pass, s_brk, s_cnt, s_retN, s_ret, s_ex, s_ite, s_ass, s_par, s_sub, s_app, s_frz, s_prm, e_con, e_glob, e_var, e_tup, e_lst, e_bin, e_neg, e_cmp, e_chain, e_isN, e_not, e_and, e_or, e_ife, e_idx, pt_nil, e_slc, e_rev, e_call, e_blt, e_mth, e_isin, e_setlen, cd_nil, i_one, t_t, r_nil, r_cons, rr_nil, rr_cons, lp_n, lp_c, cd_con, pt_con, i_con, cd_var, pt_var, i_var, cd_glob, pt_glob, i_glob, cd_tup, pt_tup, i_tup, cd_lst, pt_lst, i_lst, cd_bin, pt_bin, i_bin, cd_neg, pt_neg, i_neg, cd_cmp, pt_cmp, i_cmp, cd_chain, pt_chain, i_chain, cd_isN, pt_isN, i_isN, cd_not, pt_not, i_not, cd_and, pt_and, i_and, cd_or, pt_or, i_or, cd_ife, pt_ife, i_ife, cd_idx, pt_idx, i_idx, cd_slc, pt_slc, i_slc, cd_rev, pt_rev, i_rev, cd_call, pt_call, i_call, cd_blt, pt_blt, i_blt, cd_mth, pt_mth, i_mth, cd_isin, pt_isin, i_isin, cd_setlen, pt_setlen, i_setlen, cd_lc, pt_lc, i_lc, ↓e_lc, ↓s_for, e_lc, s_for, nxt_nx, nxt_rt, nxt_bk, nxt_ct, rtK_p, exK_p, iteK_t, iteK_f, nxO_e, assK_p, parK_p, subK3_p, subK2_p, subK1_p, subK_p, nx2_p, appK1_p, appK_p, okK_t, forL_p, frzK_o, frzK_s, prmK_o, prmK_s, varK_s, varK_o, tupK_p, lstK_p, wiK_a, binK1_p, binK_p, negK_i, blK_b, cmpK1_p, cmpK_p, chainK_t, chainK_f, chK1_p, chK_p, isNK_p, nblK_b, notK_p, andK_t, andK_f, anK_p, orK_t, orK_f, oK_p, ifeK_t, ifeK_f, ifK_p, idxK1_p, idxK_p, siK_i, aiK_p, slcK2_p, slcK1_p, slcK_p, revK_p, callE_p, bltK_p, mthK1_p, mthK0_t, mthK_p, isinK_p, slnK1_p, slnK0_p, slnK_p, soK_v, giK_p, trK1_b, trK_p, elK_t, elK_f, lcK1_p, lcK_p, tuK_p, itK1_p, itK2_p, itK_p, coK_p, rcK1_p, rcK_p, crK_p, rrK_p, l_tup, l_lst, l_kl, l_fr, l_br, g_pv, g_fr, d_lst, d_fr, d_br, d_str, d_int, d_bl, d_non, d_tup, tr_bl, tr_int, tr_non, tr_str, n_non, n_int, n_str, n_tup, n_lst, n_bl, n_ref, x_tup, x_lst, x_kl, x_fr, x_br, a_v, a_t, gt_pv, gt_fr, as_v, as_tt, as_tl, as_n, as_c, o_rtp, o_rtf, o_rtb, o_nx, lpK_nx, lpK_ct, lpK_bk, lpK_rt, foK_e, forK_p, itm_tup, itm_lst, itm_kl, itm_fr, itm_br, itm_etup, itm_elst, itm_ekl, itm_efr, itm_ebr, itm_r1, itm_r2, at_nat, at_0, at_1, at_2, at_3, at_4, at_5, at_6, at_7, p_ii, p_ss, p_tt, p_ff, p_bf, p_lf, p_fl, p_ll, p_bl, p_sub, p_mulL, p_mulR, p_divP, p_modP, p_pow, c_lt, c_le, c_gt, c_ge, eqK1_v, eqK2_v, c_eq, c_ne, c_in, c_ni, inK_v, in_tup, in_lst, in_kl, in_fr, in_br, f_abs, f_int, f_lenS, f_lent, f_lenl, f_lenk, f_lenf, f_lenb, f_listk, f_listl, f_listt, f_listf, f_tupl, f_tupt, f_tupf, f_tupb, f_all, f_any, anyK_b, f_sort1, f_sort1f, mo_il, mo_ib, mo_ik, mo_if, mo_cl, mo_cb, mo_cf, ixK0_n, ixMK_v, m_il, m_ib, m_if, coMK_v, m_cl, m_cb, m_cf, apo_s, apoK_o, apoK_r, boK_l, ap_s, apK_o, apK_r, bxK_l, gu_c, gu_e, ok_non, ok_bl, ok_int, catK_s, catK_n, turK_p, tu_n, tu_c, bo_n, bo_c, in_n, in_c, al_n, al_t, al_f, nu_n, nu_c, refK_l, x_ref, setK1_m, setK_l, set_ref, ixn_20, ixn_21, ixn_31, ixn_30, ixn_32, sl_tup, sl_lst, sl_fr, sl_br, rv_lst, rv_fr, rv_br, asI_i, b_some, m_some, List.getElem?_cons_succ, List.getElem?_cons_zero, List.getElem?_nil, List.set_cons_succ, List.set_cons_zero, List.length_cons, List.length_nil, lim, Nat.reduceAdd, Nat.reduceLeDiff, Int.reduceLT, Nat.reduceLT, Nat.lt_add_left_iff_pos, E.isNil, wipeE, Nat.zero_lt_succ, if_true, if_false, Bool.true_bne, Bool.false_bne, bne_self_eq_false, Bool.not_true, Bool.not_false, Bool.not_not, Bool.bne_false, Bool.bne_true], List.getElem_mem hn, hc'⟩
/-! ### the rows -/
def sA : List Str := ["a", "b", "c", "d"]
def oA : List (Option Str) := [none, none, none, some ("a" : Str), some ("b" : Str), some ("c" : Str), some ("x" : Str), some ("d" : Str)]
def ki : PV := .tup [.str "int"]
def kt : PV := .tup [.str "text"]
structure RowOk (r : Row) : Prop where
  n : r.name ∈ sA
  t : r.told ∈ oA
  k : r.kind = ki ∨ r.kind = kt
  e : r.rest = []
theorem names_ok (k : Nat) {h : Hh} (hc : Cup h) (s1 s2 s3 : Sl) : ∃ ys h', turns (lcK (callK G.ds (k + 1)) [2] (.var 2) (.v 2) (.cmp .Gt (.call 14 (.cons (.var 0) (.cons (.con (.int 3)) .nil))) (.con (.int 0))) [.sh (.ref 0), s1, s2, s3]) [.str "a", .str "b", .str "c", .str "d"] h = some (ys, h') ∧ ys.Sublist [.str "a", .str "b", .str "c", .str "d"] ∧ Cup h' := by
  refine turns_sub _ h hc fun x _ h hc => ?_
  obtain ⟨r, h', e, _, _, hc'⟩ := roll_ok k (m := 3) hc (by decide) (by decide)
  cases hd : decide (0 < r) with
  | true => exact ⟨true, h', by simp only [lcK_p, e, hd, ↓s_seq, ↓s_skip, ↓s_pass, ↓s_brk, ↓s_cnt, ↓s_retN, ↓s_ret, ↓s_ex, ↓s_ite, ↓s_ass, ↓s_par, ↓s_sub, ↓s_app, ↓s_frz, ↓s_prm, ↓e_con, ↓e_glob, ↓e_var, ↓e_tup, ↓e_lst, ↓e_bin, ↓e_neg, ↓e_cmp, ↓e_chain, ↓e_isN, ↓e_not, ↓e_and, ↓e_or, ↓e_ife, ↓e_idx, ↓pt_nil, ↓e_slc, ↓e_rev, ↓e_call, ↓e_blt, ↓e_mth, ↓e_isin, ↓e_setlen, ↓cd_nil, ↓i_one, ↓t_t, ↓r_nil, ↓r_cons, ↓rr_nil, ↓rr_cons, ↓lp_n, ↓lp_c, ↓cd_con, ↓pt_con, ↓i_con, ↓cd_var, ↓pt_var, ↓i_var, ↓cd_glob, ↓pt_glob, ↓i_glob, ↓cd_tup, ↓pt_tup, ↓i_tup, ↓cd_lst, ↓pt_lst, ↓i_lst, ↓cd_bin, ↓pt_bin, ↓i_bin, ↓cd_neg, ↓pt_neg, ↓i_neg, ↓cd_cmp, ↓pt_cmp, ↓i_cmp, ↓cd_chain, ↓pt_chain, ↓i_chain, ↓cd_isN, ↓pt_isN, ↓i_isN, ↓cd_not, ↓pt_not, ↓i_not, ↓cd_and, ↓pt_and, ↓i_and, ↓cd_or, ↓pt_or, ↓i_or, ↓cd_ife, ↓pt_ife, ↓i_ife, ↓cd_idx, ↓pt_idx, ↓i_idx, ↓cd_slc, ↓pt_slc, ↓i_slc, ↓cd_rev, ↓pt_rev, ↓i_rev, ↓cd_call, ↓pt_call, ↓i_call, ↓cd_blt, ↓pt_blt, ↓i_blt, ↓cd_mth, ↓pt_mth, ↓i_mth, ↓cd_isin, ↓pt_isin, ↓i_isin, ↓cd_setlen, ↓pt_setlen, ↓i_setlen, ↓cd_lc, ↓pt_lc, ↓i_lc, s_seq, s_skip, s_pass, s_brk, s_cnt, s_retN, s_ret, s_ex, s_ite, s_ass, s_par, s_sub, s_app, s_frz, s_prm, e_con, e_glob, e_var, e_tup, e_lst, e_bin, e_neg, e_cmp, e_chain, e_isN, e_not, e_and, e_or, e_ife, e_idx, pt_nil, e_slc, e_rev, e_call, e_blt, e_mth, e_isin, e_setlen, cd_nil, i_one, t_t, r_nil, r_cons, rr_nil, rr_cons, lp_n, lp_c, cd_con, pt_con, i_con, cd_var, pt_var, i_var, cd_glob, pt_glob, i_glob, cd_tup, pt_tup, i_tup, cd_lst, pt_lst, i_lst, cd_bin, pt_bin, i_bin, cd_neg, pt_neg, i_neg, cd_cmp, pt_cmp, i_cmp, cd_chain, pt_chain, i_chain, cd_isN, pt_isN, i_isN, cd_not, pt_not, i_not, cd_and, pt_and, i_and, cd_or, pt_or, i_or, cd_ife, pt_ife, i_ife, cd_idx, pt_idx, i_idx, cd_slc, pt_slc, i_slc, cd_rev, pt_rev, i_rev, cd_call, pt_call, i_call, cd_blt, pt_blt, i_blt, cd_mth, pt_mth, i_mth, cd_isin, pt_isin, i_isin, cd_setlen, pt_setlen, i_setlen, cd_lc, pt_lc, i_lc, ↓e_lc, ↓s_for, e_lc, s_for, nxt_nx, nxt_rt, nxt_bk, nxt_ct, rtK_p, exK_p, iteK_t, iteK_f, nxO_e, assK_p, parK_p, subK3_p, subK2_p, subK1_p, subK_p, nx2_p, appK1_p, appK_p, okK_t, forL_p, frzK_o, frzK_s, prmK_o, prmK_s, varK_s, varK_o, tupK_p, lstK_p, wiK_a, binK1_p, binK_p, negK_i, blK_b, cmpK1_p, cmpK_p, chainK_t, chainK_f, chK1_p, chK_p, isNK_p, nblK_b, notK_p, andK_t, andK_f, anK_p, orK_t, orK_f, oK_p, ifeK_t, ifeK_f, ifK_p, idxK1_p, idxK_p, siK_i, aiK_p, slcK2_p, slcK1_p, slcK_p, revK_p, callE_p, bltK_p, mthK1_p, mthK0_t, mthK_p, isinK_p, slnK1_p, slnK0_p, slnK_p, soK_v, giK_p, trK1_b, trK_p, elK_t, elK_f, lcK1_p, lcK_p, tuK_p, itK1_p, itK2_p, itK_p, coK_p, rcK1_p, rcK_p, crK_p, rrK_p, l_tup, l_lst, l_kl, l_fr, l_br, g_pv, g_fr, d_lst, d_fr, d_br, d_str, d_int, d_bl, d_non, d_tup, tr_bl, tr_int, tr_non, tr_str, n_non, n_int, n_str, n_tup, n_lst, n_bl, n_ref, x_tup, x_lst, x_kl, x_fr, x_br, a_v, a_t, gt_pv, gt_fr, as_v, as_tt, as_tl, as_n, as_c, o_rtp, o_rtf, o_rtb, o_nx, lpK_nx, lpK_ct, lpK_bk, lpK_rt, foK_e, forK_p, itm_tup, itm_lst, itm_kl, itm_fr, itm_br, itm_etup, itm_elst, itm_ekl, itm_efr, itm_ebr, itm_r1, itm_r2, at_nat, at_0, at_1, at_2, at_3, at_4, at_5, at_6, at_7, p_ii, p_ss, p_tt, p_ff, p_bf, p_lf, p_fl, p_ll, p_bl, p_sub, p_mulL, p_mulR, p_divP, p_modP, p_pow, c_lt, c_le, c_gt, c_ge, eqK1_v, eqK2_v, c_eq, c_ne, c_in, c_ni, inK_v, in_tup, in_lst, in_kl, in_fr, in_br, f_abs, f_int, f_lenS, f_lent, f_lenl, f_lenk, f_lenf, f_lenb, f_listk, f_listl, f_listt, f_listf, f_tupl, f_tupt, f_tupf, f_tupb, f_all, f_any, anyK_b, f_sort1, f_sort1f, mo_il, mo_ib, mo_ik, mo_if, mo_cl, mo_cb, mo_cf, ixK0_n, ixMK_v, m_il, m_ib, m_if, coMK_v, m_cl, m_cb, m_cf, apo_s, apoK_o, apoK_r, boK_l, ap_s, apK_o, apK_r, bxK_l, gu_c, gu_e, ok_non, ok_bl, ok_int, catK_s, catK_n, turK_p, tu_n, tu_c, bo_n, bo_c, in_n, in_c, al_n, al_t, al_f, nu_n, nu_c, refK_l, x_ref, setK1_m, setK_l, set_ref, ixn_20, ixn_21, ixn_31, ixn_30, ixn_32, sl_tup, sl_lst, sl_fr, sl_br, rv_lst, rv_fr, rv_br, asI_i, b_some, m_some, List.getElem?_cons_succ, List.getElem?_cons_zero, List.getElem?_nil, List.set_cons_succ, List.set_cons_zero, List.length_cons, List.length_nil, lim, Nat.reduceAdd, Nat.reduceLeDiff, Int.reduceLT, Nat.reduceLT, Nat.lt_add_left_iff_pos, E.isNil, wipeE, Nat.zero_lt_succ, if_true, if_false, Bool.true_bne, Bool.false_bne, bne_self_eq_false, Bool.not_true, Bool.not_false, Bool.not_not, Bool.bne_false, Bool.bne_true], hc'⟩
  | false => exact ⟨false, h', by simp only [lcK_p, e, hd, Bool.false_eq_true, ↓s_seq, ↓s_skip, ↓s_pass, ↓s_brk, ↓s_cnt, ↓s_retN, ↓s_ret, ↓s_ex, ↓s_ite, ↓s_ass, ↓s_par, ↓s_sub, ↓s_app, ↓s_frz, ↓s_prm, ↓e_con, ↓e_glob, ↓e_var, ↓e_tup, ↓e_lst, ↓e_bin, ↓e_neg, ↓e_cmp, ↓e_chain, ↓e_isN, ↓e_not, ↓e_and, ↓e_or, ↓e_ife, ↓e_idx, ↓pt_nil, ↓e_slc, ↓e_rev, ↓e_call, ↓e_blt, ↓e_mth, ↓e_isin, ↓e_setlen, ↓cd_nil, ↓i_one, ↓t_t, ↓r_nil, ↓r_cons, ↓rr_nil, ↓rr_cons, ↓lp_n, ↓lp_c, ↓cd_con, ↓pt_con, ↓i_con, ↓cd_var, ↓pt_var, ↓i_var, ↓cd_glob, ↓pt_glob, ↓i_glob, ↓cd_tup, ↓pt_tup, ↓i_tup, ↓cd_lst, ↓pt_lst, ↓i_lst, ↓cd_bin, ↓pt_bin, ↓i_bin, ↓cd_neg, ↓pt_neg, ↓i_neg, ↓cd_cmp, ↓pt_cmp, ↓i_cmp, ↓cd_chain, ↓pt_chain, ↓i_chain, ↓cd_isN, ↓pt_isN, ↓i_isN, ↓cd_not, ↓pt_not, ↓i_not, ↓cd_and, ↓pt_and, ↓i_and, ↓cd_or, ↓pt_or, ↓i_or, ↓cd_ife, ↓pt_ife, ↓i_ife, ↓cd_idx, ↓pt_idx, ↓i_idx, ↓cd_slc, ↓pt_slc, ↓i_slc, ↓cd_rev, ↓pt_rev, ↓i_rev, ↓cd_call, ↓pt_call, ↓i_call, ↓cd_blt, ↓pt_blt, ↓i_blt, ↓cd_mth, ↓pt_mth, ↓i_mth, ↓cd_isin, ↓pt_isin, ↓i_isin, ↓cd_setlen, ↓pt_setlen, ↓i_setlen, ↓cd_lc, ↓pt_lc, ↓i_lc, s_seq, s_skip, s_pass, s_brk, s_cnt, s_retN, s_ret, s_ex, s_ite, s_ass, s_par, s_sub, s_app, s_frz, s_prm, e_con, e_glob, e_var, e_tup, e_lst, e_bin, e_neg, e_cmp, e_chain, e_isN, e_not, e_and, e_or, e_ife, e_idx, pt_nil, e_slc, e_rev, e_call, e_blt, e_mth, e_isin, e_setlen, cd_nil, i_one, t_t, r_nil, r_cons, rr_nil, rr_cons, lp_n, lp_c, cd_con, pt_con, i_con, cd_var, pt_var, i_var, cd_glob, pt_glob, i_glob, cd_tup, pt_tup, i_tup, cd_lst, pt_lst, i_lst, cd_bin, pt_bin, i_bin, cd_neg, pt_neg, i_neg, cd_cmp, pt_cmp, i_cmp, cd_chain, pt_chain, i_chain, cd_isN, pt_isN, i_isN, cd_not, pt_not, i_not, cd_and, pt_and, i_and, cd_or, pt_or, i_or, cd_ife, pt_ife, i_ife, cd_idx, pt_idx, i_idx, cd_slc, pt_slc, i_slc, cd_rev, pt_rev, i_rev, cd_call, pt_call, i_call, cd_blt, pt_blt, i_blt, cd_mth, pt_mth, i_mth, cd_isin, pt_isin, i_isin, cd_setlen, pt_setlen, i_setlen, cd_lc, pt_lc, i_lc, ↓e_lc, ↓s_for, e_lc, s_for, nxt_nx, nxt_rt, nxt_bk, nxt_ct, rtK_p, exK_p, iteK_t, iteK_f, nxO_e, assK_p, parK_p, subK3_p, subK2_p, subK1_p, subK_p, nx2_p, appK1_p, appK_p, okK_t, forL_p, frzK_o, frzK_s, prmK_o, prmK_s, varK_s, varK_o, tupK_p, lstK_p, wiK_a, binK1_p, binK_p, negK_i, blK_b, cmpK1_p, cmpK_p, chainK_t, chainK_f, chK1_p, chK_p, isNK_p, nblK_b, notK_p, andK_t, andK_f, anK_p, orK_t, orK_f, oK_p, ifeK_t, ifeK_f, ifK_p, idxK1_p, idxK_p, siK_i, aiK_p, slcK2_p, slcK1_p, slcK_p, revK_p, callE_p, bltK_p, mthK1_p, mthK0_t, mthK_p, isinK_p, slnK1_p, slnK0_p, slnK_p, soK_v, giK_p, trK1_b, trK_p, elK_t, elK_f, lcK1_p, lcK_p, tuK_p, itK1_p, itK2_p, itK_p, coK_p, rcK1_p, rcK_p, crK_p, rrK_p, l_tup, l_lst, l_kl, l_fr, l_br, g_pv, g_fr, d_lst, d_fr, d_br, d_str, d_int, d_bl, d_non, d_tup, tr_bl, tr_int, tr_non, tr_str, n_non, n_int, n_str, n_tup, n_lst, n_bl, n_ref, x_tup, x_lst, x_kl, x_fr, x_br, a_v, a_t, gt_pv, gt_fr, as_v, as_tt, as_tl, as_n, as_c, o_rtp, o_rtf, o_rtb, o_nx, lpK_nx, lpK_ct, lpK_bk, lpK_rt, foK_e, forK_p, itm_tup, itm_lst, itm_kl, itm_fr, itm_br, itm_etup, itm_elst, itm_ekl, itm_efr, itm_ebr, itm_r1, itm_r2, at_nat, at_0, at_1, at_2, at_3, at_4, at_5, at_6, at_7, p_ii, p_ss, p_tt, p_ff, p_bf, p_lf, p_fl, p_ll, p_bl, p_sub, p_mulL, p_mulR, p_divP, p_modP, p_pow, c_lt, c_le, c_gt, c_ge, eqK1_v, eqK2_v, c_eq, c_ne, c_in, c_ni, inK_v, in_tup, in_lst, in_kl, in_fr, in_br, f_abs, f_int, f_lenS, f_lent, f_lenl, f_lenk, f_lenf, f_lenb, f_listk, f_listl, f_listt, f_listf, f_tupl, f_tupt, f_tupf, f_tupb, f_all, f_any, anyK_b, f_sort1, f_sort1f, mo_il, mo_ib, mo_ik, mo_if, mo_cl, mo_cb, mo_cf, ixK0_n, ixMK_v, m_il, m_ib, m_if, coMK_v, m_cl, m_cb, m_cf, apo_s, apoK_o, apoK_r, boK_l, ap_s, apK_o, apK_r, bxK_l, gu_c, gu_e, ok_non, ok_bl, ok_int, catK_s, catK_n, turK_p, tu_n, tu_c, bo_n, bo_c, in_n, in_c, al_n, al_t, al_f, nu_n, nu_c, refK_l, x_ref, setK1_m, setK_l, set_ref, ixn_20, ixn_21, ixn_31, ixn_30, ixn_32, sl_tup, sl_lst, sl_fr, sl_br, rv_lst, rv_fr, rv_br, asI_i, b_some, m_some, List.getElem?_cons_succ, List.getElem?_cons_zero, List.getElem?_nil, List.set_cons_succ, List.set_cons_zero, List.length_cons, List.length_nil, lim, Nat.reduceAdd, Nat.reduceLeDiff, Int.reduceLT, Nat.reduceLT, Nat.lt_add_left_iff_pos, E.isNil, wipeE, Nat.zero_lt_succ, if_true, if_false, Bool.true_bne, Bool.false_bne, bne_self_eq_false, Bool.not_true, Bool.not_false, Bool.not_not, Bool.bne_false, Bool.bne_true], hc'⟩
theorem sub_map : ∀ {ys : List PV} {xs : List Str}, ys.Sublist (xs.map PV.str) → ∃ zs : List Str, ys = zs.map PV.str ∧ zs.Sublist xs := fun {ys xs} h => by
  obtain ⟨zs, s, e⟩ := List.sublist_map_iff.mp h
  exact ⟨zs, e, s⟩
theorem rows_ok (k : Nat) {h : Hh} (hc : Cup h) : ∃ (rs : List Row) (h' : Hh), callK G.ds (k + 4) 16 [.ref 0] h = some (.fr (.l (rs.map cell)), h') ∧ (∀ r ∈ rs, RowOk r) ∧ (rs.map (·.name)).Nodup ∧ rs.length ≤ 4 ∧ Cup h' := by
  obtain ⟨ys, h1, e1, sb, c1⟩ := names_ok (k + 2) hc (.ow (.l [])) .un .un
  obtain ⟨zs, rfl, sz⟩ := sub_map (xs := sA) sb
  have zl : zs.length ≤ 4 := sz.length_le
  have zn : zs.Nodup := sz.nodup (by decide +kernel)
  have lpF : ∃ (j : Sl × Sl) (cs : List PV) (h2 : Hh), loop (forK (callK G.ds (k + 3)) (.v 2) (.seq (.ass (.v 3) (.ife (.cmp .Gt (.call 14 (.cons (.var 0) (.cons (.con (.int 9)) .nil))) (.con (.int 0))) (.tup (.cons (.con (.str "int")) .nil)) (.tup (.cons (.con (.str "text")) .nil)))) (.frz 3 (.seq (.app 1 (.tup (.cons (.var 2) (.cons (.call 15 (.cons (.var 0) (.cons (.lst (.cons (.con (.non)) (.cons (.con (.non)) (.cons (.con (.non)) (.cons (.con (.str "a")) (.cons (.con (.str "b")) (.cons (.con (.str "c")) (.cons (.con (.str "x")) (.cons (.con (.str "d")) .nil))))))))) .nil))) (.cons (.var 3) .nil))))) .skip)))) (zs.map PV.str) [.sh (.ref 0), .ow (.l []), .un, .un] h1 =
      some (.nx [.sh (.ref 0), .ow (.l ([] ++ cs)), j.1, j.2] h2) ∧ Two (fun (z : Str) (y : PV) => ∃ r : Row, y = cell r ∧ r.name = z ∧ r.told ∈ oA ∧ (r.kind = ki ∨ r.kind = kt) ∧ r.rest = []) zs cs ∧ Cup h2 := by
    refine loop_each (J := Sl × Sl) (M := 100) (E := fun j acc => [.sh (.ref 0), .ow (.l acc), j.1, j.2]) zs (.un, .un) [] h1 c1 (by simp only [List.length_nil]; omega) ?_
    rintro z m ⟨j1, j2⟩ acc h c hb
    have hb2 : acc.length < 16777216 := by omega
    obtain ⟨r1, h3, e3, _, _, c3⟩ := roll_ok (k + 2) (m := 9) c (by decide) (by decide)
    obtain ⟨x, h4, e4, m4, c4⟩ := some_ok (k + 1) (xs := [.non, .non, .non, .str "a", .str "b", .str "c", .str "x", .str "d"]) c3 (by decide) (by decide)
    have tx : ∃ o ∈ oA, x = tp o := by
      have : x ∈ oA.map tp := m4
      obtain ⟨o, mo, e⟩ := List.mem_map.mp this
      exact ⟨o, mo, e.symm⟩
    obtain ⟨o, mo, rfl⟩ := tx
    cases hd : decide (0 < r1) with
    | true => exact ⟨(.sh (.str z), .sh ki), cell ⟨z, o, ki, []⟩, h4, by simp only [ki, cell, e3, e4, hd, hb2, ↓s_seq, ↓s_skip, ↓s_pass, ↓s_brk, ↓s_cnt, ↓s_retN, ↓s_ret, ↓s_ex, ↓s_ite, ↓s_ass, ↓s_par, ↓s_sub, ↓s_app, ↓s_frz, ↓s_prm, ↓e_con, ↓e_glob, ↓e_var, ↓e_tup, ↓e_lst, ↓e_bin, ↓e_neg, ↓e_cmp, ↓e_chain, ↓e_isN, ↓e_not, ↓e_and, ↓e_or, ↓e_ife, ↓e_idx, ↓pt_nil, ↓e_slc, ↓e_rev, ↓e_call, ↓e_blt, ↓e_mth, ↓e_isin, ↓e_setlen, ↓cd_nil, ↓i_one, ↓t_t, ↓r_nil, ↓r_cons, ↓rr_nil, ↓rr_cons, ↓lp_n, ↓lp_c, ↓cd_con, ↓pt_con, ↓i_con, ↓cd_var, ↓pt_var, ↓i_var, ↓cd_glob, ↓pt_glob, ↓i_glob, ↓cd_tup, ↓pt_tup, ↓i_tup, ↓cd_lst, ↓pt_lst, ↓i_lst, ↓cd_bin, ↓pt_bin, ↓i_bin, ↓cd_neg, ↓pt_neg, ↓i_neg, ↓cd_cmp, ↓pt_cmp, ↓i_cmp, ↓cd_chain, ↓pt_chain, ↓i_chain, ↓cd_isN, ↓pt_isN, ↓i_isN, ↓cd_not, ↓pt_not, ↓i_not, ↓cd_and, ↓pt_and, ↓i_and, ↓cd_or, ↓pt_or, ↓i_or, ↓cd_ife, ↓pt_ife, ↓i_ife, ↓cd_idx, ↓pt_idx, ↓i_idx, ↓cd_slc, ↓pt_slc, ↓i_slc, ↓cd_rev, ↓pt_rev, ↓i_rev, ↓cd_call, ↓pt_call, ↓i_call, ↓cd_blt, ↓pt_blt, ↓i_blt, ↓cd_mth, ↓pt_mth, ↓i_mth, ↓cd_isin, ↓pt_isin, ↓i_isin, ↓cd_setlen, ↓pt_setlen, ↓i_setlen, ↓cd_lc, ↓pt_lc, ↓i_lc, s_seq, s_skip, s_pass, s_brk, s_cnt, s_retN, s_ret, s_ex, s_ite, s_ass, s_par, s_sub, s_app, s_frz, s_prm, e_con, e_glob, e_var, e_tup, e_lst, e_bin, e_neg, e_cmp, e_chain, e_isN, e_not, e_and, e_or, e_ife, e_idx, pt_nil, e_slc, e_rev, e_call, e_blt, e_mth, e_isin, e_setlen, cd_nil, i_one, t_t, r_nil, r_cons, rr_nil, rr_cons, lp_n, lp_c, cd_con, pt_con, i_con, cd_var, pt_var, i_var, cd_glob, pt_glob, i_glob, cd_tup, pt_tup, i_tup, cd_lst, pt_lst, i_lst, cd_bin, pt_bin, i_bin, cd_neg, pt_neg, i_neg, cd_cmp, pt_cmp, i_cmp, cd_chain, pt_chain, i_chain, cd_isN, pt_isN, i_isN, cd_not, pt_not, i_not, cd_and, pt_and, i_and, cd_or, pt_or, i_or, cd_ife, pt_ife, i_ife, cd_idx, pt_idx, i_idx, cd_slc, pt_slc, i_slc, cd_rev, pt_rev, i_rev, cd_call, pt_call, i_call, cd_blt, pt_blt, i_blt, cd_mth, pt_mth, i_mth, cd_isin, pt_isin, i_isin, cd_setlen, pt_setlen, i_setlen, cd_lc, pt_lc, i_lc, ↓e_lc, ↓s_for, e_lc, s_for, nxt_nx, nxt_rt, nxt_bk, nxt_ct, rtK_p, exK_p, iteK_t, iteK_f, nxO_e, assK_p, parK_p, subK3_p, subK2_p, subK1_p, subK_p, nx2_p, appK1_p, appK_p, okK_t, forL_p, frzK_o, frzK_s, prmK_o, prmK_s, varK_s, varK_o, tupK_p, lstK_p, wiK_a, binK1_p, binK_p, negK_i, blK_b, cmpK1_p, cmpK_p, chainK_t, chainK_f, chK1_p, chK_p, isNK_p, nblK_b, notK_p, andK_t, andK_f, anK_p, orK_t, orK_f, oK_p, ifeK_t, ifeK_f, ifK_p, idxK1_p, idxK_p, siK_i, aiK_p, slcK2_p, slcK1_p, slcK_p, revK_p, callE_p, bltK_p, mthK1_p, mthK0_t, mthK_p, isinK_p, slnK1_p, slnK0_p, slnK_p, soK_v, giK_p, trK1_b, trK_p, elK_t, elK_f, lcK1_p, lcK_p, tuK_p, itK1_p, itK2_p, itK_p, coK_p, rcK1_p, rcK_p, crK_p, rrK_p, l_tup, l_lst, l_kl, l_fr, l_br, g_pv, g_fr, d_lst, d_fr, d_br, d_str, d_int, d_bl, d_non, d_tup, tr_bl, tr_int, tr_non, tr_str, n_non, n_int, n_str, n_tup, n_lst, n_bl, n_ref, x_tup, x_lst, x_kl, x_fr, x_br, a_v, a_t, gt_pv, gt_fr, as_v, as_tt, as_tl, as_n, as_c, o_rtp, o_rtf, o_rtb, o_nx, lpK_nx, lpK_ct, lpK_bk, lpK_rt, foK_e, forK_p, itm_tup, itm_lst, itm_kl, itm_fr, itm_br, itm_etup, itm_elst, itm_ekl, itm_efr, itm_ebr, itm_r1, itm_r2, at_nat, at_0, at_1, at_2, at_3, at_4, at_5, at_6, at_7, p_ii, p_ss, p_tt, p_ff, p_bf, p_lf, p_fl, p_ll, p_bl, p_sub, p_mulL, p_mulR, p_divP, p_modP, p_pow, c_lt, c_le, c_gt, c_ge, eqK1_v, eqK2_v, c_eq, c_ne, c_in, c_ni, inK_v, in_tup, in_lst, in_kl, in_fr, in_br, f_abs, f_int, f_lenS, f_lent, f_lenl, f_lenk, f_lenf, f_lenb, f_listk, f_listl, f_listt, f_listf, f_tupl, f_tupt, f_tupf, f_tupb, f_all, f_any, anyK_b, f_sort1, f_sort1f, mo_il, mo_ib, mo_ik, mo_if, mo_cl, mo_cb, mo_cf, ixK0_n, ixMK_v, m_il, m_ib, m_if, coMK_v, m_cl, m_cb, m_cf, apo_s, apoK_o, apoK_r, boK_l, ap_s, apK_o, apK_r, bxK_l, gu_c, gu_e, ok_non, ok_bl, ok_int, catK_s, catK_n, turK_p, tu_n, tu_c, bo_n, bo_c, in_n, in_c, al_n, al_t, al_f, nu_n, nu_c, refK_l, x_ref, setK1_m, setK_l, set_ref, ixn_20, ixn_21, ixn_31, ixn_30, ixn_32, sl_tup, sl_lst, sl_fr, sl_br, rv_lst, rv_fr, rv_br, asI_i, b_some, m_some, List.getElem?_cons_succ, List.getElem?_cons_zero, List.getElem?_nil, List.set_cons_succ, List.set_cons_zero, List.length_cons, List.length_nil, lim, Nat.reduceAdd, Nat.reduceLeDiff, Int.reduceLT, Nat.reduceLT, Nat.lt_add_left_iff_pos, E.isNil, wipeE, Nat.zero_lt_succ, if_true, if_false, Bool.true_bne, Bool.false_bne, bne_self_eq_false, Bool.not_true, Bool.not_false, Bool.not_not, Bool.bne_false, Bool.bne_true], ⟨_, rfl, rfl, mo, .inl rfl, rfl⟩, c4⟩
    | false => exact ⟨(.sh (.str z), .sh kt), cell ⟨z, o, kt, []⟩, h4, by simp only [kt, cell, e3, e4, hd, hb2, ↓s_seq, ↓s_skip, ↓s_pass, ↓s_brk, ↓s_cnt, ↓s_retN, ↓s_ret, ↓s_ex, ↓s_ite, ↓s_ass, ↓s_par, ↓s_sub, ↓s_app, ↓s_frz, ↓s_prm, ↓e_con, ↓e_glob, ↓e_var, ↓e_tup, ↓e_lst, ↓e_bin, ↓e_neg, ↓e_cmp, ↓e_chain, ↓e_isN, ↓e_not, ↓e_and, ↓e_or, ↓e_ife, ↓e_idx, ↓pt_nil, ↓e_slc, ↓e_rev, ↓e_call, ↓e_blt, ↓e_mth, ↓e_isin, ↓e_setlen, ↓cd_nil, ↓i_one, ↓t_t, ↓r_nil, ↓r_cons, ↓rr_nil, ↓rr_cons, ↓lp_n, ↓lp_c, ↓cd_con, ↓pt_con, ↓i_con, ↓cd_var, ↓pt_var, ↓i_var, ↓cd_glob, ↓pt_glob, ↓i_glob, ↓cd_tup, ↓pt_tup, ↓i_tup, ↓cd_lst, ↓pt_lst, ↓i_lst, ↓cd_bin, ↓pt_bin, ↓i_bin, ↓cd_neg, ↓pt_neg, ↓i_neg, ↓cd_cmp, ↓pt_cmp, ↓i_cmp, ↓cd_chain, ↓pt_chain, ↓i_chain, ↓cd_isN, ↓pt_isN, ↓i_isN, ↓cd_not, ↓pt_not, ↓i_not, ↓cd_and, ↓pt_and, ↓i_and, ↓cd_or, ↓pt_or, ↓i_or, ↓cd_ife, ↓pt_ife, ↓i_ife, ↓cd_idx, ↓pt_idx, ↓i_idx, ↓cd_slc, ↓pt_slc, ↓i_slc, ↓cd_rev, ↓pt_rev, ↓i_rev, ↓cd_call, ↓pt_call, ↓i_call, ↓cd_blt, ↓pt_blt, ↓i_blt, ↓cd_mth, ↓pt_mth, ↓i_mth, ↓cd_isin, ↓pt_isin, ↓i_isin, ↓cd_setlen, ↓pt_setlen, ↓i_setlen, ↓cd_lc, ↓pt_lc, ↓i_lc, s_seq, s_skip, s_pass, s_brk, s_cnt, s_retN, s_ret, s_ex, s_ite, s_ass, s_par, s_sub, s_app, s_frz, s_prm, e_con, e_glob, e_var, e_tup, e_lst, e_bin, e_neg, e_cmp, e_chain, e_isN, e_not, e_and, e_or, e_ife, e_idx, pt_nil, e_slc, e_rev, e_call, e_blt, e_mth, e_isin, e_setlen, cd_nil, i_one, t_t, r_nil, r_cons, rr_nil, rr_cons, lp_n, lp_c, cd_con, pt_con, i_con, cd_var, pt_var, i_var, cd_glob, pt_glob, i_glob, cd_tup, pt_tup, i_tup, cd_lst, pt_lst, i_lst, cd_bin, pt_bin, i_bin, cd_neg, pt_neg, i_neg, cd_cmp, pt_cmp, i_cmp, cd_chain, pt_chain, i_chain, cd_isN, pt_isN, i_isN, cd_not, pt_not, i_not, cd_and, pt_and, i_and, cd_or, pt_or, i_or, cd_ife, pt_ife, i_ife, cd_idx, pt_idx, i_idx, cd_slc, pt_slc, i_slc, cd_rev, pt_rev, i_rev, cd_call, pt_call, i_call, cd_blt, pt_blt, i_blt, cd_mth, pt_mth, i_mth, cd_isin, pt_isin, i_isin, cd_setlen, pt_setlen, i_setlen, cd_lc, pt_lc, i_lc, ↓e_lc, ↓s_for, e_lc, s_for, nxt_nx, nxt_rt, nxt_bk, nxt_ct, rtK_p, exK_p, iteK_t, iteK_f, nxO_e, assK_p, parK_p, subK3_p, subK2_p, subK1_p, subK_p, nx2_p, appK1_p, appK_p, okK_t, forL_p, frzK_o, frzK_s, prmK_o, prmK_s, varK_s, varK_o, tupK_p, lstK_p, wiK_a, binK1_p, binK_p, negK_i, blK_b, cmpK1_p, cmpK_p, chainK_t, chainK_f, chK1_p, chK_p, isNK_p, nblK_b, notK_p, andK_t, andK_f, anK_p, orK_t, orK_f, oK_p, ifeK_t, ifeK_f, ifK_p, idxK1_p, idxK_p, siK_i, aiK_p, slcK2_p, slcK1_p, slcK_p, revK_p, callE_p, bltK_p, mthK1_p, mthK0_t, mthK_p, isinK_p, slnK1_p, slnK0_p, slnK_p, soK_v, giK_p, trK1_b, trK_p, elK_t, elK_f, lcK1_p, lcK_p, tuK_p, itK1_p, itK2_p, itK_p, coK_p, rcK1_p, rcK_p, crK_p, rrK_p, l_tup, l_lst, l_kl, l_fr, l_br, g_pv, g_fr, d_lst, d_fr, d_br, d_str, d_int, d_bl, d_non, d_tup, tr_bl, tr_int, tr_non, tr_str, n_non, n_int, n_str, n_tup, n_lst, n_bl, n_ref, x_tup, x_lst, x_kl, x_fr, x_br, a_v, a_t, gt_pv, gt_fr, as_v, as_tt, as_tl, as_n, as_c, o_rtp, o_rtf, o_rtb, o_nx, lpK_nx, lpK_ct, lpK_bk, lpK_rt, foK_e, forK_p, itm_tup, itm_lst, itm_kl, itm_fr, itm_br, itm_etup, itm_elst, itm_ekl, itm_efr, itm_ebr, itm_r1, itm_r2, at_nat, at_0, at_1, at_2, at_3, at_4, at_5, at_6, at_7, p_ii, p_ss, p_tt, p_ff, p_bf, p_lf, p_fl, p_ll, p_bl, p_sub, p_mulL, p_mulR, p_divP, p_modP, p_pow, c_lt, c_le, c_gt, c_ge, eqK1_v, eqK2_v, c_eq, c_ne, c_in, c_ni, inK_v, in_tup, in_lst, in_kl, in_fr, in_br, f_abs, f_int, f_lenS, f_lent, f_lenl, f_lenk, f_lenf, f_lenb, f_listk, f_listl, f_listt, f_listf, f_tupl, f_tupt, f_tupf, f_tupb, f_all, f_any, anyK_b, f_sort1, f_sort1f, mo_il, mo_ib, mo_ik, mo_if, mo_cl, mo_cb, mo_cf, ixK0_n, ixMK_v, m_il, m_ib, m_if, coMK_v, m_cl, m_cb, m_cf, apo_s, apoK_o, apoK_r, boK_l, ap_s, apK_o, apK_r, bxK_l, gu_c, gu_e, ok_non, ok_bl, ok_int, catK_s, catK_n, turK_p, tu_n, tu_c, bo_n, bo_c, in_n, in_c, al_n, al_t, al_f, nu_n, nu_c, refK_l, x_ref, setK1_m, setK_l, set_ref, ixn_20, ixn_21, ixn_31, ixn_30, ixn_32, sl_tup, sl_lst, sl_fr, sl_br, rv_lst, rv_fr, rv_br, asI_i, b_some, m_some, List.getElem?_cons_succ, List.getElem?_cons_zero, List.getElem?_nil, List.set_cons_succ, List.set_cons_zero, List.length_cons, List.length_nil, lim, Nat.reduceAdd, Nat.reduceLeDiff, Int.reduceLT, Nat.reduceLT, Nat.lt_add_left_iff_pos, E.isNil, wipeE, Nat.zero_lt_succ, if_true, if_false, Bool.true_bne, Bool.false_bne, bne_self_eq_false, Bool.not_true, Bool.not_false, Bool.not_not, Bool.bne_false, Bool.bne_true], ⟨_, rfl, rfl, mo, .inr rfl, rfl⟩, c4⟩
  obtain ⟨⟨j1, j2⟩, cs, h2, lpF, tw, c2⟩ := lpF
  have rsx : ∃ rs : List Row, cs = rs.map cell ∧ rs.map (·.name) = zs ∧ ∀ r ∈ rs, r.told ∈ oA ∧ (r.kind = ki ∨ r.kind = kt) ∧ r.rest = [] := by
    clear lpF e1 zl zn sz sb
    induction tw with
    | nil => exact ⟨[], rfl, rfl, fun _ m => nomatch m⟩
    | cons p t ih =>
      obtain ⟨r, rfl, rfl, h1, h2, h3⟩ := p
      obtain ⟨rs, rfl, rfl, hr⟩ := ih
      exact ⟨r :: rs, rfl, rfl, fun x m => (List.mem_cons.mp m).elim (fun e => e ▸ ⟨h1, h2, h3⟩) (hr x)⟩
  obtain ⟨rs, rfl, hz, hr⟩ := rsx
  subst hz
  have ok : ∀ r ∈ rs, RowOk r := fun r m => ⟨sz.subset (List.mem_map.mpr ⟨r, m, rfl⟩), (hr r m).1, (hr r m).2.1, (hr r m).2.2⟩
  rw [List.length_map] at zl
  have zl2 : ((rs.map (·.name)).map PV.str).length ≤ 16777216 := by rw [List.length_map, List.length_map]; omega
  obtain ⟨r2, h3, e3, _, _, c3⟩ := roll_ok (k + 2) (m := 2) c2 (by decide) (by decide)
  rw [List.nil_append] at lpF
  have e0 : pvEq (.int r2) (.int 0) = decide (r2 = 0) := by
    show (r2 == 0) = _
    rfl
  cases hd : decide (r2 = 0) with
  | true => exact ⟨rs, h3, by simp only [k__law_rows, b__law_rows, w__law_rows_0, e__law_rows_0, l__law_rows_0, e1, lpF, e3, e0, hd, zl2, ↓s_seq, ↓s_skip, ↓s_pass, ↓s_brk, ↓s_cnt, ↓s_retN, ↓s_ret, ↓s_ex, ↓s_ite, ↓s_ass, ↓s_par, ↓s_sub, ↓s_app, ↓s_frz, ↓s_prm, ↓e_con, ↓e_glob, ↓e_var, ↓e_tup, ↓e_lst, ↓e_bin, ↓e_neg, ↓e_cmp, ↓e_chain, ↓e_isN, ↓e_not, ↓e_and, ↓e_or, ↓e_ife, ↓e_idx, ↓pt_nil, ↓e_slc, ↓e_rev, ↓e_call, ↓e_blt, ↓e_mth, ↓e_isin, ↓e_setlen, ↓cd_nil, ↓i_one, ↓t_t, ↓r_nil, ↓r_cons, ↓rr_nil, ↓rr_cons, ↓lp_n, ↓cd_con, ↓pt_con, ↓i_con, ↓cd_var, ↓pt_var, ↓i_var, ↓cd_glob, ↓pt_glob, ↓i_glob, ↓cd_tup, ↓pt_tup, ↓i_tup, ↓cd_lst, ↓pt_lst, ↓i_lst, ↓cd_bin, ↓pt_bin, ↓i_bin, ↓cd_neg, ↓pt_neg, ↓i_neg, ↓cd_cmp, ↓pt_cmp, ↓i_cmp, ↓cd_chain, ↓pt_chain, ↓i_chain, ↓cd_isN, ↓pt_isN, ↓i_isN, ↓cd_not, ↓pt_not, ↓i_not, ↓cd_and, ↓pt_and, ↓i_and, ↓cd_or, ↓pt_or, ↓i_or, ↓cd_ife, ↓pt_ife, ↓i_ife, ↓cd_idx, ↓pt_idx, ↓i_idx, ↓cd_slc, ↓pt_slc, ↓i_slc, ↓cd_rev, ↓pt_rev, ↓i_rev, ↓cd_call, ↓pt_call, ↓i_call, ↓cd_blt, ↓pt_blt, ↓i_blt, ↓cd_mth, ↓pt_mth, ↓i_mth, ↓cd_isin, ↓pt_isin, ↓i_isin, ↓cd_setlen, ↓pt_setlen, ↓i_setlen, ↓cd_lc, ↓pt_lc, ↓i_lc, s_seq, s_skip, s_pass, s_brk, s_cnt, s_retN, s_ret, s_ex, s_ite, s_ass, s_par, s_sub, s_app, s_frz, s_prm, e_con, e_glob, e_var, e_tup, e_lst, e_bin, e_neg, e_cmp, e_chain, e_isN, e_not, e_and, e_or, e_ife, e_idx, pt_nil, e_slc, e_rev, e_call, e_blt, e_mth, e_isin, e_setlen, cd_nil, i_one, t_t, r_nil, r_cons, rr_nil, rr_cons, lp_n, cd_con, pt_con, i_con, cd_var, pt_var, i_var, cd_glob, pt_glob, i_glob, cd_tup, pt_tup, i_tup, cd_lst, pt_lst, i_lst, cd_bin, pt_bin, i_bin, cd_neg, pt_neg, i_neg, cd_cmp, pt_cmp, i_cmp, cd_chain, pt_chain, i_chain, cd_isN, pt_isN, i_isN, cd_not, pt_not, i_not, cd_and, pt_and, i_and, cd_or, pt_or, i_or, cd_ife, pt_ife, i_ife, cd_idx, pt_idx, i_idx, cd_slc, pt_slc, i_slc, cd_rev, pt_rev, i_rev, cd_call, pt_call, i_call, cd_blt, pt_blt, i_blt, cd_mth, pt_mth, i_mth, cd_isin, pt_isin, i_isin, cd_setlen, pt_setlen, i_setlen, cd_lc, pt_lc, i_lc, ↓e_lc, ↓s_for, e_lc, s_for, nxt_nx, nxt_rt, nxt_bk, nxt_ct, rtK_p, exK_p, iteK_t, iteK_f, nxO_e, assK_p, parK_p, subK3_p, subK2_p, subK1_p, subK_p, nx2_p, appK1_p, appK_p, okK_t, forL_p, frzK_o, frzK_s, prmK_o, prmK_s, varK_s, varK_o, tupK_p, lstK_p, wiK_a, binK1_p, binK_p, negK_i, blK_b, cmpK1_p, cmpK_p, chainK_t, chainK_f, chK1_p, chK_p, isNK_p, nblK_b, notK_p, andK_t, andK_f, anK_p, orK_t, orK_f, oK_p, ifeK_t, ifeK_f, ifK_p, idxK1_p, idxK_p, siK_i, aiK_p, slcK2_p, slcK1_p, slcK_p, revK_p, callE_p, bltK_p, mthK1_p, mthK0_t, mthK_p, isinK_p, slnK1_p, slnK0_p, slnK_p, soK_v, giK_p, trK1_b, trK_p, elK_t, elK_f, lcK1_p, lcK_p, tuK_p, itK1_p, itK2_p, itK_p, coK_p, rcK1_p, rcK_p, crK_p, rrK_p, l_tup, l_lst, l_kl, l_fr, l_br, g_pv, g_fr, d_lst, d_fr, d_br, d_str, d_int, d_bl, d_non, d_tup, tr_bl, tr_int, tr_non, tr_str, n_non, n_int, n_str, n_tup, n_lst, n_bl, n_ref, x_tup, x_lst, x_kl, x_fr, x_br, a_v, a_t, gt_pv, gt_fr, as_v, as_tt, as_tl, as_n, as_c, o_rtp, o_rtf, o_rtb, o_nx, lpK_nx, lpK_ct, lpK_bk, lpK_rt, foK_e, forK_p, itm_tup, itm_lst, itm_kl, itm_fr, itm_br, itm_etup, itm_elst, itm_ekl, itm_efr, itm_ebr, itm_r1, itm_r2, at_nat, at_0, at_1, at_2, at_3, at_4, at_5, at_6, at_7, p_ii, p_ss, p_tt, p_ff, p_bf, p_lf, p_fl, p_ll, p_bl, p_sub, p_mulL, p_mulR, p_divP, p_modP, p_pow, c_lt, c_le, c_gt, c_ge, eqK1_v, eqK2_v, c_eq, c_ne, c_in, c_ni, inK_v, in_tup, in_lst, in_kl, in_fr, in_br, f_abs, f_int, f_lenS, f_lent, f_lenl, f_lenk, f_lenf, f_lenb, f_listk, f_listl, f_listt, f_listf, f_tupl, f_tupt, f_tupf, f_tupb, f_all, f_any, anyK_b, f_sort1, f_sort1f, mo_il, mo_ib, mo_ik, mo_if, mo_cl, mo_cb, mo_cf, ixK0_n, ixMK_v, m_il, m_ib, m_if, coMK_v, m_cl, m_cb, m_cf, apo_s, apoK_o, apoK_r, boK_l, ap_s, apK_o, apK_r, bxK_l, gu_c, gu_e, ok_non, ok_bl, ok_int, catK_s, catK_n, turK_p, tu_n, bo_n, bo_c, in_n, in_c, al_n, al_t, al_f, nu_n, refK_l, x_ref, setK1_m, setK_l, set_ref, ixn_20, ixn_21, ixn_31, ixn_30, ixn_32, sl_tup, sl_lst, sl_fr, sl_br, rv_lst, rv_fr, rv_br, asI_i, b_some, m_some, List.getElem?_cons_succ, List.getElem?_cons_zero, List.getElem?_nil, List.set_cons_succ, List.set_cons_zero, List.length_cons, List.length_nil, lim, Nat.reduceAdd, Nat.reduceLeDiff, Int.reduceLT, Nat.reduceLT, Nat.lt_add_left_iff_pos, E.isNil, wipeE, Nat.zero_lt_succ, if_true, if_false, Bool.true_bne, Bool.false_bne, bne_self_eq_false, Bool.not_true, Bool.not_false, Bool.not_not, Bool.bne_false, Bool.bne_true], ok, zn, zl, c3⟩
  | false => exact ⟨rs.reverse, h3, by simp only [k__law_rows, b__law_rows, w__law_rows_0, e__law_rows_0, l__law_rows_0, e1, lpF, e3, e0, hd, zl2, List.map_reverse, ↓s_seq, ↓s_skip, ↓s_pass, ↓s_brk, ↓s_cnt, ↓s_retN, ↓s_ret, ↓s_ex, ↓s_ite, ↓s_ass, ↓s_par, ↓s_sub, ↓s_app, ↓s_frz, ↓s_prm, ↓e_con, ↓e_glob, ↓e_var, ↓e_tup, ↓e_lst, ↓e_bin, ↓e_neg, ↓e_cmp, ↓e_chain, ↓e_isN, ↓e_not, ↓e_and, ↓e_or, ↓e_ife, ↓e_idx, ↓pt_nil, ↓e_slc, ↓e_rev, ↓e_call, ↓e_blt, ↓e_mth, ↓e_isin, ↓e_setlen, ↓cd_nil, ↓i_one, ↓t_t, ↓r_nil, ↓r_cons, ↓rr_nil, ↓rr_cons, ↓lp_n, ↓cd_con, ↓pt_con, ↓i_con, ↓cd_var, ↓pt_var, ↓i_var, ↓cd_glob, ↓pt_glob, ↓i_glob, ↓cd_tup, ↓pt_tup, ↓i_tup, ↓cd_lst, ↓pt_lst, ↓i_lst, ↓cd_bin, ↓pt_bin, ↓i_bin, ↓cd_neg, ↓pt_neg, ↓i_neg, ↓cd_cmp, ↓pt_cmp, ↓i_cmp, ↓cd_chain, ↓pt_chain, ↓i_chain, ↓cd_isN, ↓pt_isN, ↓i_isN, ↓cd_not, ↓pt_not, ↓i_not, ↓cd_and, ↓pt_and, ↓i_and, ↓cd_or, ↓pt_or, ↓i_or, ↓cd_ife, ↓pt_ife, ↓i_ife, ↓cd_idx, ↓pt_idx, ↓i_idx, ↓cd_slc, ↓pt_slc, ↓i_slc, ↓cd_rev, ↓pt_rev, ↓i_rev, ↓cd_call, ↓pt_call, ↓i_call, ↓cd_blt, ↓pt_blt, ↓i_blt, ↓cd_mth, ↓pt_mth, ↓i_mth, ↓cd_isin, ↓pt_isin, ↓i_isin, ↓cd_setlen, ↓pt_setlen, ↓i_setlen, ↓cd_lc, ↓pt_lc, ↓i_lc, s_seq, s_skip, s_pass, s_brk, s_cnt, s_retN, s_ret, s_ex, s_ite, s_ass, s_par, s_sub, s_app, s_frz, s_prm, e_con, e_glob, e_var, e_tup, e_lst, e_bin, e_neg, e_cmp, e_chain, e_isN, e_not, e_and, e_or, e_ife, e_idx, pt_nil, e_slc, e_rev, e_call, e_blt, e_mth, e_isin, e_setlen, cd_nil, i_one, t_t, r_nil, r_cons, rr_nil, rr_cons, lp_n, cd_con, pt_con, i_con, cd_var, pt_var, i_var, cd_glob, pt_glob, i_glob, cd_tup, pt_tup, i_tup, cd_lst, pt_lst, i_lst, cd_bin, pt_bin, i_bin, cd_neg, pt_neg, i_neg, cd_cmp, pt_cmp, i_cmp, cd_chain, pt_chain, i_chain, cd_isN, pt_isN, i_isN, cd_not, pt_not, i_not, cd_and, pt_and, i_and, cd_or, pt_or, i_or, cd_ife, pt_ife, i_ife, cd_idx, pt_idx, i_idx, cd_slc, pt_slc, i_slc, cd_rev, pt_rev, i_rev, cd_call, pt_call, i_call, cd_blt, pt_blt, i_blt, cd_mth, pt_mth, i_mth, cd_isin, pt_isin, i_isin, cd_setlen, pt_setlen, i_setlen, cd_lc, pt_lc, i_lc, ↓e_lc, ↓s_for, e_lc, s_for, nxt_nx, nxt_rt, nxt_bk, nxt_ct, rtK_p, exK_p, iteK_t, iteK_f, nxO_e, assK_p, parK_p, subK3_p, subK2_p, subK1_p, subK_p, nx2_p, appK1_p, appK_p, okK_t, forL_p, frzK_o, frzK_s, prmK_o, prmK_s, varK_s, varK_o, tupK_p, lstK_p, wiK_a, binK1_p, binK_p, negK_i, blK_b, cmpK1_p, cmpK_p, chainK_t, chainK_f, chK1_p, chK_p, isNK_p, nblK_b, notK_p, andK_t, andK_f, anK_p, orK_t, orK_f, oK_p, ifeK_t, ifeK_f, ifK_p, idxK1_p, idxK_p, siK_i, aiK_p, slcK2_p, slcK1_p, slcK_p, revK_p, callE_p, bltK_p, mthK1_p, mthK0_t, mthK_p, isinK_p, slnK1_p, slnK0_p, slnK_p, soK_v, giK_p, trK1_b, trK_p, elK_t, elK_f, lcK1_p, lcK_p, tuK_p, itK1_p, itK2_p, itK_p, coK_p, rcK1_p, rcK_p, crK_p, rrK_p, l_tup, l_lst, l_kl, l_fr, l_br, g_pv, g_fr, d_lst, d_fr, d_br, d_str, d_int, d_bl, d_non, d_tup, tr_bl, tr_int, tr_non, tr_str, n_non, n_int, n_str, n_tup, n_lst, n_bl, n_ref, x_tup, x_lst, x_kl, x_fr, x_br, a_v, a_t, gt_pv, gt_fr, as_v, as_tt, as_tl, as_n, as_c, o_rtp, o_rtf, o_rtb, o_nx, lpK_nx, lpK_ct, lpK_bk, lpK_rt, foK_e, forK_p, itm_tup, itm_lst, itm_kl, itm_fr, itm_br, itm_etup, itm_elst, itm_ekl, itm_efr, itm_ebr, itm_r1, itm_r2, at_nat, at_0, at_1, at_2, at_3, at_4, at_5, at_6, at_7, p_ii, p_ss, p_tt, p_ff, p_bf, p_lf, p_fl, p_ll, p_bl, p_sub, p_mulL, p_mulR, p_divP, p_modP, p_pow, c_lt, c_le, c_gt, c_ge, eqK1_v, eqK2_v, c_eq, c_ne, c_in, c_ni, inK_v, in_tup, in_lst, in_kl, in_fr, in_br, f_abs, f_int, f_lenS, f_lent, f_lenl, f_lenk, f_lenf, f_lenb, f_listk, f_listl, f_listt, f_listf, f_tupl, f_tupt, f_tupf, f_tupb, f_all, f_any, anyK_b, f_sort1, f_sort1f, mo_il, mo_ib, mo_ik, mo_if, mo_cl, mo_cb, mo_cf, ixK0_n, ixMK_v, m_il, m_ib, m_if, coMK_v, m_cl, m_cb, m_cf, apo_s, apoK_o, apoK_r, boK_l, ap_s, apK_o, apK_r, bxK_l, gu_c, gu_e, ok_non, ok_bl, ok_int, catK_s, catK_n, turK_p, tu_n, bo_n, bo_c, in_n, in_c, al_n, al_t, al_f, nu_n, refK_l, x_ref, setK1_m, setK_l, set_ref, ixn_20, ixn_21, ixn_31, ixn_30, ixn_32, sl_tup, sl_lst, sl_fr, sl_br, rv_lst, rv_fr, rv_br, asI_i, b_some, m_some, List.getElem?_cons_succ, List.getElem?_cons_zero, List.getElem?_nil, List.set_cons_succ, List.set_cons_zero, List.length_cons, List.length_nil, lim, Nat.reduceAdd, Nat.reduceLeDiff, Int.reduceLT, Nat.reduceLT, Nat.lt_add_left_iff_pos, E.isNil, wipeE, Nat.zero_lt_succ, if_true, if_false, Bool.true_bne, Bool.false_bne, bne_self_eq_false, Bool.not_true, Bool.not_false, Bool.not_not, Bool.bne_false, Bool.bne_true], fun r m => ok r (List.mem_reverse.mp m), by rw [List.map_reverse]; exact List.pairwise_reverse.mpr (zn.imp fun h => h.symm), by rw [List.length_reverse]; exact zl, c3⟩
end K57

set_option maxRecDepth 100000
set_option maxHeartbeats 1000000
namespace K57
open PySem Ev
/-! ### _law_word -/
def eA : List Str := ["a", "b", "c"]
def cnt (rs : List Row) (t : Str) : Nat := (rs.map (·.told)).countP (· == some t)
def lwas (rs : List Row) : Option Str → Bool
  | none => false
  | some t => !(eA.any (· == t)) || ((rs.any fun r => r.name == t) || decide (1 < cnt rs t))
def lword (rs : List Row) (f : Bool) (i : Nat) (r : Row) : Option Str :=
  if lwas rs r.told then some ("was" : Str)
  else if eA.any (· == key r) then (if pvEq r.kind ki then none else some ("type" : Str))
  else if f && decide (i = 0) then some ("new" : Str) else none
theorem sA_ok : sA.all (fun s => PyData.strOk s && decide (s.length = 1)) = true := by decide +kernel
theorem oA_ok : oA.all (fun o => match o with | none => true | some s => PyData.strOk s && decide (s.length = 1)) = true := by decide +kernel
theorem RowOk.good {r : Row} (h : RowOk r) : Good r := by
  refine ⟨?_, fun t e => ?_, ?_⟩
  · have := List.all_eq_true.mp sA_ok _ h.n
    simp only [Bool.and_eq_true] at this
    exact this.1
  · have := List.all_eq_true.mp oA_ok _ h.t
    rw [e] at this
    simp only [Bool.and_eq_true] at this
    exact this.1
  · rcases h.k with e | e <;> (rw [e]; decide +kernel)
theorem RowOk.one {r : Row} (h : RowOk r) {t : Str} (e : r.told = some t) : t.length = 1 := by
  have := List.all_eq_true.mp oA_ok _ h.t
  rw [e] at this
  simp only [Bool.and_eq_true, decide_eq_true_eq] at this
  exact this.2
theorem ok_eA : okD (.lst (eA.map PV.str)) = true := by decide +kernel
theorem ok_ki : okD ki = true := by decide +kernel
theorem any_eA {t : Str} : (eA.map PV.str).any (fun z => pvEq z (.str t)) = eA.any (· == t) := by
  rw [List.any_map]
  rfl
theorem any_nm {rs : List Row} {t : Str} : (rs.map fun e => PV.str e.name).any (fun z => pvEq z (.str t)) = rs.any fun r => r.name == t := by
  rw [List.any_map]
  rfl
theorem cnt_tp {rs : List Row} {t : Str} : (rs.map fun e => tp e.told).countP (fun z => pvEq z (.str t)) = cnt rs t := by
  unfold cnt
  rw [List.countP_map, List.countP_map]
  congr 1
  funext r
  exact tp_eq
theorem law_word_ok (k : Nat) (h : Hh) {rs : List Row} {r : Row} {i : Nat} {f : Bool} (hi : rs[i]? = some r) (hrs : ∀ r ∈ rs, RowOk r) (hl : rs.length ≤ 100) :
    callK G.ds (k + 1) 17 [.lst (eA.map PV.str), .lst (rs.map cell), .int i, .bl f] h = some (.pv (tp (lword rs f i r)), h) := by
  have ro := hrs r (List.mem_of_getElem? hi)
  have hx : L2.atI (rs.map cell) (i : Int) = some (cell r) := by
    rw [at_nat, List.getElem?_map, hi]; rfl
  have gd : ∀ r ∈ rs, Good r := fun r m => (hrs r m).good
  have h0 : ∀ s0 s1 s2 s3 s4 s5 s6 s7 : Sl, turns (lcK (callK G.ds k) [7] e__law_word_0 (.v 7) .nil [s0, s1, s2, s3, s4, s5, s6, s7]) (rs.map cell) h = some (rs.map fun e => tp e.told, h) := fun s0 s1 s2 s3 s4 s5 s6 s7 =>
    turns_all rs h fun e _ => by
      obtain ⟨nm, td, kd, re⟩ := e
      simp only [lcK_p, cell, e__law_word_0, ↓s_seq, ↓s_skip, ↓s_pass, ↓s_brk, ↓s_cnt, ↓s_retN, ↓s_ret, ↓s_ex, ↓s_ite, ↓s_ass, ↓s_par, ↓s_sub, ↓s_app, ↓s_frz, ↓s_prm, ↓e_con, ↓e_glob, ↓e_var, ↓e_tup, ↓e_lst, ↓e_bin, ↓e_neg, ↓e_cmp, ↓e_chain, ↓e_isN, ↓e_not, ↓e_and, ↓e_or, ↓e_ife, ↓e_idx, ↓pt_nil, ↓e_slc, ↓e_rev, ↓e_call, ↓e_blt, ↓e_mth, ↓e_isin, ↓e_setlen, ↓cd_nil, ↓i_one, ↓t_t, ↓r_nil, ↓r_cons, ↓rr_nil, ↓rr_cons, ↓lp_n, ↓lp_c, ↓cd_con, ↓pt_con, ↓i_con, ↓cd_var, ↓pt_var, ↓i_var, ↓cd_glob, ↓pt_glob, ↓i_glob, ↓cd_tup, ↓pt_tup, ↓i_tup, ↓cd_lst, ↓pt_lst, ↓i_lst, ↓cd_bin, ↓pt_bin, ↓i_bin, ↓cd_neg, ↓pt_neg, ↓i_neg, ↓cd_cmp, ↓pt_cmp, ↓i_cmp, ↓cd_chain, ↓pt_chain, ↓i_chain, ↓cd_isN, ↓pt_isN, ↓i_isN, ↓cd_not, ↓pt_not, ↓i_not, ↓cd_and, ↓pt_and, ↓i_and, ↓cd_or, ↓pt_or, ↓i_or, ↓cd_ife, ↓pt_ife, ↓i_ife, ↓cd_idx, ↓pt_idx, ↓i_idx, ↓cd_slc, ↓pt_slc, ↓i_slc, ↓cd_rev, ↓pt_rev, ↓i_rev, ↓cd_call, ↓pt_call, ↓i_call, ↓cd_blt, ↓pt_blt, ↓i_blt, ↓cd_mth, ↓pt_mth, ↓i_mth, ↓cd_isin, ↓pt_isin, ↓i_isin, ↓cd_setlen, ↓pt_setlen, ↓i_setlen, ↓cd_lc, ↓pt_lc, ↓i_lc, s_seq, s_skip, s_pass, s_brk, s_cnt, s_retN, s_ret, s_ex, s_ite, s_ass, s_par, s_sub, s_app, s_frz, s_prm, e_con, e_glob, e_var, e_tup, e_lst, e_bin, e_neg, e_cmp, e_chain, e_isN, e_not, e_and, e_or, e_ife, e_idx, pt_nil, e_slc, e_rev, e_call, e_blt, e_mth, e_isin, e_setlen, cd_nil, i_one, t_t, r_nil, r_cons, rr_nil, rr_cons, lp_n, lp_c, cd_con, pt_con, i_con, cd_var, pt_var, i_var, cd_glob, pt_glob, i_glob, cd_tup, pt_tup, i_tup, cd_lst, pt_lst, i_lst, cd_bin, pt_bin, i_bin, cd_neg, pt_neg, i_neg, cd_cmp, pt_cmp, i_cmp, cd_chain, pt_chain, i_chain, cd_isN, pt_isN, i_isN, cd_not, pt_not, i_not, cd_and, pt_and, i_and, cd_or, pt_or, i_or, cd_ife, pt_ife, i_ife, cd_idx, pt_idx, i_idx, cd_slc, pt_slc, i_slc, cd_rev, pt_rev, i_rev, cd_call, pt_call, i_call, cd_blt, pt_blt, i_blt, cd_mth, pt_mth, i_mth, cd_isin, pt_isin, i_isin, cd_setlen, pt_setlen, i_setlen, cd_lc, pt_lc, i_lc, ↓e_lc, ↓s_for, e_lc, s_for, nxt_nx, nxt_rt, nxt_bk, nxt_ct, rtK_p, exK_p, iteK_t, iteK_f, nxO_e, assK_p, parK_p, subK3_p, subK2_p, subK1_p, subK_p, nx2_p, appK1_p, appK_p, okK_t, forL_p, frzK_o, frzK_s, prmK_o, prmK_s, varK_s, varK_o, tupK_p, lstK_p, wiK_a, binK1_p, binK_p, negK_i, blK_b, cmpK1_p, cmpK_p, chainK_t, chainK_f, chK1_p, chK_p, isNK_p, nblK_b, notK_p, andK_t, andK_f, anK_p, orK_t, orK_f, oK_p, ifeK_t, ifeK_f, ifK_p, idxK1_p, idxK_p, siK_i, aiK_p, slcK2_p, slcK1_p, slcK_p, revK_p, callE_p, bltK_p, mthK1_p, mthK0_t, mthK_p, isinK_p, slnK1_p, slnK0_p, slnK_p, soK_v, giK_p, trK1_b, trK_p, elK_t, elK_f, lcK1_p, lcK_p, tuK_p, itK1_p, itK2_p, itK_p, coK_p, rcK1_p, rcK_p, crK_p, rrK_p, l_tup, l_lst, l_kl, l_fr, l_br, g_pv, g_fr, d_lst, d_fr, d_br, d_str, d_int, d_bl, d_non, d_tup, tr_bl, tr_int, tr_non, tr_str, n_non, n_int, n_str, n_tup, n_lst, n_bl, n_ref, x_tup, x_lst, x_kl, x_fr, x_br, a_v, a_t, gt_pv, gt_fr, as_v, as_tt, as_tl, as_n, as_c, o_rtp, o_rtf, o_rtb, o_nx, lpK_nx, lpK_ct, lpK_bk, lpK_rt, foK_e, forK_p, itm_tup, itm_lst, itm_kl, itm_fr, itm_br, itm_etup, itm_elst, itm_ekl, itm_efr, itm_ebr, itm_r1, itm_r2, at_nat, at_0, at_1, at_2, at_3, at_4, at_5, at_6, at_7, p_ii, p_ss, p_tt, p_ff, p_bf, p_lf, p_fl, p_ll, p_bl, p_sub, p_mulL, p_mulR, p_divP, p_modP, p_pow, c_lt, c_le, c_gt, c_ge, eqK1_v, eqK2_v, c_eq, c_ne, c_in, c_ni, inK_v, in_tup, in_lst, in_kl, in_fr, in_br, f_abs, f_int, f_lenS, f_lent, f_lenl, f_lenk, f_lenf, f_lenb, f_listk, f_listl, f_listt, f_listf, f_tupl, f_tupt, f_tupf, f_tupb, f_all, f_any, anyK_b, f_sort1, f_sort1f, mo_il, mo_ib, mo_ik, mo_if, mo_cl, mo_cb, mo_cf, ixK0_n, ixMK_v, m_il, m_ib, m_if, coMK_v, m_cl, m_cb, m_cf, apo_s, apoK_o, apoK_r, boK_l, ap_s, apK_o, apK_r, bxK_l, gu_c, gu_e, ok_non, ok_bl, ok_int, catK_s, catK_n, turK_p, tu_n, tu_c, bo_n, bo_c, in_n, in_c, al_n, al_t, al_f, nu_n, nu_c, refK_l, x_ref, setK1_m, setK_l, set_ref, ixn_20, ixn_21, ixn_31, ixn_30, ixn_32, sl_tup, sl_lst, sl_fr, sl_br, rv_lst, rv_fr, rv_br, asI_i, b_some, m_some, List.getElem?_cons_succ, List.getElem?_cons_zero, List.getElem?_nil, List.set_cons_succ, List.set_cons_zero, List.length_cons, List.length_nil, lim, Nat.reduceAdd, Nat.reduceLeDiff, Int.reduceLT, Nat.reduceLT, Nat.lt_add_left_iff_pos, E.isNil, wipeE, Nat.zero_lt_succ, if_true, if_false, Bool.true_bne, Bool.false_bne, bne_self_eq_false, Bool.not_true, Bool.not_false, Bool.not_not, Bool.bne_false, Bool.bne_true]
  have h1 : ∀ s0 s1 s2 s3 s4 s5 s6 s7 : Sl, turns (lcK (callK G.ds k) [7] e__law_word_1 (.v 7) .nil [s0, s1, s2, s3, s4, s5, s6, s7]) (rs.map cell) h = some (rs.map fun e => PV.str e.name, h) := fun s0 s1 s2 s3 s4 s5 s6 s7 =>
    turns_all rs h fun e _ => by
      obtain ⟨nm, td, kd, re⟩ := e
      simp only [lcK_p, cell, e__law_word_1, ↓s_seq, ↓s_skip, ↓s_pass, ↓s_brk, ↓s_cnt, ↓s_retN, ↓s_ret, ↓s_ex, ↓s_ite, ↓s_ass, ↓s_par, ↓s_sub, ↓s_app, ↓s_frz, ↓s_prm, ↓e_con, ↓e_glob, ↓e_var, ↓e_tup, ↓e_lst, ↓e_bin, ↓e_neg, ↓e_cmp, ↓e_chain, ↓e_isN, ↓e_not, ↓e_and, ↓e_or, ↓e_ife, ↓e_idx, ↓pt_nil, ↓e_slc, ↓e_rev, ↓e_call, ↓e_blt, ↓e_mth, ↓e_isin, ↓e_setlen, ↓cd_nil, ↓i_one, ↓t_t, ↓r_nil, ↓r_cons, ↓rr_nil, ↓rr_cons, ↓lp_n, ↓lp_c, ↓cd_con, ↓pt_con, ↓i_con, ↓cd_var, ↓pt_var, ↓i_var, ↓cd_glob, ↓pt_glob, ↓i_glob, ↓cd_tup, ↓pt_tup, ↓i_tup, ↓cd_lst, ↓pt_lst, ↓i_lst, ↓cd_bin, ↓pt_bin, ↓i_bin, ↓cd_neg, ↓pt_neg, ↓i_neg, ↓cd_cmp, ↓pt_cmp, ↓i_cmp, ↓cd_chain, ↓pt_chain, ↓i_chain, ↓cd_isN, ↓pt_isN, ↓i_isN, ↓cd_not, ↓pt_not, ↓i_not, ↓cd_and, ↓pt_and, ↓i_and, ↓cd_or, ↓pt_or, ↓i_or, ↓cd_ife, ↓pt_ife, ↓i_ife, ↓cd_idx, ↓pt_idx, ↓i_idx, ↓cd_slc, ↓pt_slc, ↓i_slc, ↓cd_rev, ↓pt_rev, ↓i_rev, ↓cd_call, ↓pt_call, ↓i_call, ↓cd_blt, ↓pt_blt, ↓i_blt, ↓cd_mth, ↓pt_mth, ↓i_mth, ↓cd_isin, ↓pt_isin, ↓i_isin, ↓cd_setlen, ↓pt_setlen, ↓i_setlen, ↓cd_lc, ↓pt_lc, ↓i_lc, s_seq, s_skip, s_pass, s_brk, s_cnt, s_retN, s_ret, s_ex, s_ite, s_ass, s_par, s_sub, s_app, s_frz, s_prm, e_con, e_glob, e_var, e_tup, e_lst, e_bin, e_neg, e_cmp, e_chain, e_isN, e_not, e_and, e_or, e_ife, e_idx, pt_nil, e_slc, e_rev, e_call, e_blt, e_mth, e_isin, e_setlen, cd_nil, i_one, t_t, r_nil, r_cons, rr_nil, rr_cons, lp_n, lp_c, cd_con, pt_con, i_con, cd_var, pt_var, i_var, cd_glob, pt_glob, i_glob, cd_tup, pt_tup, i_tup, cd_lst, pt_lst, i_lst, cd_bin, pt_bin, i_bin, cd_neg, pt_neg, i_neg, cd_cmp, pt_cmp, i_cmp, cd_chain, pt_chain, i_chain, cd_isN, pt_isN, i_isN, cd_not, pt_not, i_not, cd_and, pt_and, i_and, cd_or, pt_or, i_or, cd_ife, pt_ife, i_ife, cd_idx, pt_idx, i_idx, cd_slc, pt_slc, i_slc, cd_rev, pt_rev, i_rev, cd_call, pt_call, i_call, cd_blt, pt_blt, i_blt, cd_mth, pt_mth, i_mth, cd_isin, pt_isin, i_isin, cd_setlen, pt_setlen, i_setlen, cd_lc, pt_lc, i_lc, ↓e_lc, ↓s_for, e_lc, s_for, nxt_nx, nxt_rt, nxt_bk, nxt_ct, rtK_p, exK_p, iteK_t, iteK_f, nxO_e, assK_p, parK_p, subK3_p, subK2_p, subK1_p, subK_p, nx2_p, appK1_p, appK_p, okK_t, forL_p, frzK_o, frzK_s, prmK_o, prmK_s, varK_s, varK_o, tupK_p, lstK_p, wiK_a, binK1_p, binK_p, negK_i, blK_b, cmpK1_p, cmpK_p, chainK_t, chainK_f, chK1_p, chK_p, isNK_p, nblK_b, notK_p, andK_t, andK_f, anK_p, orK_t, orK_f, oK_p, ifeK_t, ifeK_f, ifK_p, idxK1_p, idxK_p, siK_i, aiK_p, slcK2_p, slcK1_p, slcK_p, revK_p, callE_p, bltK_p, mthK1_p, mthK0_t, mthK_p, isinK_p, slnK1_p, slnK0_p, slnK_p, soK_v, giK_p, trK1_b, trK_p, elK_t, elK_f, lcK1_p, lcK_p, tuK_p, itK1_p, itK2_p, itK_p, coK_p, rcK1_p, rcK_p, crK_p, rrK_p, l_tup, l_lst, l_kl, l_fr, l_br, g_pv, g_fr, d_lst, d_fr, d_br, d_str, d_int, d_bl, d_non, d_tup, tr_bl, tr_int, tr_non, tr_str, n_non, n_int, n_str, n_tup, n_lst, n_bl, n_ref, x_tup, x_lst, x_kl, x_fr, x_br, a_v, a_t, gt_pv, gt_fr, as_v, as_tt, as_tl, as_n, as_c, o_rtp, o_rtf, o_rtb, o_nx, lpK_nx, lpK_ct, lpK_bk, lpK_rt, foK_e, forK_p, itm_tup, itm_lst, itm_kl, itm_fr, itm_br, itm_etup, itm_elst, itm_ekl, itm_efr, itm_ebr, itm_r1, itm_r2, at_nat, at_0, at_1, at_2, at_3, at_4, at_5, at_6, at_7, p_ii, p_ss, p_tt, p_ff, p_bf, p_lf, p_fl, p_ll, p_bl, p_sub, p_mulL, p_mulR, p_divP, p_modP, p_pow, c_lt, c_le, c_gt, c_ge, eqK1_v, eqK2_v, c_eq, c_ne, c_in, c_ni, inK_v, in_tup, in_lst, in_kl, in_fr, in_br, f_abs, f_int, f_lenS, f_lent, f_lenl, f_lenk, f_lenf, f_lenb, f_listk, f_listl, f_listt, f_listf, f_tupl, f_tupt, f_tupf, f_tupb, f_all, f_any, anyK_b, f_sort1, f_sort1f, mo_il, mo_ib, mo_ik, mo_if, mo_cl, mo_cb, mo_cf, ixK0_n, ixMK_v, m_il, m_ib, m_if, coMK_v, m_cl, m_cb, m_cf, apo_s, apoK_o, apoK_r, boK_l, ap_s, apK_o, apK_r, bxK_l, gu_c, gu_e, ok_non, ok_bl, ok_int, catK_s, catK_n, turK_p, tu_n, tu_c, bo_n, bo_c, in_n, in_c, al_n, al_t, al_f, nu_n, nu_c, refK_l, x_ref, setK1_m, setK_l, set_ref, ixn_20, ixn_21, ixn_31, ixn_30, ixn_32, sl_tup, sl_lst, sl_fr, sl_br, rv_lst, rv_fr, rv_br, asI_i, b_some, m_some, List.getElem?_cons_succ, List.getElem?_cons_zero, List.getElem?_nil, List.set_cons_succ, List.set_cons_zero, List.length_cons, List.length_nil, lim, Nat.reduceAdd, Nat.reduceLeDiff, Int.reduceLT, Nat.reduceLT, Nat.lt_add_left_iff_pos, E.isNil, wipeE, Nat.zero_lt_succ, if_true, if_false, Bool.true_bne, Bool.false_bne, bne_self_eq_false, Bool.not_true, Bool.not_false, Bool.not_not, Bool.bne_false, Bool.bne_true]
  have l0 : (rs.map fun e => tp e.told).length ≤ 16777216 := by rw [List.length_map]; omega
  have l1 : (rs.map fun e => PV.str e.name).length ≤ 16777216 := by rw [List.length_map]; omega
  have ot : okD (.lst (rs.map fun e => tp e.told)) = true := by
    have := ok_tps (os := rs.map (·.told)) fun o mo t e => by
      obtain ⟨r, m, rfl⟩ := List.mem_map.mp mo
      exact (gd r m).t t e
    rw [List.map_map] at this
    exact this
  have on := ok_names gd
  have gr := ro.good
  have k2 := dat_ok (h := h) gr.k
  have k1 := gr.k
  have ei : pvEq (.int (i : Int)) (.int 0) = decide (i = 0) := by
    show ((i : Int) == 0) = _
    by_cases c : i = 0
    · subst c; rfl
    · simp only [c, decide_false, beq_eq_false_iff_ne]; omega
  have one : ∀ t, r.told = some t → t.length = 1 := fun t e => ro.one e
  have oki := ok_ki
  have dki : R.dat h (.pv ki) = some ki := rfl
  obtain ⟨nm, td, kd, re⟩ := r
  obtain rfl : re = [] := ro.e
  simp only at k1 k2
  have onm : okD (.str nm) = true := ok_str gr.n
  unfold ki at oki dki
  -- the end: behind the first test
  cases td with
  | none =>
    have hk : key ⟨nm, none, kd, []⟩ = nm := rfl
    simp only [k__law_word, b__law_word, hx, cell, tp_n, any_eA, ok_eA, onm, ↓s_seq, ↓s_skip, ↓s_pass, ↓s_brk, ↓s_cnt, ↓s_retN, ↓s_ret, ↓s_ex, ↓s_ite, ↓s_ass, ↓s_par, ↓s_sub, ↓s_app, ↓s_frz, ↓s_prm, ↓e_con, ↓e_glob, ↓e_var, ↓e_tup, ↓e_lst, ↓e_bin, ↓e_neg, ↓e_cmp, ↓e_chain, ↓e_isN, ↓e_not, ↓e_and, ↓e_or, ↓e_ife, ↓e_idx, ↓pt_nil, ↓e_slc, ↓e_rev, ↓e_call, ↓e_blt, ↓e_mth, ↓e_isin, ↓e_setlen, ↓cd_nil, ↓i_one, ↓t_t, ↓r_nil, ↓r_cons, ↓rr_nil, ↓rr_cons, ↓lp_n, ↓lp_c, ↓cd_con, ↓pt_con, ↓i_con, ↓cd_var, ↓pt_var, ↓i_var, ↓cd_glob, ↓pt_glob, ↓i_glob, ↓cd_tup, ↓pt_tup, ↓i_tup, ↓cd_lst, ↓pt_lst, ↓i_lst, ↓cd_bin, ↓pt_bin, ↓i_bin, ↓cd_neg, ↓pt_neg, ↓i_neg, ↓cd_cmp, ↓pt_cmp, ↓i_cmp, ↓cd_chain, ↓pt_chain, ↓i_chain, ↓cd_isN, ↓pt_isN, ↓i_isN, ↓cd_not, ↓pt_not, ↓i_not, ↓cd_and, ↓pt_and, ↓i_and, ↓cd_or, ↓pt_or, ↓i_or, ↓cd_ife, ↓pt_ife, ↓i_ife, ↓cd_idx, ↓pt_idx, ↓i_idx, ↓cd_slc, ↓pt_slc, ↓i_slc, ↓cd_rev, ↓pt_rev, ↓i_rev, ↓cd_call, ↓pt_call, ↓i_call, ↓cd_blt, ↓pt_blt, ↓i_blt, ↓cd_mth, ↓pt_mth, ↓i_mth, ↓cd_isin, ↓pt_isin, ↓i_isin, ↓cd_setlen, ↓pt_setlen, ↓i_setlen, ↓cd_lc, ↓pt_lc, ↓i_lc, s_seq, s_skip, s_pass, s_brk, s_cnt, s_retN, s_ret, s_ex, s_ite, s_ass, s_par, s_sub, s_app, s_frz, s_prm, e_con, e_glob, e_var, e_tup, e_lst, e_bin, e_neg, e_cmp, e_chain, e_isN, e_not, e_and, e_or, e_ife, e_idx, pt_nil, e_slc, e_rev, e_call, e_blt, e_mth, e_isin, e_setlen, cd_nil, i_one, t_t, r_nil, r_cons, rr_nil, rr_cons, lp_n, lp_c, cd_con, pt_con, i_con, cd_var, pt_var, i_var, cd_glob, pt_glob, i_glob, cd_tup, pt_tup, i_tup, cd_lst, pt_lst, i_lst, cd_bin, pt_bin, i_bin, cd_neg, pt_neg, i_neg, cd_cmp, pt_cmp, i_cmp, cd_chain, pt_chain, i_chain, cd_isN, pt_isN, i_isN, cd_not, pt_not, i_not, cd_and, pt_and, i_and, cd_or, pt_or, i_or, cd_ife, pt_ife, i_ife, cd_idx, pt_idx, i_idx, cd_slc, pt_slc, i_slc, cd_rev, pt_rev, i_rev, cd_call, pt_call, i_call, cd_blt, pt_blt, i_blt, cd_mth, pt_mth, i_mth, cd_isin, pt_isin, i_isin, cd_setlen, pt_setlen, i_setlen, cd_lc, pt_lc, i_lc, ↓e_lc, ↓s_for, e_lc, s_for, nxt_nx, nxt_rt, nxt_bk, nxt_ct, rtK_p, exK_p, iteK_t, iteK_f, nxO_e, assK_p, parK_p, subK3_p, subK2_p, subK1_p, subK_p, nx2_p, appK1_p, appK_p, okK_t, forL_p, frzK_o, frzK_s, prmK_o, prmK_s, varK_s, varK_o, tupK_p, lstK_p, wiK_a, binK1_p, binK_p, negK_i, blK_b, cmpK1_p, cmpK_p, chainK_t, chainK_f, chK1_p, chK_p, isNK_p, nblK_b, notK_p, andK_t, andK_f, anK_p, orK_t, orK_f, oK_p, ifeK_t, ifeK_f, ifK_p, idxK1_p, idxK_p, siK_i, aiK_p, slcK2_p, slcK1_p, slcK_p, revK_p, callE_p, bltK_p, mthK1_p, mthK0_t, mthK_p, isinK_p, slnK1_p, slnK0_p, slnK_p, soK_v, giK_p, trK1_b, trK_p, elK_t, elK_f, lcK1_p, lcK_p, tuK_p, itK1_p, itK2_p, itK_p, coK_p, rcK1_p, rcK_p, crK_p, rrK_p, l_tup, l_lst, l_kl, l_fr, l_br, g_pv, g_fr, d_lst, d_fr, d_br, d_str, d_int, d_bl, d_non, d_tup, tr_bl, tr_int, tr_non, tr_str, n_non, n_int, n_str, n_tup, n_lst, n_bl, n_ref, x_tup, x_lst, x_kl, x_fr, x_br, a_v, a_t, gt_pv, gt_fr, as_v, as_tt, as_tl, as_n, as_c, o_rtp, o_rtf, o_rtb, o_nx, lpK_nx, lpK_ct, lpK_bk, lpK_rt, foK_e, forK_p, itm_tup, itm_lst, itm_kl, itm_fr, itm_br, itm_etup, itm_elst, itm_ekl, itm_efr, itm_ebr, itm_r1, itm_r2, at_nat, at_0, at_1, at_2, at_3, at_4, at_5, at_6, at_7, p_ii, p_ss, p_tt, p_ff, p_bf, p_lf, p_fl, p_ll, p_bl, p_sub, p_mulL, p_mulR, p_divP, p_modP, p_pow, c_lt, c_le, c_gt, c_ge, eqK1_v, eqK2_v, c_eq, c_ne, c_in, c_ni, inK_v, in_tup, in_lst, in_kl, in_fr, in_br, f_abs, f_int, f_lenS, f_lent, f_lenl, f_lenk, f_lenf, f_lenb, f_listk, f_listl, f_listt, f_listf, f_tupl, f_tupt, f_tupf, f_tupb, f_all, f_any, anyK_b, f_sort1, f_sort1f, mo_il, mo_ib, mo_ik, mo_if, mo_cl, mo_cb, mo_cf, ixK0_n, ixMK_v, m_il, m_ib, m_if, coMK_v, m_cl, m_cb, m_cf, apo_s, apoK_o, apoK_r, boK_l, ap_s, apK_o, apK_r, bxK_l, gu_c, gu_e, ok_non, ok_bl, ok_int, catK_s, catK_n, turK_p, tu_n, tu_c, bo_n, bo_c, in_n, in_c, al_n, al_t, al_f, nu_n, nu_c, refK_l, x_ref, setK1_m, setK_l, set_ref, ixn_20, ixn_21, ixn_31, ixn_30, ixn_32, sl_tup, sl_lst, sl_fr, sl_br, rv_lst, rv_fr, rv_br, asI_i, b_some, m_some, List.getElem?_cons_succ, List.getElem?_cons_zero, List.getElem?_nil, List.set_cons_succ, List.set_cons_zero, List.length_cons, List.length_nil, lim, Nat.reduceAdd, Nat.reduceLeDiff, Int.reduceLT, Nat.reduceLT, Nat.lt_add_left_iff_pos, E.isNil, wipeE, Nat.zero_lt_succ, if_true, if_false, Bool.true_bne, Bool.false_bne, bne_self_eq_false, Bool.not_true, Bool.not_false, Bool.not_not, Bool.bne_false, Bool.bne_true]
    cases hA : eA.any (· == nm) with
    | true =>
      cases hB : pvEq kd ki with
      | true =>
        have e : lword rs f i ⟨nm, none, kd, []⟩ = none := by simp only [lword, lwas, hk, hA, hB]; rfl
        unfold ki at hB
        simp only [hB, k1, k2, oki, dki, e, tp_n, ↓s_seq, ↓s_skip, ↓s_pass, ↓s_brk, ↓s_cnt, ↓s_retN, ↓s_ret, ↓s_ex, ↓s_ite, ↓s_ass, ↓s_par, ↓s_sub, ↓s_app, ↓s_frz, ↓s_prm, ↓e_con, ↓e_glob, ↓e_var, ↓e_tup, ↓e_lst, ↓e_bin, ↓e_neg, ↓e_cmp, ↓e_chain, ↓e_isN, ↓e_not, ↓e_and, ↓e_or, ↓e_ife, ↓e_idx, ↓pt_nil, ↓e_slc, ↓e_rev, ↓e_call, ↓e_blt, ↓e_mth, ↓e_isin, ↓e_setlen, ↓cd_nil, ↓i_one, ↓t_t, ↓r_nil, ↓r_cons, ↓rr_nil, ↓rr_cons, ↓lp_n, ↓lp_c, ↓cd_con, ↓pt_con, ↓i_con, ↓cd_var, ↓pt_var, ↓i_var, ↓cd_glob, ↓pt_glob, ↓i_glob, ↓cd_tup, ↓pt_tup, ↓i_tup, ↓cd_lst, ↓pt_lst, ↓i_lst, ↓cd_bin, ↓pt_bin, ↓i_bin, ↓cd_neg, ↓pt_neg, ↓i_neg, ↓cd_cmp, ↓pt_cmp, ↓i_cmp, ↓cd_chain, ↓pt_chain, ↓i_chain, ↓cd_isN, ↓pt_isN, ↓i_isN, ↓cd_not, ↓pt_not, ↓i_not, ↓cd_and, ↓pt_and, ↓i_and, ↓cd_or, ↓pt_or, ↓i_or, ↓cd_ife, ↓pt_ife, ↓i_ife, ↓cd_idx, ↓pt_idx, ↓i_idx, ↓cd_slc, ↓pt_slc, ↓i_slc, ↓cd_rev, ↓pt_rev, ↓i_rev, ↓cd_call, ↓pt_call, ↓i_call, ↓cd_blt, ↓pt_blt, ↓i_blt, ↓cd_mth, ↓pt_mth, ↓i_mth, ↓cd_isin, ↓pt_isin, ↓i_isin, ↓cd_setlen, ↓pt_setlen, ↓i_setlen, ↓cd_lc, ↓pt_lc, ↓i_lc, s_seq, s_skip, s_pass, s_brk, s_cnt, s_retN, s_ret, s_ex, s_ite, s_ass, s_par, s_sub, s_app, s_frz, s_prm, e_con, e_glob, e_var, e_tup, e_lst, e_bin, e_neg, e_cmp, e_chain, e_isN, e_not, e_and, e_or, e_ife, e_idx, pt_nil, e_slc, e_rev, e_call, e_blt, e_mth, e_isin, e_setlen, cd_nil, i_one, t_t, r_nil, r_cons, rr_nil, rr_cons, lp_n, lp_c, cd_con, pt_con, i_con, cd_var, pt_var, i_var, cd_glob, pt_glob, i_glob, cd_tup, pt_tup, i_tup, cd_lst, pt_lst, i_lst, cd_bin, pt_bin, i_bin, cd_neg, pt_neg, i_neg, cd_cmp, pt_cmp, i_cmp, cd_chain, pt_chain, i_chain, cd_isN, pt_isN, i_isN, cd_not, pt_not, i_not, cd_and, pt_and, i_and, cd_or, pt_or, i_or, cd_ife, pt_ife, i_ife, cd_idx, pt_idx, i_idx, cd_slc, pt_slc, i_slc, cd_rev, pt_rev, i_rev, cd_call, pt_call, i_call, cd_blt, pt_blt, i_blt, cd_mth, pt_mth, i_mth, cd_isin, pt_isin, i_isin, cd_setlen, pt_setlen, i_setlen, cd_lc, pt_lc, i_lc, ↓e_lc, ↓s_for, e_lc, s_for, nxt_nx, nxt_rt, nxt_bk, nxt_ct, rtK_p, exK_p, iteK_t, iteK_f, nxO_e, assK_p, parK_p, subK3_p, subK2_p, subK1_p, subK_p, nx2_p, appK1_p, appK_p, okK_t, forL_p, frzK_o, frzK_s, prmK_o, prmK_s, varK_s, varK_o, tupK_p, lstK_p, wiK_a, binK1_p, binK_p, negK_i, blK_b, cmpK1_p, cmpK_p, chainK_t, chainK_f, chK1_p, chK_p, isNK_p, nblK_b, notK_p, andK_t, andK_f, anK_p, orK_t, orK_f, oK_p, ifeK_t, ifeK_f, ifK_p, idxK1_p, idxK_p, siK_i, aiK_p, slcK2_p, slcK1_p, slcK_p, revK_p, callE_p, bltK_p, mthK1_p, mthK0_t, mthK_p, isinK_p, slnK1_p, slnK0_p, slnK_p, soK_v, giK_p, trK1_b, trK_p, elK_t, elK_f, lcK1_p, lcK_p, tuK_p, itK1_p, itK2_p, itK_p, coK_p, rcK1_p, rcK_p, crK_p, rrK_p, l_tup, l_lst, l_kl, l_fr, l_br, g_pv, g_fr, d_lst, d_fr, d_br, d_str, d_int, d_bl, d_non, d_tup, tr_bl, tr_int, tr_non, tr_str, n_non, n_int, n_str, n_tup, n_lst, n_bl, n_ref, x_tup, x_lst, x_kl, x_fr, x_br, a_v, a_t, gt_pv, gt_fr, as_v, as_tt, as_tl, as_n, as_c, o_rtp, o_rtf, o_rtb, o_nx, lpK_nx, lpK_ct, lpK_bk, lpK_rt, foK_e, forK_p, itm_tup, itm_lst, itm_kl, itm_fr, itm_br, itm_etup, itm_elst, itm_ekl, itm_efr, itm_ebr, itm_r1, itm_r2, at_nat, at_0, at_1, at_2, at_3, at_4, at_5, at_6, at_7, p_ii, p_ss, p_tt, p_ff, p_bf, p_lf, p_fl, p_ll, p_bl, p_sub, p_mulL, p_mulR, p_divP, p_modP, p_pow, c_lt, c_le, c_gt, c_ge, eqK1_v, eqK2_v, c_eq, c_ne, c_in, c_ni, inK_v, in_tup, in_lst, in_kl, in_fr, in_br, f_abs, f_int, f_lenS, f_lent, f_lenl, f_lenk, f_lenf, f_lenb, f_listk, f_listl, f_listt, f_listf, f_tupl, f_tupt, f_tupf, f_tupb, f_all, f_any, anyK_b, f_sort1, f_sort1f, mo_il, mo_ib, mo_ik, mo_if, mo_cl, mo_cb, mo_cf, ixK0_n, ixMK_v, m_il, m_ib, m_if, coMK_v, m_cl, m_cb, m_cf, apo_s, apoK_o, apoK_r, boK_l, ap_s, apK_o, apK_r, bxK_l, gu_c, gu_e, ok_non, ok_bl, ok_int, catK_s, catK_n, turK_p, tu_n, tu_c, bo_n, bo_c, in_n, in_c, al_n, al_t, al_f, nu_n, nu_c, refK_l, x_ref, setK1_m, setK_l, set_ref, ixn_20, ixn_21, ixn_31, ixn_30, ixn_32, sl_tup, sl_lst, sl_fr, sl_br, rv_lst, rv_fr, rv_br, asI_i, b_some, m_some, List.getElem?_cons_succ, List.getElem?_cons_zero, List.getElem?_nil, List.set_cons_succ, List.set_cons_zero, List.length_cons, List.length_nil, lim, Nat.reduceAdd, Nat.reduceLeDiff, Int.reduceLT, Nat.reduceLT, Nat.lt_add_left_iff_pos, E.isNil, wipeE, Nat.zero_lt_succ, if_true, if_false, Bool.true_bne, Bool.false_bne, bne_self_eq_false, Bool.not_true, Bool.not_false, Bool.not_not, Bool.bne_false, Bool.bne_true]
      | false =>
        have e : lword rs f i ⟨nm, none, kd, []⟩ = some ("type" : Str) := by simp only [lword, lwas, hk, hA, hB]; rfl
        unfold ki at hB
        simp only [hB, k1, k2, oki, dki, e, tp_s, ↓s_seq, ↓s_skip, ↓s_pass, ↓s_brk, ↓s_cnt, ↓s_retN, ↓s_ret, ↓s_ex, ↓s_ite, ↓s_ass, ↓s_par, ↓s_sub, ↓s_app, ↓s_frz, ↓s_prm, ↓e_con, ↓e_glob, ↓e_var, ↓e_tup, ↓e_lst, ↓e_bin, ↓e_neg, ↓e_cmp, ↓e_chain, ↓e_isN, ↓e_not, ↓e_and, ↓e_or, ↓e_ife, ↓e_idx, ↓pt_nil, ↓e_slc, ↓e_rev, ↓e_call, ↓e_blt, ↓e_mth, ↓e_isin, ↓e_setlen, ↓cd_nil, ↓i_one, ↓t_t, ↓r_nil, ↓r_cons, ↓rr_nil, ↓rr_cons, ↓lp_n, ↓lp_c, ↓cd_con, ↓pt_con, ↓i_con, ↓cd_var, ↓pt_var, ↓i_var, ↓cd_glob, ↓pt_glob, ↓i_glob, ↓cd_tup, ↓pt_tup, ↓i_tup, ↓cd_lst, ↓pt_lst, ↓i_lst, ↓cd_bin, ↓pt_bin, ↓i_bin, ↓cd_neg, ↓pt_neg, ↓i_neg, ↓cd_cmp, ↓pt_cmp, ↓i_cmp, ↓cd_chain, ↓pt_chain, ↓i_chain, ↓cd_isN, ↓pt_isN, ↓i_isN, ↓cd_not, ↓pt_not, ↓i_not, ↓cd_and, ↓pt_and, ↓i_and, ↓cd_or, ↓pt_or, ↓i_or, ↓cd_ife, ↓pt_ife, ↓i_ife, ↓cd_idx, ↓pt_idx, ↓i_idx, ↓cd_slc, ↓pt_slc, ↓i_slc, ↓cd_rev, ↓pt_rev, ↓i_rev, ↓cd_call, ↓pt_call, ↓i_call, ↓cd_blt, ↓pt_blt, ↓i_blt, ↓cd_mth, ↓pt_mth, ↓i_mth, ↓cd_isin, ↓pt_isin, ↓i_isin, ↓cd_setlen, ↓pt_setlen, ↓i_setlen, ↓cd_lc, ↓pt_lc, ↓i_lc, s_seq, s_skip, s_pass, s_brk, s_cnt, s_retN, s_ret, s_ex, s_ite, s_ass, s_par, s_sub, s_app, s_frz, s_prm, e_con, e_glob, e_var, e_tup, e_lst, e_bin, e_neg, e_cmp, e_chain, e_isN, e_not, e_and, e_or, e_ife, e_idx, pt_nil, e_slc, e_rev, e_call, e_blt, e_mth, e_isin, e_setlen, cd_nil, i_one, t_t, r_nil, r_cons, rr_nil, rr_cons, lp_n, lp_c, cd_con, pt_con, i_con, cd_var, pt_var, i_var, cd_glob, pt_glob, i_glob, cd_tup, pt_tup, i_tup, cd_lst, pt_lst, i_lst, cd_bin, pt_bin, i_bin, cd_neg, pt_neg, i_neg, cd_cmp, pt_cmp, i_cmp, cd_chain, pt_chain, i_chain, cd_isN, pt_isN, i_isN, cd_not, pt_not, i_not, cd_and, pt_and, i_and, cd_or, pt_or, i_or, cd_ife, pt_ife, i_ife, cd_idx, pt_idx, i_idx, cd_slc, pt_slc, i_slc, cd_rev, pt_rev, i_rev, cd_call, pt_call, i_call, cd_blt, pt_blt, i_blt, cd_mth, pt_mth, i_mth, cd_isin, pt_isin, i_isin, cd_setlen, pt_setlen, i_setlen, cd_lc, pt_lc, i_lc, ↓e_lc, ↓s_for, e_lc, s_for, nxt_nx, nxt_rt, nxt_bk, nxt_ct, rtK_p, exK_p, iteK_t, iteK_f, nxO_e, assK_p, parK_p, subK3_p, subK2_p, subK1_p, subK_p, nx2_p, appK1_p, appK_p, okK_t, forL_p, frzK_o, frzK_s, prmK_o, prmK_s, varK_s, varK_o, tupK_p, lstK_p, wiK_a, binK1_p, binK_p, negK_i, blK_b, cmpK1_p, cmpK_p, chainK_t, chainK_f, chK1_p, chK_p, isNK_p, nblK_b, notK_p, andK_t, andK_f, anK_p, orK_t, orK_f, oK_p, ifeK_t, ifeK_f, ifK_p, idxK1_p, idxK_p, siK_i, aiK_p, slcK2_p, slcK1_p, slcK_p, revK_p, callE_p, bltK_p, mthK1_p, mthK0_t, mthK_p, isinK_p, slnK1_p, slnK0_p, slnK_p, soK_v, giK_p, trK1_b, trK_p, elK_t, elK_f, lcK1_p, lcK_p, tuK_p, itK1_p, itK2_p, itK_p, coK_p, rcK1_p, rcK_p, crK_p, rrK_p, l_tup, l_lst, l_kl, l_fr, l_br, g_pv, g_fr, d_lst, d_fr, d_br, d_str, d_int, d_bl, d_non, d_tup, tr_bl, tr_int, tr_non, tr_str, n_non, n_int, n_str, n_tup, n_lst, n_bl, n_ref, x_tup, x_lst, x_kl, x_fr, x_br, a_v, a_t, gt_pv, gt_fr, as_v, as_tt, as_tl, as_n, as_c, o_rtp, o_rtf, o_rtb, o_nx, lpK_nx, lpK_ct, lpK_bk, lpK_rt, foK_e, forK_p, itm_tup, itm_lst, itm_kl, itm_fr, itm_br, itm_etup, itm_elst, itm_ekl, itm_efr, itm_ebr, itm_r1, itm_r2, at_nat, at_0, at_1, at_2, at_3, at_4, at_5, at_6, at_7, p_ii, p_ss, p_tt, p_ff, p_bf, p_lf, p_fl, p_ll, p_bl, p_sub, p_mulL, p_mulR, p_divP, p_modP, p_pow, c_lt, c_le, c_gt, c_ge, eqK1_v, eqK2_v, c_eq, c_ne, c_in, c_ni, inK_v, in_tup, in_lst, in_kl, in_fr, in_br, f_abs, f_int, f_lenS, f_lent, f_lenl, f_lenk, f_lenf, f_lenb, f_listk, f_listl, f_listt, f_listf, f_tupl, f_tupt, f_tupf, f_tupb, f_all, f_any, anyK_b, f_sort1, f_sort1f, mo_il, mo_ib, mo_ik, mo_if, mo_cl, mo_cb, mo_cf, ixK0_n, ixMK_v, m_il, m_ib, m_if, coMK_v, m_cl, m_cb, m_cf, apo_s, apoK_o, apoK_r, boK_l, ap_s, apK_o, apK_r, bxK_l, gu_c, gu_e, ok_non, ok_bl, ok_int, catK_s, catK_n, turK_p, tu_n, tu_c, bo_n, bo_c, in_n, in_c, al_n, al_t, al_f, nu_n, nu_c, refK_l, x_ref, setK1_m, setK_l, set_ref, ixn_20, ixn_21, ixn_31, ixn_30, ixn_32, sl_tup, sl_lst, sl_fr, sl_br, rv_lst, rv_fr, rv_br, asI_i, b_some, m_some, List.getElem?_cons_succ, List.getElem?_cons_zero, List.getElem?_nil, List.set_cons_succ, List.set_cons_zero, List.length_cons, List.length_nil, lim, Nat.reduceAdd, Nat.reduceLeDiff, Int.reduceLT, Nat.reduceLT, Nat.lt_add_left_iff_pos, E.isNil, wipeE, Nat.zero_lt_succ, if_true, if_false, Bool.true_bne, Bool.false_bne, bne_self_eq_false, Bool.not_true, Bool.not_false, Bool.not_not, Bool.bne_false, Bool.bne_true]
    | false =>
      cases f with
      | false =>
        have e : lword rs false i ⟨nm, none, kd, []⟩ = none := by simp only [lword, lwas, hk, hA]; rfl
        simp only [e, tp_n, Bool.false_eq_true, ↓s_seq, ↓s_skip, ↓s_pass, ↓s_brk, ↓s_cnt, ↓s_retN, ↓s_ret, ↓s_ex, ↓s_ite, ↓s_ass, ↓s_par, ↓s_sub, ↓s_app, ↓s_frz, ↓s_prm, ↓e_con, ↓e_glob, ↓e_var, ↓e_tup, ↓e_lst, ↓e_bin, ↓e_neg, ↓e_cmp, ↓e_chain, ↓e_isN, ↓e_not, ↓e_and, ↓e_or, ↓e_ife, ↓e_idx, ↓pt_nil, ↓e_slc, ↓e_rev, ↓e_call, ↓e_blt, ↓e_mth, ↓e_isin, ↓e_setlen, ↓cd_nil, ↓i_one, ↓t_t, ↓r_nil, ↓r_cons, ↓rr_nil, ↓rr_cons, ↓lp_n, ↓lp_c, ↓cd_con, ↓pt_con, ↓i_con, ↓cd_var, ↓pt_var, ↓i_var, ↓cd_glob, ↓pt_glob, ↓i_glob, ↓cd_tup, ↓pt_tup, ↓i_tup, ↓cd_lst, ↓pt_lst, ↓i_lst, ↓cd_bin, ↓pt_bin, ↓i_bin, ↓cd_neg, ↓pt_neg, ↓i_neg, ↓cd_cmp, ↓pt_cmp, ↓i_cmp, ↓cd_chain, ↓pt_chain, ↓i_chain, ↓cd_isN, ↓pt_isN, ↓i_isN, ↓cd_not, ↓pt_not, ↓i_not, ↓cd_and, ↓pt_and, ↓i_and, ↓cd_or, ↓pt_or, ↓i_or, ↓cd_ife, ↓pt_ife, ↓i_ife, ↓cd_idx, ↓pt_idx, ↓i_idx, ↓cd_slc, ↓pt_slc, ↓i_slc, ↓cd_rev, ↓pt_rev, ↓i_rev, ↓cd_call, ↓pt_call, ↓i_call, ↓cd_blt, ↓pt_blt, ↓i_blt, ↓cd_mth, ↓pt_mth, ↓i_mth, ↓cd_isin, ↓pt_isin, ↓i_isin, ↓cd_setlen, ↓pt_setlen, ↓i_setlen, ↓cd_lc, ↓pt_lc, ↓i_lc, s_seq, s_skip, s_pass, s_brk, s_cnt, s_retN, s_ret, s_ex, s_ite, s_ass, s_par, s_sub, s_app, s_frz, s_prm, e_con, e_glob, e_var, e_tup, e_lst, e_bin, e_neg, e_cmp, e_chain, e_isN, e_not, e_and, e_or, e_ife, e_idx, pt_nil, e_slc, e_rev, e_call, e_blt, e_mth, e_isin, e_setlen, cd_nil, i_one, t_t, r_nil, r_cons, rr_nil, rr_cons, lp_n, lp_c, cd_con, pt_con, i_con, cd_var, pt_var, i_var, cd_glob, pt_glob, i_glob, cd_tup, pt_tup, i_tup, cd_lst, pt_lst, i_lst, cd_bin, pt_bin, i_bin, cd_neg, pt_neg, i_neg, cd_cmp, pt_cmp, i_cmp, cd_chain, pt_chain, i_chain, cd_isN, pt_isN, i_isN, cd_not, pt_not, i_not, cd_and, pt_and, i_and, cd_or, pt_or, i_or, cd_ife, pt_ife, i_ife, cd_idx, pt_idx, i_idx, cd_slc, pt_slc, i_slc, cd_rev, pt_rev, i_rev, cd_call, pt_call, i_call, cd_blt, pt_blt, i_blt, cd_mth, pt_mth, i_mth, cd_isin, pt_isin, i_isin, cd_setlen, pt_setlen, i_setlen, cd_lc, pt_lc, i_lc, ↓e_lc, ↓s_for, e_lc, s_for, nxt_nx, nxt_rt, nxt_bk, nxt_ct, rtK_p, exK_p, iteK_t, iteK_f, nxO_e, assK_p, parK_p, subK3_p, subK2_p, subK1_p, subK_p, nx2_p, appK1_p, appK_p, okK_t, forL_p, frzK_o, frzK_s, prmK_o, prmK_s, varK_s, varK_o, tupK_p, lstK_p, wiK_a, binK1_p, binK_p, negK_i, blK_b, cmpK1_p, cmpK_p, chainK_t, chainK_f, chK1_p, chK_p, isNK_p, nblK_b, notK_p, andK_t, andK_f, anK_p, orK_t, orK_f, oK_p, ifeK_t, ifeK_f, ifK_p, idxK1_p, idxK_p, siK_i, aiK_p, slcK2_p, slcK1_p, slcK_p, revK_p, callE_p, bltK_p, mthK1_p, mthK0_t, mthK_p, isinK_p, slnK1_p, slnK0_p, slnK_p, soK_v, giK_p, trK1_b, trK_p, elK_t, elK_f, lcK1_p, lcK_p, tuK_p, itK1_p, itK2_p, itK_p, coK_p, rcK1_p, rcK_p, crK_p, rrK_p, l_tup, l_lst, l_kl, l_fr, l_br, g_pv, g_fr, d_lst, d_fr, d_br, d_str, d_int, d_bl, d_non, d_tup, tr_bl, tr_int, tr_non, tr_str, n_non, n_int, n_str, n_tup, n_lst, n_bl, n_ref, x_tup, x_lst, x_kl, x_fr, x_br, a_v, a_t, gt_pv, gt_fr, as_v, as_tt, as_tl, as_n, as_c, o_rtp, o_rtf, o_rtb, o_nx, lpK_nx, lpK_ct, lpK_bk, lpK_rt, foK_e, forK_p, itm_tup, itm_lst, itm_kl, itm_fr, itm_br, itm_etup, itm_elst, itm_ekl, itm_efr, itm_ebr, itm_r1, itm_r2, at_nat, at_0, at_1, at_2, at_3, at_4, at_5, at_6, at_7, p_ii, p_ss, p_tt, p_ff, p_bf, p_lf, p_fl, p_ll, p_bl, p_sub, p_mulL, p_mulR, p_divP, p_modP, p_pow, c_lt, c_le, c_gt, c_ge, eqK1_v, eqK2_v, c_eq, c_ne, c_in, c_ni, inK_v, in_tup, in_lst, in_kl, in_fr, in_br, f_abs, f_int, f_lenS, f_lent, f_lenl, f_lenk, f_lenf, f_lenb, f_listk, f_listl, f_listt, f_listf, f_tupl, f_tupt, f_tupf, f_tupb, f_all, f_any, anyK_b, f_sort1, f_sort1f, mo_il, mo_ib, mo_ik, mo_if, mo_cl, mo_cb, mo_cf, ixK0_n, ixMK_v, m_il, m_ib, m_if, coMK_v, m_cl, m_cb, m_cf, apo_s, apoK_o, apoK_r, boK_l, ap_s, apK_o, apK_r, bxK_l, gu_c, gu_e, ok_non, ok_bl, ok_int, catK_s, catK_n, turK_p, tu_n, tu_c, bo_n, bo_c, in_n, in_c, al_n, al_t, al_f, nu_n, nu_c, refK_l, x_ref, setK1_m, setK_l, set_ref, ixn_20, ixn_21, ixn_31, ixn_30, ixn_32, sl_tup, sl_lst, sl_fr, sl_br, rv_lst, rv_fr, rv_br, asI_i, b_some, m_some, List.getElem?_cons_succ, List.getElem?_cons_zero, List.getElem?_nil, List.set_cons_succ, List.set_cons_zero, List.length_cons, List.length_nil, lim, Nat.reduceAdd, Nat.reduceLeDiff, Int.reduceLT, Nat.reduceLT, Nat.lt_add_left_iff_pos, E.isNil, wipeE, Nat.zero_lt_succ, if_true, if_false, Bool.true_bne, Bool.false_bne, bne_self_eq_false, Bool.not_true, Bool.not_false, Bool.not_not, Bool.bne_false, Bool.bne_true]
      | true =>
        cases hi0 : decide (i = 0) with
        | true =>
          have e : lword rs true i ⟨nm, none, kd, []⟩ = some ("new" : Str) := by simp only [lword, lwas, hk, hA, hi0]; rfl
          simp only [e, ei, hi0, tp_s, ↓s_seq, ↓s_skip, ↓s_pass, ↓s_brk, ↓s_cnt, ↓s_retN, ↓s_ret, ↓s_ex, ↓s_ite, ↓s_ass, ↓s_par, ↓s_sub, ↓s_app, ↓s_frz, ↓s_prm, ↓e_con, ↓e_glob, ↓e_var, ↓e_tup, ↓e_lst, ↓e_bin, ↓e_neg, ↓e_cmp, ↓e_chain, ↓e_isN, ↓e_not, ↓e_and, ↓e_or, ↓e_ife, ↓e_idx, ↓pt_nil, ↓e_slc, ↓e_rev, ↓e_call, ↓e_blt, ↓e_mth, ↓e_isin, ↓e_setlen, ↓cd_nil, ↓i_one, ↓t_t, ↓r_nil, ↓r_cons, ↓rr_nil, ↓rr_cons, ↓lp_n, ↓lp_c, ↓cd_con, ↓pt_con, ↓i_con, ↓cd_var, ↓pt_var, ↓i_var, ↓cd_glob, ↓pt_glob, ↓i_glob, ↓cd_tup, ↓pt_tup, ↓i_tup, ↓cd_lst, ↓pt_lst, ↓i_lst, ↓cd_bin, ↓pt_bin, ↓i_bin, ↓cd_neg, ↓pt_neg, ↓i_neg, ↓cd_cmp, ↓pt_cmp, ↓i_cmp, ↓cd_chain, ↓pt_chain, ↓i_chain, ↓cd_isN, ↓pt_isN, ↓i_isN, ↓cd_not, ↓pt_not, ↓i_not, ↓cd_and, ↓pt_and, ↓i_and, ↓cd_or, ↓pt_or, ↓i_or, ↓cd_ife, ↓pt_ife, ↓i_ife, ↓cd_idx, ↓pt_idx, ↓i_idx, ↓cd_slc, ↓pt_slc, ↓i_slc, ↓cd_rev, ↓pt_rev, ↓i_rev, ↓cd_call, ↓pt_call, ↓i_call, ↓cd_blt, ↓pt_blt, ↓i_blt, ↓cd_mth, ↓pt_mth, ↓i_mth, ↓cd_isin, ↓pt_isin, ↓i_isin, ↓cd_setlen, ↓pt_setlen, ↓i_setlen, ↓cd_lc, ↓pt_lc, ↓i_lc, s_seq, s_skip, s_pass, s_brk, s_cnt, s_retN, s_ret, s_ex, s_ite, s_ass, s_par, s_sub, s_app, s_frz, s_prm, e_con, e_glob, e_var, e_tup, e_lst, e_bin, e_neg, e_cmp, e_chain, e_isN, e_not, e_and, e_or, e_ife, e_idx, pt_nil, e_slc, e_rev, e_call, e_blt, e_mth, e_isin, e_setlen, cd_nil, i_one, t_t, r_nil, r_cons, rr_nil, rr_cons, lp_n, lp_c, cd_con, pt_con, i_con, cd_var, pt_var, i_var, cd_glob, pt_glob, i_glob, cd_tup, pt_tup, i_tup, cd_lst, pt_lst, i_lst, cd_bin, pt_bin, i_bin, cd_neg, pt_neg, i_neg, cd_cmp, pt_cmp, i_cmp, cd_chain, pt_chain, i_chain, cd_isN, pt_isN, i_isN, cd_not, pt_not, i_not, cd_and, pt_and, i_and, cd_or, pt_or, i_or, cd_ife, pt_ife, i_ife, cd_idx, pt_idx, i_idx, cd_slc, pt_slc, i_slc, cd_rev, pt_rev, i_rev, cd_call, pt_call, i_call, cd_blt, pt_blt, i_blt, cd_mth, pt_mth, i_mth, cd_isin, pt_isin, i_isin, cd_setlen, pt_setlen, i_setlen, cd_lc, pt_lc, i_lc, ↓e_lc, ↓s_for, e_lc, s_for, nxt_nx, nxt_rt, nxt_bk, nxt_ct, rtK_p, exK_p, iteK_t, iteK_f, nxO_e, assK_p, parK_p, subK3_p, subK2_p, subK1_p, subK_p, nx2_p, appK1_p, appK_p, okK_t, forL_p, frzK_o, frzK_s, prmK_o, prmK_s, varK_s, varK_o, tupK_p, lstK_p, wiK_a, binK1_p, binK_p, negK_i, blK_b, cmpK1_p, cmpK_p, chainK_t, chainK_f, chK1_p, chK_p, isNK_p, nblK_b, notK_p, andK_t, andK_f, anK_p, orK_t, orK_f, oK_p, ifeK_t, ifeK_f, ifK_p, idxK1_p, idxK_p, siK_i, aiK_p, slcK2_p, slcK1_p, slcK_p, revK_p, callE_p, bltK_p, mthK1_p, mthK0_t, mthK_p, isinK_p, slnK1_p, slnK0_p, slnK_p, soK_v, giK_p, trK1_b, trK_p, elK_t, elK_f, lcK1_p, lcK_p, tuK_p, itK1_p, itK2_p, itK_p, coK_p, rcK1_p, rcK_p, crK_p, rrK_p, l_tup, l_lst, l_kl, l_fr, l_br, g_pv, g_fr, d_lst, d_fr, d_br, d_str, d_int, d_bl, d_non, d_tup, tr_bl, tr_int, tr_non, tr_str, n_non, n_int, n_str, n_tup, n_lst, n_bl, n_ref, x_tup, x_lst, x_kl, x_fr, x_br, a_v, a_t, gt_pv, gt_fr, as_v, as_tt, as_tl, as_n, as_c, o_rtp, o_rtf, o_rtb, o_nx, lpK_nx, lpK_ct, lpK_bk, lpK_rt, foK_e, forK_p, itm_tup, itm_lst, itm_kl, itm_fr, itm_br, itm_etup, itm_elst, itm_ekl, itm_efr, itm_ebr, itm_r1, itm_r2, at_nat, at_0, at_1, at_2, at_3, at_4, at_5, at_6, at_7, p_ii, p_ss, p_tt, p_ff, p_bf, p_lf, p_fl, p_ll, p_bl, p_sub, p_mulL, p_mulR, p_divP, p_modP, p_pow, c_lt, c_le, c_gt, c_ge, eqK1_v, eqK2_v, c_eq, c_ne, c_in, c_ni, inK_v, in_tup, in_lst, in_kl, in_fr, in_br, f_abs, f_int, f_lenS, f_lent, f_lenl, f_lenk, f_lenf, f_lenb, f_listk, f_listl, f_listt, f_listf, f_tupl, f_tupt, f_tupf, f_tupb, f_all, f_any, anyK_b, f_sort1, f_sort1f, mo_il, mo_ib, mo_ik, mo_if, mo_cl, mo_cb, mo_cf, ixK0_n, ixMK_v, m_il, m_ib, m_if, coMK_v, m_cl, m_cb, m_cf, apo_s, apoK_o, apoK_r, boK_l, ap_s, apK_o, apK_r, bxK_l, gu_c, gu_e, ok_non, ok_bl, ok_int, catK_s, catK_n, turK_p, tu_n, tu_c, bo_n, bo_c, in_n, in_c, al_n, al_t, al_f, nu_n, nu_c, refK_l, x_ref, setK1_m, setK_l, set_ref, ixn_20, ixn_21, ixn_31, ixn_30, ixn_32, sl_tup, sl_lst, sl_fr, sl_br, rv_lst, rv_fr, rv_br, asI_i, b_some, m_some, List.getElem?_cons_succ, List.getElem?_cons_zero, List.getElem?_nil, List.set_cons_succ, List.set_cons_zero, List.length_cons, List.length_nil, lim, Nat.reduceAdd, Nat.reduceLeDiff, Int.reduceLT, Nat.reduceLT, Nat.lt_add_left_iff_pos, E.isNil, wipeE, Nat.zero_lt_succ, if_true, if_false, Bool.true_bne, Bool.false_bne, bne_self_eq_false, Bool.not_true, Bool.not_false, Bool.not_not, Bool.bne_false, Bool.bne_true]
        | false =>
          have e : lword rs true i ⟨nm, none, kd, []⟩ = none := by simp only [lword, lwas, hk, hA, hi0]; rfl
          simp only [e, ei, hi0, tp_n, Bool.false_eq_true, ↓s_seq, ↓s_skip, ↓s_pass, ↓s_brk, ↓s_cnt, ↓s_retN, ↓s_ret, ↓s_ex, ↓s_ite, ↓s_ass, ↓s_par, ↓s_sub, ↓s_app, ↓s_frz, ↓s_prm, ↓e_con, ↓e_glob, ↓e_var, ↓e_tup, ↓e_lst, ↓e_bin, ↓e_neg, ↓e_cmp, ↓e_chain, ↓e_isN, ↓e_not, ↓e_and, ↓e_or, ↓e_ife, ↓e_idx, ↓pt_nil, ↓e_slc, ↓e_rev, ↓e_call, ↓e_blt, ↓e_mth, ↓e_isin, ↓e_setlen, ↓cd_nil, ↓i_one, ↓t_t, ↓r_nil, ↓r_cons, ↓rr_nil, ↓rr_cons, ↓lp_n, ↓lp_c, ↓cd_con, ↓pt_con, ↓i_con, ↓cd_var, ↓pt_var, ↓i_var, ↓cd_glob, ↓pt_glob, ↓i_glob, ↓cd_tup, ↓pt_tup, ↓i_tup, ↓cd_lst, ↓pt_lst, ↓i_lst, ↓cd_bin, ↓pt_bin, ↓i_bin, ↓cd_neg, ↓pt_neg, ↓i_neg, ↓cd_cmp, ↓pt_cmp, ↓i_cmp, ↓cd_chain, ↓pt_chain, ↓i_chain, ↓cd_isN, ↓pt_isN, ↓i_isN, ↓cd_not, ↓pt_not, ↓i_not, ↓cd_and, ↓pt_and, ↓i_and, ↓cd_or, ↓pt_or, ↓i_or, ↓cd_ife, ↓pt_ife, ↓i_ife, ↓cd_idx, ↓pt_idx, ↓i_idx, ↓cd_slc, ↓pt_slc, ↓i_slc, ↓cd_rev, ↓pt_rev, ↓i_rev, ↓cd_call, ↓pt_call, ↓i_call, ↓cd_blt, ↓pt_blt, ↓i_blt, ↓cd_mth, ↓pt_mth, ↓i_mth, ↓cd_isin, ↓pt_isin, ↓i_isin, ↓cd_setlen, ↓pt_setlen, ↓i_setlen, ↓cd_lc, ↓pt_lc, ↓i_lc, s_seq, s_skip, s_pass, s_brk, s_cnt, s_retN, s_ret, s_ex, s_ite, s_ass, s_par, s_sub, s_app, s_frz, s_prm, e_con, e_glob, e_var, e_tup, e_lst, e_bin, e_neg, e_cmp, e_chain, e_isN, e_not, e_and, e_or, e_ife, e_idx, pt_nil, e_slc, e_rev, e_call, e_blt, e_mth, e_isin, e_setlen, cd_nil, i_one, t_t, r_nil, r_cons, rr_nil, rr_cons, lp_n, lp_c, cd_con, pt_con, i_con, cd_var, pt_var, i_var, cd_glob, pt_glob, i_glob, cd_tup, pt_tup, i_tup, cd_lst, pt_lst, i_lst, cd_bin, pt_bin, i_bin, cd_neg, pt_neg, i_neg, cd_cmp, pt_cmp, i_cmp, cd_chain, pt_chain, i_chain, cd_isN, pt_isN, i_isN, cd_not, pt_not, i_not, cd_and, pt_and, i_and, cd_or, pt_or, i_or, cd_ife, pt_ife, i_ife, cd_idx, pt_idx, i_idx, cd_slc, pt_slc, i_slc, cd_rev, pt_rev, i_rev, cd_call, pt_call, i_call, cd_blt, pt_blt, i_blt, cd_mth, pt_mth, i_mth, cd_isin, pt_isin, i_isin, cd_setlen, pt_setlen, i_setlen, cd_lc, pt_lc, i_lc, ↓e_lc, ↓s_for, e_lc, s_for, nxt_nx, nxt_rt, nxt_bk, nxt_ct, rtK_p, exK_p, iteK_t, iteK_f, nxO_e, assK_p, parK_p, subK3_p, subK2_p, subK1_p, subK_p, nx2_p, appK1_p, appK_p, okK_t, forL_p, frzK_o, frzK_s, prmK_o, prmK_s, varK_s, varK_o, tupK_p, lstK_p, wiK_a, binK1_p, binK_p, negK_i, blK_b, cmpK1_p, cmpK_p, chainK_t, chainK_f, chK1_p, chK_p, isNK_p, nblK_b, notK_p, andK_t, andK_f, anK_p, orK_t, orK_f, oK_p, ifeK_t, ifeK_f, ifK_p, idxK1_p, idxK_p, siK_i, aiK_p, slcK2_p, slcK1_p, slcK_p, revK_p, callE_p, bltK_p, mthK1_p, mthK0_t, mthK_p, isinK_p, slnK1_p, slnK0_p, slnK_p, soK_v, giK_p, trK1_b, trK_p, elK_t, elK_f, lcK1_p, lcK_p, tuK_p, itK1_p, itK2_p, itK_p, coK_p, rcK1_p, rcK_p, crK_p, rrK_p, l_tup, l_lst, l_kl, l_fr, l_br, g_pv, g_fr, d_lst, d_fr, d_br, d_str, d_int, d_bl, d_non, d_tup, tr_bl, tr_int, tr_non, tr_str, n_non, n_int, n_str, n_tup, n_lst, n_bl, n_ref, x_tup, x_lst, x_kl, x_fr, x_br, a_v, a_t, gt_pv, gt_fr, as_v, as_tt, as_tl, as_n, as_c, o_rtp, o_rtf, o_rtb, o_nx, lpK_nx, lpK_ct, lpK_bk, lpK_rt, foK_e, forK_p, itm_tup, itm_lst, itm_kl, itm_fr, itm_br, itm_etup, itm_elst, itm_ekl, itm_efr, itm_ebr, itm_r1, itm_r2, at_nat, at_0, at_1, at_2, at_3, at_4, at_5, at_6, at_7, p_ii, p_ss, p_tt, p_ff, p_bf, p_lf, p_fl, p_ll, p_bl, p_sub, p_mulL, p_mulR, p_divP, p_modP, p_pow, c_lt, c_le, c_gt, c_ge, eqK1_v, eqK2_v, c_eq, c_ne, c_in, c_ni, inK_v, in_tup, in_lst, in_kl, in_fr, in_br, f_abs, f_int, f_lenS, f_lent, f_lenl, f_lenk, f_lenf, f_lenb, f_listk, f_listl, f_listt, f_listf, f_tupl, f_tupt, f_tupf, f_tupb, f_all, f_any, anyK_b, f_sort1, f_sort1f, mo_il, mo_ib, mo_ik, mo_if, mo_cl, mo_cb, mo_cf, ixK0_n, ixMK_v, m_il, m_ib, m_if, coMK_v, m_cl, m_cb, m_cf, apo_s, apoK_o, apoK_r, boK_l, ap_s, apK_o, apK_r, bxK_l, gu_c, gu_e, ok_non, ok_bl, ok_int, catK_s, catK_n, turK_p, tu_n, tu_c, bo_n, bo_c, in_n, in_c, al_n, al_t, al_f, nu_n, nu_c, refK_l, x_ref, setK1_m, setK_l, set_ref, ixn_20, ixn_21, ixn_31, ixn_30, ixn_32, sl_tup, sl_lst, sl_fr, sl_br, rv_lst, rv_fr, rv_br, asI_i, b_some, m_some, List.getElem?_cons_succ, List.getElem?_cons_zero, List.getElem?_nil, List.set_cons_succ, List.set_cons_zero, List.length_cons, List.length_nil, lim, Nat.reduceAdd, Nat.reduceLeDiff, Int.reduceLT, Nat.reduceLT, Nat.lt_add_left_iff_pos, E.isNil, wipeE, Nat.zero_lt_succ, if_true, if_false, Bool.true_bne, Bool.false_bne, bne_self_eq_false, Bool.not_true, Bool.not_false, Bool.not_not, Bool.bne_false, Bool.bne_true]
  | some t =>
    have ht : t.length = 1 := one t rfl
    have hl1 : t.length ≤ 16777216 := by omega
    have ost : okD (.str t) = true := ok_str (gr.t t rfl)
    have hk : key ⟨nm, some t, kd, []⟩ = t := rfl
    have htr : ((t.length : Int) != 0) = true := by rw [ht]; rfl
    have c1 : decide ((1 : Int) < ((cnt rs t : Nat) : Int)) = decide (1 < cnt rs t) := by
      by_cases c : 1 < cnt rs t
      · rw [decide_eq_true c, decide_eq_true (by omega)]
      · rw [decide_eq_false c, decide_eq_false (by omega)]
    simp only [k__law_word, b__law_word, hx, cell, tp_s, any_eA, any_nm, ok_eA, onm, ost, ↓s_seq, ↓s_skip, ↓s_pass, ↓s_brk, ↓s_cnt, ↓s_retN, ↓s_ret, ↓s_ex, ↓s_ite, ↓s_ass, ↓s_par, ↓s_sub, ↓s_app, ↓s_frz, ↓s_prm, ↓e_con, ↓e_glob, ↓e_var, ↓e_tup, ↓e_lst, ↓e_bin, ↓e_neg, ↓e_cmp, ↓e_chain, ↓e_isN, ↓e_not, ↓e_and, ↓e_or, ↓e_ife, ↓e_idx, ↓pt_nil, ↓e_slc, ↓e_rev, ↓e_call, ↓e_blt, ↓e_mth, ↓e_isin, ↓e_setlen, ↓cd_nil, ↓i_one, ↓t_t, ↓r_nil, ↓r_cons, ↓rr_nil, ↓rr_cons, ↓lp_n, ↓lp_c, ↓cd_con, ↓pt_con, ↓i_con, ↓cd_var, ↓pt_var, ↓i_var, ↓cd_glob, ↓pt_glob, ↓i_glob, ↓cd_tup, ↓pt_tup, ↓i_tup, ↓cd_lst, ↓pt_lst, ↓i_lst, ↓cd_bin, ↓pt_bin, ↓i_bin, ↓cd_neg, ↓pt_neg, ↓i_neg, ↓cd_cmp, ↓pt_cmp, ↓i_cmp, ↓cd_chain, ↓pt_chain, ↓i_chain, ↓cd_isN, ↓pt_isN, ↓i_isN, ↓cd_not, ↓pt_not, ↓i_not, ↓cd_and, ↓pt_and, ↓i_and, ↓cd_or, ↓pt_or, ↓i_or, ↓cd_ife, ↓pt_ife, ↓i_ife, ↓cd_idx, ↓pt_idx, ↓i_idx, ↓cd_slc, ↓pt_slc, ↓i_slc, ↓cd_rev, ↓pt_rev, ↓i_rev, ↓cd_call, ↓pt_call, ↓i_call, ↓cd_blt, ↓pt_blt, ↓i_blt, ↓cd_mth, ↓pt_mth, ↓i_mth, ↓cd_isin, ↓pt_isin, ↓i_isin, ↓cd_setlen, ↓pt_setlen, ↓i_setlen, ↓cd_lc, ↓pt_lc, ↓i_lc, s_seq, s_skip, s_pass, s_brk, s_cnt, s_retN, s_ret, s_ex, s_ite, s_ass, s_par, s_sub, s_app, s_frz, s_prm, e_con, e_glob, e_var, e_tup, e_lst, e_bin, e_neg, e_cmp, e_chain, e_isN, e_not, e_and, e_or, e_ife, e_idx, pt_nil, e_slc, e_rev, e_call, e_blt, e_mth, e_isin, e_setlen, cd_nil, i_one, t_t, r_nil, r_cons, rr_nil, rr_cons, lp_n, lp_c, cd_con, pt_con, i_con, cd_var, pt_var, i_var, cd_glob, pt_glob, i_glob, cd_tup, pt_tup, i_tup, cd_lst, pt_lst, i_lst, cd_bin, pt_bin, i_bin, cd_neg, pt_neg, i_neg, cd_cmp, pt_cmp, i_cmp, cd_chain, pt_chain, i_chain, cd_isN, pt_isN, i_isN, cd_not, pt_not, i_not, cd_and, pt_and, i_and, cd_or, pt_or, i_or, cd_ife, pt_ife, i_ife, cd_idx, pt_idx, i_idx, cd_slc, pt_slc, i_slc, cd_rev, pt_rev, i_rev, cd_call, pt_call, i_call, cd_blt, pt_blt, i_blt, cd_mth, pt_mth, i_mth, cd_isin, pt_isin, i_isin, cd_setlen, pt_setlen, i_setlen, cd_lc, pt_lc, i_lc, ↓e_lc, ↓s_for, e_lc, s_for, nxt_nx, nxt_rt, nxt_bk, nxt_ct, rtK_p, exK_p, iteK_t, iteK_f, nxO_e, assK_p, parK_p, subK3_p, subK2_p, subK1_p, subK_p, nx2_p, appK1_p, appK_p, okK_t, forL_p, frzK_o, frzK_s, prmK_o, prmK_s, varK_s, varK_o, tupK_p, lstK_p, wiK_a, binK1_p, binK_p, negK_i, blK_b, cmpK1_p, cmpK_p, chainK_t, chainK_f, chK1_p, chK_p, isNK_p, nblK_b, notK_p, andK_t, andK_f, anK_p, orK_t, orK_f, oK_p, ifeK_t, ifeK_f, ifK_p, idxK1_p, idxK_p, siK_i, aiK_p, slcK2_p, slcK1_p, slcK_p, revK_p, callE_p, bltK_p, mthK1_p, mthK0_t, mthK_p, isinK_p, slnK1_p, slnK0_p, slnK_p, soK_v, giK_p, trK1_b, trK_p, elK_t, elK_f, lcK1_p, lcK_p, tuK_p, itK1_p, itK2_p, itK_p, coK_p, rcK1_p, rcK_p, crK_p, rrK_p, l_tup, l_lst, l_kl, l_fr, l_br, g_pv, g_fr, d_lst, d_fr, d_br, d_str, d_int, d_bl, d_non, d_tup, tr_bl, tr_int, tr_non, tr_str, n_non, n_int, n_str, n_tup, n_lst, n_bl, n_ref, x_tup, x_lst, x_kl, x_fr, x_br, a_v, a_t, gt_pv, gt_fr, as_v, as_tt, as_tl, as_n, as_c, o_rtp, o_rtf, o_rtb, o_nx, lpK_nx, lpK_ct, lpK_bk, lpK_rt, foK_e, forK_p, itm_tup, itm_lst, itm_kl, itm_fr, itm_br, itm_etup, itm_elst, itm_ekl, itm_efr, itm_ebr, itm_r1, itm_r2, at_nat, at_0, at_1, at_2, at_3, at_4, at_5, at_6, at_7, p_ii, p_ss, p_tt, p_ff, p_bf, p_lf, p_fl, p_ll, p_bl, p_sub, p_mulL, p_mulR, p_divP, p_modP, p_pow, c_lt, c_le, c_gt, c_ge, eqK1_v, eqK2_v, c_eq, c_ne, c_in, c_ni, inK_v, in_tup, in_lst, in_kl, in_fr, in_br, f_abs, f_int, f_lenS, f_lent, f_lenl, f_lenk, f_lenf, f_lenb, f_listk, f_listl, f_listt, f_listf, f_tupl, f_tupt, f_tupf, f_tupb, f_all, f_any, anyK_b, f_sort1, f_sort1f, mo_il, mo_ib, mo_ik, mo_if, mo_cl, mo_cb, mo_cf, ixK0_n, ixMK_v, m_il, m_ib, m_if, coMK_v, m_cl, m_cb, m_cf, apo_s, apoK_o, apoK_r, boK_l, ap_s, apK_o, apK_r, bxK_l, gu_c, gu_e, ok_non, ok_bl, ok_int, catK_s, catK_n, turK_p, tu_n, tu_c, bo_n, bo_c, in_n, in_c, al_n, al_t, al_f, nu_n, nu_c, refK_l, x_ref, setK1_m, setK_l, set_ref, ixn_20, ixn_21, ixn_31, ixn_30, ixn_32, sl_tup, sl_lst, sl_fr, sl_br, rv_lst, rv_fr, rv_br, asI_i, b_some, m_some, List.getElem?_cons_succ, List.getElem?_cons_zero, List.getElem?_nil, List.set_cons_succ, List.set_cons_zero, List.length_cons, List.length_nil, lim, Nat.reduceAdd, Nat.reduceLeDiff, Int.reduceLT, Nat.reduceLT, Nat.lt_add_left_iff_pos, E.isNil, wipeE, Nat.zero_lt_succ, if_true, if_false, Bool.true_bne, Bool.false_bne, bne_self_eq_false, Bool.not_true, Bool.not_false, Bool.not_not, Bool.bne_false, Bool.bne_true]
    cases hA : eA.any (· == t) with
    | false =>
      have e : lword rs f i ⟨nm, some t, kd, []⟩ = some ("was" : Str) := by simp only [lword, lwas, hA]; rfl
      simp only [e, tp_s, ↓s_seq, ↓s_skip, ↓s_pass, ↓s_brk, ↓s_cnt, ↓s_retN, ↓s_ret, ↓s_ex, ↓s_ite, ↓s_ass, ↓s_par, ↓s_sub, ↓s_app, ↓s_frz, ↓s_prm, ↓e_con, ↓e_glob, ↓e_var, ↓e_tup, ↓e_lst, ↓e_bin, ↓e_neg, ↓e_cmp, ↓e_chain, ↓e_isN, ↓e_not, ↓e_and, ↓e_or, ↓e_ife, ↓e_idx, ↓pt_nil, ↓e_slc, ↓e_rev, ↓e_call, ↓e_blt, ↓e_mth, ↓e_isin, ↓e_setlen, ↓cd_nil, ↓i_one, ↓t_t, ↓r_nil, ↓r_cons, ↓rr_nil, ↓rr_cons, ↓lp_n, ↓lp_c, ↓cd_con, ↓pt_con, ↓i_con, ↓cd_var, ↓pt_var, ↓i_var, ↓cd_glob, ↓pt_glob, ↓i_glob, ↓cd_tup, ↓pt_tup, ↓i_tup, ↓cd_lst, ↓pt_lst, ↓i_lst, ↓cd_bin, ↓pt_bin, ↓i_bin, ↓cd_neg, ↓pt_neg, ↓i_neg, ↓cd_cmp, ↓pt_cmp, ↓i_cmp, ↓cd_chain, ↓pt_chain, ↓i_chain, ↓cd_isN, ↓pt_isN, ↓i_isN, ↓cd_not, ↓pt_not, ↓i_not, ↓cd_and, ↓pt_and, ↓i_and, ↓cd_or, ↓pt_or, ↓i_or, ↓cd_ife, ↓pt_ife, ↓i_ife, ↓cd_idx, ↓pt_idx, ↓i_idx, ↓cd_slc, ↓pt_slc, ↓i_slc, ↓cd_rev, ↓pt_rev, ↓i_rev, ↓cd_call, ↓pt_call, ↓i_call, ↓cd_blt, ↓pt_blt, ↓i_blt, ↓cd_mth, ↓pt_mth, ↓i_mth, ↓cd_isin, ↓pt_isin, ↓i_isin, ↓cd_setlen, ↓pt_setlen, ↓i_setlen, ↓cd_lc, ↓pt_lc, ↓i_lc, s_seq, s_skip, s_pass, s_brk, s_cnt, s_retN, s_ret, s_ex, s_ite, s_ass, s_par, s_sub, s_app, s_frz, s_prm, e_con, e_glob, e_var, e_tup, e_lst, e_bin, e_neg, e_cmp, e_chain, e_isN, e_not, e_and, e_or, e_ife, e_idx, pt_nil, e_slc, e_rev, e_call, e_blt, e_mth, e_isin, e_setlen, cd_nil, i_one, t_t, r_nil, r_cons, rr_nil, rr_cons, lp_n, lp_c, cd_con, pt_con, i_con, cd_var, pt_var, i_var, cd_glob, pt_glob, i_glob, cd_tup, pt_tup, i_tup, cd_lst, pt_lst, i_lst, cd_bin, pt_bin, i_bin, cd_neg, pt_neg, i_neg, cd_cmp, pt_cmp, i_cmp, cd_chain, pt_chain, i_chain, cd_isN, pt_isN, i_isN, cd_not, pt_not, i_not, cd_and, pt_and, i_and, cd_or, pt_or, i_or, cd_ife, pt_ife, i_ife, cd_idx, pt_idx, i_idx, cd_slc, pt_slc, i_slc, cd_rev, pt_rev, i_rev, cd_call, pt_call, i_call, cd_blt, pt_blt, i_blt, cd_mth, pt_mth, i_mth, cd_isin, pt_isin, i_isin, cd_setlen, pt_setlen, i_setlen, cd_lc, pt_lc, i_lc, ↓e_lc, ↓s_for, e_lc, s_for, nxt_nx, nxt_rt, nxt_bk, nxt_ct, rtK_p, exK_p, iteK_t, iteK_f, nxO_e, assK_p, parK_p, subK3_p, subK2_p, subK1_p, subK_p, nx2_p, appK1_p, appK_p, okK_t, forL_p, frzK_o, frzK_s, prmK_o, prmK_s, varK_s, varK_o, tupK_p, lstK_p, wiK_a, binK1_p, binK_p, negK_i, blK_b, cmpK1_p, cmpK_p, chainK_t, chainK_f, chK1_p, chK_p, isNK_p, nblK_b, notK_p, andK_t, andK_f, anK_p, orK_t, orK_f, oK_p, ifeK_t, ifeK_f, ifK_p, idxK1_p, idxK_p, siK_i, aiK_p, slcK2_p, slcK1_p, slcK_p, revK_p, callE_p, bltK_p, mthK1_p, mthK0_t, mthK_p, isinK_p, slnK1_p, slnK0_p, slnK_p, soK_v, giK_p, trK1_b, trK_p, elK_t, elK_f, lcK1_p, lcK_p, tuK_p, itK1_p, itK2_p, itK_p, coK_p, rcK1_p, rcK_p, crK_p, rrK_p, l_tup, l_lst, l_kl, l_fr, l_br, g_pv, g_fr, d_lst, d_fr, d_br, d_str, d_int, d_bl, d_non, d_tup, tr_bl, tr_int, tr_non, tr_str, n_non, n_int, n_str, n_tup, n_lst, n_bl, n_ref, x_tup, x_lst, x_kl, x_fr, x_br, a_v, a_t, gt_pv, gt_fr, as_v, as_tt, as_tl, as_n, as_c, o_rtp, o_rtf, o_rtb, o_nx, lpK_nx, lpK_ct, lpK_bk, lpK_rt, foK_e, forK_p, itm_tup, itm_lst, itm_kl, itm_fr, itm_br, itm_etup, itm_elst, itm_ekl, itm_efr, itm_ebr, itm_r1, itm_r2, at_nat, at_0, at_1, at_2, at_3, at_4, at_5, at_6, at_7, p_ii, p_ss, p_tt, p_ff, p_bf, p_lf, p_fl, p_ll, p_bl, p_sub, p_mulL, p_mulR, p_divP, p_modP, p_pow, c_lt, c_le, c_gt, c_ge, eqK1_v, eqK2_v, c_eq, c_ne, c_in, c_ni, inK_v, in_tup, in_lst, in_kl, in_fr, in_br, f_abs, f_int, f_lenS, f_lent, f_lenl, f_lenk, f_lenf, f_lenb, f_listk, f_listl, f_listt, f_listf, f_tupl, f_tupt, f_tupf, f_tupb, f_all, f_any, anyK_b, f_sort1, f_sort1f, mo_il, mo_ib, mo_ik, mo_if, mo_cl, mo_cb, mo_cf, ixK0_n, ixMK_v, m_il, m_ib, m_if, coMK_v, m_cl, m_cb, m_cf, apo_s, apoK_o, apoK_r, boK_l, ap_s, apK_o, apK_r, bxK_l, gu_c, gu_e, ok_non, ok_bl, ok_int, catK_s, catK_n, turK_p, tu_n, tu_c, bo_n, bo_c, in_n, in_c, al_n, al_t, al_f, nu_n, nu_c, refK_l, x_ref, setK1_m, setK_l, set_ref, ixn_20, ixn_21, ixn_31, ixn_30, ixn_32, sl_tup, sl_lst, sl_fr, sl_br, rv_lst, rv_fr, rv_br, asI_i, b_some, m_some, List.getElem?_cons_succ, List.getElem?_cons_zero, List.getElem?_nil, List.set_cons_succ, List.set_cons_zero, List.length_cons, List.length_nil, lim, Nat.reduceAdd, Nat.reduceLeDiff, Int.reduceLT, Nat.reduceLT, Nat.lt_add_left_iff_pos, E.isNil, wipeE, Nat.zero_lt_succ, if_true, if_false, Bool.true_bne, Bool.false_bne, bne_self_eq_false, Bool.not_true, Bool.not_false, Bool.not_not, Bool.bne_false, Bool.bne_true]
    | true =>
      simp only [h1, l1, on, ost, any_nm, hl1, htr, Bool.false_eq_true, ↓s_seq, ↓s_skip, ↓s_pass, ↓s_brk, ↓s_cnt, ↓s_retN, ↓s_ret, ↓s_ex, ↓s_ite, ↓s_ass, ↓s_par, ↓s_sub, ↓s_app, ↓s_frz, ↓s_prm, ↓e_con, ↓e_glob, ↓e_var, ↓e_tup, ↓e_lst, ↓e_bin, ↓e_neg, ↓e_cmp, ↓e_chain, ↓e_isN, ↓e_not, ↓e_and, ↓e_or, ↓e_ife, ↓e_idx, ↓pt_nil, ↓e_slc, ↓e_rev, ↓e_call, ↓e_blt, ↓e_mth, ↓e_isin, ↓e_setlen, ↓cd_nil, ↓i_one, ↓t_t, ↓r_nil, ↓r_cons, ↓rr_nil, ↓rr_cons, ↓lp_n, ↓lp_c, ↓cd_con, ↓pt_con, ↓i_con, ↓cd_var, ↓pt_var, ↓i_var, ↓cd_glob, ↓pt_glob, ↓i_glob, ↓cd_tup, ↓pt_tup, ↓i_tup, ↓cd_lst, ↓pt_lst, ↓i_lst, ↓cd_bin, ↓pt_bin, ↓i_bin, ↓cd_neg, ↓pt_neg, ↓i_neg, ↓cd_cmp, ↓pt_cmp, ↓i_cmp, ↓cd_chain, ↓pt_chain, ↓i_chain, ↓cd_isN, ↓pt_isN, ↓i_isN, ↓cd_not, ↓pt_not, ↓i_not, ↓cd_and, ↓pt_and, ↓i_and, ↓cd_or, ↓pt_or, ↓i_or, ↓cd_ife, ↓pt_ife, ↓i_ife, ↓cd_idx, ↓pt_idx, ↓i_idx, ↓cd_slc, ↓pt_slc, ↓i_slc, ↓cd_rev, ↓pt_rev, ↓i_rev, ↓cd_call, ↓pt_call, ↓i_call, ↓cd_blt, ↓pt_blt, ↓i_blt, ↓cd_mth, ↓pt_mth, ↓i_mth, ↓cd_isin, ↓pt_isin, ↓i_isin, ↓cd_setlen, ↓pt_setlen, ↓i_setlen, ↓cd_lc, ↓pt_lc, ↓i_lc, s_seq, s_skip, s_pass, s_brk, s_cnt, s_retN, s_ret, s_ex, s_ite, s_ass, s_par, s_sub, s_app, s_frz, s_prm, e_con, e_glob, e_var, e_tup, e_lst, e_bin, e_neg, e_cmp, e_chain, e_isN, e_not, e_and, e_or, e_ife, e_idx, pt_nil, e_slc, e_rev, e_call, e_blt, e_mth, e_isin, e_setlen, cd_nil, i_one, t_t, r_nil, r_cons, rr_nil, rr_cons, lp_n, lp_c, cd_con, pt_con, i_con, cd_var, pt_var, i_var, cd_glob, pt_glob, i_glob, cd_tup, pt_tup, i_tup, cd_lst, pt_lst, i_lst, cd_bin, pt_bin, i_bin, cd_neg, pt_neg, i_neg, cd_cmp, pt_cmp, i_cmp, cd_chain, pt_chain, i_chain, cd_isN, pt_isN, i_isN, cd_not, pt_not, i_not, cd_and, pt_and, i_and, cd_or, pt_or, i_or, cd_ife, pt_ife, i_ife, cd_idx, pt_idx, i_idx, cd_slc, pt_slc, i_slc, cd_rev, pt_rev, i_rev, cd_call, pt_call, i_call, cd_blt, pt_blt, i_blt, cd_mth, pt_mth, i_mth, cd_isin, pt_isin, i_isin, cd_setlen, pt_setlen, i_setlen, cd_lc, pt_lc, i_lc, ↓e_lc, ↓s_for, e_lc, s_for, nxt_nx, nxt_rt, nxt_bk, nxt_ct, rtK_p, exK_p, iteK_t, iteK_f, nxO_e, assK_p, parK_p, subK3_p, subK2_p, subK1_p, subK_p, nx2_p, appK1_p, appK_p, okK_t, forL_p, frzK_o, frzK_s, prmK_o, prmK_s, varK_s, varK_o, tupK_p, lstK_p, wiK_a, binK1_p, binK_p, negK_i, blK_b, cmpK1_p, cmpK_p, chainK_t, chainK_f, chK1_p, chK_p, isNK_p, nblK_b, notK_p, andK_t, andK_f, anK_p, orK_t, orK_f, oK_p, ifeK_t, ifeK_f, ifK_p, idxK1_p, idxK_p, siK_i, aiK_p, slcK2_p, slcK1_p, slcK_p, revK_p, callE_p, bltK_p, mthK1_p, mthK0_t, mthK_p, isinK_p, slnK1_p, slnK0_p, slnK_p, soK_v, giK_p, trK1_b, trK_p, elK_t, elK_f, lcK1_p, lcK_p, tuK_p, itK1_p, itK2_p, itK_p, coK_p, rcK1_p, rcK_p, crK_p, rrK_p, l_tup, l_lst, l_kl, l_fr, l_br, g_pv, g_fr, d_lst, d_fr, d_br, d_str, d_int, d_bl, d_non, d_tup, tr_bl, tr_int, tr_non, tr_str, n_non, n_int, n_str, n_tup, n_lst, n_bl, n_ref, x_tup, x_lst, x_kl, x_fr, x_br, a_v, a_t, gt_pv, gt_fr, as_v, as_tt, as_tl, as_n, as_c, o_rtp, o_rtf, o_rtb, o_nx, lpK_nx, lpK_ct, lpK_bk, lpK_rt, foK_e, forK_p, itm_tup, itm_lst, itm_kl, itm_fr, itm_br, itm_etup, itm_elst, itm_ekl, itm_efr, itm_ebr, itm_r1, itm_r2, at_nat, at_0, at_1, at_2, at_3, at_4, at_5, at_6, at_7, p_ii, p_ss, p_tt, p_ff, p_bf, p_lf, p_fl, p_ll, p_bl, p_sub, p_mulL, p_mulR, p_divP, p_modP, p_pow, c_lt, c_le, c_gt, c_ge, eqK1_v, eqK2_v, c_eq, c_ne, c_in, c_ni, inK_v, in_tup, in_lst, in_kl, in_fr, in_br, f_abs, f_int, f_lenS, f_lent, f_lenl, f_lenk, f_lenf, f_lenb, f_listk, f_listl, f_listt, f_listf, f_tupl, f_tupt, f_tupf, f_tupb, f_all, f_any, anyK_b, f_sort1, f_sort1f, mo_il, mo_ib, mo_ik, mo_if, mo_cl, mo_cb, mo_cf, ixK0_n, ixMK_v, m_il, m_ib, m_if, coMK_v, m_cl, m_cb, m_cf, apo_s, apoK_o, apoK_r, boK_l, ap_s, apK_o, apK_r, bxK_l, gu_c, gu_e, ok_non, ok_bl, ok_int, catK_s, catK_n, turK_p, tu_n, tu_c, bo_n, bo_c, in_n, in_c, al_n, al_t, al_f, nu_n, nu_c, refK_l, x_ref, setK1_m, setK_l, set_ref, ixn_20, ixn_21, ixn_31, ixn_30, ixn_32, sl_tup, sl_lst, sl_fr, sl_br, rv_lst, rv_fr, rv_br, asI_i, b_some, m_some, List.getElem?_cons_succ, List.getElem?_cons_zero, List.getElem?_nil, List.set_cons_succ, List.set_cons_zero, List.length_cons, List.length_nil, lim, Nat.reduceAdd, Nat.reduceLeDiff, Int.reduceLT, Nat.reduceLT, Nat.lt_add_left_iff_pos, E.isNil, wipeE, Nat.zero_lt_succ, if_true, if_false, Bool.true_bne, Bool.false_bne, bne_self_eq_false, Bool.not_true, Bool.not_false, Bool.not_not, Bool.bne_false, Bool.bne_true]
      cases hB : rs.any fun r => r.name == t with
      | true =>
        have e : lword rs f i ⟨nm, some t, kd, []⟩ = some ("was" : Str) := by simp only [lword, lwas, hA, hB]; rfl
        simp only [e, tp_s, ↓s_seq, ↓s_skip, ↓s_pass, ↓s_brk, ↓s_cnt, ↓s_retN, ↓s_ret, ↓s_ex, ↓s_ite, ↓s_ass, ↓s_par, ↓s_sub, ↓s_app, ↓s_frz, ↓s_prm, ↓e_con, ↓e_glob, ↓e_var, ↓e_tup, ↓e_lst, ↓e_bin, ↓e_neg, ↓e_cmp, ↓e_chain, ↓e_isN, ↓e_not, ↓e_and, ↓e_or, ↓e_ife, ↓e_idx, ↓pt_nil, ↓e_slc, ↓e_rev, ↓e_call, ↓e_blt, ↓e_mth, ↓e_isin, ↓e_setlen, ↓cd_nil, ↓i_one, ↓t_t, ↓r_nil, ↓r_cons, ↓rr_nil, ↓rr_cons, ↓lp_n, ↓lp_c, ↓cd_con, ↓pt_con, ↓i_con, ↓cd_var, ↓pt_var, ↓i_var, ↓cd_glob, ↓pt_glob, ↓i_glob, ↓cd_tup, ↓pt_tup, ↓i_tup, ↓cd_lst, ↓pt_lst, ↓i_lst, ↓cd_bin, ↓pt_bin, ↓i_bin, ↓cd_neg, ↓pt_neg, ↓i_neg, ↓cd_cmp, ↓pt_cmp, ↓i_cmp, ↓cd_chain, ↓pt_chain, ↓i_chain, ↓cd_isN, ↓pt_isN, ↓i_isN, ↓cd_not, ↓pt_not, ↓i_not, ↓cd_and, ↓pt_and, ↓i_and, ↓cd_or, ↓pt_or, ↓i_or, ↓cd_ife, ↓pt_ife, ↓i_ife, ↓cd_idx, ↓pt_idx, ↓i_idx, ↓cd_slc, ↓pt_slc, ↓i_slc, ↓cd_rev, ↓pt_rev, ↓i_rev, ↓cd_call, ↓pt_call, ↓i_call, ↓cd_blt, ↓pt_blt, ↓i_blt, ↓cd_mth, ↓pt_mth, ↓i_mth, ↓cd_isin, ↓pt_isin, ↓i_isin, ↓cd_setlen, ↓pt_setlen, ↓i_setlen, ↓cd_lc, ↓pt_lc, ↓i_lc, s_seq, s_skip, s_pass, s_brk, s_cnt, s_retN, s_ret, s_ex, s_ite, s_ass, s_par, s_sub, s_app, s_frz, s_prm, e_con, e_glob, e_var, e_tup, e_lst, e_bin, e_neg, e_cmp, e_chain, e_isN, e_not, e_and, e_or, e_ife, e_idx, pt_nil, e_slc, e_rev, e_call, e_blt, e_mth, e_isin, e_setlen, cd_nil, i_one, t_t, r_nil, r_cons, rr_nil, rr_cons, lp_n, lp_c, cd_con, pt_con, i_con, cd_var, pt_var, i_var, cd_glob, pt_glob, i_glob, cd_tup, pt_tup, i_tup, cd_lst, pt_lst, i_lst, cd_bin, pt_bin, i_bin, cd_neg, pt_neg, i_neg, cd_cmp, pt_cmp, i_cmp, cd_chain, pt_chain, i_chain, cd_isN, pt_isN, i_isN, cd_not, pt_not, i_not, cd_and, pt_and, i_and, cd_or, pt_or, i_or, cd_ife, pt_ife, i_ife, cd_idx, pt_idx, i_idx, cd_slc, pt_slc, i_slc, cd_rev, pt_rev, i_rev, cd_call, pt_call, i_call, cd_blt, pt_blt, i_blt, cd_mth, pt_mth, i_mth, cd_isin, pt_isin, i_isin, cd_setlen, pt_setlen, i_setlen, cd_lc, pt_lc, i_lc, ↓e_lc, ↓s_for, e_lc, s_for, nxt_nx, nxt_rt, nxt_bk, nxt_ct, rtK_p, exK_p, iteK_t, iteK_f, nxO_e, assK_p, parK_p, subK3_p, subK2_p, subK1_p, subK_p, nx2_p, appK1_p, appK_p, okK_t, forL_p, frzK_o, frzK_s, prmK_o, prmK_s, varK_s, varK_o, tupK_p, lstK_p, wiK_a, binK1_p, binK_p, negK_i, blK_b, cmpK1_p, cmpK_p, chainK_t, chainK_f, chK1_p, chK_p, isNK_p, nblK_b, notK_p, andK_t, andK_f, anK_p, orK_t, orK_f, oK_p, ifeK_t, ifeK_f, ifK_p, idxK1_p, idxK_p, siK_i, aiK_p, slcK2_p, slcK1_p, slcK_p, revK_p, callE_p, bltK_p, mthK1_p, mthK0_t, mthK_p, isinK_p, slnK1_p, slnK0_p, slnK_p, soK_v, giK_p, trK1_b, trK_p, elK_t, elK_f, lcK1_p, lcK_p, tuK_p, itK1_p, itK2_p, itK_p, coK_p, rcK1_p, rcK_p, crK_p, rrK_p, l_tup, l_lst, l_kl, l_fr, l_br, g_pv, g_fr, d_lst, d_fr, d_br, d_str, d_int, d_bl, d_non, d_tup, tr_bl, tr_int, tr_non, tr_str, n_non, n_int, n_str, n_tup, n_lst, n_bl, n_ref, x_tup, x_lst, x_kl, x_fr, x_br, a_v, a_t, gt_pv, gt_fr, as_v, as_tt, as_tl, as_n, as_c, o_rtp, o_rtf, o_rtb, o_nx, lpK_nx, lpK_ct, lpK_bk, lpK_rt, foK_e, forK_p, itm_tup, itm_lst, itm_kl, itm_fr, itm_br, itm_etup, itm_elst, itm_ekl, itm_efr, itm_ebr, itm_r1, itm_r2, at_nat, at_0, at_1, at_2, at_3, at_4, at_5, at_6, at_7, p_ii, p_ss, p_tt, p_ff, p_bf, p_lf, p_fl, p_ll, p_bl, p_sub, p_mulL, p_mulR, p_divP, p_modP, p_pow, c_lt, c_le, c_gt, c_ge, eqK1_v, eqK2_v, c_eq, c_ne, c_in, c_ni, inK_v, in_tup, in_lst, in_kl, in_fr, in_br, f_abs, f_int, f_lenS, f_lent, f_lenl, f_lenk, f_lenf, f_lenb, f_listk, f_listl, f_listt, f_listf, f_tupl, f_tupt, f_tupf, f_tupb, f_all, f_any, anyK_b, f_sort1, f_sort1f, mo_il, mo_ib, mo_ik, mo_if, mo_cl, mo_cb, mo_cf, ixK0_n, ixMK_v, m_il, m_ib, m_if, coMK_v, m_cl, m_cb, m_cf, apo_s, apoK_o, apoK_r, boK_l, ap_s, apK_o, apK_r, bxK_l, gu_c, gu_e, ok_non, ok_bl, ok_int, catK_s, catK_n, turK_p, tu_n, tu_c, bo_n, bo_c, in_n, in_c, al_n, al_t, al_f, nu_n, nu_c, refK_l, x_ref, setK1_m, setK_l, set_ref, ixn_20, ixn_21, ixn_31, ixn_30, ixn_32, sl_tup, sl_lst, sl_fr, sl_br, rv_lst, rv_fr, rv_br, asI_i, b_some, m_some, List.getElem?_cons_succ, List.getElem?_cons_zero, List.getElem?_nil, List.set_cons_succ, List.set_cons_zero, List.length_cons, List.length_nil, lim, Nat.reduceAdd, Nat.reduceLeDiff, Int.reduceLT, Nat.reduceLT, Nat.lt_add_left_iff_pos, E.isNil, wipeE, Nat.zero_lt_succ, if_true, if_false, Bool.true_bne, Bool.false_bne, bne_self_eq_false, Bool.not_true, Bool.not_false, Bool.not_not, Bool.bne_false, Bool.bne_true]
      | false =>
        simp only [h0, l0, ot, ost, cnt_tp, c1, ↓s_seq, ↓s_skip, ↓s_pass, ↓s_brk, ↓s_cnt, ↓s_retN, ↓s_ret, ↓s_ex, ↓s_ite, ↓s_ass, ↓s_par, ↓s_sub, ↓s_app, ↓s_frz, ↓s_prm, ↓e_con, ↓e_glob, ↓e_var, ↓e_tup, ↓e_lst, ↓e_bin, ↓e_neg, ↓e_cmp, ↓e_chain, ↓e_isN, ↓e_not, ↓e_and, ↓e_or, ↓e_ife, ↓e_idx, ↓pt_nil, ↓e_slc, ↓e_rev, ↓e_call, ↓e_blt, ↓e_mth, ↓e_isin, ↓e_setlen, ↓cd_nil, ↓i_one, ↓t_t, ↓r_nil, ↓r_cons, ↓rr_nil, ↓rr_cons, ↓lp_n, ↓lp_c, ↓cd_con, ↓pt_con, ↓i_con, ↓cd_var, ↓pt_var, ↓i_var, ↓cd_glob, ↓pt_glob, ↓i_glob, ↓cd_tup, ↓pt_tup, ↓i_tup, ↓cd_lst, ↓pt_lst, ↓i_lst, ↓cd_bin, ↓pt_bin, ↓i_bin, ↓cd_neg, ↓pt_neg, ↓i_neg, ↓cd_cmp, ↓pt_cmp, ↓i_cmp, ↓cd_chain, ↓pt_chain, ↓i_chain, ↓cd_isN, ↓pt_isN, ↓i_isN, ↓cd_not, ↓pt_not, ↓i_not, ↓cd_and, ↓pt_and, ↓i_and, ↓cd_or, ↓pt_or, ↓i_or, ↓cd_ife, ↓pt_ife, ↓i_ife, ↓cd_idx, ↓pt_idx, ↓i_idx, ↓cd_slc, ↓pt_slc, ↓i_slc, ↓cd_rev, ↓pt_rev, ↓i_rev, ↓cd_call, ↓pt_call, ↓i_call, ↓cd_blt, ↓pt_blt, ↓i_blt, ↓cd_mth, ↓pt_mth, ↓i_mth, ↓cd_isin, ↓pt_isin, ↓i_isin, ↓cd_setlen, ↓pt_setlen, ↓i_setlen, ↓cd_lc, ↓pt_lc, ↓i_lc, s_seq, s_skip, s_pass, s_brk, s_cnt, s_retN, s_ret, s_ex, s_ite, s_ass, s_par, s_sub, s_app, s_frz, s_prm, e_con, e_glob, e_var, e_tup, e_lst, e_bin, e_neg, e_cmp, e_chain, e_isN, e_not, e_and, e_or, e_ife, e_idx, pt_nil, e_slc, e_rev, e_call, e_blt, e_mth, e_isin, e_setlen, cd_nil, i_one, t_t, r_nil, r_cons, rr_nil, rr_cons, lp_n, lp_c, cd_con, pt_con, i_con, cd_var, pt_var, i_var, cd_glob, pt_glob, i_glob, cd_tup, pt_tup, i_tup, cd_lst, pt_lst, i_lst, cd_bin, pt_bin, i_bin, cd_neg, pt_neg, i_neg, cd_cmp, pt_cmp, i_cmp, cd_chain, pt_chain, i_chain, cd_isN, pt_isN, i_isN, cd_not, pt_not, i_not, cd_and, pt_and, i_and, cd_or, pt_or, i_or, cd_ife, pt_ife, i_ife, cd_idx, pt_idx, i_idx, cd_slc, pt_slc, i_slc, cd_rev, pt_rev, i_rev, cd_call, pt_call, i_call, cd_blt, pt_blt, i_blt, cd_mth, pt_mth, i_mth, cd_isin, pt_isin, i_isin, cd_setlen, pt_setlen, i_setlen, cd_lc, pt_lc, i_lc, ↓e_lc, ↓s_for, e_lc, s_for, nxt_nx, nxt_rt, nxt_bk, nxt_ct, rtK_p, exK_p, iteK_t, iteK_f, nxO_e, assK_p, parK_p, subK3_p, subK2_p, subK1_p, subK_p, nx2_p, appK1_p, appK_p, okK_t, forL_p, frzK_o, frzK_s, prmK_o, prmK_s, varK_s, varK_o, tupK_p, lstK_p, wiK_a, binK1_p, binK_p, negK_i, blK_b, cmpK1_p, cmpK_p, chainK_t, chainK_f, chK1_p, chK_p, isNK_p, nblK_b, notK_p, andK_t, andK_f, anK_p, orK_t, orK_f, oK_p, ifeK_t, ifeK_f, ifK_p, idxK1_p, idxK_p, siK_i, aiK_p, slcK2_p, slcK1_p, slcK_p, revK_p, callE_p, bltK_p, mthK1_p, mthK0_t, mthK_p, isinK_p, slnK1_p, slnK0_p, slnK_p, soK_v, giK_p, trK1_b, trK_p, elK_t, elK_f, lcK1_p, lcK_p, tuK_p, itK1_p, itK2_p, itK_p, coK_p, rcK1_p, rcK_p, crK_p, rrK_p, l_tup, l_lst, l_kl, l_fr, l_br, g_pv, g_fr, d_lst, d_fr, d_br, d_str, d_int, d_bl, d_non, d_tup, tr_bl, tr_int, tr_non, tr_str, n_non, n_int, n_str, n_tup, n_lst, n_bl, n_ref, x_tup, x_lst, x_kl, x_fr, x_br, a_v, a_t, gt_pv, gt_fr, as_v, as_tt, as_tl, as_n, as_c, o_rtp, o_rtf, o_rtb, o_nx, lpK_nx, lpK_ct, lpK_bk, lpK_rt, foK_e, forK_p, itm_tup, itm_lst, itm_kl, itm_fr, itm_br, itm_etup, itm_elst, itm_ekl, itm_efr, itm_ebr, itm_r1, itm_r2, at_nat, at_0, at_1, at_2, at_3, at_4, at_5, at_6, at_7, p_ii, p_ss, p_tt, p_ff, p_bf, p_lf, p_fl, p_ll, p_bl, p_sub, p_mulL, p_mulR, p_divP, p_modP, p_pow, c_lt, c_le, c_gt, c_ge, eqK1_v, eqK2_v, c_eq, c_ne, c_in, c_ni, inK_v, in_tup, in_lst, in_kl, in_fr, in_br, f_abs, f_int, f_lenS, f_lent, f_lenl, f_lenk, f_lenf, f_lenb, f_listk, f_listl, f_listt, f_listf, f_tupl, f_tupt, f_tupf, f_tupb, f_all, f_any, anyK_b, f_sort1, f_sort1f, mo_il, mo_ib, mo_ik, mo_if, mo_cl, mo_cb, mo_cf, ixK0_n, ixMK_v, m_il, m_ib, m_if, coMK_v, m_cl, m_cb, m_cf, apo_s, apoK_o, apoK_r, boK_l, ap_s, apK_o, apK_r, bxK_l, gu_c, gu_e, ok_non, ok_bl, ok_int, catK_s, catK_n, turK_p, tu_n, tu_c, bo_n, bo_c, in_n, in_c, al_n, al_t, al_f, nu_n, nu_c, refK_l, x_ref, setK1_m, setK_l, set_ref, ixn_20, ixn_21, ixn_31, ixn_30, ixn_32, sl_tup, sl_lst, sl_fr, sl_br, rv_lst, rv_fr, rv_br, asI_i, b_some, m_some, List.getElem?_cons_succ, List.getElem?_cons_zero, List.getElem?_nil, List.set_cons_succ, List.set_cons_zero, List.length_cons, List.length_nil, lim, Nat.reduceAdd, Nat.reduceLeDiff, Int.reduceLT, Nat.reduceLT, Nat.lt_add_left_iff_pos, E.isNil, wipeE, Nat.zero_lt_succ, if_true, if_false, Bool.true_bne, Bool.false_bne, bne_self_eq_false, Bool.not_true, Bool.not_false, Bool.not_not, Bool.bne_false, Bool.bne_true]
        cases hC : decide (1 < cnt rs t) with
        | true =>
          have e : lword rs f i ⟨nm, some t, kd, []⟩ = some ("was" : Str) := by simp only [lword, lwas, hA, hB, hC]; rfl
          simp only [e, tp_s, ↓s_seq, ↓s_skip, ↓s_pass, ↓s_brk, ↓s_cnt, ↓s_retN, ↓s_ret, ↓s_ex, ↓s_ite, ↓s_ass, ↓s_par, ↓s_sub, ↓s_app, ↓s_frz, ↓s_prm, ↓e_con, ↓e_glob, ↓e_var, ↓e_tup, ↓e_lst, ↓e_bin, ↓e_neg, ↓e_cmp, ↓e_chain, ↓e_isN, ↓e_not, ↓e_and, ↓e_or, ↓e_ife, ↓e_idx, ↓pt_nil, ↓e_slc, ↓e_rev, ↓e_call, ↓e_blt, ↓e_mth, ↓e_isin, ↓e_setlen, ↓cd_nil, ↓i_one, ↓t_t, ↓r_nil, ↓r_cons, ↓rr_nil, ↓rr_cons, ↓lp_n, ↓lp_c, ↓cd_con, ↓pt_con, ↓i_con, ↓cd_var, ↓pt_var, ↓i_var, ↓cd_glob, ↓pt_glob, ↓i_glob, ↓cd_tup, ↓pt_tup, ↓i_tup, ↓cd_lst, ↓pt_lst, ↓i_lst, ↓cd_bin, ↓pt_bin, ↓i_bin, ↓cd_neg, ↓pt_neg, ↓i_neg, ↓cd_cmp, ↓pt_cmp, ↓i_cmp, ↓cd_chain, ↓pt_chain, ↓i_chain, ↓cd_isN, ↓pt_isN, ↓i_isN, ↓cd_not, ↓pt_not, ↓i_not, ↓cd_and, ↓pt_and, ↓i_and, ↓cd_or, ↓pt_or, ↓i_or, ↓cd_ife, ↓pt_ife, ↓i_ife, ↓cd_idx, ↓pt_idx, ↓i_idx, ↓cd_slc, ↓pt_slc, ↓i_slc, ↓cd_rev, ↓pt_rev, ↓i_rev, ↓cd_call, ↓pt_call, ↓i_call, ↓cd_blt, ↓pt_blt, ↓i_blt, ↓cd_mth, ↓pt_mth, ↓i_mth, ↓cd_isin, ↓pt_isin, ↓i_isin, ↓cd_setlen, ↓pt_setlen, ↓i_setlen, ↓cd_lc, ↓pt_lc, ↓i_lc, s_seq, s_skip, s_pass, s_brk, s_cnt, s_retN, s_ret, s_ex, s_ite, s_ass, s_par, s_sub, s_app, s_frz, s_prm, e_con, e_glob, e_var, e_tup, e_lst, e_bin, e_neg, e_cmp, e_chain, e_isN, e_not, e_and, e_or, e_ife, e_idx, pt_nil, e_slc, e_rev, e_call, e_blt, e_mth, e_isin, e_setlen, cd_nil, i_one, t_t, r_nil, r_cons, rr_nil, rr_cons, lp_n, lp_c, cd_con, pt_con, i_con, cd_var, pt_var, i_var, cd_glob, pt_glob, i_glob, cd_tup, pt_tup, i_tup, cd_lst, pt_lst, i_lst, cd_bin, pt_bin, i_bin, cd_neg, pt_neg, i_neg, cd_cmp, pt_cmp, i_cmp, cd_chain, pt_chain, i_chain, cd_isN, pt_isN, i_isN, cd_not, pt_not, i_not, cd_and, pt_and, i_and, cd_or, pt_or, i_or, cd_ife, pt_ife, i_ife, cd_idx, pt_idx, i_idx, cd_slc, pt_slc, i_slc, cd_rev, pt_rev, i_rev, cd_call, pt_call, i_call, cd_blt, pt_blt, i_blt, cd_mth, pt_mth, i_mth, cd_isin, pt_isin, i_isin, cd_setlen, pt_setlen, i_setlen, cd_lc, pt_lc, i_lc, ↓e_lc, ↓s_for, e_lc, s_for, nxt_nx, nxt_rt, nxt_bk, nxt_ct, rtK_p, exK_p, iteK_t, iteK_f, nxO_e, assK_p, parK_p, subK3_p, subK2_p, subK1_p, subK_p, nx2_p, appK1_p, appK_p, okK_t, forL_p, frzK_o, frzK_s, prmK_o, prmK_s, varK_s, varK_o, tupK_p, lstK_p, wiK_a, binK1_p, binK_p, negK_i, blK_b, cmpK1_p, cmpK_p, chainK_t, chainK_f, chK1_p, chK_p, isNK_p, nblK_b, notK_p, andK_t, andK_f, anK_p, orK_t, orK_f, oK_p, ifeK_t, ifeK_f, ifK_p, idxK1_p, idxK_p, siK_i, aiK_p, slcK2_p, slcK1_p, slcK_p, revK_p, callE_p, bltK_p, mthK1_p, mthK0_t, mthK_p, isinK_p, slnK1_p, slnK0_p, slnK_p, soK_v, giK_p, trK1_b, trK_p, elK_t, elK_f, lcK1_p, lcK_p, tuK_p, itK1_p, itK2_p, itK_p, coK_p, rcK1_p, rcK_p, crK_p, rrK_p, l_tup, l_lst, l_kl, l_fr, l_br, g_pv, g_fr, d_lst, d_fr, d_br, d_str, d_int, d_bl, d_non, d_tup, tr_bl, tr_int, tr_non, tr_str, n_non, n_int, n_str, n_tup, n_lst, n_bl, n_ref, x_tup, x_lst, x_kl, x_fr, x_br, a_v, a_t, gt_pv, gt_fr, as_v, as_tt, as_tl, as_n, as_c, o_rtp, o_rtf, o_rtb, o_nx, lpK_nx, lpK_ct, lpK_bk, lpK_rt, foK_e, forK_p, itm_tup, itm_lst, itm_kl, itm_fr, itm_br, itm_etup, itm_elst, itm_ekl, itm_efr, itm_ebr, itm_r1, itm_r2, at_nat, at_0, at_1, at_2, at_3, at_4, at_5, at_6, at_7, p_ii, p_ss, p_tt, p_ff, p_bf, p_lf, p_fl, p_ll, p_bl, p_sub, p_mulL, p_mulR, p_divP, p_modP, p_pow, c_lt, c_le, c_gt, c_ge, eqK1_v, eqK2_v, c_eq, c_ne, c_in, c_ni, inK_v, in_tup, in_lst, in_kl, in_fr, in_br, f_abs, f_int, f_lenS, f_lent, f_lenl, f_lenk, f_lenf, f_lenb, f_listk, f_listl, f_listt, f_listf, f_tupl, f_tupt, f_tupf, f_tupb, f_all, f_any, anyK_b, f_sort1, f_sort1f, mo_il, mo_ib, mo_ik, mo_if, mo_cl, mo_cb, mo_cf, ixK0_n, ixMK_v, m_il, m_ib, m_if, coMK_v, m_cl, m_cb, m_cf, apo_s, apoK_o, apoK_r, boK_l, ap_s, apK_o, apK_r, bxK_l, gu_c, gu_e, ok_non, ok_bl, ok_int, catK_s, catK_n, turK_p, tu_n, tu_c, bo_n, bo_c, in_n, in_c, al_n, al_t, al_f, nu_n, nu_c, refK_l, x_ref, setK1_m, setK_l, set_ref, ixn_20, ixn_21, ixn_31, ixn_30, ixn_32, sl_tup, sl_lst, sl_fr, sl_br, rv_lst, rv_fr, rv_br, asI_i, b_some, m_some, List.getElem?_cons_succ, List.getElem?_cons_zero, List.getElem?_nil, List.set_cons_succ, List.set_cons_zero, List.length_cons, List.length_nil, lim, Nat.reduceAdd, Nat.reduceLeDiff, Int.reduceLT, Nat.reduceLT, Nat.lt_add_left_iff_pos, E.isNil, wipeE, Nat.zero_lt_succ, if_true, if_false, Bool.true_bne, Bool.false_bne, bne_self_eq_false, Bool.not_true, Bool.not_false, Bool.not_not, Bool.bne_false, Bool.bne_true]
        | false =>
          cases hD : pvEq kd ki with
          | true =>
            have e : lword rs f i ⟨nm, some t, kd, []⟩ = none := by simp only [lword, lwas, hk, hA, hB, hC, hD]; rfl
            unfold ki at hD
            simp only [e, tp_n, hl1, htr, any_eA, ok_eA, ost, hA, k1, k2, oki, dki, hD, ↓s_seq, ↓s_skip, ↓s_pass, ↓s_brk, ↓s_cnt, ↓s_retN, ↓s_ret, ↓s_ex, ↓s_ite, ↓s_ass, ↓s_par, ↓s_sub, ↓s_app, ↓s_frz, ↓s_prm, ↓e_con, ↓e_glob, ↓e_var, ↓e_tup, ↓e_lst, ↓e_bin, ↓e_neg, ↓e_cmp, ↓e_chain, ↓e_isN, ↓e_not, ↓e_and, ↓e_or, ↓e_ife, ↓e_idx, ↓pt_nil, ↓e_slc, ↓e_rev, ↓e_call, ↓e_blt, ↓e_mth, ↓e_isin, ↓e_setlen, ↓cd_nil, ↓i_one, ↓t_t, ↓r_nil, ↓r_cons, ↓rr_nil, ↓rr_cons, ↓lp_n, ↓lp_c, ↓cd_con, ↓pt_con, ↓i_con, ↓cd_var, ↓pt_var, ↓i_var, ↓cd_glob, ↓pt_glob, ↓i_glob, ↓cd_tup, ↓pt_tup, ↓i_tup, ↓cd_lst, ↓pt_lst, ↓i_lst, ↓cd_bin, ↓pt_bin, ↓i_bin, ↓cd_neg, ↓pt_neg, ↓i_neg, ↓cd_cmp, ↓pt_cmp, ↓i_cmp, ↓cd_chain, ↓pt_chain, ↓i_chain, ↓cd_isN, ↓pt_isN, ↓i_isN, ↓cd_not, ↓pt_not, ↓i_not, ↓cd_and, ↓pt_and, ↓i_and, ↓cd_or, ↓pt_or, ↓i_or, ↓cd_ife, ↓pt_ife, ↓i_ife, ↓cd_idx, ↓pt_idx, ↓i_idx, ↓cd_slc, ↓pt_slc, ↓i_slc, ↓cd_rev, ↓pt_rev, ↓i_rev, ↓cd_call, ↓pt_call, ↓i_call, ↓cd_blt, ↓pt_blt, ↓i_blt, ↓cd_mth, ↓pt_mth, ↓i_mth, ↓cd_isin, ↓pt_isin, ↓i_isin, ↓cd_setlen, ↓pt_setlen, ↓i_setlen, ↓cd_lc, ↓pt_lc, ↓i_lc, s_seq, s_skip, s_pass, s_brk, s_cnt, s_retN, s_ret, s_ex, s_ite, s_ass, s_par, s_sub, s_app, s_frz, s_prm, e_con, e_glob, e_var, e_tup, e_lst, e_bin, e_neg, e_cmp, e_chain, e_isN, e_not, e_and, e_or, e_ife, e_idx, pt_nil, e_slc, e_rev, e_call, e_blt, e_mth, e_isin, e_setlen, cd_nil, i_one, t_t, r_nil, r_cons, rr_nil, rr_cons, lp_n, lp_c, cd_con, pt_con, i_con, cd_var, pt_var, i_var, cd_glob, pt_glob, i_glob, cd_tup, pt_tup, i_tup, cd_lst, pt_lst, i_lst, cd_bin, pt_bin, i_bin, cd_neg, pt_neg, i_neg, cd_cmp, pt_cmp, i_cmp, cd_chain, pt_chain, i_chain, cd_isN, pt_isN, i_isN, cd_not, pt_not, i_not, cd_and, pt_and, i_and, cd_or, pt_or, i_or, cd_ife, pt_ife, i_ife, cd_idx, pt_idx, i_idx, cd_slc, pt_slc, i_slc, cd_rev, pt_rev, i_rev, cd_call, pt_call, i_call, cd_blt, pt_blt, i_blt, cd_mth, pt_mth, i_mth, cd_isin, pt_isin, i_isin, cd_setlen, pt_setlen, i_setlen, cd_lc, pt_lc, i_lc, ↓e_lc, ↓s_for, e_lc, s_for, nxt_nx, nxt_rt, nxt_bk, nxt_ct, rtK_p, exK_p, iteK_t, iteK_f, nxO_e, assK_p, parK_p, subK3_p, subK2_p, subK1_p, subK_p, nx2_p, appK1_p, appK_p, okK_t, forL_p, frzK_o, frzK_s, prmK_o, prmK_s, varK_s, varK_o, tupK_p, lstK_p, wiK_a, binK1_p, binK_p, negK_i, blK_b, cmpK1_p, cmpK_p, chainK_t, chainK_f, chK1_p, chK_p, isNK_p, nblK_b, notK_p, andK_t, andK_f, anK_p, orK_t, orK_f, oK_p, ifeK_t, ifeK_f, ifK_p, idxK1_p, idxK_p, siK_i, aiK_p, slcK2_p, slcK1_p, slcK_p, revK_p, callE_p, bltK_p, mthK1_p, mthK0_t, mthK_p, isinK_p, slnK1_p, slnK0_p, slnK_p, soK_v, giK_p, trK1_b, trK_p, elK_t, elK_f, lcK1_p, lcK_p, tuK_p, itK1_p, itK2_p, itK_p, coK_p, rcK1_p, rcK_p, crK_p, rrK_p, l_tup, l_lst, l_kl, l_fr, l_br, g_pv, g_fr, d_lst, d_fr, d_br, d_str, d_int, d_bl, d_non, d_tup, tr_bl, tr_int, tr_non, tr_str, n_non, n_int, n_str, n_tup, n_lst, n_bl, n_ref, x_tup, x_lst, x_kl, x_fr, x_br, a_v, a_t, gt_pv, gt_fr, as_v, as_tt, as_tl, as_n, as_c, o_rtp, o_rtf, o_rtb, o_nx, lpK_nx, lpK_ct, lpK_bk, lpK_rt, foK_e, forK_p, itm_tup, itm_lst, itm_kl, itm_fr, itm_br, itm_etup, itm_elst, itm_ekl, itm_efr, itm_ebr, itm_r1, itm_r2, at_nat, at_0, at_1, at_2, at_3, at_4, at_5, at_6, at_7, p_ii, p_ss, p_tt, p_ff, p_bf, p_lf, p_fl, p_ll, p_bl, p_sub, p_mulL, p_mulR, p_divP, p_modP, p_pow, c_lt, c_le, c_gt, c_ge, eqK1_v, eqK2_v, c_eq, c_ne, c_in, c_ni, inK_v, in_tup, in_lst, in_kl, in_fr, in_br, f_abs, f_int, f_lenS, f_lent, f_lenl, f_lenk, f_lenf, f_lenb, f_listk, f_listl, f_listt, f_listf, f_tupl, f_tupt, f_tupf, f_tupb, f_all, f_any, anyK_b, f_sort1, f_sort1f, mo_il, mo_ib, mo_ik, mo_if, mo_cl, mo_cb, mo_cf, ixK0_n, ixMK_v, m_il, m_ib, m_if, coMK_v, m_cl, m_cb, m_cf, apo_s, apoK_o, apoK_r, boK_l, ap_s, apK_o, apK_r, bxK_l, gu_c, gu_e, ok_non, ok_bl, ok_int, catK_s, catK_n, turK_p, tu_n, tu_c, bo_n, bo_c, in_n, in_c, al_n, al_t, al_f, nu_n, nu_c, refK_l, x_ref, setK1_m, setK_l, set_ref, ixn_20, ixn_21, ixn_31, ixn_30, ixn_32, sl_tup, sl_lst, sl_fr, sl_br, rv_lst, rv_fr, rv_br, asI_i, b_some, m_some, List.getElem?_cons_succ, List.getElem?_cons_zero, List.getElem?_nil, List.set_cons_succ, List.set_cons_zero, List.length_cons, List.length_nil, lim, Nat.reduceAdd, Nat.reduceLeDiff, Int.reduceLT, Nat.reduceLT, Nat.lt_add_left_iff_pos, E.isNil, wipeE, Nat.zero_lt_succ, if_true, if_false, Bool.true_bne, Bool.false_bne, bne_self_eq_false, Bool.not_true, Bool.not_false, Bool.not_not, Bool.bne_false, Bool.bne_true]
          | false =>
            have e : lword rs f i ⟨nm, some t, kd, []⟩ = some ("type" : Str) := by simp only [lword, lwas, hk, hA, hB, hC, hD]; rfl
            unfold ki at hD
            simp only [e, tp_s, hl1, htr, any_eA, ok_eA, ost, hA, k1, k2, oki, dki, hD, ↓s_seq, ↓s_skip, ↓s_pass, ↓s_brk, ↓s_cnt, ↓s_retN, ↓s_ret, ↓s_ex, ↓s_ite, ↓s_ass, ↓s_par, ↓s_sub, ↓s_app, ↓s_frz, ↓s_prm, ↓e_con, ↓e_glob, ↓e_var, ↓e_tup, ↓e_lst, ↓e_bin, ↓e_neg, ↓e_cmp, ↓e_chain, ↓e_isN, ↓e_not, ↓e_and, ↓e_or, ↓e_ife, ↓e_idx, ↓pt_nil, ↓e_slc, ↓e_rev, ↓e_call, ↓e_blt, ↓e_mth, ↓e_isin, ↓e_setlen, ↓cd_nil, ↓i_one, ↓t_t, ↓r_nil, ↓r_cons, ↓rr_nil, ↓rr_cons, ↓lp_n, ↓lp_c, ↓cd_con, ↓pt_con, ↓i_con, ↓cd_var, ↓pt_var, ↓i_var, ↓cd_glob, ↓pt_glob, ↓i_glob, ↓cd_tup, ↓pt_tup, ↓i_tup, ↓cd_lst, ↓pt_lst, ↓i_lst, ↓cd_bin, ↓pt_bin, ↓i_bin, ↓cd_neg, ↓pt_neg, ↓i_neg, ↓cd_cmp, ↓pt_cmp, ↓i_cmp, ↓cd_chain, ↓pt_chain, ↓i_chain, ↓cd_isN, ↓pt_isN, ↓i_isN, ↓cd_not, ↓pt_not, ↓i_not, ↓cd_and, ↓pt_and, ↓i_and, ↓cd_or, ↓pt_or, ↓i_or, ↓cd_ife, ↓pt_ife, ↓i_ife, ↓cd_idx, ↓pt_idx, ↓i_idx, ↓cd_slc, ↓pt_slc, ↓i_slc, ↓cd_rev, ↓pt_rev, ↓i_rev, ↓cd_call, ↓pt_call, ↓i_call, ↓cd_blt, ↓pt_blt, ↓i_blt, ↓cd_mth, ↓pt_mth, ↓i_mth, ↓cd_isin, ↓pt_isin, ↓i_isin, ↓cd_setlen, ↓pt_setlen, ↓i_setlen, ↓cd_lc, ↓pt_lc, ↓i_lc, s_seq, s_skip, s_pass, s_brk, s_cnt, s_retN, s_ret, s_ex, s_ite, s_ass, s_par, s_sub, s_app, s_frz, s_prm, e_con, e_glob, e_var, e_tup, e_lst, e_bin, e_neg, e_cmp, e_chain, e_isN, e_not, e_and, e_or, e_ife, e_idx, pt_nil, e_slc, e_rev, e_call, e_blt, e_mth, e_isin, e_setlen, cd_nil, i_one, t_t, r_nil, r_cons, rr_nil, rr_cons, lp_n, lp_c, cd_con, pt_con, i_con, cd_var, pt_var, i_var, cd_glob, pt_glob, i_glob, cd_tup, pt_tup, i_tup, cd_lst, pt_lst, i_lst, cd_bin, pt_bin, i_bin, cd_neg, pt_neg, i_neg, cd_cmp, pt_cmp, i_cmp, cd_chain, pt_chain, i_chain, cd_isN, pt_isN, i_isN, cd_not, pt_not, i_not, cd_and, pt_and, i_and, cd_or, pt_or, i_or, cd_ife, pt_ife, i_ife, cd_idx, pt_idx, i_idx, cd_slc, pt_slc, i_slc, cd_rev, pt_rev, i_rev, cd_call, pt_call, i_call, cd_blt, pt_blt, i_blt, cd_mth, pt_mth, i_mth, cd_isin, pt_isin, i_isin, cd_setlen, pt_setlen, i_setlen, cd_lc, pt_lc, i_lc, ↓e_lc, ↓s_for, e_lc, s_for, nxt_nx, nxt_rt, nxt_bk, nxt_ct, rtK_p, exK_p, iteK_t, iteK_f, nxO_e, assK_p, parK_p, subK3_p, subK2_p, subK1_p, subK_p, nx2_p, appK1_p, appK_p, okK_t, forL_p, frzK_o, frzK_s, prmK_o, prmK_s, varK_s, varK_o, tupK_p, lstK_p, wiK_a, binK1_p, binK_p, negK_i, blK_b, cmpK1_p, cmpK_p, chainK_t, chainK_f, chK1_p, chK_p, isNK_p, nblK_b, notK_p, andK_t, andK_f, anK_p, orK_t, orK_f, oK_p, ifeK_t, ifeK_f, ifK_p, idxK1_p, idxK_p, siK_i, aiK_p, slcK2_p, slcK1_p, slcK_p, revK_p, callE_p, bltK_p, mthK1_p, mthK0_t, mthK_p, isinK_p, slnK1_p, slnK0_p, slnK_p, soK_v, giK_p, trK1_b, trK_p, elK_t, elK_f, lcK1_p, lcK_p, tuK_p, itK1_p, itK2_p, itK_p, coK_p, rcK1_p, rcK_p, crK_p, rrK_p, l_tup, l_lst, l_kl, l_fr, l_br, g_pv, g_fr, d_lst, d_fr, d_br, d_str, d_int, d_bl, d_non, d_tup, tr_bl, tr_int, tr_non, tr_str, n_non, n_int, n_str, n_tup, n_lst, n_bl, n_ref, x_tup, x_lst, x_kl, x_fr, x_br, a_v, a_t, gt_pv, gt_fr, as_v, as_tt, as_tl, as_n, as_c, o_rtp, o_rtf, o_rtb, o_nx, lpK_nx, lpK_ct, lpK_bk, lpK_rt, foK_e, forK_p, itm_tup, itm_lst, itm_kl, itm_fr, itm_br, itm_etup, itm_elst, itm_ekl, itm_efr, itm_ebr, itm_r1, itm_r2, at_nat, at_0, at_1, at_2, at_3, at_4, at_5, at_6, at_7, p_ii, p_ss, p_tt, p_ff, p_bf, p_lf, p_fl, p_ll, p_bl, p_sub, p_mulL, p_mulR, p_divP, p_modP, p_pow, c_lt, c_le, c_gt, c_ge, eqK1_v, eqK2_v, c_eq, c_ne, c_in, c_ni, inK_v, in_tup, in_lst, in_kl, in_fr, in_br, f_abs, f_int, f_lenS, f_lent, f_lenl, f_lenk, f_lenf, f_lenb, f_listk, f_listl, f_listt, f_listf, f_tupl, f_tupt, f_tupf, f_tupb, f_all, f_any, anyK_b, f_sort1, f_sort1f, mo_il, mo_ib, mo_ik, mo_if, mo_cl, mo_cb, mo_cf, ixK0_n, ixMK_v, m_il, m_ib, m_if, coMK_v, m_cl, m_cb, m_cf, apo_s, apoK_o, apoK_r, boK_l, ap_s, apK_o, apK_r, bxK_l, gu_c, gu_e, ok_non, ok_bl, ok_int, catK_s, catK_n, turK_p, tu_n, tu_c, bo_n, bo_c, in_n, in_c, al_n, al_t, al_f, nu_n, nu_c, refK_l, x_ref, setK1_m, setK_l, set_ref, ixn_20, ixn_21, ixn_31, ixn_30, ixn_32, sl_tup, sl_lst, sl_fr, sl_br, rv_lst, rv_fr, rv_br, asI_i, b_some, m_some, List.getElem?_cons_succ, List.getElem?_cons_zero, List.getElem?_nil, List.set_cons_succ, List.set_cons_zero, List.length_cons, List.length_nil, lim, Nat.reduceAdd, Nat.reduceLeDiff, Int.reduceLT, Nat.reduceLT, Nat.lt_add_left_iff_pos, E.isNil, wipeE, Nat.zero_lt_succ, if_true, if_false, Bool.true_bne, Bool.false_bne, bne_self_eq_false, Bool.not_true, Bool.not_false, Bool.not_not, Bool.bne_false, Bool.bne_true]
end K57

set_option maxRecDepth 100000
set_option maxHeartbeats 1000000
namespace K57
open PySem Ev
/-! ### the words are the same -/
def oth (n : Nat) (ts : List (Option Str)) (i : Nat) : List (Option Str) := (ts.zipIdx n).filterMap fun p => if p.2 = i then none else some p.1
theorem others_oth (rs : List Row) (i : Nat) : others rs i = oth 0 (rs.map (·.told)) i := by
  unfold others oth
  rw [List.zipIdx_map, List.filterMap_map]
  rfl
theorem oth_past : ∀ (ts : List (Option Str)) (n i : Nat), i < n → oth n ts i = ts
  | [], _, _, _ => rfl
  | t :: ts, n, i, h => by
    unfold oth
    rw [List.zipIdx_cons, List.filterMap_cons]
    have : ¬ n = i := by omega
    simp only [this, if_false]
    exact congrArg (t :: ·) (oth_past ts (n + 1) i (by omega))
theorem oth_count (p : Option Str → Bool) : ∀ (ts : List (Option Str)) (n j : Nat) (o : Option Str), ts[j]? = some o → ts.countP p = (oth n ts (n + j)).countP p + (if p o then 1 else 0)
  | [], _, _, _, h => by simp at h
  | t :: ts, n, 0, o, h => by
    simp at h
    subst h
    unfold oth
    rw [List.zipIdx_cons, List.filterMap_cons]
    simp only [Nat.add_zero, if_true]
    have := oth_past ts (n + 1) n (by omega)
    unfold oth at this
    rw [this, List.countP_cons]
  | t :: ts, n, j + 1, o, h => by
    have ih := oth_count p ts (n + 1) j o (by simpa using h)
    unfold oth
    rw [List.zipIdx_cons, List.filterMap_cons]
    have : ¬ n = n + (j + 1) := by omega
    simp only [this, if_false]
    rw [List.countP_cons, List.countP_cons]
    unfold oth at ih
    rw [show n + (j + 1) = n + 1 + j by omega]
    omega
theorem oth_any {ts : List (Option Str)} {i : Nat} {t : Str} (h : ts[i]? = some (some t)) : (oth 0 ts i).any (· == some t) = decide (1 < ts.countP (· == some t)) := by
  have := oth_count (· == some t) ts 0 i (some t) h
  rw [Nat.zero_add] at this
  simp only [beq_self_eq_true, if_true] at this
  rw [this]
  cases ha : (oth 0 ts i).any (· == some t) with
  | true =>
    obtain ⟨x, m, e⟩ := List.any_eq_true.mp ha
    have : 0 < (oth 0 ts i).countP (· == some t) := List.countP_pos_iff.mpr ⟨x, m, e⟩
    rw [decide_eq_true (by omega)]
  | false =>
    have h0 : (oth 0 ts i).countP (· == some t) = 0 := by
      rw [List.countP_eq_zero]
      intro a m
      have := List.any_eq_false.mp ha a m
      simpa using this
    rw [h0]
    rfl
theorem ki_kt : pvEq ki ki = true ∧ pvEq ki kt = false ∧ pvEq kt ki = false ∧ plK ki = true ∧ plK kt = true := by decide +kernel
theorem any_names {rs : List Row} {t : Str} : (rs.any fun r => r.name == t) = (rs.map (·.name)).any (· == t) := by rw [List.any_map]; rfl
theorem wrong_l {el' rs' rs : List Row} {i : Nat} {r : Row} (hel : el'.map (·.name) = eA) (hn : rs'.map (·.name) = rs.map (·.name)) (ht : rs'.map (·.told) = rs.map (·.told)) (hi : rs[i]? = some r) : wrong el' rs' i r.told = lwas rs r.told := by
  cases htd : r.told with
  | none => rfl
  | some t =>
    show ((others rs' i).any (· == some t) || (rs'.any fun r => r.name == t) || !(el'.any fun e => e.name == t)) = (!(eA.any (· == t)) || ((rs.any fun r => r.name == t) || decide (1 < cnt rs t)))
    rw [others_oth, ht, oth_any (t := t) (by rw [List.getElem?_map, hi]; exact congrArg some htd), any_names, hn, ← any_names, any_names (rs := el'), hel]
    unfold cnt
    cases eA.any (· == t) <;> cases (rs.any fun r => r.name == t) <;> cases decide (1 < (rs.map (·.told)).countP (· == some t)) <;> rfl
theorem src_l {el' : List Row} {r' : Row} (hel : el'.map (·.name) = eA) : src el' r' = eA.findIdx? (· == key r') := by
  unfold src
  rw [← hel, List.findIdx?_map]
  rfl
theorem word_l {el' rs' rs : List Row} {i : Nat} {r r' : Row} (hel : el'.map (·.name) = eA) (hek : ∀ e ∈ el', e.kind = ki) (hn : rs'.map (·.name) = rs.map (·.name)) (ht : rs'.map (·.told) = rs.map (·.told)) (hi : rs[i]? = some r)
    (h1 : r'.name = r.name) (h2 : r'.told = r.told) (h3 : r'.kind = r.kind) (hk : r.kind = ki ∨ r.kind = kt) :
    word el' rs' i r' = if lwas rs r.told then some ("was" : Str) else if eA.any (· == key r) then (if pvEq r.kind ki then none else some ("type" : Str)) else none := by
  have kk : key r' = key r := by unfold key; rw [h1, h2]
  unfold word
  rw [h2, wrong_l hel hn ht hi]
  cases hw : lwas rs r.told with
  | true => rfl
  | false =>
    simp only [Bool.false_eq_true, if_false]
    have hs := src_l (r' := r') hel
    rw [kk] at hs
    cases hf : eA.findIdx? (· == key r) with
    | none =>
      have ha : eA.any (· == key r) = false := by
        have := List.findIdx?_isSome (xs := eA) (p := (· == key r))
        rw [hf] at this
        exact this.symm
      rw [hs, hf, ha]
      rfl
    | some j =>
      have ha : eA.any (· == key r) = true := by
        have := List.findIdx?_isSome (xs := eA) (p := (· == key r))
        rw [hf] at this
        exact this.symm
      rw [hf] at hs
      obtain ⟨e, he⟩ := src_at hs
      rw [hs, ha]
      simp only [he, if_true]
      rw [hek e (List.mem_of_getElem? he), h3]
      obtain ⟨a1, a2, a3, _, _⟩ := ki_kt
      rcases hk with hk | hk <;> rw [hk]
      rw [a2, a3]
theorem fword_l {el' rs' rs : List Row} {i : Nat} {r r' : Row} (hel : el'.map (·.name) = eA) (hek : ∀ e ∈ el', e.kind = ki) (hn : rs'.map (·.name) = rs.map (·.name)) (ht : rs'.map (·.told) = rs.map (·.told)) (hi : rs[i]? = some r)
    (h1 : r'.name = r.name) (h2 : r'.told = r.told) (h3 : r'.kind = r.kind) (hk : r.kind = ki ∨ r.kind = kt) (hb : (match r'.rest with | .non :: _ => true | _ => false) = decide (i = 0)) : fword el' rs' i r' = lword rs true i r := by
  unfold fword
  rw [word_l hel hek hn ht hi h1 h2 h3 hk]
  have kk : key r' = key r := by unfold key; rw [h1, h2]
  have hs : (src el' r').isNone = !(eA.any (· == key r)) := by
    rw [src_l hel, kk, ← List.findIdx?_isSome]
    cases eA.findIdx? (· == key r) <;> rfl
  have pk : plK r'.kind = true := by
    rw [h3]
    rcases hk with hk | hk <;> rw [hk]
    · exact ki_kt.2.2.2.1
    · exact ki_kt.2.2.2.2
  have hbr : bare r' = decide (i = 0) := by
    have e : bare r' = ((match r'.rest with | .non :: _ => true | _ => false) || !plK r'.kind) := rfl
    rw [e, hb, pk]
    simp
  rw [hs, hbr]
  unfold lword
  cases lwas rs r.told <;> cases eA.any (· == key r) <;> cases pvEq r.kind ki <;> cases decide (i = 0) <;> rfl
theorem word_l2 {el' rs' rs : List Row} {i : Nat} {r r' : Row} (hel : el'.map (·.name) = eA) (hek : ∀ e ∈ el', e.kind = ki) (hn : rs'.map (·.name) = rs.map (·.name)) (ht : rs'.map (·.told) = rs.map (·.told)) (hi : rs[i]? = some r)
    (h1 : r'.name = r.name) (h2 : r'.told = r.told) (h3 : r'.kind = r.kind) (hk : r.kind = ki ∨ r.kind = kt) : word el' rs' i r' = lword rs false i r := by
  rw [word_l hel hek hn ht hi h1 h2 h3 hk]
  unfold lword
  cases lwas rs r.told <;> cases eA.any (· == key r) <;> cases pvEq r.kind ki <;> rfl
end K57

set_option maxRecDepth 100000
set_option maxHeartbeats 1000000
namespace K57
open PySem Ev
mutual
theorem pvEq_refl : ∀ v : PV, Ev.plain v = true → pvEq v v = true
  | .non, _ => rfl
  | .bl b, _ => by simp [pvEq]
  | .int i, _ => by simp [pvEq]
  | .str x, _ => by simp [pvEq]
  | .lst xs, h => by rw [pvEq]; exact pvEqs_refl xs (by simpa [Ev.plain] using h)
  | .tup xs, h => by rw [pvEq]; exact pvEqs_refl xs (by simpa [Ev.plain] using h)
  | .kl xs, h => by rw [pvEq]; exact pvEqs_refl xs (by simpa [Ev.plain] using h)
  | .ref _, h => by simp [Ev.plain] at h
theorem pvEqs_refl : ∀ xs : List PV, plains xs = true → pvEqs xs xs = true
  | [], _ => rfl
  | x :: xs, h => by
    rw [plains, Bool.and_eq_true] at h
    rw [pvEqs, pvEq_refl x h.1, pvEqs_refl xs h.2]
    rfl
end
theorem okD_plain {v : PV} (h : okD v = true) : Ev.plain v = true := by
  unfold okD at h
  rw [Bool.and_eq_true] at h
  exact h.1
theorem eq_refl {v : PV} (h : okD v = true) : pvEq v v = true := pvEq_refl v (okD_plain h)
/-! ### what is built -/
def oldL : List Row := eA.map fun s => ⟨s, none, ki, [.non]⟩
def nv (i : Nat) (k : PV) : PV := if i = 0 then .non else if pvEq k ki then .int 5 else .str "no"
def newR (p : Row × Nat) : Row := ⟨p.1.name, p.1.told, p.1.kind, [nv p.2 p.1.kind]⟩
def newL (rs : List Row) : List Row := rs.zipIdx.map newR
def cv (k : PV) : PV := if pvEq k ki then .tup [.str "int", .int 1] else .tup [.str "text", .str ""]
def fourR (r : Row) : Row := ⟨r.name, r.told, r.kind, [cv r.kind]⟩
def wordsP (f : Bool) (rs : List Row) : List PV := rs.zipIdx.map fun p => tp (lword rs f p.2 p.1)
def said (pl : List PV) (f : Bool) (rs : List Row) : List PV := rs.zipIdx.filterMap fun p => (lword rs f p.2 p.1).map fun w => PV.tup [.tup (pl ++ [.int p.2]), .str w]
def dueP (rs : List Row) : List PV := rs.map fun r => np (eA.findIdx? (· == key r))
theorem range_mapL (rs : List Row) : itemsOf .rng1 true (.pv (.int ((rs.map cell).length : Int))) none = itemsOf .rng1 false (.pv (.int ((rs.map cell).length : Int))) none := rfl

theorem c0 (k : Nat) (h : Hh)  (a0 a1 a2 a3 a4 a5 a6 a7 a8 a9 a10 a11 a12 a13 a14 a15 a16 : Sl) : turns (lcK (callK G.ds (k + 1)) [16] e__law_drawn_right_0 (.v 16) .nil [a0, a1, a2, a3, a4, a5, a6, a7, a8, a9, a10, a11, a12, a13, a14, a15, a16]) (eA.map PV.str) h = some (oldL.map cell, h) := by
  unfold oldL
  rw [List.map_map]
  refine turns_all eA h fun s _ => ?_
  simp only [lcK_p, e__law_drawn_right_0, Function.comp, cell, tp_n, ki, ↓s_seq, ↓s_skip, ↓s_pass, ↓s_brk, ↓s_cnt, ↓s_retN, ↓s_ret, ↓s_ex, ↓s_ite, ↓s_ass, ↓s_par, ↓s_sub, ↓s_app, ↓s_frz, ↓s_prm, ↓e_con, ↓e_glob, ↓e_var, ↓e_tup, ↓e_lst, ↓e_bin, ↓e_neg, ↓e_cmp, ↓e_chain, ↓e_isN, ↓e_not, ↓e_and, ↓e_or, ↓e_ife, ↓e_idx, ↓pt_nil, ↓e_slc, ↓e_rev, ↓e_call, ↓e_blt, ↓e_mth, ↓e_isin, ↓e_setlen, ↓cd_nil, ↓i_one, ↓t_t, ↓r_nil, ↓r_cons, ↓rr_nil, ↓rr_cons, ↓lp_n, ↓lp_c, ↓cd_con, ↓pt_con, ↓i_con, ↓cd_var, ↓pt_var, ↓i_var, ↓cd_glob, ↓pt_glob, ↓i_glob, ↓cd_tup, ↓pt_tup, ↓i_tup, ↓cd_lst, ↓pt_lst, ↓i_lst, ↓cd_bin, ↓pt_bin, ↓i_bin, ↓cd_neg, ↓pt_neg, ↓i_neg, ↓cd_cmp, ↓pt_cmp, ↓i_cmp, ↓cd_chain, ↓pt_chain, ↓i_chain, ↓cd_isN, ↓pt_isN, ↓i_isN, ↓cd_not, ↓pt_not, ↓i_not, ↓cd_and, ↓pt_and, ↓i_and, ↓cd_or, ↓pt_or, ↓i_or, ↓cd_ife, ↓pt_ife, ↓i_ife, ↓cd_idx, ↓pt_idx, ↓i_idx, ↓cd_slc, ↓pt_slc, ↓i_slc, ↓cd_rev, ↓pt_rev, ↓i_rev, ↓cd_call, ↓pt_call, ↓i_call, ↓cd_blt, ↓pt_blt, ↓i_blt, ↓cd_mth, ↓pt_mth, ↓i_mth, ↓cd_isin, ↓pt_isin, ↓i_isin, ↓cd_setlen, ↓pt_setlen, ↓i_setlen, ↓cd_lc, ↓pt_lc, ↓i_lc, s_seq, s_skip, s_pass, s_brk, s_cnt, s_retN, s_ret, s_ex, s_ite, s_ass, s_par, s_sub, s_app, s_frz, s_prm, e_con, e_glob, e_var, e_tup, e_lst, e_bin, e_neg, e_cmp, e_chain, e_isN, e_not, e_and, e_or, e_ife, e_idx, pt_nil, e_slc, e_rev, e_call, e_blt, e_mth, e_isin, e_setlen, cd_nil, i_one, t_t, r_nil, r_cons, rr_nil, rr_cons, lp_n, lp_c, cd_con, pt_con, i_con, cd_var, pt_var, i_var, cd_glob, pt_glob, i_glob, cd_tup, pt_tup, i_tup, cd_lst, pt_lst, i_lst, cd_bin, pt_bin, i_bin, cd_neg, pt_neg, i_neg, cd_cmp, pt_cmp, i_cmp, cd_chain, pt_chain, i_chain, cd_isN, pt_isN, i_isN, cd_not, pt_not, i_not, cd_and, pt_and, i_and, cd_or, pt_or, i_or, cd_ife, pt_ife, i_ife, cd_idx, pt_idx, i_idx, cd_slc, pt_slc, i_slc, cd_rev, pt_rev, i_rev, cd_call, pt_call, i_call, cd_blt, pt_blt, i_blt, cd_mth, pt_mth, i_mth, cd_isin, pt_isin, i_isin, cd_setlen, pt_setlen, i_setlen, cd_lc, pt_lc, i_lc, ↓e_lc, ↓s_for, e_lc, s_for, nxt_nx, nxt_rt, nxt_bk, nxt_ct, rtK_p, exK_p, iteK_t, iteK_f, nxO_e, assK_p, parK_p, subK3_p, subK2_p, subK1_p, subK_p, nx2_p, appK1_p, appK_p, okK_t, forL_p, frzK_o, frzK_s, prmK_o, prmK_s, varK_s, varK_o, tupK_p, lstK_p, wiK_a, binK1_p, binK_p, negK_i, blK_b, cmpK1_p, cmpK_p, chainK_t, chainK_f, chK1_p, chK_p, isNK_p, nblK_b, notK_p, andK_t, andK_f, anK_p, orK_t, orK_f, oK_p, ifeK_t, ifeK_f, ifK_p, idxK1_p, idxK_p, siK_i, aiK_p, slcK2_p, slcK1_p, slcK_p, revK_p, callE_p, bltK_p, mthK1_p, mthK0_t, mthK_p, isinK_p, slnK1_p, slnK0_p, slnK_p, soK_v, giK_p, trK1_b, trK_p, elK_t, elK_f, lcK1_p, lcK_p, tuK_p, itK1_p, itK2_p, itK_p, coK_p, rcK1_p, rcK_p, crK_p, rrK_p, l_tup, l_lst, l_kl, l_fr, l_br, g_pv, g_fr, d_lst, d_fr, d_br, d_str, d_int, d_bl, d_non, d_tup, tr_bl, tr_int, tr_non, tr_str, n_non, n_int, n_str, n_tup, n_lst, n_bl, n_ref, x_tup, x_lst, x_kl, x_fr, x_br, a_v, a_t, gt_pv, gt_fr, as_v, as_tt, as_tl, as_n, as_c, o_rtp, o_rtf, o_rtb, o_nx, lpK_nx, lpK_ct, lpK_bk, lpK_rt, foK_e, forK_p, itm_tup, itm_lst, itm_kl, itm_fr, itm_br, itm_etup, itm_elst, itm_ekl, itm_efr, itm_ebr, itm_r1, itm_r2, at_nat, at_0, at_1, at_2, at_3, at_4, at_5, at_6, at_7, p_ii, p_ss, p_tt, p_ff, p_bf, p_lf, p_fl, p_ll, p_bl, p_sub, p_mulL, p_mulR, p_divP, p_modP, p_pow, c_lt, c_le, c_gt, c_ge, eqK1_v, eqK2_v, c_eq, c_ne, c_in, c_ni, inK_v, in_tup, in_lst, in_kl, in_fr, in_br, f_abs, f_int, f_lenS, f_lent, f_lenl, f_lenk, f_lenf, f_lenb, f_listk, f_listl, f_listt, f_listf, f_tupl, f_tupt, f_tupf, f_tupb, f_all, f_any, anyK_b, f_sort1, f_sort1f, mo_il, mo_ib, mo_ik, mo_if, mo_cl, mo_cb, mo_cf, ixK0_n, ixMK_v, m_il, m_ib, m_if, coMK_v, m_cl, m_cb, m_cf, apo_s, apoK_o, apoK_r, boK_l, ap_s, apK_o, apK_r, bxK_l, gu_c, gu_e, ok_non, ok_bl, ok_int, catK_s, catK_n, turK_p, tu_n, tu_c, bo_n, bo_c, in_n, in_c, al_n, al_t, al_f, nu_n, nu_c, refK_l, x_ref, setK1_m, setK_l, set_ref, ixn_20, ixn_21, ixn_31, ixn_30, ixn_32, sl_tup, sl_lst, sl_fr, sl_br, rv_lst, rv_fr, rv_br, asI_i, b_some, m_some, List.getElem?_cons_succ, List.getElem?_cons_zero, List.getElem?_nil, List.set_cons_succ, List.set_cons_zero, List.length_cons, List.length_nil, lim, Nat.reduceAdd, Nat.reduceLeDiff, Int.reduceLT, Nat.reduceLT, Nat.lt_add_left_iff_pos, E.isNil, wipeE, Nat.zero_lt_succ, if_true, if_false, Bool.true_bne, Bool.false_bne, bne_self_eq_false, Bool.not_true, Bool.not_false, Bool.not_not, Bool.bne_false, Bool.bne_true]

theorem c1 (k : Nat) (h : Hh) {rs : List Row} (hrs : ∀ r ∈ rs, RowOk r) (hl : rs.length ≤ 100) (a0 a1 a2 a3 a4 a5 a7 a8 a9 a10 a11 a12 a13 a14 a15 a16 : Sl) : turns (lcK (callK G.ds (k + 1)) [13] e__law_drawn_right_1 (.v 13) .nil [a0, a1, a2, a3, a4, a5, .sh (.lst (rs.map cell)), a7, a8, a9, a10, a11, a12, a13, a14, a15, a16]) ((List.range rs.length).map fun (i : Nat) => PV.int i) h = some ((newL rs).map cell, h) := by
  rw [range_map]
  unfold newL
  rw [List.map_map]
  refine turns_all rs.zipIdx h ?_
  rintro ⟨r, i⟩ m
  have hi : rs[i]? = some r := List.mem_zipIdx_iff_getElem?.mp m
  have ro := hrs r (List.mem_of_getElem? hi)
  have hx : L2.atI (rs.map cell) (i : Int) = some (cell r) := by
    rw [at_nat, List.getElem?_map, hi]; rfl
  have ei : pvEq (.int (i : Int)) (.int 0) = decide (i = 0) := by
    show ((i : Int) == 0) = _
    by_cases c : i = 0
    · subst c; rfl
    · simp only [c, decide_false, beq_eq_false_iff_ne]; omega
  have k1 := ro.good.k
  have k2 := dat_ok (h := h) k1
  have oki := ok_ki
  have dki : R.dat h (.pv ki) = some ki := rfl
  obtain ⟨nm, td, kd, re⟩ := r
  obtain rfl : re = [] := ro.e
  simp only at k1 k2
  unfold ki at oki dki
  cases hd : decide (i = 0) with
  | true =>
    have e : nv i kd = .non := if_pos (of_decide_eq_true hd)
    simp only [lcK_p, e__law_drawn_right_1, hx, Function.comp, newR, cell, ei, hd, e, ↓s_seq, ↓s_skip, ↓s_pass, ↓s_brk, ↓s_cnt, ↓s_retN, ↓s_ret, ↓s_ex, ↓s_ite, ↓s_ass, ↓s_par, ↓s_sub, ↓s_app, ↓s_frz, ↓s_prm, ↓e_con, ↓e_glob, ↓e_var, ↓e_tup, ↓e_lst, ↓e_bin, ↓e_neg, ↓e_cmp, ↓e_chain, ↓e_isN, ↓e_not, ↓e_and, ↓e_or, ↓e_ife, ↓e_idx, ↓pt_nil, ↓e_slc, ↓e_rev, ↓e_call, ↓e_blt, ↓e_mth, ↓e_isin, ↓e_setlen, ↓cd_nil, ↓i_one, ↓t_t, ↓r_nil, ↓r_cons, ↓rr_nil, ↓rr_cons, ↓lp_n, ↓lp_c, ↓cd_con, ↓pt_con, ↓i_con, ↓cd_var, ↓pt_var, ↓i_var, ↓cd_glob, ↓pt_glob, ↓i_glob, ↓cd_tup, ↓pt_tup, ↓i_tup, ↓cd_lst, ↓pt_lst, ↓i_lst, ↓cd_bin, ↓pt_bin, ↓i_bin, ↓cd_neg, ↓pt_neg, ↓i_neg, ↓cd_cmp, ↓pt_cmp, ↓i_cmp, ↓cd_chain, ↓pt_chain, ↓i_chain, ↓cd_isN, ↓pt_isN, ↓i_isN, ↓cd_not, ↓pt_not, ↓i_not, ↓cd_and, ↓pt_and, ↓i_and, ↓cd_or, ↓pt_or, ↓i_or, ↓cd_ife, ↓pt_ife, ↓i_ife, ↓cd_idx, ↓pt_idx, ↓i_idx, ↓cd_slc, ↓pt_slc, ↓i_slc, ↓cd_rev, ↓pt_rev, ↓i_rev, ↓cd_call, ↓pt_call, ↓i_call, ↓cd_blt, ↓pt_blt, ↓i_blt, ↓cd_mth, ↓pt_mth, ↓i_mth, ↓cd_isin, ↓pt_isin, ↓i_isin, ↓cd_setlen, ↓pt_setlen, ↓i_setlen, ↓cd_lc, ↓pt_lc, ↓i_lc, s_seq, s_skip, s_pass, s_brk, s_cnt, s_retN, s_ret, s_ex, s_ite, s_ass, s_par, s_sub, s_app, s_frz, s_prm, e_con, e_glob, e_var, e_tup, e_lst, e_bin, e_neg, e_cmp, e_chain, e_isN, e_not, e_and, e_or, e_ife, e_idx, pt_nil, e_slc, e_rev, e_call, e_blt, e_mth, e_isin, e_setlen, cd_nil, i_one, t_t, r_nil, r_cons, rr_nil, rr_cons, lp_n, lp_c, cd_con, pt_con, i_con, cd_var, pt_var, i_var, cd_glob, pt_glob, i_glob, cd_tup, pt_tup, i_tup, cd_lst, pt_lst, i_lst, cd_bin, pt_bin, i_bin, cd_neg, pt_neg, i_neg, cd_cmp, pt_cmp, i_cmp, cd_chain, pt_chain, i_chain, cd_isN, pt_isN, i_isN, cd_not, pt_not, i_not, cd_and, pt_and, i_and, cd_or, pt_or, i_or, cd_ife, pt_ife, i_ife, cd_idx, pt_idx, i_idx, cd_slc, pt_slc, i_slc, cd_rev, pt_rev, i_rev, cd_call, pt_call, i_call, cd_blt, pt_blt, i_blt, cd_mth, pt_mth, i_mth, cd_isin, pt_isin, i_isin, cd_setlen, pt_setlen, i_setlen, cd_lc, pt_lc, i_lc, ↓e_lc, ↓s_for, e_lc, s_for, nxt_nx, nxt_rt, nxt_bk, nxt_ct, rtK_p, exK_p, iteK_t, iteK_f, nxO_e, assK_p, parK_p, subK3_p, subK2_p, subK1_p, subK_p, nx2_p, appK1_p, appK_p, okK_t, forL_p, frzK_o, frzK_s, prmK_o, prmK_s, varK_s, varK_o, tupK_p, lstK_p, wiK_a, binK1_p, binK_p, negK_i, blK_b, cmpK1_p, cmpK_p, chainK_t, chainK_f, chK1_p, chK_p, isNK_p, nblK_b, notK_p, andK_t, andK_f, anK_p, orK_t, orK_f, oK_p, ifeK_t, ifeK_f, ifK_p, idxK1_p, idxK_p, siK_i, aiK_p, slcK2_p, slcK1_p, slcK_p, revK_p, callE_p, bltK_p, mthK1_p, mthK0_t, mthK_p, isinK_p, slnK1_p, slnK0_p, slnK_p, soK_v, giK_p, trK1_b, trK_p, elK_t, elK_f, lcK1_p, lcK_p, tuK_p, itK1_p, itK2_p, itK_p, coK_p, rcK1_p, rcK_p, crK_p, rrK_p, l_tup, l_lst, l_kl, l_fr, l_br, g_pv, g_fr, d_lst, d_fr, d_br, d_str, d_int, d_bl, d_non, d_tup, tr_bl, tr_int, tr_non, tr_str, n_non, n_int, n_str, n_tup, n_lst, n_bl, n_ref, x_tup, x_lst, x_kl, x_fr, x_br, a_v, a_t, gt_pv, gt_fr, as_v, as_tt, as_tl, as_n, as_c, o_rtp, o_rtf, o_rtb, o_nx, lpK_nx, lpK_ct, lpK_bk, lpK_rt, foK_e, forK_p, itm_tup, itm_lst, itm_kl, itm_fr, itm_br, itm_etup, itm_elst, itm_ekl, itm_efr, itm_ebr, itm_r1, itm_r2, at_nat, at_0, at_1, at_2, at_3, at_4, at_5, at_6, at_7, p_ii, p_ss, p_tt, p_ff, p_bf, p_lf, p_fl, p_ll, p_bl, p_sub, p_mulL, p_mulR, p_divP, p_modP, p_pow, c_lt, c_le, c_gt, c_ge, eqK1_v, eqK2_v, c_eq, c_ne, c_in, c_ni, inK_v, in_tup, in_lst, in_kl, in_fr, in_br, f_abs, f_int, f_lenS, f_lent, f_lenl, f_lenk, f_lenf, f_lenb, f_listk, f_listl, f_listt, f_listf, f_tupl, f_tupt, f_tupf, f_tupb, f_all, f_any, anyK_b, f_sort1, f_sort1f, mo_il, mo_ib, mo_ik, mo_if, mo_cl, mo_cb, mo_cf, ixK0_n, ixMK_v, m_il, m_ib, m_if, coMK_v, m_cl, m_cb, m_cf, apo_s, apoK_o, apoK_r, boK_l, ap_s, apK_o, apK_r, bxK_l, gu_c, gu_e, ok_non, ok_bl, ok_int, catK_s, catK_n, turK_p, tu_n, tu_c, bo_n, bo_c, in_n, in_c, al_n, al_t, al_f, nu_n, nu_c, refK_l, x_ref, setK1_m, setK_l, set_ref, ixn_20, ixn_21, ixn_31, ixn_30, ixn_32, sl_tup, sl_lst, sl_fr, sl_br, rv_lst, rv_fr, rv_br, asI_i, b_some, m_some, List.getElem?_cons_succ, List.getElem?_cons_zero, List.getElem?_nil, List.set_cons_succ, List.set_cons_zero, List.length_cons, List.length_nil, lim, Nat.reduceAdd, Nat.reduceLeDiff, Int.reduceLT, Nat.reduceLT, Nat.lt_add_left_iff_pos, E.isNil, wipeE, Nat.zero_lt_succ, if_true, if_false, Bool.true_bne, Bool.false_bne, bne_self_eq_false, Bool.not_true, Bool.not_false, Bool.not_not, Bool.bne_false, Bool.bne_true]
  | false =>
    cases hb : pvEq kd ki with
    | true =>
      have e : nv i kd = .int 5 := by unfold nv; rw [if_neg (of_decide_eq_false hd), if_pos hb]
      unfold ki at hb
      simp only [lcK_p, e__law_drawn_right_1, hx, Function.comp, newR, cell, ei, hd, e, k1, k2, oki, dki, hb, ↓s_seq, ↓s_skip, ↓s_pass, ↓s_brk, ↓s_cnt, ↓s_retN, ↓s_ret, ↓s_ex, ↓s_ite, ↓s_ass, ↓s_par, ↓s_sub, ↓s_app, ↓s_frz, ↓s_prm, ↓e_con, ↓e_glob, ↓e_var, ↓e_tup, ↓e_lst, ↓e_bin, ↓e_neg, ↓e_cmp, ↓e_chain, ↓e_isN, ↓e_not, ↓e_and, ↓e_or, ↓e_ife, ↓e_idx, ↓pt_nil, ↓e_slc, ↓e_rev, ↓e_call, ↓e_blt, ↓e_mth, ↓e_isin, ↓e_setlen, ↓cd_nil, ↓i_one, ↓t_t, ↓r_nil, ↓r_cons, ↓rr_nil, ↓rr_cons, ↓lp_n, ↓lp_c, ↓cd_con, ↓pt_con, ↓i_con, ↓cd_var, ↓pt_var, ↓i_var, ↓cd_glob, ↓pt_glob, ↓i_glob, ↓cd_tup, ↓pt_tup, ↓i_tup, ↓cd_lst, ↓pt_lst, ↓i_lst, ↓cd_bin, ↓pt_bin, ↓i_bin, ↓cd_neg, ↓pt_neg, ↓i_neg, ↓cd_cmp, ↓pt_cmp, ↓i_cmp, ↓cd_chain, ↓pt_chain, ↓i_chain, ↓cd_isN, ↓pt_isN, ↓i_isN, ↓cd_not, ↓pt_not, ↓i_not, ↓cd_and, ↓pt_and, ↓i_and, ↓cd_or, ↓pt_or, ↓i_or, ↓cd_ife, ↓pt_ife, ↓i_ife, ↓cd_idx, ↓pt_idx, ↓i_idx, ↓cd_slc, ↓pt_slc, ↓i_slc, ↓cd_rev, ↓pt_rev, ↓i_rev, ↓cd_call, ↓pt_call, ↓i_call, ↓cd_blt, ↓pt_blt, ↓i_blt, ↓cd_mth, ↓pt_mth, ↓i_mth, ↓cd_isin, ↓pt_isin, ↓i_isin, ↓cd_setlen, ↓pt_setlen, ↓i_setlen, ↓cd_lc, ↓pt_lc, ↓i_lc, s_seq, s_skip, s_pass, s_brk, s_cnt, s_retN, s_ret, s_ex, s_ite, s_ass, s_par, s_sub, s_app, s_frz, s_prm, e_con, e_glob, e_var, e_tup, e_lst, e_bin, e_neg, e_cmp, e_chain, e_isN, e_not, e_and, e_or, e_ife, e_idx, pt_nil, e_slc, e_rev, e_call, e_blt, e_mth, e_isin, e_setlen, cd_nil, i_one, t_t, r_nil, r_cons, rr_nil, rr_cons, lp_n, lp_c, cd_con, pt_con, i_con, cd_var, pt_var, i_var, cd_glob, pt_glob, i_glob, cd_tup, pt_tup, i_tup, cd_lst, pt_lst, i_lst, cd_bin, pt_bin, i_bin, cd_neg, pt_neg, i_neg, cd_cmp, pt_cmp, i_cmp, cd_chain, pt_chain, i_chain, cd_isN, pt_isN, i_isN, cd_not, pt_not, i_not, cd_and, pt_and, i_and, cd_or, pt_or, i_or, cd_ife, pt_ife, i_ife, cd_idx, pt_idx, i_idx, cd_slc, pt_slc, i_slc, cd_rev, pt_rev, i_rev, cd_call, pt_call, i_call, cd_blt, pt_blt, i_blt, cd_mth, pt_mth, i_mth, cd_isin, pt_isin, i_isin, cd_setlen, pt_setlen, i_setlen, cd_lc, pt_lc, i_lc, ↓e_lc, ↓s_for, e_lc, s_for, nxt_nx, nxt_rt, nxt_bk, nxt_ct, rtK_p, exK_p, iteK_t, iteK_f, nxO_e, assK_p, parK_p, subK3_p, subK2_p, subK1_p, subK_p, nx2_p, appK1_p, appK_p, okK_t, forL_p, frzK_o, frzK_s, prmK_o, prmK_s, varK_s, varK_o, tupK_p, lstK_p, wiK_a, binK1_p, binK_p, negK_i, blK_b, cmpK1_p, cmpK_p, chainK_t, chainK_f, chK1_p, chK_p, isNK_p, nblK_b, notK_p, andK_t, andK_f, anK_p, orK_t, orK_f, oK_p, ifeK_t, ifeK_f, ifK_p, idxK1_p, idxK_p, siK_i, aiK_p, slcK2_p, slcK1_p, slcK_p, revK_p, callE_p, bltK_p, mthK1_p, mthK0_t, mthK_p, isinK_p, slnK1_p, slnK0_p, slnK_p, soK_v, giK_p, trK1_b, trK_p, elK_t, elK_f, lcK1_p, lcK_p, tuK_p, itK1_p, itK2_p, itK_p, coK_p, rcK1_p, rcK_p, crK_p, rrK_p, l_tup, l_lst, l_kl, l_fr, l_br, g_pv, g_fr, d_lst, d_fr, d_br, d_str, d_int, d_bl, d_non, d_tup, tr_bl, tr_int, tr_non, tr_str, n_non, n_int, n_str, n_tup, n_lst, n_bl, n_ref, x_tup, x_lst, x_kl, x_fr, x_br, a_v, a_t, gt_pv, gt_fr, as_v, as_tt, as_tl, as_n, as_c, o_rtp, o_rtf, o_rtb, o_nx, lpK_nx, lpK_ct, lpK_bk, lpK_rt, foK_e, forK_p, itm_tup, itm_lst, itm_kl, itm_fr, itm_br, itm_etup, itm_elst, itm_ekl, itm_efr, itm_ebr, itm_r1, itm_r2, at_nat, at_0, at_1, at_2, at_3, at_4, at_5, at_6, at_7, p_ii, p_ss, p_tt, p_ff, p_bf, p_lf, p_fl, p_ll, p_bl, p_sub, p_mulL, p_mulR, p_divP, p_modP, p_pow, c_lt, c_le, c_gt, c_ge, eqK1_v, eqK2_v, c_eq, c_ne, c_in, c_ni, inK_v, in_tup, in_lst, in_kl, in_fr, in_br, f_abs, f_int, f_lenS, f_lent, f_lenl, f_lenk, f_lenf, f_lenb, f_listk, f_listl, f_listt, f_listf, f_tupl, f_tupt, f_tupf, f_tupb, f_all, f_any, anyK_b, f_sort1, f_sort1f, mo_il, mo_ib, mo_ik, mo_if, mo_cl, mo_cb, mo_cf, ixK0_n, ixMK_v, m_il, m_ib, m_if, coMK_v, m_cl, m_cb, m_cf, apo_s, apoK_o, apoK_r, boK_l, ap_s, apK_o, apK_r, bxK_l, gu_c, gu_e, ok_non, ok_bl, ok_int, catK_s, catK_n, turK_p, tu_n, tu_c, bo_n, bo_c, in_n, in_c, al_n, al_t, al_f, nu_n, nu_c, refK_l, x_ref, setK1_m, setK_l, set_ref, ixn_20, ixn_21, ixn_31, ixn_30, ixn_32, sl_tup, sl_lst, sl_fr, sl_br, rv_lst, rv_fr, rv_br, asI_i, b_some, m_some, List.getElem?_cons_succ, List.getElem?_cons_zero, List.getElem?_nil, List.set_cons_succ, List.set_cons_zero, List.length_cons, List.length_nil, lim, Nat.reduceAdd, Nat.reduceLeDiff, Int.reduceLT, Nat.reduceLT, Nat.lt_add_left_iff_pos, E.isNil, wipeE, Nat.zero_lt_succ, if_true, if_false, Bool.true_bne, Bool.false_bne, bne_self_eq_false, Bool.not_true, Bool.not_false, Bool.not_not, Bool.bne_false, Bool.bne_true]
    | false =>
      have e : nv i kd = .str "no" := by unfold nv; rw [if_neg (of_decide_eq_false hd), hb]; rfl
      unfold ki at hb
      simp only [lcK_p, e__law_drawn_right_1, hx, Function.comp, newR, cell, ei, hd, e, k1, k2, oki, dki, hb, ↓s_seq, ↓s_skip, ↓s_pass, ↓s_brk, ↓s_cnt, ↓s_retN, ↓s_ret, ↓s_ex, ↓s_ite, ↓s_ass, ↓s_par, ↓s_sub, ↓s_app, ↓s_frz, ↓s_prm, ↓e_con, ↓e_glob, ↓e_var, ↓e_tup, ↓e_lst, ↓e_bin, ↓e_neg, ↓e_cmp, ↓e_chain, ↓e_isN, ↓e_not, ↓e_and, ↓e_or, ↓e_ife, ↓e_idx, ↓pt_nil, ↓e_slc, ↓e_rev, ↓e_call, ↓e_blt, ↓e_mth, ↓e_isin, ↓e_setlen, ↓cd_nil, ↓i_one, ↓t_t, ↓r_nil, ↓r_cons, ↓rr_nil, ↓rr_cons, ↓lp_n, ↓lp_c, ↓cd_con, ↓pt_con, ↓i_con, ↓cd_var, ↓pt_var, ↓i_var, ↓cd_glob, ↓pt_glob, ↓i_glob, ↓cd_tup, ↓pt_tup, ↓i_tup, ↓cd_lst, ↓pt_lst, ↓i_lst, ↓cd_bin, ↓pt_bin, ↓i_bin, ↓cd_neg, ↓pt_neg, ↓i_neg, ↓cd_cmp, ↓pt_cmp, ↓i_cmp, ↓cd_chain, ↓pt_chain, ↓i_chain, ↓cd_isN, ↓pt_isN, ↓i_isN, ↓cd_not, ↓pt_not, ↓i_not, ↓cd_and, ↓pt_and, ↓i_and, ↓cd_or, ↓pt_or, ↓i_or, ↓cd_ife, ↓pt_ife, ↓i_ife, ↓cd_idx, ↓pt_idx, ↓i_idx, ↓cd_slc, ↓pt_slc, ↓i_slc, ↓cd_rev, ↓pt_rev, ↓i_rev, ↓cd_call, ↓pt_call, ↓i_call, ↓cd_blt, ↓pt_blt, ↓i_blt, ↓cd_mth, ↓pt_mth, ↓i_mth, ↓cd_isin, ↓pt_isin, ↓i_isin, ↓cd_setlen, ↓pt_setlen, ↓i_setlen, ↓cd_lc, ↓pt_lc, ↓i_lc, s_seq, s_skip, s_pass, s_brk, s_cnt, s_retN, s_ret, s_ex, s_ite, s_ass, s_par, s_sub, s_app, s_frz, s_prm, e_con, e_glob, e_var, e_tup, e_lst, e_bin, e_neg, e_cmp, e_chain, e_isN, e_not, e_and, e_or, e_ife, e_idx, pt_nil, e_slc, e_rev, e_call, e_blt, e_mth, e_isin, e_setlen, cd_nil, i_one, t_t, r_nil, r_cons, rr_nil, rr_cons, lp_n, lp_c, cd_con, pt_con, i_con, cd_var, pt_var, i_var, cd_glob, pt_glob, i_glob, cd_tup, pt_tup, i_tup, cd_lst, pt_lst, i_lst, cd_bin, pt_bin, i_bin, cd_neg, pt_neg, i_neg, cd_cmp, pt_cmp, i_cmp, cd_chain, pt_chain, i_chain, cd_isN, pt_isN, i_isN, cd_not, pt_not, i_not, cd_and, pt_and, i_and, cd_or, pt_or, i_or, cd_ife, pt_ife, i_ife, cd_idx, pt_idx, i_idx, cd_slc, pt_slc, i_slc, cd_rev, pt_rev, i_rev, cd_call, pt_call, i_call, cd_blt, pt_blt, i_blt, cd_mth, pt_mth, i_mth, cd_isin, pt_isin, i_isin, cd_setlen, pt_setlen, i_setlen, cd_lc, pt_lc, i_lc, ↓e_lc, ↓s_for, e_lc, s_for, nxt_nx, nxt_rt, nxt_bk, nxt_ct, rtK_p, exK_p, iteK_t, iteK_f, nxO_e, assK_p, parK_p, subK3_p, subK2_p, subK1_p, subK_p, nx2_p, appK1_p, appK_p, okK_t, forL_p, frzK_o, frzK_s, prmK_o, prmK_s, varK_s, varK_o, tupK_p, lstK_p, wiK_a, binK1_p, binK_p, negK_i, blK_b, cmpK1_p, cmpK_p, chainK_t, chainK_f, chK1_p, chK_p, isNK_p, nblK_b, notK_p, andK_t, andK_f, anK_p, orK_t, orK_f, oK_p, ifeK_t, ifeK_f, ifK_p, idxK1_p, idxK_p, siK_i, aiK_p, slcK2_p, slcK1_p, slcK_p, revK_p, callE_p, bltK_p, mthK1_p, mthK0_t, mthK_p, isinK_p, slnK1_p, slnK0_p, slnK_p, soK_v, giK_p, trK1_b, trK_p, elK_t, elK_f, lcK1_p, lcK_p, tuK_p, itK1_p, itK2_p, itK_p, coK_p, rcK1_p, rcK_p, crK_p, rrK_p, l_tup, l_lst, l_kl, l_fr, l_br, g_pv, g_fr, d_lst, d_fr, d_br, d_str, d_int, d_bl, d_non, d_tup, tr_bl, tr_int, tr_non, tr_str, n_non, n_int, n_str, n_tup, n_lst, n_bl, n_ref, x_tup, x_lst, x_kl, x_fr, x_br, a_v, a_t, gt_pv, gt_fr, as_v, as_tt, as_tl, as_n, as_c, o_rtp, o_rtf, o_rtb, o_nx, lpK_nx, lpK_ct, lpK_bk, lpK_rt, foK_e, forK_p, itm_tup, itm_lst, itm_kl, itm_fr, itm_br, itm_etup, itm_elst, itm_ekl, itm_efr, itm_ebr, itm_r1, itm_r2, at_nat, at_0, at_1, at_2, at_3, at_4, at_5, at_6, at_7, p_ii, p_ss, p_tt, p_ff, p_bf, p_lf, p_fl, p_ll, p_bl, p_sub, p_mulL, p_mulR, p_divP, p_modP, p_pow, c_lt, c_le, c_gt, c_ge, eqK1_v, eqK2_v, c_eq, c_ne, c_in, c_ni, inK_v, in_tup, in_lst, in_kl, in_fr, in_br, f_abs, f_int, f_lenS, f_lent, f_lenl, f_lenk, f_lenf, f_lenb, f_listk, f_listl, f_listt, f_listf, f_tupl, f_tupt, f_tupf, f_tupb, f_all, f_any, anyK_b, f_sort1, f_sort1f, mo_il, mo_ib, mo_ik, mo_if, mo_cl, mo_cb, mo_cf, ixK0_n, ixMK_v, m_il, m_ib, m_if, coMK_v, m_cl, m_cb, m_cf, apo_s, apoK_o, apoK_r, boK_l, ap_s, apK_o, apK_r, bxK_l, gu_c, gu_e, ok_non, ok_bl, ok_int, catK_s, catK_n, turK_p, tu_n, tu_c, bo_n, bo_c, in_n, in_c, al_n, al_t, al_f, nu_n, nu_c, refK_l, x_ref, setK1_m, setK_l, set_ref, ixn_20, ixn_21, ixn_31, ixn_30, ixn_32, sl_tup, sl_lst, sl_fr, sl_br, rv_lst, rv_fr, rv_br, asI_i, b_some, m_some, List.getElem?_cons_succ, List.getElem?_cons_zero, List.getElem?_nil, List.set_cons_succ, List.set_cons_zero, List.length_cons, List.length_nil, lim, Nat.reduceAdd, Nat.reduceLeDiff, Int.reduceLT, Nat.reduceLT, Nat.lt_add_left_iff_pos, E.isNil, wipeE, Nat.zero_lt_succ, if_true, if_false, Bool.true_bne, Bool.false_bne, bne_self_eq_false, Bool.not_true, Bool.not_false, Bool.not_not, Bool.bne_false, Bool.bne_true]

theorem c3 (k : Nat) (h : Hh) {rs : List Row} (hrs : ∀ r ∈ rs, RowOk r) (hl : rs.length ≤ 100) (a0 a1 a2 a3 a4 a7 a8 a9 a10 a11 a12 a13 a14 a15 a16 : Sl) : turns (lcK (callK G.ds (k + 1)) [13] e__law_drawn_right_3 (.v 13) .nil [a0, a1, a2, a3, a4, .sh (.lst (eA.map PV.str)), .sh (.lst (rs.map cell)), a7, a8, a9, a10, a11, a12, a13, a14, a15, a16]) ((List.range rs.length).map fun (i : Nat) => PV.int i) h = some (wordsP true rs, h) := by
  rw [range_map]
  unfold wordsP
  refine turns_all rs.zipIdx h ?_
  rintro ⟨r, i⟩ m
  have hi : rs[i]? = some r := List.mem_zipIdx_iff_getElem?.mp m
  have ro := hrs r (List.mem_of_getElem? hi)
  have hx : L2.atI (rs.map cell) (i : Int) = some (cell r) := by
    rw [at_nat, List.getElem?_map, hi]; rfl
  have ei : pvEq (.int (i : Int)) (.int 0) = decide (i = 0) := by
    show ((i : Int) == 0) = _
    by_cases c : i = 0
    · subst c; rfl
    · simp only [c, decide_false, beq_eq_false_iff_ne]; omega
  have lw := law_word_ok k h (f := true) hi hrs hl
  simp only [lcK_p, e__law_drawn_right_3, lw, ↓s_seq, ↓s_skip, ↓s_pass, ↓s_brk, ↓s_cnt, ↓s_retN, ↓s_ret, ↓s_ex, ↓s_ite, ↓s_ass, ↓s_par, ↓s_sub, ↓s_app, ↓s_frz, ↓s_prm, ↓e_con, ↓e_glob, ↓e_var, ↓e_tup, ↓e_lst, ↓e_bin, ↓e_neg, ↓e_cmp, ↓e_chain, ↓e_isN, ↓e_not, ↓e_and, ↓e_or, ↓e_ife, ↓e_idx, ↓pt_nil, ↓e_slc, ↓e_rev, ↓e_call, ↓e_blt, ↓e_mth, ↓e_isin, ↓e_setlen, ↓cd_nil, ↓i_one, ↓t_t, ↓r_nil, ↓r_cons, ↓rr_nil, ↓rr_cons, ↓lp_n, ↓lp_c, ↓cd_con, ↓pt_con, ↓i_con, ↓cd_var, ↓pt_var, ↓i_var, ↓cd_glob, ↓pt_glob, ↓i_glob, ↓cd_tup, ↓pt_tup, ↓i_tup, ↓cd_lst, ↓pt_lst, ↓i_lst, ↓cd_bin, ↓pt_bin, ↓i_bin, ↓cd_neg, ↓pt_neg, ↓i_neg, ↓cd_cmp, ↓pt_cmp, ↓i_cmp, ↓cd_chain, ↓pt_chain, ↓i_chain, ↓cd_isN, ↓pt_isN, ↓i_isN, ↓cd_not, ↓pt_not, ↓i_not, ↓cd_and, ↓pt_and, ↓i_and, ↓cd_or, ↓pt_or, ↓i_or, ↓cd_ife, ↓pt_ife, ↓i_ife, ↓cd_idx, ↓pt_idx, ↓i_idx, ↓cd_slc, ↓pt_slc, ↓i_slc, ↓cd_rev, ↓pt_rev, ↓i_rev, ↓cd_call, ↓pt_call, ↓i_call, ↓cd_blt, ↓pt_blt, ↓i_blt, ↓cd_mth, ↓pt_mth, ↓i_mth, ↓cd_isin, ↓pt_isin, ↓i_isin, ↓cd_setlen, ↓pt_setlen, ↓i_setlen, ↓cd_lc, ↓pt_lc, ↓i_lc, s_seq, s_skip, s_pass, s_brk, s_cnt, s_retN, s_ret, s_ex, s_ite, s_ass, s_par, s_sub, s_app, s_frz, s_prm, e_con, e_glob, e_var, e_tup, e_lst, e_bin, e_neg, e_cmp, e_chain, e_isN, e_not, e_and, e_or, e_ife, e_idx, pt_nil, e_slc, e_rev, e_call, e_blt, e_mth, e_isin, e_setlen, cd_nil, i_one, t_t, r_nil, r_cons, rr_nil, rr_cons, lp_n, lp_c, cd_con, pt_con, i_con, cd_var, pt_var, i_var, cd_glob, pt_glob, i_glob, cd_tup, pt_tup, i_tup, cd_lst, pt_lst, i_lst, cd_bin, pt_bin, i_bin, cd_neg, pt_neg, i_neg, cd_cmp, pt_cmp, i_cmp, cd_chain, pt_chain, i_chain, cd_isN, pt_isN, i_isN, cd_not, pt_not, i_not, cd_and, pt_and, i_and, cd_or, pt_or, i_or, cd_ife, pt_ife, i_ife, cd_idx, pt_idx, i_idx, cd_slc, pt_slc, i_slc, cd_rev, pt_rev, i_rev, cd_call, pt_call, i_call, cd_blt, pt_blt, i_blt, cd_mth, pt_mth, i_mth, cd_isin, pt_isin, i_isin, cd_setlen, pt_setlen, i_setlen, cd_lc, pt_lc, i_lc, ↓e_lc, ↓s_for, e_lc, s_for, nxt_nx, nxt_rt, nxt_bk, nxt_ct, rtK_p, exK_p, iteK_t, iteK_f, nxO_e, assK_p, parK_p, subK3_p, subK2_p, subK1_p, subK_p, nx2_p, appK1_p, appK_p, okK_t, forL_p, frzK_o, frzK_s, prmK_o, prmK_s, varK_s, varK_o, tupK_p, lstK_p, wiK_a, binK1_p, binK_p, negK_i, blK_b, cmpK1_p, cmpK_p, chainK_t, chainK_f, chK1_p, chK_p, isNK_p, nblK_b, notK_p, andK_t, andK_f, anK_p, orK_t, orK_f, oK_p, ifeK_t, ifeK_f, ifK_p, idxK1_p, idxK_p, siK_i, aiK_p, slcK2_p, slcK1_p, slcK_p, revK_p, callE_p, bltK_p, mthK1_p, mthK0_t, mthK_p, isinK_p, slnK1_p, slnK0_p, slnK_p, soK_v, giK_p, trK1_b, trK_p, elK_t, elK_f, lcK1_p, lcK_p, tuK_p, itK1_p, itK2_p, itK_p, coK_p, rcK1_p, rcK_p, crK_p, rrK_p, l_tup, l_lst, l_kl, l_fr, l_br, g_pv, g_fr, d_lst, d_fr, d_br, d_str, d_int, d_bl, d_non, d_tup, tr_bl, tr_int, tr_non, tr_str, n_non, n_int, n_str, n_tup, n_lst, n_bl, n_ref, x_tup, x_lst, x_kl, x_fr, x_br, a_v, a_t, gt_pv, gt_fr, as_v, as_tt, as_tl, as_n, as_c, o_rtp, o_rtf, o_rtb, o_nx, lpK_nx, lpK_ct, lpK_bk, lpK_rt, foK_e, forK_p, itm_tup, itm_lst, itm_kl, itm_fr, itm_br, itm_etup, itm_elst, itm_ekl, itm_efr, itm_ebr, itm_r1, itm_r2, at_nat, at_0, at_1, at_2, at_3, at_4, at_5, at_6, at_7, p_ii, p_ss, p_tt, p_ff, p_bf, p_lf, p_fl, p_ll, p_bl, p_sub, p_mulL, p_mulR, p_divP, p_modP, p_pow, c_lt, c_le, c_gt, c_ge, eqK1_v, eqK2_v, c_eq, c_ne, c_in, c_ni, inK_v, in_tup, in_lst, in_kl, in_fr, in_br, f_abs, f_int, f_lenS, f_lent, f_lenl, f_lenk, f_lenf, f_lenb, f_listk, f_listl, f_listt, f_listf, f_tupl, f_tupt, f_tupf, f_tupb, f_all, f_any, anyK_b, f_sort1, f_sort1f, mo_il, mo_ib, mo_ik, mo_if, mo_cl, mo_cb, mo_cf, ixK0_n, ixMK_v, m_il, m_ib, m_if, coMK_v, m_cl, m_cb, m_cf, apo_s, apoK_o, apoK_r, boK_l, ap_s, apK_o, apK_r, bxK_l, gu_c, gu_e, ok_non, ok_bl, ok_int, catK_s, catK_n, turK_p, tu_n, tu_c, bo_n, bo_c, in_n, in_c, al_n, al_t, al_f, nu_n, nu_c, refK_l, x_ref, setK1_m, setK_l, set_ref, ixn_20, ixn_21, ixn_31, ixn_30, ixn_32, sl_tup, sl_lst, sl_fr, sl_br, rv_lst, rv_fr, rv_br, asI_i, b_some, m_some, List.getElem?_cons_succ, List.getElem?_cons_zero, List.getElem?_nil, List.set_cons_succ, List.set_cons_zero, List.length_cons, List.length_nil, lim, Nat.reduceAdd, Nat.reduceLeDiff, Int.reduceLT, Nat.reduceLT, Nat.lt_add_left_iff_pos, E.isNil, wipeE, Nat.zero_lt_succ, if_true, if_false, Bool.true_bne, Bool.false_bne, bne_self_eq_false, Bool.not_true, Bool.not_false, Bool.not_not, Bool.bne_false, Bool.bne_true]

theorem c12 (k : Nat) (h : Hh) {rs : List Row} (hrs : ∀ r ∈ rs, RowOk r) (hl : rs.length ≤ 100) (a0 a1 a2 a3 a4 a7 a8 a9 a10 a11 a12 a13 a14 a15 a16 : Sl) : turns (lcK (callK G.ds (k + 1)) [13] e__law_drawn_right_12 (.v 13) .nil [a0, a1, a2, a3, a4, .sh (.lst (eA.map PV.str)), .sh (.lst (rs.map cell)), a7, a8, a9, a10, a11, a12, a13, a14, a15, a16]) ((List.range rs.length).map fun (i : Nat) => PV.int i) h = some (wordsP false rs, h) := by
  rw [range_map]
  unfold wordsP
  refine turns_all rs.zipIdx h ?_
  rintro ⟨r, i⟩ m
  have hi : rs[i]? = some r := List.mem_zipIdx_iff_getElem?.mp m
  have ro := hrs r (List.mem_of_getElem? hi)
  have hx : L2.atI (rs.map cell) (i : Int) = some (cell r) := by
    rw [at_nat, List.getElem?_map, hi]; rfl
  have ei : pvEq (.int (i : Int)) (.int 0) = decide (i = 0) := by
    show ((i : Int) == 0) = _
    by_cases c : i = 0
    · subst c; rfl
    · simp only [c, decide_false, beq_eq_false_iff_ne]; omega
  have lw := law_word_ok k h (f := false) hi hrs hl
  simp only [lcK_p, e__law_drawn_right_12, lw, ↓s_seq, ↓s_skip, ↓s_pass, ↓s_brk, ↓s_cnt, ↓s_retN, ↓s_ret, ↓s_ex, ↓s_ite, ↓s_ass, ↓s_par, ↓s_sub, ↓s_app, ↓s_frz, ↓s_prm, ↓e_con, ↓e_glob, ↓e_var, ↓e_tup, ↓e_lst, ↓e_bin, ↓e_neg, ↓e_cmp, ↓e_chain, ↓e_isN, ↓e_not, ↓e_and, ↓e_or, ↓e_ife, ↓e_idx, ↓pt_nil, ↓e_slc, ↓e_rev, ↓e_call, ↓e_blt, ↓e_mth, ↓e_isin, ↓e_setlen, ↓cd_nil, ↓i_one, ↓t_t, ↓r_nil, ↓r_cons, ↓rr_nil, ↓rr_cons, ↓lp_n, ↓lp_c, ↓cd_con, ↓pt_con, ↓i_con, ↓cd_var, ↓pt_var, ↓i_var, ↓cd_glob, ↓pt_glob, ↓i_glob, ↓cd_tup, ↓pt_tup, ↓i_tup, ↓cd_lst, ↓pt_lst, ↓i_lst, ↓cd_bin, ↓pt_bin, ↓i_bin, ↓cd_neg, ↓pt_neg, ↓i_neg, ↓cd_cmp, ↓pt_cmp, ↓i_cmp, ↓cd_chain, ↓pt_chain, ↓i_chain, ↓cd_isN, ↓pt_isN, ↓i_isN, ↓cd_not, ↓pt_not, ↓i_not, ↓cd_and, ↓pt_and, ↓i_and, ↓cd_or, ↓pt_or, ↓i_or, ↓cd_ife, ↓pt_ife, ↓i_ife, ↓cd_idx, ↓pt_idx, ↓i_idx, ↓cd_slc, ↓pt_slc, ↓i_slc, ↓cd_rev, ↓pt_rev, ↓i_rev, ↓cd_call, ↓pt_call, ↓i_call, ↓cd_blt, ↓pt_blt, ↓i_blt, ↓cd_mth, ↓pt_mth, ↓i_mth, ↓cd_isin, ↓pt_isin, ↓i_isin, ↓cd_setlen, ↓pt_setlen, ↓i_setlen, ↓cd_lc, ↓pt_lc, ↓i_lc, s_seq, s_skip, s_pass, s_brk, s_cnt, s_retN, s_ret, s_ex, s_ite, s_ass, s_par, s_sub, s_app, s_frz, s_prm, e_con, e_glob, e_var, e_tup, e_lst, e_bin, e_neg, e_cmp, e_chain, e_isN, e_not, e_and, e_or, e_ife, e_idx, pt_nil, e_slc, e_rev, e_call, e_blt, e_mth, e_isin, e_setlen, cd_nil, i_one, t_t, r_nil, r_cons, rr_nil, rr_cons, lp_n, lp_c, cd_con, pt_con, i_con, cd_var, pt_var, i_var, cd_glob, pt_glob, i_glob, cd_tup, pt_tup, i_tup, cd_lst, pt_lst, i_lst, cd_bin, pt_bin, i_bin, cd_neg, pt_neg, i_neg, cd_cmp, pt_cmp, i_cmp, cd_chain, pt_chain, i_chain, cd_isN, pt_isN, i_isN, cd_not, pt_not, i_not, cd_and, pt_and, i_and, cd_or, pt_or, i_or, cd_ife, pt_ife, i_ife, cd_idx, pt_idx, i_idx, cd_slc, pt_slc, i_slc, cd_rev, pt_rev, i_rev, cd_call, pt_call, i_call, cd_blt, pt_blt, i_blt, cd_mth, pt_mth, i_mth, cd_isin, pt_isin, i_isin, cd_setlen, pt_setlen, i_setlen, cd_lc, pt_lc, i_lc, ↓e_lc, ↓s_for, e_lc, s_for, nxt_nx, nxt_rt, nxt_bk, nxt_ct, rtK_p, exK_p, iteK_t, iteK_f, nxO_e, assK_p, parK_p, subK3_p, subK2_p, subK1_p, subK_p, nx2_p, appK1_p, appK_p, okK_t, forL_p, frzK_o, frzK_s, prmK_o, prmK_s, varK_s, varK_o, tupK_p, lstK_p, wiK_a, binK1_p, binK_p, negK_i, blK_b, cmpK1_p, cmpK_p, chainK_t, chainK_f, chK1_p, chK_p, isNK_p, nblK_b, notK_p, andK_t, andK_f, anK_p, orK_t, orK_f, oK_p, ifeK_t, ifeK_f, ifK_p, idxK1_p, idxK_p, siK_i, aiK_p, slcK2_p, slcK1_p, slcK_p, revK_p, callE_p, bltK_p, mthK1_p, mthK0_t, mthK_p, isinK_p, slnK1_p, slnK0_p, slnK_p, soK_v, giK_p, trK1_b, trK_p, elK_t, elK_f, lcK1_p, lcK_p, tuK_p, itK1_p, itK2_p, itK_p, coK_p, rcK1_p, rcK_p, crK_p, rrK_p, l_tup, l_lst, l_kl, l_fr, l_br, g_pv, g_fr, d_lst, d_fr, d_br, d_str, d_int, d_bl, d_non, d_tup, tr_bl, tr_int, tr_non, tr_str, n_non, n_int, n_str, n_tup, n_lst, n_bl, n_ref, x_tup, x_lst, x_kl, x_fr, x_br, a_v, a_t, gt_pv, gt_fr, as_v, as_tt, as_tl, as_n, as_c, o_rtp, o_rtf, o_rtb, o_nx, lpK_nx, lpK_ct, lpK_bk, lpK_rt, foK_e, forK_p, itm_tup, itm_lst, itm_kl, itm_fr, itm_br, itm_etup, itm_elst, itm_ekl, itm_efr, itm_ebr, itm_r1, itm_r2, at_nat, at_0, at_1, at_2, at_3, at_4, at_5, at_6, at_7, p_ii, p_ss, p_tt, p_ff, p_bf, p_lf, p_fl, p_ll, p_bl, p_sub, p_mulL, p_mulR, p_divP, p_modP, p_pow, c_lt, c_le, c_gt, c_ge, eqK1_v, eqK2_v, c_eq, c_ne, c_in, c_ni, inK_v, in_tup, in_lst, in_kl, in_fr, in_br, f_abs, f_int, f_lenS, f_lent, f_lenl, f_lenk, f_lenf, f_lenb, f_listk, f_listl, f_listt, f_listf, f_tupl, f_tupt, f_tupf, f_tupb, f_all, f_any, anyK_b, f_sort1, f_sort1f, mo_il, mo_ib, mo_ik, mo_if, mo_cl, mo_cb, mo_cf, ixK0_n, ixMK_v, m_il, m_ib, m_if, coMK_v, m_cl, m_cb, m_cf, apo_s, apoK_o, apoK_r, boK_l, ap_s, apK_o, apK_r, bxK_l, gu_c, gu_e, ok_non, ok_bl, ok_int, catK_s, catK_n, turK_p, tu_n, tu_c, bo_n, bo_c, in_n, in_c, al_n, al_t, al_f, nu_n, nu_c, refK_l, x_ref, setK1_m, setK_l, set_ref, ixn_20, ixn_21, ixn_31, ixn_30, ixn_32, sl_tup, sl_lst, sl_fr, sl_br, rv_lst, rv_fr, rv_br, asI_i, b_some, m_some, List.getElem?_cons_succ, List.getElem?_cons_zero, List.getElem?_nil, List.set_cons_succ, List.set_cons_zero, List.length_cons, List.length_nil, lim, Nat.reduceAdd, Nat.reduceLeDiff, Int.reduceLT, Nat.reduceLT, Nat.lt_add_left_iff_pos, E.isNil, wipeE, Nat.zero_lt_succ, if_true, if_false, Bool.true_bne, Bool.false_bne, bne_self_eq_false, Bool.not_true, Bool.not_false, Bool.not_not, Bool.bne_false, Bool.bne_true]

theorem c4 (k : Nat) (h : Hh) {rs : List Row} (hrs : ∀ r ∈ rs, RowOk r) (hl : rs.length ≤ 100) (a0 a1 a2 a4 a5 a6 a7 a8 a9 a10 a11 a12 a13 a14 a15 a16 : Sl) : turns (lcK (callK G.ds (k + 1)) [13] e__law_drawn_right_4 (.v 13) w__law_drawn_right_4 [a0, a1, a2, .sh (.lst (wordsP true rs)), a4, a5, a6, a7, a8, a9, a10, a11, a12, a13, a14, a15, a16]) ((List.range rs.length).map fun (i : Nat) => PV.int i) h = some (said [.int 0, .int 0, .int 2, .int 0, .int 1] true rs, h) := by
  rw [range_map]
  unfold said
  refine turns_map rs.zipIdx h ?_
  rintro ⟨r, i⟩ m
  have hi : rs[i]? = some r := List.mem_zipIdx_iff_getElem?.mp m
  have ro := hrs r (List.mem_of_getElem? hi)
  have hx : L2.atI (rs.map cell) (i : Int) = some (cell r) := by
    rw [at_nat, List.getElem?_map, hi]; rfl
  have ei : pvEq (.int (i : Int)) (.int 0) = decide (i = 0) := by
    show ((i : Int) == 0) = _
    by_cases c : i = 0
    · subst c; rfl
    · simp only [c, decide_false, beq_eq_false_iff_ne]; omega
  have hw : L2.atI (wordsP true rs) (i : Int) = some (tp (lword rs true i r)) := by
    rw [at_nat, wordsP, List.getElem?_map, List.getElem?_zipIdx, hi]
    simp
  cases hq : lword rs true i r with
  | none =>
    rw [hq] at hw
    simp only [lcK_p, e__law_drawn_right_4, w__law_drawn_right_4, hw, tp_n, hq, Option.map_none, ↓s_seq, ↓s_skip, ↓s_pass, ↓s_brk, ↓s_cnt, ↓s_retN, ↓s_ret, ↓s_ex, ↓s_ite, ↓s_ass, ↓s_par, ↓s_sub, ↓s_app, ↓s_frz, ↓s_prm, ↓e_con, ↓e_glob, ↓e_var, ↓e_tup, ↓e_lst, ↓e_bin, ↓e_neg, ↓e_cmp, ↓e_chain, ↓e_isN, ↓e_not, ↓e_and, ↓e_or, ↓e_ife, ↓e_idx, ↓pt_nil, ↓e_slc, ↓e_rev, ↓e_call, ↓e_blt, ↓e_mth, ↓e_isin, ↓e_setlen, ↓cd_nil, ↓i_one, ↓t_t, ↓r_nil, ↓r_cons, ↓rr_nil, ↓rr_cons, ↓lp_n, ↓lp_c, ↓cd_con, ↓pt_con, ↓i_con, ↓cd_var, ↓pt_var, ↓i_var, ↓cd_glob, ↓pt_glob, ↓i_glob, ↓cd_tup, ↓pt_tup, ↓i_tup, ↓cd_lst, ↓pt_lst, ↓i_lst, ↓cd_bin, ↓pt_bin, ↓i_bin, ↓cd_neg, ↓pt_neg, ↓i_neg, ↓cd_cmp, ↓pt_cmp, ↓i_cmp, ↓cd_chain, ↓pt_chain, ↓i_chain, ↓cd_isN, ↓pt_isN, ↓i_isN, ↓cd_not, ↓pt_not, ↓i_not, ↓cd_and, ↓pt_and, ↓i_and, ↓cd_or, ↓pt_or, ↓i_or, ↓cd_ife, ↓pt_ife, ↓i_ife, ↓cd_idx, ↓pt_idx, ↓i_idx, ↓cd_slc, ↓pt_slc, ↓i_slc, ↓cd_rev, ↓pt_rev, ↓i_rev, ↓cd_call, ↓pt_call, ↓i_call, ↓cd_blt, ↓pt_blt, ↓i_blt, ↓cd_mth, ↓pt_mth, ↓i_mth, ↓cd_isin, ↓pt_isin, ↓i_isin, ↓cd_setlen, ↓pt_setlen, ↓i_setlen, ↓cd_lc, ↓pt_lc, ↓i_lc, s_seq, s_skip, s_pass, s_brk, s_cnt, s_retN, s_ret, s_ex, s_ite, s_ass, s_par, s_sub, s_app, s_frz, s_prm, e_con, e_glob, e_var, e_tup, e_lst, e_bin, e_neg, e_cmp, e_chain, e_isN, e_not, e_and, e_or, e_ife, e_idx, pt_nil, e_slc, e_rev, e_call, e_blt, e_mth, e_isin, e_setlen, cd_nil, i_one, t_t, r_nil, r_cons, rr_nil, rr_cons, lp_n, lp_c, cd_con, pt_con, i_con, cd_var, pt_var, i_var, cd_glob, pt_glob, i_glob, cd_tup, pt_tup, i_tup, cd_lst, pt_lst, i_lst, cd_bin, pt_bin, i_bin, cd_neg, pt_neg, i_neg, cd_cmp, pt_cmp, i_cmp, cd_chain, pt_chain, i_chain, cd_isN, pt_isN, i_isN, cd_not, pt_not, i_not, cd_and, pt_and, i_and, cd_or, pt_or, i_or, cd_ife, pt_ife, i_ife, cd_idx, pt_idx, i_idx, cd_slc, pt_slc, i_slc, cd_rev, pt_rev, i_rev, cd_call, pt_call, i_call, cd_blt, pt_blt, i_blt, cd_mth, pt_mth, i_mth, cd_isin, pt_isin, i_isin, cd_setlen, pt_setlen, i_setlen, cd_lc, pt_lc, i_lc, ↓e_lc, ↓s_for, e_lc, s_for, nxt_nx, nxt_rt, nxt_bk, nxt_ct, rtK_p, exK_p, iteK_t, iteK_f, nxO_e, assK_p, parK_p, subK3_p, subK2_p, subK1_p, subK_p, nx2_p, appK1_p, appK_p, okK_t, forL_p, frzK_o, frzK_s, prmK_o, prmK_s, varK_s, varK_o, tupK_p, lstK_p, wiK_a, binK1_p, binK_p, negK_i, blK_b, cmpK1_p, cmpK_p, chainK_t, chainK_f, chK1_p, chK_p, isNK_p, nblK_b, notK_p, andK_t, andK_f, anK_p, orK_t, orK_f, oK_p, ifeK_t, ifeK_f, ifK_p, idxK1_p, idxK_p, siK_i, aiK_p, slcK2_p, slcK1_p, slcK_p, revK_p, callE_p, bltK_p, mthK1_p, mthK0_t, mthK_p, isinK_p, slnK1_p, slnK0_p, slnK_p, soK_v, giK_p, trK1_b, trK_p, elK_t, elK_f, lcK1_p, lcK_p, tuK_p, itK1_p, itK2_p, itK_p, coK_p, rcK1_p, rcK_p, crK_p, rrK_p, l_tup, l_lst, l_kl, l_fr, l_br, g_pv, g_fr, d_lst, d_fr, d_br, d_str, d_int, d_bl, d_non, d_tup, tr_bl, tr_int, tr_non, tr_str, n_non, n_int, n_str, n_tup, n_lst, n_bl, n_ref, x_tup, x_lst, x_kl, x_fr, x_br, a_v, a_t, gt_pv, gt_fr, as_v, as_tt, as_tl, as_n, as_c, o_rtp, o_rtf, o_rtb, o_nx, lpK_nx, lpK_ct, lpK_bk, lpK_rt, foK_e, forK_p, itm_tup, itm_lst, itm_kl, itm_fr, itm_br, itm_etup, itm_elst, itm_ekl, itm_efr, itm_ebr, itm_r1, itm_r2, at_nat, at_0, at_1, at_2, at_3, at_4, at_5, at_6, at_7, p_ii, p_ss, p_tt, p_ff, p_bf, p_lf, p_fl, p_ll, p_bl, p_sub, p_mulL, p_mulR, p_divP, p_modP, p_pow, c_lt, c_le, c_gt, c_ge, eqK1_v, eqK2_v, c_eq, c_ne, c_in, c_ni, inK_v, in_tup, in_lst, in_kl, in_fr, in_br, f_abs, f_int, f_lenS, f_lent, f_lenl, f_lenk, f_lenf, f_lenb, f_listk, f_listl, f_listt, f_listf, f_tupl, f_tupt, f_tupf, f_tupb, f_all, f_any, anyK_b, f_sort1, f_sort1f, mo_il, mo_ib, mo_ik, mo_if, mo_cl, mo_cb, mo_cf, ixK0_n, ixMK_v, m_il, m_ib, m_if, coMK_v, m_cl, m_cb, m_cf, apo_s, apoK_o, apoK_r, boK_l, ap_s, apK_o, apK_r, bxK_l, gu_c, gu_e, ok_non, ok_bl, ok_int, catK_s, catK_n, turK_p, tu_n, tu_c, bo_n, bo_c, in_n, in_c, al_n, al_t, al_f, nu_n, nu_c, refK_l, x_ref, setK1_m, setK_l, set_ref, ixn_20, ixn_21, ixn_31, ixn_30, ixn_32, sl_tup, sl_lst, sl_fr, sl_br, rv_lst, rv_fr, rv_br, asI_i, b_some, m_some, List.getElem?_cons_succ, List.getElem?_cons_zero, List.getElem?_nil, List.set_cons_succ, List.set_cons_zero, List.length_cons, List.length_nil, lim, Nat.reduceAdd, Nat.reduceLeDiff, Int.reduceLT, Nat.reduceLT, Nat.lt_add_left_iff_pos, E.isNil, wipeE, Nat.zero_lt_succ, if_true, if_false, Bool.true_bne, Bool.false_bne, bne_self_eq_false, Bool.not_true, Bool.not_false, Bool.not_not, Bool.bne_false, Bool.bne_true]
  | some w =>
    rw [hq] at hw
    simp only [lcK_p, e__law_drawn_right_4, w__law_drawn_right_4, hw, tp_s, hq, Option.map_some, List.cons_append, List.nil_append, ↓s_seq, ↓s_skip, ↓s_pass, ↓s_brk, ↓s_cnt, ↓s_retN, ↓s_ret, ↓s_ex, ↓s_ite, ↓s_ass, ↓s_par, ↓s_sub, ↓s_app, ↓s_frz, ↓s_prm, ↓e_con, ↓e_glob, ↓e_var, ↓e_tup, ↓e_lst, ↓e_bin, ↓e_neg, ↓e_cmp, ↓e_chain, ↓e_isN, ↓e_not, ↓e_and, ↓e_or, ↓e_ife, ↓e_idx, ↓pt_nil, ↓e_slc, ↓e_rev, ↓e_call, ↓e_blt, ↓e_mth, ↓e_isin, ↓e_setlen, ↓cd_nil, ↓i_one, ↓t_t, ↓r_nil, ↓r_cons, ↓rr_nil, ↓rr_cons, ↓lp_n, ↓lp_c, ↓cd_con, ↓pt_con, ↓i_con, ↓cd_var, ↓pt_var, ↓i_var, ↓cd_glob, ↓pt_glob, ↓i_glob, ↓cd_tup, ↓pt_tup, ↓i_tup, ↓cd_lst, ↓pt_lst, ↓i_lst, ↓cd_bin, ↓pt_bin, ↓i_bin, ↓cd_neg, ↓pt_neg, ↓i_neg, ↓cd_cmp, ↓pt_cmp, ↓i_cmp, ↓cd_chain, ↓pt_chain, ↓i_chain, ↓cd_isN, ↓pt_isN, ↓i_isN, ↓cd_not, ↓pt_not, ↓i_not, ↓cd_and, ↓pt_and, ↓i_and, ↓cd_or, ↓pt_or, ↓i_or, ↓cd_ife, ↓pt_ife, ↓i_ife, ↓cd_idx, ↓pt_idx, ↓i_idx, ↓cd_slc, ↓pt_slc, ↓i_slc, ↓cd_rev, ↓pt_rev, ↓i_rev, ↓cd_call, ↓pt_call, ↓i_call, ↓cd_blt, ↓pt_blt, ↓i_blt, ↓cd_mth, ↓pt_mth, ↓i_mth, ↓cd_isin, ↓pt_isin, ↓i_isin, ↓cd_setlen, ↓pt_setlen, ↓i_setlen, ↓cd_lc, ↓pt_lc, ↓i_lc, s_seq, s_skip, s_pass, s_brk, s_cnt, s_retN, s_ret, s_ex, s_ite, s_ass, s_par, s_sub, s_app, s_frz, s_prm, e_con, e_glob, e_var, e_tup, e_lst, e_bin, e_neg, e_cmp, e_chain, e_isN, e_not, e_and, e_or, e_ife, e_idx, pt_nil, e_slc, e_rev, e_call, e_blt, e_mth, e_isin, e_setlen, cd_nil, i_one, t_t, r_nil, r_cons, rr_nil, rr_cons, lp_n, lp_c, cd_con, pt_con, i_con, cd_var, pt_var, i_var, cd_glob, pt_glob, i_glob, cd_tup, pt_tup, i_tup, cd_lst, pt_lst, i_lst, cd_bin, pt_bin, i_bin, cd_neg, pt_neg, i_neg, cd_cmp, pt_cmp, i_cmp, cd_chain, pt_chain, i_chain, cd_isN, pt_isN, i_isN, cd_not, pt_not, i_not, cd_and, pt_and, i_and, cd_or, pt_or, i_or, cd_ife, pt_ife, i_ife, cd_idx, pt_idx, i_idx, cd_slc, pt_slc, i_slc, cd_rev, pt_rev, i_rev, cd_call, pt_call, i_call, cd_blt, pt_blt, i_blt, cd_mth, pt_mth, i_mth, cd_isin, pt_isin, i_isin, cd_setlen, pt_setlen, i_setlen, cd_lc, pt_lc, i_lc, ↓e_lc, ↓s_for, e_lc, s_for, nxt_nx, nxt_rt, nxt_bk, nxt_ct, rtK_p, exK_p, iteK_t, iteK_f, nxO_e, assK_p, parK_p, subK3_p, subK2_p, subK1_p, subK_p, nx2_p, appK1_p, appK_p, okK_t, forL_p, frzK_o, frzK_s, prmK_o, prmK_s, varK_s, varK_o, tupK_p, lstK_p, wiK_a, binK1_p, binK_p, negK_i, blK_b, cmpK1_p, cmpK_p, chainK_t, chainK_f, chK1_p, chK_p, isNK_p, nblK_b, notK_p, andK_t, andK_f, anK_p, orK_t, orK_f, oK_p, ifeK_t, ifeK_f, ifK_p, idxK1_p, idxK_p, siK_i, aiK_p, slcK2_p, slcK1_p, slcK_p, revK_p, callE_p, bltK_p, mthK1_p, mthK0_t, mthK_p, isinK_p, slnK1_p, slnK0_p, slnK_p, soK_v, giK_p, trK1_b, trK_p, elK_t, elK_f, lcK1_p, lcK_p, tuK_p, itK1_p, itK2_p, itK_p, coK_p, rcK1_p, rcK_p, crK_p, rrK_p, l_tup, l_lst, l_kl, l_fr, l_br, g_pv, g_fr, d_lst, d_fr, d_br, d_str, d_int, d_bl, d_non, d_tup, tr_bl, tr_int, tr_non, tr_str, n_non, n_int, n_str, n_tup, n_lst, n_bl, n_ref, x_tup, x_lst, x_kl, x_fr, x_br, a_v, a_t, gt_pv, gt_fr, as_v, as_tt, as_tl, as_n, as_c, o_rtp, o_rtf, o_rtb, o_nx, lpK_nx, lpK_ct, lpK_bk, lpK_rt, foK_e, forK_p, itm_tup, itm_lst, itm_kl, itm_fr, itm_br, itm_etup, itm_elst, itm_ekl, itm_efr, itm_ebr, itm_r1, itm_r2, at_nat, at_0, at_1, at_2, at_3, at_4, at_5, at_6, at_7, p_ii, p_ss, p_tt, p_ff, p_bf, p_lf, p_fl, p_ll, p_bl, p_sub, p_mulL, p_mulR, p_divP, p_modP, p_pow, c_lt, c_le, c_gt, c_ge, eqK1_v, eqK2_v, c_eq, c_ne, c_in, c_ni, inK_v, in_tup, in_lst, in_kl, in_fr, in_br, f_abs, f_int, f_lenS, f_lent, f_lenl, f_lenk, f_lenf, f_lenb, f_listk, f_listl, f_listt, f_listf, f_tupl, f_tupt, f_tupf, f_tupb, f_all, f_any, anyK_b, f_sort1, f_sort1f, mo_il, mo_ib, mo_ik, mo_if, mo_cl, mo_cb, mo_cf, ixK0_n, ixMK_v, m_il, m_ib, m_if, coMK_v, m_cl, m_cb, m_cf, apo_s, apoK_o, apoK_r, boK_l, ap_s, apK_o, apK_r, bxK_l, gu_c, gu_e, ok_non, ok_bl, ok_int, catK_s, catK_n, turK_p, tu_n, tu_c, bo_n, bo_c, in_n, in_c, al_n, al_t, al_f, nu_n, nu_c, refK_l, x_ref, setK1_m, setK_l, set_ref, ixn_20, ixn_21, ixn_31, ixn_30, ixn_32, sl_tup, sl_lst, sl_fr, sl_br, rv_lst, rv_fr, rv_br, asI_i, b_some, m_some, List.getElem?_cons_succ, List.getElem?_cons_zero, List.getElem?_nil, List.set_cons_succ, List.set_cons_zero, List.length_cons, List.length_nil, lim, Nat.reduceAdd, Nat.reduceLeDiff, Int.reduceLT, Nat.reduceLT, Nat.lt_add_left_iff_pos, E.isNil, wipeE, Nat.zero_lt_succ, if_true, if_false, Bool.true_bne, Bool.false_bne, bne_self_eq_false, Bool.not_true, Bool.not_false, Bool.not_not, Bool.bne_false, Bool.bne_true]

theorem c13 (k : Nat) (h : Hh) {rs : List Row} (hrs : ∀ r ∈ rs, RowOk r) (hl : rs.length ≤ 100) (a0 a1 a2 a4 a5 a6 a7 a8 a9 a10 a11 a12 a13 a14 a15 a16 : Sl) : turns (lcK (callK G.ds (k + 1)) [13] e__law_drawn_right_13 (.v 13) w__law_drawn_right_13 [a0, a1, a2, .sh (.lst (wordsP false rs)), a4, a5, a6, a7, a8, a9, a10, a11, a12, a13, a14, a15, a16]) ((List.range rs.length).map fun (i : Nat) => PV.int i) h = some (said [.int 1] false rs, h) := by
  rw [range_map]
  unfold said
  refine turns_map rs.zipIdx h ?_
  rintro ⟨r, i⟩ m
  have hi : rs[i]? = some r := List.mem_zipIdx_iff_getElem?.mp m
  have ro := hrs r (List.mem_of_getElem? hi)
  have hx : L2.atI (rs.map cell) (i : Int) = some (cell r) := by
    rw [at_nat, List.getElem?_map, hi]; rfl
  have ei : pvEq (.int (i : Int)) (.int 0) = decide (i = 0) := by
    show ((i : Int) == 0) = _
    by_cases c : i = 0
    · subst c; rfl
    · simp only [c, decide_false, beq_eq_false_iff_ne]; omega
  have hw : L2.atI (wordsP false rs) (i : Int) = some (tp (lword rs false i r)) := by
    rw [at_nat, wordsP, List.getElem?_map, List.getElem?_zipIdx, hi]
    simp
  cases hq : lword rs false i r with
  | none =>
    rw [hq] at hw
    simp only [lcK_p, e__law_drawn_right_13, w__law_drawn_right_13, hw, tp_n, hq, Option.map_none, ↓s_seq, ↓s_skip, ↓s_pass, ↓s_brk, ↓s_cnt, ↓s_retN, ↓s_ret, ↓s_ex, ↓s_ite, ↓s_ass, ↓s_par, ↓s_sub, ↓s_app, ↓s_frz, ↓s_prm, ↓e_con, ↓e_glob, ↓e_var, ↓e_tup, ↓e_lst, ↓e_bin, ↓e_neg, ↓e_cmp, ↓e_chain, ↓e_isN, ↓e_not, ↓e_and, ↓e_or, ↓e_ife, ↓e_idx, ↓pt_nil, ↓e_slc, ↓e_rev, ↓e_call, ↓e_blt, ↓e_mth, ↓e_isin, ↓e_setlen, ↓cd_nil, ↓i_one, ↓t_t, ↓r_nil, ↓r_cons, ↓rr_nil, ↓rr_cons, ↓lp_n, ↓lp_c, ↓cd_con, ↓pt_con, ↓i_con, ↓cd_var, ↓pt_var, ↓i_var, ↓cd_glob, ↓pt_glob, ↓i_glob, ↓cd_tup, ↓pt_tup, ↓i_tup, ↓cd_lst, ↓pt_lst, ↓i_lst, ↓cd_bin, ↓pt_bin, ↓i_bin, ↓cd_neg, ↓pt_neg, ↓i_neg, ↓cd_cmp, ↓pt_cmp, ↓i_cmp, ↓cd_chain, ↓pt_chain, ↓i_chain, ↓cd_isN, ↓pt_isN, ↓i_isN, ↓cd_not, ↓pt_not, ↓i_not, ↓cd_and, ↓pt_and, ↓i_and, ↓cd_or, ↓pt_or, ↓i_or, ↓cd_ife, ↓pt_ife, ↓i_ife, ↓cd_idx, ↓pt_idx, ↓i_idx, ↓cd_slc, ↓pt_slc, ↓i_slc, ↓cd_rev, ↓pt_rev, ↓i_rev, ↓cd_call, ↓pt_call, ↓i_call, ↓cd_blt, ↓pt_blt, ↓i_blt, ↓cd_mth, ↓pt_mth, ↓i_mth, ↓cd_isin, ↓pt_isin, ↓i_isin, ↓cd_setlen, ↓pt_setlen, ↓i_setlen, ↓cd_lc, ↓pt_lc, ↓i_lc, s_seq, s_skip, s_pass, s_brk, s_cnt, s_retN, s_ret, s_ex, s_ite, s_ass, s_par, s_sub, s_app, s_frz, s_prm, e_con, e_glob, e_var, e_tup, e_lst, e_bin, e_neg, e_cmp, e_chain, e_isN, e_not, e_and, e_or, e_ife, e_idx, pt_nil, e_slc, e_rev, e_call, e_blt, e_mth, e_isin, e_setlen, cd_nil, i_one, t_t, r_nil, r_cons, rr_nil, rr_cons, lp_n, lp_c, cd_con, pt_con, i_con, cd_var, pt_var, i_var, cd_glob, pt_glob, i_glob, cd_tup, pt_tup, i_tup, cd_lst, pt_lst, i_lst, cd_bin, pt_bin, i_bin, cd_neg, pt_neg, i_neg, cd_cmp, pt_cmp, i_cmp, cd_chain, pt_chain, i_chain, cd_isN, pt_isN, i_isN, cd_not, pt_not, i_not, cd_and, pt_and, i_and, cd_or, pt_or, i_or, cd_ife, pt_ife, i_ife, cd_idx, pt_idx, i_idx, cd_slc, pt_slc, i_slc, cd_rev, pt_rev, i_rev, cd_call, pt_call, i_call, cd_blt, pt_blt, i_blt, cd_mth, pt_mth, i_mth, cd_isin, pt_isin, i_isin, cd_setlen, pt_setlen, i_setlen, cd_lc, pt_lc, i_lc, ↓e_lc, ↓s_for, e_lc, s_for, nxt_nx, nxt_rt, nxt_bk, nxt_ct, rtK_p, exK_p, iteK_t, iteK_f, nxO_e, assK_p, parK_p, subK3_p, subK2_p, subK1_p, subK_p, nx2_p, appK1_p, appK_p, okK_t, forL_p, frzK_o, frzK_s, prmK_o, prmK_s, varK_s, varK_o, tupK_p, lstK_p, wiK_a, binK1_p, binK_p, negK_i, blK_b, cmpK1_p, cmpK_p, chainK_t, chainK_f, chK1_p, chK_p, isNK_p, nblK_b, notK_p, andK_t, andK_f, anK_p, orK_t, orK_f, oK_p, ifeK_t, ifeK_f, ifK_p, idxK1_p, idxK_p, siK_i, aiK_p, slcK2_p, slcK1_p, slcK_p, revK_p, callE_p, bltK_p, mthK1_p, mthK0_t, mthK_p, isinK_p, slnK1_p, slnK0_p, slnK_p, soK_v, giK_p, trK1_b, trK_p, elK_t, elK_f, lcK1_p, lcK_p, tuK_p, itK1_p, itK2_p, itK_p, coK_p, rcK1_p, rcK_p, crK_p, rrK_p, l_tup, l_lst, l_kl, l_fr, l_br, g_pv, g_fr, d_lst, d_fr, d_br, d_str, d_int, d_bl, d_non, d_tup, tr_bl, tr_int, tr_non, tr_str, n_non, n_int, n_str, n_tup, n_lst, n_bl, n_ref, x_tup, x_lst, x_kl, x_fr, x_br, a_v, a_t, gt_pv, gt_fr, as_v, as_tt, as_tl, as_n, as_c, o_rtp, o_rtf, o_rtb, o_nx, lpK_nx, lpK_ct, lpK_bk, lpK_rt, foK_e, forK_p, itm_tup, itm_lst, itm_kl, itm_fr, itm_br, itm_etup, itm_elst, itm_ekl, itm_efr, itm_ebr, itm_r1, itm_r2, at_nat, at_0, at_1, at_2, at_3, at_4, at_5, at_6, at_7, p_ii, p_ss, p_tt, p_ff, p_bf, p_lf, p_fl, p_ll, p_bl, p_sub, p_mulL, p_mulR, p_divP, p_modP, p_pow, c_lt, c_le, c_gt, c_ge, eqK1_v, eqK2_v, c_eq, c_ne, c_in, c_ni, inK_v, in_tup, in_lst, in_kl, in_fr, in_br, f_abs, f_int, f_lenS, f_lent, f_lenl, f_lenk, f_lenf, f_lenb, f_listk, f_listl, f_listt, f_listf, f_tupl, f_tupt, f_tupf, f_tupb, f_all, f_any, anyK_b, f_sort1, f_sort1f, mo_il, mo_ib, mo_ik, mo_if, mo_cl, mo_cb, mo_cf, ixK0_n, ixMK_v, m_il, m_ib, m_if, coMK_v, m_cl, m_cb, m_cf, apo_s, apoK_o, apoK_r, boK_l, ap_s, apK_o, apK_r, bxK_l, gu_c, gu_e, ok_non, ok_bl, ok_int, catK_s, catK_n, turK_p, tu_n, tu_c, bo_n, bo_c, in_n, in_c, al_n, al_t, al_f, nu_n, nu_c, refK_l, x_ref, setK1_m, setK_l, set_ref, ixn_20, ixn_21, ixn_31, ixn_30, ixn_32, sl_tup, sl_lst, sl_fr, sl_br, rv_lst, rv_fr, rv_br, asI_i, b_some, m_some, List.getElem?_cons_succ, List.getElem?_cons_zero, List.getElem?_nil, List.set_cons_succ, List.set_cons_zero, List.length_cons, List.length_nil, lim, Nat.reduceAdd, Nat.reduceLeDiff, Int.reduceLT, Nat.reduceLT, Nat.lt_add_left_iff_pos, E.isNil, wipeE, Nat.zero_lt_succ, if_true, if_false, Bool.true_bne, Bool.false_bne, bne_self_eq_false, Bool.not_true, Bool.not_false, Bool.not_not, Bool.bne_false, Bool.bne_true]
  | some w =>
    rw [hq] at hw
    simp only [lcK_p, e__law_drawn_right_13, w__law_drawn_right_13, hw, tp_s, hq, Option.map_some, List.cons_append, List.nil_append, ↓s_seq, ↓s_skip, ↓s_pass, ↓s_brk, ↓s_cnt, ↓s_retN, ↓s_ret, ↓s_ex, ↓s_ite, ↓s_ass, ↓s_par, ↓s_sub, ↓s_app, ↓s_frz, ↓s_prm, ↓e_con, ↓e_glob, ↓e_var, ↓e_tup, ↓e_lst, ↓e_bin, ↓e_neg, ↓e_cmp, ↓e_chain, ↓e_isN, ↓e_not, ↓e_and, ↓e_or, ↓e_ife, ↓e_idx, ↓pt_nil, ↓e_slc, ↓e_rev, ↓e_call, ↓e_blt, ↓e_mth, ↓e_isin, ↓e_setlen, ↓cd_nil, ↓i_one, ↓t_t, ↓r_nil, ↓r_cons, ↓rr_nil, ↓rr_cons, ↓lp_n, ↓lp_c, ↓cd_con, ↓pt_con, ↓i_con, ↓cd_var, ↓pt_var, ↓i_var, ↓cd_glob, ↓pt_glob, ↓i_glob, ↓cd_tup, ↓pt_tup, ↓i_tup, ↓cd_lst, ↓pt_lst, ↓i_lst, ↓cd_bin, ↓pt_bin, ↓i_bin, ↓cd_neg, ↓pt_neg, ↓i_neg, ↓cd_cmp, ↓pt_cmp, ↓i_cmp, ↓cd_chain, ↓pt_chain, ↓i_chain, ↓cd_isN, ↓pt_isN, ↓i_isN, ↓cd_not, ↓pt_not, ↓i_not, ↓cd_and, ↓pt_and, ↓i_and, ↓cd_or, ↓pt_or, ↓i_or, ↓cd_ife, ↓pt_ife, ↓i_ife, ↓cd_idx, ↓pt_idx, ↓i_idx, ↓cd_slc, ↓pt_slc, ↓i_slc, ↓cd_rev, ↓pt_rev, ↓i_rev, ↓cd_call, ↓pt_call, ↓i_call, ↓cd_blt, ↓pt_blt, ↓i_blt, ↓cd_mth, ↓pt_mth, ↓i_mth, ↓cd_isin, ↓pt_isin, ↓i_isin, ↓cd_setlen, ↓pt_setlen, ↓i_setlen, ↓cd_lc, ↓pt_lc, ↓i_lc, s_seq, s_skip, s_pass, s_brk, s_cnt, s_retN, s_ret, s_ex, s_ite, s_ass, s_par, s_sub, s_app, s_frz, s_prm, e_con, e_glob, e_var, e_tup, e_lst, e_bin, e_neg, e_cmp, e_chain, e_isN, e_not, e_and, e_or, e_ife, e_idx, pt_nil, e_slc, e_rev, e_call, e_blt, e_mth, e_isin, e_setlen, cd_nil, i_one, t_t, r_nil, r_cons, rr_nil, rr_cons, lp_n, lp_c, cd_con, pt_con, i_con, cd_var, pt_var, i_var, cd_glob, pt_glob, i_glob, cd_tup, pt_tup, i_tup, cd_lst, pt_lst, i_lst, cd_bin, pt_bin, i_bin, cd_neg, pt_neg, i_neg, cd_cmp, pt_cmp, i_cmp, cd_chain, pt_chain, i_chain, cd_isN, pt_isN, i_isN, cd_not, pt_not, i_not, cd_and, pt_and, i_and, cd_or, pt_or, i_or, cd_ife, pt_ife, i_ife, cd_idx, pt_idx, i_idx, cd_slc, pt_slc, i_slc, cd_rev, pt_rev, i_rev, cd_call, pt_call, i_call, cd_blt, pt_blt, i_blt, cd_mth, pt_mth, i_mth, cd_isin, pt_isin, i_isin, cd_setlen, pt_setlen, i_setlen, cd_lc, pt_lc, i_lc, ↓e_lc, ↓s_for, e_lc, s_for, nxt_nx, nxt_rt, nxt_bk, nxt_ct, rtK_p, exK_p, iteK_t, iteK_f, nxO_e, assK_p, parK_p, subK3_p, subK2_p, subK1_p, subK_p, nx2_p, appK1_p, appK_p, okK_t, forL_p, frzK_o, frzK_s, prmK_o, prmK_s, varK_s, varK_o, tupK_p, lstK_p, wiK_a, binK1_p, binK_p, negK_i, blK_b, cmpK1_p, cmpK_p, chainK_t, chainK_f, chK1_p, chK_p, isNK_p, nblK_b, notK_p, andK_t, andK_f, anK_p, orK_t, orK_f, oK_p, ifeK_t, ifeK_f, ifK_p, idxK1_p, idxK_p, siK_i, aiK_p, slcK2_p, slcK1_p, slcK_p, revK_p, callE_p, bltK_p, mthK1_p, mthK0_t, mthK_p, isinK_p, slnK1_p, slnK0_p, slnK_p, soK_v, giK_p, trK1_b, trK_p, elK_t, elK_f, lcK1_p, lcK_p, tuK_p, itK1_p, itK2_p, itK_p, coK_p, rcK1_p, rcK_p, crK_p, rrK_p, l_tup, l_lst, l_kl, l_fr, l_br, g_pv, g_fr, d_lst, d_fr, d_br, d_str, d_int, d_bl, d_non, d_tup, tr_bl, tr_int, tr_non, tr_str, n_non, n_int, n_str, n_tup, n_lst, n_bl, n_ref, x_tup, x_lst, x_kl, x_fr, x_br, a_v, a_t, gt_pv, gt_fr, as_v, as_tt, as_tl, as_n, as_c, o_rtp, o_rtf, o_rtb, o_nx, lpK_nx, lpK_ct, lpK_bk, lpK_rt, foK_e, forK_p, itm_tup, itm_lst, itm_kl, itm_fr, itm_br, itm_etup, itm_elst, itm_ekl, itm_efr, itm_ebr, itm_r1, itm_r2, at_nat, at_0, at_1, at_2, at_3, at_4, at_5, at_6, at_7, p_ii, p_ss, p_tt, p_ff, p_bf, p_lf, p_fl, p_ll, p_bl, p_sub, p_mulL, p_mulR, p_divP, p_modP, p_pow, c_lt, c_le, c_gt, c_ge, eqK1_v, eqK2_v, c_eq, c_ne, c_in, c_ni, inK_v, in_tup, in_lst, in_kl, in_fr, in_br, f_abs, f_int, f_lenS, f_lent, f_lenl, f_lenk, f_lenf, f_lenb, f_listk, f_listl, f_listt, f_listf, f_tupl, f_tupt, f_tupf, f_tupb, f_all, f_any, anyK_b, f_sort1, f_sort1f, mo_il, mo_ib, mo_ik, mo_if, mo_cl, mo_cb, mo_cf, ixK0_n, ixMK_v, m_il, m_ib, m_if, coMK_v, m_cl, m_cb, m_cf, apo_s, apoK_o, apoK_r, boK_l, ap_s, apK_o, apK_r, bxK_l, gu_c, gu_e, ok_non, ok_bl, ok_int, catK_s, catK_n, turK_p, tu_n, tu_c, bo_n, bo_c, in_n, in_c, al_n, al_t, al_f, nu_n, nu_c, refK_l, x_ref, setK1_m, setK_l, set_ref, ixn_20, ixn_21, ixn_31, ixn_30, ixn_32, sl_tup, sl_lst, sl_fr, sl_br, rv_lst, rv_fr, rv_br, asI_i, b_some, m_some, List.getElem?_cons_succ, List.getElem?_cons_zero, List.getElem?_nil, List.set_cons_succ, List.set_cons_zero, List.length_cons, List.length_nil, lim, Nat.reduceAdd, Nat.reduceLeDiff, Int.reduceLT, Nat.reduceLT, Nat.lt_add_left_iff_pos, E.isNil, wipeE, Nat.zero_lt_succ, if_true, if_false, Bool.true_bne, Bool.false_bne, bne_self_eq_false, Bool.not_true, Bool.not_false, Bool.not_not, Bool.bne_false, Bool.bne_true]

theorem first_eA (x : Str) (n : Nat) : firstAt (.str x) n (eA.map PV.str) = (eA.findIdx? (· == x)).map (· + n) := by
  have := first_str (el := oldL) (x := x) n
  unfold oldL at this
  rw [List.map_map, List.findIdx?_map] at this
  exact this

theorem c5 (k : Nat) (h : Hh) {rs : List Row} (hrs : ∀ r ∈ rs, RowOk r) (hl : rs.length ≤ 100) (a0 a1 a2 a3 a4 a6 a7 a8 a9 a10 a11 a12 a13 a14 a15 a16 : Sl) : turns (lcK (callK G.ds (k + 1)) [14] e__law_drawn_right_5 (.v 14) .nil [a0, a1, a2, a3, a4, .sh (.lst (eA.map PV.str)), a6, a7, a8, a9, a10, a11, a12, a13, a14, a15, a16]) (rs.map cell) h = some (dueP rs, h) := by
  unfold dueP
  refine turns_all rs h fun r m => ?_
  have ro := hrs r m
  have gr := ro.good
  have one : ∀ t, r.told = some t → t.length = 1 := fun t e => ro.one e
  obtain ⟨nm, td, kd, re⟩ := r
  have fs := fun x n => first_eA x n
  cases td with
  | none =>
    have onm : okD (.str nm) = true := ok_str gr.n
    have hk : key ⟨nm, none, kd, re⟩ = nm := rfl
    cases hf : eA.findIdx? (· == nm) with
    | none =>
      have ha : eA.any (· == nm) = false := by rw [← List.findIdx?_isSome, hf]; rfl
      simp only [lcK_p, e__law_drawn_right_5, cell, tp_n, onm, ok_eA, any_eA, ha, hk, hf, np_n, ↓s_seq, ↓s_skip, ↓s_pass, ↓s_brk, ↓s_cnt, ↓s_retN, ↓s_ret, ↓s_ex, ↓s_ite, ↓s_ass, ↓s_par, ↓s_sub, ↓s_app, ↓s_frz, ↓s_prm, ↓e_con, ↓e_glob, ↓e_var, ↓e_tup, ↓e_lst, ↓e_bin, ↓e_neg, ↓e_cmp, ↓e_chain, ↓e_isN, ↓e_not, ↓e_and, ↓e_or, ↓e_ife, ↓e_idx, ↓pt_nil, ↓e_slc, ↓e_rev, ↓e_call, ↓e_blt, ↓e_mth, ↓e_isin, ↓e_setlen, ↓cd_nil, ↓i_one, ↓t_t, ↓r_nil, ↓r_cons, ↓rr_nil, ↓rr_cons, ↓lp_n, ↓lp_c, ↓cd_con, ↓pt_con, ↓i_con, ↓cd_var, ↓pt_var, ↓i_var, ↓cd_glob, ↓pt_glob, ↓i_glob, ↓cd_tup, ↓pt_tup, ↓i_tup, ↓cd_lst, ↓pt_lst, ↓i_lst, ↓cd_bin, ↓pt_bin, ↓i_bin, ↓cd_neg, ↓pt_neg, ↓i_neg, ↓cd_cmp, ↓pt_cmp, ↓i_cmp, ↓cd_chain, ↓pt_chain, ↓i_chain, ↓cd_isN, ↓pt_isN, ↓i_isN, ↓cd_not, ↓pt_not, ↓i_not, ↓cd_and, ↓pt_and, ↓i_and, ↓cd_or, ↓pt_or, ↓i_or, ↓cd_ife, ↓pt_ife, ↓i_ife, ↓cd_idx, ↓pt_idx, ↓i_idx, ↓cd_slc, ↓pt_slc, ↓i_slc, ↓cd_rev, ↓pt_rev, ↓i_rev, ↓cd_call, ↓pt_call, ↓i_call, ↓cd_blt, ↓pt_blt, ↓i_blt, ↓cd_mth, ↓pt_mth, ↓i_mth, ↓cd_isin, ↓pt_isin, ↓i_isin, ↓cd_setlen, ↓pt_setlen, ↓i_setlen, ↓cd_lc, ↓pt_lc, ↓i_lc, s_seq, s_skip, s_pass, s_brk, s_cnt, s_retN, s_ret, s_ex, s_ite, s_ass, s_par, s_sub, s_app, s_frz, s_prm, e_con, e_glob, e_var, e_tup, e_lst, e_bin, e_neg, e_cmp, e_chain, e_isN, e_not, e_and, e_or, e_ife, e_idx, pt_nil, e_slc, e_rev, e_call, e_blt, e_mth, e_isin, e_setlen, cd_nil, i_one, t_t, r_nil, r_cons, rr_nil, rr_cons, lp_n, lp_c, cd_con, pt_con, i_con, cd_var, pt_var, i_var, cd_glob, pt_glob, i_glob, cd_tup, pt_tup, i_tup, cd_lst, pt_lst, i_lst, cd_bin, pt_bin, i_bin, cd_neg, pt_neg, i_neg, cd_cmp, pt_cmp, i_cmp, cd_chain, pt_chain, i_chain, cd_isN, pt_isN, i_isN, cd_not, pt_not, i_not, cd_and, pt_and, i_and, cd_or, pt_or, i_or, cd_ife, pt_ife, i_ife, cd_idx, pt_idx, i_idx, cd_slc, pt_slc, i_slc, cd_rev, pt_rev, i_rev, cd_call, pt_call, i_call, cd_blt, pt_blt, i_blt, cd_mth, pt_mth, i_mth, cd_isin, pt_isin, i_isin, cd_setlen, pt_setlen, i_setlen, cd_lc, pt_lc, i_lc, ↓e_lc, ↓s_for, e_lc, s_for, nxt_nx, nxt_rt, nxt_bk, nxt_ct, rtK_p, exK_p, iteK_t, iteK_f, nxO_e, assK_p, parK_p, subK3_p, subK2_p, subK1_p, subK_p, nx2_p, appK1_p, appK_p, okK_t, forL_p, frzK_o, frzK_s, prmK_o, prmK_s, varK_s, varK_o, tupK_p, lstK_p, wiK_a, binK1_p, binK_p, negK_i, blK_b, cmpK1_p, cmpK_p, chainK_t, chainK_f, chK1_p, chK_p, isNK_p, nblK_b, notK_p, andK_t, andK_f, anK_p, orK_t, orK_f, oK_p, ifeK_t, ifeK_f, ifK_p, idxK1_p, idxK_p, siK_i, aiK_p, slcK2_p, slcK1_p, slcK_p, revK_p, callE_p, bltK_p, mthK1_p, mthK0_t, mthK_p, isinK_p, slnK1_p, slnK0_p, slnK_p, soK_v, giK_p, trK1_b, trK_p, elK_t, elK_f, lcK1_p, lcK_p, tuK_p, itK1_p, itK2_p, itK_p, coK_p, rcK1_p, rcK_p, crK_p, rrK_p, l_tup, l_lst, l_kl, l_fr, l_br, g_pv, g_fr, d_lst, d_fr, d_br, d_str, d_int, d_bl, d_non, d_tup, tr_bl, tr_int, tr_non, tr_str, n_non, n_int, n_str, n_tup, n_lst, n_bl, n_ref, x_tup, x_lst, x_kl, x_fr, x_br, a_v, a_t, gt_pv, gt_fr, as_v, as_tt, as_tl, as_n, as_c, o_rtp, o_rtf, o_rtb, o_nx, lpK_nx, lpK_ct, lpK_bk, lpK_rt, foK_e, forK_p, itm_tup, itm_lst, itm_kl, itm_fr, itm_br, itm_etup, itm_elst, itm_ekl, itm_efr, itm_ebr, itm_r1, itm_r2, at_nat, at_0, at_1, at_2, at_3, at_4, at_5, at_6, at_7, p_ii, p_ss, p_tt, p_ff, p_bf, p_lf, p_fl, p_ll, p_bl, p_sub, p_mulL, p_mulR, p_divP, p_modP, p_pow, c_lt, c_le, c_gt, c_ge, eqK1_v, eqK2_v, c_eq, c_ne, c_in, c_ni, inK_v, in_tup, in_lst, in_kl, in_fr, in_br, f_abs, f_int, f_lenS, f_lent, f_lenl, f_lenk, f_lenf, f_lenb, f_listk, f_listl, f_listt, f_listf, f_tupl, f_tupt, f_tupf, f_tupb, f_all, f_any, anyK_b, f_sort1, f_sort1f, mo_il, mo_ib, mo_ik, mo_if, mo_cl, mo_cb, mo_cf, ixK0_n, ixMK_v, m_il, m_ib, m_if, coMK_v, m_cl, m_cb, m_cf, apo_s, apoK_o, apoK_r, boK_l, ap_s, apK_o, apK_r, bxK_l, gu_c, gu_e, ok_non, ok_bl, ok_int, catK_s, catK_n, turK_p, tu_n, tu_c, bo_n, bo_c, in_n, in_c, al_n, al_t, al_f, nu_n, nu_c, refK_l, x_ref, setK1_m, setK_l, set_ref, ixn_20, ixn_21, ixn_31, ixn_30, ixn_32, sl_tup, sl_lst, sl_fr, sl_br, rv_lst, rv_fr, rv_br, asI_i, b_some, m_some, List.getElem?_cons_succ, List.getElem?_cons_zero, List.getElem?_nil, List.set_cons_succ, List.set_cons_zero, List.length_cons, List.length_nil, lim, Nat.reduceAdd, Nat.reduceLeDiff, Int.reduceLT, Nat.reduceLT, Nat.lt_add_left_iff_pos, E.isNil, wipeE, Nat.zero_lt_succ, if_true, if_false, Bool.true_bne, Bool.false_bne, bne_self_eq_false, Bool.not_true, Bool.not_false, Bool.not_not, Bool.bne_false, Bool.bne_true]
    | some j =>
      have ha : eA.any (· == nm) = true := by rw [← List.findIdx?_isSome, hf]; rfl
      simp only [lcK_p, e__law_drawn_right_5, cell, tp_n, onm, ok_eA, any_eA, ha, hk, hf, fs, np_s, Nat.add_zero, ↓s_seq, ↓s_skip, ↓s_pass, ↓s_brk, ↓s_cnt, ↓s_retN, ↓s_ret, ↓s_ex, ↓s_ite, ↓s_ass, ↓s_par, ↓s_sub, ↓s_app, ↓s_frz, ↓s_prm, ↓e_con, ↓e_glob, ↓e_var, ↓e_tup, ↓e_lst, ↓e_bin, ↓e_neg, ↓e_cmp, ↓e_chain, ↓e_isN, ↓e_not, ↓e_and, ↓e_or, ↓e_ife, ↓e_idx, ↓pt_nil, ↓e_slc, ↓e_rev, ↓e_call, ↓e_blt, ↓e_mth, ↓e_isin, ↓e_setlen, ↓cd_nil, ↓i_one, ↓t_t, ↓r_nil, ↓r_cons, ↓rr_nil, ↓rr_cons, ↓lp_n, ↓lp_c, ↓cd_con, ↓pt_con, ↓i_con, ↓cd_var, ↓pt_var, ↓i_var, ↓cd_glob, ↓pt_glob, ↓i_glob, ↓cd_tup, ↓pt_tup, ↓i_tup, ↓cd_lst, ↓pt_lst, ↓i_lst, ↓cd_bin, ↓pt_bin, ↓i_bin, ↓cd_neg, ↓pt_neg, ↓i_neg, ↓cd_cmp, ↓pt_cmp, ↓i_cmp, ↓cd_chain, ↓pt_chain, ↓i_chain, ↓cd_isN, ↓pt_isN, ↓i_isN, ↓cd_not, ↓pt_not, ↓i_not, ↓cd_and, ↓pt_and, ↓i_and, ↓cd_or, ↓pt_or, ↓i_or, ↓cd_ife, ↓pt_ife, ↓i_ife, ↓cd_idx, ↓pt_idx, ↓i_idx, ↓cd_slc, ↓pt_slc, ↓i_slc, ↓cd_rev, ↓pt_rev, ↓i_rev, ↓cd_call, ↓pt_call, ↓i_call, ↓cd_blt, ↓pt_blt, ↓i_blt, ↓cd_mth, ↓pt_mth, ↓i_mth, ↓cd_isin, ↓pt_isin, ↓i_isin, ↓cd_setlen, ↓pt_setlen, ↓i_setlen, ↓cd_lc, ↓pt_lc, ↓i_lc, s_seq, s_skip, s_pass, s_brk, s_cnt, s_retN, s_ret, s_ex, s_ite, s_ass, s_par, s_sub, s_app, s_frz, s_prm, e_con, e_glob, e_var, e_tup, e_lst, e_bin, e_neg, e_cmp, e_chain, e_isN, e_not, e_and, e_or, e_ife, e_idx, pt_nil, e_slc, e_rev, e_call, e_blt, e_mth, e_isin, e_setlen, cd_nil, i_one, t_t, r_nil, r_cons, rr_nil, rr_cons, lp_n, lp_c, cd_con, pt_con, i_con, cd_var, pt_var, i_var, cd_glob, pt_glob, i_glob, cd_tup, pt_tup, i_tup, cd_lst, pt_lst, i_lst, cd_bin, pt_bin, i_bin, cd_neg, pt_neg, i_neg, cd_cmp, pt_cmp, i_cmp, cd_chain, pt_chain, i_chain, cd_isN, pt_isN, i_isN, cd_not, pt_not, i_not, cd_and, pt_and, i_and, cd_or, pt_or, i_or, cd_ife, pt_ife, i_ife, cd_idx, pt_idx, i_idx, cd_slc, pt_slc, i_slc, cd_rev, pt_rev, i_rev, cd_call, pt_call, i_call, cd_blt, pt_blt, i_blt, cd_mth, pt_mth, i_mth, cd_isin, pt_isin, i_isin, cd_setlen, pt_setlen, i_setlen, cd_lc, pt_lc, i_lc, ↓e_lc, ↓s_for, e_lc, s_for, nxt_nx, nxt_rt, nxt_bk, nxt_ct, rtK_p, exK_p, iteK_t, iteK_f, nxO_e, assK_p, parK_p, subK3_p, subK2_p, subK1_p, subK_p, nx2_p, appK1_p, appK_p, okK_t, forL_p, frzK_o, frzK_s, prmK_o, prmK_s, varK_s, varK_o, tupK_p, lstK_p, wiK_a, binK1_p, binK_p, negK_i, blK_b, cmpK1_p, cmpK_p, chainK_t, chainK_f, chK1_p, chK_p, isNK_p, nblK_b, notK_p, andK_t, andK_f, anK_p, orK_t, orK_f, oK_p, ifeK_t, ifeK_f, ifK_p, idxK1_p, idxK_p, siK_i, aiK_p, slcK2_p, slcK1_p, slcK_p, revK_p, callE_p, bltK_p, mthK1_p, mthK0_t, mthK_p, isinK_p, slnK1_p, slnK0_p, slnK_p, soK_v, giK_p, trK1_b, trK_p, elK_t, elK_f, lcK1_p, lcK_p, tuK_p, itK1_p, itK2_p, itK_p, coK_p, rcK1_p, rcK_p, crK_p, rrK_p, l_tup, l_lst, l_kl, l_fr, l_br, g_pv, g_fr, d_lst, d_fr, d_br, d_str, d_int, d_bl, d_non, d_tup, tr_bl, tr_int, tr_non, tr_str, n_non, n_int, n_str, n_tup, n_lst, n_bl, n_ref, x_tup, x_lst, x_kl, x_fr, x_br, a_v, a_t, gt_pv, gt_fr, as_v, as_tt, as_tl, as_n, as_c, o_rtp, o_rtf, o_rtb, o_nx, lpK_nx, lpK_ct, lpK_bk, lpK_rt, foK_e, forK_p, itm_tup, itm_lst, itm_kl, itm_fr, itm_br, itm_etup, itm_elst, itm_ekl, itm_efr, itm_ebr, itm_r1, itm_r2, at_nat, at_0, at_1, at_2, at_3, at_4, at_5, at_6, at_7, p_ii, p_ss, p_tt, p_ff, p_bf, p_lf, p_fl, p_ll, p_bl, p_sub, p_mulL, p_mulR, p_divP, p_modP, p_pow, c_lt, c_le, c_gt, c_ge, eqK1_v, eqK2_v, c_eq, c_ne, c_in, c_ni, inK_v, in_tup, in_lst, in_kl, in_fr, in_br, f_abs, f_int, f_lenS, f_lent, f_lenl, f_lenk, f_lenf, f_lenb, f_listk, f_listl, f_listt, f_listf, f_tupl, f_tupt, f_tupf, f_tupb, f_all, f_any, anyK_b, f_sort1, f_sort1f, mo_il, mo_ib, mo_ik, mo_if, mo_cl, mo_cb, mo_cf, ixK0_n, ixMK_v, m_il, m_ib, m_if, coMK_v, m_cl, m_cb, m_cf, apo_s, apoK_o, apoK_r, boK_l, ap_s, apK_o, apK_r, bxK_l, gu_c, gu_e, ok_non, ok_bl, ok_int, catK_s, catK_n, turK_p, tu_n, tu_c, bo_n, bo_c, in_n, in_c, al_n, al_t, al_f, nu_n, nu_c, refK_l, x_ref, setK1_m, setK_l, set_ref, ixn_20, ixn_21, ixn_31, ixn_30, ixn_32, sl_tup, sl_lst, sl_fr, sl_br, rv_lst, rv_fr, rv_br, asI_i, b_some, m_some, List.getElem?_cons_succ, List.getElem?_cons_zero, List.getElem?_nil, List.set_cons_succ, List.set_cons_zero, List.length_cons, List.length_nil, lim, Nat.reduceAdd, Nat.reduceLeDiff, Int.reduceLT, Nat.reduceLT, Nat.lt_add_left_iff_pos, E.isNil, wipeE, Nat.zero_lt_succ, if_true, if_false, Bool.true_bne, Bool.false_bne, bne_self_eq_false, Bool.not_true, Bool.not_false, Bool.not_not, Bool.bne_false, Bool.bne_true]
  | some t =>
    have ost : okD (.str t) = true := ok_str (gr.t t rfl)
    have hl1 : t.length ≤ 16777216 := by have := one t rfl; omega
    have htr : ((t.length : Int) != 0) = true := by rw [one t rfl]; rfl
    have hk : key ⟨nm, some t, kd, re⟩ = t := rfl
    cases hf : eA.findIdx? (· == t) with
    | none =>
      have ha : eA.any (· == t) = false := by rw [← List.findIdx?_isSome, hf]; rfl
      simp only [lcK_p, e__law_drawn_right_5, cell, tp_s, ost, hl1, htr, ok_eA, any_eA, ha, hk, hf, np_n, ↓s_seq, ↓s_skip, ↓s_pass, ↓s_brk, ↓s_cnt, ↓s_retN, ↓s_ret, ↓s_ex, ↓s_ite, ↓s_ass, ↓s_par, ↓s_sub, ↓s_app, ↓s_frz, ↓s_prm, ↓e_con, ↓e_glob, ↓e_var, ↓e_tup, ↓e_lst, ↓e_bin, ↓e_neg, ↓e_cmp, ↓e_chain, ↓e_isN, ↓e_not, ↓e_and, ↓e_or, ↓e_ife, ↓e_idx, ↓pt_nil, ↓e_slc, ↓e_rev, ↓e_call, ↓e_blt, ↓e_mth, ↓e_isin, ↓e_setlen, ↓cd_nil, ↓i_one, ↓t_t, ↓r_nil, ↓r_cons, ↓rr_nil, ↓rr_cons, ↓lp_n, ↓lp_c, ↓cd_con, ↓pt_con, ↓i_con, ↓cd_var, ↓pt_var, ↓i_var, ↓cd_glob, ↓pt_glob, ↓i_glob, ↓cd_tup, ↓pt_tup, ↓i_tup, ↓cd_lst, ↓pt_lst, ↓i_lst, ↓cd_bin, ↓pt_bin, ↓i_bin, ↓cd_neg, ↓pt_neg, ↓i_neg, ↓cd_cmp, ↓pt_cmp, ↓i_cmp, ↓cd_chain, ↓pt_chain, ↓i_chain, ↓cd_isN, ↓pt_isN, ↓i_isN, ↓cd_not, ↓pt_not, ↓i_not, ↓cd_and, ↓pt_and, ↓i_and, ↓cd_or, ↓pt_or, ↓i_or, ↓cd_ife, ↓pt_ife, ↓i_ife, ↓cd_idx, ↓pt_idx, ↓i_idx, ↓cd_slc, ↓pt_slc, ↓i_slc, ↓cd_rev, ↓pt_rev, ↓i_rev, ↓cd_call, ↓pt_call, ↓i_call, ↓cd_blt, ↓pt_blt, ↓i_blt, ↓cd_mth, ↓pt_mth, ↓i_mth, ↓cd_isin, ↓pt_isin, ↓i_isin, ↓cd_setlen, ↓pt_setlen, ↓i_setlen, ↓cd_lc, ↓pt_lc, ↓i_lc, s_seq, s_skip, s_pass, s_brk, s_cnt, s_retN, s_ret, s_ex, s_ite, s_ass, s_par, s_sub, s_app, s_frz, s_prm, e_con, e_glob, e_var, e_tup, e_lst, e_bin, e_neg, e_cmp, e_chain, e_isN, e_not, e_and, e_or, e_ife, e_idx, pt_nil, e_slc, e_rev, e_call, e_blt, e_mth, e_isin, e_setlen, cd_nil, i_one, t_t, r_nil, r_cons, rr_nil, rr_cons, lp_n, lp_c, cd_con, pt_con, i_con, cd_var, pt_var, i_var, cd_glob, pt_glob, i_glob, cd_tup, pt_tup, i_tup, cd_lst, pt_lst, i_lst, cd_bin, pt_bin, i_bin, cd_neg, pt_neg, i_neg, cd_cmp, pt_cmp, i_cmp, cd_chain, pt_chain, i_chain, cd_isN, pt_isN, i_isN, cd_not, pt_not, i_not, cd_and, pt_and, i_and, cd_or, pt_or, i_or, cd_ife, pt_ife, i_ife, cd_idx, pt_idx, i_idx, cd_slc, pt_slc, i_slc, cd_rev, pt_rev, i_rev, cd_call, pt_call, i_call, cd_blt, pt_blt, i_blt, cd_mth, pt_mth, i_mth, cd_isin, pt_isin, i_isin, cd_setlen, pt_setlen, i_setlen, cd_lc, pt_lc, i_lc, ↓e_lc, ↓s_for, e_lc, s_for, nxt_nx, nxt_rt, nxt_bk, nxt_ct, rtK_p, exK_p, iteK_t, iteK_f, nxO_e, assK_p, parK_p, subK3_p, subK2_p, subK1_p, subK_p, nx2_p, appK1_p, appK_p, okK_t, forL_p, frzK_o, frzK_s, prmK_o, prmK_s, varK_s, varK_o, tupK_p, lstK_p, wiK_a, binK1_p, binK_p, negK_i, blK_b, cmpK1_p, cmpK_p, chainK_t, chainK_f, chK1_p, chK_p, isNK_p, nblK_b, notK_p, andK_t, andK_f, anK_p, orK_t, orK_f, oK_p, ifeK_t, ifeK_f, ifK_p, idxK1_p, idxK_p, siK_i, aiK_p, slcK2_p, slcK1_p, slcK_p, revK_p, callE_p, bltK_p, mthK1_p, mthK0_t, mthK_p, isinK_p, slnK1_p, slnK0_p, slnK_p, soK_v, giK_p, trK1_b, trK_p, elK_t, elK_f, lcK1_p, lcK_p, tuK_p, itK1_p, itK2_p, itK_p, coK_p, rcK1_p, rcK_p, crK_p, rrK_p, l_tup, l_lst, l_kl, l_fr, l_br, g_pv, g_fr, d_lst, d_fr, d_br, d_str, d_int, d_bl, d_non, d_tup, tr_bl, tr_int, tr_non, tr_str, n_non, n_int, n_str, n_tup, n_lst, n_bl, n_ref, x_tup, x_lst, x_kl, x_fr, x_br, a_v, a_t, gt_pv, gt_fr, as_v, as_tt, as_tl, as_n, as_c, o_rtp, o_rtf, o_rtb, o_nx, lpK_nx, lpK_ct, lpK_bk, lpK_rt, foK_e, forK_p, itm_tup, itm_lst, itm_kl, itm_fr, itm_br, itm_etup, itm_elst, itm_ekl, itm_efr, itm_ebr, itm_r1, itm_r2, at_nat, at_0, at_1, at_2, at_3, at_4, at_5, at_6, at_7, p_ii, p_ss, p_tt, p_ff, p_bf, p_lf, p_fl, p_ll, p_bl, p_sub, p_mulL, p_mulR, p_divP, p_modP, p_pow, c_lt, c_le, c_gt, c_ge, eqK1_v, eqK2_v, c_eq, c_ne, c_in, c_ni, inK_v, in_tup, in_lst, in_kl, in_fr, in_br, f_abs, f_int, f_lenS, f_lent, f_lenl, f_lenk, f_lenf, f_lenb, f_listk, f_listl, f_listt, f_listf, f_tupl, f_tupt, f_tupf, f_tupb, f_all, f_any, anyK_b, f_sort1, f_sort1f, mo_il, mo_ib, mo_ik, mo_if, mo_cl, mo_cb, mo_cf, ixK0_n, ixMK_v, m_il, m_ib, m_if, coMK_v, m_cl, m_cb, m_cf, apo_s, apoK_o, apoK_r, boK_l, ap_s, apK_o, apK_r, bxK_l, gu_c, gu_e, ok_non, ok_bl, ok_int, catK_s, catK_n, turK_p, tu_n, tu_c, bo_n, bo_c, in_n, in_c, al_n, al_t, al_f, nu_n, nu_c, refK_l, x_ref, setK1_m, setK_l, set_ref, ixn_20, ixn_21, ixn_31, ixn_30, ixn_32, sl_tup, sl_lst, sl_fr, sl_br, rv_lst, rv_fr, rv_br, asI_i, b_some, m_some, List.getElem?_cons_succ, List.getElem?_cons_zero, List.getElem?_nil, List.set_cons_succ, List.set_cons_zero, List.length_cons, List.length_nil, lim, Nat.reduceAdd, Nat.reduceLeDiff, Int.reduceLT, Nat.reduceLT, Nat.lt_add_left_iff_pos, E.isNil, wipeE, Nat.zero_lt_succ, if_true, if_false, Bool.true_bne, Bool.false_bne, bne_self_eq_false, Bool.not_true, Bool.not_false, Bool.not_not, Bool.bne_false, Bool.bne_true]
    | some j =>
      have ha : eA.any (· == t) = true := by rw [← List.findIdx?_isSome, hf]; rfl
      simp only [lcK_p, e__law_drawn_right_5, cell, tp_s, ost, hl1, htr, ok_eA, any_eA, ha, hk, hf, fs, np_s, Nat.add_zero, ↓s_seq, ↓s_skip, ↓s_pass, ↓s_brk, ↓s_cnt, ↓s_retN, ↓s_ret, ↓s_ex, ↓s_ite, ↓s_ass, ↓s_par, ↓s_sub, ↓s_app, ↓s_frz, ↓s_prm, ↓e_con, ↓e_glob, ↓e_var, ↓e_tup, ↓e_lst, ↓e_bin, ↓e_neg, ↓e_cmp, ↓e_chain, ↓e_isN, ↓e_not, ↓e_and, ↓e_or, ↓e_ife, ↓e_idx, ↓pt_nil, ↓e_slc, ↓e_rev, ↓e_call, ↓e_blt, ↓e_mth, ↓e_isin, ↓e_setlen, ↓cd_nil, ↓i_one, ↓t_t, ↓r_nil, ↓r_cons, ↓rr_nil, ↓rr_cons, ↓lp_n, ↓lp_c, ↓cd_con, ↓pt_con, ↓i_con, ↓cd_var, ↓pt_var, ↓i_var, ↓cd_glob, ↓pt_glob, ↓i_glob, ↓cd_tup, ↓pt_tup, ↓i_tup, ↓cd_lst, ↓pt_lst, ↓i_lst, ↓cd_bin, ↓pt_bin, ↓i_bin, ↓cd_neg, ↓pt_neg, ↓i_neg, ↓cd_cmp, ↓pt_cmp, ↓i_cmp, ↓cd_chain, ↓pt_chain, ↓i_chain, ↓cd_isN, ↓pt_isN, ↓i_isN, ↓cd_not, ↓pt_not, ↓i_not, ↓cd_and, ↓pt_and, ↓i_and, ↓cd_or, ↓pt_or, ↓i_or, ↓cd_ife, ↓pt_ife, ↓i_ife, ↓cd_idx, ↓pt_idx, ↓i_idx, ↓cd_slc, ↓pt_slc, ↓i_slc, ↓cd_rev, ↓pt_rev, ↓i_rev, ↓cd_call, ↓pt_call, ↓i_call, ↓cd_blt, ↓pt_blt, ↓i_blt, ↓cd_mth, ↓pt_mth, ↓i_mth, ↓cd_isin, ↓pt_isin, ↓i_isin, ↓cd_setlen, ↓pt_setlen, ↓i_setlen, ↓cd_lc, ↓pt_lc, ↓i_lc, s_seq, s_skip, s_pass, s_brk, s_cnt, s_retN, s_ret, s_ex, s_ite, s_ass, s_par, s_sub, s_app, s_frz, s_prm, e_con, e_glob, e_var, e_tup, e_lst, e_bin, e_neg, e_cmp, e_chain, e_isN, e_not, e_and, e_or, e_ife, e_idx, pt_nil, e_slc, e_rev, e_call, e_blt, e_mth, e_isin, e_setlen, cd_nil, i_one, t_t, r_nil, r_cons, rr_nil, rr_cons, lp_n, lp_c, cd_con, pt_con, i_con, cd_var, pt_var, i_var, cd_glob, pt_glob, i_glob, cd_tup, pt_tup, i_tup, cd_lst, pt_lst, i_lst, cd_bin, pt_bin, i_bin, cd_neg, pt_neg, i_neg, cd_cmp, pt_cmp, i_cmp, cd_chain, pt_chain, i_chain, cd_isN, pt_isN, i_isN, cd_not, pt_not, i_not, cd_and, pt_and, i_and, cd_or, pt_or, i_or, cd_ife, pt_ife, i_ife, cd_idx, pt_idx, i_idx, cd_slc, pt_slc, i_slc, cd_rev, pt_rev, i_rev, cd_call, pt_call, i_call, cd_blt, pt_blt, i_blt, cd_mth, pt_mth, i_mth, cd_isin, pt_isin, i_isin, cd_setlen, pt_setlen, i_setlen, cd_lc, pt_lc, i_lc, ↓e_lc, ↓s_for, e_lc, s_for, nxt_nx, nxt_rt, nxt_bk, nxt_ct, rtK_p, exK_p, iteK_t, iteK_f, nxO_e, assK_p, parK_p, subK3_p, subK2_p, subK1_p, subK_p, nx2_p, appK1_p, appK_p, okK_t, forL_p, frzK_o, frzK_s, prmK_o, prmK_s, varK_s, varK_o, tupK_p, lstK_p, wiK_a, binK1_p, binK_p, negK_i, blK_b, cmpK1_p, cmpK_p, chainK_t, chainK_f, chK1_p, chK_p, isNK_p, nblK_b, notK_p, andK_t, andK_f, anK_p, orK_t, orK_f, oK_p, ifeK_t, ifeK_f, ifK_p, idxK1_p, idxK_p, siK_i, aiK_p, slcK2_p, slcK1_p, slcK_p, revK_p, callE_p, bltK_p, mthK1_p, mthK0_t, mthK_p, isinK_p, slnK1_p, slnK0_p, slnK_p, soK_v, giK_p, trK1_b, trK_p, elK_t, elK_f, lcK1_p, lcK_p, tuK_p, itK1_p, itK2_p, itK_p, coK_p, rcK1_p, rcK_p, crK_p, rrK_p, l_tup, l_lst, l_kl, l_fr, l_br, g_pv, g_fr, d_lst, d_fr, d_br, d_str, d_int, d_bl, d_non, d_tup, tr_bl, tr_int, tr_non, tr_str, n_non, n_int, n_str, n_tup, n_lst, n_bl, n_ref, x_tup, x_lst, x_kl, x_fr, x_br, a_v, a_t, gt_pv, gt_fr, as_v, as_tt, as_tl, as_n, as_c, o_rtp, o_rtf, o_rtb, o_nx, lpK_nx, lpK_ct, lpK_bk, lpK_rt, foK_e, forK_p, itm_tup, itm_lst, itm_kl, itm_fr, itm_br, itm_etup, itm_elst, itm_ekl, itm_efr, itm_ebr, itm_r1, itm_r2, at_nat, at_0, at_1, at_2, at_3, at_4, at_5, at_6, at_7, p_ii, p_ss, p_tt, p_ff, p_bf, p_lf, p_fl, p_ll, p_bl, p_sub, p_mulL, p_mulR, p_divP, p_modP, p_pow, c_lt, c_le, c_gt, c_ge, eqK1_v, eqK2_v, c_eq, c_ne, c_in, c_ni, inK_v, in_tup, in_lst, in_kl, in_fr, in_br, f_abs, f_int, f_lenS, f_lent, f_lenl, f_lenk, f_lenf, f_lenb, f_listk, f_listl, f_listt, f_listf, f_tupl, f_tupt, f_tupf, f_tupb, f_all, f_any, anyK_b, f_sort1, f_sort1f, mo_il, mo_ib, mo_ik, mo_if, mo_cl, mo_cb, mo_cf, ixK0_n, ixMK_v, m_il, m_ib, m_if, coMK_v, m_cl, m_cb, m_cf, apo_s, apoK_o, apoK_r, boK_l, ap_s, apK_o, apK_r, bxK_l, gu_c, gu_e, ok_non, ok_bl, ok_int, catK_s, catK_n, turK_p, tu_n, tu_c, bo_n, bo_c, in_n, in_c, al_n, al_t, al_f, nu_n, nu_c, refK_l, x_ref, setK1_m, setK_l, set_ref, ixn_20, ixn_21, ixn_31, ixn_30, ixn_32, sl_tup, sl_lst, sl_fr, sl_br, rv_lst, rv_fr, rv_br, asI_i, b_some, m_some, List.getElem?_cons_succ, List.getElem?_cons_zero, List.getElem?_nil, List.set_cons_succ, List.set_cons_zero, List.length_cons, List.length_nil, lim, Nat.reduceAdd, Nat.reduceLeDiff, Int.reduceLT, Nat.reduceLT, Nat.lt_add_left_iff_pos, E.isNil, wipeE, Nat.zero_lt_succ, if_true, if_false, Bool.true_bne, Bool.false_bne, bne_self_eq_false, Bool.not_true, Bool.not_false, Bool.not_not, Bool.bne_false, Bool.bne_true]

end K57

set_option maxRecDepth 100000
set_option maxHeartbeats 1000000
namespace K57
open PySem Ev
theorem oldL_names : oldL.map (·.name) = eA := by decide +kernel
theorem oldL_kind : ∀ e ∈ oldL, e.kind = ki := by
  intro e m
  obtain ⟨s, _, rfl⟩ := List.mem_map.mp m
  rfl
theorem newL_names (rs : List Row) : (newL rs).map (·.name) = rs.map (·.name) := by
  unfold newL
  rw [List.map_map]
  apply List.ext_getElem
  · simp
  · intro i h1 h2
    simp [newR]
theorem newL_tolds (rs : List Row) : (newL rs).map (·.told) = rs.map (·.told) := by
  unfold newL
  rw [List.map_map]
  apply List.ext_getElem
  · simp
  · intro i h1 h2
    simp [newR]
theorem newL_at {rs : List Row} {i : Nat} {r : Row} (hi : rs[i]? = some r) : (newL rs)[i]? = some (newR (r, i)) := by
  unfold newL
  rw [List.getElem?_map, List.getElem?_zipIdx, hi]
  simp
theorem eA_good : eA.all (fun s => PyData.strOk s) = true := by decide +kernel
theorem oldL_good : ∀ e ∈ oldL, Good e := by
  intro e m
  obtain ⟨s, ms, rfl⟩ := List.mem_map.mp m
  exact ⟨List.all_eq_true.mp eA_good s ms, fun t e => (by cases e), ok_ki⟩
theorem newL_good {rs : List Row} (hrs : ∀ r ∈ rs, RowOk r) : ∀ e ∈ newL rs, Good e := by
  intro e m
  obtain ⟨⟨r, i⟩, mp, rfl⟩ := List.mem_map.mp m
  have g := (hrs r (List.mem_of_getElem? (List.mem_zipIdx_iff_getElem?.mp mp))).good
  exact ⟨g.n, g.t, g.k⟩
theorem newL_len (rs : List Row) : (newL rs).length = rs.length := by simp [newL]
theorem key_new (r : Row) (i : Nat) : key (newR (r, i)) = key r := rfl
theorem src_new (r : Row) (i : Nat) : src oldL (newR (r, i)) = eA.findIdx? (· == key r) := src_l oldL_names
theorem map_zip {β : Type} (rs : List Row) (g : Row → β) : rs.map g = rs.zipIdx.map fun p => g p.1 := by
  apply List.ext_getElem
  · simp
  · intro i h1 h2
    simp
def srcsP (rs : List Row) : List PV := (newL rs).map fun r => wayR oldL r (lastOf r)
def dueN (rs : List Row) : List Nat := rs.filterMap fun r => eA.findIdx? (· == key r)

theorem c6 (k : Nat) (h : Hh) {rs : List Row} (hrs : ∀ r ∈ rs, RowOk r) (hl : rs.length ≤ 100) (a0 a1 a2 a3 a4 a5 a6 a9 a10 a11 a12 a13 a14 a15 a16 : Sl) : turns (lcK (callK G.ds (k + 3)) [13] e__law_drawn_right_6 (.v 13) .nil [a0, a1, a2, a3, a4, a5, a6, .sh (prog (oldL.map cell) []), .sh (prog ((newL rs).map cell) []), a9, a10, a11, a12, a13, a14, a15, a16]) ((List.range rs.length).map fun (i : Nat) => PV.int i) h = some (dueP rs, h) := by
  rw [range_map]
  unfold dueP
  rw [map_zip rs fun r => np (eA.findIdx? (· == key r))]
  refine turns_all rs.zipIdx h ?_
  rintro ⟨r, i⟩ m
  have hi : rs[i]? = some r := List.mem_zipIdx_iff_getElem?.mp m
  have so := source_of_ok k h (rt := []) (rt2 := []) (newL_at hi) oldL_good (newL_good hrs) (by decide)
  rw [src_new] at so
  simp only [lcK_p, e__law_drawn_right_6, so, ↓s_seq, ↓s_skip, ↓s_pass, ↓s_brk, ↓s_cnt, ↓s_retN, ↓s_ret, ↓s_ex, ↓s_ite, ↓s_ass, ↓s_par, ↓s_sub, ↓s_app, ↓s_frz, ↓s_prm, ↓e_con, ↓e_glob, ↓e_var, ↓e_tup, ↓e_lst, ↓e_bin, ↓e_neg, ↓e_cmp, ↓e_chain, ↓e_isN, ↓e_not, ↓e_and, ↓e_or, ↓e_ife, ↓e_idx, ↓pt_nil, ↓e_slc, ↓e_rev, ↓e_call, ↓e_blt, ↓e_mth, ↓e_isin, ↓e_setlen, ↓cd_nil, ↓i_one, ↓t_t, ↓r_nil, ↓r_cons, ↓rr_nil, ↓rr_cons, ↓lp_n, ↓lp_c, ↓cd_con, ↓pt_con, ↓i_con, ↓cd_var, ↓pt_var, ↓i_var, ↓cd_glob, ↓pt_glob, ↓i_glob, ↓cd_tup, ↓pt_tup, ↓i_tup, ↓cd_lst, ↓pt_lst, ↓i_lst, ↓cd_bin, ↓pt_bin, ↓i_bin, ↓cd_neg, ↓pt_neg, ↓i_neg, ↓cd_cmp, ↓pt_cmp, ↓i_cmp, ↓cd_chain, ↓pt_chain, ↓i_chain, ↓cd_isN, ↓pt_isN, ↓i_isN, ↓cd_not, ↓pt_not, ↓i_not, ↓cd_and, ↓pt_and, ↓i_and, ↓cd_or, ↓pt_or, ↓i_or, ↓cd_ife, ↓pt_ife, ↓i_ife, ↓cd_idx, ↓pt_idx, ↓i_idx, ↓cd_slc, ↓pt_slc, ↓i_slc, ↓cd_rev, ↓pt_rev, ↓i_rev, ↓cd_call, ↓pt_call, ↓i_call, ↓cd_blt, ↓pt_blt, ↓i_blt, ↓cd_mth, ↓pt_mth, ↓i_mth, ↓cd_isin, ↓pt_isin, ↓i_isin, ↓cd_setlen, ↓pt_setlen, ↓i_setlen, ↓cd_lc, ↓pt_lc, ↓i_lc, s_seq, s_skip, s_pass, s_brk, s_cnt, s_retN, s_ret, s_ex, s_ite, s_ass, s_par, s_sub, s_app, s_frz, s_prm, e_con, e_glob, e_var, e_tup, e_lst, e_bin, e_neg, e_cmp, e_chain, e_isN, e_not, e_and, e_or, e_ife, e_idx, pt_nil, e_slc, e_rev, e_call, e_blt, e_mth, e_isin, e_setlen, cd_nil, i_one, t_t, r_nil, r_cons, rr_nil, rr_cons, lp_n, lp_c, cd_con, pt_con, i_con, cd_var, pt_var, i_var, cd_glob, pt_glob, i_glob, cd_tup, pt_tup, i_tup, cd_lst, pt_lst, i_lst, cd_bin, pt_bin, i_bin, cd_neg, pt_neg, i_neg, cd_cmp, pt_cmp, i_cmp, cd_chain, pt_chain, i_chain, cd_isN, pt_isN, i_isN, cd_not, pt_not, i_not, cd_and, pt_and, i_and, cd_or, pt_or, i_or, cd_ife, pt_ife, i_ife, cd_idx, pt_idx, i_idx, cd_slc, pt_slc, i_slc, cd_rev, pt_rev, i_rev, cd_call, pt_call, i_call, cd_blt, pt_blt, i_blt, cd_mth, pt_mth, i_mth, cd_isin, pt_isin, i_isin, cd_setlen, pt_setlen, i_setlen, cd_lc, pt_lc, i_lc, ↓e_lc, ↓s_for, e_lc, s_for, nxt_nx, nxt_rt, nxt_bk, nxt_ct, rtK_p, exK_p, iteK_t, iteK_f, nxO_e, assK_p, parK_p, subK3_p, subK2_p, subK1_p, subK_p, nx2_p, appK1_p, appK_p, okK_t, forL_p, frzK_o, frzK_s, prmK_o, prmK_s, varK_s, varK_o, tupK_p, lstK_p, wiK_a, binK1_p, binK_p, negK_i, blK_b, cmpK1_p, cmpK_p, chainK_t, chainK_f, chK1_p, chK_p, isNK_p, nblK_b, notK_p, andK_t, andK_f, anK_p, orK_t, orK_f, oK_p, ifeK_t, ifeK_f, ifK_p, idxK1_p, idxK_p, siK_i, aiK_p, slcK2_p, slcK1_p, slcK_p, revK_p, callE_p, bltK_p, mthK1_p, mthK0_t, mthK_p, isinK_p, slnK1_p, slnK0_p, slnK_p, soK_v, giK_p, trK1_b, trK_p, elK_t, elK_f, lcK1_p, lcK_p, tuK_p, itK1_p, itK2_p, itK_p, coK_p, rcK1_p, rcK_p, crK_p, rrK_p, l_tup, l_lst, l_kl, l_fr, l_br, g_pv, g_fr, d_lst, d_fr, d_br, d_str, d_int, d_bl, d_non, d_tup, tr_bl, tr_int, tr_non, tr_str, n_non, n_int, n_str, n_tup, n_lst, n_bl, n_ref, x_tup, x_lst, x_kl, x_fr, x_br, a_v, a_t, gt_pv, gt_fr, as_v, as_tt, as_tl, as_n, as_c, o_rtp, o_rtf, o_rtb, o_nx, lpK_nx, lpK_ct, lpK_bk, lpK_rt, foK_e, forK_p, itm_tup, itm_lst, itm_kl, itm_fr, itm_br, itm_etup, itm_elst, itm_ekl, itm_efr, itm_ebr, itm_r1, itm_r2, at_nat, at_0, at_1, at_2, at_3, at_4, at_5, at_6, at_7, p_ii, p_ss, p_tt, p_ff, p_bf, p_lf, p_fl, p_ll, p_bl, p_sub, p_mulL, p_mulR, p_divP, p_modP, p_pow, c_lt, c_le, c_gt, c_ge, eqK1_v, eqK2_v, c_eq, c_ne, c_in, c_ni, inK_v, in_tup, in_lst, in_kl, in_fr, in_br, f_abs, f_int, f_lenS, f_lent, f_lenl, f_lenk, f_lenf, f_lenb, f_listk, f_listl, f_listt, f_listf, f_tupl, f_tupt, f_tupf, f_tupb, f_all, f_any, anyK_b, f_sort1, f_sort1f, mo_il, mo_ib, mo_ik, mo_if, mo_cl, mo_cb, mo_cf, ixK0_n, ixMK_v, m_il, m_ib, m_if, coMK_v, m_cl, m_cb, m_cf, apo_s, apoK_o, apoK_r, boK_l, ap_s, apK_o, apK_r, bxK_l, gu_c, gu_e, ok_non, ok_bl, ok_int, catK_s, catK_n, turK_p, tu_n, tu_c, bo_n, bo_c, in_n, in_c, al_n, al_t, al_f, nu_n, nu_c, refK_l, x_ref, setK1_m, setK_l, set_ref, ixn_20, ixn_21, ixn_31, ixn_30, ixn_32, sl_tup, sl_lst, sl_fr, sl_br, rv_lst, rv_fr, rv_br, asI_i, b_some, m_some, List.getElem?_cons_succ, List.getElem?_cons_zero, List.getElem?_nil, List.set_cons_succ, List.set_cons_zero, List.length_cons, List.length_nil, lim, Nat.reduceAdd, Nat.reduceLeDiff, Int.reduceLT, Nat.reduceLT, Nat.lt_add_left_iff_pos, E.isNil, wipeE, Nat.zero_lt_succ, if_true, if_false, Bool.true_bne, Bool.false_bne, bne_self_eq_false, Bool.not_true, Bool.not_false, Bool.not_not, Bool.bne_false, Bool.bne_true]

theorem c7 (k : Nat) (h : Hh) {rs : List Row} (hrs : ∀ r ∈ rs, RowOk r) (hl : rs.length ≤ 100) (a0 a1 a3 a5 a6 a7 a8 a9 a10 a11 a12 a13 a14 a15 a16 : Sl) : turns (lcK (callK G.ds (k + 1)) [13] e__law_drawn_right_7 (.v 13) .nil [a0, a1, .sh (.tup ((newL rs).map cell)), a3, .sh (.lst (dueP rs)), a5, a6, a7, a8, a9, a10, a11, a12, a13, a14, a15, a16]) ((List.range rs.length).map fun (i : Nat) => PV.int i) h = some (srcsP rs, h) := by
  rw [range_map]
  unfold srcsP
  conv => rhs; unfold newL
  rw [List.map_map]
  refine turns_all rs.zipIdx h ?_
  rintro ⟨r, i⟩ m
  have hi : rs[i]? = some r := List.mem_zipIdx_iff_getElem?.mp m
  have hx : L2.atI ((newL rs).map cell) (i : Int) = some (cell (newR (r, i))) := by
    rw [at_nat, List.getElem?_map, newL_at hi]; rfl
  have hy : L2.atI (dueP rs) (i : Int) = some (np (eA.findIdx? (· == key r))) := by
    rw [at_nat, dueP, List.getElem?_map, hi]; rfl
  have hs := src_new r i
  have hlast : lastOf (newR (r, i)) = nv i r.kind := rfl
  have ci : ixR h (.pv (cell (newR (r, i)))) (.pv (.int 3)) = some (.pv (nv i r.kind)) := by
    unfold cell newR
    simp only [↓s_seq, ↓s_skip, ↓s_pass, ↓s_brk, ↓s_cnt, ↓s_retN, ↓s_ret, ↓s_ex, ↓s_ite, ↓s_ass, ↓s_par, ↓s_sub, ↓s_app, ↓s_frz, ↓s_prm, ↓e_con, ↓e_glob, ↓e_var, ↓e_tup, ↓e_lst, ↓e_bin, ↓e_neg, ↓e_cmp, ↓e_chain, ↓e_isN, ↓e_not, ↓e_and, ↓e_or, ↓e_ife, ↓e_idx, ↓pt_nil, ↓e_slc, ↓e_rev, ↓e_call, ↓e_blt, ↓e_mth, ↓e_isin, ↓e_setlen, ↓cd_nil, ↓i_one, ↓t_t, ↓r_nil, ↓r_cons, ↓rr_nil, ↓rr_cons, ↓lp_n, ↓lp_c, ↓cd_con, ↓pt_con, ↓i_con, ↓cd_var, ↓pt_var, ↓i_var, ↓cd_glob, ↓pt_glob, ↓i_glob, ↓cd_tup, ↓pt_tup, ↓i_tup, ↓cd_lst, ↓pt_lst, ↓i_lst, ↓cd_bin, ↓pt_bin, ↓i_bin, ↓cd_neg, ↓pt_neg, ↓i_neg, ↓cd_cmp, ↓pt_cmp, ↓i_cmp, ↓cd_chain, ↓pt_chain, ↓i_chain, ↓cd_isN, ↓pt_isN, ↓i_isN, ↓cd_not, ↓pt_not, ↓i_not, ↓cd_and, ↓pt_and, ↓i_and, ↓cd_or, ↓pt_or, ↓i_or, ↓cd_ife, ↓pt_ife, ↓i_ife, ↓cd_idx, ↓pt_idx, ↓i_idx, ↓cd_slc, ↓pt_slc, ↓i_slc, ↓cd_rev, ↓pt_rev, ↓i_rev, ↓cd_call, ↓pt_call, ↓i_call, ↓cd_blt, ↓pt_blt, ↓i_blt, ↓cd_mth, ↓pt_mth, ↓i_mth, ↓cd_isin, ↓pt_isin, ↓i_isin, ↓cd_setlen, ↓pt_setlen, ↓i_setlen, ↓cd_lc, ↓pt_lc, ↓i_lc, s_seq, s_skip, s_pass, s_brk, s_cnt, s_retN, s_ret, s_ex, s_ite, s_ass, s_par, s_sub, s_app, s_frz, s_prm, e_con, e_glob, e_var, e_tup, e_lst, e_bin, e_neg, e_cmp, e_chain, e_isN, e_not, e_and, e_or, e_ife, e_idx, pt_nil, e_slc, e_rev, e_call, e_blt, e_mth, e_isin, e_setlen, cd_nil, i_one, t_t, r_nil, r_cons, rr_nil, rr_cons, lp_n, lp_c, cd_con, pt_con, i_con, cd_var, pt_var, i_var, cd_glob, pt_glob, i_glob, cd_tup, pt_tup, i_tup, cd_lst, pt_lst, i_lst, cd_bin, pt_bin, i_bin, cd_neg, pt_neg, i_neg, cd_cmp, pt_cmp, i_cmp, cd_chain, pt_chain, i_chain, cd_isN, pt_isN, i_isN, cd_not, pt_not, i_not, cd_and, pt_and, i_and, cd_or, pt_or, i_or, cd_ife, pt_ife, i_ife, cd_idx, pt_idx, i_idx, cd_slc, pt_slc, i_slc, cd_rev, pt_rev, i_rev, cd_call, pt_call, i_call, cd_blt, pt_blt, i_blt, cd_mth, pt_mth, i_mth, cd_isin, pt_isin, i_isin, cd_setlen, pt_setlen, i_setlen, cd_lc, pt_lc, i_lc, ↓e_lc, ↓s_for, e_lc, s_for, nxt_nx, nxt_rt, nxt_bk, nxt_ct, rtK_p, exK_p, iteK_t, iteK_f, nxO_e, assK_p, parK_p, subK3_p, subK2_p, subK1_p, subK_p, nx2_p, appK1_p, appK_p, okK_t, forL_p, frzK_o, frzK_s, prmK_o, prmK_s, varK_s, varK_o, tupK_p, lstK_p, wiK_a, binK1_p, binK_p, negK_i, blK_b, cmpK1_p, cmpK_p, chainK_t, chainK_f, chK1_p, chK_p, isNK_p, nblK_b, notK_p, andK_t, andK_f, anK_p, orK_t, orK_f, oK_p, ifeK_t, ifeK_f, ifK_p, idxK1_p, idxK_p, siK_i, aiK_p, slcK2_p, slcK1_p, slcK_p, revK_p, callE_p, bltK_p, mthK1_p, mthK0_t, mthK_p, isinK_p, slnK1_p, slnK0_p, slnK_p, soK_v, giK_p, trK1_b, trK_p, elK_t, elK_f, lcK1_p, lcK_p, tuK_p, itK1_p, itK2_p, itK_p, coK_p, rcK1_p, rcK_p, crK_p, rrK_p, l_tup, l_lst, l_kl, l_fr, l_br, g_pv, g_fr, d_lst, d_fr, d_br, d_str, d_int, d_bl, d_non, d_tup, tr_bl, tr_int, tr_non, tr_str, n_non, n_int, n_str, n_tup, n_lst, n_bl, n_ref, x_tup, x_lst, x_kl, x_fr, x_br, a_v, a_t, gt_pv, gt_fr, as_v, as_tt, as_tl, as_n, as_c, o_rtp, o_rtf, o_rtb, o_nx, lpK_nx, lpK_ct, lpK_bk, lpK_rt, foK_e, forK_p, itm_tup, itm_lst, itm_kl, itm_fr, itm_br, itm_etup, itm_elst, itm_ekl, itm_efr, itm_ebr, itm_r1, itm_r2, at_nat, at_0, at_1, at_2, at_3, at_4, at_5, at_6, at_7, p_ii, p_ss, p_tt, p_ff, p_bf, p_lf, p_fl, p_ll, p_bl, p_sub, p_mulL, p_mulR, p_divP, p_modP, p_pow, c_lt, c_le, c_gt, c_ge, eqK1_v, eqK2_v, c_eq, c_ne, c_in, c_ni, inK_v, in_tup, in_lst, in_kl, in_fr, in_br, f_abs, f_int, f_lenS, f_lent, f_lenl, f_lenk, f_lenf, f_lenb, f_listk, f_listl, f_listt, f_listf, f_tupl, f_tupt, f_tupf, f_tupb, f_all, f_any, anyK_b, f_sort1, f_sort1f, mo_il, mo_ib, mo_ik, mo_if, mo_cl, mo_cb, mo_cf, ixK0_n, ixMK_v, m_il, m_ib, m_if, coMK_v, m_cl, m_cb, m_cf, apo_s, apoK_o, apoK_r, boK_l, ap_s, apK_o, apK_r, bxK_l, gu_c, gu_e, ok_non, ok_bl, ok_int, catK_s, catK_n, turK_p, tu_n, tu_c, bo_n, bo_c, in_n, in_c, al_n, al_t, al_f, nu_n, nu_c, refK_l, x_ref, setK1_m, setK_l, set_ref, ixn_20, ixn_21, ixn_31, ixn_30, ixn_32, sl_tup, sl_lst, sl_fr, sl_br, rv_lst, rv_fr, rv_br, asI_i, b_some, m_some, List.getElem?_cons_succ, List.getElem?_cons_zero, List.getElem?_nil, List.set_cons_succ, List.set_cons_zero, List.length_cons, List.length_nil, lim, Nat.reduceAdd, Nat.reduceLeDiff, Int.reduceLT, Nat.reduceLT, Nat.lt_add_left_iff_pos, E.isNil, wipeE, Nat.zero_lt_succ, if_true, if_false, Bool.true_bne, Bool.false_bne, bne_self_eq_false, Bool.not_true, Bool.not_false, Bool.not_not, Bool.bne_false, Bool.bne_true]
  simp only [Function.comp]
  unfold wayR
  rw [hs, hlast]
  cases hf : eA.findIdx? (· == key r) with
  | none =>
    rw [hf] at hy
    simp only [lcK_p, e__law_drawn_right_7, hx, hy, np_n, ci, ↓s_seq, ↓s_skip, ↓s_pass, ↓s_brk, ↓s_cnt, ↓s_retN, ↓s_ret, ↓s_ex, ↓s_ite, ↓s_ass, ↓s_par, ↓s_sub, ↓s_app, ↓s_frz, ↓s_prm, ↓e_con, ↓e_glob, ↓e_var, ↓e_tup, ↓e_lst, ↓e_bin, ↓e_neg, ↓e_cmp, ↓e_chain, ↓e_isN, ↓e_not, ↓e_and, ↓e_or, ↓e_ife, ↓e_idx, ↓pt_nil, ↓e_slc, ↓e_rev, ↓e_call, ↓e_blt, ↓e_mth, ↓e_isin, ↓e_setlen, ↓cd_nil, ↓i_one, ↓t_t, ↓r_nil, ↓r_cons, ↓rr_nil, ↓rr_cons, ↓lp_n, ↓lp_c, ↓cd_con, ↓pt_con, ↓i_con, ↓cd_var, ↓pt_var, ↓i_var, ↓cd_glob, ↓pt_glob, ↓i_glob, ↓cd_tup, ↓pt_tup, ↓i_tup, ↓cd_lst, ↓pt_lst, ↓i_lst, ↓cd_bin, ↓pt_bin, ↓i_bin, ↓cd_neg, ↓pt_neg, ↓i_neg, ↓cd_cmp, ↓pt_cmp, ↓i_cmp, ↓cd_chain, ↓pt_chain, ↓i_chain, ↓cd_isN, ↓pt_isN, ↓i_isN, ↓cd_not, ↓pt_not, ↓i_not, ↓cd_and, ↓pt_and, ↓i_and, ↓cd_or, ↓pt_or, ↓i_or, ↓cd_ife, ↓pt_ife, ↓i_ife, ↓cd_idx, ↓pt_idx, ↓i_idx, ↓cd_slc, ↓pt_slc, ↓i_slc, ↓cd_rev, ↓pt_rev, ↓i_rev, ↓cd_call, ↓pt_call, ↓i_call, ↓cd_blt, ↓pt_blt, ↓i_blt, ↓cd_mth, ↓pt_mth, ↓i_mth, ↓cd_isin, ↓pt_isin, ↓i_isin, ↓cd_setlen, ↓pt_setlen, ↓i_setlen, ↓cd_lc, ↓pt_lc, ↓i_lc, s_seq, s_skip, s_pass, s_brk, s_cnt, s_retN, s_ret, s_ex, s_ite, s_ass, s_par, s_sub, s_app, s_frz, s_prm, e_con, e_glob, e_var, e_tup, e_lst, e_bin, e_neg, e_cmp, e_chain, e_isN, e_not, e_and, e_or, e_ife, e_idx, pt_nil, e_slc, e_rev, e_call, e_blt, e_mth, e_isin, e_setlen, cd_nil, i_one, t_t, r_nil, r_cons, rr_nil, rr_cons, lp_n, lp_c, cd_con, pt_con, i_con, cd_var, pt_var, i_var, cd_glob, pt_glob, i_glob, cd_tup, pt_tup, i_tup, cd_lst, pt_lst, i_lst, cd_bin, pt_bin, i_bin, cd_neg, pt_neg, i_neg, cd_cmp, pt_cmp, i_cmp, cd_chain, pt_chain, i_chain, cd_isN, pt_isN, i_isN, cd_not, pt_not, i_not, cd_and, pt_and, i_and, cd_or, pt_or, i_or, cd_ife, pt_ife, i_ife, cd_idx, pt_idx, i_idx, cd_slc, pt_slc, i_slc, cd_rev, pt_rev, i_rev, cd_call, pt_call, i_call, cd_blt, pt_blt, i_blt, cd_mth, pt_mth, i_mth, cd_isin, pt_isin, i_isin, cd_setlen, pt_setlen, i_setlen, cd_lc, pt_lc, i_lc, ↓e_lc, ↓s_for, e_lc, s_for, nxt_nx, nxt_rt, nxt_bk, nxt_ct, rtK_p, exK_p, iteK_t, iteK_f, nxO_e, assK_p, parK_p, subK3_p, subK2_p, subK1_p, subK_p, nx2_p, appK1_p, appK_p, okK_t, forL_p, frzK_o, frzK_s, prmK_o, prmK_s, varK_s, varK_o, tupK_p, lstK_p, wiK_a, binK1_p, binK_p, negK_i, blK_b, cmpK1_p, cmpK_p, chainK_t, chainK_f, chK1_p, chK_p, isNK_p, nblK_b, notK_p, andK_t, andK_f, anK_p, orK_t, orK_f, oK_p, ifeK_t, ifeK_f, ifK_p, idxK1_p, idxK_p, siK_i, aiK_p, slcK2_p, slcK1_p, slcK_p, revK_p, callE_p, bltK_p, mthK1_p, mthK0_t, mthK_p, isinK_p, slnK1_p, slnK0_p, slnK_p, soK_v, giK_p, trK1_b, trK_p, elK_t, elK_f, lcK1_p, lcK_p, tuK_p, itK1_p, itK2_p, itK_p, coK_p, rcK1_p, rcK_p, crK_p, rrK_p, l_tup, l_lst, l_kl, l_fr, l_br, g_pv, g_fr, d_lst, d_fr, d_br, d_str, d_int, d_bl, d_non, d_tup, tr_bl, tr_int, tr_non, tr_str, n_non, n_int, n_str, n_tup, n_lst, n_bl, n_ref, x_tup, x_lst, x_kl, x_fr, x_br, a_v, a_t, gt_pv, gt_fr, as_v, as_tt, as_tl, as_n, as_c, o_rtp, o_rtf, o_rtb, o_nx, lpK_nx, lpK_ct, lpK_bk, lpK_rt, foK_e, forK_p, itm_tup, itm_lst, itm_kl, itm_fr, itm_br, itm_etup, itm_elst, itm_ekl, itm_efr, itm_ebr, itm_r1, itm_r2, at_nat, at_0, at_1, at_2, at_3, at_4, at_5, at_6, at_7, p_ii, p_ss, p_tt, p_ff, p_bf, p_lf, p_fl, p_ll, p_bl, p_sub, p_mulL, p_mulR, p_divP, p_modP, p_pow, c_lt, c_le, c_gt, c_ge, eqK1_v, eqK2_v, c_eq, c_ne, c_in, c_ni, inK_v, in_tup, in_lst, in_kl, in_fr, in_br, f_abs, f_int, f_lenS, f_lent, f_lenl, f_lenk, f_lenf, f_lenb, f_listk, f_listl, f_listt, f_listf, f_tupl, f_tupt, f_tupf, f_tupb, f_all, f_any, anyK_b, f_sort1, f_sort1f, mo_il, mo_ib, mo_ik, mo_if, mo_cl, mo_cb, mo_cf, ixK0_n, ixMK_v, m_il, m_ib, m_if, coMK_v, m_cl, m_cb, m_cf, apo_s, apoK_o, apoK_r, boK_l, ap_s, apK_o, apK_r, bxK_l, gu_c, gu_e, ok_non, ok_bl, ok_int, catK_s, catK_n, turK_p, tu_n, tu_c, bo_n, bo_c, in_n, in_c, al_n, al_t, al_f, nu_n, nu_c, refK_l, x_ref, setK1_m, setK_l, set_ref, ixn_20, ixn_21, ixn_31, ixn_30, ixn_32, sl_tup, sl_lst, sl_fr, sl_br, rv_lst, rv_fr, rv_br, asI_i, b_some, m_some, List.getElem?_cons_succ, List.getElem?_cons_zero, List.getElem?_nil, List.set_cons_succ, List.set_cons_zero, List.length_cons, List.length_nil, lim, Nat.reduceAdd, Nat.reduceLeDiff, Int.reduceLT, Nat.reduceLT, Nat.lt_add_left_iff_pos, E.isNil, wipeE, Nat.zero_lt_succ, if_true, if_false, Bool.true_bne, Bool.false_bne, bne_self_eq_false, Bool.not_true, Bool.not_false, Bool.not_not, Bool.bne_false, Bool.bne_true]
  | some j =>
    rw [hf] at hy
    simp only [lcK_p, e__law_drawn_right_7, hx, hy, np_s, ci, ↓s_seq, ↓s_skip, ↓s_pass, ↓s_brk, ↓s_cnt, ↓s_retN, ↓s_ret, ↓s_ex, ↓s_ite, ↓s_ass, ↓s_par, ↓s_sub, ↓s_app, ↓s_frz, ↓s_prm, ↓e_con, ↓e_glob, ↓e_var, ↓e_tup, ↓e_lst, ↓e_bin, ↓e_neg, ↓e_cmp, ↓e_chain, ↓e_isN, ↓e_not, ↓e_and, ↓e_or, ↓e_ife, ↓e_idx, ↓pt_nil, ↓e_slc, ↓e_rev, ↓e_call, ↓e_blt, ↓e_mth, ↓e_isin, ↓e_setlen, ↓cd_nil, ↓i_one, ↓t_t, ↓r_nil, ↓r_cons, ↓rr_nil, ↓rr_cons, ↓lp_n, ↓lp_c, ↓cd_con, ↓pt_con, ↓i_con, ↓cd_var, ↓pt_var, ↓i_var, ↓cd_glob, ↓pt_glob, ↓i_glob, ↓cd_tup, ↓pt_tup, ↓i_tup, ↓cd_lst, ↓pt_lst, ↓i_lst, ↓cd_bin, ↓pt_bin, ↓i_bin, ↓cd_neg, ↓pt_neg, ↓i_neg, ↓cd_cmp, ↓pt_cmp, ↓i_cmp, ↓cd_chain, ↓pt_chain, ↓i_chain, ↓cd_isN, ↓pt_isN, ↓i_isN, ↓cd_not, ↓pt_not, ↓i_not, ↓cd_and, ↓pt_and, ↓i_and, ↓cd_or, ↓pt_or, ↓i_or, ↓cd_ife, ↓pt_ife, ↓i_ife, ↓cd_idx, ↓pt_idx, ↓i_idx, ↓cd_slc, ↓pt_slc, ↓i_slc, ↓cd_rev, ↓pt_rev, ↓i_rev, ↓cd_call, ↓pt_call, ↓i_call, ↓cd_blt, ↓pt_blt, ↓i_blt, ↓cd_mth, ↓pt_mth, ↓i_mth, ↓cd_isin, ↓pt_isin, ↓i_isin, ↓cd_setlen, ↓pt_setlen, ↓i_setlen, ↓cd_lc, ↓pt_lc, ↓i_lc, s_seq, s_skip, s_pass, s_brk, s_cnt, s_retN, s_ret, s_ex, s_ite, s_ass, s_par, s_sub, s_app, s_frz, s_prm, e_con, e_glob, e_var, e_tup, e_lst, e_bin, e_neg, e_cmp, e_chain, e_isN, e_not, e_and, e_or, e_ife, e_idx, pt_nil, e_slc, e_rev, e_call, e_blt, e_mth, e_isin, e_setlen, cd_nil, i_one, t_t, r_nil, r_cons, rr_nil, rr_cons, lp_n, lp_c, cd_con, pt_con, i_con, cd_var, pt_var, i_var, cd_glob, pt_glob, i_glob, cd_tup, pt_tup, i_tup, cd_lst, pt_lst, i_lst, cd_bin, pt_bin, i_bin, cd_neg, pt_neg, i_neg, cd_cmp, pt_cmp, i_cmp, cd_chain, pt_chain, i_chain, cd_isN, pt_isN, i_isN, cd_not, pt_not, i_not, cd_and, pt_and, i_and, cd_or, pt_or, i_or, cd_ife, pt_ife, i_ife, cd_idx, pt_idx, i_idx, cd_slc, pt_slc, i_slc, cd_rev, pt_rev, i_rev, cd_call, pt_call, i_call, cd_blt, pt_blt, i_blt, cd_mth, pt_mth, i_mth, cd_isin, pt_isin, i_isin, cd_setlen, pt_setlen, i_setlen, cd_lc, pt_lc, i_lc, ↓e_lc, ↓s_for, e_lc, s_for, nxt_nx, nxt_rt, nxt_bk, nxt_ct, rtK_p, exK_p, iteK_t, iteK_f, nxO_e, assK_p, parK_p, subK3_p, subK2_p, subK1_p, subK_p, nx2_p, appK1_p, appK_p, okK_t, forL_p, frzK_o, frzK_s, prmK_o, prmK_s, varK_s, varK_o, tupK_p, lstK_p, wiK_a, binK1_p, binK_p, negK_i, blK_b, cmpK1_p, cmpK_p, chainK_t, chainK_f, chK1_p, chK_p, isNK_p, nblK_b, notK_p, andK_t, andK_f, anK_p, orK_t, orK_f, oK_p, ifeK_t, ifeK_f, ifK_p, idxK1_p, idxK_p, siK_i, aiK_p, slcK2_p, slcK1_p, slcK_p, revK_p, callE_p, bltK_p, mthK1_p, mthK0_t, mthK_p, isinK_p, slnK1_p, slnK0_p, slnK_p, soK_v, giK_p, trK1_b, trK_p, elK_t, elK_f, lcK1_p, lcK_p, tuK_p, itK1_p, itK2_p, itK_p, coK_p, rcK1_p, rcK_p, crK_p, rrK_p, l_tup, l_lst, l_kl, l_fr, l_br, g_pv, g_fr, d_lst, d_fr, d_br, d_str, d_int, d_bl, d_non, d_tup, tr_bl, tr_int, tr_non, tr_str, n_non, n_int, n_str, n_tup, n_lst, n_bl, n_ref, x_tup, x_lst, x_kl, x_fr, x_br, a_v, a_t, gt_pv, gt_fr, as_v, as_tt, as_tl, as_n, as_c, o_rtp, o_rtf, o_rtb, o_nx, lpK_nx, lpK_ct, lpK_bk, lpK_rt, foK_e, forK_p, itm_tup, itm_lst, itm_kl, itm_fr, itm_br, itm_etup, itm_elst, itm_ekl, itm_efr, itm_ebr, itm_r1, itm_r2, at_nat, at_0, at_1, at_2, at_3, at_4, at_5, at_6, at_7, p_ii, p_ss, p_tt, p_ff, p_bf, p_lf, p_fl, p_ll, p_bl, p_sub, p_mulL, p_mulR, p_divP, p_modP, p_pow, c_lt, c_le, c_gt, c_ge, eqK1_v, eqK2_v, c_eq, c_ne, c_in, c_ni, inK_v, in_tup, in_lst, in_kl, in_fr, in_br, f_abs, f_int, f_lenS, f_lent, f_lenl, f_lenk, f_lenf, f_lenb, f_listk, f_listl, f_listt, f_listf, f_tupl, f_tupt, f_tupf, f_tupb, f_all, f_any, anyK_b, f_sort1, f_sort1f, mo_il, mo_ib, mo_ik, mo_if, mo_cl, mo_cb, mo_cf, ixK0_n, ixMK_v, m_il, m_ib, m_if, coMK_v, m_cl, m_cb, m_cf, apo_s, apoK_o, apoK_r, boK_l, ap_s, apK_o, apK_r, bxK_l, gu_c, gu_e, ok_non, ok_bl, ok_int, catK_s, catK_n, turK_p, tu_n, tu_c, bo_n, bo_c, in_n, in_c, al_n, al_t, al_f, nu_n, nu_c, refK_l, x_ref, setK1_m, setK_l, set_ref, ixn_20, ixn_21, ixn_31, ixn_30, ixn_32, sl_tup, sl_lst, sl_fr, sl_br, rv_lst, rv_fr, rv_br, asI_i, b_some, m_some, List.getElem?_cons_succ, List.getElem?_cons_zero, List.getElem?_nil, List.set_cons_succ, List.set_cons_zero, List.length_cons, List.length_nil, lim, Nat.reduceAdd, Nat.reduceLeDiff, Int.reduceLT, Nat.reduceLT, Nat.lt_add_left_iff_pos, E.isNil, wipeE, Nat.zero_lt_succ, if_true, if_false, Bool.true_bne, Bool.false_bne, bne_self_eq_false, Bool.not_true, Bool.not_false, Bool.not_not, Bool.bne_false, Bool.bne_true]

theorem c8 (k : Nat) (h : Hh) {rs : List Row} (hrs : ∀ r ∈ rs, RowOk r) (hl : rs.length ≤ 100) (a0 a1 a2 a3 a4 a5 a6 a7 a8 a9 a10 a11 a12 a13 a14 a15 a16 : Sl) : turns (lcK (callK G.ds (k + 1)) [13] e__law_drawn_right_8 (.v 13) w__law_drawn_right_8 [a0, a1, a2, a3, a4, a5, a6, a7, a8, a9, a10, a11, a12, a13, a14, a15, a16]) (dueP rs) h = some ((dueN rs).map fun n => PV.int (n : Nat), h) := by
  unfold dueP dueN
  rw [List.map_filterMap]
  refine turns_map rs h fun r m => ?_
  cases hf : eA.findIdx? (· == key r) with
  | none => simp only [lcK_p, e__law_drawn_right_8, w__law_drawn_right_8, np_n, Option.map_none, ↓s_seq, ↓s_skip, ↓s_pass, ↓s_brk, ↓s_cnt, ↓s_retN, ↓s_ret, ↓s_ex, ↓s_ite, ↓s_ass, ↓s_par, ↓s_sub, ↓s_app, ↓s_frz, ↓s_prm, ↓e_con, ↓e_glob, ↓e_var, ↓e_tup, ↓e_lst, ↓e_bin, ↓e_neg, ↓e_cmp, ↓e_chain, ↓e_isN, ↓e_not, ↓e_and, ↓e_or, ↓e_ife, ↓e_idx, ↓pt_nil, ↓e_slc, ↓e_rev, ↓e_call, ↓e_blt, ↓e_mth, ↓e_isin, ↓e_setlen, ↓cd_nil, ↓i_one, ↓t_t, ↓r_nil, ↓r_cons, ↓rr_nil, ↓rr_cons, ↓lp_n, ↓lp_c, ↓cd_con, ↓pt_con, ↓i_con, ↓cd_var, ↓pt_var, ↓i_var, ↓cd_glob, ↓pt_glob, ↓i_glob, ↓cd_tup, ↓pt_tup, ↓i_tup, ↓cd_lst, ↓pt_lst, ↓i_lst, ↓cd_bin, ↓pt_bin, ↓i_bin, ↓cd_neg, ↓pt_neg, ↓i_neg, ↓cd_cmp, ↓pt_cmp, ↓i_cmp, ↓cd_chain, ↓pt_chain, ↓i_chain, ↓cd_isN, ↓pt_isN, ↓i_isN, ↓cd_not, ↓pt_not, ↓i_not, ↓cd_and, ↓pt_and, ↓i_and, ↓cd_or, ↓pt_or, ↓i_or, ↓cd_ife, ↓pt_ife, ↓i_ife, ↓cd_idx, ↓pt_idx, ↓i_idx, ↓cd_slc, ↓pt_slc, ↓i_slc, ↓cd_rev, ↓pt_rev, ↓i_rev, ↓cd_call, ↓pt_call, ↓i_call, ↓cd_blt, ↓pt_blt, ↓i_blt, ↓cd_mth, ↓pt_mth, ↓i_mth, ↓cd_isin, ↓pt_isin, ↓i_isin, ↓cd_setlen, ↓pt_setlen, ↓i_setlen, ↓cd_lc, ↓pt_lc, ↓i_lc, s_seq, s_skip, s_pass, s_brk, s_cnt, s_retN, s_ret, s_ex, s_ite, s_ass, s_par, s_sub, s_app, s_frz, s_prm, e_con, e_glob, e_var, e_tup, e_lst, e_bin, e_neg, e_cmp, e_chain, e_isN, e_not, e_and, e_or, e_ife, e_idx, pt_nil, e_slc, e_rev, e_call, e_blt, e_mth, e_isin, e_setlen, cd_nil, i_one, t_t, r_nil, r_cons, rr_nil, rr_cons, lp_n, lp_c, cd_con, pt_con, i_con, cd_var, pt_var, i_var, cd_glob, pt_glob, i_glob, cd_tup, pt_tup, i_tup, cd_lst, pt_lst, i_lst, cd_bin, pt_bin, i_bin, cd_neg, pt_neg, i_neg, cd_cmp, pt_cmp, i_cmp, cd_chain, pt_chain, i_chain, cd_isN, pt_isN, i_isN, cd_not, pt_not, i_not, cd_and, pt_and, i_and, cd_or, pt_or, i_or, cd_ife, pt_ife, i_ife, cd_idx, pt_idx, i_idx, cd_slc, pt_slc, i_slc, cd_rev, pt_rev, i_rev, cd_call, pt_call, i_call, cd_blt, pt_blt, i_blt, cd_mth, pt_mth, i_mth, cd_isin, pt_isin, i_isin, cd_setlen, pt_setlen, i_setlen, cd_lc, pt_lc, i_lc, ↓e_lc, ↓s_for, e_lc, s_for, nxt_nx, nxt_rt, nxt_bk, nxt_ct, rtK_p, exK_p, iteK_t, iteK_f, nxO_e, assK_p, parK_p, subK3_p, subK2_p, subK1_p, subK_p, nx2_p, appK1_p, appK_p, okK_t, forL_p, frzK_o, frzK_s, prmK_o, prmK_s, varK_s, varK_o, tupK_p, lstK_p, wiK_a, binK1_p, binK_p, negK_i, blK_b, cmpK1_p, cmpK_p, chainK_t, chainK_f, chK1_p, chK_p, isNK_p, nblK_b, notK_p, andK_t, andK_f, anK_p, orK_t, orK_f, oK_p, ifeK_t, ifeK_f, ifK_p, idxK1_p, idxK_p, siK_i, aiK_p, slcK2_p, slcK1_p, slcK_p, revK_p, callE_p, bltK_p, mthK1_p, mthK0_t, mthK_p, isinK_p, slnK1_p, slnK0_p, slnK_p, soK_v, giK_p, trK1_b, trK_p, elK_t, elK_f, lcK1_p, lcK_p, tuK_p, itK1_p, itK2_p, itK_p, coK_p, rcK1_p, rcK_p, crK_p, rrK_p, l_tup, l_lst, l_kl, l_fr, l_br, g_pv, g_fr, d_lst, d_fr, d_br, d_str, d_int, d_bl, d_non, d_tup, tr_bl, tr_int, tr_non, tr_str, n_non, n_int, n_str, n_tup, n_lst, n_bl, n_ref, x_tup, x_lst, x_kl, x_fr, x_br, a_v, a_t, gt_pv, gt_fr, as_v, as_tt, as_tl, as_n, as_c, o_rtp, o_rtf, o_rtb, o_nx, lpK_nx, lpK_ct, lpK_bk, lpK_rt, foK_e, forK_p, itm_tup, itm_lst, itm_kl, itm_fr, itm_br, itm_etup, itm_elst, itm_ekl, itm_efr, itm_ebr, itm_r1, itm_r2, at_nat, at_0, at_1, at_2, at_3, at_4, at_5, at_6, at_7, p_ii, p_ss, p_tt, p_ff, p_bf, p_lf, p_fl, p_ll, p_bl, p_sub, p_mulL, p_mulR, p_divP, p_modP, p_pow, c_lt, c_le, c_gt, c_ge, eqK1_v, eqK2_v, c_eq, c_ne, c_in, c_ni, inK_v, in_tup, in_lst, in_kl, in_fr, in_br, f_abs, f_int, f_lenS, f_lent, f_lenl, f_lenk, f_lenf, f_lenb, f_listk, f_listl, f_listt, f_listf, f_tupl, f_tupt, f_tupf, f_tupb, f_all, f_any, anyK_b, f_sort1, f_sort1f, mo_il, mo_ib, mo_ik, mo_if, mo_cl, mo_cb, mo_cf, ixK0_n, ixMK_v, m_il, m_ib, m_if, coMK_v, m_cl, m_cb, m_cf, apo_s, apoK_o, apoK_r, boK_l, ap_s, apK_o, apK_r, bxK_l, gu_c, gu_e, ok_non, ok_bl, ok_int, catK_s, catK_n, turK_p, tu_n, tu_c, bo_n, bo_c, in_n, in_c, al_n, al_t, al_f, nu_n, nu_c, refK_l, x_ref, setK1_m, setK_l, set_ref, ixn_20, ixn_21, ixn_31, ixn_30, ixn_32, sl_tup, sl_lst, sl_fr, sl_br, rv_lst, rv_fr, rv_br, asI_i, b_some, m_some, List.getElem?_cons_succ, List.getElem?_cons_zero, List.getElem?_nil, List.set_cons_succ, List.set_cons_zero, List.length_cons, List.length_nil, lim, Nat.reduceAdd, Nat.reduceLeDiff, Int.reduceLT, Nat.reduceLT, Nat.lt_add_left_iff_pos, E.isNil, wipeE, Nat.zero_lt_succ, if_true, if_false, Bool.true_bne, Bool.false_bne, bne_self_eq_false, Bool.not_true, Bool.not_false, Bool.not_not, Bool.bne_false, Bool.bne_true]
  | some j => simp only [lcK_p, e__law_drawn_right_8, w__law_drawn_right_8, np_s, Option.map_some, ↓s_seq, ↓s_skip, ↓s_pass, ↓s_brk, ↓s_cnt, ↓s_retN, ↓s_ret, ↓s_ex, ↓s_ite, ↓s_ass, ↓s_par, ↓s_sub, ↓s_app, ↓s_frz, ↓s_prm, ↓e_con, ↓e_glob, ↓e_var, ↓e_tup, ↓e_lst, ↓e_bin, ↓e_neg, ↓e_cmp, ↓e_chain, ↓e_isN, ↓e_not, ↓e_and, ↓e_or, ↓e_ife, ↓e_idx, ↓pt_nil, ↓e_slc, ↓e_rev, ↓e_call, ↓e_blt, ↓e_mth, ↓e_isin, ↓e_setlen, ↓cd_nil, ↓i_one, ↓t_t, ↓r_nil, ↓r_cons, ↓rr_nil, ↓rr_cons, ↓lp_n, ↓lp_c, ↓cd_con, ↓pt_con, ↓i_con, ↓cd_var, ↓pt_var, ↓i_var, ↓cd_glob, ↓pt_glob, ↓i_glob, ↓cd_tup, ↓pt_tup, ↓i_tup, ↓cd_lst, ↓pt_lst, ↓i_lst, ↓cd_bin, ↓pt_bin, ↓i_bin, ↓cd_neg, ↓pt_neg, ↓i_neg, ↓cd_cmp, ↓pt_cmp, ↓i_cmp, ↓cd_chain, ↓pt_chain, ↓i_chain, ↓cd_isN, ↓pt_isN, ↓i_isN, ↓cd_not, ↓pt_not, ↓i_not, ↓cd_and, ↓pt_and, ↓i_and, ↓cd_or, ↓pt_or, ↓i_or, ↓cd_ife, ↓pt_ife, ↓i_ife, ↓cd_idx, ↓pt_idx, ↓i_idx, ↓cd_slc, ↓pt_slc, ↓i_slc, ↓cd_rev, ↓pt_rev, ↓i_rev, ↓cd_call, ↓pt_call, ↓i_call, ↓cd_blt, ↓pt_blt, ↓i_blt, ↓cd_mth, ↓pt_mth, ↓i_mth, ↓cd_isin, ↓pt_isin, ↓i_isin, ↓cd_setlen, ↓pt_setlen, ↓i_setlen, ↓cd_lc, ↓pt_lc, ↓i_lc, s_seq, s_skip, s_pass, s_brk, s_cnt, s_retN, s_ret, s_ex, s_ite, s_ass, s_par, s_sub, s_app, s_frz, s_prm, e_con, e_glob, e_var, e_tup, e_lst, e_bin, e_neg, e_cmp, e_chain, e_isN, e_not, e_and, e_or, e_ife, e_idx, pt_nil, e_slc, e_rev, e_call, e_blt, e_mth, e_isin, e_setlen, cd_nil, i_one, t_t, r_nil, r_cons, rr_nil, rr_cons, lp_n, lp_c, cd_con, pt_con, i_con, cd_var, pt_var, i_var, cd_glob, pt_glob, i_glob, cd_tup, pt_tup, i_tup, cd_lst, pt_lst, i_lst, cd_bin, pt_bin, i_bin, cd_neg, pt_neg, i_neg, cd_cmp, pt_cmp, i_cmp, cd_chain, pt_chain, i_chain, cd_isN, pt_isN, i_isN, cd_not, pt_not, i_not, cd_and, pt_and, i_and, cd_or, pt_or, i_or, cd_ife, pt_ife, i_ife, cd_idx, pt_idx, i_idx, cd_slc, pt_slc, i_slc, cd_rev, pt_rev, i_rev, cd_call, pt_call, i_call, cd_blt, pt_blt, i_blt, cd_mth, pt_mth, i_mth, cd_isin, pt_isin, i_isin, cd_setlen, pt_setlen, i_setlen, cd_lc, pt_lc, i_lc, ↓e_lc, ↓s_for, e_lc, s_for, nxt_nx, nxt_rt, nxt_bk, nxt_ct, rtK_p, exK_p, iteK_t, iteK_f, nxO_e, assK_p, parK_p, subK3_p, subK2_p, subK1_p, subK_p, nx2_p, appK1_p, appK_p, okK_t, forL_p, frzK_o, frzK_s, prmK_o, prmK_s, varK_s, varK_o, tupK_p, lstK_p, wiK_a, binK1_p, binK_p, negK_i, blK_b, cmpK1_p, cmpK_p, chainK_t, chainK_f, chK1_p, chK_p, isNK_p, nblK_b, notK_p, andK_t, andK_f, anK_p, orK_t, orK_f, oK_p, ifeK_t, ifeK_f, ifK_p, idxK1_p, idxK_p, siK_i, aiK_p, slcK2_p, slcK1_p, slcK_p, revK_p, callE_p, bltK_p, mthK1_p, mthK0_t, mthK_p, isinK_p, slnK1_p, slnK0_p, slnK_p, soK_v, giK_p, trK1_b, trK_p, elK_t, elK_f, lcK1_p, lcK_p, tuK_p, itK1_p, itK2_p, itK_p, coK_p, rcK1_p, rcK_p, crK_p, rrK_p, l_tup, l_lst, l_kl, l_fr, l_br, g_pv, g_fr, d_lst, d_fr, d_br, d_str, d_int, d_bl, d_non, d_tup, tr_bl, tr_int, tr_non, tr_str, n_non, n_int, n_str, n_tup, n_lst, n_bl, n_ref, x_tup, x_lst, x_kl, x_fr, x_br, a_v, a_t, gt_pv, gt_fr, as_v, as_tt, as_tl, as_n, as_c, o_rtp, o_rtf, o_rtb, o_nx, lpK_nx, lpK_ct, lpK_bk, lpK_rt, foK_e, forK_p, itm_tup, itm_lst, itm_kl, itm_fr, itm_br, itm_etup, itm_elst, itm_ekl, itm_efr, itm_ebr, itm_r1, itm_r2, at_nat, at_0, at_1, at_2, at_3, at_4, at_5, at_6, at_7, p_ii, p_ss, p_tt, p_ff, p_bf, p_lf, p_fl, p_ll, p_bl, p_sub, p_mulL, p_mulR, p_divP, p_modP, p_pow, c_lt, c_le, c_gt, c_ge, eqK1_v, eqK2_v, c_eq, c_ne, c_in, c_ni, inK_v, in_tup, in_lst, in_kl, in_fr, in_br, f_abs, f_int, f_lenS, f_lent, f_lenl, f_lenk, f_lenf, f_lenb, f_listk, f_listl, f_listt, f_listf, f_tupl, f_tupt, f_tupf, f_tupb, f_all, f_any, anyK_b, f_sort1, f_sort1f, mo_il, mo_ib, mo_ik, mo_if, mo_cl, mo_cb, mo_cf, ixK0_n, ixMK_v, m_il, m_ib, m_if, coMK_v, m_cl, m_cb, m_cf, apo_s, apoK_o, apoK_r, boK_l, ap_s, apK_o, apK_r, bxK_l, gu_c, gu_e, ok_non, ok_bl, ok_int, catK_s, catK_n, turK_p, tu_n, tu_c, bo_n, bo_c, in_n, in_c, al_n, al_t, al_f, nu_n, nu_c, refK_l, x_ref, setK1_m, setK_l, set_ref, ixn_20, ixn_21, ixn_31, ixn_30, ixn_32, sl_tup, sl_lst, sl_fr, sl_br, rv_lst, rv_fr, rv_br, asI_i, b_some, m_some, List.getElem?_cons_succ, List.getElem?_cons_zero, List.getElem?_nil, List.set_cons_succ, List.set_cons_zero, List.length_cons, List.length_nil, lim, Nat.reduceAdd, Nat.reduceLeDiff, Int.reduceLT, Nat.reduceLT, Nat.lt_add_left_iff_pos, E.isNil, wipeE, Nat.zero_lt_succ, if_true, if_false, Bool.true_bne, Bool.false_bne, bne_self_eq_false, Bool.not_true, Bool.not_false, Bool.not_not, Bool.bne_false, Bool.bne_true]

theorem c9 (k : Nat) (h : Hh) {rs : List Row} (hrs : ∀ r ∈ rs, RowOk r) (hl : rs.length ≤ 100) (a0 a1 a2 a3 a4 a5 a6 a7 a8 a9 a10 a11 a12 a13 a14 a15 a16 : Sl) : turns (lcK (callK G.ds (k + 1)) [13] e__law_drawn_right_9 (.v 13) w__law_drawn_right_9 [a0, a1, a2, a3, a4, a5, a6, a7, a8, a9, a10, a11, a12, a13, a14, a15, a16]) (dueP rs) h = some ((dueN rs).map fun n => PV.int (n : Nat), h) := by
  unfold dueP dueN
  rw [List.map_filterMap]
  refine turns_map rs h fun r m => ?_
  cases hf : eA.findIdx? (· == key r) with
  | none => simp only [lcK_p, e__law_drawn_right_9, w__law_drawn_right_9, np_n, Option.map_none, ↓s_seq, ↓s_skip, ↓s_pass, ↓s_brk, ↓s_cnt, ↓s_retN, ↓s_ret, ↓s_ex, ↓s_ite, ↓s_ass, ↓s_par, ↓s_sub, ↓s_app, ↓s_frz, ↓s_prm, ↓e_con, ↓e_glob, ↓e_var, ↓e_tup, ↓e_lst, ↓e_bin, ↓e_neg, ↓e_cmp, ↓e_chain, ↓e_isN, ↓e_not, ↓e_and, ↓e_or, ↓e_ife, ↓e_idx, ↓pt_nil, ↓e_slc, ↓e_rev, ↓e_call, ↓e_blt, ↓e_mth, ↓e_isin, ↓e_setlen, ↓cd_nil, ↓i_one, ↓t_t, ↓r_nil, ↓r_cons, ↓rr_nil, ↓rr_cons, ↓lp_n, ↓lp_c, ↓cd_con, ↓pt_con, ↓i_con, ↓cd_var, ↓pt_var, ↓i_var, ↓cd_glob, ↓pt_glob, ↓i_glob, ↓cd_tup, ↓pt_tup, ↓i_tup, ↓cd_lst, ↓pt_lst, ↓i_lst, ↓cd_bin, ↓pt_bin, ↓i_bin, ↓cd_neg, ↓pt_neg, ↓i_neg, ↓cd_cmp, ↓pt_cmp, ↓i_cmp, ↓cd_chain, ↓pt_chain, ↓i_chain, ↓cd_isN, ↓pt_isN, ↓i_isN, ↓cd_not, ↓pt_not, ↓i_not, ↓cd_and, ↓pt_and, ↓i_and, ↓cd_or, ↓pt_or, ↓i_or, ↓cd_ife, ↓pt_ife, ↓i_ife, ↓cd_idx, ↓pt_idx, ↓i_idx, ↓cd_slc, ↓pt_slc, ↓i_slc, ↓cd_rev, ↓pt_rev, ↓i_rev, ↓cd_call, ↓pt_call, ↓i_call, ↓cd_blt, ↓pt_blt, ↓i_blt, ↓cd_mth, ↓pt_mth, ↓i_mth, ↓cd_isin, ↓pt_isin, ↓i_isin, ↓cd_setlen, ↓pt_setlen, ↓i_setlen, ↓cd_lc, ↓pt_lc, ↓i_lc, s_seq, s_skip, s_pass, s_brk, s_cnt, s_retN, s_ret, s_ex, s_ite, s_ass, s_par, s_sub, s_app, s_frz, s_prm, e_con, e_glob, e_var, e_tup, e_lst, e_bin, e_neg, e_cmp, e_chain, e_isN, e_not, e_and, e_or, e_ife, e_idx, pt_nil, e_slc, e_rev, e_call, e_blt, e_mth, e_isin, e_setlen, cd_nil, i_one, t_t, r_nil, r_cons, rr_nil, rr_cons, lp_n, lp_c, cd_con, pt_con, i_con, cd_var, pt_var, i_var, cd_glob, pt_glob, i_glob, cd_tup, pt_tup, i_tup, cd_lst, pt_lst, i_lst, cd_bin, pt_bin, i_bin, cd_neg, pt_neg, i_neg, cd_cmp, pt_cmp, i_cmp, cd_chain, pt_chain, i_chain, cd_isN, pt_isN, i_isN, cd_not, pt_not, i_not, cd_and, pt_and, i_and, cd_or, pt_or, i_or, cd_ife, pt_ife, i_ife, cd_idx, pt_idx, i_idx, cd_slc, pt_slc, i_slc, cd_rev, pt_rev, i_rev, cd_call, pt_call, i_call, cd_blt, pt_blt, i_blt, cd_mth, pt_mth, i_mth, cd_isin, pt_isin, i_isin, cd_setlen, pt_setlen, i_setlen, cd_lc, pt_lc, i_lc, ↓e_lc, ↓s_for, e_lc, s_for, nxt_nx, nxt_rt, nxt_bk, nxt_ct, rtK_p, exK_p, iteK_t, iteK_f, nxO_e, assK_p, parK_p, subK3_p, subK2_p, subK1_p, subK_p, nx2_p, appK1_p, appK_p, okK_t, forL_p, frzK_o, frzK_s, prmK_o, prmK_s, varK_s, varK_o, tupK_p, lstK_p, wiK_a, binK1_p, binK_p, negK_i, blK_b, cmpK1_p, cmpK_p, chainK_t, chainK_f, chK1_p, chK_p, isNK_p, nblK_b, notK_p, andK_t, andK_f, anK_p, orK_t, orK_f, oK_p, ifeK_t, ifeK_f, ifK_p, idxK1_p, idxK_p, siK_i, aiK_p, slcK2_p, slcK1_p, slcK_p, revK_p, callE_p, bltK_p, mthK1_p, mthK0_t, mthK_p, isinK_p, slnK1_p, slnK0_p, slnK_p, soK_v, giK_p, trK1_b, trK_p, elK_t, elK_f, lcK1_p, lcK_p, tuK_p, itK1_p, itK2_p, itK_p, coK_p, rcK1_p, rcK_p, crK_p, rrK_p, l_tup, l_lst, l_kl, l_fr, l_br, g_pv, g_fr, d_lst, d_fr, d_br, d_str, d_int, d_bl, d_non, d_tup, tr_bl, tr_int, tr_non, tr_str, n_non, n_int, n_str, n_tup, n_lst, n_bl, n_ref, x_tup, x_lst, x_kl, x_fr, x_br, a_v, a_t, gt_pv, gt_fr, as_v, as_tt, as_tl, as_n, as_c, o_rtp, o_rtf, o_rtb, o_nx, lpK_nx, lpK_ct, lpK_bk, lpK_rt, foK_e, forK_p, itm_tup, itm_lst, itm_kl, itm_fr, itm_br, itm_etup, itm_elst, itm_ekl, itm_efr, itm_ebr, itm_r1, itm_r2, at_nat, at_0, at_1, at_2, at_3, at_4, at_5, at_6, at_7, p_ii, p_ss, p_tt, p_ff, p_bf, p_lf, p_fl, p_ll, p_bl, p_sub, p_mulL, p_mulR, p_divP, p_modP, p_pow, c_lt, c_le, c_gt, c_ge, eqK1_v, eqK2_v, c_eq, c_ne, c_in, c_ni, inK_v, in_tup, in_lst, in_kl, in_fr, in_br, f_abs, f_int, f_lenS, f_lent, f_lenl, f_lenk, f_lenf, f_lenb, f_listk, f_listl, f_listt, f_listf, f_tupl, f_tupt, f_tupf, f_tupb, f_all, f_any, anyK_b, f_sort1, f_sort1f, mo_il, mo_ib, mo_ik, mo_if, mo_cl, mo_cb, mo_cf, ixK0_n, ixMK_v, m_il, m_ib, m_if, coMK_v, m_cl, m_cb, m_cf, apo_s, apoK_o, apoK_r, boK_l, ap_s, apK_o, apK_r, bxK_l, gu_c, gu_e, ok_non, ok_bl, ok_int, catK_s, catK_n, turK_p, tu_n, tu_c, bo_n, bo_c, in_n, in_c, al_n, al_t, al_f, nu_n, nu_c, refK_l, x_ref, setK1_m, setK_l, set_ref, ixn_20, ixn_21, ixn_31, ixn_30, ixn_32, sl_tup, sl_lst, sl_fr, sl_br, rv_lst, rv_fr, rv_br, asI_i, b_some, m_some, List.getElem?_cons_succ, List.getElem?_cons_zero, List.getElem?_nil, List.set_cons_succ, List.set_cons_zero, List.length_cons, List.length_nil, lim, Nat.reduceAdd, Nat.reduceLeDiff, Int.reduceLT, Nat.reduceLT, Nat.lt_add_left_iff_pos, E.isNil, wipeE, Nat.zero_lt_succ, if_true, if_false, Bool.true_bne, Bool.false_bne, bne_self_eq_false, Bool.not_true, Bool.not_false, Bool.not_not, Bool.bne_false, Bool.bne_true]
  | some j => simp only [lcK_p, e__law_drawn_right_9, w__law_drawn_right_9, np_s, Option.map_some, ↓s_seq, ↓s_skip, ↓s_pass, ↓s_brk, ↓s_cnt, ↓s_retN, ↓s_ret, ↓s_ex, ↓s_ite, ↓s_ass, ↓s_par, ↓s_sub, ↓s_app, ↓s_frz, ↓s_prm, ↓e_con, ↓e_glob, ↓e_var, ↓e_tup, ↓e_lst, ↓e_bin, ↓e_neg, ↓e_cmp, ↓e_chain, ↓e_isN, ↓e_not, ↓e_and, ↓e_or, ↓e_ife, ↓e_idx, ↓pt_nil, ↓e_slc, ↓e_rev, ↓e_call, ↓e_blt, ↓e_mth, ↓e_isin, ↓e_setlen, ↓cd_nil, ↓i_one, ↓t_t, ↓r_nil, ↓r_cons, ↓rr_nil, ↓rr_cons, ↓lp_n, ↓lp_c, ↓cd_con, ↓pt_con, ↓i_con, ↓cd_var, ↓pt_var, ↓i_var, ↓cd_glob, ↓pt_glob, ↓i_glob, ↓cd_tup, ↓pt_tup, ↓i_tup, ↓cd_lst, ↓pt_lst, ↓i_lst, ↓cd_bin, ↓pt_bin, ↓i_bin, ↓cd_neg, ↓pt_neg, ↓i_neg, ↓cd_cmp, ↓pt_cmp, ↓i_cmp, ↓cd_chain, ↓pt_chain, ↓i_chain, ↓cd_isN, ↓pt_isN, ↓i_isN, ↓cd_not, ↓pt_not, ↓i_not, ↓cd_and, ↓pt_and, ↓i_and, ↓cd_or, ↓pt_or, ↓i_or, ↓cd_ife, ↓pt_ife, ↓i_ife, ↓cd_idx, ↓pt_idx, ↓i_idx, ↓cd_slc, ↓pt_slc, ↓i_slc, ↓cd_rev, ↓pt_rev, ↓i_rev, ↓cd_call, ↓pt_call, ↓i_call, ↓cd_blt, ↓pt_blt, ↓i_blt, ↓cd_mth, ↓pt_mth, ↓i_mth, ↓cd_isin, ↓pt_isin, ↓i_isin, ↓cd_setlen, ↓pt_setlen, ↓i_setlen, ↓cd_lc, ↓pt_lc, ↓i_lc, s_seq, s_skip, s_pass, s_brk, s_cnt, s_retN, s_ret, s_ex, s_ite, s_ass, s_par, s_sub, s_app, s_frz, s_prm, e_con, e_glob, e_var, e_tup, e_lst, e_bin, e_neg, e_cmp, e_chain, e_isN, e_not, e_and, e_or, e_ife, e_idx, pt_nil, e_slc, e_rev, e_call, e_blt, e_mth, e_isin, e_setlen, cd_nil, i_one, t_t, r_nil, r_cons, rr_nil, rr_cons, lp_n, lp_c, cd_con, pt_con, i_con, cd_var, pt_var, i_var, cd_glob, pt_glob, i_glob, cd_tup, pt_tup, i_tup, cd_lst, pt_lst, i_lst, cd_bin, pt_bin, i_bin, cd_neg, pt_neg, i_neg, cd_cmp, pt_cmp, i_cmp, cd_chain, pt_chain, i_chain, cd_isN, pt_isN, i_isN, cd_not, pt_not, i_not, cd_and, pt_and, i_and, cd_or, pt_or, i_or, cd_ife, pt_ife, i_ife, cd_idx, pt_idx, i_idx, cd_slc, pt_slc, i_slc, cd_rev, pt_rev, i_rev, cd_call, pt_call, i_call, cd_blt, pt_blt, i_blt, cd_mth, pt_mth, i_mth, cd_isin, pt_isin, i_isin, cd_setlen, pt_setlen, i_setlen, cd_lc, pt_lc, i_lc, ↓e_lc, ↓s_for, e_lc, s_for, nxt_nx, nxt_rt, nxt_bk, nxt_ct, rtK_p, exK_p, iteK_t, iteK_f, nxO_e, assK_p, parK_p, subK3_p, subK2_p, subK1_p, subK_p, nx2_p, appK1_p, appK_p, okK_t, forL_p, frzK_o, frzK_s, prmK_o, prmK_s, varK_s, varK_o, tupK_p, lstK_p, wiK_a, binK1_p, binK_p, negK_i, blK_b, cmpK1_p, cmpK_p, chainK_t, chainK_f, chK1_p, chK_p, isNK_p, nblK_b, notK_p, andK_t, andK_f, anK_p, orK_t, orK_f, oK_p, ifeK_t, ifeK_f, ifK_p, idxK1_p, idxK_p, siK_i, aiK_p, slcK2_p, slcK1_p, slcK_p, revK_p, callE_p, bltK_p, mthK1_p, mthK0_t, mthK_p, isinK_p, slnK1_p, slnK0_p, slnK_p, soK_v, giK_p, trK1_b, trK_p, elK_t, elK_f, lcK1_p, lcK_p, tuK_p, itK1_p, itK2_p, itK_p, coK_p, rcK1_p, rcK_p, crK_p, rrK_p, l_tup, l_lst, l_kl, l_fr, l_br, g_pv, g_fr, d_lst, d_fr, d_br, d_str, d_int, d_bl, d_non, d_tup, tr_bl, tr_int, tr_non, tr_str, n_non, n_int, n_str, n_tup, n_lst, n_bl, n_ref, x_tup, x_lst, x_kl, x_fr, x_br, a_v, a_t, gt_pv, gt_fr, as_v, as_tt, as_tl, as_n, as_c, o_rtp, o_rtf, o_rtb, o_nx, lpK_nx, lpK_ct, lpK_bk, lpK_rt, foK_e, forK_p, itm_tup, itm_lst, itm_kl, itm_fr, itm_br, itm_etup, itm_elst, itm_ekl, itm_efr, itm_ebr, itm_r1, itm_r2, at_nat, at_0, at_1, at_2, at_3, at_4, at_5, at_6, at_7, p_ii, p_ss, p_tt, p_ff, p_bf, p_lf, p_fl, p_ll, p_bl, p_sub, p_mulL, p_mulR, p_divP, p_modP, p_pow, c_lt, c_le, c_gt, c_ge, eqK1_v, eqK2_v, c_eq, c_ne, c_in, c_ni, inK_v, in_tup, in_lst, in_kl, in_fr, in_br, f_abs, f_int, f_lenS, f_lent, f_lenl, f_lenk, f_lenf, f_lenb, f_listk, f_listl, f_listt, f_listf, f_tupl, f_tupt, f_tupf, f_tupb, f_all, f_any, anyK_b, f_sort1, f_sort1f, mo_il, mo_ib, mo_ik, mo_if, mo_cl, mo_cb, mo_cf, ixK0_n, ixMK_v, m_il, m_ib, m_if, coMK_v, m_cl, m_cb, m_cf, apo_s, apoK_o, apoK_r, boK_l, ap_s, apK_o, apK_r, bxK_l, gu_c, gu_e, ok_non, ok_bl, ok_int, catK_s, catK_n, turK_p, tu_n, tu_c, bo_n, bo_c, in_n, in_c, al_n, al_t, al_f, nu_n, nu_c, refK_l, x_ref, setK1_m, setK_l, set_ref, ixn_20, ixn_21, ixn_31, ixn_30, ixn_32, sl_tup, sl_lst, sl_fr, sl_br, rv_lst, rv_fr, rv_br, asI_i, b_some, m_some, List.getElem?_cons_succ, List.getElem?_cons_zero, List.getElem?_nil, List.set_cons_succ, List.set_cons_zero, List.length_cons, List.length_nil, lim, Nat.reduceAdd, Nat.reduceLeDiff, Int.reduceLT, Nat.reduceLT, Nat.lt_add_left_iff_pos, E.isNil, wipeE, Nat.zero_lt_succ, if_true, if_false, Bool.true_bne, Bool.false_bne, bne_self_eq_false, Bool.not_true, Bool.not_false, Bool.not_not, Bool.bne_false, Bool.bne_true]

theorem c11 (k : Nat) (h : Hh) {xs : List Row} (hg : ∀ r ∈ xs, Good r) (a0 a1 a2 a3 a4 a5 a6 a7 a8 a9 a10 a11 a12 a13 a14 a15 a16 : Sl) : turns (lcK (callK G.ds k) [14] e__law_drawn_right_11 (.v 14) .nil [a0, a1, a2, a3, a4, a5, a6, a7, a8, a9, a10, a11, a12, a13, a14, a15, a16]) (xs.map cell) h = some ((xs.map fourR).map cell, h) := by
  rw [List.map_map]
  refine turns_all xs h fun r m => ?_
  have k1 := (hg r m).k
  have k2 := dat_ok (h := h) k1
  have oki := ok_ki
  have dki : R.dat h (.pv ki) = some ki := rfl
  obtain ⟨nm, td, kd, re⟩ := r
  simp only at k1 k2
  unfold ki at oki dki
  cases hb : pvEq kd ki with
  | true =>
    have e : cv kd = .tup [.str "int", .int 1] := by unfold cv; rw [hb]; rfl
    unfold ki at hb
    simp only [lcK_p, e__law_drawn_right_11, Function.comp, fourR, cell, e, k1, k2, oki, dki, hb, ↓s_seq, ↓s_skip, ↓s_pass, ↓s_brk, ↓s_cnt, ↓s_retN, ↓s_ret, ↓s_ex, ↓s_ite, ↓s_ass, ↓s_par, ↓s_sub, ↓s_app, ↓s_frz, ↓s_prm, ↓e_con, ↓e_glob, ↓e_var, ↓e_tup, ↓e_lst, ↓e_bin, ↓e_neg, ↓e_cmp, ↓e_chain, ↓e_isN, ↓e_not, ↓e_and, ↓e_or, ↓e_ife, ↓e_idx, ↓pt_nil, ↓e_slc, ↓e_rev, ↓e_call, ↓e_blt, ↓e_mth, ↓e_isin, ↓e_setlen, ↓cd_nil, ↓i_one, ↓t_t, ↓r_nil, ↓r_cons, ↓rr_nil, ↓rr_cons, ↓lp_n, ↓lp_c, ↓cd_con, ↓pt_con, ↓i_con, ↓cd_var, ↓pt_var, ↓i_var, ↓cd_glob, ↓pt_glob, ↓i_glob, ↓cd_tup, ↓pt_tup, ↓i_tup, ↓cd_lst, ↓pt_lst, ↓i_lst, ↓cd_bin, ↓pt_bin, ↓i_bin, ↓cd_neg, ↓pt_neg, ↓i_neg, ↓cd_cmp, ↓pt_cmp, ↓i_cmp, ↓cd_chain, ↓pt_chain, ↓i_chain, ↓cd_isN, ↓pt_isN, ↓i_isN, ↓cd_not, ↓pt_not, ↓i_not, ↓cd_and, ↓pt_and, ↓i_and, ↓cd_or, ↓pt_or, ↓i_or, ↓cd_ife, ↓pt_ife, ↓i_ife, ↓cd_idx, ↓pt_idx, ↓i_idx, ↓cd_slc, ↓pt_slc, ↓i_slc, ↓cd_rev, ↓pt_rev, ↓i_rev, ↓cd_call, ↓pt_call, ↓i_call, ↓cd_blt, ↓pt_blt, ↓i_blt, ↓cd_mth, ↓pt_mth, ↓i_mth, ↓cd_isin, ↓pt_isin, ↓i_isin, ↓cd_setlen, ↓pt_setlen, ↓i_setlen, ↓cd_lc, ↓pt_lc, ↓i_lc, s_seq, s_skip, s_pass, s_brk, s_cnt, s_retN, s_ret, s_ex, s_ite, s_ass, s_par, s_sub, s_app, s_frz, s_prm, e_con, e_glob, e_var, e_tup, e_lst, e_bin, e_neg, e_cmp, e_chain, e_isN, e_not, e_and, e_or, e_ife, e_idx, pt_nil, e_slc, e_rev, e_call, e_blt, e_mth, e_isin, e_setlen, cd_nil, i_one, t_t, r_nil, r_cons, rr_nil, rr_cons, lp_n, lp_c, cd_con, pt_con, i_con, cd_var, pt_var, i_var, cd_glob, pt_glob, i_glob, cd_tup, pt_tup, i_tup, cd_lst, pt_lst, i_lst, cd_bin, pt_bin, i_bin, cd_neg, pt_neg, i_neg, cd_cmp, pt_cmp, i_cmp, cd_chain, pt_chain, i_chain, cd_isN, pt_isN, i_isN, cd_not, pt_not, i_not, cd_and, pt_and, i_and, cd_or, pt_or, i_or, cd_ife, pt_ife, i_ife, cd_idx, pt_idx, i_idx, cd_slc, pt_slc, i_slc, cd_rev, pt_rev, i_rev, cd_call, pt_call, i_call, cd_blt, pt_blt, i_blt, cd_mth, pt_mth, i_mth, cd_isin, pt_isin, i_isin, cd_setlen, pt_setlen, i_setlen, cd_lc, pt_lc, i_lc, ↓e_lc, ↓s_for, e_lc, s_for, nxt_nx, nxt_rt, nxt_bk, nxt_ct, rtK_p, exK_p, iteK_t, iteK_f, nxO_e, assK_p, parK_p, subK3_p, subK2_p, subK1_p, subK_p, nx2_p, appK1_p, appK_p, okK_t, forL_p, frzK_o, frzK_s, prmK_o, prmK_s, varK_s, varK_o, tupK_p, lstK_p, wiK_a, binK1_p, binK_p, negK_i, blK_b, cmpK1_p, cmpK_p, chainK_t, chainK_f, chK1_p, chK_p, isNK_p, nblK_b, notK_p, andK_t, andK_f, anK_p, orK_t, orK_f, oK_p, ifeK_t, ifeK_f, ifK_p, idxK1_p, idxK_p, siK_i, aiK_p, slcK2_p, slcK1_p, slcK_p, revK_p, callE_p, bltK_p, mthK1_p, mthK0_t, mthK_p, isinK_p, slnK1_p, slnK0_p, slnK_p, soK_v, giK_p, trK1_b, trK_p, elK_t, elK_f, lcK1_p, lcK_p, tuK_p, itK1_p, itK2_p, itK_p, coK_p, rcK1_p, rcK_p, crK_p, rrK_p, l_tup, l_lst, l_kl, l_fr, l_br, g_pv, g_fr, d_lst, d_fr, d_br, d_str, d_int, d_bl, d_non, d_tup, tr_bl, tr_int, tr_non, tr_str, n_non, n_int, n_str, n_tup, n_lst, n_bl, n_ref, x_tup, x_lst, x_kl, x_fr, x_br, a_v, a_t, gt_pv, gt_fr, as_v, as_tt, as_tl, as_n, as_c, o_rtp, o_rtf, o_rtb, o_nx, lpK_nx, lpK_ct, lpK_bk, lpK_rt, foK_e, forK_p, itm_tup, itm_lst, itm_kl, itm_fr, itm_br, itm_etup, itm_elst, itm_ekl, itm_efr, itm_ebr, itm_r1, itm_r2, at_nat, at_0, at_1, at_2, at_3, at_4, at_5, at_6, at_7, p_ii, p_ss, p_tt, p_ff, p_bf, p_lf, p_fl, p_ll, p_bl, p_sub, p_mulL, p_mulR, p_divP, p_modP, p_pow, c_lt, c_le, c_gt, c_ge, eqK1_v, eqK2_v, c_eq, c_ne, c_in, c_ni, inK_v, in_tup, in_lst, in_kl, in_fr, in_br, f_abs, f_int, f_lenS, f_lent, f_lenl, f_lenk, f_lenf, f_lenb, f_listk, f_listl, f_listt, f_listf, f_tupl, f_tupt, f_tupf, f_tupb, f_all, f_any, anyK_b, f_sort1, f_sort1f, mo_il, mo_ib, mo_ik, mo_if, mo_cl, mo_cb, mo_cf, ixK0_n, ixMK_v, m_il, m_ib, m_if, coMK_v, m_cl, m_cb, m_cf, apo_s, apoK_o, apoK_r, boK_l, ap_s, apK_o, apK_r, bxK_l, gu_c, gu_e, ok_non, ok_bl, ok_int, catK_s, catK_n, turK_p, tu_n, tu_c, bo_n, bo_c, in_n, in_c, al_n, al_t, al_f, nu_n, nu_c, refK_l, x_ref, setK1_m, setK_l, set_ref, ixn_20, ixn_21, ixn_31, ixn_30, ixn_32, sl_tup, sl_lst, sl_fr, sl_br, rv_lst, rv_fr, rv_br, asI_i, b_some, m_some, List.getElem?_cons_succ, List.getElem?_cons_zero, List.getElem?_nil, List.set_cons_succ, List.set_cons_zero, List.length_cons, List.length_nil, lim, Nat.reduceAdd, Nat.reduceLeDiff, Int.reduceLT, Nat.reduceLT, Nat.lt_add_left_iff_pos, E.isNil, wipeE, Nat.zero_lt_succ, if_true, if_false, Bool.true_bne, Bool.false_bne, bne_self_eq_false, Bool.not_true, Bool.not_false, Bool.not_not, Bool.bne_false, Bool.bne_true]
  | false =>
    have e : cv kd = .tup [.str "text", .str ""] := by unfold cv; rw [hb]; rfl
    unfold ki at hb
    simp only [lcK_p, e__law_drawn_right_11, Function.comp, fourR, cell, e, k1, k2, oki, dki, hb, ↓s_seq, ↓s_skip, ↓s_pass, ↓s_brk, ↓s_cnt, ↓s_retN, ↓s_ret, ↓s_ex, ↓s_ite, ↓s_ass, ↓s_par, ↓s_sub, ↓s_app, ↓s_frz, ↓s_prm, ↓e_con, ↓e_glob, ↓e_var, ↓e_tup, ↓e_lst, ↓e_bin, ↓e_neg, ↓e_cmp, ↓e_chain, ↓e_isN, ↓e_not, ↓e_and, ↓e_or, ↓e_ife, ↓e_idx, ↓pt_nil, ↓e_slc, ↓e_rev, ↓e_call, ↓e_blt, ↓e_mth, ↓e_isin, ↓e_setlen, ↓cd_nil, ↓i_one, ↓t_t, ↓r_nil, ↓r_cons, ↓rr_nil, ↓rr_cons, ↓lp_n, ↓lp_c, ↓cd_con, ↓pt_con, ↓i_con, ↓cd_var, ↓pt_var, ↓i_var, ↓cd_glob, ↓pt_glob, ↓i_glob, ↓cd_tup, ↓pt_tup, ↓i_tup, ↓cd_lst, ↓pt_lst, ↓i_lst, ↓cd_bin, ↓pt_bin, ↓i_bin, ↓cd_neg, ↓pt_neg, ↓i_neg, ↓cd_cmp, ↓pt_cmp, ↓i_cmp, ↓cd_chain, ↓pt_chain, ↓i_chain, ↓cd_isN, ↓pt_isN, ↓i_isN, ↓cd_not, ↓pt_not, ↓i_not, ↓cd_and, ↓pt_and, ↓i_and, ↓cd_or, ↓pt_or, ↓i_or, ↓cd_ife, ↓pt_ife, ↓i_ife, ↓cd_idx, ↓pt_idx, ↓i_idx, ↓cd_slc, ↓pt_slc, ↓i_slc, ↓cd_rev, ↓pt_rev, ↓i_rev, ↓cd_call, ↓pt_call, ↓i_call, ↓cd_blt, ↓pt_blt, ↓i_blt, ↓cd_mth, ↓pt_mth, ↓i_mth, ↓cd_isin, ↓pt_isin, ↓i_isin, ↓cd_setlen, ↓pt_setlen, ↓i_setlen, ↓cd_lc, ↓pt_lc, ↓i_lc, s_seq, s_skip, s_pass, s_brk, s_cnt, s_retN, s_ret, s_ex, s_ite, s_ass, s_par, s_sub, s_app, s_frz, s_prm, e_con, e_glob, e_var, e_tup, e_lst, e_bin, e_neg, e_cmp, e_chain, e_isN, e_not, e_and, e_or, e_ife, e_idx, pt_nil, e_slc, e_rev, e_call, e_blt, e_mth, e_isin, e_setlen, cd_nil, i_one, t_t, r_nil, r_cons, rr_nil, rr_cons, lp_n, lp_c, cd_con, pt_con, i_con, cd_var, pt_var, i_var, cd_glob, pt_glob, i_glob, cd_tup, pt_tup, i_tup, cd_lst, pt_lst, i_lst, cd_bin, pt_bin, i_bin, cd_neg, pt_neg, i_neg, cd_cmp, pt_cmp, i_cmp, cd_chain, pt_chain, i_chain, cd_isN, pt_isN, i_isN, cd_not, pt_not, i_not, cd_and, pt_and, i_and, cd_or, pt_or, i_or, cd_ife, pt_ife, i_ife, cd_idx, pt_idx, i_idx, cd_slc, pt_slc, i_slc, cd_rev, pt_rev, i_rev, cd_call, pt_call, i_call, cd_blt, pt_blt, i_blt, cd_mth, pt_mth, i_mth, cd_isin, pt_isin, i_isin, cd_setlen, pt_setlen, i_setlen, cd_lc, pt_lc, i_lc, ↓e_lc, ↓s_for, e_lc, s_for, nxt_nx, nxt_rt, nxt_bk, nxt_ct, rtK_p, exK_p, iteK_t, iteK_f, nxO_e, assK_p, parK_p, subK3_p, subK2_p, subK1_p, subK_p, nx2_p, appK1_p, appK_p, okK_t, forL_p, frzK_o, frzK_s, prmK_o, prmK_s, varK_s, varK_o, tupK_p, lstK_p, wiK_a, binK1_p, binK_p, negK_i, blK_b, cmpK1_p, cmpK_p, chainK_t, chainK_f, chK1_p, chK_p, isNK_p, nblK_b, notK_p, andK_t, andK_f, anK_p, orK_t, orK_f, oK_p, ifeK_t, ifeK_f, ifK_p, idxK1_p, idxK_p, siK_i, aiK_p, slcK2_p, slcK1_p, slcK_p, revK_p, callE_p, bltK_p, mthK1_p, mthK0_t, mthK_p, isinK_p, slnK1_p, slnK0_p, slnK_p, soK_v, giK_p, trK1_b, trK_p, elK_t, elK_f, lcK1_p, lcK_p, tuK_p, itK1_p, itK2_p, itK_p, coK_p, rcK1_p, rcK_p, crK_p, rrK_p, l_tup, l_lst, l_kl, l_fr, l_br, g_pv, g_fr, d_lst, d_fr, d_br, d_str, d_int, d_bl, d_non, d_tup, tr_bl, tr_int, tr_non, tr_str, n_non, n_int, n_str, n_tup, n_lst, n_bl, n_ref, x_tup, x_lst, x_kl, x_fr, x_br, a_v, a_t, gt_pv, gt_fr, as_v, as_tt, as_tl, as_n, as_c, o_rtp, o_rtf, o_rtb, o_nx, lpK_nx, lpK_ct, lpK_bk, lpK_rt, foK_e, forK_p, itm_tup, itm_lst, itm_kl, itm_fr, itm_br, itm_etup, itm_elst, itm_ekl, itm_efr, itm_ebr, itm_r1, itm_r2, at_nat, at_0, at_1, at_2, at_3, at_4, at_5, at_6, at_7, p_ii, p_ss, p_tt, p_ff, p_bf, p_lf, p_fl, p_ll, p_bl, p_sub, p_mulL, p_mulR, p_divP, p_modP, p_pow, c_lt, c_le, c_gt, c_ge, eqK1_v, eqK2_v, c_eq, c_ne, c_in, c_ni, inK_v, in_tup, in_lst, in_kl, in_fr, in_br, f_abs, f_int, f_lenS, f_lent, f_lenl, f_lenk, f_lenf, f_lenb, f_listk, f_listl, f_listt, f_listf, f_tupl, f_tupt, f_tupf, f_tupb, f_all, f_any, anyK_b, f_sort1, f_sort1f, mo_il, mo_ib, mo_ik, mo_if, mo_cl, mo_cb, mo_cf, ixK0_n, ixMK_v, m_il, m_ib, m_if, coMK_v, m_cl, m_cb, m_cf, apo_s, apoK_o, apoK_r, boK_l, ap_s, apK_o, apK_r, bxK_l, gu_c, gu_e, ok_non, ok_bl, ok_int, catK_s, catK_n, turK_p, tu_n, tu_c, bo_n, bo_c, in_n, in_c, al_n, al_t, al_f, nu_n, nu_c, refK_l, x_ref, setK1_m, setK_l, set_ref, ixn_20, ixn_21, ixn_31, ixn_30, ixn_32, sl_tup, sl_lst, sl_fr, sl_br, rv_lst, rv_fr, rv_br, asI_i, b_some, m_some, List.getElem?_cons_succ, List.getElem?_cons_zero, List.getElem?_nil, List.set_cons_succ, List.set_cons_zero, List.length_cons, List.length_nil, lim, Nat.reduceAdd, Nat.reduceLeDiff, Int.reduceLT, Nat.reduceLT, Nat.lt_add_left_iff_pos, E.isNil, wipeE, Nat.zero_lt_succ, if_true, if_false, Bool.true_bne, Bool.false_bne, bne_self_eq_false, Bool.not_true, Bool.not_false, Bool.not_not, Bool.bne_false, Bool.bne_true]

/-! ### the same answers -/
theorem lword_ok {rs : List Row} {f : Bool} {i : Nat} {r : Row} {w : Str} (e : lword rs f i r = some w) : PyData.strOk w = true := by
  have h1 : PyData.strOk "was" = true ∧ PyData.strOk "type" = true ∧ PyData.strOk "new" = true := by decide +kernel
  unfold lword at e
  split at e
  · cases e; exact h1.1
  · split at e
    · split at e
      · cases e
      · cases e; exact h1.2.1
    · split at e
      · cases e; exact h1.2.2
      · cases e
theorem said_ok {pl : List PV} (hp : ∀ v ∈ pl, flat 0 v = true) {f : Bool} {rs : List Row} : okD (.tup (said pl f rs)) = true := by
  refine ok_flat (m := 3) (by decide) (flat_tup fun v m => ?_)
  unfold said at m
  obtain ⟨p, _, e⟩ := List.mem_filterMap.mp m
  obtain ⟨w, hw, rfl⟩ := Option.map_eq_some_iff.mp e
  refine flat_tup fun u mu => ?_
  rcases List.mem_cons.mp mu with rfl | mu
  · refine flat_tup fun x mx => ?_
    rcases List.mem_append.mp mx with mx | mx
    · exact hp x mx
    · rw [List.mem_singleton.mp mx]; rfl
  · rw [List.mem_singleton.mp mu]
    simp [flat, Ev.plain, dep, lword_ok hw]
theorem due_ok {rs : List Row} : okD (.lst (dueP rs)) = true := by
  refine ok_flat (m := 1) (by decide) (flat_lst fun v m => ?_)
  obtain ⟨r, _, rfl⟩ := List.mem_map.mp m
  cases eA.findIdx? (· == key r) <;> rfl
theorem due_okT {rs : List Row} : okD (.tup (dueP rs)) = true := by
  refine ok_flat (m := 1) (by decide) (flat_tup fun v m => ?_)
  obtain ⟨r, _, rfl⟩ := List.mem_map.mp m
  cases eA.findIdx? (· == key r) <;> rfl
theorem fm_opt {α β : Type} {f : α → List β} {g : α → Option β} : ∀ (xs : List α), (∀ x ∈ xs, f x = (g x).toList) → xs.flatMap f = xs.filterMap g
  | [], _ => rfl
  | x :: xs, h => by
    rw [List.flatMap_cons, h x List.mem_cons_self, fm_opt xs fun y m => h y (List.mem_cons_of_mem _ m), List.filterMap_cons]
    cases g x <;> rfl
theorem objs_said {rs : List Row} (hrs : ∀ r ∈ rs, RowOk r) : (newL rs).zipIdx.flatMap (objF [.int 0, .int 0, .int 2, .int 0] oldL (newL rs)) = said [.int 0, .int 0, .int 2, .int 0, .int 1] true rs := by
  unfold said
  have e1 : (newL rs).zipIdx = rs.zipIdx.map fun p => (newR p, p.2) := by
    apply List.ext_getElem
    · simp [newL]
    · intro i h1 h2
      simp [newL]
  rw [e1, List.flatMap_map]
  refine fm_opt _ fun p m => ?_
  obtain ⟨r, i⟩ := p
  have hi : rs[i]? = some r := List.mem_zipIdx_iff_getElem?.mp m
  have ro := hrs r (List.mem_of_getElem? hi)
  have hb : (match (newR (r, i)).rest with | .non :: _ => true | _ => false) = decide (i = 0) := by
    show (match [nv i r.kind] with | .non :: _ => true | _ => false) = decide (i = 0)
    unfold nv
    by_cases c : i = 0
    · simp [c]
    · simp only [c, if_false, decide_false]
      cases pvEq r.kind ki <;> rfl
  have fw := fword_l (el' := oldL) (rs' := newL rs) (r' := newR (r, i)) oldL_names oldL_kind (newL_names rs) (newL_tolds rs) hi rfl rfl rfl ro.k hb
  unfold objF
  rw [fw]
  rfl
/-! the roots' -/
theorem map_four (xs : List Row) : (xs.map fourR).map (·.name) = xs.map (·.name) ∧ (xs.map fourR).map (·.told) = xs.map (·.told) := by
  constructor <;> (rw [List.map_map]; rfl)
theorem four_good {xs : List Row} (h : ∀ r ∈ xs, Good r) : ∀ e ∈ xs.map fourR, Good e := by
  intro e m
  obtain ⟨r, mr, rfl⟩ := List.mem_map.mp m
  exact ⟨(h r mr).n, (h r mr).t, (h r mr).k⟩
theorem old4_names : (oldL.map fourR).map (·.name) = eA := by rw [(map_four oldL).1, oldL_names]
theorem old4_kind : ∀ e ∈ oldL.map fourR, e.kind = ki := by
  intro e m
  obtain ⟨r, mr, rfl⟩ := List.mem_map.mp m
  exact oldL_kind r mr
theorem objs2_said {rs : List Row} (hrs : ∀ r ∈ rs, RowOk r) : (rs.map fourR).zipIdx.flatMap (objR (oldL.map fourR) (rs.map fourR)) = said [.int 1] false rs := by
  unfold said
  rw [List.zipIdx_map, List.flatMap_map]
  refine fm_opt _ fun p m => ?_
  obtain ⟨r, i⟩ := p
  have hi : rs[i]? = some r := List.mem_zipIdx_iff_getElem?.mp m
  have ro := hrs r (List.mem_of_getElem? hi)
  have fw := word_l2 (el' := oldL.map fourR) (rs' := rs.map fourR) (r' := fourR r) old4_names old4_kind (map_four rs).1 (map_four rs).2 hi rfl rfl rfl ro.k
  unfold objR
  show ((word (oldL.map fourR) (rs.map fourR) i (fourR r)).map fun w => PV.tup [.tup [.int 1, .int i], .str w]).toList = _
  rw [fw]
  rfl
theorem root_due (rs : List Row) : ((rs.map fourR).map fun r => np (src (oldL.map fourR) r)) = dueP rs := by
  unfold dueP
  rw [List.map_map]
  apply List.map_congr_left
  intro r _
  show np (src (oldL.map fourR) (fourR r)) = _
  rw [src_l old4_names]
  rfl
/-! the dues are apart when nothing is said -/
theorem none_was {rs : List Row} {f : Bool} {i : Nat} {r : Row} (h : lword rs f i r = none) : lwas rs r.told = false := by
  unfold lword at h
  cases hw : lwas rs r.told with
  | false => rfl
  | true => rw [hw] at h; cases h
theorem two_count {ts : List (Option Str)} {i j : Nat} {t : Str} (hij : i ≠ j) (hi : ts[i]? = some (some t)) (hj : ts[j]? = some (some t)) : 1 < ts.countP (· == some t) := by
  have := oth_any hi
  have ha : (oth 0 ts i).any (· == some t) = true := by
    refine List.any_eq_true.mpr ⟨some t, ?_, by simp⟩
    unfold oth
    refine List.mem_filterMap.mpr ⟨(some t, j), List.mem_zipIdx_iff_getElem?.mpr hj, ?_⟩
    rw [if_neg (by exact fun c => hij c.symm)]
  rw [ha] at this
  exact of_decide_eq_true this.symm
theorem keys_apart {rs : List Row} (hn : (rs.map (·.name)).Nodup) (hw : ∀ r ∈ rs, lwas rs r.told = false) : (rs.map key).Nodup := by
  have named : ∀ {r r' : Row} {t : Str}, r ∈ rs → r' ∈ rs → r.told = some t → r'.name ≠ t := fun {r r' t} m m' e c => by
    have := hw r m
    rw [e] at this
    simp only [lwas, Bool.or_eq_false_iff] at this
    have := List.any_eq_false.mp this.2.1 r' m'
    simp [c] at this
  refine List.pairwise_iff_getElem.mpr fun i j hi hj hij c => ?_
  rw [List.length_map] at hi hj
  rw [List.getElem_map, List.getElem_map] at c
  have mi := List.getElem_mem hi
  have mj := List.getElem_mem hj
  unfold key at c
  cases ti : (rs[i]).told with
  | none =>
    cases tj : (rs[j]).told with
    | none =>
      rw [ti, tj] at c
      have := List.pairwise_iff_getElem.mp hn i j (by rw [List.length_map]; exact hi) (by rw [List.length_map]; exact hj) hij
      rw [List.getElem_map, List.getElem_map] at this
      exact this c
    | some t =>
      rw [ti, tj] at c
      exact named mj mi tj c
  | some s =>
    cases tj : (rs[j]).told with
    | none =>
      rw [ti, tj] at c
      exact named mi mj ti c.symm
    | some t =>
      rw [ti, tj] at c
      have c : s = t := c
      subst c
      have h1 : (rs.map (·.told))[i]? = some (some s) := by rw [List.getElem?_map, List.getElem?_eq_getElem hi]; exact congrArg some ti
      have h2 : (rs.map (·.told))[j]? = some (some s) := by rw [List.getElem?_map, List.getElem?_eq_getElem hj]; exact congrArg some tj
      have := two_count (by omega) h1 h2
      have q := hw _ mi
      rw [ti] at q
      simp only [lwas, Bool.or_eq_false_iff] at q
      have q2 := of_decide_eq_false q.2.2
      exact q2 this
theorem dues_apart {rs : List Row} (hk : (rs.map key).Nodup) : (dueN rs).Nodup := by
  unfold dueN
  refine List.pairwise_filterMap.mpr ?_
  have := List.pairwise_map.mp hk
  refine this.imp fun {r r'} ne b hb b' hb' c => ?_
  subst c
  have h1 := List.findIdx?_eq_some_iff_getElem.mp hb
  have h2 := List.findIdx?_eq_some_iff_getElem.mp hb'
  obtain ⟨l1, p1, _⟩ := h1
  obtain ⟨l2, p2, _⟩ := h2
  exact ne ((beq_iff_eq.mp p1).symm.trans (beq_iff_eq.mp p2))
end K57

set_option maxRecDepth 100000
set_option maxHeartbeats 4000000
namespace K57
open PySem Ev
theorem words_ok {f : Bool} {rs : List Row} : okD (.lst (wordsP f rs)) = true := by
  refine ok_flat (m := 1) (by decide) (flat_lst fun v m => ?_)
  obtain ⟨p, _, rfl⟩ := List.mem_map.mp m
  cases hw : lword rs f p.2 p.1 with
  | none => rfl
  | some w => simp [tp, flat, Ev.plain, dep, lword_ok hw]
theorem all_none {f : Bool} {rs : List Row} (h : (wordsP f rs).countP (fun z => pvEq z .non) = (wordsP f rs).length) : ∀ r ∈ rs, lwas rs r.told = false := by
  intro r m
  obtain ⟨i, hi⟩ := List.mem_iff_getElem?.mp m
  have := List.countP_eq_length.mp h (tp (lword rs f i r)) (List.mem_map.mpr ⟨(r, i), List.mem_zipIdx_iff_getElem?.mpr hi, rfl⟩)
  refine none_was (f := f) (i := i) ?_
  cases hw : lword rs f i r with
  | none => rfl
  | some w => rw [hw] at this; cases this
theorem way_okD {rs : List Row} : okD (.tup [.tup [.str "Box", .tup (srcsP rs)]]) = true := by
  have hc : flat 0 (.str "constant") = true ∧ flat 0 (.str "from") = true ∧ flat 0 (.str "no") = true ∧ flat 2 (.str "Box") = true := by decide +kernel
  have h1 : flat 2 (.tup (srcsP rs)) = true := by
    refine flat_tup fun v m => ?_
    unfold srcsP at m
    obtain ⟨r, mr, rfl⟩ := List.mem_map.mp m
    obtain ⟨⟨q, i⟩, _, rfl⟩ := List.mem_map.mp mr
    unfold wayR
    cases src oldL (newR (q, i)) with
    | some j =>
      refine flat_tup fun v m => ?_
      rcases List.mem_cons.mp m with rfl | m
      · exact hc.2.1
      · rw [List.mem_singleton.mp m]; rfl
    | none =>
      refine flat_tup fun v m => ?_
      rcases List.mem_cons.mp m with rfl | m
      · exact hc.1
      · rw [List.mem_singleton.mp m]
        show flat 0 (nv i q.kind) = true
        unfold nv
        split
        · rfl
        · split
          · rfl
          · exact hc.2.2.1
  have h2 : flat 3 (.tup [.str "Box", .tup (srcsP rs)]) = true := flat_tup fun v m => by
    rcases List.mem_cons.mp m with rfl | m
    · exact hc.2.2.2
    · rw [List.mem_singleton.mp m]; exact h1
  refine ok_flat (m := 4) (by decide) (flat_tup fun v m => ?_)
  rw [List.mem_singleton.mp m]
  exact h2
theorem drawn_ok (k : Nat) {h : Hh} (hc : Cup h) : ∃ h', callK G.ds (k + 6) 18 [.ref 0] h = some (.pv (.bl true), h') ∧ Cup h' := by
  obtain ⟨rs, h1, er, hrs, hn, hl4, hc1⟩ := rows_ok (k + 1) hc
  refine ⟨h1, ?_, hc1⟩
  have hl : rs.length ≤ 100 := by omega
  have hE : ([PV.str "a", PV.str "b", PV.str "c"] : List PV) = eA.map PV.str := rfl
  have ri : itemsOf .rng1 true (.pv (.int ((rs.map cell).length : Int))) none = some ((List.range rs.length).map fun (i : Nat) => PV.int i) := (range_mapL rs).trans (range_len rs hl)
  have L0 := c0 (k + 4) h1
  have L1 := c1 (k + 4) h1 hrs hl
  have L3 := c3 (k + 4) h1 hrs hl
  have L4 := c4 (k + 4) h1 hrs hl
  have L5 := c5 (k + 4) h1 hrs hl
  have L6 := c6 (k + 2) h1 hrs hl
  have L7 := c7 (k + 4) h1 hrs hl
  have L8 := c8 (k + 4) h1 hrs hl
  have L9 := c9 (k + 4) h1 hrs hl
  have L11 := c11 (k + 5) h1 oldL_good
  have L11b := c11 (k + 5) h1 (xs := rs) fun r m => (hrs r m).good
  have L12 := c12 (k + 4) h1 hrs hl
  have L13 := c13 (k + 4) h1 hrs hl
  have ob := objections_ok k h1 oldL_good (newL_good hrs) (by decide) (by rw [newL_len]; exact hl) (fun e m => by obtain ⟨p, _, rfl⟩ := List.mem_map.mp m; exact ⟨_, [], rfl⟩)
  rw [objs_said hrs] at ob
  have ob2 := objections2_ok (k + 2) h1 (four_good oldL_good) (four_good fun r m => (hrs r m).good) (by decide) (by rw [List.length_map]; exact hl)
  rw [objs2_said hrs] at ob2
  have wy := way_ok (k + 2) h1 (rt := []) (rt2 := []) oldL_good (newL_good hrs) (by decide) (by rw [newL_len]; exact hl) (fun e m => by obtain ⟨p, _, rfl⟩ := List.mem_map.mp m; exact ⟨_, [], rfl⟩)
  have wy : callK G.ds (k + 2 + 3) 11 [prog (oldL.map cell) [], prog ((newL rs).map cell) []] h1 = some (.pv (.tup [.tup [.str "Box", .tup (srcsP rs)]]), h1) := wy
  have rw' := root_way_ok (k + 3) h1 (four_good oldL_good) (four_good fun r m => (hrs r m).good) (by decide) (by rw [List.length_map]; exact hl)
  rw [root_due] at rw'
  have n0 : (oldL.map cell).length ≤ 16777216 := by decide +kernel
  have nE : (eA.map PV.str).length ≤ 16777216 := by decide +kernel
  have n1 : ((newL rs).map cell).length ≤ 16777216 := by rw [List.length_map, newL_len]; omega
  have n3 : ∀ f, (wordsP f rs).length ≤ 16777216 := fun f => by simp [wordsP]; omega
  have n4 : ∀ pl f, (said pl f rs).length ≤ 16777216 := fun pl f => by
    have : (said pl f rs).length ≤ rs.zipIdx.length := List.length_filterMap_le _ _
    rw [List.length_zipIdx] at this
    omega
  have n5 : (dueP rs).length ≤ 16777216 := by simp [dueP]; omega
  have n7 : (srcsP rs).length ≤ 16777216 := by simp [srcsP, newL]; omega
  have n8 : ((dueN rs).map fun n => PV.int (n : Nat)).length ≤ 16777216 := by
    rw [List.length_map]
    have : (dueN rs).length ≤ rs.length := List.length_filterMap_le _ _
    omega
  have n11 : ((oldL.map fourR).map cell).length ≤ 16777216 := by decide +kernel
  have n12 : ((rs.map fourR).map cell).length ≤ 16777216 := by simp; omega
  have o1 : okD (.tup (said [.int 0, .int 0, .int 2, .int 0, .int 1] true rs)) = true := said_ok (by decide +kernel)
  have o2 : okD (.tup (said [.int 1] false rs)) = true := said_ok (by decide +kernel)
  have o3 := due_ok (rs := rs)
  have o4 := due_okT (rs := rs)
  have o5 := way_okD (rs := rs)
  have o6 := words_ok (f := true) (rs := rs)
  have o7 := words_ok (f := false) (rs := rs)
  have q1 := eq_refl o1
  have q2 := eq_refl o2
  have q3 := eq_refl o3
  have q4 := eq_refl o4
  have q5 := eq_refl o5
  simp only [prog] at L6 ob wy
  simp only [rprog] at ob2 rw'
  cases hcnt : pvEq (.int (((wordsP true rs).countP fun z => pvEq z .non : Nat) : Int)) (.int ((wordsP true rs).length : Int)) with
  | false =>
    cases hlt : decide ((((wordsP false rs).countP fun z => pvEq z .non : Nat) : Int) < ((wordsP false rs).length : Int)) with
    | true => simp only [k__law_drawn_right, b__law_drawn_right, e__law_drawn_right_2, e__law_drawn_right_10, hcnt, hlt, er, hE, ri, L0, L1, L3, L4, L5, L6, L7, L8, L9, L11, L11b, L12, L13, ob, ob2, wy, rw', nE, n0, n1, n3, n4, n5, n7, n8, n11, n12, o1, o2, o3, o4, o5, o6, o7, q1, q2, q3, q4, q5, ↓s_seq, ↓s_skip, ↓s_pass, ↓s_brk, ↓s_cnt, ↓s_retN, ↓s_ret, ↓s_ex, ↓s_ite, ↓s_ass, ↓s_par, ↓s_sub, ↓s_app, ↓s_frz, ↓s_prm, ↓e_con, ↓e_glob, ↓e_var, ↓e_tup, ↓e_lst, ↓e_bin, ↓e_neg, ↓e_cmp, ↓e_chain, ↓e_isN, ↓e_not, ↓e_and, ↓e_or, ↓e_ife, ↓e_idx, ↓pt_nil, ↓e_slc, ↓e_rev, ↓e_call, ↓e_blt, ↓e_mth, ↓e_isin, ↓e_setlen, ↓cd_nil, ↓i_one, ↓t_t, ↓r_nil, ↓r_cons, ↓rr_nil, ↓rr_cons, ↓lp_n, ↓lp_c, ↓cd_con, ↓pt_con, ↓i_con, ↓cd_var, ↓pt_var, ↓i_var, ↓cd_glob, ↓pt_glob, ↓i_glob, ↓cd_tup, ↓pt_tup, ↓i_tup, ↓cd_lst, ↓pt_lst, ↓i_lst, ↓cd_bin, ↓pt_bin, ↓i_bin, ↓cd_neg, ↓pt_neg, ↓i_neg, ↓cd_cmp, ↓pt_cmp, ↓i_cmp, ↓cd_chain, ↓pt_chain, ↓i_chain, ↓cd_isN, ↓pt_isN, ↓i_isN, ↓cd_not, ↓pt_not, ↓i_not, ↓cd_and, ↓pt_and, ↓i_and, ↓cd_or, ↓pt_or, ↓i_or, ↓cd_ife, ↓pt_ife, ↓i_ife, ↓cd_idx, ↓pt_idx, ↓i_idx, ↓cd_slc, ↓pt_slc, ↓i_slc, ↓cd_rev, ↓pt_rev, ↓i_rev, ↓cd_call, ↓pt_call, ↓i_call, ↓cd_blt, ↓pt_blt, ↓i_blt, ↓cd_mth, ↓pt_mth, ↓i_mth, ↓cd_isin, ↓pt_isin, ↓i_isin, ↓cd_setlen, ↓pt_setlen, ↓i_setlen, ↓cd_lc, ↓pt_lc, ↓i_lc, s_seq, s_skip, s_pass, s_brk, s_cnt, s_retN, s_ret, s_ex, s_ite, s_ass, s_par, s_sub, s_app, s_frz, s_prm, e_con, e_glob, e_var, e_tup, e_lst, e_bin, e_neg, e_cmp, e_chain, e_isN, e_not, e_and, e_or, e_ife, e_idx, pt_nil, e_slc, e_rev, e_call, e_blt, e_mth, e_isin, e_setlen, cd_nil, i_one, t_t, r_nil, r_cons, rr_nil, rr_cons, lp_n, lp_c, cd_con, pt_con, i_con, cd_var, pt_var, i_var, cd_glob, pt_glob, i_glob, cd_tup, pt_tup, i_tup, cd_lst, pt_lst, i_lst, cd_bin, pt_bin, i_bin, cd_neg, pt_neg, i_neg, cd_cmp, pt_cmp, i_cmp, cd_chain, pt_chain, i_chain, cd_isN, pt_isN, i_isN, cd_not, pt_not, i_not, cd_and, pt_and, i_and, cd_or, pt_or, i_or, cd_ife, pt_ife, i_ife, cd_idx, pt_idx, i_idx, cd_slc, pt_slc, i_slc, cd_rev, pt_rev, i_rev, cd_call, pt_call, i_call, cd_blt, pt_blt, i_blt, cd_mth, pt_mth, i_mth, cd_isin, pt_isin, i_isin, cd_setlen, pt_setlen, i_setlen, cd_lc, pt_lc, i_lc, ↓e_lc, ↓s_for, e_lc, s_for, nxt_nx, nxt_rt, nxt_bk, nxt_ct, rtK_p, exK_p, iteK_t, iteK_f, nxO_e, assK_p, parK_p, subK3_p, subK2_p, subK1_p, subK_p, nx2_p, appK1_p, appK_p, okK_t, forL_p, frzK_o, frzK_s, prmK_o, prmK_s, varK_s, varK_o, tupK_p, lstK_p, wiK_a, binK1_p, binK_p, negK_i, blK_b, cmpK1_p, cmpK_p, chainK_t, chainK_f, chK1_p, chK_p, isNK_p, nblK_b, notK_p, andK_t, andK_f, anK_p, orK_t, orK_f, oK_p, ifeK_t, ifeK_f, ifK_p, idxK1_p, idxK_p, siK_i, aiK_p, slcK2_p, slcK1_p, slcK_p, revK_p, callE_p, bltK_p, mthK1_p, mthK0_t, mthK_p, isinK_p, slnK1_p, slnK0_p, slnK_p, soK_v, giK_p, trK1_b, trK_p, elK_t, elK_f, lcK1_p, lcK_p, tuK_p, itK1_p, itK2_p, itK_p, coK_p, rcK1_p, rcK_p, crK_p, rrK_p, l_tup, l_lst, l_kl, l_fr, l_br, g_pv, g_fr, d_lst, d_fr, d_br, d_str, d_int, d_bl, d_non, d_tup, tr_bl, tr_int, tr_non, tr_str, n_non, n_int, n_str, n_tup, n_lst, n_bl, n_ref, x_tup, x_lst, x_kl, x_fr, x_br, a_v, a_t, gt_pv, gt_fr, as_v, as_tt, as_tl, as_n, as_c, o_rtp, o_rtf, o_rtb, o_nx, lpK_nx, lpK_ct, lpK_bk, lpK_rt, foK_e, forK_p, itm_tup, itm_lst, itm_kl, itm_fr, itm_br, itm_etup, itm_elst, itm_ekl, itm_efr, itm_ebr, itm_r1, itm_r2, at_nat, at_0, at_1, at_2, at_3, at_4, at_5, at_6, at_7, p_ii, p_ss, p_tt, p_ff, p_bf, p_lf, p_fl, p_ll, p_bl, p_sub, p_mulL, p_mulR, p_divP, p_modP, p_pow, c_lt, c_le, c_gt, c_ge, eqK1_v, eqK2_v, c_eq, c_ne, c_in, c_ni, inK_v, in_tup, in_lst, in_kl, in_fr, in_br, f_abs, f_int, f_lenS, f_lent, f_lenl, f_lenk, f_lenf, f_lenb, f_listk, f_listl, f_listt, f_listf, f_tupl, f_tupt, f_tupf, f_tupb, f_all, f_any, anyK_b, f_sort1, f_sort1f, mo_il, mo_ib, mo_ik, mo_if, mo_cl, mo_cb, mo_cf, ixK0_n, ixMK_v, m_il, m_ib, m_if, coMK_v, m_cl, m_cb, m_cf, apo_s, apoK_o, apoK_r, boK_l, ap_s, apK_o, apK_r, bxK_l, gu_c, gu_e, ok_non, ok_bl, ok_int, catK_s, catK_n, turK_p, tu_n, tu_c, bo_n, bo_c, in_n, in_c, al_n, al_t, al_f, nu_n, nu_c, refK_l, x_ref, setK1_m, setK_l, set_ref, ixn_20, ixn_21, ixn_31, ixn_30, ixn_32, sl_tup, sl_lst, sl_fr, sl_br, rv_lst, rv_fr, rv_br, asI_i, b_some, m_some, List.getElem?_cons_succ, List.getElem?_cons_zero, List.getElem?_nil, List.set_cons_succ, List.set_cons_zero, List.length_cons, List.length_nil, lim, Nat.reduceAdd, Nat.reduceLeDiff, Int.reduceLT, Nat.reduceLT, Nat.lt_add_left_iff_pos, E.isNil, wipeE, Nat.zero_lt_succ, if_true, if_false, Bool.true_bne, Bool.false_bne, bne_self_eq_false, Bool.not_true, Bool.not_false, Bool.not_not, Bool.bne_false, Bool.bne_true]
    | false => simp only [k__law_drawn_right, b__law_drawn_right, e__law_drawn_right_2, e__law_drawn_right_10, hcnt, hlt, er, hE, ri, L0, L1, L3, L4, L5, L6, L7, L8, L9, L11, L11b, L12, L13, ob, ob2, wy, rw', nE, n0, n1, n3, n4, n5, n7, n8, n11, n12, o1, o2, o3, o4, o5, o6, o7, q1, q2, q3, q4, q5, ↓s_seq, ↓s_skip, ↓s_pass, ↓s_brk, ↓s_cnt, ↓s_retN, ↓s_ret, ↓s_ex, ↓s_ite, ↓s_ass, ↓s_par, ↓s_sub, ↓s_app, ↓s_frz, ↓s_prm, ↓e_con, ↓e_glob, ↓e_var, ↓e_tup, ↓e_lst, ↓e_bin, ↓e_neg, ↓e_cmp, ↓e_chain, ↓e_isN, ↓e_not, ↓e_and, ↓e_or, ↓e_ife, ↓e_idx, ↓pt_nil, ↓e_slc, ↓e_rev, ↓e_call, ↓e_blt, ↓e_mth, ↓e_isin, ↓e_setlen, ↓cd_nil, ↓i_one, ↓t_t, ↓r_nil, ↓r_cons, ↓rr_nil, ↓rr_cons, ↓lp_n, ↓lp_c, ↓cd_con, ↓pt_con, ↓i_con, ↓cd_var, ↓pt_var, ↓i_var, ↓cd_glob, ↓pt_glob, ↓i_glob, ↓cd_tup, ↓pt_tup, ↓i_tup, ↓cd_lst, ↓pt_lst, ↓i_lst, ↓cd_bin, ↓pt_bin, ↓i_bin, ↓cd_neg, ↓pt_neg, ↓i_neg, ↓cd_cmp, ↓pt_cmp, ↓i_cmp, ↓cd_chain, ↓pt_chain, ↓i_chain, ↓cd_isN, ↓pt_isN, ↓i_isN, ↓cd_not, ↓pt_not, ↓i_not, ↓cd_and, ↓pt_and, ↓i_and, ↓cd_or, ↓pt_or, ↓i_or, ↓cd_ife, ↓pt_ife, ↓i_ife, ↓cd_idx, ↓pt_idx, ↓i_idx, ↓cd_slc, ↓pt_slc, ↓i_slc, ↓cd_rev, ↓pt_rev, ↓i_rev, ↓cd_call, ↓pt_call, ↓i_call, ↓cd_blt, ↓pt_blt, ↓i_blt, ↓cd_mth, ↓pt_mth, ↓i_mth, ↓cd_isin, ↓pt_isin, ↓i_isin, ↓cd_setlen, ↓pt_setlen, ↓i_setlen, ↓cd_lc, ↓pt_lc, ↓i_lc, s_seq, s_skip, s_pass, s_brk, s_cnt, s_retN, s_ret, s_ex, s_ite, s_ass, s_par, s_sub, s_app, s_frz, s_prm, e_con, e_glob, e_var, e_tup, e_lst, e_bin, e_neg, e_cmp, e_chain, e_isN, e_not, e_and, e_or, e_ife, e_idx, pt_nil, e_slc, e_rev, e_call, e_blt, e_mth, e_isin, e_setlen, cd_nil, i_one, t_t, r_nil, r_cons, rr_nil, rr_cons, lp_n, lp_c, cd_con, pt_con, i_con, cd_var, pt_var, i_var, cd_glob, pt_glob, i_glob, cd_tup, pt_tup, i_tup, cd_lst, pt_lst, i_lst, cd_bin, pt_bin, i_bin, cd_neg, pt_neg, i_neg, cd_cmp, pt_cmp, i_cmp, cd_chain, pt_chain, i_chain, cd_isN, pt_isN, i_isN, cd_not, pt_not, i_not, cd_and, pt_and, i_and, cd_or, pt_or, i_or, cd_ife, pt_ife, i_ife, cd_idx, pt_idx, i_idx, cd_slc, pt_slc, i_slc, cd_rev, pt_rev, i_rev, cd_call, pt_call, i_call, cd_blt, pt_blt, i_blt, cd_mth, pt_mth, i_mth, cd_isin, pt_isin, i_isin, cd_setlen, pt_setlen, i_setlen, cd_lc, pt_lc, i_lc, ↓e_lc, ↓s_for, e_lc, s_for, nxt_nx, nxt_rt, nxt_bk, nxt_ct, rtK_p, exK_p, iteK_t, iteK_f, nxO_e, assK_p, parK_p, subK3_p, subK2_p, subK1_p, subK_p, nx2_p, appK1_p, appK_p, okK_t, forL_p, frzK_o, frzK_s, prmK_o, prmK_s, varK_s, varK_o, tupK_p, lstK_p, wiK_a, binK1_p, binK_p, negK_i, blK_b, cmpK1_p, cmpK_p, chainK_t, chainK_f, chK1_p, chK_p, isNK_p, nblK_b, notK_p, andK_t, andK_f, anK_p, orK_t, orK_f, oK_p, ifeK_t, ifeK_f, ifK_p, idxK1_p, idxK_p, siK_i, aiK_p, slcK2_p, slcK1_p, slcK_p, revK_p, callE_p, bltK_p, mthK1_p, mthK0_t, mthK_p, isinK_p, slnK1_p, slnK0_p, slnK_p, soK_v, giK_p, trK1_b, trK_p, elK_t, elK_f, lcK1_p, lcK_p, tuK_p, itK1_p, itK2_p, itK_p, coK_p, rcK1_p, rcK_p, crK_p, rrK_p, l_tup, l_lst, l_kl, l_fr, l_br, g_pv, g_fr, d_lst, d_fr, d_br, d_str, d_int, d_bl, d_non, d_tup, tr_bl, tr_int, tr_non, tr_str, n_non, n_int, n_str, n_tup, n_lst, n_bl, n_ref, x_tup, x_lst, x_kl, x_fr, x_br, a_v, a_t, gt_pv, gt_fr, as_v, as_tt, as_tl, as_n, as_c, o_rtp, o_rtf, o_rtb, o_nx, lpK_nx, lpK_ct, lpK_bk, lpK_rt, foK_e, forK_p, itm_tup, itm_lst, itm_kl, itm_fr, itm_br, itm_etup, itm_elst, itm_ekl, itm_efr, itm_ebr, itm_r1, itm_r2, at_nat, at_0, at_1, at_2, at_3, at_4, at_5, at_6, at_7, p_ii, p_ss, p_tt, p_ff, p_bf, p_lf, p_fl, p_ll, p_bl, p_sub, p_mulL, p_mulR, p_divP, p_modP, p_pow, c_lt, c_le, c_gt, c_ge, eqK1_v, eqK2_v, c_eq, c_ne, c_in, c_ni, inK_v, in_tup, in_lst, in_kl, in_fr, in_br, f_abs, f_int, f_lenS, f_lent, f_lenl, f_lenk, f_lenf, f_lenb, f_listk, f_listl, f_listt, f_listf, f_tupl, f_tupt, f_tupf, f_tupb, f_all, f_any, anyK_b, f_sort1, f_sort1f, mo_il, mo_ib, mo_ik, mo_if, mo_cl, mo_cb, mo_cf, ixK0_n, ixMK_v, m_il, m_ib, m_if, coMK_v, m_cl, m_cb, m_cf, apo_s, apoK_o, apoK_r, boK_l, ap_s, apK_o, apK_r, bxK_l, gu_c, gu_e, ok_non, ok_bl, ok_int, catK_s, catK_n, turK_p, tu_n, tu_c, bo_n, bo_c, in_n, in_c, al_n, al_t, al_f, nu_n, nu_c, refK_l, x_ref, setK1_m, setK_l, set_ref, ixn_20, ixn_21, ixn_31, ixn_30, ixn_32, sl_tup, sl_lst, sl_fr, sl_br, rv_lst, rv_fr, rv_br, asI_i, b_some, m_some, List.getElem?_cons_succ, List.getElem?_cons_zero, List.getElem?_nil, List.set_cons_succ, List.set_cons_zero, List.length_cons, List.length_nil, lim, Nat.reduceAdd, Nat.reduceLeDiff, Int.reduceLT, Nat.reduceLT, Nat.lt_add_left_iff_pos, E.isNil, wipeE, Nat.zero_lt_succ, if_true, if_false, Bool.true_bne, Bool.false_bne, bne_self_eq_false, Bool.not_true, Bool.not_false, Bool.not_not, Bool.bne_false, Bool.bne_true]
  | true =>
    have hn2 : (dueN rs).Nodup := by
      have e : (((wordsP true rs).countP fun z => pvEq z .non : Nat) : Int) = ((wordsP true rs).length : Int) := by simpa [pvEq] using hcnt
      have e2 : (wordsP true rs).countP (fun z => pvEq z .non) = (wordsP true rs).length := by omega
      exact dues_apart (keys_apart hn (all_none e2))
    have hi : intsP ((dueN rs).map fun n => PV.int (n : Nat)) = some ((dueN rs).map fun n => ((n : Nat) : Int)) := by
      have := ints_map ((dueN rs).map fun n => ((n : Nat) : Int))
      rw [List.map_map] at this
      exact this
    have hs : slnK1 h1 ((dueN rs).map fun n => ((n : Nat) : Int)) = some (.pv (.int (((dueN rs).map fun n => PV.int (n : Nat)).length : Int)), h1) := by
      rw [slnK1_p, List.length_map, List.length_map]
      refine ⟨List.pairwise_map.mpr (hn2.imp fun {a b} ne c => ne (by omega)), ?_⟩
      rw [List.length_map]
      have : (dueN rs).length ≤ rs.length := List.length_filterMap_le _ _
      omega
    have q6 : pvEq (.int (((dueN rs).map fun n => PV.int (n : Nat)).length : Int)) (.int (((dueN rs).map fun n => PV.int (n : Nat)).length : Int)) = true := by simp [pvEq]
    cases hlt : decide ((((wordsP false rs).countP fun z => pvEq z .non : Nat) : Int) < ((wordsP false rs).length : Int)) with
    | true => simp only [k__law_drawn_right, b__law_drawn_right, e__law_drawn_right_2, e__law_drawn_right_10, hcnt, hlt, hi, hs, q6, Bool.false_eq_true, er, hE, ri, L0, L1, L3, L4, L5, L6, L7, L8, L9, L11, L11b, L12, L13, ob, ob2, wy, rw', nE, n0, n1, n3, n4, n5, n7, n8, n11, n12, o1, o2, o3, o4, o5, o6, o7, q1, q2, q3, q4, q5, ↓s_seq, ↓s_skip, ↓s_pass, ↓s_brk, ↓s_cnt, ↓s_retN, ↓s_ret, ↓s_ex, ↓s_ite, ↓s_ass, ↓s_par, ↓s_sub, ↓s_app, ↓s_frz, ↓s_prm, ↓e_con, ↓e_glob, ↓e_var, ↓e_tup, ↓e_lst, ↓e_bin, ↓e_neg, ↓e_cmp, ↓e_chain, ↓e_isN, ↓e_not, ↓e_and, ↓e_or, ↓e_ife, ↓e_idx, ↓pt_nil, ↓e_slc, ↓e_rev, ↓e_call, ↓e_blt, ↓e_mth, ↓e_isin, ↓e_setlen, ↓cd_nil, ↓i_one, ↓t_t, ↓r_nil, ↓r_cons, ↓rr_nil, ↓rr_cons, ↓lp_n, ↓lp_c, ↓cd_con, ↓pt_con, ↓i_con, ↓cd_var, ↓pt_var, ↓i_var, ↓cd_glob, ↓pt_glob, ↓i_glob, ↓cd_tup, ↓pt_tup, ↓i_tup, ↓cd_lst, ↓pt_lst, ↓i_lst, ↓cd_bin, ↓pt_bin, ↓i_bin, ↓cd_neg, ↓pt_neg, ↓i_neg, ↓cd_cmp, ↓pt_cmp, ↓i_cmp, ↓cd_chain, ↓pt_chain, ↓i_chain, ↓cd_isN, ↓pt_isN, ↓i_isN, ↓cd_not, ↓pt_not, ↓i_not, ↓cd_and, ↓pt_and, ↓i_and, ↓cd_or, ↓pt_or, ↓i_or, ↓cd_ife, ↓pt_ife, ↓i_ife, ↓cd_idx, ↓pt_idx, ↓i_idx, ↓cd_slc, ↓pt_slc, ↓i_slc, ↓cd_rev, ↓pt_rev, ↓i_rev, ↓cd_call, ↓pt_call, ↓i_call, ↓cd_blt, ↓pt_blt, ↓i_blt, ↓cd_mth, ↓pt_mth, ↓i_mth, ↓cd_isin, ↓pt_isin, ↓i_isin, ↓cd_setlen, ↓pt_setlen, ↓i_setlen, ↓cd_lc, ↓pt_lc, ↓i_lc, s_seq, s_skip, s_pass, s_brk, s_cnt, s_retN, s_ret, s_ex, s_ite, s_ass, s_par, s_sub, s_app, s_frz, s_prm, e_con, e_glob, e_var, e_tup, e_lst, e_bin, e_neg, e_cmp, e_chain, e_isN, e_not, e_and, e_or, e_ife, e_idx, pt_nil, e_slc, e_rev, e_call, e_blt, e_mth, e_isin, e_setlen, cd_nil, i_one, t_t, r_nil, r_cons, rr_nil, rr_cons, lp_n, lp_c, cd_con, pt_con, i_con, cd_var, pt_var, i_var, cd_glob, pt_glob, i_glob, cd_tup, pt_tup, i_tup, cd_lst, pt_lst, i_lst, cd_bin, pt_bin, i_bin, cd_neg, pt_neg, i_neg, cd_cmp, pt_cmp, i_cmp, cd_chain, pt_chain, i_chain, cd_isN, pt_isN, i_isN, cd_not, pt_not, i_not, cd_and, pt_and, i_and, cd_or, pt_or, i_or, cd_ife, pt_ife, i_ife, cd_idx, pt_idx, i_idx, cd_slc, pt_slc, i_slc, cd_rev, pt_rev, i_rev, cd_call, pt_call, i_call, cd_blt, pt_blt, i_blt, cd_mth, pt_mth, i_mth, cd_isin, pt_isin, i_isin, cd_setlen, pt_setlen, i_setlen, cd_lc, pt_lc, i_lc, ↓e_lc, ↓s_for, e_lc, s_for, nxt_nx, nxt_rt, nxt_bk, nxt_ct, rtK_p, exK_p, iteK_t, iteK_f, nxO_e, assK_p, parK_p, subK3_p, subK2_p, subK1_p, subK_p, nx2_p, appK1_p, appK_p, okK_t, forL_p, frzK_o, frzK_s, prmK_o, prmK_s, varK_s, varK_o, tupK_p, lstK_p, wiK_a, binK1_p, binK_p, negK_i, blK_b, cmpK1_p, cmpK_p, chainK_t, chainK_f, chK1_p, chK_p, isNK_p, nblK_b, notK_p, andK_t, andK_f, anK_p, orK_t, orK_f, oK_p, ifeK_t, ifeK_f, ifK_p, idxK1_p, idxK_p, siK_i, aiK_p, slcK2_p, slcK1_p, slcK_p, revK_p, callE_p, bltK_p, mthK1_p, mthK0_t, mthK_p, isinK_p, slnK1_p, slnK0_p, slnK_p, soK_v, giK_p, trK1_b, trK_p, elK_t, elK_f, lcK1_p, lcK_p, tuK_p, itK1_p, itK2_p, itK_p, coK_p, rcK1_p, rcK_p, crK_p, rrK_p, l_tup, l_lst, l_kl, l_fr, l_br, g_pv, g_fr, d_lst, d_fr, d_br, d_str, d_int, d_bl, d_non, d_tup, tr_bl, tr_int, tr_non, tr_str, n_non, n_int, n_str, n_tup, n_lst, n_bl, n_ref, x_tup, x_lst, x_kl, x_fr, x_br, a_v, a_t, gt_pv, gt_fr, as_v, as_tt, as_tl, as_n, as_c, o_rtp, o_rtf, o_rtb, o_nx, lpK_nx, lpK_ct, lpK_bk, lpK_rt, foK_e, forK_p, itm_tup, itm_lst, itm_kl, itm_fr, itm_br, itm_etup, itm_elst, itm_ekl, itm_efr, itm_ebr, itm_r1, itm_r2, at_nat, at_0, at_1, at_2, at_3, at_4, at_5, at_6, at_7, p_ii, p_ss, p_tt, p_ff, p_bf, p_lf, p_fl, p_ll, p_bl, p_sub, p_mulL, p_mulR, p_divP, p_modP, p_pow, c_lt, c_le, c_gt, c_ge, eqK1_v, eqK2_v, c_eq, c_ne, c_in, c_ni, inK_v, in_tup, in_lst, in_kl, in_fr, in_br, f_abs, f_int, f_lenS, f_lent, f_lenl, f_lenk, f_lenf, f_lenb, f_listk, f_listl, f_listt, f_listf, f_tupl, f_tupt, f_tupf, f_tupb, f_all, f_any, anyK_b, f_sort1, f_sort1f, mo_il, mo_ib, mo_ik, mo_if, mo_cl, mo_cb, mo_cf, ixK0_n, ixMK_v, m_il, m_ib, m_if, coMK_v, m_cl, m_cb, m_cf, apo_s, apoK_o, apoK_r, boK_l, ap_s, apK_o, apK_r, bxK_l, gu_c, gu_e, ok_non, ok_bl, ok_int, catK_s, catK_n, turK_p, tu_n, tu_c, bo_n, bo_c, in_n, in_c, al_n, al_t, al_f, nu_n, nu_c, refK_l, x_ref, setK1_m, setK_l, set_ref, ixn_20, ixn_21, ixn_31, ixn_30, ixn_32, sl_tup, sl_lst, sl_fr, sl_br, rv_lst, rv_fr, rv_br, asI_i, b_some, m_some, List.getElem?_cons_succ, List.getElem?_cons_zero, List.getElem?_nil, List.set_cons_succ, List.set_cons_zero, List.length_cons, List.length_nil, lim, Nat.reduceAdd, Nat.reduceLeDiff, Int.reduceLT, Nat.reduceLT, Nat.lt_add_left_iff_pos, E.isNil, wipeE, Nat.zero_lt_succ, if_true, if_false, Bool.true_bne, Bool.false_bne, bne_self_eq_false, Bool.not_true, Bool.not_false, Bool.not_not, Bool.bne_false, Bool.bne_true]
    | false => simp only [k__law_drawn_right, b__law_drawn_right, e__law_drawn_right_2, e__law_drawn_right_10, hcnt, hlt, hi, hs, q6, Bool.false_eq_true, er, hE, ri, L0, L1, L3, L4, L5, L6, L7, L8, L9, L11, L11b, L12, L13, ob, ob2, wy, rw', nE, n0, n1, n3, n4, n5, n7, n8, n11, n12, o1, o2, o3, o4, o5, o6, o7, q1, q2, q3, q4, q5, ↓s_seq, ↓s_skip, ↓s_pass, ↓s_brk, ↓s_cnt, ↓s_retN, ↓s_ret, ↓s_ex, ↓s_ite, ↓s_ass, ↓s_par, ↓s_sub, ↓s_app, ↓s_frz, ↓s_prm, ↓e_con, ↓e_glob, ↓e_var, ↓e_tup, ↓e_lst, ↓e_bin, ↓e_neg, ↓e_cmp, ↓e_chain, ↓e_isN, ↓e_not, ↓e_and, ↓e_or, ↓e_ife, ↓e_idx, ↓pt_nil, ↓e_slc, ↓e_rev, ↓e_call, ↓e_blt, ↓e_mth, ↓e_isin, ↓e_setlen, ↓cd_nil, ↓i_one, ↓t_t, ↓r_nil, ↓r_cons, ↓rr_nil, ↓rr_cons, ↓lp_n, ↓lp_c, ↓cd_con, ↓pt_con, ↓i_con, ↓cd_var, ↓pt_var, ↓i_var, ↓cd_glob, ↓pt_glob, ↓i_glob, ↓cd_tup, ↓pt_tup, ↓i_tup, ↓cd_lst, ↓pt_lst, ↓i_lst, ↓cd_bin, ↓pt_bin, ↓i_bin, ↓cd_neg, ↓pt_neg, ↓i_neg, ↓cd_cmp, ↓pt_cmp, ↓i_cmp, ↓cd_chain, ↓pt_chain, ↓i_chain, ↓cd_isN, ↓pt_isN, ↓i_isN, ↓cd_not, ↓pt_not, ↓i_not, ↓cd_and, ↓pt_and, ↓i_and, ↓cd_or, ↓pt_or, ↓i_or, ↓cd_ife, ↓pt_ife, ↓i_ife, ↓cd_idx, ↓pt_idx, ↓i_idx, ↓cd_slc, ↓pt_slc, ↓i_slc, ↓cd_rev, ↓pt_rev, ↓i_rev, ↓cd_call, ↓pt_call, ↓i_call, ↓cd_blt, ↓pt_blt, ↓i_blt, ↓cd_mth, ↓pt_mth, ↓i_mth, ↓cd_isin, ↓pt_isin, ↓i_isin, ↓cd_setlen, ↓pt_setlen, ↓i_setlen, ↓cd_lc, ↓pt_lc, ↓i_lc, s_seq, s_skip, s_pass, s_brk, s_cnt, s_retN, s_ret, s_ex, s_ite, s_ass, s_par, s_sub, s_app, s_frz, s_prm, e_con, e_glob, e_var, e_tup, e_lst, e_bin, e_neg, e_cmp, e_chain, e_isN, e_not, e_and, e_or, e_ife, e_idx, pt_nil, e_slc, e_rev, e_call, e_blt, e_mth, e_isin, e_setlen, cd_nil, i_one, t_t, r_nil, r_cons, rr_nil, rr_cons, lp_n, lp_c, cd_con, pt_con, i_con, cd_var, pt_var, i_var, cd_glob, pt_glob, i_glob, cd_tup, pt_tup, i_tup, cd_lst, pt_lst, i_lst, cd_bin, pt_bin, i_bin, cd_neg, pt_neg, i_neg, cd_cmp, pt_cmp, i_cmp, cd_chain, pt_chain, i_chain, cd_isN, pt_isN, i_isN, cd_not, pt_not, i_not, cd_and, pt_and, i_and, cd_or, pt_or, i_or, cd_ife, pt_ife, i_ife, cd_idx, pt_idx, i_idx, cd_slc, pt_slc, i_slc, cd_rev, pt_rev, i_rev, cd_call, pt_call, i_call, cd_blt, pt_blt, i_blt, cd_mth, pt_mth, i_mth, cd_isin, pt_isin, i_isin, cd_setlen, pt_setlen, i_setlen, cd_lc, pt_lc, i_lc, ↓e_lc, ↓s_for, e_lc, s_for, nxt_nx, nxt_rt, nxt_bk, nxt_ct, rtK_p, exK_p, iteK_t, iteK_f, nxO_e, assK_p, parK_p, subK3_p, subK2_p, subK1_p, subK_p, nx2_p, appK1_p, appK_p, okK_t, forL_p, frzK_o, frzK_s, prmK_o, prmK_s, varK_s, varK_o, tupK_p, lstK_p, wiK_a, binK1_p, binK_p, negK_i, blK_b, cmpK1_p, cmpK_p, chainK_t, chainK_f, chK1_p, chK_p, isNK_p, nblK_b, notK_p, andK_t, andK_f, anK_p, orK_t, orK_f, oK_p, ifeK_t, ifeK_f, ifK_p, idxK1_p, idxK_p, siK_i, aiK_p, slcK2_p, slcK1_p, slcK_p, revK_p, callE_p, bltK_p, mthK1_p, mthK0_t, mthK_p, isinK_p, slnK1_p, slnK0_p, slnK_p, soK_v, giK_p, trK1_b, trK_p, elK_t, elK_f, lcK1_p, lcK_p, tuK_p, itK1_p, itK2_p, itK_p, coK_p, rcK1_p, rcK_p, crK_p, rrK_p, l_tup, l_lst, l_kl, l_fr, l_br, g_pv, g_fr, d_lst, d_fr, d_br, d_str, d_int, d_bl, d_non, d_tup, tr_bl, tr_int, tr_non, tr_str, n_non, n_int, n_str, n_tup, n_lst, n_bl, n_ref, x_tup, x_lst, x_kl, x_fr, x_br, a_v, a_t, gt_pv, gt_fr, as_v, as_tt, as_tl, as_n, as_c, o_rtp, o_rtf, o_rtb, o_nx, lpK_nx, lpK_ct, lpK_bk, lpK_rt, foK_e, forK_p, itm_tup, itm_lst, itm_kl, itm_fr, itm_br, itm_etup, itm_elst, itm_ekl, itm_efr, itm_ebr, itm_r1, itm_r2, at_nat, at_0, at_1, at_2, at_3, at_4, at_5, at_6, at_7, p_ii, p_ss, p_tt, p_ff, p_bf, p_lf, p_fl, p_ll, p_bl, p_sub, p_mulL, p_mulR, p_divP, p_modP, p_pow, c_lt, c_le, c_gt, c_ge, eqK1_v, eqK2_v, c_eq, c_ne, c_in, c_ni, inK_v, in_tup, in_lst, in_kl, in_fr, in_br, f_abs, f_int, f_lenS, f_lent, f_lenl, f_lenk, f_lenf, f_lenb, f_listk, f_listl, f_listt, f_listf, f_tupl, f_tupt, f_tupf, f_tupb, f_all, f_any, anyK_b, f_sort1, f_sort1f, mo_il, mo_ib, mo_ik, mo_if, mo_cl, mo_cb, mo_cf, ixK0_n, ixMK_v, m_il, m_ib, m_if, coMK_v, m_cl, m_cb, m_cf, apo_s, apoK_o, apoK_r, boK_l, ap_s, apK_o, apK_r, bxK_l, gu_c, gu_e, ok_non, ok_bl, ok_int, catK_s, catK_n, turK_p, tu_n, tu_c, bo_n, bo_c, in_n, in_c, al_n, al_t, al_f, nu_n, nu_c, refK_l, x_ref, setK1_m, setK_l, set_ref, ixn_20, ixn_21, ixn_31, ixn_30, ixn_32, sl_tup, sl_lst, sl_fr, sl_br, rv_lst, rv_fr, rv_br, asI_i, b_some, m_some, List.getElem?_cons_succ, List.getElem?_cons_zero, List.getElem?_nil, List.set_cons_succ, List.set_cons_zero, List.length_cons, List.length_nil, lim, Nat.reduceAdd, Nat.reduceLeDiff, Int.reduceLT, Nat.reduceLT, Nat.lt_add_left_iff_pos, E.isNil, wipeE, Nat.zero_lt_succ, if_true, if_false, Bool.true_bne, Bool.false_bne, bne_self_eq_false, Bool.not_true, Bool.not_false, Bool.not_not, Bool.bne_false, Bool.bne_true]
end K57

set_option maxRecDepth 100000
set_option maxHeartbeats 4000000
namespace K57
open PySem Ev
theorem written_ok (h : Hh) : callK G.ds 59 19 [] h = some (.pv (.bl true), h) := by kernel_rfl
theorem turns_ok : ∀ (xs : List PV) (s2 : Sl) {a : PV} {h : Hh}, Cup h → ∃ (j : Sl) (h' : Hh), loop (forK (callK G.ds 59) (.v 2) l_law_0) xs [.sh a, .sh (.ref 0), s2] h = some (.nx [.sh a, .sh (.ref 0), j] h') ∧ Cup h'
  | [], s2, a, h, hc => ⟨s2, h, rfl, hc⟩
  | x :: xs, s2, a, h, hc => by
    obtain ⟨h1, e1, c1⟩ := drawn_ok 53 hc
    obtain ⟨j, h2, e2, c2⟩ := turns_ok xs (.sh x) (a := a) c1
    refine ⟨j, h2, ?_, c2⟩
    have e1 : callK G.ds 59 18 [.ref 0] h = some (.pv (.bl true), h1) := e1
    simp only [l_law_0, e1, e2, lp_c, Bool.false_eq_true, ↓s_seq, ↓s_skip, ↓s_pass, ↓s_brk, ↓s_cnt, ↓s_retN, ↓s_ret, ↓s_ex, ↓s_ite, ↓s_ass, ↓s_par, ↓s_sub, ↓s_app, ↓s_frz, ↓s_prm, ↓e_con, ↓e_glob, ↓e_var, ↓e_tup, ↓e_lst, ↓e_bin, ↓e_neg, ↓e_cmp, ↓e_chain, ↓e_isN, ↓e_not, ↓e_and, ↓e_or, ↓e_ife, ↓e_idx, ↓pt_nil, ↓e_slc, ↓e_rev, ↓e_call, ↓e_blt, ↓e_mth, ↓e_isin, ↓e_setlen, ↓cd_nil, ↓i_one, ↓t_t, ↓r_nil, ↓r_cons, ↓rr_nil, ↓rr_cons, ↓lp_n, ↓cd_con, ↓pt_con, ↓i_con, ↓cd_var, ↓pt_var, ↓i_var, ↓cd_glob, ↓pt_glob, ↓i_glob, ↓cd_tup, ↓pt_tup, ↓i_tup, ↓cd_lst, ↓pt_lst, ↓i_lst, ↓cd_bin, ↓pt_bin, ↓i_bin, ↓cd_neg, ↓pt_neg, ↓i_neg, ↓cd_cmp, ↓pt_cmp, ↓i_cmp, ↓cd_chain, ↓pt_chain, ↓i_chain, ↓cd_isN, ↓pt_isN, ↓i_isN, ↓cd_not, ↓pt_not, ↓i_not, ↓cd_and, ↓pt_and, ↓i_and, ↓cd_or, ↓pt_or, ↓i_or, ↓cd_ife, ↓pt_ife, ↓i_ife, ↓cd_idx, ↓pt_idx, ↓i_idx, ↓cd_slc, ↓pt_slc, ↓i_slc, ↓cd_rev, ↓pt_rev, ↓i_rev, ↓cd_call, ↓pt_call, ↓i_call, ↓cd_blt, ↓pt_blt, ↓i_blt, ↓cd_mth, ↓pt_mth, ↓i_mth, ↓cd_isin, ↓pt_isin, ↓i_isin, ↓cd_setlen, ↓pt_setlen, ↓i_setlen, ↓cd_lc, ↓pt_lc, ↓i_lc, s_seq, s_skip, s_pass, s_brk, s_cnt, s_retN, s_ret, s_ex, s_ite, s_ass, s_par, s_sub, s_app, s_frz, s_prm, e_con, e_glob, e_var, e_tup, e_lst, e_bin, e_neg, e_cmp, e_chain, e_isN, e_not, e_and, e_or, e_ife, e_idx, pt_nil, e_slc, e_rev, e_call, e_blt, e_mth, e_isin, e_setlen, cd_nil, i_one, t_t, r_nil, r_cons, rr_nil, rr_cons, lp_n, cd_con, pt_con, i_con, cd_var, pt_var, i_var, cd_glob, pt_glob, i_glob, cd_tup, pt_tup, i_tup, cd_lst, pt_lst, i_lst, cd_bin, pt_bin, i_bin, cd_neg, pt_neg, i_neg, cd_cmp, pt_cmp, i_cmp, cd_chain, pt_chain, i_chain, cd_isN, pt_isN, i_isN, cd_not, pt_not, i_not, cd_and, pt_and, i_and, cd_or, pt_or, i_or, cd_ife, pt_ife, i_ife, cd_idx, pt_idx, i_idx, cd_slc, pt_slc, i_slc, cd_rev, pt_rev, i_rev, cd_call, pt_call, i_call, cd_blt, pt_blt, i_blt, cd_mth, pt_mth, i_mth, cd_isin, pt_isin, i_isin, cd_setlen, pt_setlen, i_setlen, cd_lc, pt_lc, i_lc, ↓e_lc, ↓s_for, e_lc, s_for, nxt_nx, nxt_rt, nxt_bk, nxt_ct, rtK_p, exK_p, iteK_t, iteK_f, nxO_e, assK_p, parK_p, subK3_p, subK2_p, subK1_p, subK_p, nx2_p, appK1_p, appK_p, okK_t, forL_p, frzK_o, frzK_s, prmK_o, prmK_s, varK_s, varK_o, tupK_p, lstK_p, wiK_a, binK1_p, binK_p, negK_i, blK_b, cmpK1_p, cmpK_p, chainK_t, chainK_f, chK1_p, chK_p, isNK_p, nblK_b, notK_p, andK_t, andK_f, anK_p, orK_t, orK_f, oK_p, ifeK_t, ifeK_f, ifK_p, idxK1_p, idxK_p, siK_i, aiK_p, slcK2_p, slcK1_p, slcK_p, revK_p, callE_p, bltK_p, mthK1_p, mthK0_t, mthK_p, isinK_p, slnK1_p, slnK0_p, slnK_p, soK_v, giK_p, trK1_b, trK_p, elK_t, elK_f, lcK1_p, lcK_p, tuK_p, itK1_p, itK2_p, itK_p, coK_p, rcK1_p, rcK_p, crK_p, rrK_p, l_tup, l_lst, l_kl, l_fr, l_br, g_pv, g_fr, d_lst, d_fr, d_br, d_str, d_int, d_bl, d_non, d_tup, tr_bl, tr_int, tr_non, tr_str, n_non, n_int, n_str, n_tup, n_lst, n_bl, n_ref, x_tup, x_lst, x_kl, x_fr, x_br, a_v, a_t, gt_pv, gt_fr, as_v, as_tt, as_tl, as_n, as_c, o_rtp, o_rtf, o_rtb, o_nx, lpK_nx, lpK_ct, lpK_bk, lpK_rt, foK_e, forK_p, itm_tup, itm_lst, itm_kl, itm_fr, itm_br, itm_etup, itm_elst, itm_ekl, itm_efr, itm_ebr, itm_r1, itm_r2, at_nat, at_0, at_1, at_2, at_3, at_4, at_5, at_6, at_7, p_ii, p_ss, p_tt, p_ff, p_bf, p_lf, p_fl, p_ll, p_bl, p_sub, p_mulL, p_mulR, p_divP, p_modP, p_pow, c_lt, c_le, c_gt, c_ge, eqK1_v, eqK2_v, c_eq, c_ne, c_in, c_ni, inK_v, in_tup, in_lst, in_kl, in_fr, in_br, f_abs, f_int, f_lenS, f_lent, f_lenl, f_lenk, f_lenf, f_lenb, f_listk, f_listl, f_listt, f_listf, f_tupl, f_tupt, f_tupf, f_tupb, f_all, f_any, anyK_b, f_sort1, f_sort1f, mo_il, mo_ib, mo_ik, mo_if, mo_cl, mo_cb, mo_cf, ixK0_n, ixMK_v, m_il, m_ib, m_if, coMK_v, m_cl, m_cb, m_cf, apo_s, apoK_o, apoK_r, boK_l, ap_s, apK_o, apK_r, bxK_l, gu_c, gu_e, ok_non, ok_bl, ok_int, catK_s, catK_n, turK_p, tu_n, bo_n, bo_c, in_n, in_c, al_n, al_t, al_f, nu_n, refK_l, x_ref, setK1_m, setK_l, set_ref, ixn_20, ixn_21, ixn_31, ixn_30, ixn_32, sl_tup, sl_lst, sl_fr, sl_br, rv_lst, rv_fr, rv_br, asI_i, b_some, m_some, List.getElem?_cons_succ, List.getElem?_cons_zero, List.getElem?_nil, List.set_cons_succ, List.set_cons_zero, List.length_cons, List.length_nil, lim, Nat.reduceAdd, Nat.reduceLeDiff, Int.reduceLT, Nat.reduceLT, Nat.lt_add_left_iff_pos, E.isNil, wipeE, Nat.zero_lt_succ, if_true, if_false, Bool.true_bne, Bool.false_bne, bne_self_eq_false, Bool.not_true, Bool.not_false, Bool.not_not, Bool.bne_false, Bool.bne_true]
    exact e2
theorem says : Says G 60 20 63 := by
  intro ns hl
  obtain ⟨c0, c1, e1, hb⟩ := cup_ok 58 ns hl
  have e1 : callK G.ds 59 13 [.kl (ns.map PV.int)] [] = some (.fr (.l [.int c0, .int c1]), []) := e1
  have hc : Cup [.l [.int c0, .int c1]] := ⟨c0, c1, rfl, hb⟩
  obtain ⟨j, h2, e2, c2⟩ := turns_ok ((List.range 6).map fun (i : Nat) => PV.int i) .un (a := .kl (ns.map PV.int)) hc
  have ri : itemsOf .rng1 false (.pv (.int 6)) none = some ((List.range 6).map fun (i : Nat) => PV.int i) := rfl
  have wr := written_ok h2
  have kl := k_law (k := 59) (h := []) (a0 := .kl (ns.map PV.int))
  refine ⟨h2, ?_⟩
  show callK G.ds (59 + 1) 20 [.kl (ns.map PV.int)] [] = _
  rw [kl]
  simp only [b_law, e1, ri, e2, wr, List.nil_append, ↓s_seq, ↓s_skip, ↓s_pass, ↓s_brk, ↓s_cnt, ↓s_retN, ↓s_ret, ↓s_ex, ↓s_ite, ↓s_ass, ↓s_par, ↓s_sub, ↓s_app, ↓s_frz, ↓s_prm, ↓e_con, ↓e_glob, ↓e_var, ↓e_tup, ↓e_lst, ↓e_bin, ↓e_neg, ↓e_cmp, ↓e_chain, ↓e_isN, ↓e_not, ↓e_and, ↓e_or, ↓e_ife, ↓e_idx, ↓pt_nil, ↓e_slc, ↓e_rev, ↓e_call, ↓e_blt, ↓e_mth, ↓e_isin, ↓e_setlen, ↓cd_nil, ↓i_one, ↓t_t, ↓r_nil, ↓r_cons, ↓rr_nil, ↓rr_cons, ↓lp_n, ↓cd_con, ↓pt_con, ↓i_con, ↓cd_var, ↓pt_var, ↓i_var, ↓cd_glob, ↓pt_glob, ↓i_glob, ↓cd_tup, ↓pt_tup, ↓i_tup, ↓cd_lst, ↓pt_lst, ↓i_lst, ↓cd_bin, ↓pt_bin, ↓i_bin, ↓cd_neg, ↓pt_neg, ↓i_neg, ↓cd_cmp, ↓pt_cmp, ↓i_cmp, ↓cd_chain, ↓pt_chain, ↓i_chain, ↓cd_isN, ↓pt_isN, ↓i_isN, ↓cd_not, ↓pt_not, ↓i_not, ↓cd_and, ↓pt_and, ↓i_and, ↓cd_or, ↓pt_or, ↓i_or, ↓cd_ife, ↓pt_ife, ↓i_ife, ↓cd_idx, ↓pt_idx, ↓i_idx, ↓cd_slc, ↓pt_slc, ↓i_slc, ↓cd_rev, ↓pt_rev, ↓i_rev, ↓cd_call, ↓pt_call, ↓i_call, ↓cd_blt, ↓pt_blt, ↓i_blt, ↓cd_mth, ↓pt_mth, ↓i_mth, ↓cd_isin, ↓pt_isin, ↓i_isin, ↓cd_setlen, ↓pt_setlen, ↓i_setlen, ↓cd_lc, ↓pt_lc, ↓i_lc, s_seq, s_skip, s_pass, s_brk, s_cnt, s_retN, s_ret, s_ex, s_ite, s_ass, s_par, s_sub, s_app, s_frz, s_prm, e_con, e_glob, e_var, e_tup, e_lst, e_bin, e_neg, e_cmp, e_chain, e_isN, e_not, e_and, e_or, e_ife, e_idx, pt_nil, e_slc, e_rev, e_call, e_blt, e_mth, e_isin, e_setlen, cd_nil, i_one, t_t, r_nil, r_cons, rr_nil, rr_cons, lp_n, cd_con, pt_con, i_con, cd_var, pt_var, i_var, cd_glob, pt_glob, i_glob, cd_tup, pt_tup, i_tup, cd_lst, pt_lst, i_lst, cd_bin, pt_bin, i_bin, cd_neg, pt_neg, i_neg, cd_cmp, pt_cmp, i_cmp, cd_chain, pt_chain, i_chain, cd_isN, pt_isN, i_isN, cd_not, pt_not, i_not, cd_and, pt_and, i_and, cd_or, pt_or, i_or, cd_ife, pt_ife, i_ife, cd_idx, pt_idx, i_idx, cd_slc, pt_slc, i_slc, cd_rev, pt_rev, i_rev, cd_call, pt_call, i_call, cd_blt, pt_blt, i_blt, cd_mth, pt_mth, i_mth, cd_isin, pt_isin, i_isin, cd_setlen, pt_setlen, i_setlen, cd_lc, pt_lc, i_lc, ↓e_lc, ↓s_for, e_lc, s_for, nxt_nx, nxt_rt, nxt_bk, nxt_ct, rtK_p, exK_p, iteK_t, iteK_f, nxO_e, assK_p, parK_p, subK3_p, subK2_p, subK1_p, subK_p, nx2_p, appK1_p, appK_p, okK_t, forL_p, frzK_o, frzK_s, prmK_o, prmK_s, varK_s, varK_o, tupK_p, lstK_p, wiK_a, binK1_p, binK_p, negK_i, blK_b, cmpK1_p, cmpK_p, chainK_t, chainK_f, chK1_p, chK_p, isNK_p, nblK_b, notK_p, andK_t, andK_f, anK_p, orK_t, orK_f, oK_p, ifeK_t, ifeK_f, ifK_p, idxK1_p, idxK_p, siK_i, aiK_p, slcK2_p, slcK1_p, slcK_p, revK_p, callE_p, bltK_p, mthK1_p, mthK0_t, mthK_p, isinK_p, slnK1_p, slnK0_p, slnK_p, soK_v, giK_p, trK1_b, trK_p, elK_t, elK_f, lcK1_p, lcK_p, tuK_p, itK1_p, itK2_p, itK_p, coK_p, rcK1_p, rcK_p, crK_p, rrK_p, l_tup, l_lst, l_kl, l_fr, l_br, g_pv, g_fr, d_lst, d_fr, d_br, d_str, d_int, d_bl, d_non, d_tup, tr_bl, tr_int, tr_non, tr_str, n_non, n_int, n_str, n_tup, n_lst, n_bl, n_ref, x_tup, x_lst, x_kl, x_fr, x_br, a_v, a_t, gt_pv, gt_fr, as_v, as_tt, as_tl, as_n, as_c, o_rtp, o_rtf, o_rtb, o_nx, lpK_nx, lpK_ct, lpK_bk, lpK_rt, foK_e, forK_p, itm_tup, itm_lst, itm_kl, itm_fr, itm_br, itm_etup, itm_elst, itm_ekl, itm_efr, itm_ebr, itm_r1, itm_r2, at_nat, at_0, at_1, at_2, at_3, at_4, at_5, at_6, at_7, p_ii, p_ss, p_tt, p_ff, p_bf, p_lf, p_fl, p_ll, p_bl, p_sub, p_mulL, p_mulR, p_divP, p_modP, p_pow, c_lt, c_le, c_gt, c_ge, eqK1_v, eqK2_v, c_eq, c_ne, c_in, c_ni, inK_v, in_tup, in_lst, in_kl, in_fr, in_br, f_abs, f_int, f_lenS, f_lent, f_lenl, f_lenk, f_lenf, f_lenb, f_listk, f_listl, f_listt, f_listf, f_tupl, f_tupt, f_tupf, f_tupb, f_all, f_any, anyK_b, f_sort1, f_sort1f, mo_il, mo_ib, mo_ik, mo_if, mo_cl, mo_cb, mo_cf, ixK0_n, ixMK_v, m_il, m_ib, m_if, coMK_v, m_cl, m_cb, m_cf, apo_s, apoK_o, apoK_r, boK_l, ap_s, apK_o, apK_r, bxK_l, gu_c, gu_e, ok_non, ok_bl, ok_int, catK_s, catK_n, turK_p, tu_n, bo_n, bo_c, in_n, in_c, al_n, al_t, al_f, nu_n, refK_l, x_ref, setK1_m, setK_l, set_ref, ixn_20, ixn_21, ixn_31, ixn_30, ixn_32, sl_tup, sl_lst, sl_fr, sl_br, rv_lst, rv_fr, rv_br, asI_i, b_some, m_some, List.getElem?_cons_succ, List.getElem?_cons_zero, List.getElem?_nil, List.set_cons_succ, List.set_cons_zero, List.length_cons, List.length_nil, lim, Nat.reduceAdd, Nat.reduceLeDiff, Int.reduceLT, Nat.reduceLT, Nat.lt_add_left_iff_pos, E.isNil, wipeE, Nat.zero_lt_succ, if_true, if_false, Bool.true_bne, Bool.false_bne, bne_self_eq_false, Bool.not_true, Bool.not_false, Bool.not_not, Bool.bne_false, Bool.bne_true]
end K57

set_option maxRecDepth 100000
set_option maxHeartbeats 0
namespace K57
open PySem PySem.Spec PyProof.Rows L2 Ev
abbrev R : PySem.W.OpenRow := PySem.W.OpenLaw.row PySem.Challenge.rw_persisthall_k57_elder_names
def loose : List PySem.Str := ["named", "fields_in", "source_in", "is_wrong", "word_against", "is_bare", "field_objections", "type_objections", "objections", "source_of", "sources_between", "way_between", "root_way", "_law_cup", "_law_roll", "_law_some", "_law_rows", "_law_word", "_law_drawn_right", "_law_written_right", "PLAIN"]
abbrev hk : PySem.W.Hook := hookP 4 G fn
def ob (s : PySem.W.SharedT) : He.AlD := obsPG 4 G fn (HandSHeadRun.getT s)
theorem ob_eq (s : PySem.W.SharedT) : ob s = hk.obs s.abs := obsPG_eq (HandSHeadRun.getT_eq s)
theorem run (w : World) : HandSHeadRun.RunEq R (PySem.W.view R.prog [24]) hk ob 3000 loose w := by
  intro os
  kernel_rfl
end K57
namespace K57
open PySem PySem.W PySem.Calls PyProof.Rows
theorem fin (hs : Ev.Says G 60 20 63) : PySem.Challenge.rw_persisthall_k57_elder_names.Holds := by
  w_on; o_law
  refine HandSHeadRun.head_any (r := OpenLaw.row PySem.Challenge.rw_persisthall_k57_elder_names) (q := view (OpenLaw.row PySem.Challenge.rw_persisthall_k57_elder_names).prog [24]) (H := hk) (ob := ob) (M := 3000) (loose := loose)
    (d := HandSHeadRun.topDef (OpenLaw.row PySem.Challenge.rw_persisthall_k57_elder_names).prog 24) (kwd := []) ob_eq
    (by kernel_rfl) (fun s => by kernel_rfl) run (by kernel_rfl) (by kernel_rfl) (by kernel_rfl) (by rfl) (by first | assumption | decide +kernel) (by decide +kernel) ⟨rfl, rfl, rfl, rfl, rfl, by decide +kernel⟩ ?hw ?hc
  case hw => w_witness2
  case hc =>
    exact Ev.law_walk (l := PySem.Challenge.rw_persisthall_k57_elder_names) (n := 63) (k := 60) (i := 20) (j := 4) (dl := d_law) rfl rfl (by decide) (by kernel_rfl) ⟨rfl, by decide, by decide⟩ rfl (by kernel_rfl) rfl (by decide +kernel) hs
end K57

open PySem PySem.W PyProof.Rows
theorem PySem.Challenge.cw_persisthall_k57_elder_names_holds : PySem.Challenge.rw_persisthall_k57_elder_names.Holds := by
  exact K57.fin K57.says
