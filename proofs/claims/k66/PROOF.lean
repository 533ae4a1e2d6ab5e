import PyProof.Rows.All
import PyProof.P3Statements
import PyProof.EqLayable
import HandS.ForList
import HandS.ForExc
import HandS.Comp
import HandS.Wide
import HandS.IsInst
import HandS.TupAny
import HandS.TupMul
import HandS.Deep
import HandS.SortInts
import HandS.Gcd
import HandS.Iter
import HandS.Zip
import HandS.Rev
import HandS.Codes
import HandS.WideBits
import HandS.NoneIn
import HandS.Style
import HandS.WordsExc
import HandS.Ends
import PySem.Challenge.RW_cheesestead_k66_weights_one_by_one
set_option Elab.async false
set_option linter.all false
set_option maxRecDepth 100000
set_option exponentiation.threshold 20000
/-! PI: an evaluator of a part of Python over data, with a store of lists that change. -/
namespace PI
open PySem

abbrev W := PyData
/-- a value: data, or a place of the store -/
inductive U where
  | v (w : W)
  | ref (r : Nat)
inductive Lv where
  | live | lock | froz
  deriving DecidableEq
structure Cell where
  lv : Lv
  xs : List U
abbrev Store := List Cell
abbrev Env := List (Option U)
inductive R (α : Type) where
  | ok (a : α) (st : Store)
  | ex (c : Nat) (w : W) (st : Store)
  | bad
def R.bind {α β : Type} (r : R α) (f : α → Store → R β) : R β := match r with
  | .ok a st => f a st
  | .ex c w st => .ex c w st
  | .bad => .bad
inductive SR where
  | nx (ρ : Env) (st : Store)
  | rt (u : U) (st : Store)
  | bk (ρ : Env) (st : Store)
  | ct (ρ : Env) (st : Store)
  | ex (c : Nat) (w : W) (st : Store)
  | bad
def R.toS {α : Type} (r : R α) (f : α → Store → SR) : SR := match r with
  | .ok a st => f a st
  | .ex c w st => .ex c w st
  | .bad => .bad

/-! ### the forms -/
inductive Kd where
  | none | bool | int | str | tuple | list | bad
  deriving DecidableEq
inductive Bi where
  | len | abs | max2 | min2 | max1 | min1 | maxD | sum | all | any | int | str | tuple | list (m : Bool) | sorted (m : Bool)
  | isa (k : Kd) | isSeq | ord | gcd | lcm | divmod | distinct
  deriving DecidableEq
inductive Mt where
  | append | pop | reverse | extend | index | count
  deriving DecidableEq
mutual
inductive E where
  | var (i : Nat)
  | con (w : W)
  | glb (x : Str) (w : W)
  | op (o : Operator) (m : Bool) (a b : E)
  | neg (a : E)
  | cmp (o : CmpOp) (a b : E)
  | chain (o p : CmpOp) (a b c : E)
  | and (a b : E)
  | or (a b : E)
  | not (a : E)
  | andT (a b : E)
  | orT (a b : E)
  | notT (a : E)
  | ite (c a b : E)
  | call (p : Bool) (f : Nat) (es : Es)
  | bi (b : Bi) (es : Es)
  | mth (b : Mt) (o : E) (es : Es)
  | ix (a i : E)
  | sl (m : Bool) (a : E) (lo hi : Es)
  | tup (es : Es)
  | lst (m : Bool) (es : Es)
  | comp (m : Bool) (own : List Nat) (elt : E) (tg : Tg) (it : It) (cds : Es)
  | comp2 (m : Bool) (own own1 : List Nat) (elt : E) (tg : Tg) (it : It) (cds : Es) (tg1 : Tg) (it1 : It) (cds1 : Es)
inductive Es where
  | nil
  | cons (e : E) (es : Es)
inductive It where
  | seq (e : E)
  | range (es : Es)
  | enum (e : E)
  | zip (a b : E)
  | rev (e : E)
inductive Tg where
  | nm (i : Nat)
  | tp (ts : Tgs)
inductive Tgs where
  | nil
  | cons (t : Tg) (ts : Tgs)
end
mutual
inductive S where
  | expr (e : E)
  | asg (t : Tg) (e : E)
  | par (i j : Nat) (a b : E)
  | par3 (i j k : Nat) (a b c : E)
  | setIx (o i e : E)
  | aug (i : Nat) (o : Operator) (e : E)
  | augIx (o i : E) (p : Operator) (e : E)
  | ret (e : E)
  | ret0
  | iff (c : E) (a b : Ss)
  | whl (c : E) (b : Ss)
  | for (t : Tg) (it : It) (b : Ss)
  | raise (c : Nat) (e : E)
  | never
  | pass
  | brk
  | cont
inductive Ss where
  | nil
  | cons (s : S) (ss : Ss)
end
structure Fn where
  np : Nat
  n : Nat
  body : Ss

/-! ### data -/
def lim : Nat := 16777216
def cells (st : Store) (r : Nat) : Option (List U) := (st[r]?).map (·.xs)
/-- the data of a value, a place's list told as it stands -/
def snap : Nat → Store → U → Option W
  | _, _, .v w => some w
  | 0, _, .ref _ => none
  | n + 1, st, .ref r => match cells st r with
    | some xs => (xs.mapM (snap n st)).map .list
    | none => none
/-- the same of places behind the first ones alone -/
def snapF (base : Nat) : Nat → Store → U → Option W
  | _, _, .v w => some w
  | 0, _, .ref _ => none
  | n + 1, st, .ref r => if r < base then none else match cells st r with
    | some xs => (xs.mapM (snapF base n st)).map .list
    | none => none
/-- the items of a list or a tuple -/
def seqOf (st : Store) : U → Option (List U)
  | .v (.tuple l) => some (l.map .v)
  | .v (.list l) => some (l.map .v)
  | .ref r => cells st r
  | _ => none
def pures : List U → Option (List W)
  | [] => some []
  | .v w :: r => (pures r).map (w :: ·)
  | .ref _ :: _ => none
def intsU : List U → Option (List Int)
  | [] => some []
  | .v (.int i) :: r => (intsU r).map (i :: ·)
  | _ :: _ => none
def boolsU : List U → Option (List Bool)
  | [] => some []
  | .v (.bool i) :: r => (boolsU r).map (i :: ·)
  | _ :: _ => none
/-- a new list -/
def mkL (m : Bool) (xs : List U) (st : Store) : R U :=
  if xs.length ≤ lim then
    if m then .ok (.ref st.length) (st ++ [⟨.live, xs⟩]) else match pures xs with
      | some ws => .ok (.v (.list ws)) st
      | none => .bad
  else .bad
def mkT (ws : List W) (st : Store) : R U := if ws.length ≤ lim then .ok (.v (.tuple ws)) st else .bad
def truth (st : Store) : U → Option Bool
  | .v .none => some false
  | .v (.bool b) => some b
  | .v (.int i) => some (i != 0)
  | .v (.str s) => if s.length ≤ lim then some (s.length != 0) else none
  | .v (.list l) => some (!l.isEmpty)
  | .v (.tuple l) => some (!l.isEmpty)
  | .v _ => none
  | .ref r => (cells st r).map fun l => !l.isEmpty
mutual
/-- no list within -/
def noL : W → Bool
  | .list _ => false
  | .tuple l => noLs l
  | .dict _ => false
  | _ => true
def noLs : List W → Bool
  | [] => true
  | w :: r => noL w && noLs r
end
def froz (r : Nat) (st : Store) : Store := match st[r]? with
  | some c => st.set r ⟨.froz, c.xs⟩
  | none => st
/-- for a tuple: data, a place's list frozen -/
def pack : List U → Store → Option (List W × Store)
  | [], st => some ([], st)
  | .v w :: r, st => (pack r st).map fun p => (w :: p.1, p.2)
  | .ref a :: r, st => match (cells st a).bind pures with
    | some ws => (pack r (froz a st)).map fun p => (.list ws :: p.1, p.2)
    | none => none

/-! ### operators -/
def mulOk (i j : Int) : Bool := decide (i.natAbs < 2 ^ 64) || decide (j.natAbs < 2 ^ 64) || (decide (i.natAbs < 2 ^ 9000) && decide (j.natAbs < 2 ^ 9000))
def divOk (j : Int) : Bool := decide (0 < j) && decide (j.natAbs < 2 ^ 9000)
def powOk (i j : Int) : Bool := decide (0 ≤ j) && decide (j ≤ 1000000) && decide (i.natAbs < 2 ^ 64)
def opI (o : Operator) (i j : Int) : Option Int := match o with
  | .Add => some (i + j)
  | .Sub => some (i - j)
  | .Mult => if mulOk i j then some (i * j) else none
  | .FloorDiv => if divOk j then some (i / j) else none
  | .Mod => if 0 < j then some (i % j) else none
  | .Pow => if powOk i j then some (i ^ j.toNat) else none
  | .LShift => if powOk i j then some (i * 2 ^ j.toNat) else none
  | .RShift => if 0 ≤ j then some (i / 2 ^ j.toNat) else none
  | .BitAnd => some (Builtin.bitAnd i j)
  | .BitOr => some (Builtin.bitOr i j)
  | .BitXor => some (Builtin.bitXor i j)
  | _ => none
def isT : U → Bool
  | .v (.tuple _) => true
  | _ => false
def isL : U → Bool
  | .v (.list _) => true
  | .ref _ => true
  | _ => false
def rep (k : Int) (xs : List U) : List U := (List.replicate k.toNat xs).flatten
def opR (o : Operator) (m : Bool) (x y : U) (st : Store) : R U := match x, y with
  | .v (.int i), .v (.int j) => match opI o i j with
    | some k => .ok (.v (.int k)) st
    | none => .bad
  | .v (.str s), .v (.str t) => match o with
    | .Add => if s.length + t.length ≤ lim then .ok (.v (.str (s ++ t))) st else .bad
    | _ => .bad
  | x, .v (.int k) => match o with
    | .Mult => match seqOf st x with
      | some xs => if decide (-(2 ^ 63) ≤ k) && decide (k < 2 ^ 63) && decide (xs.length * k.toNat ≤ lim) then
          if isL x then mkL m (rep k xs) st
          else match pures xs with
            | some ws => if decide (xs ≠ []) && decide (2 ≤ k) && decide (k ≤ 1000) && decide (xs.length ≤ 1000) then .ok (.v (.tuple (List.replicate k.toNat ws).flatten)) st else .bad
            | none => .bad
        else .bad
      | none => .bad
    | _ => .bad
  | x, y => match o with
    | .Add => match seqOf st x, seqOf st y with
      | some xs, some ys => if xs.length + ys.length ≤ lim then
          if isL x && isL y then mkL m (xs ++ ys) st
          else if isT x && isT y then match pures (xs ++ ys) with
            | some ws => .ok (.v (.tuple ws)) st
            | none => .bad
          else .bad
        else .bad
      | _, _ => .bad
    | _ => .bad

/-- x op= y of ints -/
def augU (o : Operator) (x y : U) : Option U := match x, y with
  | .v (.int i), .v (.int j) => match o with
    | .Add => some (.v (.int (i + j)))
    | .Sub => some (.v (.int (i - j)))
    | .Mult => if decide (i.natAbs < 2 ^ 64) || decide (j.natAbs < 2 ^ 64) then some (.v (.int (i * j))) else none
    | _ => none
  | _, _ => none
/-! ### comparisons -/
mutual
def beqW : W → W → Bool
  | .none, .none => true
  | .bool a, .bool b => a == b
  | .int a, .int b => a == b
  | .str a, .str b => decide (a = b)
  | .list a, .list b => beqWs a b
  | .tuple a, .tuple b => beqWs a b
  | _, _ => false
def beqWs : List W → List W → Bool
  | [], [] => true
  | a :: r, b :: s => beqW a b && beqWs r s
  | _, _ => false
end
def flat : W → Bool
  | .none => true
  | .bool _ => true
  | .int _ => true
  | .str _ => true
  | _ => false
def eqW (x y : W) : Option Bool := match x, y with
  | .int i, .int j => some (i == j)
  | .str s, .str t => some (s == t)
  | x, y => if SeqAt.shaped x && SeqAt.shaped y then some (PyData.eqv x y) else none
def eqU (st : Store) (x y : U) : Option Bool := match snap 4 st x, snap 4 st y with
  | some d, some e => eqW d e
  | _, _ => none
def wints : List W → Option (List Int)
  | [] => some []
  | .int i :: r => (wints r).map (i :: ·)
  | _ :: _ => none
def ltU (x y : U) : Option Bool := match x, y with
  | .v (.int i), .v (.int j) => some (decide (i < j))
  | .v (.str s), .v (.str t) => some (decide (s.cps.toList < t.cps.toList))
  | .v (.tuple l), .v (.tuple k) => match wints l, wints k with
    | some a, some b => some (HT.lexLt a b)
    | _, _ => none
  | _, _ => none
def leU (x y : U) : Option Bool := match x, y with
  | .v (.int i), .v (.int j) => some (decide (i ≤ j))
  | .v (.str s), .v (.str t) => some (!decide (t.cps.toList < s.cps.toList))
  | _, _ => none
def inU (st : Store) (x y : U) : Option Bool := match snap 4 st x, seqOf st y with
  | some d, some ys => match pures ys with
    | some ws => if (flat d && ws.all flat) || (isL y && SeqAt.shaped d && SeqAt.shaped (.list ws)) then some (ws.any fun z => PyData.eqv z d) else none
    | none => none
  | _, _ => none
def isNone : U → Bool
  | .v .none => true
  | _ => false
def cmpU (st : Store) (o : CmpOp) (x y : U) : Option Bool := match o with
  | .Eq => eqU st x y
  | .NotEq => (eqU st x y).map (!·)
  | .Lt => ltU x y
  | .LtE => leU x y
  | .Gt => match x, y with
    | .v (.int i), .v (.int j) => some (decide (j < i))
    | _, _ => none
  | .GtE => match x, y with
    | .v (.int i), .v (.int j) => some (decide (j ≤ i))
    | _, _ => none
  | .Is => match y with
    | .v .none => some (isNone x)
    | _ => none
  | .IsNot => match y with
    | .v .none => some (!isNone x)
    | _ => none
  | .In => inU st x y
  | .NotIn => (inU st x y).map (!·)
def okT (st : Store) : Option Bool → R Bool
  | some b => .ok b st
  | none => .bad
def okB (st : Store) : Option Bool → R U
  | some b => .ok (.v (.bool b)) st
  | none => .bad

/-! ### items, slices -/
def ixU (st : Store) (x i : U) : Option U := match i with
  | .v (.int i) => match x with
    | .v (.str s) => if s.length ≤ lim then (L2.atI s.cps.toList i).map fun c => .v (.str ⟨#[c]⟩) else none
    | x => match seqOf st x with
      | some xs => L2.atI xs i
      | none => none
  | _ => none
def okU (st : Store) : Option U → R U
  | some u => .ok u st
  | none => .bad
def cutU (xs : List U) (lo hi : Option Int) : List U := (xs.drop (HT.sIx xs.length 0 lo)).take (HT.sIx xs.length xs.length hi - HT.sIx xs.length 0 lo)
def bnd : List U → Option (Option Int)
  | [] => some none
  | [.v (.int i)] => some (some i)
  | _ => none
/-- the script stands as a mark of its own: it can be cut, no more -/
def scr (ws : List W) : W := .dict [(.list ws, .none)]
def seqS (st : Store) (x : U) : Option (List U) := match x with
  | .v (.dict [(.list ws, .none)]) => some (ws.map .v)
  | x => seqOf st x
def okO (st : Store) : Option (Option Int) → R (Option Int)
  | some o => .ok o st
  | none => .bad
def slU (m : Bool) (x : U) (lo hi : Option Int) (st : Store) : R U := match seqS st x with
  | some xs => if isT x then match pures (cutU xs lo hi) with
      | some ws => .ok (.v (.tuple ws)) st
      | none => .bad
    else mkL m (cutU xs lo hi) st
  | none => .bad

/-! ### built-in functions -/
def maxI : List Int → Option Int
  | [] => none
  | a :: r => some (r.foldl (fun m x => if x > m then x else m) a)
def minI : List Int → Option Int
  | [] => none
  | a :: r => some (r.foldl (fun m x => if x < m then x else m) a)
/-- stable insertion -/
def ins (x : Int) : List Int → List Int
  | [] => [x]
  | y :: r => if x ≤ y then x :: y :: r else y :: ins x r
def isort : List Int → List Int
  | [] => []
  | x :: r => ins x (isort r)
def okI (st : Store) : Option Int → R U
  | some i => .ok (.v (.int i)) st
  | none => .bad
def seqI (st : Store) (x : U) : Option (List Int) := if isL x then (seqOf st x).bind intsU else none
def seqB (st : Store) (x : U) : Option (List Bool) := if isL x then (seqOf st x).bind boolsU else none
def nodupI : List Int → Bool
  | [] => true
  | x :: r => !r.contains x && nodupI r
def kind : U → Kd
  | .v .none => .none
  | .v (.bool _) => .bool
  | .v (.int _) => .int
  | .v (.str _) => .str
  | .v (.tuple _) => .tuple
  | .v (.list _) => .list
  | .v (.dict _) => .bad
  | .ref _ => .list
def isaK (a b : Kd) : Bool := decide (a = b) || (decide (a = .bool) && decide (b = .int))
def biR (b : Bi) (us : List U) (st : Store) : R U := match b, us with
  | .len, [.v (.str s)] => if s.length ≤ lim then .ok (.v (.int s.length)) st else .bad
  | .len, [x] => match seqOf st x with
    | some xs => .ok (.v (.int xs.length)) st
    | none => .bad
  | .abs, [.v (.int i)] => .ok (.v (.int (if i < 0 then -i else i))) st
  | .max2, [.v (.int i), .v (.int j)] => .ok (.v (.int (if j > i then j else i))) st
  | .min2, [.v (.int i), .v (.int j)] => .ok (.v (.int (if j < i then j else i))) st
  | .max1, [x] => okI st ((seqI st x).bind maxI)
  | .min1, [x] => okI st ((seqI st x).bind minI)
  | .maxD, [x, .v (.int d)] => okI st ((seqI st x).map fun l => (maxI l).getD d)
  | .sum, [x] => okI st ((seqI st x).map List.sum)
  | .all, [x] => okB st ((seqB st x).map fun l => l.all id)
  | .any, [x] => okB st ((seqB st x).map fun l => l.any id)
  | .int, [.v (.int i)] => .ok (.v (.int i)) st
  | .int, [.v (.bool k)] => .ok (.v (.int (if k then 1 else 0))) st
  | .str, [.v (.int i)] => if i.natAbs.log2 < 1920 then .ok (.v (.str (toString i))) st else .bad
  | .tuple, [x] => match (seqOf st x).bind pures with
    | some ws => .ok (.v (.tuple ws)) st
    | none => .bad
  | .list m, [x] => match seqOf st x with
    | some xs => mkL m xs st
    | none => .bad
  | .sorted m, [x] => match seqI st x with
    | some l => mkL m ((isort l).map fun i => .v (.int i)) st
    | none => .bad
  | .isa k, [x] => if kind x = .bad then .bad else .ok (.v (.bool (isaK (kind x) k))) st
  | .isSeq, [x] => if kind x = .bad then .bad else .ok (.v (.bool (isaK (kind x) .list || isaK (kind x) .tuple))) st
  | .ord, [.v (.str s)] => if s.length = 1 then .ok (.v (.int (s.cps.getD 0 0 : Nat))) st else .bad
  | .gcd, [.v (.int i), .v (.int j)] => .ok (.v (.int (Int.gcd i j))) st
  | .divmod, [.v (.int i), .v (.int j)] => if divOk j then .ok (.v (.tuple [.int (i / j), .int (i % j)])) st else .bad
  | .distinct, [x] => okB st ((seqI st x).map nodupI)
  | _, _ => .bad
/-- a list of the store is changed: not one of a caller's by what has places in it -/
def isV : U → Bool
  | .v _ => true
  | .ref _ => false
def setC (base r : Nat) (xs : List U) (y : U) (st : Store) : Option Store := match st[r]? with
  | some c => if decide (c.lv = .live) && (decide (base ≤ r) || isV y) && decide (xs.length ≤ lim) then some (st.set r ⟨.live, xs⟩) else none
  | none => none
def okN : Option Store → R U
  | some st => .ok (.v .none) st
  | none => .bad
def mtR (base : Nat) (b : Mt) (x : U) (us : List U) (st : Store) : R U := match b, x, us with
  | .append, .ref r, [y] => match cells st r with
    | some xs => okN (setC base r (xs ++ [y]) y st)
    | none => .bad
  | .pop, .ref r, [] => match cells st r with
    | some xs => match xs.getLast? with
      | some y => match setC base r xs.dropLast (.v .none) st with
        | some st' => .ok y st'
        | none => .bad
      | none => .bad
    | none => .bad
  | .reverse, .ref r, [] => match cells st r with
    | some xs => okN (setC base r xs.reverse (.v .none) st)
    | none => .bad
  | .extend, .ref r, [y] => match cells st r, seqOf st y with
    | some xs, some ys => if (pures ys).isSome && isL y then okN (setC base r (xs ++ ys) (.v .none) st) else .bad
    | _, _ => .bad
  | _, _, _ => .bad
def setU (base : Nat) (o i y : U) (st : Store) : Option Store := match o, i with
  | .ref r, .v (.int k) => match cells st r with
    | some xs => match L2.ixN xs.length k with
      | some j => setC base r (xs.set j y) y st
      | none => none
    | none => none
  | _, _ => none

/-! ### names, loops -/
mutual
def asgT : Tg → U → Env → Store → Option Env
  | .nm i, u, ρ, _ => if i < ρ.length then some (ρ.set i (some u)) else none
  | .tp ts, u, ρ, st => match seqOf st u with
    | some us => asgTs ts us ρ st
    | none => none
def asgTs : Tgs → List U → Env → Store → Option Env
  | .nil, [], ρ, _ => some ρ
  | .cons t ts, u :: us, ρ, st => match asgT t u ρ st with
    | some ρ' => asgTs ts us ρ' st
    | none => none
  | _, _, _, _ => none
end
def wipe (ρ : Env) : List Nat → Env
  | [] => ρ
  | v :: vs => (wipe ρ vs).set v none
def lockS (u : U) (st : Store) : Store × Option Nat := match u with
  | .ref r => match st[r]? with
    | some c => if c.lv = .live then (st.set r ⟨.lock, c.xs⟩, some r) else (st, none)
    | none => (st, none)
  | _ => (st, none)
def unlk (lk : List Nat) (st : Store) : Store := match lk with
  | [] => st
  | r :: lk => match (unlk lk st)[r]? with
    | some c => if c.lv = .lock then (unlk lk st).set r ⟨.live, c.xs⟩ else unlk lk st
    | none => unlk lk st
/-- what is walked: the items, the places that are locked meanwhile -/
structure Items where
  xs : List U
  lk : List Nat
def SR.mapS (r : SR) (f : Store → Store) : SR := match r with
  | .nx ρ st => .nx ρ (f st)
  | .rt u st => .rt u (f st)
  | .bk ρ st => .bk ρ (f st)
  | .ct ρ st => .ct ρ (f st)
  | .ex c w st => .ex c w (f st)
  | .bad => .bad
def R.mapS {α : Type} (r : R α) (f : Store → Store) : R α := match r with
  | .ok a st => .ok a (f st)
  | .ex c w st => .ex c w (f st)
  | .bad => .bad
/-- no exception leaves -/
def R.noX {α : Type} (r : R α) : R α := match r with
  | .ex _ _ _ => .bad
  | r => r
def forL (step : U → Env → Store → SR) : List U → Env → Store → SR
  | [], ρ, st => .nx ρ st
  | x :: xs, ρ, st => match step x ρ st with
    | .nx ρ' st' => forL step xs ρ' st'
    | .ct ρ' st' => forL step xs ρ' st'
    | .bk ρ' st' => .nx ρ' st'
    | r => r
def whlN (test : Env → Store → R Bool) (body : Env → Store → SR) : Nat → Env → Store → SR
  | 0, _, _ => .bad
  | n + 1, ρ, st => (test ρ st).toS fun b st => if b then match body ρ st with
      | .nx ρ' st' => whlN test body n ρ' st'
      | .ct ρ' st' => whlN test body n ρ' st'
      | .bk ρ' st' => .nx ρ' st'
      | r => r
    else .nx ρ st
def compL (step : U → Store → R (List U)) : List U → Store → R (List U)
  | [], st => .ok [] st
  | x :: xs, st => (step x st).bind fun a st => (compL step xs st).bind fun r st => .ok (a ++ r) st
def rangeL (i : Int) (c : Int) : Nat → List U
  | 0 => []
  | n + 1 => .v (.int i) :: rangeL (i + c) c n
def rangeN (i j c : Int) : Nat := (Builtin.Range.rangeSize i j c).toNat
def rngOk (i : Int) : Bool := decide (-(2 ^ 62) ≤ i) && decide (i < 2 ^ 62)
def rangeU : List U → Option (List U)
  | [.v (.int j)] => if rngOk j && decide (j ≤ lim) then some (rangeL 0 1 j.toNat) else none
  | [.v (.int i), .v (.int j)] => if rngOk i && rngOk j && decide (j - i ≤ lim) then some (rangeL i 1 (j - i).toNat) else none
  | [.v (.int i), .v (.int j), .v (.int c)] => if decide (c ≠ 0) && decide (c.natAbs < 1073741824) && Builtin.Range.small i j c && decide (rangeN i j c ≤ lim) then some (rangeL i c (rangeN i j c)) else none
  | _ => none
def enumL : Int → List W → List U
  | _, [] => []
  | i, w :: r => .v (.tuple [.int i, w]) :: enumL (i + 1) r
def zipL : List W → List W → List U
  | a :: r, b :: s => .v (.tuple [a, b]) :: zipL r s
  | _, _ => []
def walkU (st : Store) (u : U) : Option (List U) := match u with
  | .v (.str s) => if s.length ≤ lim then some (s.cps.toList.map fun c => .v (.str ⟨#[c]⟩)) else none
  | u => seqOf st u

abbrev Call := Nat → List U → Store → R U
/-- a call by data: the places' lists are told, and frozen where a list comes back -/
def frozA : List U → Store → Option Store
  | [], st => some st
  | .v _ :: r, st => frozA r st
  | .ref a :: r, st => match (cells st a).bind pures with
    | some _ => frozA r (froz a st)
    | none => none
def pcall (call : Call) (f : Nat) (us : List U) (st : Store) : R U := match us.mapM (snap 4 st) with
  | some ws => match call f (ws.map .v) [] with
    | .ok (.v w) [] => if us.all isV || noL w then .ok (.v w) st else match frozA us st with
      | some st' => .ok (.v w) st'
      | none => .bad
    | .ex c w [] => .ex c w st
    | _ => .bad
  | none => .bad

mutual
def evalE (C : Call) (base : Nat) : E → Env → Store → R U
  | .var i, ρ, st => match ρ[i]? with
    | some (some u) => .ok u st
    | _ => .bad
  | .con w, _, st => .ok (.v w) st
  | .glb _ w, _, st => .ok (.v w) st
  | .op o m a b, ρ, st => (evalE C base a ρ st).bind fun x st => (evalE C base b ρ st).bind fun y st => opR o m x y st
  | .neg a, ρ, st => (evalE C base a ρ st).bind fun x st => match x with
    | .v (.int i) => .ok (.v (.int (-i))) st
    | _ => .bad
  | .cmp o a b, ρ, st => (evalE C base a ρ st).bind fun x st => (evalE C base b ρ st).bind fun y st => okB st (cmpU st o x y)
  | .chain o p a b c, ρ, st => (evalE C base a ρ st).bind fun x st => (evalE C base b ρ st).bind fun y st => match cmpU st o x y with
    | some true => (evalE C base c ρ st).bind fun z st => okB st (cmpU st p y z)
    | some false => .ok (.v (.bool false)) st
    | none => .bad
  | .and a b, ρ, st => (evalE C base a ρ st).bind fun x st => match x with
    | .v (.bool true) => evalE C base b ρ st
    | .v (.bool false) => .ok (.v (.bool false)) st
    | _ => .bad
  | .or a b, ρ, st => (evalE C base a ρ st).bind fun x st => match x with
    | .v (.bool true) => .ok (.v (.bool true)) st
    | .v (.bool false) => evalE C base b ρ st
    | _ => .bad
  | .not a, ρ, st => (evalE C base a ρ st).bind fun x st => match x with
    | .v (.bool k) => .ok (.v (.bool (!k))) st
    | _ => .bad
  | .andT a b, ρ, st => ((evalE C base a ρ st).bind fun x st => okT st (truth st x)).bind fun k st => if k then ((evalE C base b ρ st).bind fun x st => okT st (truth st x)).bind fun k st => .ok (.v (.bool k)) st else .ok (.v (.bool false)) st
  | .orT a b, ρ, st => ((evalE C base a ρ st).bind fun x st => okT st (truth st x)).bind fun k st => if k then .ok (.v (.bool true)) st else ((evalE C base b ρ st).bind fun x st => okT st (truth st x)).bind fun k st => .ok (.v (.bool k)) st
  | .notT a, ρ, st => ((evalE C base a ρ st).bind fun x st => okT st (truth st x)).bind fun k st => .ok (.v (.bool (!k))) st
  | .ite c a b, ρ, st => ((evalE C base c ρ st).bind fun x st => okT st (truth st x)).bind fun k st => if k then evalE C base a ρ st else evalE C base b ρ st
  | .call p f es, ρ, st => (evalEs C base es ρ st).bind fun us st => if p then pcall C f us st else C f us st
  | .bi b es, ρ, st => (evalEs C base es ρ st).bind fun us st => biR b us st
  | .mth b o es, ρ, st => (evalE C base o ρ st).bind fun x st => if isL x then (evalEs C base es ρ st).bind fun us st => mtR base b x us st else .bad
  | .ix a i, ρ, st => (evalE C base a ρ st).bind fun x st => (evalE C base i ρ st).bind fun y st => okU st (ixU st x y)
  | .sl m a lo hi, ρ, st => (evalE C base a ρ st).bind fun x st => ((evalEs C base lo ρ st).bind fun l st => okO st (bnd l)).bind fun l st => ((evalEs C base hi ρ st).bind fun h st => okO st (bnd h)).bind fun h st => slU m x l h st
  | .tup es, ρ, st => (evalEs C base es ρ st).bind fun us st => match pack us st with
    | some (ws, st) => mkT ws st
    | none => .bad
  | .lst m es, ρ, st => (evalEs C base es ρ st).bind fun us st => mkL m us st
  | .comp m own elt tg it cds, ρ, st => (evalI C base it ρ st).bind fun its st =>
      ((compL (fun x st => match asgT tg x (wipe ρ own) st with
        | some ρ' => (condL C base cds ρ' st).bind fun b st => if b then (evalE C base elt ρ' st).bind fun u st => .ok [u] st else .ok [] st
        | none => .bad) its.xs st).noX.mapS (unlk its.lk)).bind fun us st => mkL m us st
  | .comp2 m own own1 elt tg it cds tg1 it1 cds1, ρ, st => (evalI C base it ρ st).bind fun its st =>
      ((compL (fun x st => match asgT tg x (wipe ρ own) st with
        | some ρ' => (condL C base cds ρ' st).bind fun b st => if b then
            (evalI C base it1 ρ' st).bind fun its1 st =>
              ((compL (fun x st => match asgT tg1 x (wipe ρ' own1) st with
                | some ρ2 => (condL C base cds1 ρ2 st).bind fun b st => if b then (evalE C base elt ρ2 st).bind fun u st => .ok [u] st else .ok [] st
                | none => .bad) its1.xs st).mapS (unlk its1.lk))
          else .ok [] st
        | none => .bad) its.xs st).noX.mapS (unlk its.lk)).bind fun us st => mkL m us st
def evalEs (C : Call) (base : Nat) : Es → Env → Store → R (List U)
  | .nil, _, st => .ok [] st
  | .cons e es, ρ, st => (evalE C base e ρ st).bind fun u st => (evalEs C base es ρ st).bind fun us st => .ok (u :: us) st
def condL (C : Call) (base : Nat) : Es → Env → Store → R Bool
  | .nil, _, st => .ok true st
  | .cons e es, ρ, st => ((evalE C base e ρ st).bind fun x st => okT st (truth st x)).bind fun k st => if k then condL C base es ρ st else .ok false st
def evalI (C : Call) (base : Nat) : It → Env → Store → R Items
  | .seq e, ρ, st => (evalE C base e ρ st).bind fun u st => match walkU st u with
    | some xs => .ok ⟨xs, (lockS u st).2.toList⟩ (lockS u st).1
    | none => .bad
  | .range es, ρ, st => (evalEs C base es ρ st).bind fun us st => match rangeU us with
    | some xs => .ok ⟨xs, []⟩ st
    | none => .bad
  | .enum e, ρ, st => (evalE C base e ρ st).bind fun u st => match (seqOf st u).bind pures with
    | some ws => if isL u then .ok ⟨enumL 0 ws, (lockS u st).2.toList⟩ (lockS u st).1 else .bad
    | none => .bad
  | .zip a b, ρ, st => (evalE C base a ρ st).bind fun u st => (evalE C base b ρ st).bind fun y st => match (seqOf st u).bind pures, (seqOf st y).bind pures with
    | some ws, some ks => if (isL u && isL y) || (isT u && isT y) then .ok ⟨zipL ws ks, (lockS u st).2.toList ++ (lockS y (lockS u st).1).2.toList⟩ (lockS y (lockS u st).1).1 else .bad
    | _, _ => .bad
  | .rev e, ρ, st => (evalE C base e ρ st).bind fun u st => match seqOf st u with
    | some xs => .ok ⟨xs.reverse, (lockS u st).2.toList⟩ (lockS u st).1
    | none => .bad
end
def turns : Nat := 1000000
mutual
def execS (C : Call) (base : Nat) : S → Env → Store → SR
  | .expr e, ρ, st => (evalE C base e ρ st).toS fun _ st => .nx ρ st
  | .asg t e, ρ, st => (evalE C base e ρ st).toS fun u st => match asgT t u ρ st with
    | some ρ' => .nx ρ' st
    | none => .bad
  | .par i j a b, ρ, st => (evalE C base a ρ st).toS fun x st => (evalE C base b ρ st).toS fun y st => .nx ((ρ.set i (some x)).set j (some y)) st
  | .par3 i j k a b c, ρ, st => (evalE C base a ρ st).toS fun x st => (evalE C base b ρ st).toS fun y st => (evalE C base c ρ st).toS fun z st => .nx (((ρ.set i (some x)).set j (some y)).set k (some z)) st
  | .setIx o i e, ρ, st => (evalE C base e ρ st).toS fun y st => (evalE C base o ρ st).toS fun x st => (evalE C base i ρ st).toS fun k st => match setU base x k y st with
    | some st => .nx ρ st
    | none => .bad
  | .aug i o e, ρ, st => match ρ[i]? with
    | some (some x) => (evalE C base e ρ st).toS fun y st => match augU o x y with
      | some z => .nx (ρ.set i (some z)) st
      | none => .bad
    | _ => .bad
  | .augIx o i p e, ρ, st => (evalE C base o ρ st).toS fun x st => (evalE C base i ρ st).toS fun k st => match (if isL x then ixU st x k else none) with
    | some old => (evalE C base e ρ st).toS fun y st => match augU p old y with
      | some z => match setU base x k z st with
        | some st => .nx ρ st
        | none => .bad
      | none => .bad
    | none => .bad
  | .ret e, ρ, st => (evalE C base e ρ st).toS fun u st => .rt u st
  | .ret0, _, st => .rt (.v .none) st
  | .iff c a b, ρ, st => ((evalE C base c ρ st).bind fun x st => okT st (truth st x)).toS fun k st => if k then execSs C base a ρ st else execSs C base b ρ st
  | .whl c b, ρ, st => whlN (fun ρ st => (evalE C base c ρ st).bind fun x st => okT st (truth st x)) (fun ρ st => execSs C base b ρ st) turns ρ st
  | .for t it b, ρ, st => (evalI C base it ρ st).toS fun its st => (forL (fun x ρ st => match asgT t x ρ st with
      | some ρ' => execSs C base b ρ' st
      | none => .bad) its.xs ρ st).mapS (unlk its.lk)
  | .raise c e, ρ, st => (evalE C base e ρ st).toS fun u st => match u with
    | .v w => .ex c w st
    | _ => .bad
  | .never, _, _ => .bad
  | .pass, ρ, st => .nx ρ st
  | .brk, ρ, st => .bk ρ st
  | .cont, ρ, st => .ct ρ st
def execSs (C : Call) (base : Nat) : Ss → Env → Store → SR
  | .nil, ρ, st => .nx ρ st
  | .cons s ss, ρ, st => match execS C base s ρ st with
    | .nx ρ' st' => execSs C base ss ρ' st'
    | r => r
end
/-- the end of a def: what it made goes -/
def fin (base : Nat) : SR → R U
  | .nx _ st => .ok (.v .none) (st.take base)
  | .rt u st => match u with
    | .v w => .ok (.v w) (st.take base)
    | .ref r => if r < base then .ok (.ref r) (st.take base) else match snapF base 4 st (.ref r) with
      | some w => .ok (.v w) (st.take base)
      | none => .bad
  | .ex c w st => .ex c w (st.take base)
  | _ => .bad
def callD (P : List Fn) : Nat → Call
  | 0, _, _, _ => .bad
  | d + 1, f, us, st => match P[f]? with
    | some F => if us.length = F.np then fin st.length (execSs (callD P d) st.length F.body (us.map some ++ List.replicate (F.n - F.np) none) st) else .bad
    | none => .bad
end PI

/-! what the evaluator's values and store are over the abstract heap -/
namespace PI
open PySem PySem.Spec PyProof.Rows L2

section
variable (K : PySem.W.Frag) (O : Addr → Prop) (H : Hp)
mutual
inductive VR : W → V → Prop
  | non : VR .none .non
  | bl (b : Bool) : VR (.bool b) (.bl b)
  | int (i : Int) : VR (.int i) (.int i)
  | str (x : Str) : VR (.str x) (.str x)
  | tup {a : Addr} {ws : List W} {xs : List V} : SqT K H a xs → VRs ws xs → VR (.tuple ws) (.ref a)
  | lst {a : Addr} {ws : List W} {xs : List V} : H a = some (.lst xs) → ¬ O a → VRs ws xs → VR (.list ws) (.ref a)
  | scr {a : Addr} {ws : List W} {xs : List V} : Rd H a (.lst xs) → ¬ O a → VRs ws xs → VR (.dict [(.list ws, .none)]) (.ref a)
  | scrK {a : Addr} {ws : List W} {xs : List V} : (∀ H, SqL K H a xs) → VRs ws xs → VR (.dict [(.list ws, .none)]) (.ref a)
inductive VRs : List W → List V → Prop
  | nil : VRs [] []
  | cons {w : W} {v : V} {ws : List W} {vs : List V} : VR w v → VRs ws vs → VRs (w :: ws) (v :: vs)
end
inductive UR (μ : List Addr) : U → V → Prop
  | v {w : W} {v : V} : VR K O H w v → UR μ (.v w) v
  | ref {r : Nat} {a : Addr} : μ[r]? = some a → UR μ (.ref r) (.ref a)
abbrev URs (μ : List Addr) : List U → List V → Prop := Paired (UR K O H μ)
end

def Own (B : Addr → Prop) (μ : List Addr) (st : Store) (a : Addr) : Prop := B a ∨ ∃ (r : Nat) (c : Cell), st[r]? = some c ∧ c.lv ≠ .froz ∧ μ[r]? = some a
def Live (μ : List Addr) (st : Store) (a : Addr) : Prop := ∃ (r : Nat) (c : Cell), st[r]? = some c ∧ c.lv = .live ∧ μ[r]? = some a
theorem Live.own {B : Addr → Prop} {μ : List Addr} {st : Store} {a : Addr} (l : Live μ st a) : Own B μ st a := by
  obtain ⟨r, c, h1, h2, h3⟩ := l
  exact .inr ⟨r, c, h1, by rw [h2]; exact fun z => (nomatch z), h3⟩

/-- the store over the heap: the place r at μ[r]; B: places of others, never touched; base: how many places the callers have -/
structure SRel (K : PySem.W.Frag) (B : Addr → Prop) (base : Nat) (μ : List Addr) (st : Store) (H : Hp) : Prop where
  len : μ.length = st.length
  nd : μ.Nodup
  cell : ∀ (r : Nat) (c : Cell), st[r]? = some c → ∃ a xs, μ[r]? = some a ∧ H a = some (.lst xs) ∧ URs K (Own B μ st) H μ c.xs xs
  out : ∀ a, B a → (∃ o, H a = some o) ∧ a ∉ μ
  bl : base ≤ st.length
  bok : ∀ (r : Nat) (c : Cell), st[r]? = some c → r < base → ∀ k, U.ref k ∈ c.xs → k < base
/-- from one state to a later one -/
structure Stp (B : Addr → Prop) (base : Nat) (μ : List Addr) (st : Store) (H : Hp) (μ' : List Addr) (st' : Store) (H' : Hp) : Prop where
  ext : ∃ t, μ' = μ ++ t
  keep : ∀ a o, H a = some o → (∀ ps, o ≠ .tbl ps) → ¬ Live μ st a → H' a = some o
  live : ∀ a o, H a = some o → ¬ Live μ st a → ¬ Live μ' st' a
  own : ∀ a o, H a = some o → ¬ Own B μ st a → ¬ Own B μ' st' a
  there : ∀ a o, H a = some o → ∃ o', H' a = some o'
  refs : ∀ (r : Nat) (c' : Cell), r < base → st'[r]? = some c' → ∃ c : Cell, st[r]? = some c ∧ ∀ k, U.ref k ∈ c'.xs → U.ref k ∈ c.xs

theorem Stp.refl {B : Addr → Prop} {base : Nat} {μ : List Addr} {st : Store} {H : Hp} : Stp B base μ st H μ st H :=
  ⟨⟨[], by simp⟩, fun _ _ h _ _ => h, fun _ _ _ h => h, fun _ _ _ h => h, fun _ o h => ⟨o, h⟩, fun _ c' _ h => ⟨c', h, fun _ z => z⟩⟩
theorem Stp.trans {B : Addr → Prop} {base : Nat} {μ μ1 μ2 : List Addr} {st st1 st2 : Store} {H H1 H2 : Hp} (a : Stp B base μ st H μ1 st1 H1) (b : Stp B base μ1 st1 H1 μ2 st2 H2) : Stp B base μ st H μ2 st2 H2 := by
  refine ⟨?_, fun x o h n l => b.keep x o (a.keep x o h n l) n (a.live x o h l), fun x o h l => ?_, fun x o h l => ?_, fun x o h => ?_, fun r c' hr h => ?_⟩
  · obtain ⟨t, rfl⟩ := a.ext
    obtain ⟨u, rfl⟩ := b.ext
    exact ⟨t ++ u, by simp⟩
  · obtain ⟨o', h'⟩ := a.there x o h
    exact b.live x o' h' (a.live x o h l)
  · obtain ⟨o', h'⟩ := a.there x o h
    exact b.own x o' h' (a.own x o h l)
  · obtain ⟨o', h'⟩ := a.there x o h
    exact b.there x o' h'
  · obtain ⟨c1, h1, f1⟩ := b.refs r c' hr h
    obtain ⟨c, h0, f0⟩ := a.refs r c1 hr h1
    exact ⟨c, h0, fun k z => f0 k (f1 k z)⟩
theorem Stp.mono {B : Addr → Prop} {b b' : Nat} {μ μ1 : List Addr} {st st1 : Store} {H H1 : Hp} (a : Stp B b μ st H μ1 st1 H1) (h : b' ≤ b) : Stp B b' μ st H μ1 st1 H1 :=
  ⟨a.ext, a.keep, a.live, a.own, a.there, fun r c' hr => a.refs r c' (Nat.lt_of_lt_of_le hr h)⟩

/-! ### what stays -/
section
variable {K : PySem.W.Frag} {O O' : Addr → Prop} {H H' : Hp} {μ μ' : List Addr}
/-- the heap's part that data lean on -/
structure Hold (O O' : Addr → Prop) (H H' : Hp) : Prop where
  tup : ∀ a xs, H a = some (.tup xs) → H' a = some (.tup xs)
  frz : ∀ a o u, H a = some (.frz o u) → H' a = some (.frz o u)
  lst : ∀ a xs, H a = some (.lst xs) → ¬ O a → H' a = some (.lst xs)
  own : ∀ a o, H a = some o → ¬ O a → ¬ O' a
theorem SqT.hold {a : Addr} {xs : List V} (h : SqT K H a xs) (e : Hold O O' H H') : SqT K H' a xs := by
  rcases h with (h | ⟨o, h⟩) | h
  · exact .inl (.inl (e.tup _ _ h))
  · exact .inl (.inr ⟨o, e.frz _ _ _ h⟩)
  · exact .inr h
mutual
theorem VR.hold (e : Hold O O' H H') : ∀ {w : W} {v : V}, VR K O H w v → VR K O' H' w v
  | _, _, .non => .non
  | _, _, .bl b => .bl b
  | _, _, .int i => .int i
  | _, _, .str x => .str x
  | _, _, .tup h r => .tup (SqT.hold h e) (VRs.hold e r)
  | _, _, .lst h n r => .lst (e.lst _ _ h n) (e.own _ _ h n) (VRs.hold e r)
  | _, _, .scr (.inl h) n r => .scr (.inl (e.lst _ _ h n)) (e.own _ _ h n) (VRs.hold e r)
  | _, _, .scr (.inr ⟨o, h⟩) n r => .scr (.inr ⟨o, e.frz _ _ _ h⟩) (e.own _ _ h n) (VRs.hold e r)
  | _, _, .scrK h r => .scrK h (VRs.hold e r)
theorem VRs.hold (e : Hold O O' H H') : ∀ {ws : List W} {vs : List V}, VRs K O H ws vs → VRs K O' H' ws vs
  | _, _, .nil => .nil
  | _, _, .cons h r => .cons (VR.hold e h) (VRs.hold e r)
end
theorem UR.hold (e : Hold O O' H H') (m : ∃ t, μ' = μ ++ t) {u : U} {v : V} (h : UR K O H μ u v) : UR K O' H' μ' u v := by
  cases h with
  | v h => exact .v (h.hold e)
  | ref h =>
    obtain ⟨t, rfl⟩ := m
    exact .ref (by rw [List.getElem?_append_left (List.getElem?_eq_some_iff.mp h).1]; exact h)
theorem URs.hold (e : Hold O O' H H') (m : ∃ t, μ' = μ ++ t) : ∀ {us : List U} {vs : List V}, URs K O H μ us vs → URs K O' H' μ' us vs
  | _, _, .nil => .nil
  | _, _, .cons h r => .cons (h.hold e m) (URs.hold e m r)
end
section
variable {K : PySem.W.Frag} {B : Addr → Prop} {base : Nat} {μ μ' : List Addr} {st st' : Store} {H H' : Hp}
theorem SRel.live_lst (R : SRel K B base μ st H) {a : Addr} (l : Live μ st a) : ∃ xs, H a = some (.lst xs) := by
  obtain ⟨r, c, h1, _, h3⟩ := l
  obtain ⟨a', xs, h4, h5, _⟩ := R.cell r c h1
  rw [h3] at h4
  cases h4
  exact ⟨xs, h5⟩
theorem SRel.own_there (R : SRel K B base μ st H) {a : Addr} (l : Own B μ st a) : ∃ o, H a = some o := by
  rcases l with l | ⟨r, c, h1, _, h3⟩
  · exact (R.out a l).1
  · obtain ⟨a', xs, h4, h5, _⟩ := R.cell r c h1
    rw [h3] at h4
    cases h4
    exact ⟨_, h5⟩
theorem Stp.hold (R : SRel K B base μ st H) (s : Stp B base μ st H μ' st' H') : Hold (Own B μ st) (Own B μ' st') H H' where
  tup := fun a xs h => s.keep a _ h (fun _ z => nomatch z) fun l => by
    obtain ⟨ys, e⟩ := R.live_lst l
    rw [h] at e
    cases e
  frz := fun a o u h => s.keep a _ h (fun _ z => nomatch z) fun l => by
    obtain ⟨ys, e⟩ := R.live_lst l
    rw [h] at e
    cases e
  lst := fun a xs h n => s.keep a _ h (fun _ z => nomatch z) fun l => n l.own
  own := fun a o h n => s.own a o h n
theorem Stp.ur (R : SRel K B base μ st H) (s : Stp B base μ st H μ' st' H') {u : U} {v : V} (h : UR K (Own B μ st) H μ u v) : UR K (Own B μ' st') H' μ' u v := h.hold (s.hold R) s.ext
theorem Stp.urs (R : SRel K B base μ st H) (s : Stp B base μ st H μ' st' H') {us : List U} {vs : List V} (h : URs K (Own B μ st) H μ us vs) : URs K (Own B μ' st') H' μ' us vs := URs.hold (s.hold R) s.ext h

/-! ### names -/
def ERel (K : PySem.W.Frag) (O : Addr → Prop) (H : Hp) (μ : List Addr) (ρ : Env) (σ : L2.St) : Prop :=
  ρ.length = σ.length ∧ ∀ (i : Nat) (u : U), ρ[i]? = some (some u) → ∃ v, σ[i]? = some (some v) ∧ UR K O H μ u v
theorem Stp.env (R : SRel K B base μ st H) (s : Stp B base μ st H μ' st' H') {ρ : Env} {σ : L2.St} (h : ERel K (Own B μ st) H μ ρ σ) : ERel K (Own B μ' st') H' μ' ρ σ :=
  ⟨h.1, fun i u e => let ⟨v, e1, r⟩ := h.2 i u e; ⟨v, e1, s.ur R r⟩⟩
theorem ERel.set {O : Addr → Prop} {ρ : Env} {σ : L2.St} {i : Nat} {u : U} {v : V} (h : ERel K O H μ ρ σ) (r : UR K O H μ u v) : ERel K O H μ (ρ.set i (some u)) (σ.set i (some v)) := by
  refine ⟨by simp [h.1], fun j w e => ?_⟩
  by_cases hj : i = j
  · subst hj
    by_cases hl : i < ρ.length
    · rw [List.getElem?_set_self hl] at e
      cases e
      exact ⟨v, by rw [List.getElem?_set_self (by rw [← h.1]; exact hl)], r⟩
    · rw [List.getElem?_eq_none (by simpa using hl)] at e
      cases e
  · rw [List.getElem?_set_ne hj] at e
    obtain ⟨v', e1, r'⟩ := h.2 j w e
    exact ⟨v', by rw [List.getElem?_set_ne hj]; exact e1, r'⟩
theorem ERel.del {O : Addr → Prop} {ρ : Env} {σ : L2.St} {i : Nat} (h : ERel K O H μ ρ σ) : ERel K O H μ (ρ.set i none) (σ.set i none) := by
  refine ⟨by simp [h.1], fun j w e => ?_⟩
  by_cases hj : i = j
  · subst hj
    by_cases hl : i < ρ.length
    · rw [List.getElem?_set_self hl] at e
      cases e
    · rw [List.getElem?_eq_none (by simpa using hl)] at e
      cases e
  · rw [List.getElem?_set_ne hj] at e
    obtain ⟨v', e1, r'⟩ := h.2 j w e
    exact ⟨v', by rw [List.getElem?_set_ne hj]; exact e1, r'⟩
theorem ERel.wipe {O : Addr → Prop} {ρ : Env} {σ : L2.St} (h : ERel K O H μ ρ σ) : ∀ vs : List Nat, ERel K O H μ (PI.wipe ρ vs) (L2.wipe σ vs)
  | [] => h
  | v :: vs => (ERel.wipe h vs).del

/-! ### a new object, a place more, a place changed -/
theorem upd_keep {a p : Addr} {o u : HO} (n : H p = none) (h : H a = some o) : upd H p u a = some o := by
  rw [upd_ne (ne_of_none h n)]
  exact h
/-- a new object that is no place: data of its own -/
theorem SRel.fresh (R : SRel K B base μ st H) {p : Addr} {o : HO} (n : H p = none) : SRel K B base μ st (upd H p o) ∧ Stp B base μ st H μ st (upd H p o) := by
  have S : Stp B base μ st H μ st (upd H p o) := ⟨⟨[], by simp⟩, fun a u h _ _ => upd_keep n h, fun _ _ _ l => l, fun _ _ _ l => l, fun a u h => ⟨u, upd_keep n h⟩, fun _ c' _ h => ⟨c', h, fun _ z => z⟩⟩
  refine ⟨⟨R.len, R.nd, fun r c h => ?_, fun a h => ?_, R.bl, R.bok⟩, S⟩
  · obtain ⟨a, xs, h1, h2, h3⟩ := R.cell r c h
    exact ⟨a, xs, h1, upd_keep n h2, S.urs R h3⟩
  · obtain ⟨⟨u, h1⟩, h2⟩ := R.out a h
    exact ⟨⟨u, upd_keep n h1⟩, h2⟩
theorem SRel.mem_there (R : SRel K B base μ st H) {a : Addr} (h : a ∈ μ) : ∃ xs, H a = some (.lst xs) := by
  obtain ⟨r, hr, e⟩ := List.getElem_of_mem h
  have hr' : r < st.length := by rw [← R.len]; exact hr
  obtain ⟨a', xs, h1, h2, _⟩ := R.cell r st[r] (List.getElem?_eq_getElem hr')
  rw [List.getElem?_eq_getElem hr, e] at h1
  cases h1
  exact ⟨xs, h2⟩
theorem own_snoc {c : Cell} {p a : Addr} (hl : μ.length = st.length) (h : Own B (μ ++ [p]) (st ++ [c]) a) : Own B μ st a ∨ a = p := by
  rcases h with h | ⟨r, d, h1, h2, h3⟩
  · exact .inl (.inl h)
  · by_cases hr : r < st.length
    · rw [List.getElem?_append_left hr] at h1
      rw [List.getElem?_append_left (by rw [hl]; exact hr)] at h3
      exact .inl (.inr ⟨r, d, h1, h2, h3⟩)
    · right
      have hr2 : r < (μ ++ [p]).length := (List.getElem?_eq_some_iff.mp h3).1
      rw [List.length_append, List.length_singleton] at hr2
      have e : r = μ.length := by omega
      subst e
      rw [List.getElem?_append_right (Nat.le_refl _), Nat.sub_self] at h3
      exact (Option.some.inj h3).symm
theorem live_snoc {c : Cell} {p a : Addr} (hl : μ.length = st.length) (h : Live (μ ++ [p]) (st ++ [c]) a) : Live μ st a ∨ a = p := by
  obtain ⟨r, d, h1, h2, h3⟩ := h
  by_cases hr : r < st.length
  · rw [List.getElem?_append_left hr] at h1
    rw [List.getElem?_append_left (by rw [hl]; exact hr)] at h3
    exact .inl ⟨r, d, h1, h2, h3⟩
  · right
    have hr2 : r < (μ ++ [p]).length := (List.getElem?_eq_some_iff.mp h3).1
    rw [List.length_append, List.length_singleton] at hr2
    have e : r = μ.length := by omega
    subst e
    rw [List.getElem?_append_right (Nat.le_refl _), Nat.sub_self] at h3
    exact (Option.some.inj h3).symm
theorem SRel.alloc (R : SRel K B base μ st H) {p : Addr} {us : List U} {xs : List V} (n : H p = none) (h : URs K (Own B μ st) H μ us xs) :
    SRel K B base (μ ++ [p]) (st ++ [⟨.live, us⟩]) (upd H p (.lst xs)) ∧ Stp B base μ st H (μ ++ [p]) (st ++ [⟨.live, us⟩]) (upd H p (.lst xs)) := by
  have S : Stp B base μ st H (μ ++ [p]) (st ++ [⟨.live, us⟩]) (upd H p (.lst xs)) := by
    refine ⟨⟨[p], rfl⟩, fun a u h _ _ => upd_keep n h, fun a o h l z => ?_, fun a o h l z => ?_, fun a u h => ⟨u, upd_keep n h⟩, fun r c' hr h => ⟨c', ?_, fun _ z => z⟩⟩
    · rcases live_snoc R.len z with z | z
      · exact l z
      · exact ne_of_none h n z
    · rcases own_snoc R.len z with z | z
      · exact l z
      · exact ne_of_none h n z
    · rw [List.getElem?_append_left (Nat.lt_of_lt_of_le hr R.bl)] at h
      exact h
  refine ⟨⟨by simp [R.len], ?_, fun r c e => ?_, fun a e => ?_, ?_, fun r c e hr k hk => ?_⟩, S⟩
  · rw [List.nodup_append]
    refine ⟨R.nd, by simp, fun a ha b hb z => ?_⟩
    obtain ⟨xs', e⟩ := R.mem_there ha
    rw [List.mem_singleton.mp hb] at z
    exact ne_of_none e n z
  · by_cases hr : r < st.length
    · rw [List.getElem?_append_left hr] at e
      obtain ⟨a, ys, h1, h2, h3⟩ := R.cell r c e
      exact ⟨a, ys, by rw [List.getElem?_append_left (by rw [R.len]; exact hr)]; exact h1, upd_keep n h2, S.urs R h3⟩
    · have hr2 := (List.getElem?_eq_some_iff.mp e).1
      rw [List.length_append, List.length_singleton] at hr2
      have e1 : r = st.length := by omega
      subst e1
      rw [List.getElem?_append_right (Nat.le_refl _), Nat.sub_self] at e
      cases e
      exact ⟨p, xs, by rw [← R.len, List.getElem?_append_right (Nat.le_refl _), Nat.sub_self]; rfl, upd_same, S.urs R h⟩
  · obtain ⟨⟨u, h1⟩, h2⟩ := R.out a e
    refine ⟨⟨u, upd_keep n h1⟩, fun z => ?_⟩
    rcases List.mem_append.mp z with z | z
    · exact h2 z
    · exact ne_of_none h1 n (List.mem_singleton.mp z)
  · rw [List.length_append]
    exact Nat.le_trans R.bl (Nat.le_add_right _ _)
  · rw [List.getElem?_append_left (Nat.lt_of_lt_of_le hr R.bl)] at e
    exact R.bok r c e hr k hk

theorem get_pre {μ t : List Addr} {r : Nat} {a : Addr} (h : μ[r]? = some a) : (μ ++ t)[r]? = some a := by
  rw [List.getElem?_append_left (List.getElem?_eq_some_iff.mp h).1]
  exact h
theorem SRel.inj (R : SRel K B base μ st H) {r s : Nat} {a : Addr} (h : μ[r]? = some a) (h' : μ[s]? = some a) : r = s := by
  obtain ⟨h1, e1⟩ := List.getElem?_eq_some_iff.mp h
  obtain ⟨h2, e2⟩ := List.getElem?_eq_some_iff.mp h'
  exact (List.getElem_inj R.nd).mp (e1.trans e2.symm)
/-- smaller sets of own places -/
theorem hold_sub {O O' : Addr → Prop} (h : ∀ a, O' a → O a) : Hold O O' H H := ⟨fun _ _ h => h, fun _ _ _ h => h, fun _ _ h _ => h, fun a _ _ n z => n (h a z)⟩
theorem set_get {st : Store} {r s : Nat} {c d e : Cell} (hc : st[r]? = some c) (h : (st.set r d)[s]? = some e) : (s = r ∧ e = d) ∨ (s ≠ r ∧ st[s]? = some e) := by
  by_cases hs : r = s
  · subst hs
    rw [List.getElem?_set_self (List.getElem?_eq_some_iff.mp hc).1] at h
    exact .inl ⟨rfl, (Option.some.inj h).symm⟩
  · rw [List.getElem?_set_ne hs] at h
    exact .inr ⟨Ne.symm hs, h⟩
/-- a live place is written -/
theorem SRel.put (R : SRel K B base μ st H) {r : Nat} {c : Cell} {a : Addr} {us : List U} {vs : List V} (hc : st[r]? = some c) (hl : c.lv = .live) (ha : μ[r]? = some a) (hu : URs K (Own B μ st) H μ us vs)
    (hr : r < base → ∀ k, U.ref k ∈ us → U.ref k ∈ c.xs) : SRel K B base μ (st.set r ⟨.live, us⟩) (upd H a (.lst vs)) ∧ Stp B base μ st H μ (st.set r ⟨.live, us⟩) (upd H a (.lst vs)) := by
  obtain ⟨a', xs, h1, h2, h3⟩ := R.cell r c hc
  rw [ha] at h1
  cases h1
  have la : Live μ st a := ⟨r, c, hc, hl, ha⟩
  have lv : ∀ b, Live μ (st.set r ⟨.live, us⟩) b → Live μ st b := fun b ⟨s, e, g1, g2, g3⟩ => by
    rcases set_get hc g1 with ⟨rfl, rfl⟩ | ⟨_, g1⟩
    · exact ⟨s, c, hc, hl, g3⟩
    · exact ⟨s, e, g1, g2, g3⟩
  have ow : ∀ b, Own B μ (st.set r ⟨.live, us⟩) b → Own B μ st b := fun b z => by
    rcases z with z | ⟨s, e, g1, g2, g3⟩
    · exact .inl z
    · rcases set_get hc g1 with ⟨rfl, rfl⟩ | ⟨_, g1⟩
      · exact .inr ⟨s, c, hc, by rw [hl]; exact (fun z => nomatch z), g3⟩
      · exact .inr ⟨s, e, g1, g2, g3⟩
  have S : Stp B base μ st H μ (st.set r ⟨.live, us⟩) (upd H a (.lst vs)) := by
    refine ⟨⟨[], by simp⟩, fun b o h _ n => ?_, fun b o _ n z => n (lv b z), fun b o _ n z => n (ow b z), fun b o h => ?_, fun s d hs e => ?_⟩
    · rw [upd_ne (fun z => n (by rw [z]; exact la))]
      exact h
    · by_cases hb : b = a
      · exact ⟨_, by rw [hb]; exact upd_same⟩
      · exact ⟨o, by rw [upd_ne hb]; exact h⟩
    · rcases set_get hc e with ⟨rfl, rfl⟩ | ⟨_, g1⟩
      · exact ⟨c, hc, hr hs⟩
      · exact ⟨d, g1, fun _ z => z⟩
  refine ⟨⟨by rw [List.length_set]; exact R.len, R.nd, fun s d e => ?_, fun b z => ?_, by rw [List.length_set]; exact R.bl, fun s d e hs k hk => ?_⟩, S⟩
  · rcases set_get hc e with ⟨rfl, rfl⟩ | ⟨hne, g1⟩
    · exact ⟨a, vs, ha, upd_same, S.urs R hu⟩
    · obtain ⟨b, ys, g2, g3, g4⟩ := R.cell s d g1
      refine ⟨b, ys, g2, ?_, S.urs R g4⟩
      rw [upd_ne (fun z => hne (R.inj (by rw [g2, z]) ha))]
      exact g3
  · obtain ⟨⟨o, g1⟩, g2⟩ := R.out b z
    refine ⟨⟨o, ?_⟩, g2⟩
    rw [upd_ne (fun q => g2 (by rw [q]; exact List.mem_of_getElem? ha))]
    exact g1
  · rcases set_get hc e with ⟨rfl, rfl⟩ | ⟨_, g1⟩
    · exact R.bok s c hc hs k (hr hs k hk)
    · exact R.bok s d g1 hs k hk
/-- a place is locked or frozen -/
theorem SRel.mark (R : SRel K B base μ st H) {r : Nat} {c : Cell} {l : Lv} (hc : st[r]? = some c) (hl : l ≠ .live) (hf : c.lv = .froz → l = .froz) :
    SRel K B base μ (st.set r ⟨l, c.xs⟩) H ∧ Stp B base μ st H μ (st.set r ⟨l, c.xs⟩) H := by
  have lv : ∀ b, Live μ (st.set r ⟨l, c.xs⟩) b → Live μ st b := fun b ⟨s, e, g1, g2, g3⟩ => by
    rcases set_get hc g1 with ⟨rfl, rfl⟩ | ⟨_, g1⟩
    · exact absurd g2 hl
    · exact ⟨s, e, g1, g2, g3⟩
  have ow : ∀ b, Own B μ (st.set r ⟨l, c.xs⟩) b → Own B μ st b := fun b z => by
    rcases z with z | ⟨s, e, g1, g2, g3⟩
    · exact .inl z
    · rcases set_get hc g1 with ⟨rfl, rfl⟩ | ⟨_, g1⟩
      · exact .inr ⟨s, c, hc, fun z => g2 (hf z), g3⟩
      · exact .inr ⟨s, e, g1, g2, g3⟩
  have S : Stp B base μ st H μ (st.set r ⟨l, c.xs⟩) H := by
    refine ⟨⟨[], by simp⟩, fun b o h _ n => h, fun b o _ n z => n (lv b z), fun b o _ n z => n (ow b z), fun b o h => ⟨o, h⟩, fun s d hs e => ?_⟩
    rcases set_get hc e with ⟨rfl, rfl⟩ | ⟨_, g1⟩
    · exact ⟨c, hc, fun _ z => z⟩
    · exact ⟨d, g1, fun _ z => z⟩
  refine ⟨⟨by rw [List.length_set]; exact R.len, R.nd, fun s d e => ?_, R.out, by rw [List.length_set]; exact R.bl, fun s d e hs k hk => ?_⟩, S⟩
  · rcases set_get hc e with ⟨rfl, rfl⟩ | ⟨hne, g1⟩
    · obtain ⟨b, ys, g2, g3, g4⟩ := R.cell s c hc
      exact ⟨b, ys, g2, g3, S.urs R g4⟩
    · obtain ⟨b, ys, g2, g3, g4⟩ := R.cell s d g1
      exact ⟨b, ys, g2, g3, S.urs R g4⟩
  · rcases set_get hc e with ⟨rfl, rfl⟩ | ⟨_, g1⟩
    · exact R.bok s c hc hs k hk
    · exact R.bok s d g1 hs k hk
theorem SRel.froz (R : SRel K B base μ st H) (r : Nat) : SRel K B base μ (PI.froz r st) H ∧ Stp B base μ st H μ (PI.froz r st) H := by
  unfold PI.froz
  cases e : st[r]? with
  | none => exact ⟨R, .refl⟩
  | some c => exact R.mark e (fun z => nomatch z) fun _ => rfl
theorem SRel.lockS (R : SRel K B base μ st H) (u : U) : SRel K B base μ (PI.lockS u st).1 H ∧ Stp B base μ st H μ (PI.lockS u st).1 H ∧ ∀ r ∈ (PI.lockS u st).2.toList, ∃ c : Cell, st[r]? = some c ∧ c.lv = .live := by
  unfold PI.lockS
  cases u with
  | v w => exact ⟨R, .refl, by simp⟩
  | ref r =>
    cases e : st[r]? with
    | none => exact ⟨by simpa [e] using R, by simpa [e] using Stp.refl, by simp [e]⟩
    | some c =>
      by_cases hl : c.lv = .live
      · have M := R.mark (l := .lock) e (fun z => nomatch z) fun z => by rw [hl] at z; cases z
        refine ⟨by simpa [e, hl] using M.1, by simpa [e, hl] using M.2, fun s hs => ?_⟩
        simp only [e, hl] at hs
        simp at hs
        exact ⟨c, by rw [hs]; exact e, hl⟩
      · exact ⟨by simpa [e, hl] using R, by simpa [e, hl] using Stp.refl, by simp [e, hl]⟩
/-- the locks are taken off behind a loop: they were live ahead of it -/
theorem SRel.unlk {μ0 : List Addr} {st0 : Store} {H0 : Hp} : ∀ (lk : List Nat), (∀ r ∈ lk, ∃ c : Cell, st0[r]? = some c ∧ c.lv = .live) → SRel K B base μ0 st0 H0 → SRel K B base μ st H → Stp B base μ0 st0 H0 μ st H →
    SRel K B base μ (PI.unlk lk st) H ∧ Stp B base μ0 st0 H0 μ (PI.unlk lk st) H
  | [], _, _, R, S => ⟨R, S⟩
  | r :: lk, h, R0, R, S => by
    obtain ⟨R1, S1⟩ := SRel.unlk lk (fun s hs => h s (List.mem_cons_of_mem _ hs)) R0 R S
    obtain ⟨c0, h0, l0⟩ := h r List.mem_cons_self
    unfold PI.unlk
    cases e : (PI.unlk lk st)[r]? with
    | none => exact ⟨R1, S1⟩
    | some c =>
      by_cases hl : c.lv = .lock
      · simp only [hl, if_pos]
        obtain ⟨a0, xs0, k1, k2, k3⟩ := R0.cell r c0 h0
        have kμ : μ[r]? = some a0 := by
          obtain ⟨t, rfl⟩ := S1.ext
          exact get_pre k1
        have lv : ∀ b, Live μ ((PI.unlk lk st).set r ⟨.live, c.xs⟩) b → Live μ (PI.unlk lk st) b ∨ b = a0 := fun b ⟨s, d, g1, g2, g3⟩ => by
          rcases set_get e g1 with ⟨rfl, rfl⟩ | ⟨_, g1⟩
          · right
            rw [kμ] at g3
            exact (Option.some.inj g3).symm
          · exact .inl ⟨s, d, g1, g2, g3⟩
        have ow : ∀ b, Own B μ ((PI.unlk lk st).set r ⟨.live, c.xs⟩) b → Own B μ (PI.unlk lk st) b := fun b z => by
          rcases z with z | ⟨s, d, g1, g2, g3⟩
          · exact .inl z
          · rcases set_get e g1 with ⟨rfl, rfl⟩ | ⟨_, g1⟩
            · exact .inr ⟨s, c, e, by rw [hl]; exact (fun z => nomatch z), g3⟩
            · exact .inr ⟨s, d, g1, g2, g3⟩
        have HO : Hold (Own B μ (PI.unlk lk st)) (Own B μ ((PI.unlk lk st).set r ⟨.live, c.xs⟩)) H H := hold_sub ow
        refine ⟨⟨by rw [List.length_set]; exact R1.len, R1.nd, fun s d g => ?_, R1.out, by rw [List.length_set]; exact R1.bl, fun s d g hs k hk => ?_⟩,
          ⟨S1.ext, S1.keep, fun b o hb n z => ?_, fun b o hb n z => S1.own b o hb n (ow b z), S1.there, fun s d hs g => ?_⟩⟩
        · rcases set_get e g with ⟨rfl, rfl⟩ | ⟨hne, g1⟩
          · obtain ⟨b, ys, g2, g3, g4⟩ := R1.cell s c e
            exact ⟨b, ys, g2, g3, URs.hold HO ⟨[], by simp⟩ g4⟩
          · obtain ⟨b, ys, g2, g3, g4⟩ := R1.cell s d g1
            exact ⟨b, ys, g2, g3, URs.hold HO ⟨[], by simp⟩ g4⟩
        · rcases set_get e g with ⟨rfl, rfl⟩ | ⟨_, g1⟩
          · exact R1.bok s c e hs k hk
          · exact R1.bok s d g1 hs k hk
        · rcases lv b z with z | z
          · exact S1.live b o hb n z
          · exact n ⟨r, c0, h0, l0, by rw [z]; exact k1⟩
        · rcases set_get e g with ⟨rfl, rfl⟩ | ⟨_, g1⟩
          · exact S1.refs s c hs e
          · exact S1.refs s d hs g1
      · simp only [if_neg hl]
        exact ⟨R1, S1⟩

/-! ### data told of a place -/
theorem VRs.of_paired {O : Addr → Prop} {us : List U} {vs : List V} : URs K O H μ us vs → ∀ {ws : List W}, pures us = some ws → VRs K O H ws vs := fun h => by
  induction h with
  | nil =>
    intro ws e
    cases e
    exact .nil
  | @cons u v us vs r _ ih =>
    intro ws e
    cases r with
    | v r =>
      simp only [pures, Option.map_eq_some_iff] at e
      obtain ⟨ws', e1, rfl⟩ := e
      exact .cons r (ih e1)
    | ref r => cases e
theorem URs.of_vrs {O : Addr → Prop} : ∀ {ws : List W} {vs : List V}, VRs K O H ws vs → URs K O H μ (ws.map .v) vs
  | _, _, .nil => .nil
  | _, _, .cons h r => .cons (.v h) (URs.of_vrs r)
theorem snap_list {O' : Addr → Prop} {O : Addr → Prop} {f : U → Option W} (hf : ∀ u v w, UR K O H μ u v → f u = some w → VR K O' H w v) : ∀ {us : List U} {vs : List V} {ws : List W}, URs K O H μ us vs → us.mapM f = some ws → VRs K O' H ws vs := fun {us vs ws} h => by
  induction h generalizing ws with
  | nil =>
    intro e
    simp at e
    subst e
    exact .nil
  | @cons u v us vs r _ ih =>
    intro e
    rw [List.mapM_cons] at e
    cases e1 : f u with
    | none => simp [e1] at e
    | some w =>
      cases e2 : us.mapM f with
      | none => simp [e1, e2] at e
      | some ws' =>
        simp [e1, e2] at e
        subst e
        exact .cons (hf u v w r e1) (ih e2)
theorem snap_vr (R : SRel K B base μ st H) {O' : Addr → Prop} (h1 : ∀ a, O' a → Own B μ st a) (h2 : ∀ a ∈ μ, ¬ O' a) : ∀ (n : Nat) (u : U) (v : V) (w : W), UR K (Own B μ st) H μ u v → snap n st u = some w → VR K O' H w v
  | _, .v w, v, w', .v h, e => by
    have e1 : w = w' := by
      unfold snap at e
      exact Option.some.inj e
    subst e1
    exact h.hold (hold_sub h1)
  | 0, .ref r, _, _, _, e => by simp [snap] at e
  | n + 1, .ref r, _, w, .ref h, e => by
    unfold snap at e
    cases hc : st[r]? with
    | none => simp [cells, hc] at e
    | some c =>
      simp only [cells, hc, Option.map_some] at e
      obtain ⟨ws, e1, e2⟩ := Option.map_eq_some_iff.mp e
      obtain ⟨a, xs, k1, k2, k3⟩ := R.cell r c hc
      rw [h] at k1
      cases k1
      rw [← e2]
      exact .lst k2 (h2 _ (List.mem_of_getElem? h)) (snap_list (fun u v w hu hs => snap_vr R h1 h2 n u v w hu hs) k3 e1)
theorem snapF_vr (R : SRel K B base μ st H) {O' : Addr → Prop} (h1 : ∀ a, O' a → Own B μ st a) (h2 : ∀ r a, base ≤ r → μ[r]? = some a → ¬ O' a) : ∀ (n : Nat) (u : U) (v : V) (w : W), UR K (Own B μ st) H μ u v → snapF base n st u = some w → VR K O' H w v
  | _, .v w, v, w', .v h, e => by
    have e1 : w = w' := by
      unfold snapF at e
      exact Option.some.inj e
    subst e1
    exact h.hold (hold_sub h1)
  | 0, .ref r, _, _, _, e => by simp [snapF] at e
  | n + 1, .ref r, _, w, .ref h, e => by
    unfold snapF at e
    split at e
    · cases e
    · rename_i hr
      cases hc : st[r]? with
      | none => simp [cells, hc] at e
      | some c =>
        simp only [cells, hc, Option.map_some] at e
        obtain ⟨ws, e1, e2⟩ := Option.map_eq_some_iff.mp e
        obtain ⟨a, xs, k1, k2, k3⟩ := R.cell r c hc
        rw [h] at k1
        cases k1
        rw [← e2]
        exact .lst k2 (h2 r _ (Nat.not_lt.mp hr) h) (snap_list (fun u v w hu hs => snapF_vr R h1 h2 n u v w hu hs) k3 e1)
/-- the items of a list or a tuple -/
theorem seq_ur (R : SRel K B base μ st H) {u : U} {v : V} {us : List U} (h : UR K (Own B μ st) H μ u v) (e : seqOf st u = some us) :
    ∃ a xs, v = .ref a ∧ URs K (Own B μ st) H μ us xs ∧ ((isT u = true ∧ isL u = false ∧ SqT K H a xs) ∨ (isL u = true ∧ isT u = false ∧ H a = some (.lst xs))) := by
  cases h with
  | ref h =>
    rename_i r a
    simp only [seqOf, cells, Option.map_eq_some_iff] at e
    obtain ⟨c, hc, rfl⟩ := e
    obtain ⟨a', xs, k1, k2, k3⟩ := R.cell r c hc
    rw [h] at k1
    cases k1
    exact ⟨_, xs, rfl, k3, .inr ⟨rfl, rfl, k2⟩⟩
  | v h =>
    cases h with
    | tup h r =>
      cases e
      exact ⟨_, _, rfl, URs.of_vrs r, .inl ⟨rfl, rfl, h⟩⟩
    | lst h n r =>
      cases e
      exact ⟨_, _, rfl, URs.of_vrs r, .inr ⟨rfl, rfl, h⟩⟩
    | non => cases e
    | bl => cases e
    | int => cases e
    | str => cases e
    | scr => cases e
    | scrK => cases e
end
end PI

/-! what a run of the evaluator asks of the heap behind it; the operators -/
namespace PI
open PySem PySem.Spec PyProof.Rows L2

/-- how an exception of the class c with the data w stands in the heap -/
abbrev XV := Nat → W → Value → Option Addr → Hp → Prop
section
variable (K : PySem.W.Frag) (B : Addr → Prop) (base : Nat) (xv : XV) (EX : XK)
/-- behind a run from (μ, st, H) -/
def Post {α β : Type} (T : (Addr → Prop) → Hp → List Addr → α → β → Prop) (μ : List Addr) (st : Store) (H : Hp) (Q : β → Hp → Prop) : R α → Prop
  | .ok a st' => ∀ μ' b H', Stp B base μ st H μ' st' H' → SRel K B base μ' st' H' → T (Own B μ' st') H' μ' a b → Q b H'
  | .ex c w st' => ∀ μ' cls d H', Stp B base μ st H μ' st' H' → SRel K B base μ' st' H' → xv c w cls d H' → EX cls d H'
  | .bad => False
end
abbrev TU (K : PySem.W.Frag) : (Addr → Prop) → Hp → List Addr → U → V → Prop := fun O H μ u v => UR K O H μ u v
abbrev TUs (K : PySem.W.Frag) : (Addr → Prop) → Hp → List Addr → List U → List V → Prop := fun O H μ u v => URs K O H μ u v
abbrev TB : (Addr → Prop) → Hp → List Addr → Bool → Bool → Prop := fun _ _ _ a b => a = b
section
variable {K : PySem.W.Frag} {B : Addr → Prop} {base : Nat} {xv : XV} {EX : XK} {α β γ δ : Type} {T : (Addr → Prop) → Hp → List Addr → α → β → Prop} {T' : (Addr → Prop) → Hp → List Addr → γ → δ → Prop}
  {μ μ1 : List Addr} {st st1 : Store} {H H1 : Hp} {Q Q' : β → Hp → Prop}
theorem Post.step (S : Stp B base μ st H μ1 st1 H1) : ∀ {r : R α}, Post K B base xv EX T μ st H Q r → Post K B base xv EX T μ1 st1 H1 Q r
  | .ok _ _, h => fun μ' b H' S' => h μ' b H' (S.trans S')
  | .ex _ _ _, h => fun μ' c d H' S' => h μ' c d H' (S.trans S')
  | .bad, h => h
theorem Post.mono (f : ∀ b H, Q b H → Q' b H) : ∀ {r : R α}, Post K B base xv EX T μ st H Q r → Post K B base xv EX T μ st H Q' r
  | .ok _ _, h => fun μ' b H' S' R t => f _ _ (h μ' b H' S' R t)
  | .ex _ _ _, h => h
  | .bad, h => h
theorem Post.bind {Q : δ → Hp → Prop} {f : α → Store → R γ} : ∀ {r : R α}, Post K B base xv EX T' μ st H Q (r.bind f) →
    Post K B base xv EX T μ st H (fun y H1 => ∃ x μ1 st1, Stp B base μ st H μ1 st1 H1 ∧ SRel K B base μ1 st1 H1 ∧ T (Own B μ1 st1) H1 μ1 x y ∧ Post K B base xv EX T' μ1 st1 H1 Q (f x st1)) r
  | .ok x st1, h => fun μ1 y H1 S R t => ⟨x, μ1, st1, S, R, t, Post.step S h⟩
  | .ex _ _ _, h => h
  | .bad, h => h
end

/-! ### statements -/
section
variable (K : PySem.W.Frag) (B : Addr → Prop) (base : Nat) (xv : XV) (EX : XK)
def PostS (μ : List Addr) (st : Store) (H : Hp) (D : Ends) : SR → Prop
  | .nx ρ st' => ∀ μ' σ H', Stp B base μ st H μ' st' H' → SRel K B base μ' st' H' → ERel K (Own B μ' st') H' μ' ρ σ → D.nx σ H'
  | .rt u st' => ∀ μ' v H', Stp B base μ st H μ' st' H' → SRel K B base μ' st' H' → UR K (Own B μ' st') H' μ' u v → D.rt v H'
  | .bk ρ st' => ∀ μ' σ H', Stp B base μ st H μ' st' H' → SRel K B base μ' st' H' → ERel K (Own B μ' st') H' μ' ρ σ → D.bk σ H'
  | .ct ρ st' => ∀ μ' σ H', Stp B base μ st H μ' st' H' → SRel K B base μ' st' H' → ERel K (Own B μ' st') H' μ' ρ σ → D.ct σ H'
  | .ex c w st' => ∀ μ' cls d H', Stp B base μ st H μ' st' H' → SRel K B base μ' st' H' → xv c w cls d H' → EX cls d H'
  | .bad => False
end
section
variable {K : PySem.W.Frag} {B : Addr → Prop} {base : Nat} {xv : XV} {EX : XK} {α β : Type} {T : (Addr → Prop) → Hp → List Addr → α → β → Prop}
  {μ μ1 : List Addr} {st st1 : Store} {H H1 : Hp} {D : Ends}
theorem PostS.step (S : Stp B base μ st H μ1 st1 H1) : ∀ {r : SR}, PostS K B base xv EX μ st H D r → PostS K B base xv EX μ1 st1 H1 D r
  | .nx _ _, h => fun μ' b H' S' => h μ' b H' (S.trans S')
  | .rt _ _, h => fun μ' b H' S' => h μ' b H' (S.trans S')
  | .bk _ _, h => fun μ' b H' S' => h μ' b H' (S.trans S')
  | .ct _ _, h => fun μ' b H' S' => h μ' b H' (S.trans S')
  | .ex _ _ _, h => fun μ' c d H' S' => h μ' c d H' (S.trans S')
  | .bad, h => h
theorem Post.toS {f : α → Store → SR} : ∀ {r : R α}, PostS K B base xv EX μ st H D (r.toS f) →
    Post K B base xv EX T μ st H (fun y H1 => ∃ x μ1 st1, Stp B base μ st H μ1 st1 H1 ∧ SRel K B base μ1 st1 H1 ∧ T (Own B μ1 st1) H1 μ1 x y ∧ PostS K B base xv EX μ1 st1 H1 D (f x st1)) r
  | .ok x st1, h => fun μ1 y H1 S R t => ⟨x, μ1, st1, S, R, t, PostS.step S h⟩
  | .ex _ _ _, h => h
  | .bad, h => h
end

/-! ### ends of rules -/
section
variable {K : PySem.W.Frag} {B : Addr → Prop} {base : Nat} {xv : XV} {EX : XK} {μ : List Addr} {st : Store} {H : Hp} {Q : VK}
theorem lim_eq : sizeLine = lim := by rw [sizeLine_eq]; rfl
/-- a value without a new object -/
theorem Post.val (R : SRel K B base μ st H) {u : U} {v : V} (h : Post K B base xv EX (TU K) μ st H Q (.ok u st)) (r : UR K (Own B μ st) H μ u v) : Q v H := h μ v H .refl R r
/-- a new tuple -/
theorem Post.tup (R : SRel K B base μ st H) {ws : List W} {vs : List V} (h : Post K B base xv EX (TU K) μ st H Q (.ok (.v (.tuple ws)) st)) (r : VRs K (Own B μ st) H ws vs) {p : Addr} (n : H p = none) : Q (.ref p) (upd H p (.tup vs)) := by
  obtain ⟨R1, S1⟩ := R.fresh (o := .tup vs) n
  exact h μ _ _ S1 R1 (.v (.tup (.inl (.inl upd_same)) (VRs.hold (S1.hold R) r)))
/-- a new list, a place or data -/
theorem Post.mkL (R : SRel K B base μ st H) {m : Bool} {us : List U} {vs : List V} (h : Post K B base xv EX (TU K) μ st H Q (mkL m us st)) (r : URs K (Own B μ st) H μ us vs) : us.length ≤ lim ∧ ∀ p, H p = none → Q (.ref p) (upd H p (.lst vs)) := by
  unfold PI.mkL at h
  split at h
  · rename_i hl
    refine ⟨hl, fun p n => ?_⟩
    cases m with
    | true =>
      simp only [if_pos] at h
      obtain ⟨R1, S1⟩ := R.alloc n r
      refine h _ _ _ S1 R1 (.ref ?_)
      rw [← R.len, List.getElem?_append_right (Nat.le_refl _), Nat.sub_self]
      rfl
    | false =>
      simp only [Bool.false_eq_true, if_false] at h
      cases e : pures us with
      | none => simp only [e] at h; exact h.elim
      | some ws =>
        simp only [e] at h
        obtain ⟨R1, S1⟩ := R.fresh (o := .lst vs) n
        have nO : ¬ Own B μ st p := fun z => by
          obtain ⟨o, z⟩ := R.own_there z
          rw [n] at z
          cases z
        exact h μ _ _ S1 R1 (.v (.lst upd_same nO (VRs.hold (S1.hold R) (VRs.of_paired r e))))
  · exact h.elim
theorem Paired.len {α β : Type} {F : α → β → Prop} {xs : List α} {ys : List β} (h : Paired F xs ys) : xs.length = ys.length := Paired.length h
end

/-! ### operators, by values -/
section
variable {X : Cx}
/-- the reading of a rule by values -/
def rU2 (K : PySem.W.Frag) (xv : XV) (EX : XK) (f : U → U → Store → R U) : R2 := fun x y H Q => ∃ B base μ st u w, SRel K B base μ st H ∧ UR K (Own B μ st) H μ u x ∧ UR K (Own B μ st) H μ w y ∧ Post K B base xv EX (TU K) μ st H Q (f u w st)
theorem v_int {K : PySem.W.Frag} {O : Addr → Prop} {H : Hp} {μ : List Addr} {i : Int} {x : V} (h : UR K O H μ (.v (.int i)) x) : x = .int i := by
  cases h with
  | v h => cases h; rfl
theorem v_str {K : PySem.W.Frag} {O : Addr → Prop} {H : Hp} {μ : List Addr} {i : Str} {x : V} (h : UR K O H μ (.v (.str i)) x) : x = .str i := by
  cases h with
  | v h => cases h; rfl
theorem v_bool {K : PySem.W.Frag} {O : Addr → Prop} {H : Hp} {μ : List Addr} {i : Bool} {x : V} (h : UR K O H μ (.v (.bool i)) x) : x = .bl i := by
  cases h with
  | v h => cases h; rfl
theorem mulOk_ok {i j : Int} (h : mulOk i j = true) : CMul i j ∨ CMulW i j := by
  unfold mulOk at h
  simp only [Bool.or_eq_true, Bool.and_eq_true, decide_eq_true_eq] at h
  rcases h with (h | h) | ⟨h1, h2⟩
  · exact .inl (.inl (by omega))
  · exact .inl (.inr (by omega))
  · exact .inr (wide_mul h1 h2 (by decide) (by decide) (by decide))
theorem divOk_ok {i j : Int} (h : divOk j = true) : CDivW i j := by
  unfold divOk at h
  simp only [Bool.and_eq_true, decide_eq_true_eq] at h
  exact wide_div h.1 h.2 (by decide) (by decide)
theorem powOk_ok {i j : Int} (h : powOk i j = true) : CPow i j := by
  unfold powOk at h
  simp only [Bool.and_eq_true, decide_eq_true_eq] at h
  exact ⟨h.1.1, h.1.2, h.2⟩
theorem opI_ok {o : Operator} {i j k : Int} (e : opI o i j = some k) : ∀ (pins : List (Addr × Obj)) (s : Shared) (σ : L2.St) (H : Hp) (v u : Value) (Q : VK), Inv X pins σ H s → RelV (.int i) v → RelV (.int j) u → Q (.int k) H →
    wpAny (model X.prog X.w) X.A (binaryOp o v u) (EP X pins σ Q) X.xe s := fun pins s σ H v u Q I rv ru q => by
  unfold opI at e
  cases o <;> simp only [Option.some.injEq, reduceCtorEq] at e
  case Add =>
    subst e
    exact op_add pins s σ H _ _ v u Q I rv ru ⟨i, j, rfl, rfl, q⟩
  case Sub =>
    subst e
    exact op_sub pins s σ H _ _ v u Q I rv ru ⟨i, j, rfl, rfl, q⟩
  case Mult =>
    split at e
    · rename_i h
      obtain rfl := Option.some.inj e
      rcases mulOk_ok h with h | h
      · exact op_mul pins s σ H _ _ v u Q I rv ru ⟨i, j, rfl, rfl, h, q⟩
      · exact op_mulW pins s σ H _ _ v u Q I rv ru ⟨i, j, rfl, rfl, h, q⟩
    · cases e
  case FloorDiv =>
    split at e
    · rename_i h
      obtain rfl := Option.some.inj e
      exact op_fdivW pins s σ H _ _ v u Q I rv ru ⟨i, j, rfl, rfl, divOk_ok h, q⟩
    · cases e
  case Mod =>
    split at e
    · rename_i h
      obtain rfl := Option.some.inj e
      exact op_mod pins s σ H _ _ v u Q I rv ru ⟨i, j, rfl, rfl, h, q⟩
    · cases e
  case Pow =>
    split at e
    · rename_i h
      obtain rfl := Option.some.inj e
      exact op_pow pins s σ H _ _ v u Q I rv ru ⟨i, j, rfl, rfl, powOk_ok h, q⟩
    · cases e
  case LShift =>
    split at e
    · rename_i h
      obtain rfl := Option.some.inj e
      exact op_shl pins s σ H _ _ v u Q I rv ru ⟨i, j, rfl, rfl, powOk_ok h, q⟩
    · cases e
  case RShift =>
    split at e
    · rename_i h
      obtain rfl := Option.some.inj e
      exact op_shr pins s σ H _ _ v u Q I rv ru ⟨i, j, rfl, rfl, h, q⟩
    · cases e
  case BitAnd =>
    subst e
    exact op_and pins s σ H _ _ v u Q I rv ru ⟨i, j, rfl, rfl, q⟩
  case BitOr =>
    subst e
    exact op_or pins s σ H _ _ v u Q I rv ru ⟨i, j, rfl, rfl, q⟩
  case BitXor =>
    subst e
    exact op_xor pins s σ H _ _ v u Q I rv ru ⟨i, j, rfl, rfl, q⟩
end
end PI

/-! the operators, comparisons, items, slices by values -/
namespace PI
open PySem PySem.Spec PyProof.Rows L2
section
variable {X : Cx} {xv : XV} {EX : XK}
theorem pairApp {α β : Type} {F : α → β → Prop} : ∀ {a : List α} {b : List β} {c : List α} {d : List β}, Paired F a b → Paired F c d → Paired F (a ++ c) (b ++ d)
  | _, _, _, _, .nil, s => s
  | _, _, _, _, .cons r t, s => .cons r (pairApp t s)
theorem pures_map : ∀ {us : List U} {ws : List W}, pures us = some ws → us = ws.map .v
  | [], ws, e => by cases e; rfl
  | .v w :: r, ws, e => by
    simp only [pures, Option.map_eq_some_iff] at e
    obtain ⟨ws', e1, rfl⟩ := e
    rw [pures_map e1]
    rfl
  | .ref _ :: _, _, e => by cases e
theorem URs.rep {K : PySem.W.Frag} {O : Addr → Prop} {H : Hp} {μ : List Addr} {us : List U} {vs : List V} (r : URs K O H μ us vs) : ∀ n : Nat, URs K O H μ (List.replicate n us).flatten (List.replicate n vs).flatten
  | 0 => .nil
  | n + 1 => by
    rw [List.replicate_succ, List.replicate_succ, List.flatten_cons, List.flatten_cons]
    exact pairApp r (URs.rep r n)
theorem VRs.rep {K : PySem.W.Frag} {O : Addr → Prop} {H : Hp} {us : List W} {vs : List V} (r : VRs K O H us vs) (n : Nat) : VRs K O H (List.replicate n us).flatten (List.replicate n vs).flatten := by
  have h := URs.rep (URs.of_vrs (μ := []) r) n
  refine VRs.of_paired h ?_
  have e : ∀ l : List W, pures (l.map .v) = some l := fun l => by
    induction l with
    | nil => rfl
    | cons a l ih => simp [pures, ih]
  have e2 : (List.replicate n (us.map U.v)).flatten = ((List.replicate n us).flatten).map .v := by
    rw [List.map_flatten, List.map_replicate]
  rw [e2, e]
theorem op_ok {o : Operator} {m : Bool} : OpR X (binaryOp o) (rU2 X.K xv EX (opR o m)) := by
  intro pins s σ H x y v u Q I rv ru h
  obtain ⟨B, base, μ, st, a, b, R, ra, rb, h⟩ := h
  unfold opR at h
  split at h
  · rename_i i j
    obtain rfl := v_int ra
    obtain rfl := v_int rb
    split at h
    · rename_i k e
      exact opI_ok e pins s σ H v u Q I rv ru (h.val R (.v (.int k)))
    · exact h.elim
  · rename_i i j
    obtain rfl := v_str ra
    obtain rfl := v_str rb
    split at h
    · split at h
      · rename_i hl
        exact op_add_str pins s σ H _ _ v u Q I rv ru ⟨i, j, rfl, rfl, by rw [lim_eq]; exact hl, h.val R (.v (.str _))⟩
      · exact h.elim
    · exact h.elim
  · rename_i k _
    obtain rfl := v_int rb
    split at h
    · split at h
      · rename_i xs e
        obtain ⟨p, vs, rfl, rs, hk⟩ := seq_ur R ra e
        split at h
        · rename_i hc
          simp only [Bool.and_eq_true, decide_eq_true_eq] at hc
          have hl := Paired.length rs
          rcases hk with ⟨t1, t2, hs⟩ | ⟨t1, t2, hs⟩
          · simp only [t2, Bool.false_eq_true, if_false] at h
            split at h
            · rename_i ws ep
              split at h
              · rename_i hd
                simp only [Bool.and_eq_true, decide_eq_true_eq] at hd
                refine op_repT pins s σ H _ _ v u Q I rv ru ⟨p, k, vs, rfl, rfl, hs, ?_, hd.1.1.2, hd.1.2, by rw [← hl]; exact hd.2, fun q n => ?_⟩
                · intro z
                  apply hd.1.1.1
                  rw [z] at hl
                  exact List.eq_nil_of_length_eq_zero hl
                · exact h.tup R (VRs.rep (VRs.of_paired rs ep) k.toNat) n
              · exact h.elim
            · exact h.elim
          · simp only [t1, if_pos] at h
            obtain ⟨hz, g⟩ := h.mkL R (URs.rep rs k.toNat)
            exact op_rep pins s σ H _ _ v u Q I rv ru ⟨p, k, vs, rfl, rfl, hs, hc.1.1, hc.1.2, by rw [lim_eq, ← hl]; exact hc.2, g⟩
        · exact h.elim
      · exact h.elim
    · exact h.elim
  · split at h
    · split at h
      · rename_i xs ys e1 e2
        obtain ⟨p, vs, rfl, rs, hk⟩ := seq_ur R ra e1
        obtain ⟨p2, vs2, rfl, rs2, hk2⟩ := seq_ur R rb e2
        have hl := Paired.length rs
        have hl2 := Paired.length rs2
        split at h
        · rename_i hz
          have hz' : vs.length + vs2.length ≤ sizeLine := by rw [lim_eq, ← hl, ← hl2]; exact hz
          rcases hk with ⟨t1, t2, hs⟩ | ⟨t1, t2, hs⟩
          · simp only [t1, t2, Bool.false_and, Bool.false_eq_true, if_false, Bool.true_and] at h
            rcases hk2 with ⟨s1, s2, hs2⟩ | ⟨s1, s2, hs2⟩
            · simp only [s1, if_pos] at h
              split at h
              · rename_i ws ep
                refine op_catA pins s σ H _ _ v u Q I rv ru ⟨p, p2, vs, vs2, rfl, rfl, hs, hs2, hz', fun z => ?_, fun z z2 => ?_, fun z z2 q n => h.tup R (VRs.of_paired (pairApp rs rs2) ep) n⟩
                · subst z
                  have e : xs = [] := List.eq_nil_of_length_eq_zero hl
                  subst e
                  exact h.val R (.v (.tup hs2 (VRs.of_paired rs2 ep)))
                · subst z2
                  have e : ys = [] := List.eq_nil_of_length_eq_zero hl2
                  subst e
                  rw [List.append_nil] at ep
                  exact h.val R (.v (.tup hs (VRs.of_paired rs ep)))
              · exact h.elim
            · simp only [s2, Bool.false_eq_true, if_false] at h
              exact h.elim
          · rcases hk2 with ⟨s1, s2, hs2⟩ | ⟨s1, s2, hs2⟩
            · simp only [t1, t2, s2, s1, Bool.and_false, Bool.false_and, Bool.false_eq_true, if_false] at h
              exact h.elim
            · simp only [t1, s1, Bool.and_self, if_pos] at h
              obtain ⟨_, g⟩ := h.mkL R (pairApp rs rs2)
              exact op_cat pins s σ H _ _ v u Q I rv ru ⟨p, p2, vs, vs2, rfl, rfl, hs, hs2, hz', g⟩
        · exact h.elim
      · exact h.elim
    · exact h.elim

/-! ### comparisons -/
mutual
theorem VR.dp {K : PySem.W.Frag} {O : Addr → Prop} {H : Hp} : ∀ {w : W} {v : V}, VR K O H w v → PyData.canLay0 w = true → Dp K H v w
  | _, _, .non, _ => .non
  | _, _, .bl b, _ => .bl b
  | _, _, .int i, _ => .int i
  | _, _, .str x, _ => .str x
  | _, _, .tup h r, c => .tup h (VRs.dp r (by unfold PyData.canLay0 at c; exact c))
  | _, _, .lst h n r, c => .lst (.inl (.inl h)) (VRs.dp r (by unfold PyData.canLay0 at c; exact c))
  | _, _, .scr h n r, c => by unfold PyData.canLay0 at c; cases c
  | _, _, .scrK h r, c => by unfold PyData.canLay0 at c; cases c
theorem VRs.dp {K : PySem.W.Frag} {O : Addr → Prop} {H : Hp} : ∀ {ws : List W} {vs : List V}, VRs K O H ws vs → PyData.canLayAll0 ws = true → DpAll K H vs ws
  | _, _, .nil, _ => .nil
  | _, _, .cons h r, c => by
    unfold PyData.canLayAll0 at c
    rw [Bool.and_eq_true] at c
    exact .cons (VR.dp h c.1) (VRs.dp r c.2)
end
/-- data of a value, whatever places it has: to be compared -/
theorem snap_dp {K : PySem.W.Frag} {B : Addr → Prop} {base : Nat} {μ : List Addr} {st : Store} {H : Hp} (R : SRel K B base μ st H) {n : Nat} {u : U} {v : V} {w : W} (r : UR K (Own B μ st) H μ u v) (e : snap n st u = some w) (c : SeqAt.shaped w = true) : Dp K H v w :=
  (snap_vr R (O' := fun _ => False) (fun _ z => z.elim) (fun _ _ z => z) n u v w r e).dp (SeqAt.canLay_of_shaped c)
/-- the reading of a comparison's rule -/
def rC2 (K : PySem.W.Frag) (f : U → U → Store → Option Bool) : R2 := fun x y H Q => ∃ B base μ st u w k, SRel K B base μ st H ∧ UR K (Own B μ st) H μ u x ∧ UR K (Own B μ st) H μ w y ∧ f u w st = some k ∧ Q (.bl k) H
theorem snap_int {st : Store} {n : Nat} {u : U} {i : Int} {K : PySem.W.Frag} {O : Addr → Prop} {H : Hp} {μ : List Addr} {x : V} (r : UR K O H μ u x) (e : snap n st u = some (.int i)) : x = .int i := by
  cases r with
  | v h =>
    unfold snap at e
    obtain rfl := Option.some.inj e
    cases h
    rfl
  | ref h =>
    cases n with
    | zero => simp [snap] at e
    | succ n =>
      unfold snap at e
      split at e
      · simp at e
      · cases e
theorem snap_str {st : Store} {n : Nat} {u : U} {i : Str} {K : PySem.W.Frag} {O : Addr → Prop} {H : Hp} {μ : List Addr} {x : V} (r : UR K O H μ u x) (e : snap n st u = some (.str i)) : x = .str i := by
  cases r with
  | v h =>
    unfold snap at e
    obtain rfl := Option.some.inj e
    cases h
    rfl
  | ref h =>
    cases n with
    | zero => simp [snap] at e
    | succ n =>
      unfold snap at e
      split at e
      · simp at e
      · cases e
theorem eq_ok {j : Nat} (hr : Room j X.A) : OpR X (compareOp .Eq) (rC2 X.K fun u w st => eqU st u w) := by
  intro pins s σ H x y v u Q I rv ru h
  obtain ⟨B, base, μ, st, a, b, k, R, ra, rb, e, q⟩ := h
  dsimp only at e
  unfold eqU at e
  split at e
  · rename_i d1 d2 e1 e2
    unfold eqW at e
    split at e
    · rename_i i j
      obtain rfl := snap_int ra e1
      obtain rfl := snap_int rb e2
      obtain rfl := Option.some.inj e
      exact op_eq pins s σ H _ _ v u Q I rv ru ⟨rfl, by rw [dec_int]; exact q⟩
    · rename_i i j
      obtain rfl := snap_str ra e1
      obtain rfl := snap_str rb e2
      obtain rfl := Option.some.inj e
      exact op_eq pins s σ H _ _ v u Q I rv ru ⟨rfl, by rw [dec_str]; exact q⟩
    · split at e
      · rename_i hs
        rw [Bool.and_eq_true] at hs
        obtain rfl := Option.some.inj e
        exact op_eqD hr.units pins s σ H _ _ v u Q I rv ru ⟨d1, d2, snap_dp R ra e1 hs.1, snap_dp R rb e2 hs.2, hs.1, hs.2, q⟩
      · cases e
  · cases e
theorem ne_ok {j : Nat} (hr : Room j X.A) : OpR X (compareOp .NotEq) (rC2 X.K fun u w st => (eqU st u w).map (!·)) := by
  intro pins s σ H x y v u Q I rv ru h
  obtain ⟨B, base, μ, st, a, b, k, R, ra, rb, e, q⟩ := h
  dsimp only at e
  rw [Option.map_eq_some_iff] at e
  obtain ⟨k', e, rfl⟩ := e
  unfold eqU at e
  split at e
  · rename_i d1 d2 e1 e2
    unfold eqW at e
    split at e
    · rename_i i j
      obtain rfl := snap_int ra e1
      obtain rfl := snap_int rb e2
      obtain rfl := Option.some.inj e
      exact op_ne pins s σ H _ _ v u Q I rv ru ⟨rfl, by rw [dec_int]; exact q⟩
    · rename_i i j
      obtain rfl := snap_str ra e1
      obtain rfl := snap_str rb e2
      obtain rfl := Option.some.inj e
      exact op_ne pins s σ H _ _ v u Q I rv ru ⟨rfl, by rw [dec_str]; exact q⟩
    · split at e
      · rename_i hs
        rw [Bool.and_eq_true] at hs
        obtain rfl := Option.some.inj e
        exact op_neD hr.units pins s σ H _ _ v u Q I rv ru ⟨d1, d2, snap_dp R ra e1 hs.1, snap_dp R rb e2 hs.2, hs.1, hs.2, q⟩
      · cases e
  · cases e
theorem wints_vr {K : PySem.W.Frag} {O : Addr → Prop} {H : Hp} : ∀ {ws : List W} {ns : List Int} {vs : List V}, wints ws = some ns → VRs K O H ws vs → vs = ns.map V.int
  | [], ns, vs, e, h => by cases e; cases h; rfl
  | .int i :: r, ns, vs, e, h => by
    simp only [wints, Option.map_eq_some_iff] at e
    obtain ⟨ns', e1, rfl⟩ := e
    cases h with
    | cons h r' =>
      cases h
      rw [wints_vr e1 r']
      rfl
  | .none :: _, _, _, e, _ => by cases e
  | .bool _ :: _, _, _, e, _ => by cases e
  | .str _ :: _, _, _, e, _ => by cases e
  | .list _ :: _, _, _, e, _ => by cases e
  | .tuple _ :: _, _, _, e, _ => by cases e
  | .dict _ :: _, _, _, e, _ => by cases e
theorem lt_ok {j : Nat} (hr : Room j X.A) : OpR X (compareOp .Lt) (rC2 X.K fun u w _ => ltU u w) := by
  intro pins s σ H x y v u Q I rv ru h
  obtain ⟨B, base, μ, st, a, b, k, R, ra, rb, e, q⟩ := h
  dsimp only at e
  unfold ltU at e
  split at e
  · obtain rfl := v_int ra
    obtain rfl := v_int rb
    obtain rfl := Option.some.inj e
    exact op_lt pins s σ H _ _ v u Q I rv ru ⟨_, _, rfl, rfl, q⟩
  · obtain rfl := v_str ra
    obtain rfl := v_str rb
    obtain rfl := Option.some.inj e
    exact op_lt_str pins s σ H _ _ v u Q I rv ru ⟨_, _, rfl, rfl, q⟩
  · split at e
    · rename_i l1 l2 e1 e2
      obtain rfl := Option.some.inj e
      cases ra with
      | v ra =>
        cases ra with
        | tup h1 r1 =>
          cases rb with
          | v rb =>
            cases rb with
            | tup h2 r2 =>
              rw [wints_vr e1 r1] at h1
              rw [wints_vr e2 r2] at h2
              exact op_ltT hr.units0 pins s σ H _ _ v u Q I rv ru ⟨_, _, _, _, rfl, rfl, h1, h2, q⟩
    · cases e
  · cases e
theorem le_ok : OpR X (compareOp .LtE) (rC2 X.K fun u w _ => leU u w) := by
  intro pins s σ H x y v u Q I rv ru h
  obtain ⟨B, base, μ, st, a, b, k, R, ra, rb, e, q⟩ := h
  dsimp only at e
  unfold leU at e
  split at e
  · obtain rfl := v_int ra
    obtain rfl := v_int rb
    obtain rfl := Option.some.inj e
    exact op_le pins s σ H _ _ v u Q I rv ru ⟨_, _, rfl, rfl, q⟩
  · obtain rfl := v_str ra
    obtain rfl := v_str rb
    obtain rfl := Option.some.inj e
    obtain ⟨t, rfl⟩ := rv
    obtain ⟨t', rfl⟩ := ru
    exact PySem.P.le_str ⟨.bl _, H, I, rfl, q⟩
  · cases e
theorem gt_ok : OpR X (compareOp .Gt) (rC2 X.K fun u w st => cmpU st .Gt u w) := by
  intro pins s σ H x y v u Q I rv ru h
  obtain ⟨B, base, μ, st, a, b, k, R, ra, rb, e, q⟩ := h
  simp only [cmpU] at e
  split at e
  · obtain rfl := v_int ra
    obtain rfl := v_int rb
    obtain rfl := Option.some.inj e
    exact op_gt pins s σ H _ _ v u Q I rv ru ⟨_, _, rfl, rfl, q⟩
  · cases e
theorem ge_ok : OpR X (compareOp .GtE) (rC2 X.K fun u w st => cmpU st .GtE u w) := by
  intro pins s σ H x y v u Q I rv ru h
  obtain ⟨B, base, μ, st, a, b, k, R, ra, rb, e, q⟩ := h
  simp only [cmpU] at e
  split at e
  · obtain rfl := v_int ra
    obtain rfl := v_int rb
    obtain rfl := Option.some.inj e
    exact op_ge pins s σ H _ _ v u Q I rv ru ⟨_, _, rfl, rfl, q⟩
  · cases e
theorem isNone_v {K : PySem.W.Frag} {O : Addr → Prop} {H : Hp} {μ : List Addr} {u : U} {x : V} (r : UR K O H μ u x) : isNone u = decide (x = .non) := by
  cases r with
  | v h => cases h <;> rfl
  | ref h => rfl
theorem is_ok : OpR X (compareOp .Is) (rC2 X.K fun u w st => cmpU st .Is u w) := by
  intro pins s σ H x y v u Q I rv ru h
  obtain ⟨B, base, μ, st, a, b, k, R, ra, rb, e, q⟩ := h
  simp only [cmpU] at e
  split at e
  · obtain rfl := Option.some.inj e
    have ey : y = .non := by
      cases rb with
      | v h => cases h; rfl
    subst ey
    rw [isNone_v ra] at q
    exact op_isN pins s σ H _ _ v u Q I rv ru ⟨rfl, q⟩
  · cases e
theorem isnot_ok : OpR X (compareOp .IsNot) (rC2 X.K fun u w st => cmpU st .IsNot u w) := by
  intro pins s σ H x y v u Q I rv ru h
  obtain ⟨B, base, μ, st, a, b, k, R, ra, rb, e, q⟩ := h
  simp only [cmpU] at e
  split at e
  · obtain rfl := Option.some.inj e
    have ey : y = .non := by
      cases rb with
      | v h => cases h; rfl
    subst ey
    rw [isNone_v ra] at q
    exact op_notN pins s σ H _ _ v u Q I rv ru ⟨rfl, q⟩
  · cases e
theorem flat_vr {K : PySem.W.Frag} {O : Addr → Prop} {H : Hp} {w : W} {v : V} (h : VR K O H w v) (f : flat w = true) : flatV v = true := by
  cases h <;> first | rfl | cases f
theorem eqV_eqv {K : PySem.W.Frag} {O : Addr → Prop} {H : Hp} {w z : W} {v y : V} (h : VR K O H w v) (h' : VR K O H z y) (f : flat w = true) (g : flat z = true) : eqV v y = PyData.eqv w z := by
  cases h <;> cases h' <;> first | rfl | cases f | cases g | (simp only [eqV, PyData.eqv])
theorem flats_vr {K : PySem.W.Frag} {O : Addr → Prop} {H : Hp} : ∀ {ws : List W} {vs : List V}, VRs K O H ws vs → ws.all flat = true → vs.all flatV = true
  | _, _, .nil, _ => rfl
  | _, _, .cons h r, f => by
    rw [List.all_cons, Bool.and_eq_true] at f
    rw [List.all_cons, flat_vr h f.1, flats_vr r f.2]
    rfl
theorem inV_eqv {K : PySem.W.Frag} {O : Addr → Prop} {H : Hp} {w : W} {v : V} (h : VR K O H w v) (f : flat w = true) : ∀ {ws : List W} {vs : List V}, VRs K O H ws vs → ws.all flat = true → inV v vs = ws.any fun z => PyData.eqv z w
  | _, _, .nil, _ => rfl
  | _, _, .cons h' r, g => by
    rw [List.all_cons, Bool.and_eq_true] at g
    have ih := inV_eqv h f r g.2
    unfold inV at ih ⊢
    rw [List.any_cons, List.any_cons, ih, eqV_eqv h' h g.1 f]
theorem in_ok {j : Nat} (hr : Room j X.A) (hu : X.A.units + 65 < cLine) : OpR X (compareOp .In) (rC2 X.K fun u w st => inU st u w) := by
  intro pins s σ H x y v u Q I rv ru h
  obtain ⟨B, base, μ, st, a, b, k, R, ra, rb, e, q⟩ := h
  dsimp only at e
  unfold inU at e
  split at e
  · rename_i d ys e1 e2
    obtain ⟨p, vs, rfl, rs, hk⟩ := seq_ur R rb e2
    split at e
    · rename_i ws ep
      have rws := VRs.of_paired rs ep
      split at e
      · rename_i hs
        obtain rfl := Option.some.inj e
        rw [Bool.or_eq_true, Bool.and_eq_true] at hs
        have ha := snap_vr R (O' := fun _ => False) (fun _ z => z.elim) (fun _ _ z => z) 4 a x d ra e1
        have rws' : VRs X.K (fun _ => False) H ws vs := VRs.hold (hold_sub fun _ z => z.elim) rws
        rcases hs with ⟨f1, f2⟩ | hs
        · refine op_in_seq pins s σ H _ _ v u Q I rv ru ⟨p, vs, rfl, ?_, flat_vr ha f1, flats_vr rws' f2, ?_⟩
          · rcases hk with ⟨_, _, hs⟩ | ⟨_, _, hs⟩
            · exact .inr hs
            · exact .inl (.inl (.inl hs))
          · simp only [Bool.false_eq_true, if_false]
            rw [inV_eqv ha f1 rws' f2]
            exact q
        · rw [Bool.and_eq_true, Bool.and_eq_true] at hs
          obtain ⟨⟨t, s1⟩, s2⟩ := hs
          rcases hk with ⟨_, t2, hs⟩ | ⟨_, _, hs⟩
          · rw [t2] at t
            cases t
          · exact op_inD hu pins s σ H _ _ v u Q I rv ru ⟨d, ws, ha.dp (SeqAt.canLay_of_shaped s1), .lst (.inl (.inl hs)) (VRs.dp rws' (by have z := SeqAt.canLay_of_shaped s2; unfold PyData.canLay0 at z; exact z)), s1, s2, q⟩
      · cases e
    · cases e
  · cases e
theorem notin_ok {j : Nat} (hr : Room j X.A) (hu : X.A.units + 65 < cLine) : OpR X (compareOp .NotIn) (rC2 X.K fun u w st => (inU st u w).map (!·)) := by
  intro pins s σ H x y v u Q I rv ru h
  obtain ⟨B, base, μ, st, a, b, k, R, ra, rb, e, q⟩ := h
  dsimp only at e
  rw [Option.map_eq_some_iff] at e
  obtain ⟨k', e, rfl⟩ := e
  unfold inU at e
  split at e
  · rename_i d ys e1 e2
    obtain ⟨p, vs, rfl, rs, hk⟩ := seq_ur R rb e2
    split at e
    · rename_i ws ep
      have rws := VRs.of_paired rs ep
      split at e
      · rename_i hs
        obtain rfl := Option.some.inj e
        rw [Bool.or_eq_true, Bool.and_eq_true] at hs
        have ha := snap_vr R (O' := fun _ => False) (fun _ z => z.elim) (fun _ _ z => z) 4 a x d ra e1
        have rws' : VRs X.K (fun _ => False) H ws vs := VRs.hold (hold_sub fun _ z => z.elim) rws
        rcases hs with ⟨f1, f2⟩ | hs
        · refine op_notIn_seq pins s σ H _ _ v u Q I rv ru ⟨p, vs, rfl, ?_, flat_vr ha f1, flats_vr rws' f2, ?_⟩
          · rcases hk with ⟨_, _, hs⟩ | ⟨_, _, hs⟩
            · exact .inr hs
            · exact .inl (.inl (.inl hs))
          · simp only [if_pos]
            rw [inV_eqv ha f1 rws' f2]
            exact q
        · rw [Bool.and_eq_true, Bool.and_eq_true] at hs
          obtain ⟨⟨t, s1⟩, s2⟩ := hs
          rcases hk with ⟨_, t2, hs⟩ | ⟨_, _, hs⟩
          · rw [t2] at t
            cases t
          · exact op_notInD hu pins s σ H _ _ v u Q I rv ru ⟨d, ws, ha.dp (SeqAt.canLay_of_shaped s1), .lst (.inl (.inl hs)) (VRs.dp rws' (by have z := SeqAt.canLay_of_shaped s2; unfold PyData.canLay0 at z; exact z)), s1, s2, q⟩
      · cases e
    · cases e
  · cases e
theorem cmp_ok {o : CmpOp} {j : Nat} (hr : Room j X.A) (hu : X.A.units + 65 < cLine) : OpR X (compareOp o) (rC2 X.K fun u w st => cmpU st o u w) := by
  cases o with
  | Eq => exact eq_ok hr
  | NotEq => exact ne_ok hr
  | Lt => exact lt_ok hr
  | LtE => exact le_ok
  | Gt => exact gt_ok
  | GtE => exact ge_ok
  | Is => exact is_ok
  | IsNot => exact isnot_ok
  | In => exact in_ok hr hu
  | NotIn => exact notin_ok hr hu

/-! ### items, slices -/
theorem Paired.at {α β : Type} {F : α → β → Prop} : ∀ {xs : List α} {ys : List β}, Paired F xs ys → ∀ {i : Nat} {x : α}, xs[i]? = some x → ∃ y, ys[i]? = some y ∧ F x y
  | _, _, .nil, i, x, e => by simp at e
  | _, _, .cons r t, 0, x, e => ⟨_, rfl, by cases e; exact r⟩
  | _, _, .cons r t, i + 1, x, e => by
    obtain ⟨y, h1, h2⟩ := Paired.at t (i := i) (by simpa using e)
    exact ⟨y, by simpa using h1, h2⟩
theorem atI_pair {α β : Type} {F : α → β → Prop} {xs : List α} {ys : List β} (h : Paired F xs ys) {i : Int} {x : α} (e : atI xs i = some x) : ∃ y, atI ys i = some y ∧ F x y := by
  unfold atI at e ⊢
  rw [← Paired.length h]
  cases e1 : ixN xs.length i with
  | none => rw [e1] at e; cases e
  | some k =>
    rw [e1] at e
    exact Paired.at h e
theorem ix_ok : IxR X (rU2 X.K xv EX fun u w st => okU st (ixU st u w)) := by
  intro value slice pins s σ H x y v u Q I rv ru h hs
  obtain ⟨B, base, μ, st, a, b, R, ra, rb, h⟩ := h
  dsimp only at h
  cases e : ixU st a b with
  | none => rw [e] at h; exact h.elim
  | some z =>
    rw [e] at h
    unfold ixU at e
    split at e
    · rename_i i
      obtain rfl := v_int rb
      split at e
      · split at e
        · rename_i hl
          obtain rfl := v_str ra
          obtain ⟨c, e1, rfl⟩ := Option.map_eq_some_iff.mp e
          exact ix_str value slice pins s σ H _ _ v u Q I rv ru ⟨_, _, c, rfl, rfl, by rw [lim_eq]; exact hl, e1, h.val R (.v (.str _))⟩ hs
        · cases e
      · split at e
        · rename_i xs e1
          obtain ⟨p, vs, rfl, rs, hk⟩ := seq_ur R ra e1
          obtain ⟨y, e2, ry⟩ := atI_pair rs e
          rcases hk with ⟨_, _, hk⟩ | ⟨_, _, hk⟩
          · exact ix_tup value slice pins s σ H _ _ v u Q I rv ru ⟨p, vs, i, y, rfl, rfl, hk, e2, h.val R ry⟩ hs
          · exact ix_list value slice pins s σ H _ _ v u Q I rv ru ⟨p, vs, i, y, rfl, rfl, .inl (.inl hk), e2, h.val R ry⟩ hs
        · cases e
    · cases e
theorem pairTake {α β : Type} {F : α → β → Prop} : ∀ {xs : List α} {ys : List β}, Paired F xs ys → ∀ n : Nat, Paired F (xs.take n) (ys.take n)
  | _, _, _, 0 => .nil
  | _, _, .nil, n + 1 => .nil
  | _, _, .cons r t, n + 1 => .cons r (pairTake t n)
theorem pairDrop {α β : Type} {F : α → β → Prop} : ∀ {xs : List α} {ys : List β}, Paired F xs ys → ∀ n : Nat, Paired F (xs.drop n) (ys.drop n)
  | _, _, h, 0 => h
  | _, _, .nil, n + 1 => .nil
  | _, _, .cons r t, n + 1 => pairDrop t n
theorem cut_pair {K : PySem.W.Frag} {O : Addr → Prop} {H : Hp} {μ : List Addr} {us : List U} {vs : List V} (r : URs K O H μ us vs) (a b : Option Int) : URs K O H μ (cutU us a b) (cutV vs a b) := by
  unfold cutU cutV
  rw [Paired.length r]
  exact pairTake (pairDrop r _) _
/-- a cut's reading by values -/
def rSl (K : PySem.W.Frag) (xv : XV) (EX : XK) (m : Bool) : V → Option Int → Option Int → Hp → VK → Prop := fun x lo hi H Q => ∃ B base μ st u, SRel K B base μ st H ∧ UR K (Own B μ st) H μ u x ∧ Post K B base xv EX (TU K) μ st H Q (slU m u lo hi st)

theorem seqS_ur {K : PySem.W.Frag} {B : Addr → Prop} {base : Nat} {μ : List Addr} {st : Store} {H : Hp} (R : SRel K B base μ st H) {u : U} {v : V} {us : List U} (h : UR K (Own B μ st) H μ u v) (e : seqS st u = some us) :
    ∃ a xs, v = .ref a ∧ URs K (Own B μ st) H μ us xs ∧ ((isT u = true ∧ SqT K H a xs) ∨ (isT u = false ∧ SqL K H a xs)) := by
  unfold seqS at e
  split at e
  · obtain rfl := Option.some.inj e
    cases h with
    | v h =>
      cases h with
      | scr h n r => exact ⟨_, _, rfl, URs.of_vrs r, .inr ⟨rfl, .inl h⟩⟩
      | scrK h r => exact ⟨_, _, rfl, URs.of_vrs r, .inr ⟨rfl, h H⟩⟩
  · obtain ⟨a, xs, e1, r, hk⟩ := seq_ur R h e
    rcases hk with ⟨t, _, hk⟩ | ⟨_, t, hk⟩
    · exact ⟨a, xs, e1, r, .inl ⟨t, hk⟩⟩
    · exact ⟨a, xs, e1, r, .inr ⟨t, .inl (.inl hk)⟩⟩
theorem cut_whole (xs : List V) {lo hi : Option Int} (h : HT.sIx xs.length 0 lo = 0 ∧ HT.sIx xs.length xs.length hi = xs.length) : cutV xs lo hi = xs := by
  unfold cutV
  rw [h.1, h.2]
  simp
theorem sl_ok {m : Bool} : SlR X (rSl X.K xv EX m) := by
  intro pins s σ H x v vl vu lo hi sl Q I rx hs pl pu h
  obtain ⟨B, base, μ, st, u, R, ru, h⟩ := h
  unfold slU at h
  cases e : seqS st u with
  | none => rw [e] at h; exact h.elim
  | some us =>
    rw [e] at h
    dsimp only at h
    obtain ⟨a, vs, rfl, rs, hk⟩ := seqS_ur R ru e
    have rc := cut_pair rs lo hi
    rcases hk with ⟨t, hk⟩ | ⟨t, hk⟩
    · rw [t, if_pos rfl] at h
      split at h
      · rename_i ws ep
        refine sl_tupA pins s σ H _ v vl vu lo hi sl Q I rx hs pl pu ⟨a, vs, rfl, hk, fun z => ?_, fun _ p n => h.tup R (VRs.of_paired rc ep) n⟩
        have rw' := VRs.of_paired rc ep
        rw [cut_whole vs z] at rw'
        exact h.val R (.v (.tup hk rw'))
      · exact h.elim
    · rw [t, if_neg Bool.false_ne_true] at h
      obtain ⟨_, g⟩ := h.mkL R rc
      exact sl_list pins s σ H _ v vl vu lo hi sl Q I rx hs pl pu ⟨a, vs, rfl, hk, g⟩
end
end PI

/-! built-in functions and methods by values -/
namespace PI
open PySem PySem.Spec PyProof.Rows L2
section
variable {X : Cx} {xv : XV} {EX : XK}
/-- the reading of a call by values -/
def rUn (K : PySem.W.Frag) (xv : XV) (EX : XK) (f : List U → Store → R U) : List V → Hp → VK → Prop := fun vs H Q => ∃ B base μ st us, SRel K B base μ st H ∧ URs K (Own B μ st) H μ us vs ∧ Post K B base xv EX (TU K) μ st H Q (f us st)
theorem one_of {K : PySem.W.Frag} {O : Addr → Prop} {H : Hp} {μ : List Addr} {a : U} {vs : List V} (r : URs K O H μ [a] vs) : ∃ v, vs = [v] ∧ UR K O H μ a v := by
  cases r with
  | cons r t => cases t; exact ⟨_, rfl, r⟩
theorem two_of {K : PySem.W.Frag} {O : Addr → Prop} {H : Hp} {μ : List Addr} {a b : U} {vs : List V} (r : URs K O H μ [a, b] vs) : ∃ v w, vs = [v, w] ∧ UR K O H μ a v ∧ UR K O H μ b w := by
  cases r with
  | cons r t =>
    obtain ⟨w, rfl, r2⟩ := one_of t
    exact ⟨_, w, rfl, r, r2⟩
theorem ints_vr {K : PySem.W.Frag} {O : Addr → Prop} {H : Hp} {μ : List Addr} : ∀ {us : List U} {ns : List Int} {vs : List V}, intsU us = some ns → URs K O H μ us vs → vs = ns.map V.int
  | [], ns, vs, e, h => by cases e; cases h; rfl
  | .v (.int i) :: r, ns, vs, e, h => by
    simp only [intsU, Option.map_eq_some_iff] at e
    obtain ⟨ns', e1, rfl⟩ := e
    cases h with
    | cons h r' =>
      rw [v_int h, ints_vr e1 r']
      rfl
  | .ref _ :: _, _, _, e, _ => by cases e
  | .v .none :: _, _, _, e, _ => by cases e
  | .v (.bool _) :: _, _, _, e, _ => by cases e
  | .v (.str _) :: _, _, _, e, _ => by cases e
  | .v (.list _) :: _, _, _, e, _ => by cases e
  | .v (.tuple _) :: _, _, _, e, _ => by cases e
  | .v (.dict _) :: _, _, _, e, _ => by cases e
theorem bools_vr {K : PySem.W.Frag} {O : Addr → Prop} {H : Hp} {μ : List Addr} : ∀ {us : List U} {ns : List Bool} {vs : List V}, boolsU us = some ns → URs K O H μ us vs → vs = ns.map V.bl
  | [], ns, vs, e, h => by cases e; cases h; rfl
  | .v (.bool i) :: r, ns, vs, e, h => by
    simp only [boolsU, Option.map_eq_some_iff] at e
    obtain ⟨ns', e1, rfl⟩ := e
    cases h with
    | cons h r' =>
      rw [v_bool h, bools_vr e1 r']
      rfl
  | .ref _ :: _, _, _, e, _ => by cases e
  | .v .none :: _, _, _, e, _ => by cases e
  | .v (.int _) :: _, _, _, e, _ => by cases e
  | .v (.str _) :: _, _, _, e, _ => by cases e
  | .v (.list _) :: _, _, _, e, _ => by cases e
  | .v (.tuple _) :: _, _, _, e, _ => by cases e
  | .v (.dict _) :: _, _, _, e, _ => by cases e
/-- a list of ints -/
theorem seqI_ur {K : PySem.W.Frag} {B : Addr → Prop} {base : Nat} {μ : List Addr} {st : Store} {H : Hp} (R : SRel K B base μ st H) {u : U} {v : V} {ns : List Int} (h : UR K (Own B μ st) H μ u v) (e : seqI st u = some ns) :
    ∃ a, v = .ref a ∧ H a = some (.lst (ns.map V.int)) := by
  unfold seqI at e
  split at e
  · rename_i t
    obtain ⟨us, e1, e2⟩ := Option.bind_eq_some_iff.mp e
    obtain ⟨a, xs, rfl, r, hk⟩ := seq_ur R h e1
    rw [ints_vr e2 r] at hk
    rcases hk with ⟨_, z, _⟩ | ⟨_, _, hk⟩
    · rw [t] at z
      cases z
    · exact ⟨a, rfl, hk⟩
  · cases e
theorem seqB_ur {K : PySem.W.Frag} {B : Addr → Prop} {base : Nat} {μ : List Addr} {st : Store} {H : Hp} (R : SRel K B base μ st H) {u : U} {v : V} {ns : List Bool} (h : UR K (Own B μ st) H μ u v) (e : seqB st u = some ns) :
    ∃ a, v = .ref a ∧ H a = some (.lst (ns.map V.bl)) := by
  unfold seqB at e
  split at e
  · rename_i t
    obtain ⟨us, e1, e2⟩ := Option.bind_eq_some_iff.mp e
    obtain ⟨a, xs, rfl, r, hk⟩ := seq_ur R h e1
    rw [bools_vr e2 r] at hk
    rcases hk with ⟨_, z, _⟩ | ⟨_, _, hk⟩
    · rw [t] at z
      cases z
    · exact ⟨a, rfl, hk⟩
  · cases e
theorem bad_elim {K : PySem.W.Frag} {B : Addr → Prop} {base : Nat} {μ : List Addr} {st : Store} {H : Hp} {Q : VK} {P : Prop} (h : Post K B base xv EX (TU K) μ st H Q (.bad : R U)) : P := h.elim
theorem len_ok : CallR X (.builtin "len") (rUn X.K xv EX (biR .len)) := by
  intro pins s σ H vs us Q I r h
  obtain ⟨B, base, μ, st, as, R, ra, h⟩ := h
  unfold biR at h
  split at h <;> first | (rename_i e; cases e; done) | skip
  · rename_i x _
    obtain ⟨v, rfl, rv⟩ := one_of ra
    obtain rfl := v_str rv
    split at h
    · rename_i hl
      exact call_len_str pins s σ H _ us Q I r ⟨x, rfl, by rw [lim_eq]; exact hl, h.val R (.v (.int _))⟩
    · exact h.elim
  · obtain ⟨v, rfl, rv⟩ := one_of ra
    split at h
    · rename_i xs e
      obtain ⟨a, ys, rfl, ry, hk⟩ := seq_ur R rv e
      rw [Paired.length ry] at h
      refine call_len_seq pins s σ H _ us Q I r ⟨a, ys, rfl, ?_, h.val R (.v (.int _))⟩
      rcases hk with ⟨_, _, hk⟩ | ⟨_, _, hk⟩
      · exact .inr hk
      · exact .inl (.inl (.inl hk))
    · exact h.elim
  · exact h.elim

theorem abs_ok : CallR X (.builtin "abs") (rUn X.K xv EX (biR .abs)) := by
  intro pins s σ H vs us Q I r h
  obtain ⟨B, base, μ, st, as, R, ra, h⟩ := h
  unfold biR at h
  split at h <;> first | (rename_i e; cases e; done) | skip
  · obtain ⟨v, rfl, rv⟩ := one_of ra
    obtain rfl := v_int rv
    exact call_abs pins s σ H _ us Q I r ⟨_, rfl, h.val R (.v (.int _))⟩
  · exact h.elim
theorem max2_ok (hc : X.calm = true) : CallR X (.builtin "max") (rUn X.K xv EX (biR .max2)) := by
  intro pins s σ H vs us Q I r h
  obtain ⟨B, base, μ, st, as, R, ra, h⟩ := h
  unfold biR at h
  split at h <;> first | (rename_i e; cases e; done) | skip
  · obtain ⟨v, w, rfl, rv, rw'⟩ := two_of ra
    obtain rfl := v_int rv
    obtain rfl := v_int rw'
    exact call_max2 hc pins s σ H _ us Q I r ⟨_, _, rfl, h.val R (.v (.int _))⟩
  · exact h.elim
theorem min2_ok (hc : X.calm = true) : CallR X (.builtin "min") (rUn X.K xv EX (biR .min2)) := by
  intro pins s σ H vs us Q I r h
  obtain ⟨B, base, μ, st, as, R, ra, h⟩ := h
  unfold biR at h
  split at h <;> first | (rename_i e; cases e; done) | skip
  · obtain ⟨v, w, rfl, rv, rw'⟩ := two_of ra
    obtain rfl := v_int rv
    obtain rfl := v_int rw'
    exact call_min2 hc pins s σ H _ us Q I r ⟨_, _, rfl, h.val R (.v (.int _))⟩
  · exact h.elim
theorem maxF_le : ∀ (l : List Int) (a : Int), (l.foldl (fun m x => if x > m then x else m) a = a ∨ l.foldl (fun m x => if x > m then x else m) a ∈ l) ∧ a ≤ l.foldl (fun m x => if x > m then x else m) a ∧ ∀ y ∈ l, y ≤ l.foldl (fun m x => if x > m then x else m) a
  | [], a => ⟨.inl rfl, Int.le_refl _, fun _ h => nomatch h⟩
  | b :: l, a => by
    rw [List.foldl_cons]
    by_cases hb : b > a
    · rw [if_pos hb]
      obtain ⟨h1, h2, h3⟩ := maxF_le l b
      refine ⟨?_, by omega, fun y hy => ?_⟩
      · rcases h1 with h1 | h1
        · right; rw [h1]; exact List.mem_cons_self
        · exact .inr (List.mem_cons_of_mem _ h1)
      · rcases List.mem_cons.mp hy with rfl | hy
        · exact h2
        · exact h3 y hy
    · rw [if_neg hb]
      obtain ⟨h1, h2, h3⟩ := maxF_le l a
      refine ⟨?_, h2, fun y hy => ?_⟩
      · rcases h1 with h1 | h1
        · exact .inl h1
        · exact .inr (List.mem_cons_of_mem _ h1)
      · rcases List.mem_cons.mp hy with rfl | hy
        · omega
        · exact h3 y hy
theorem minF_le : ∀ (l : List Int) (a : Int), (l.foldl (fun m x => if x < m then x else m) a = a ∨ l.foldl (fun m x => if x < m then x else m) a ∈ l) ∧ l.foldl (fun m x => if x < m then x else m) a ≤ a ∧ ∀ y ∈ l, l.foldl (fun m x => if x < m then x else m) a ≤ y
  | [], a => ⟨.inl rfl, Int.le_refl _, fun _ h => nomatch h⟩
  | b :: l, a => by
    rw [List.foldl_cons]
    by_cases hb : b < a
    · rw [if_pos hb]
      obtain ⟨h1, h2, h3⟩ := minF_le l b
      refine ⟨?_, by omega, fun y hy => ?_⟩
      · rcases h1 with h1 | h1
        · right; rw [h1]; exact List.mem_cons_self
        · exact .inr (List.mem_cons_of_mem _ h1)
      · rcases List.mem_cons.mp hy with rfl | hy
        · exact h2
        · exact h3 y hy
    · rw [if_neg hb]
      obtain ⟨h1, h2, h3⟩ := minF_le l a
      refine ⟨?_, h2, fun y hy => ?_⟩
      · rcases h1 with h1 | h1
        · exact .inl h1
        · exact .inr (List.mem_cons_of_mem _ h1)
      · rcases List.mem_cons.mp hy with rfl | hy
        · omega
        · exact h3 y hy
theorem maxI_ok {l : List Int} {m : Int} (e : maxI l = some m) : 0 < l.length ∧ m ∈ l ∧ ∀ y ∈ l, y ≤ m := by
  cases l with
  | nil => cases e
  | cons a l =>
    obtain rfl := Option.some.inj e
    obtain ⟨h1, h2, h3⟩ := maxF_le l a
    refine ⟨Nat.succ_pos _, ?_, fun y hy => ?_⟩
    · rcases h1 with h1 | h1
      · rw [h1]; exact List.mem_cons_self
      · exact List.mem_cons_of_mem _ h1
    · rcases List.mem_cons.mp hy with rfl | hy
      · exact h2
      · exact h3 y hy
theorem minI_ok {l : List Int} {m : Int} (e : minI l = some m) : 0 < l.length ∧ m ∈ l ∧ ∀ y ∈ l, m ≤ y := by
  cases l with
  | nil => cases e
  | cons a l =>
    obtain rfl := Option.some.inj e
    obtain ⟨h1, h2, h3⟩ := minF_le l a
    refine ⟨Nat.succ_pos _, ?_, fun y hy => ?_⟩
    · rcases h1 with h1 | h1
      · rw [h1]; exact List.mem_cons_self
      · exact List.mem_cons_of_mem _ h1
    · rcases List.mem_cons.mp hy with rfl | hy
      · exact h2
      · exact h3 y hy
theorem max1_ok (hc : X.calm = true) : CallR X (.builtin "max") (rUn X.K xv EX (biR .max1)) := by
  intro pins s σ H vs us Q I r h
  obtain ⟨B, base, μ, st, as, R, ra, h⟩ := h
  unfold biR at h
  split at h <;> first | (rename_i e; cases e; done) | skip
  · obtain ⟨v, rfl, rv⟩ := one_of ra
    rename_i x _
    cases e : (seqI st x).bind maxI with
    | none => rw [e] at h; exact h.elim
    | some m =>
      rw [e] at h
      obtain ⟨l, e1, e2⟩ := Option.bind_eq_some_iff.mp e
      obtain ⟨a, rfl, hk⟩ := seqI_ur R rv e1
      obtain ⟨h1, h2, h3⟩ := maxI_ok e2
      refine cr_max hc pins s σ H _ us Q I r ⟨a, l, rfl, .inl (.inl hk), h1, fun m' g1 g2 => ?_⟩
      have em : m' = m := Int.le_antisymm (h3 m' g1) (g2 m h2)
      rw [em]
      exact h.val R (.v (.int _))
  · exact h.elim
theorem min1_ok (hc : X.calm = true) : CallR X (.builtin "min") (rUn X.K xv EX (biR .min1)) := by
  intro pins s σ H vs us Q I r h
  obtain ⟨B, base, μ, st, as, R, ra, h⟩ := h
  unfold biR at h
  split at h <;> first | (rename_i e; cases e; done) | skip
  · obtain ⟨v, rfl, rv⟩ := one_of ra
    rename_i x _
    cases e : (seqI st x).bind minI with
    | none => rw [e] at h; exact h.elim
    | some m =>
      rw [e] at h
      obtain ⟨l, e1, e2⟩ := Option.bind_eq_some_iff.mp e
      obtain ⟨a, rfl, hk⟩ := seqI_ur R rv e1
      obtain ⟨h1, h2, h3⟩ := minI_ok e2
      refine cr_min hc pins s σ H _ us Q I r ⟨a, l, rfl, .inl (.inl hk), h1, fun m' g1 g2 => ?_⟩
      have em : m' = m := Int.le_antisymm (g2 m h2) (h3 m' g1)
      rw [em]
      exact h.val R (.v (.int _))
  · exact h.elim
theorem sum_ok (hc : X.calm = true) : CallR X (.builtin "sum") (rUn X.K xv EX (biR .sum)) := by
  intro pins s σ H vs us Q I r h
  obtain ⟨B, base, μ, st, as, R, ra, h⟩ := h
  unfold biR at h
  split at h <;> first | (rename_i e; cases e; done) | skip
  · obtain ⟨v, rfl, rv⟩ := one_of ra
    rename_i x _
    cases e : seqI st x with
    | none => rw [e] at h; exact h.elim
    | some l =>
      rw [e] at h
      obtain ⟨a, rfl, hk⟩ := seqI_ur R rv e
      exact cr_sum hc pins s σ H _ us Q I r ⟨a, l, rfl, .inl (.inl hk), h.val R (.v (.int _))⟩
  · exact h.elim
theorem all_ok (hc : X.calm = true) : CallR X (.builtin "all") (rUn X.K xv EX (biR .all)) := by
  intro pins s σ H vs us Q I r h
  obtain ⟨B, base, μ, st, as, R, ra, h⟩ := h
  unfold biR at h
  split at h <;> first | (rename_i e; cases e; done) | skip
  · obtain ⟨v, rfl, rv⟩ := one_of ra
    rename_i x _
    cases e : seqB st x with
    | none => rw [e] at h; exact h.elim
    | some l =>
      rw [e] at h
      obtain ⟨a, rfl, hk⟩ := seqB_ur R rv e
      exact cr_all hc pins s σ H _ us Q I r ⟨a, l, rfl, .inl (.inl hk), h.val R (.v (.bl _))⟩
  · exact h.elim
theorem any_ok (hc : X.calm = true) : CallR X (.builtin "any") (rUn X.K xv EX (biR .any)) := by
  intro pins s σ H vs us Q I r h
  obtain ⟨B, base, μ, st, as, R, ra, h⟩ := h
  unfold biR at h
  split at h <;> first | (rename_i e; cases e; done) | skip
  · obtain ⟨v, rfl, rv⟩ := one_of ra
    rename_i x _
    cases e : seqB st x with
    | none => rw [e] at h; exact h.elim
    | some l =>
      rw [e] at h
      obtain ⟨a, rfl, hk⟩ := seqB_ur R rv e
      exact cr_any hc pins s σ H _ us Q I r ⟨a, l, rfl, .inl (.inl hk), h.val R (.v (.bl _))⟩
  · exact h.elim
theorem int_ok : CallR X (.type "int") (rUn X.K xv EX (biR .int)) := by
  intro pins s σ H vs us Q I r h
  obtain ⟨B, base, μ, st, as, R, ra, h⟩ := h
  unfold biR at h
  split at h <;> first | (rename_i e; cases e; done) | skip
  · obtain ⟨v, rfl, rv⟩ := one_of ra
    obtain rfl := v_int rv
    exact call_int1 pins s σ H _ us Q I r (.inl ⟨_, rfl, h.val R (.v (.int _))⟩)
  · obtain ⟨v, rfl, rv⟩ := one_of ra
    obtain rfl := v_bool rv
    exact call_int1 pins s σ H _ us Q I r (.inr ⟨_, rfl, h.val R (.v (.int _))⟩)
  · exact h.elim
theorem str_ok : CallR X (.type "str") (rUn X.K xv EX (biR .str)) := by
  intro pins s σ H vs us Q I r h
  obtain ⟨B, base, μ, st, as, R, ra, h⟩ := h
  unfold biR at h
  split at h <;> first | (rename_i e; cases e; done) | skip
  · obtain ⟨v, rfl, rv⟩ := one_of ra
    obtain rfl := v_int rv
    split at h
    · rename_i hl
      exact call_str_int pins s σ H _ us Q I r ⟨_, rfl, hl, h.val R (.v (.str _))⟩
    · exact h.elim
  · exact h.elim
theorem tuple_ok : CallR X (.type "tuple") (rUn X.K xv EX (biR .tuple)) := by
  intro pins s σ H vs us Q I r h
  obtain ⟨B, base, μ, st, as, R, ra, h⟩ := h
  unfold biR at h
  split at h <;> first | (rename_i e; cases e; done) | skip
  · obtain ⟨v, rfl, rv⟩ := one_of ra
    split at h
    · rename_i ws e
      obtain ⟨xs, e1, e2⟩ := Option.bind_eq_some_iff.mp e
      obtain ⟨a, ys, rfl, ry, hk⟩ := seq_ur R rv e1
      have rw' := VRs.of_paired ry e2
      refine call_tuple_of pins s σ H _ us Q I r ⟨a, ys, rfl, ?_⟩
      rcases hk with ⟨_, _, hk⟩ | ⟨_, _, hk⟩
      · exact .inr ⟨hk, h.val R (.v (.tup hk rw'))⟩
      · exact .inl ⟨.inl (.inl hk), fun l n => h.tup R rw' n⟩
    · exact h.elim
  · exact h.elim
theorem list_ok {m : Bool} : CallR X (.type "list") (rUn X.K xv EX (biR (.list m))) := by
  intro pins s σ H vs us Q I r h
  obtain ⟨B, base, μ, st, as, R, ra, h⟩ := h
  unfold biR at h
  split at h <;> first | (rename_i e; cases e; done) | skip
  · rename_i e
    cases e
    obtain ⟨v, rfl, rv⟩ := one_of ra
    split at h
    · rename_i xs e1
      obtain ⟨a, ys, rfl, ry, hk⟩ := seq_ur R rv e1
      obtain ⟨_, g⟩ := h.mkL R ry
      refine call_list_of pins s σ H _ us Q I r ⟨a, ys, rfl, ?_, g⟩
      rcases hk with ⟨_, _, hk⟩ | ⟨_, _, hk⟩
      · exact .inr hk
      · exact .inl (.inl (.inl hk))
    · exact h.elim
  · exact h.elim
theorem ins_perm (x : Int) : ∀ l : List Int, (ins x l).Perm (x :: l)
  | [] => .refl _
  | y :: r => by
    unfold ins
    split
    · exact .refl _
    · exact ((ins_perm x r).cons y).trans (.swap x y r)
theorem isort_perm : ∀ l : List Int, (isort l).Perm l
  | [] => .refl _
  | x :: r => (ins_perm x (isort r)).trans ((isort_perm r).cons x)
theorem ins_sorted (x : Int) : ∀ l : List Int, l.Pairwise (· ≤ ·) → (ins x l).Pairwise (· ≤ ·)
  | [], _ => by simp [ins]
  | y :: r, h => by
    unfold ins
    split
    · rename_i hxy
      rw [List.pairwise_cons]
      refine ⟨fun a ha => ?_, h⟩
      rcases List.mem_cons.mp ha with rfl | ha
      · exact hxy
      · exact Int.le_trans hxy ((List.pairwise_cons.mp h).1 a ha)
    · rename_i hxy
      rw [List.pairwise_cons] at h ⊢
      refine ⟨fun a ha => ?_, ins_sorted x r h.2⟩
      rcases List.mem_cons.mp ((ins_perm x r).mem_iff.mp ha) with rfl | ha
      · omega
      · exact h.1 a ha
theorem isort_sorted : ∀ l : List Int, (isort l).Pairwise (· ≤ ·)
  | [] => .nil
  | x :: r => ins_sorted x _ (isort_sorted r)
theorem sorted_one {a b : List Int} (p : a.Perm b) (ha : a.Pairwise (· ≤ ·)) (hb : b.Pairwise (· ≤ ·)) : a = b :=
  List.Perm.eq_of_pairwise (fun x y _ _ h1 h2 => Int.le_antisymm h1 h2) ha hb p
theorem ints_urs {K : PySem.W.Frag} {O : Addr → Prop} {H : Hp} {μ : List Addr} : ∀ l : List Int, URs K O H μ (l.map fun i => U.v (.int i)) (l.map V.int)
  | [] => .nil
  | i :: r => .cons (.v (.int i)) (ints_urs r)
theorem sorted_ok {m : Bool} : CallR X (.builtin "sorted") (rUn X.K xv EX (biR (.sorted m))) := by
  intro pins s σ H vs us Q I r h
  obtain ⟨B, base, μ, st, as, R, ra, h⟩ := h
  unfold biR at h
  split at h <;> first | (rename_i e; cases e; done) | skip
  · rename_i e
    cases e
    obtain ⟨v, rfl, rv⟩ := one_of ra
    split at h
    · rename_i l e1
      obtain ⟨a, rfl, hk⟩ := seqI_ur R rv e1
      refine cr_sortedI pins s σ H _ us Q I r ⟨a, l, rfl, .inl (.inl hk), fun ns p g1 g2 n => ?_⟩
      rw [sorted_one (g1.trans (isort_perm l).symm) g2 (isort_sorted l)]
      exact (h.mkL R (ints_urs _)).2 p n
    · exact h.elim
  · exact h.elim
theorem ord_ok : CallR X (.builtin "ord") (rUn X.K xv EX (biR .ord)) := by
  intro pins s σ H vs us Q I r h
  obtain ⟨B, base, μ, st, as, R, ra, h⟩ := h
  unfold biR at h
  split at h <;> first | (rename_i e; cases e; done) | skip
  · obtain ⟨v, rfl, rv⟩ := one_of ra
    obtain rfl := v_str rv
    split at h
    · rename_i hl
      exact call_ord pins s σ H _ us Q I r ⟨_, rfl, hl, h.val R (.v (.int _))⟩
    · exact h.elim
  · exact h.elim
theorem gcd_ok : CallR X (.builtin "math.gcd") (rUn X.K xv EX (biR .gcd)) := by
  intro pins s σ H vs us Q I r h
  obtain ⟨B, base, μ, st, as, R, ra, h⟩ := h
  unfold biR at h
  split at h <;> first | (rename_i e; cases e; done) | skip
  · obtain ⟨v, w, rfl, rv, rw'⟩ := two_of ra
    obtain rfl := v_int rv
    obtain rfl := v_int rw'
    exact cr_gcd pins s σ H _ us Q I r ⟨_, _, rfl, h.val R (.v (.int _))⟩
  · exact h.elim
/-- a kind's name -/
def Kd.ty : Kd → String
  | .none => "NoneType"
  | .bool => "bool"
  | .int => "int"
  | .str => "str"
  | .tuple => "tuple"
  | .list => "list"
  | .bad => ""
theorem kind_ty {K : PySem.W.Frag} {B : Addr → Prop} {base : Nat} {μ : List Addr} {st : Store} {H : Hp} (R : SRel K B base μ st H) {u : U} {v : V} (h : UR K (Own B μ st) H μ u v) (hk : kind u ≠ .bad) : TyX K H v (.type (kind u).ty) := by
  cases h with
  | ref h =>
    rename_i r a
    have hr : r < st.length := by rw [← R.len]; exact (List.getElem?_eq_some_iff.mp h).1
    obtain ⟨a', xs, h1, h2, _⟩ := R.cell r st[r] (List.getElem?_eq_getElem hr)
    rw [h] at h1
    cases h1
    exact .base (.lst h2)
  | v h =>
    cases h with
    | non => exact .base .non
    | bl b => exact .base (.bl b)
    | int i => exact .base (.int i)
    | str x => exact .base (.str x)
    | tup h r =>
      rcases h with (h | ⟨o, h⟩) | ⟨o, its, n, h1, h2, _⟩
      · exact .base (.tup h)
      · exact .fTuple h
      · exact .kTuple h1 h2
    | lst h n r => exact .base (.lst h)
    | scr h n r => exact absurd rfl hk
    | scrK h r => exact absurd rfl hk
theorem kit_kd {K : PySem.W.Frag} {a b : Kd} (ha : a ≠ .bad) (hb : b ≠ .bad) (hb2 : b ≠ .none) : PySem.W.kitOne K (.type a.ty) (.type b.ty) = some (isaK a b) := by
  cases a <;> cases b <;> first | exact absurd rfl ha | exact absurd rfl hb | exact absurd rfl hb2 | exact kit_ty (by decide +kernel)
end
end PI

/-! methods, stores, op= by values -/
namespace PI
open PySem PySem.Spec PyProof.Rows L2
section
variable {X : Cx} {xv : XV} {EX : XK}
theorem cells_get {K : PySem.W.Frag} {B : Addr → Prop} {base : Nat} {μ : List Addr} {st : Store} {H : Hp} (R : SRel K B base μ st H) {r : Nat} {v : V} {xs : List U} (h : UR K (Own B μ st) H μ (.ref r) v) (e : cells st r = some xs) :
    ∃ a vs c, v = .ref a ∧ μ[r]? = some a ∧ st[r]? = some c ∧ c.xs = xs ∧ H a = some (.lst vs) ∧ URs K (Own B μ st) H μ xs vs := by
  obtain ⟨c, hc, rfl⟩ := Option.map_eq_some_iff.mp e
  cases h with
  | ref h =>
    obtain ⟨a, vs, h1, h2, h3⟩ := R.cell r c hc
    rw [h] at h1
    cases h1
    exact ⟨_, vs, c, rfl, h, hc, rfl, h2, h3⟩
theorem setC_some {base r : Nat} {xs : List U} {y : U} {st st' : Store} (e : setC base r xs y st = some st') : ∃ c : Cell, st[r]? = some c ∧ c.lv = .live ∧ (base ≤ r ∨ isV y = true) ∧ xs.length ≤ lim ∧ st' = st.set r ⟨.live, xs⟩ := by
  unfold setC at e
  cases hc : st[r]? with
  | none => rw [hc] at e; cases e
  | some c =>
    rw [hc] at e
    dsimp only at e
    split at e
    · rename_i h
      simp only [Bool.and_eq_true, Bool.or_eq_true, decide_eq_true_eq] at h
      exact ⟨c, rfl, h.1.1, h.1.2, h.2, (Option.some.inj e).symm⟩
    · cases e
/-- the reading of a method by values -/
def rUm (K : PySem.W.Frag) (xv : XV) (EX : XK) (f : Nat → U → List U → Store → R U) : V → List V → Hp → VK → Prop := fun x vs H Q => ∃ B base μ st u us, SRel K B base μ st H ∧ UR K (Own B μ st) H μ u x ∧ URs K (Own B μ st) H μ us vs ∧ Post K B base xv EX (TU K) μ st H Q (f base u us st)
theorem append_ok : MtR X "list.append" (rUm X.K xv EX fun base => mtR base .append) := by
  intro pins s σ H x vs v us Q I rx rv h
  obtain ⟨B, base, μ, st, u, as, R, ru, ra, h⟩ := h
  dsimp only at h
  unfold mtR at h
  split at h <;> first | (rename_i e; cases e; done) | skip
  · rename_i r y _
    split at h
    · rename_i xs e
      obtain ⟨a, ys, c, rfl, h1, h2, rfl, h4, h5⟩ := cells_get R ru e
      obtain ⟨w, rfl, rw'⟩ := one_of ra
      cases e2 : setC base r (c.xs ++ [y]) y st with
      | none => rw [e2] at h; exact h.elim
      | some st' =>
        rw [e2] at h
        obtain ⟨c', g1, g2, g3, g4, rfl⟩ := setC_some e2
        rw [h2] at g1
        cases g1
        have hl := Paired.length h5
        obtain ⟨R1, S1⟩ := R.put h2 g2 h1 (pairApp h5 (.cons rw' .nil)) (fun hr k hk => by
          rcases List.mem_append.mp hk with hk | hk
          · exact hk
          · rcases g3 with g3 | g3
            · omega
            · rw [← List.mem_singleton.mp hk] at g3
              cases g3)
        refine mt_append pins s σ H _ _ v us Q I rx rv ⟨a, ys, w, rfl, rfl, h4, ?_, h μ _ _ S1 R1 (.v .non)⟩
        rw [lim_eq]
        simp only [List.length_append, List.length_singleton] at g4
        omega
    · exact h.elim
  all_goals exact h.elim
theorem getLast_at {α : Type} {l : List α} {y : α} (e : l.getLast? = some y) : l[l.length - 1]? = some y := by
  rw [List.getLast?_eq_getElem?] at e
  exact e
theorem pairInit {α β : Type} {F : α → β → Prop} {xs : List α} {ys : List β} (h : Paired F xs ys) : Paired F xs.dropLast ys.dropLast := by
  rw [List.dropLast_eq_take, List.dropLast_eq_take, Paired.length h]
  exact pairTake h _
theorem pop_ok : MtR X "list.pop" (rUm X.K xv EX fun base => mtR base .pop) := by
  intro pins s σ H x vs v us Q I rx rv h
  obtain ⟨B, base, μ, st, u, as, R, ru, ra, h⟩ := h
  dsimp only at h
  unfold mtR at h
  split at h <;> first | (rename_i e; cases e; done) | skip
  · rename_i r _
    split at h
    · rename_i xs e
      obtain ⟨a, ys, c, rfl, h1, h2, rfl, h4, h5⟩ := cells_get R ru e
      cases ra
      split at h
      · rename_i y ey
        cases e2 : setC base r c.xs.dropLast (.v .none) st with
        | none => rw [e2] at h; exact h.elim
        | some st' =>
          rw [e2] at h
          obtain ⟨c', g1, g2, g3, g4, rfl⟩ := setC_some e2
          rw [h2] at g1
          cases g1
          obtain ⟨z, hz, rz⟩ := Paired.at h5 (getLast_at ey)
          rw [Paired.length h5] at hz
          obtain ⟨R1, S1⟩ := R.put h2 g2 h1 (pairInit h5) (fun hr k hk => List.dropLast_subset _ hk)
          exact mt_pop pins s σ H _ _ v us Q I rx rv ⟨a, ys, z, rfl, rfl, h4, hz, h μ _ _ S1 R1 (S1.ur R rz)⟩
      · exact h.elim
    · exact h.elim
  all_goals exact h.elim
theorem pairRev {α β : Type} {F : α → β → Prop} : ∀ {xs : List α} {ys : List β}, Paired F xs ys → Paired F xs.reverse ys.reverse
  | _, _, .nil => .nil
  | _, _, .cons r t => by
    rw [List.reverse_cons, List.reverse_cons]
    exact pairApp (pairRev t) (.cons r .nil)
theorem reverse_ok : MtR X "list.reverse" (rUm X.K xv EX fun base => mtR base .reverse) := by
  intro pins s σ H x vs v us Q I rx rv h
  obtain ⟨B, base, μ, st, u, as, R, ru, ra, h⟩ := h
  dsimp only at h
  unfold mtR at h
  split at h <;> first | (rename_i e; cases e; done) | skip
  · rename_i r _
    split at h
    · rename_i xs e
      obtain ⟨a, ys, c, rfl, h1, h2, rfl, h4, h5⟩ := cells_get R ru e
      cases ra
      cases e2 : setC base r c.xs.reverse (.v .none) st with
      | none => rw [e2] at h; exact h.elim
      | some st' =>
        rw [e2] at h
        obtain ⟨c', g1, g2, g3, g4, rfl⟩ := setC_some e2
        rw [h2] at g1
        cases g1
        obtain ⟨R1, S1⟩ := R.put h2 g2 h1 (pairRev h5) (fun hr k hk => by simpa using hk)
        exact mt_reverse pins s σ H _ _ v us Q I rx rv ⟨a, ys, rfl, rfl, h4, h μ _ _ S1 R1 (.v .non)⟩
    · exact h.elim
  all_goals exact h.elim
theorem no_ref {ws : List W} {k : Nat} : U.ref k ∉ ws.map U.v := fun h => by
  obtain ⟨w, _, e⟩ := List.mem_map.mp h
  cases e
theorem extend_ok : MtR X "list.extend" (rUm X.K xv EX fun base => mtR base .extend) := by
  intro pins s σ H x vs v us Q I rx rv h
  obtain ⟨B, base, μ, st, u, as, R, ru, ra, h⟩ := h
  dsimp only at h
  unfold mtR at h
  split at h <;> first | (rename_i e; cases e; done) | skip
  · rename_i r y _
    split at h
    · rename_i xs zs e ez
      obtain ⟨a, ys, c, rfl, h1, h2, rfl, h4, h5⟩ := cells_get R ru e
      obtain ⟨w, rfl, rw'⟩ := one_of ra
      split at h
      · rename_i hp
        rw [Bool.and_eq_true] at hp
        obtain ⟨ws, ep⟩ := Option.isSome_iff_exists.mp hp.1
        obtain ⟨b, vs2, rfl, r2, hk⟩ := seq_ur R rw' ez
        have hb : H b = some (.lst vs2) := by
          rcases hk with ⟨_, t, _⟩ | ⟨_, _, hk⟩
          · rw [hp.2] at t
            cases t
          · exact hk
        cases e2 : setC base r (c.xs ++ zs) (.v .none) st with
        | none => rw [e2] at h; exact h.elim
        | some st' =>
          rw [e2] at h
          obtain ⟨c', g1, g2, g3, g4, rfl⟩ := setC_some e2
          rw [h2] at g1
          cases g1
          obtain ⟨R1, S1⟩ := R.put h2 g2 h1 (pairApp h5 r2) (fun hr k hk => by
            rcases List.mem_append.mp hk with hk | hk
            · exact hk
            · rw [pures_map ep] at hk
              exact absurd hk no_ref)
          refine mt_extend pins s σ H _ _ v us Q I rx rv ⟨a, b, ys, vs2, rfl, rfl, h4, hb, ?_, h μ _ _ S1 R1 (.v .non)⟩
          rw [lim_eq, ← Paired.length h5, ← Paired.length r2, ← List.length_append]
          exact g4
      · exact h.elim
    · exact h.elim
  all_goals exact h.elim

/-! ### stores -/
def rSt (K : PySem.W.Frag) : TSet := fun o i v H Q => ∃ B base μ st st' uo ui uv, SRel K B base μ st H ∧ UR K (Own B μ st) H μ uo o ∧ UR K (Own B μ st) H μ ui i ∧ UR K (Own B μ st) H μ uv v ∧ setU base uo ui uv st = some st' ∧
  ∀ H', Stp B base μ st H μ st' H' → SRel K B base μ st' H' → Q H'
theorem pairSet {α β : Type} {F : α → β → Prop} {x : α} {y : β} (r : F x y) : ∀ {xs : List α} {ys : List β}, Paired F xs ys → ∀ i : Nat, Paired F (xs.set i x) (ys.set i y)
  | _, _, .nil, _ => .nil
  | _, _, .cons _ t, 0 => .cons r t
  | _, _, .cons q t, i + 1 => .cons q (pairSet r t i)
theorem st_ok : PSet X (rSt X.K) := by
  intro pins s σ H o i v ov iv u Q I ro ri rv h
  obtain ⟨B, base, μ, st, st', uo, ui, uv, R, r1, r2, r3, e, q⟩ := h
  unfold setU at e
  split at e
  · rename_i r k
    obtain rfl := v_int r2
    split at e
    · rename_i xs e1
      obtain ⟨a, ys, c, rfl, h1, h2, rfl, h4, h5⟩ := cells_get R r1 e1
      split at e
      · rename_i j ej
        obtain ⟨c', g1, g2, g3, g4, rfl⟩ := setC_some e
        rw [h2] at g1
        cases g1
        obtain ⟨R1, S1⟩ := R.put h2 g2 h1 (pairSet r3 h5 j) (fun hr k' hk => by
          rcases List.mem_or_eq_of_mem_set hk with hk | hk
          · exact hk
          · rcases g3 with g3 | g3
            · omega
            · rw [← hk] at g3
              cases g3)
        exact set_list pins s σ H _ _ _ ov iv u Q I ro ri rv ⟨a, ys, k, j, rfl, rfl, h4, by rw [← Paired.length h5]; exact ej, q _ S1 R1⟩
      · cases e
    · cases e
  · cases e
/-- o[i] read for op= -/
def rGt (K : PySem.W.Frag) : V → V → Hp → VK → Prop := fun o i H Q => ∃ p xs k z, o = .ref p ∧ i = .int k ∧ SqL K H p xs ∧ atI xs k = some z ∧ Q z H
theorem gt_list : PGet X (rGt X.K) := by
  intro pins s σ H o i ov iv Q I ro ri h
  obtain ⟨p, xs, k, z, rfl, rfl, hq, he, q⟩ := h
  cases ro
  obtain ⟨t, rfl⟩ := ri
  obtain ⟨its, r, pl, hz⟩ := I.list hq
  obtain ⟨j, h1, h2, h3, h4, h5⟩ := atI_get he
  obtain ⟨w, ew, rz⟩ := r.get h2
  have hl := r.length
  have hn := line63
  have done : EP X pins σ Q w s := ⟨z, H, I, rz, q⟩
  by_cases h0 : 0 ≤ k
  · have hj : k.toNat = j := by
      have g := (seqIndex_of h0 h5).symm.trans h1
      exact Option.some.inj g
    refine wpAny_getItem_list (x := w) pl.isList h0 ?_ ?_ done
    · omega
    · rw [hj]
      simpa using ew
  · have hj : (k + (its.toArray.size : Int)).toNat = j := by
      have g := (seqIndex_neg (Int.not_le.mp h0) h4).symm.trans h1
      rw [List.size_toArray, ← hl]
      exact Option.some.inj g
    refine wpAny_getItem_list_neg (x := w) pl.isList (Int.not_le.mp h0) ?_ ?_ ?_ done
    · rw [List.size_toArray, ← hl]
      exact h4
    · omega
    · rw [hj]
      simpa using ew
theorem aug_ok {o : Operator} : PIp X o (fun x y H Q => ∃ B base μ st u w z, SRel X.K B base μ st H ∧ UR X.K (Own B μ st) H μ u x ∧ UR X.K (Own B μ st) H μ w y ∧ augU o u w = some z ∧ ∀ v, UR X.K (Own B μ st) H μ z v → Q v H) := by
  intro pins s σ H x y v u Q I rx ry h
  obtain ⟨B, base, μ, st, a, b, z, R, ra, rb, e, q⟩ := h
  unfold augU at e
  split at e
  · rename_i i j
    obtain rfl := v_int ra
    obtain rfl := v_int rb
    split at e
    · obtain rfl := Option.some.inj e
      exact ip_add pins s σ H _ _ v u Q I rx ry ⟨i, j, rfl, rfl, q _ (.v (.int _))⟩
    · obtain rfl := Option.some.inj e
      exact ip_sub pins s σ H _ _ v u Q I rx ry ⟨i, j, rfl, rfl, q _ (.v (.int _))⟩
    · split at e
      · rename_i hc
        obtain rfl := Option.some.inj e
        simp only [Bool.or_eq_true, decide_eq_true_eq] at hc
        exact iop_mul pins s σ H _ _ v u Q I rx ry ⟨i, j, rfl, rfl, hc.elim (fun h => .inl (by omega)) (fun h => .inr (by omega)), q _ (.v (.int _))⟩
      · cases e
    · cases e
  · cases e
end
end PI

/-! expressions: the evaluator's run stands for the model's -/
namespace PI
open PySem PySem.Spec PyProof.Rows L2

/-- what a text has: its defs by number, their names, constants; how exceptions stand -/
structure Tab where
  fns : List Fn
  nm : List Str
  glb : List (Str × W)
  xv : XV
  gcd : Bool := false
/-- the promise of a def: what the evaluator's call gives -/
def spF (T : Tab) (K : PySem.W.Frag) (d f : Nat) : Sp := fun vs H Q E => ∃ (F : Fn) (B : Addr → Prop) (μ : List Addr) (st : Store) (us : List U), T.fns[f]? = some F ∧ us.length = F.np ∧ SRel K B st.length μ st H ∧ URs K (Own B μ st) H μ us vs ∧
  Post K B st.length T.xv E (TU K) μ st H Q (callD T.fns d f us st)
def bltNames : List Str := ["len", "abs", "max", "min", "sum", "all", "any", "int", "str", "tuple", "list", "sorted", "isinstance", "bool", "ord", "divmod", "range", "enumerate", "zip", "reversed", "set"]
/-- what names are at a place of the text: the slots, the scope as it runs, the scope as it is written -/
structure MC where
  N : List Str
  sc : Scope
  raw : Scope
structure Ctx (T : Tab) (d : Nat) (M : MC) (X : Cx) (EX : XK) : Prop where
  hN : X.N = M.N
  nd : M.N.Nodup
  sc : X.env.scope = M.sc
  fkd : M.sc.kind = .function
  tgn : ∀ x, (M.raw.names.lookup x = some .local ∨ M.raw.names.lookup x = some .cell) → Loc M.sc x ∧ (X.fn x = true ∨ M.sc.names.lookup x = some .local)
  calm : X.calm = true
  room : Room d X.A
  un : X.A.units + 65 < cLine
  pass : Passes (L2.CX X.prog X.w) X EX
  fns : ∀ f F x, T.fns[f]? = some F → T.nm[f]? = some x → ∃ fa fd ps, X.mg x = some (.ref fa) ∧ PySem.W.keepIn X.K (.ref fa) = true ∧ Binds X.K fd ps [] ∧ ps.length = F.np ∧ FnOk X.prog X.w X.K X.mg X.base (L2.CX X.prog X.w) d fa fd ps (spF T X.K d f)
  bt : ∀ x ∈ bltNames, X.mg x = none
  gc : T.gcd = true → X.mg "gcd" = some (.builtin "math.gcd")
  own : PassesOwn (model X.prog X.w) X.A X.env X.xe
  glb : ∀ x w, (x, w) ∈ T.glb → ∃ u v, X.mg x = some u ∧ RelV v u ∧ ∀ O H, VR X.K O H w v

/-! ### readings -/
section
variable (K : PySem.W.Frag) (T : Tab) (EX : XK)
/-- a run at a state -/
def Rd1 {α β : Type} (RR : (Addr → Prop) → Hp → List Addr → α → β → Prop) (run : Nat → Env → Store → R α) (σ : L2.St) (H : Hp) (Q : β → Hp → Prop) : Prop :=
  ∃ B base μ st ρ, SRel K B base μ st H ∧ ERel K (Own B μ st) H μ ρ σ ∧ Post K B base T.xv EX RR μ st H Q (run base ρ st)
abbrev tE (C : Call) (e : E) : TE := fun σ H Q => Rd1 K T EX (TU K) (fun base ρ st => evalE C base e ρ st) σ H Q
def testE (C : Call) (base : Nat) (e : E) (ρ : Env) (st : Store) : R Bool := (evalE C base e ρ st).bind fun x st => okT st (truth st x)
abbrev tT (C : Call) (e : E) : TT := fun σ H Q => Rd1 K T EX TB (fun base ρ st => testE C base e ρ st) σ H Q
abbrev tA (C : Call) (es : Es) : TA := fun σ H Q => Rd1 K T EX (TUs K) (fun base ρ st => evalEs C base es ρ st) σ H Q
end
section
variable {K : PySem.W.Frag} {T : Tab} {EX : XK} {α β γ δ ι : Type} {R1 : (Addr → Prop) → Hp → List Addr → α → β → Prop} {R2 : (Addr → Prop) → Hp → List Addr → γ → δ → Prop}
theorem Rd1.mono {run : Nat → Env → Store → R α} {σ : L2.St} {H : Hp} {Q Q' : β → Hp → Prop} (f : ∀ b H, Q b H → Q' b H) (h : Rd1 K T EX R1 run σ H Q) : Rd1 K T EX R1 run σ H Q' := by
  obtain ⟨B, base, μ, st, ρ, R, E, h⟩ := h
  exact ⟨B, base, μ, st, ρ, R, E, h.mono f⟩
/-- what is carried from step to step -/
def Stay (Z : ι → (Addr → Prop) → Hp → List Addr → Prop) : Prop := ∀ i (O O' : Addr → Prop) (H H' : Hp) (μ μ' : List Addr), Hold O O' H H' → (∃ t, μ' = μ ++ t) → Z i O H μ → Z i O' H' μ'
/-- a step within a run -/
def Mid (K : PySem.W.Frag) (T : Tab) (EX : XK) (R2 : (Addr → Prop) → Hp → List Addr → γ → δ → Prop) (Z : ι → (Addr → Prop) → Hp → List Addr → Prop) (f : Nat → Env → ι → Store → R γ) (σ : L2.St) (H : Hp) (Q : δ → Hp → Prop) : Prop :=
  ∃ B base μ st ρ i, SRel K B base μ st H ∧ ERel K (Own B μ st) H μ ρ σ ∧ Z i (Own B μ st) H μ ∧ Post K B base T.xv EX R2 μ st H Q (f base ρ i st)
theorem Mid.ev {Z : ι → (Addr → Prop) → Hp → List Addr → Prop} (hZ : Stay Z) {run : Nat → Env → Store → R α} {f : Nat → Env → ι → α → Store → R γ} {σ : L2.St} {H : Hp} {Q : δ → Hp → Prop}
    (h : Mid K T EX R2 Z (fun base ρ i st => (run base ρ st).bind (f base ρ i)) σ H Q) : Rd1 K T EX R1 run σ H (fun y H1 => Mid K T EX R2 (fun (p : ι × α) O H μ => Z p.1 O H μ ∧ R1 O H μ p.2 y) (fun base ρ p st => f base ρ p.1 p.2 st) σ H1 Q) := by
  obtain ⟨B, base, μ, st, ρ, i, R, E, z, h⟩ := h
  refine ⟨B, base, μ, st, ρ, R, E, (Post.bind (T := R1) h).mono fun y H1 q => ?_⟩
  obtain ⟨x, μ1, st1, S1, R', t, q⟩ := q
  exact ⟨B, base, μ1, st1, ρ, (i, x), R', S1.env R E, ⟨hZ i _ _ _ _ _ _ (S1.hold R) S1.ext z, t⟩, q⟩
theorem Rd1.mid {run : Nat → Env → Store → R γ} {σ : L2.St} {H : Hp} {Q : δ → Hp → Prop} (h : Rd1 K T EX R2 run σ H Q) : Mid K T EX R2 (fun (_ : Unit) _ _ _ => True) (fun base ρ _ st => run base ρ st) σ H Q := by
  obtain ⟨B, base, μ, st, ρ, R, E, h⟩ := h
  exact ⟨B, base, μ, st, ρ, (), R, E, trivial, h⟩
theorem stay0 : Stay (fun (_ : Unit) _ _ _ => True) := fun _ _ _ _ _ _ _ _ _ _ => trivial
theorem stayU {Z : ι → (Addr → Prop) → Hp → List Addr → Prop} (hZ : Stay Z) {y : V} : Stay (fun (p : ι × U) O H μ => Z p.1 O H μ ∧ TU K O H μ p.2 y) := fun p _ _ _ _ _ _ e m z => ⟨hZ p.1 _ _ _ _ _ _ e m z.1, z.2.hold e m⟩
theorem stayUs {Z : ι → (Addr → Prop) → Hp → List Addr → Prop} (hZ : Stay Z) {ys : List V} : Stay (fun (p : ι × List U) O H μ => Z p.1 O H μ ∧ TUs K O H μ p.2 ys) := fun p _ _ _ _ _ _ e m z => ⟨hZ p.1 _ _ _ _ _ _ e m z.1, URs.hold e m z.2⟩
theorem stayB {Z : ι → (Addr → Prop) → Hp → List Addr → Prop} (hZ : Stay Z) {y : Bool} : Stay (fun (p : ι × Bool) O H μ => Z p.1 O H μ ∧ TB O H μ p.2 y) := fun p _ _ _ _ _ _ e m z => ⟨hZ p.1 _ _ _ _ _ _ e m z.1, z.2⟩
end

/-! ### rules -/
section
variable {X : Cx} {T : Tab} {EX : XK} {C : Call}
theorem PE.imp {e : Expr} {t t' : TE} (h : PE X e t) (f : ∀ σ H Q, t' σ H Q → t σ H Q) : PE X e t' := ⟨fun pins s σ H Q I q => h.run pins s σ H Q I (f σ H Q q)⟩
theorem PT.imp {e : Expr} {t t' : TT} (h : PT X e t) (f : ∀ σ H Q, t' σ H Q → t σ H Q) : PT X e t' := ⟨fun pins s σ H Q I q => h.run pins s σ H Q I (f σ H Q q)⟩
theorem PW.imp {e : Expr} {t t' : TT} (h : PW X e t) (f : ∀ σ H Q, t' σ H Q → t σ H Q) : PW X e t' := ⟨fun wh pins s σ H Q I q => h.run wh pins s σ H Q I (f σ H Q q)⟩
theorem PA.imp {es : List Expr} {t t' : TA} (h : PA X es t) (f : ∀ σ H Q, t' σ H Q → t σ H Q) : PA X es t' := ⟨fun pos pins s σ H Q I q => h.run pos pins s σ H Q I (f σ H Q q)⟩
abbrev pE (X : Cx) (T : Tab) (EX : XK) (C : Call) (x : Expr) (e : E) : Prop := PE X x (tE X.K T EX C e)
abbrev pT (X : Cx) (T : Tab) (EX : XK) (C : Call) (x : Expr) (e : E) : Prop := PT X x (tT X.K T EX C e)
abbrev pA (X : Cx) (T : Tab) (EX : XK) (C : Call) (xs : List Expr) (es : Es) : Prop := PA X xs (tA X.K T EX C es)
theorem r_op {o : Operator} {m : Bool} {a b : E} {x y : Expr} {pos : Pos} (ha : pE X T EX C x a) (hb : pE X T EX C y b) : pE X T EX C (.BinOp x o y pos) (.op o m a b) := by
  refine PE.imp (pe_op (op_ok (xv := T.xv) (EX := EX) (m := m)) ha hb) fun σ H Q h => ?_
  refine Rd1.mono (fun v H1 h => ?_) (Mid.ev (R1 := TU X.K) (f := fun base ρ _ u st => (evalE C base b ρ st).bind fun w st => opR o m u w st) stay0 (Rd1.mid h))
  refine Rd1.mono (fun w H2 h => ?_) (Mid.ev (R1 := TU X.K) (f := fun base ρ p w st => opR o m p.2 w st) (stayU stay0) h)
  obtain ⟨B, base, μ, st, ρ, p, R, E, ⟨⟨_, z1⟩, z2⟩, q⟩ := h
  exact ⟨B, base, μ, st, _, _, R, z1, z2, q⟩
end
end PI

/-! expressions, further -/
namespace PI
open PySem PySem.Spec PyProof.Rows L2
theorem bind_bind {α β γ : Type} (r : R α) (f : α → Store → R β) (g : β → Store → R γ) : (r.bind f).bind g = r.bind fun a st => (f a st).bind g := by cases r <;> rfl
theorem bind_bool (r : R Bool) : ((r.bind fun k st => .ok (.v (.bool k)) st).bind fun x st => okT st (truth st x)) = r := by cases r <;> rfl
section
variable {X : Cx} {T : Tab} {EX : XK} {C : Call}
theorem r_neg {a : E} {x : Expr} {pos : Pos} (ha : pE X T EX C x a) : pE X T EX C (.UnaryOp .USub x pos) (.neg a) := by
  refine PE.imp (pe_un un_neg ha) fun σ H Q h => ?_
  refine Rd1.mono (fun v H1 h => ?_) (Mid.ev (R1 := TU X.K) (run := fun base ρ st => evalE C base a ρ st) (f := fun base ρ _ u st => (match u with
    | .v (.int i) => .ok (.v (.int (-i))) st
    | _ => .bad : R U)) stay0 (Rd1.mid h))
  obtain ⟨B, base, μ, st, ρ, p, R, E, ⟨_, z1⟩, q⟩ := h
  dsimp only at q
  split at q
  · rename_i i e
    rw [e] at z1
    obtain rfl := v_int z1
    exact ⟨i, rfl, q.val R (.v (.int _))⟩
  · exact q.elim
theorem r_cmp {d : Nat} (hr : Room d X.A) (hu : X.A.units + 65 < cLine) {o : CmpOp} {a b : E} {x y : Expr} {pos : Pos} (ha : pE X T EX C x a) (hb : pE X T EX C y b) (hm : behindInMarks o y = false) : pE X T EX C (.Compare x [o] [y] pos) (.cmp o a b) := by
  refine PE.imp (pe_cmpR (cmp_ok hr hu) ha hb hm) fun σ H Q h => ?_
  refine Rd1.mono (fun v H1 h => ?_) (Mid.ev (R1 := TU X.K) (f := fun base ρ _ u st => (evalE C base b ρ st).bind fun w st => okB st (cmpU st o u w)) stay0 (Rd1.mid h))
  refine Rd1.mono (fun w H2 h => ?_) (Mid.ev (R1 := TU X.K) (f := fun base ρ p w st => okB st (cmpU st o p.2 w)) (stayU stay0) h)
  obtain ⟨B, base, μ, st, ρ, p, R, E, ⟨⟨_, z1⟩, z2⟩, q⟩ := h
  dsimp only at q
  cases e : cmpU st o p.1.2 p.2 with
  | none => rw [e] at q; exact q.elim
  | some k =>
    rw [e] at q
    exact ⟨B, base, μ, st, _, _, k, R, z1, z2, e, q.val R (.v (.bl k))⟩
theorem t_cmp {d : Nat} (hr : Room d X.A) (hu : X.A.units + 65 < cLine) {o : CmpOp} {a b : E} {x y : Expr} {pos : Pos} (ha : pE X T EX C x a) (hb : pE X T EX C y b) (hm : behindInMarks o y = false) : pT X T EX C (.Compare x [o] [y] pos) (.cmp o a b) := by
  refine PT.imp (pt_cmpR (cmp_ok hr hu) ha hb hm) fun σ H Q h => ?_
  have h : Rd1 X.K T EX TB (fun base ρ st => (evalE C base a ρ st).bind fun u st => (evalE C base b ρ st).bind fun w st => (okB st (cmpU st o u w)).bind fun x st => okT st (truth st x)) σ H Q := by
    have e : (fun base ρ st => testE C base (.cmp o a b) ρ st) = (fun base ρ st => (evalE C base a ρ st).bind fun u st => (evalE C base b ρ st).bind fun w st => (okB st (cmpU st o u w)).bind fun x st => okT st (truth st x)) := by
      funext base ρ st
      simp only [testE, evalE, bind_bind] <;> rfl
    rw [← e]
    exact h
  refine Rd1.mono (fun v H1 h => ?_) (Mid.ev (R1 := TU X.K) (f := fun base ρ _ u st => (evalE C base b ρ st).bind fun w st => (okB st (cmpU st o u w)).bind fun x st => okT st (truth st x)) stay0 (Rd1.mid h))
  refine Rd1.mono (fun w H2 h => ?_) (Mid.ev (R1 := TU X.K) (f := fun base ρ p w st => (okB st (cmpU st o p.2 w)).bind fun x st => okT st (truth st x)) (stayU stay0) h)
  obtain ⟨B, base, μ, st, ρ, p, R, E, ⟨⟨_, z1⟩, z2⟩, q⟩ := h
  dsimp only at q
  cases e : cmpU st o p.1.2 p.2 with
  | none => rw [e] at q; exact q.elim
  | some k =>
    rw [e] at q
    exact ⟨B, base, μ, st, _, _, k, R, z1, z2, e, k, rfl, q μ k H2 .refl R rfl⟩
theorem r_chain {d : Nat} (hr : Room d X.A) (hu : X.A.units + 65 < cLine) {o p : CmpOp} {a b c : E} {x y z : Expr} {pos : Pos} (ha : pE X T EX C x a) (hb : pE X T EX C y b) (hc : pE X T EX C z c) (hm : behindInMarks p z = false) :
    pE X T EX C (.Compare x [o, p] [y, z] pos) (.chain o p a b c) := by
  refine PE.imp (pe_chain (cmp_ok hr hu) (cmp_ok hr hu) ha hb hc (by show behindInMarks p z = false; exact hm)) fun σ H Q h => ?_
  refine Rd1.mono (fun v H1 h => ?_) (Mid.ev (R1 := TU X.K) (f := fun base ρ _ u st => (evalE C base b ρ st).bind fun w st => match cmpU st o u w with
    | some true => (evalE C base c ρ st).bind fun z st => okB st (cmpU st p w z)
    | some false => .ok (.v (.bool false)) st
    | none => .bad) stay0 (Rd1.mid h))
  refine Rd1.mono (fun w H2 h => ?_) (Mid.ev (R1 := TU X.K) (f := fun base ρ q w st => match cmpU st o q.2 w with
    | some true => (evalE C base c ρ st).bind fun z st => okB st (cmpU st p w z)
    | some false => .ok (.v (.bool false)) st
    | none => .bad) (stayU stay0) h)
  obtain ⟨B, base, μ, st, ρ, q, R, E, ⟨⟨_, z1⟩, z2⟩, hq⟩ := h
  dsimp only at hq
  cases e : cmpU st o q.1.2 q.2 with
  | none => rw [e] at hq; exact hq.elim
  | some k =>
    rw [e] at hq
    refine ⟨B, base, μ, st, _, _, k, R, z1, z2, e, k, rfl, ?_⟩
    cases k with
    | false =>
      rw [if_neg Bool.false_ne_true]
      exact hq.val R (.v (.bl false))
    | true =>
      rw [if_pos rfl]
      have h3 : Mid X.K T EX (TU X.K) (fun (u : U) O H μ => TU X.K O H μ u w) (fun base ρ u st => (evalE C base c ρ st).bind fun z st => okB st (cmpU st p u z)) σ H2 Q := ⟨B, base, μ, st, ρ, q.2, R, E, z2, hq⟩
      refine Rd1.mono (fun w' H3 h => ?_) (Mid.ev (R1 := TU X.K) (f := fun base ρ u z st => okB st (cmpU st p u z)) (fun u _ _ _ _ _ _ e m t => t.hold e m) h3)
      obtain ⟨B, base, μ, st, ρ, q, R, E, ⟨z1, z2⟩, hq⟩ := h
      dsimp only at hq
      cases e : cmpU st p q.1 q.2 with
      | none => rw [e] at hq; exact hq.elim
      | some k =>
        rw [e] at hq
        exact ⟨B, base, μ, st, _, _, k, R, z1, z2, e, hq.val R (.v (.bl k))⟩
theorem t_chain {d : Nat} (hr : Room d X.A) (hu : X.A.units + 65 < cLine) {o p : CmpOp} {a b c : E} {x y z : Expr} {pos : Pos} (ha : pE X T EX C x a) (hb : pE X T EX C y b) (hc : pE X T EX C z c) (hm : behindInMarks p z = false) :
    pT X T EX C (.Compare x [o, p] [y, z] pos) (.chain o p a b c) := by
  refine PT.imp (pt_chain (cmp_ok hr hu) (cmp_ok hr hu) ha hb hc (by show behindInMarks p z = false; exact hm)) fun σ H Q h => ?_
  have h : Rd1 X.K T EX TB (fun base ρ st => (evalE C base a ρ st).bind fun u st => (evalE C base b ρ st).bind fun w st => (match cmpU st o u w with
    | some true => (evalE C base c ρ st).bind fun z st => okB st (cmpU st p w z)
    | some false => .ok (.v (.bool false)) st
    | none => .bad : R U).bind fun x st => okT st (truth st x)) σ H Q := by
    have e : (fun base ρ st => testE C base (.chain o p a b c) ρ st) = (fun base ρ st => (evalE C base a ρ st).bind fun u st => (evalE C base b ρ st).bind fun w st => (match cmpU st o u w with
    | some true => (evalE C base c ρ st).bind fun z st => okB st (cmpU st p w z)
    | some false => .ok (.v (.bool false)) st
    | none => .bad : R U).bind fun x st => okT st (truth st x)) := by
      funext base ρ st
      simp only [testE, evalE, bind_bind] <;> rfl
    rw [← e]
    exact h
  refine Rd1.mono (fun v H1 h => ?_) (Mid.ev (R1 := TU X.K) (f := fun base ρ _ u st => (evalE C base b ρ st).bind fun w st => (match cmpU st o u w with
    | some true => (evalE C base c ρ st).bind fun z st => okB st (cmpU st p w z)
    | some false => .ok (.v (.bool false)) st
    | none => .bad : R U).bind fun x st => okT st (truth st x)) stay0 (Rd1.mid h))
  refine Rd1.mono (fun w H2 h => ?_) (Mid.ev (R1 := TU X.K) (f := fun base ρ q w st => (match cmpU st o q.2 w with
    | some true => (evalE C base c ρ st).bind fun z st => okB st (cmpU st p w z)
    | some false => .ok (.v (.bool false)) st
    | none => .bad : R U).bind fun x st => okT st (truth st x)) (stayU stay0) h)
  obtain ⟨B, base, μ, st, ρ, q, R, E, ⟨⟨_, z1⟩, z2⟩, hq⟩ := h
  dsimp only at hq
  cases e : cmpU st o q.1.2 q.2 with
  | none => rw [e] at hq; exact hq.elim
  | some k =>
    rw [e] at hq
    refine ⟨B, base, μ, st, _, _, k, R, z1, z2, e, k, rfl, ?_⟩
    cases k with
    | false =>
      rw [if_neg Bool.false_ne_true]
      exact ⟨false, rfl, hq μ false H2 .refl R rfl⟩
    | true =>
      rw [if_pos rfl]
      dsimp only at hq
      rw [bind_bind] at hq
      have h3 : Mid X.K T EX TB (fun (u : U) O H μ => TU X.K O H μ u w) (fun base ρ u st => (evalE C base c ρ st).bind fun z st => (okB st (cmpU st p u z)).bind fun x st => okT st (truth st x)) σ H2 Q := ⟨B, base, μ, st, ρ, q.2, R, E, z2, hq⟩
      refine Rd1.mono (fun w' H3 h => ?_) (Mid.ev (R1 := TU X.K) (f := fun base ρ u z st => (okB st (cmpU st p u z)).bind fun x st => okT st (truth st x)) (fun u _ _ _ _ _ _ e m t => t.hold e m) h3)
      obtain ⟨B, base, μ, st, ρ, q, R, E, ⟨z1, z2⟩, hq⟩ := h
      dsimp only at hq
      cases e : cmpU st p q.1 q.2 with
      | none => rw [e] at hq; exact hq.elim
      | some k =>
        rw [e] at hq
        exact ⟨B, base, μ, st, _, _, k, R, z1, z2, e, k, rfl, hq μ k H3 .refl R rfl⟩

/-! ### and, or, not -/
theorem r_and {a b : E} {x y : Expr} {rest : List Expr} {pos : Pos} (ha : pE X T EX C x a) (hb : pE X T EX C (.BoolOp .And (y :: rest) pos) b) : pE X T EX C (.BoolOp .And (x :: y :: rest) pos) (.and a b) := by
  refine PE.imp (pe_and ha hb) fun σ H Q h => ?_
  refine Rd1.mono (fun v H1 h => ?_) (Mid.ev (R1 := TU X.K) (run := fun base ρ st => evalE C base a ρ st) (f := fun base ρ _ x st => (match x with
    | .v (.bool true) => evalE C base b ρ st
    | .v (.bool false) => .ok (.v (.bool false)) st
    | _ => .bad : R U)) stay0 (Rd1.mid h))
  obtain ⟨B, base, μ, st, ρ, p, R, E, ⟨_, z1⟩, q⟩ := h
  dsimp only at q
  split at q
  · rename_i e
    rw [e] at z1
    obtain rfl := v_bool z1
    refine ⟨true, rfl, ?_⟩
    rw [if_pos rfl]
    exact ⟨B, base, μ, st, ρ, R, E, q⟩
  · rename_i e
    rw [e] at z1
    obtain rfl := v_bool z1
    refine ⟨false, rfl, ?_⟩
    rw [if_neg Bool.false_ne_true]
    exact q.val R (.v (.bl false))
  · exact q.elim
theorem r_or {a b : E} {x y : Expr} {rest : List Expr} {pos : Pos} (ha : pE X T EX C x a) (hb : pE X T EX C (.BoolOp .Or (y :: rest) pos) b) : pE X T EX C (.BoolOp .Or (x :: y :: rest) pos) (.or a b) := by
  refine PE.imp (pe_or ha hb) fun σ H Q h => ?_
  refine Rd1.mono (fun v H1 h => ?_) (Mid.ev (R1 := TU X.K) (run := fun base ρ st => evalE C base a ρ st) (f := fun base ρ _ x st => (match x with
    | .v (.bool true) => .ok (.v (.bool true)) st
    | .v (.bool false) => evalE C base b ρ st
    | _ => .bad : R U)) stay0 (Rd1.mid h))
  obtain ⟨B, base, μ, st, ρ, p, R, E, ⟨_, z1⟩, q⟩ := h
  dsimp only at q
  split at q
  · rename_i e
    rw [e] at z1
    obtain rfl := v_bool z1
    refine ⟨true, rfl, ?_⟩
    rw [if_pos rfl]
    exact q.val R (.v (.bl true))
  · rename_i e
    rw [e] at z1
    obtain rfl := v_bool z1
    refine ⟨false, rfl, ?_⟩
    rw [if_neg Bool.false_ne_true]
    exact ⟨B, base, μ, st, ρ, R, E, q⟩
  · exact q.elim
theorem r_not {a : E} {x : Expr} {pos : Pos} (ha : pE X T EX C x a) : pE X T EX C (.UnaryOp .Not x pos) (.not a) := by
  refine PE.imp (pe_not ha) fun σ H Q h => ?_
  refine Rd1.mono (fun v H1 h => ?_) (Mid.ev (R1 := TU X.K) (run := fun base ρ st => evalE C base a ρ st) (f := fun base ρ _ x st => (match x with
    | .v (.bool k) => .ok (.v (.bool (!k))) st
    | _ => .bad : R U)) stay0 (Rd1.mid h))
  obtain ⟨B, base, μ, st, ρ, p, R, E, ⟨_, z1⟩, q⟩ := h
  dsimp only at q
  split at q
  · rename_i k e
    rw [e] at z1
    obtain rfl := v_bool z1
    exact ⟨k, rfl, q.val R (.v (.bl _))⟩
  · exact q.elim
abbrev pW (X : Cx) (T : Tab) (EX : XK) (C : Call) (x : Expr) (e : E) : Prop := PW X x (tT X.K T EX C e)
theorem t_andT {a b : E} {x y : Expr} {rest : List Expr} {pos : Pos} (ha : pT X T EX C x a) (hb : pW X T EX C (.BoolOp .And (y :: rest) pos) b) : pW X T EX C (.BoolOp .And (x :: y :: rest) pos) (.andT a b) := by
  refine PW.imp (pw_and ha hb) fun σ H Q h => ?_
  have h : Rd1 X.K T EX TB (fun base ρ st => (testE C base a ρ st).bind fun k st => (if k then (testE C base b ρ st).bind fun k st => .ok (.v (.bool k)) st else .ok (.v (.bool false)) st : R U).bind fun x st => okT st (truth st x)) σ H Q := by
    have e : (fun base ρ st => testE C base (.andT a b) ρ st) = (fun base ρ st => (testE C base a ρ st).bind fun k st => (if k then (testE C base b ρ st).bind fun k st => .ok (.v (.bool k)) st else .ok (.v (.bool false)) st : R U).bind fun x st => okT st (truth st x)) := by
      funext base ρ st
      show ((((evalE C base a ρ st).bind fun x st => okT st (truth st x)).bind _).bind _) = _
      rw [bind_bind]
      rfl
    rw [← e]
    exact h
  refine Rd1.mono (fun c H1 h => ?_) (Mid.ev (R1 := TB) (run := fun base ρ st => testE C base a ρ st) (f := fun base ρ _ k st => (if k then (testE C base b ρ st).bind fun k st => .ok (.v (.bool k)) st else .ok (.v (.bool false)) st : R U).bind fun x st => okT st (truth st x)) stay0 (Rd1.mid h))
  obtain ⟨B, base, μ, st, ρ, p, R, E, ⟨_, z1⟩, q⟩ := h
  dsimp only at q
  rw [show p.2 = c from z1] at q
  cases c with
  | true =>
    rw [if_pos rfl] at q ⊢
    rw [bind_bool] at q
    exact ⟨B, base, μ, st, ρ, R, E, q⟩
  | false =>
    rw [if_neg Bool.false_ne_true] at q ⊢
    exact q μ false H1 .refl R rfl
theorem t_orT {a b : E} {x y : Expr} {rest : List Expr} {pos : Pos} (ha : pT X T EX C x a) (hb : pW X T EX C (.BoolOp .Or (y :: rest) pos) b) : pW X T EX C (.BoolOp .Or (x :: y :: rest) pos) (.orT a b) := by
  refine PW.imp (pw_or ha hb) fun σ H Q h => ?_
  have h : Rd1 X.K T EX TB (fun base ρ st => (testE C base a ρ st).bind fun k st => (if k then .ok (.v (.bool true)) st else (testE C base b ρ st).bind fun k st => .ok (.v (.bool k)) st : R U).bind fun x st => okT st (truth st x)) σ H Q := by
    have e : (fun base ρ st => testE C base (.orT a b) ρ st) = (fun base ρ st => (testE C base a ρ st).bind fun k st => (if k then .ok (.v (.bool true)) st else (testE C base b ρ st).bind fun k st => .ok (.v (.bool k)) st : R U).bind fun x st => okT st (truth st x)) := by
      funext base ρ st
      show ((((evalE C base a ρ st).bind fun x st => okT st (truth st x)).bind _).bind _) = _
      rw [bind_bind]
      rfl
    rw [← e]
    exact h
  refine Rd1.mono (fun c H1 h => ?_) (Mid.ev (R1 := TB) (run := fun base ρ st => testE C base a ρ st) (f := fun base ρ _ k st => (if k then .ok (.v (.bool true)) st else (testE C base b ρ st).bind fun k st => .ok (.v (.bool k)) st : R U).bind fun x st => okT st (truth st x)) stay0 (Rd1.mid h))
  obtain ⟨B, base, μ, st, ρ, p, R, E, ⟨_, z1⟩, q⟩ := h
  dsimp only at q
  rw [show p.2 = c from z1] at q
  cases c with
  | true =>
    rw [if_pos rfl] at q ⊢
    exact q μ true H1 .refl R rfl
  | false =>
    rw [if_neg Bool.false_ne_true] at q ⊢
    rw [bind_bool] at q
    exact ⟨B, base, μ, st, ρ, R, E, q⟩
theorem t_notT {a : E} {x : Expr} {pos : Pos} (ha : pT X T EX C x a) : pT X T EX C (.UnaryOp .Not x pos) (.notT a) := by
  refine PT.imp (pt_not ha) fun σ H Q h => ?_
  have h : Rd1 X.K T EX TB (fun base ρ st => (testE C base a ρ st).bind fun k st => (.ok (.v (.bool (!k))) st : R U).bind fun x st => okT st (truth st x)) σ H Q := by
    have e : (fun base ρ st => testE C base (.notT a) ρ st) = (fun base ρ st => (testE C base a ρ st).bind fun k st => (.ok (.v (.bool (!k))) st : R U).bind fun x st => okT st (truth st x)) := by
      funext base ρ st
      show ((((evalE C base a ρ st).bind fun x st => okT st (truth st x)).bind _).bind _) = _
      rw [bind_bind]
      rfl
    rw [← e]
    exact h
  refine Rd1.mono (fun c H1 h => ?_) (Mid.ev (R1 := TB) (run := fun base ρ st => testE C base a ρ st) (f := fun base ρ _ k st => (.ok (.v (.bool (!k))) st : R U).bind fun x st => okT st (truth st x)) stay0 (Rd1.mid h))
  obtain ⟨B, base, μ, st, ρ, p, R, E, ⟨_, z1⟩, q⟩ := h
  dsimp only at q
  rw [show p.2 = c from z1] at q
  exact q μ _ H1 .refl R rfl
theorem r_ite {c a b : E} {t x y : Expr} {pos : Pos} (hc : pT X T EX C t c) (ha : pE X T EX C x a) (hb : pE X T EX C y b) : pE X T EX C (.IfExp t x y pos) (.ite c a b) := by
  refine PE.imp (pe_ifExp hc ha hb) fun σ H Q h => ?_
  refine Rd1.mono (fun k H1 h => ?_) (Mid.ev (R1 := TB) (run := fun base ρ st => testE C base c ρ st) (f := fun base ρ _ k st => if k then evalE C base a ρ st else evalE C base b ρ st) stay0 (Rd1.mid h))
  obtain ⟨B, base, μ, st, ρ, p, R, E, ⟨_, z1⟩, q⟩ := h
  dsimp only at q
  rw [show p.2 = k from z1] at q
  cases k with
  | true =>
    rw [if_pos rfl] at q ⊢
    exact ⟨B, base, μ, st, ρ, R, E, q⟩
  | false =>
    rw [if_neg Bool.false_ne_true] at q ⊢
    exact ⟨B, base, μ, st, ρ, R, E, q⟩
theorem seq_empty {F : U → V → Prop} {us : List U} {vs : List V} (h : Paired F us vs) : (!us.isEmpty) = !vs.isEmpty := by cases h <;> rfl
theorem vrs_empty {K : PySem.W.Frag} {O : Addr → Prop} {H : Hp} {us : List W} {vs : List V} (h : VRs K O H us vs) : (!us.isEmpty) = !vs.isEmpty := by cases h <;> rfl
theorem truth_ok {K : PySem.W.Frag} {B : Addr → Prop} {base : Nat} {μ : List Addr} {st : Store} {H : Hp} (R : SRel K B base μ st H) {u : U} {v : V} {k : Bool} (h : UR K (Own B μ st) H μ u v) (e : truth st u = some k) : TruV K v H k := by
  cases h with
  | ref h =>
    rename_i r a
    simp only [truth, Option.map_eq_some_iff] at e
    obtain ⟨l, e1, rfl⟩ := e
    obtain ⟨a', vs, c, e2, _, _, rfl, h4, h5⟩ := cells_get R (.ref h) e1
    cases e2
    exact .inl ⟨vs, .inl (.inl h4), seq_empty h5⟩
  | v h =>
    cases h with
    | non => cases e; rfl
    | bl b => cases e; rfl
    | int i => cases e; rfl
    | str x =>
      simp only [truth] at e
      split at e
      · rename_i hl
        obtain rfl := Option.some.inj e
        refine ⟨by rw [lim_eq]; exact hl, ?_⟩
        have hz : ∀ n : Nat, (n != 0) = (((n : Nat) : Int) != 0) := fun n => by cases n <;> rfl
        exact hz _
      · cases e
    | tup h r => cases e; exact .inr (.inl ⟨_, h, vrs_empty r⟩)
    | lst h n r => cases e; exact .inl ⟨_, .inl (.inl h), vrs_empty r⟩
    | scr h n r => cases e
    | scrK h r => cases e
theorem t_val {e : E} {x : Expr} (h : pE X T EX C x e) (hx : ∀ whole, isTrue x X.env whole = (do let v ← whole; standAt x.pos; holding [v] (truthy v))) : pT X T EX C x e := by
  refine PT.imp (pt_truth h hx) fun σ H Q h => ?_
  refine Rd1.mono (fun v H1 h => ?_) (Mid.ev (R1 := TU X.K) (run := fun base ρ st => evalE C base e ρ st) (f := fun base ρ _ u st => okT st (truth st u)) stay0 (Rd1.mid h))
  obtain ⟨B, base, μ, st, ρ, p, R, E, ⟨_, z1⟩, q⟩ := h
  dsimp only at q
  cases et : truth st p.2 with
  | none => rw [et] at q; exact q.elim
  | some k =>
    rw [et] at q
    exact ⟨k, truth_ok R z1 et, q μ k H1 .refl R rfl⟩
end
end PI

/-! names, arguments, calls, displays, items -/
namespace PI
open PySem PySem.Spec PyProof.Rows L2
section
variable {X : Cx} {T : Tab} {EX : XK} {C : Call}
theorem r_var {i : Nat} {x : Str} {pos : Pos} (hN : X.N[i]? = some x) (hv : Vis X.env.scope x) (hd : (x == ("__debug__" : Str)) = false) (hcd : (x == ("__classdict__" : Str)) = false) : pE X T EX C (.Name x pos) (.var i) := by
  refine PE.imp (pe_var hN hv hd hcd) fun σ H Q h => ?_
  obtain ⟨B, base, μ, st, ρ, R, E, h⟩ := h
  simp only [evalE] at h
  split at h
  · rename_i u e
    obtain ⟨v, e1, r⟩ := E.2 i u e
    exact ⟨v, e1, h.val R r⟩
  · exact h.elim
theorem c_val {K : PySem.W.Frag} {w : W} {v : V} {σ : L2.St} {H : Hp} {Q : VK} (hw : ∀ O, VR K O H w v) (h : Rd1 K T EX (TU K) (fun base ρ st => (.ok (.v w) st : R U)) σ H Q) : Q v H := by
  obtain ⟨B, base, μ, st, ρ, R, E, h⟩ := h
  exact h.val R (.v (hw _))
theorem r_int {i : Int} {j : Nat} {pos : Pos} : pE X T EX C (.Constant (.int i) j pos) (.con (.int i)) := PE.imp pe_int fun σ H Q h => c_val (fun _ => .int i) h
theorem r_bool {i : Bool} {j : Nat} {pos : Pos} : pE X T EX C (.Constant (.bool i) j pos) (.con (.bool i)) := PE.imp pe_bl fun σ H Q h => c_val (fun _ => .bl i) h
theorem r_none {j : Nat} {pos : Pos} : pE X T EX C (.Constant .none j pos) (.con .none) := PE.imp pe_non fun σ H Q h => c_val (fun _ => .non) h
theorem r_str {x : Str} {j : Nat} {pos : Pos} : pE X T EX C (.Constant (.str x) j pos) (.con (.str x)) := PE.imp pe_str fun σ H Q h => c_val (fun _ => .str x) h
theorem r_glb {x : Str} {w : W} {u : Value} {v : V} {pos : Pos} (hg : Gl X x) (hm : X.mg x = some u) (r : RelV v u) (hd : (x == ("__debug__" : Str)) = false) (hw : ∀ O H, VR X.K O H w v) : pE X T EX C (.Name x pos) (.glb x w) :=
  PE.imp (pe_glob hg hm r hd) fun σ H Q h => c_val (fun O => hw O H) h
/-! ### arguments -/
def Plain (env : PySem.Env) (e : Expr) : Prop := ∀ es, starEach (e :: es) env = (false, eval e env) :: starEach es env
theorem a_nil : pA X T EX C [] .nil := PA.imp pa_nil fun σ H Q h => by
  obtain ⟨B, base, μ, st, ρ, R, E, h⟩ := h
  exact h μ [] H .refl R .nil
theorem a_cons {e : E} {es : Es} {x : Expr} {xs : List Expr} (ha : pE X T EX C x e) (hr : pA X T EX C xs es) (hs : Plain X.env x) : pA X T EX C (x :: xs) (.cons e es) := by
  refine PA.imp (pa_cons ha hr (hs xs)) fun σ H Q h => ?_
  refine Rd1.mono (fun v H1 h => ?_) (Mid.ev (R1 := TU X.K) (run := fun base ρ st => evalE C base e ρ st) (f := fun base ρ _ u st => (evalEs C base es ρ st).bind fun us st => (.ok (u :: us) st : R (List U))) stay0 (Rd1.mid h))
  refine Rd1.mono (fun vs H2 h => ?_) (Mid.ev (R1 := TUs X.K) (f := fun base ρ p us st => (.ok (p.2 :: us) st : R (List U))) (stayU stay0) h)
  obtain ⟨B, base, μ, st, ρ, p, R, E, ⟨⟨_, z1⟩, z2⟩, q⟩ := h
  exact q μ _ H2 .refl R (.cons z1 z2)
/-- all are plain: nothing is spliced -/
theorem plain_any {env : PySem.Env} {pos : Pos} : ∀ {es : List Expr}, (∀ e ∈ es, Plain env e) → (backTo pos (starEach es env)).any (·.1) = false
  | [], _ => rfl
  | e :: es, h => by
    rw [h e List.mem_cons_self es]
    show (false || (backTo pos (starEach es env)).any (·.1)) = false
    rw [Bool.false_or]
    exact plain_any fun e he => h e (List.mem_cons_of_mem _ he)
/-- a call by values -/
theorem r_bi {b : Bi} {es : Es} {x : Expr} {r : List V → Hp → VK → Prop} {xs : List Expr} (h : ∀ {t : TA}, PA X xs t → PE X x (tCB (rUn X.K T.xv EX (biR b)) t)) (ha : pA X T EX C xs es) : pE X T EX C x (.bi b es) := by
  refine PE.imp (h ha) fun σ H Q h => ?_
  refine Rd1.mono (fun vs H1 h => ?_) (Mid.ev (R1 := TUs X.K) (run := fun base ρ st => evalEs C base es ρ st) (f := fun base ρ _ us st => biR b us st) stay0 (Rd1.mid h))
  obtain ⟨B, base, μ, st, ρ, p, R, E, ⟨_, z1⟩, q⟩ := h
  exact ⟨B, base, μ, st, p.2, R, z1, q⟩
theorem r_callB {b : Bi} {es : Es} {x : Str} {id : String} {y : Expr} {xs : List Expr} {p pos : Pos} (hc : CallR X (.builtin id) (rUn X.K T.xv EX (biR b))) (hg : Gl X x) (hm : X.mg x = none) (hv : bootBuiltins x = some (.builtin id)) (hn : x ≠ "__name__") (hdb : (x == ("__debug__" : Str)) = false)
    (hp : ∀ e ∈ y :: xs, Plain X.env e) (ha : pA X T EX C (y :: xs) es) : pE X T EX C (.Call (.Name x p) (y :: xs) [] pos) (.bi b es) :=
  r_bi (r := fun _ _ _ => True) (fun h => pe_callB hc hg hm hv h hn hdb (hp y List.mem_cons_self xs) (plain_any fun e he => hp e (List.mem_cons_of_mem _ he))) ha
theorem r_callTy {b : Bi} {es : Es} {x : Str} {ty : String} {y : Expr} {xs : List Expr} {p pos : Pos} (hc : CallR X (.type ty) (rUn X.K T.xv EX (biR b))) (hg : Gl X x) (hm : X.mg x = none) (hv : bootBuiltins x = some (.type ty)) (hn : x ≠ "__name__") (hdb : (x == ("__debug__" : Str)) = false)
    (hp : ∀ e ∈ y :: xs, Plain X.env e) (ha : pA X T EX C (y :: xs) es) : pE X T EX C (.Call (.Name x p) (y :: xs) [] pos) (.bi b es) :=
  r_bi (r := fun _ _ _ => True) (fun h => pe_callTy hc hg hm hv h hn hdb (hp y List.mem_cons_self xs) (plain_any fun e he => hp e (List.mem_cons_of_mem _ he))) ha
theorem r_gcd {es : Es} {x : Str} {y : Expr} {xs : List Expr} {p pos : Pos} (hg : Gl X x) (hm : X.mg x = some (.builtin "math.gcd")) (hdb : (x == ("__debug__" : Str)) = false)
    (hp : ∀ e ∈ y :: xs, Plain X.env e) (ha : pA X T EX C (y :: xs) es) : pE X T EX C (.Call (.Name x p) (y :: xs) [] pos) (.bi .gcd es) :=
  r_bi (r := fun _ _ _ => True) (fun h => pe_callBfun gcd_ok hg hm h hdb (hp y List.mem_cons_self xs) (plain_any fun e he => hp e (List.mem_cons_of_mem _ he))) ha

/-! ### isinstance -/
theorem r_isa {k : Kd} {e : E} {x : Expr} {ty : Str} {p p2 pos : Pos} (hk : k ≠ .bad) (hk2 : k ≠ .none) (h1 : Gl X "isinstance") (h2 : X.mg "isinstance" = none) (hg : Gl X ty) (hm : X.mg ty = none) (hv : bootBuiltins ty = some (.type k.ty)) (hn : ty ≠ "__name__") (hdb : (ty == ("__debug__" : Str)) = false)
    (hx : Plain X.env x) (ha : pE X T EX C x e) : pE X T EX C (.Call (.Name "isinstance" p) [x, .Name ty p2] [] pos) (.bi (.isa k) (.cons e .nil)) := by
  have hty : PE X (.Name ty p2) (tC (.ty k.ty)) := pe_bltn hg hm hv rfl hn hdb
  have hpl : Plain X.env (.Name ty p2) := fun _ => rfl
  refine PE.imp (pe_callB call_isi h1 h2 (by decide +kernel) (pa_cons ha (pa_cons hty pa_nil (hpl [])) (hx _)) (by decide) (by decide) (hx _) (plain_any fun e he => by rw [List.mem_singleton.mp he]; exact hpl)) fun σ H Q h => ?_
  have h : Rd1 X.K T EX (TU X.K) (fun base ρ st => (evalE C base e ρ st).bind fun u st => biR (.isa k) [u] st) σ H Q := by
    have e : (fun base ρ st => evalE C base (.bi (.isa k) (.cons e .nil)) ρ st) = (fun base ρ st => (evalE C base e ρ st).bind fun u st => biR (.isa k) [u] st) := by
      funext base ρ st
      simp only [evalE, evalEs, bind_bind] <;> rfl
    rw [← e]
    exact h
  refine Rd1.mono (fun v H1 h => ?_) (Mid.ev (R1 := TU X.K) (f := fun base ρ _ u st => biR (.isa k) [u] st) stay0 (Rd1.mid h))
  obtain ⟨B, base, μ, st, ρ, q, R, E, ⟨_, z1⟩, hq⟩ := h
  dsimp only at hq
  simp only [biR] at hq
  split at hq
  · exact hq.elim
  · rename_i hb
    exact ⟨v, .ty k.ty, _, _, isaK (kind q.2) k, rfl, .ty _, kind_ty R z1 hb, kit_kd hb hk hk2, hq.val R (.v (.bl _))⟩
theorem r_isSeq {e : E} {x : Expr} {p p2 p3 p4 pos : Pos} {n : Nat} (h1 : Gl X "isinstance") (h2 : X.mg "isinstance" = none) (hg : Gl X "list") (hm : X.mg "list" = none) (hg2 : Gl X "tuple") (hm2 : X.mg "tuple" = none)
    (hx : Plain X.env x) (ha : pE X T EX C x e) : pE X T EX C (.Call (.Name "isinstance" p) [x, .Tuple [.Name "list" p2, .Name "tuple" p3] n p4] [] pos) (.bi .isSeq (.cons e .nil)) := by
  have hl : PE X (.Name "list" p2) (tC (.ty "list")) := pe_bltn hg hm (by decide +kernel) rfl (by decide) (by decide)
  have ht : PE X (.Name "tuple" p3) (tC (.ty "tuple")) := pe_bltn hg2 hm2 (by decide +kernel) rfl (by decide) (by decide)
  have htu := pe_tup (pos := p4) (x1 := n) (pa_cons hl (pa_cons ht pa_nil rfl) rfl)
  have hpl : Plain X.env (.Tuple [.Name "list" p2, .Name "tuple" p3] n p4) := fun _ => rfl
  refine PE.imp (pe_callB call_isiT h1 h2 (by decide +kernel) (pa_cons ha (pa_cons htu pa_nil (hpl [])) (hx _)) (by decide) (by decide) (hx _) (plain_any fun e he => by rw [List.mem_singleton.mp he]; exact hpl)) fun σ H Q h => ?_
  have h : Rd1 X.K T EX (TU X.K) (fun base ρ st => (evalE C base e ρ st).bind fun u st => biR .isSeq [u] st) σ H Q := by
    have e : (fun base ρ st => evalE C base (.bi .isSeq (.cons e .nil)) ρ st) = (fun base ρ st => (evalE C base e ρ st).bind fun u st => biR .isSeq [u] st) := by
      funext base ρ st
      simp only [evalE, evalEs, bind_bind] <;> rfl
    rw [← e]
    exact h
  refine Rd1.mono (fun v H1 h => ?_) (Mid.ev (R1 := TU X.K) (f := fun base ρ _ u st => biR .isSeq [u] st) stay0 (Rd1.mid h))
  obtain ⟨B, base, μ, st, ρ, q, R, E, ⟨_, z1⟩, hq⟩ := h
  dsimp only at hq
  simp only [biR] at hq
  split at hq
  · exact hq.elim
  · rename_i hb
    refine ⟨by show 2 ≤ sizeLine; decide, fun p hp => ?_⟩
    obtain ⟨R1, S1⟩ := R.fresh (o := .tup [.ty "list", .ty "tuple"]) hp
    have z2 := S1.ur R z1
    refine ⟨v, p, _, _, [.type "list", .type "tuple"], isaK (kind q.2) .list || isaK (kind q.2) .tuple, rfl, upd_same, .cons (.ty _) (.cons (.ty _) .nil), kind_ty R1 z2 hb, ?_, (Post.step S1 hq).val R1 (.v (.bl _))⟩
    have k1 := kit_kd (K := X.K) (b := .list) hb (by decide) (by decide)
    have k2 := kit_kd (K := X.K) (b := .tuple) hb (by decide) (by decide)
    refine kitAny_cons k1 (fun e1 => ?_) (fun e1 => by rw [e1]; rfl)
    rw [e1, Bool.false_or]
    exact kitAny_cons k2 (fun e2 => by rw [e2]; exact kitAny_nil) (fun e2 => e2)

/-! ### methods, items, cuts, displays -/
theorem r_ix {a b : E} {x y : Expr} {pos : Pos} (ha : pE X T EX C x a) (hb : pE X T EX C y b) (hs : PlainIx y) : pE X T EX C (.Subscript x y pos) (.ix a b) := by
  refine PE.imp (pe_ix (ix_ok (xv := T.xv) (EX := EX)) ha hb hs) fun σ H Q h => ?_
  refine Rd1.mono (fun v H1 h => ?_) (Mid.ev (R1 := TU X.K) (run := fun base ρ st => evalE C base a ρ st) (f := fun base ρ _ u st => (evalE C base b ρ st).bind fun w st => okU st (ixU st u w)) stay0 (Rd1.mid h))
  refine Rd1.mono (fun w H2 h => ?_) (Mid.ev (R1 := TU X.K) (f := fun base ρ p w st => okU st (ixU st p.2 w)) (stayU stay0) h)
  obtain ⟨B, base, μ, st, ρ, p, R, E, ⟨⟨_, z1⟩, z2⟩, q⟩ := h
  exact ⟨B, base, μ, st, _, _, R, z1, z2, q⟩
abbrev TO : (Addr → Prop) → Hp → List Addr → Option Int → Option Int → Prop := fun _ _ _ a b => a = b
theorem stayO {ι : Type} {Z : ι → (Addr → Prop) → Hp → List Addr → Prop} (hZ : Stay Z) {y : Option Int} : Stay (fun (p : ι × Option Int) O H μ => Z p.1 O H μ ∧ TO O H μ p.2 y) := fun p _ _ _ _ _ _ e m z => ⟨hZ p.1 _ _ _ _ _ _ e m z.1, z.2⟩
def pO (X : Cx) (T : Tab) (EX : XK) (C : Call) (x : Option Expr) (es : Es) : Prop := PO X x fun σ H Q => Rd1 X.K T EX TO (fun base ρ st => (evalEs C base es ρ st).bind fun l st => okO st (bnd l)) σ H Q
theorem o_none : pO X T EX C none .nil := ⟨fun pins s σ H Q I h => po_none.run pins s σ H Q I (by
  obtain ⟨B, base, μ, st, ρ, R, E, h⟩ := h
  exact h μ none H .refl R rfl)⟩
theorem o_some {x : Expr} {e : E} (hx : pE X T EX C x e) : pO X T EX C (some x) (.cons e .nil) := ⟨fun pins s σ H Q I h => (po_some hx).run pins s σ H Q I (by
  have h : Rd1 X.K T EX TO (fun base ρ st => (evalE C base e ρ st).bind fun u st => okO st (bnd [u])) σ H Q := by
    have e : (fun base ρ st => (evalEs C base (.cons e .nil) ρ st).bind fun l st => okO st (bnd l)) = (fun base ρ st => (evalE C base e ρ st).bind fun u st => okO st (bnd [u])) := by
      funext base ρ st
      simp only [evalEs, bind_bind] <;> rfl
    rw [← e]
    exact h
  refine Rd1.mono (fun v H1 h => ?_) (Mid.ev (R1 := TU X.K) (f := fun base ρ _ u st => okO st (bnd [u])) stay0 (Rd1.mid h))
  obtain ⟨B, base, μ, st, ρ, p, R, E, ⟨_, z1⟩, q⟩ := h
  dsimp only at q
  cases eb : bnd [p.2] with
  | none => rw [eb] at q; exact q.elim
  | some o =>
    rw [eb] at q
    unfold bnd at eb
    split at eb
    · rename_i e1
      cases e1
    · rename_i i e1
      have e1 : p.2 = .v (.int i) := (List.cons.inj e1).1
      rw [e1] at z1
      obtain rfl := v_int z1
      obtain rfl := Option.some.inj eb
      exact ⟨i, rfl, q μ _ H1 .refl R rfl⟩
    · cases eb)⟩
theorem r_sl {m : Bool} {a : E} {lo hi : Es} {x : Expr} {l h : Option Expr} {p2 pos : Pos} (ha : pE X T EX C x a) (hl : pO X T EX C l lo) (hh : pO X T EX C h hi) : pE X T EX C (.Subscript x (.Slice l h none p2) pos) (.sl m a lo hi) := by
  refine PE.imp (pe_slice (sl_ok (xv := T.xv) (EX := EX) (m := m)) ha hl hh) fun σ H Q h => ?_
  refine Rd1.mono (fun v H1 h => ?_) (Mid.ev (R1 := TU X.K) (run := fun base ρ st => evalE C base a ρ st) (f := fun base ρ _ x st => ((evalEs C base lo ρ st).bind fun l st => okO st (bnd l)).bind fun l st => ((evalEs C base hi ρ st).bind fun h st => okO st (bnd h)).bind fun h st => slU m x l h st) stay0 (Rd1.mid h))
  refine Rd1.mono (fun w H2 h => ?_) (Mid.ev (R1 := TO) (run := fun base ρ st => (evalEs C base lo ρ st).bind fun l st => okO st (bnd l)) (f := fun base ρ p l st => ((evalEs C base hi ρ st).bind fun h st => okO st (bnd h)).bind fun h st => slU m p.2 l h st) (stayU stay0) h)
  refine Rd1.mono (fun w H3 h => ?_) (Mid.ev (R1 := TO) (run := fun base ρ st => (evalEs C base hi ρ st).bind fun l st => okO st (bnd l)) (f := fun base ρ p h st => slU m p.1.2 p.2 h st) (stayO (stayU stay0)) h)
  obtain ⟨B, base, μ, st, ρ, p, R, E, ⟨⟨⟨_, z1⟩, z2⟩, z3⟩, q⟩ := h
  dsimp only at q
  rw [show p.1.2 = _ from z2, show p.2 = _ from z3] at q
  exact ⟨B, base, μ, st, _, R, z1, q⟩
theorem r_lst {m : Bool} {es : Es} {xs : List Expr} {pos : Pos} (ha : pA X T EX C xs es) : pE X T EX C (.List xs pos) (.lst m es) := by
  refine PE.imp (pe_lst ha) fun σ H Q h => ?_
  refine Rd1.mono (fun vs H1 h => ?_) (Mid.ev (R1 := TUs X.K) (run := fun base ρ st => evalEs C base es ρ st) (f := fun base ρ _ us st => mkL m us st) stay0 (Rd1.mid h))
  obtain ⟨B, base, μ, st, ρ, p, R, E, ⟨_, z1⟩, q⟩ := h
  obtain ⟨h1, h2⟩ := q.mkL R z1
  rw [Paired.length z1, ← lim_eq] at h1
  exact ⟨h1, h2⟩
theorem pack_ok {K : PySem.W.Frag} {B : Addr → Prop} {base : Nat} {μ : List Addr} {H : Hp} : ∀ {us : List U} {vs : List V} {st st' : Store} {ws : List W}, SRel K B base μ st H → URs K (Own B μ st) H μ us vs → pack us st = some (ws, st') →
    SRel K B base μ st' H ∧ Stp B base μ st H μ st' H ∧ VRs K (Own B μ st') H ws vs
  | [], vs, st, st', ws, R, r, e => by
    simp only [pack, Option.some.injEq, Prod.mk.injEq] at e
    obtain ⟨rfl, rfl⟩ := e
    cases r
    exact ⟨R, .refl, .nil⟩
  | .v w :: us, vs, st, st', ws, R, r, e => by
    simp only [pack, Option.map_eq_some_iff] at e
    obtain ⟨⟨ws', s1⟩, e1, e2⟩ := e
    simp only [Prod.mk.injEq] at e2
    obtain ⟨rfl, rfl⟩ := e2
    cases r with
    | cons r r' =>
      obtain ⟨R1, S1, h1⟩ := pack_ok R r' e1
      cases r with
      | v r => exact ⟨R1, S1, .cons (r.hold (S1.hold R)) h1⟩
  | .ref a :: us, vs, st, st', ws, R, r, e => by
    simp only [pack] at e
    split at e
    · rename_i ws0 e0
      obtain ⟨xs, e3, e4⟩ := Option.bind_eq_some_iff.mp e0
      simp only [Option.map_eq_some_iff] at e
      obtain ⟨⟨ws', s1⟩, e1, e2⟩ := e
      simp only [Prod.mk.injEq] at e2
      obtain ⟨rfl, rfl⟩ := e2
      cases r with
      | cons r r' =>
        obtain ⟨b, ys, c, rfl, g1, g2, g3, g4, g5⟩ := cells_get R r e3
        obtain ⟨R0, S0⟩ := R.froz a
        obtain ⟨R1, S1, h1⟩ := pack_ok R0 (S0.urs R r') e1
        have nO : ¬ Own B μ (PI.froz a st) b := fun z => by
          rcases z with z | ⟨s, d, k1, k2, k3⟩
          · exact (R.out b z).2 (List.mem_of_getElem? g1)
          · obtain rfl := R.inj g1 k3
            unfold PI.froz at k1
            rw [g2] at k1
            rcases set_get g2 k1 with ⟨_, rfl⟩ | ⟨hne, _⟩
            · exact k2 rfl
            · exact hne rfl
        have h0 : VR K (Own B μ (PI.froz a st)) H (.list ws0) (.ref b) := .lst g4 nO (VRs.hold (S0.hold R) (VRs.of_paired g5 e4))
        exact ⟨R1, S0.trans S1, .cons (h0.hold (S1.hold R0)) h1⟩
    · cases e
theorem r_tup {es : Es} {xs : List Expr} {n : Nat} {pos : Pos} (ha : pA X T EX C xs es) : pE X T EX C (.Tuple xs n pos) (.tup es) := by
  refine PE.imp (pe_tup ha) fun σ H Q h => ?_
  refine Rd1.mono (fun vs H1 h => ?_) (Mid.ev (R1 := TUs X.K) (run := fun base ρ st => evalEs C base es ρ st) (f := fun base ρ _ us st => (match pack us st with
    | some (ws, st) => mkT ws st
    | none => .bad : R U)) stay0 (Rd1.mid h))
  obtain ⟨B, base, μ, st, ρ, p, R, E, ⟨_, z1⟩, q⟩ := h
  dsimp only at q
  split at q
  · rename_i ws st' e
    obtain ⟨R1, S1, h1⟩ := pack_ok R z1 e
    unfold mkT at q
    split at q
    · rename_i hl
      have hlen : ∀ {ws : List W} {vs : List V}, VRs X.K (Own B μ st') H1 ws vs → ws.length = vs.length := fun {ws} => by
        induction ws with
        | nil => intro vs h; cases h; rfl
        | cons a l ih => intro vs h; cases h with | cons _ r => simp [ih r]
      exact ⟨by rw [lim_eq, ← hlen h1]; exact hl, fun p hp => (Post.step S1 q).tup R1 h1 hp⟩
    · exact q.elim
  · exact q.elim
theorem isL_ty {K : PySem.W.Frag} {B : Addr → Prop} {base : Nat} {μ : List Addr} {st : Store} {H : Hp} (R : SRel K B base μ st H) {u : U} {v : V} (h : UR K (Own B μ st) H μ u v) (hl : isL u = true) : tyV K "list" v H := by
  cases h with
  | ref h =>
    rename_i r a
    have hr : r < st.length := by rw [← R.len]; exact (List.getElem?_eq_some_iff.mp h).1
    obtain ⟨a', xs, h1, h2, _⟩ := R.cell r st[r] (List.getElem?_eq_getElem hr)
    rw [h] at h1
    cases h1
    exact .inl ⟨rfl, xs, .inl (.inl h2)⟩
  | v h =>
    cases h with
    | lst h n r => exact .inl ⟨rfl, _, .inl (.inl h)⟩
    | non => cases hl
    | bl => cases hl
    | int => cases hl
    | str => cases hl
    | tup => cases hl
    | scr => cases hl
    | scrK => cases hl
theorem r_mth {b : Mt} {o : E} {es : Es} {x y : Expr} {t : TE} (h : (tE X.K T EX C o = tE X.K T EX C o) → PE X y (fun σ H Q => tE X.K T EX C o σ H fun v H1 => tyV X.K "list" v H1 ∧ tA X.K T EX C es σ H1 fun vs H2 => rUm X.K T.xv EX (fun base => mtR base b) v vs H2 Q)) : pE X T EX C y (.mth b o es) := by
  refine PE.imp (h rfl) fun σ H Q h => ?_
  refine Rd1.mono (fun v H1 h => ?_) (Mid.ev (R1 := TU X.K) (run := fun base ρ st => evalE C base o ρ st) (f := fun base ρ _ u st => (if isL u then (evalEs C base es ρ st).bind fun us st => mtR base b u us st else .bad : R U)) stay0 (Rd1.mid h))
  obtain ⟨B, base, μ, st, ρ, p, R, E, ⟨_, z1⟩, q⟩ := h
  dsimp only at q
  split at q
  · rename_i hl
    refine ⟨isL_ty R z1 hl, ?_⟩
    have h3 : Mid X.K T EX (TU X.K) (fun (u : U) O H μ => TU X.K O H μ u v) (fun base ρ u st => (evalEs C base es ρ st).bind fun us st => mtR base b u us st) σ H1 Q := ⟨B, base, μ, st, ρ, p.2, R, E, z1, q⟩
    refine Rd1.mono (fun w H2 h => ?_) (Mid.ev (R1 := TUs X.K) (f := fun base ρ u us st => mtR base b u us st) (fun u _ _ _ _ _ _ e m t => t.hold e m) h3)
    obtain ⟨B, base, μ, st, ρ, p, R, E, ⟨z1, z2⟩, q⟩ := h
    exact ⟨B, base, μ, st, _, _, R, z1, z2, q⟩
  · exact q.elim
end
end PI

/-! calls of the text's own defs -/
namespace PI
open PySem PySem.Spec PyProof.Rows L2
section
variable {K : PySem.W.Frag} {B : Addr → Prop} {base : Nat} {μ : List Addr} {st : Store} {H : Hp}
theorem SRel.rebase (R : SRel K B base μ st H) : SRel K B st.length μ st H := by
  refine ⟨R.len, R.nd, R.cell, R.out, Nat.le_refl _, fun r c e _ k hk => ?_⟩
  obtain ⟨a, xs, h1, h2, h3⟩ := R.cell r c e
  have mem : ∀ {us : List U} {vs : List V}, URs K (Own B μ st) H μ us vs → U.ref k ∈ us → k < μ.length := fun {us vs} h => by
    induction h with
    | nil => intro z; cases z
    | cons r t ih =>
      intro z
      rcases List.mem_cons.mp z with z | z
      · rw [← z] at r
        cases r with
        | ref r => exact (List.getElem?_eq_some_iff.mp r).1
      · exact ih z
  rw [← R.len]
  exact mem h3 hk
/-- behind a call that ran over the same store -/
theorem SRel.back (R : SRel K B base μ st H) {μ' : List Addr} {st' : Store} {H' : Hp} (S : Stp B st.length μ st H μ' st' H') (R' : SRel K B st.length μ' st' H') : SRel K B base μ' st' H' :=
  ⟨R'.len, R'.nd, R'.cell, R'.out, Nat.le_trans R.bl R'.bl, fun r c e hr k hk => by
    obtain ⟨c0, h0, f⟩ := S.refs r c (Nat.lt_of_lt_of_le hr R.bl) e
    exact R.bok r c0 h0 hr k (f k hk)⟩
theorem Post.rebase {xv : XV} {EX : XK} {Q : VK} (R : SRel K B base μ st H) : ∀ {r : PI.R U}, Post K B base xv EX (TU K) μ st H Q r → Post K B st.length xv EX (TU K) μ st H Q r
  | .ok _ _, h => fun μ' b H' S R' t => h μ' b H' (S.mono R.bl) (R.back S R') t
  | .ex _ _ _, h => fun μ' c d H' S R' x => h μ' c d H' (S.mono R.bl) (R.back S R') x
  | .bad, h => h
/-- no list: data whatever is owned -/
theorem noL_vr {O O' : Addr → Prop} : ∀ {w : W} {v : V}, VR K O H w v → noL w = true → VR K O' H w v := by
  have main : ∀ (n : Nat), (∀ {w : W} {v : V}, sizeOf w ≤ n → VR K O H w v → noL w = true → VR K O' H w v) ∧ (∀ {ws : List W} {vs : List V}, sizeOf ws ≤ n → VRs K O H ws vs → noLs ws = true → VRs K O' H ws vs) := by
    intro n
    induction n with
    | zero =>
      refine ⟨fun {w v} hs h c => ?_, fun {ws vs} hs h c => ?_⟩
      · cases w <;> simp at hs
      · cases ws <;> simp at hs
    | succ n ih =>
      refine ⟨fun {w v} hs h c => ?_, fun {ws vs} hs h c => ?_⟩
      · cases h with
        | non => exact .non
        | bl b => exact .bl b
        | int i => exact .int i
        | str x => exact .str x
        | tup h r =>
          unfold noL at c
          exact .tup h (ih.2 (by simp at hs; omega) r c)
        | lst h n r => unfold noL at c; cases c
        | scr h n r => unfold noL at c; cases c
        | scrK h r => unfold noL at c; cases c
      · cases h with
        | nil => exact .nil
        | cons h r =>
          unfold noLs at c
          rw [Bool.and_eq_true] at c
          exact .cons (ih.1 (by simp at hs; omega) h c.1) (ih.2 (by simp at hs; omega) r c.2)
  exact fun {w v} h c => (main (sizeOf w)).1 (Nat.le_refl _) h c
theorem all_v : ∀ {us : List U}, us.all isV = true → ∃ ws : List W, us = ws.map U.v
  | [], _ => ⟨[], rfl⟩
  | .v w :: r, h => by
    rw [List.all_cons, Bool.and_eq_true] at h
    obtain ⟨ws, e⟩ := all_v h.2
    exact ⟨w :: ws, by rw [e]; rfl⟩
  | .ref _ :: r, h => by
    rw [List.all_cons, Bool.and_eq_true] at h
    cases h.1
theorem mapM_v {st : Store} {n : Nat} : ∀ {us : List U} {ws : List W}, us.mapM (snap n st) = some ws → us.length = ws.length
  | [], ws, e => by simp at e; subst e; rfl
  | u :: us, ws, e => by
    rw [List.mapM_cons] at e
    cases e1 : snap n st u with
    | none => simp [e1] at e
    | some w =>
      cases e2 : us.mapM (snap n st) with
      | none => simp [e1, e2] at e
      | some ws' =>
        simp [e1, e2] at e
        subst e
        simp [mapM_v e2]
/-- the places of the arguments, frozen -/
theorem frozA_ok : ∀ {us : List U} {st st' : Store}, SRel K B base μ st H → frozA us st = some st' → SRel K B base μ st' H ∧ Stp B base μ st H μ st' H ∧ (∀ r a, U.ref r ∈ us → μ[r]? = some a → ¬ Own B μ st' a) ∧ ∀ a, Own B μ st' a → Own B μ st a
  | [], st, st', R, e => by
    simp only [frozA, Option.some.injEq] at e
    subst e
    exact ⟨R, .refl, fun _ _ h => (nomatch h), fun _ h => h⟩
  | .v _ :: us, st, st', R, e => by
    obtain ⟨R1, S1, h1, h2⟩ := frozA_ok (us := us) R (by simpa [frozA] using e)
    refine ⟨R1, S1, fun r a h => ?_, h2⟩
    rcases List.mem_cons.mp h with h | h
    · cases h
    · exact h1 r a h
  | .ref x :: us, st, st', R, e => by
    simp only [frozA] at e
    split at e
    · rename_i ws e0
      obtain ⟨xs, e3, e4⟩ := Option.bind_eq_some_iff.mp e0
      obtain ⟨c, hc, rfl⟩ := Option.map_eq_some_iff.mp e3
      obtain ⟨R0, S0⟩ := R.froz x
      obtain ⟨R1, S1, h1, h2⟩ := frozA_ok (us := us) R0 e
      have sub : ∀ a, Own B μ (PI.froz x st) a → Own B μ st a := fun a z => by
        rcases z with z | ⟨s, d, k1, k2, k3⟩
        · exact .inl z
        · unfold PI.froz at k1
          rw [hc] at k1
          rcases set_get hc k1 with ⟨rfl, rfl⟩ | ⟨_, k1⟩
          · exact absurd rfl k2
          · exact .inr ⟨s, d, k1, k2, k3⟩
      refine ⟨R1, S0.trans S1, fun r a h g => ?_, fun a z => sub a (h2 a z)⟩
      rcases List.mem_cons.mp h with h | h
      · cases h
        intro z
        have z := h2 a z
        rcases z with z | ⟨s, d, k1, k2, k3⟩
        · exact (R.out a z).2 (List.mem_of_getElem? g)
        · obtain rfl := R.inj g k3
          unfold PI.froz at k1
          rw [hc] at k1
          rcases set_get hc k1 with ⟨_, rfl⟩ | ⟨hne, _⟩
          · exact k2 rfl
          · exact hne rfl
      · exact h1 r a h g
    · cases e
end
section
variable {X : Cx} {T : Tab} {EX : XK}
/-- an empty store over any heap -/
theorem SRel.none {K : PySem.W.Frag} {B' : Addr → Prop} {H : Hp} (h : ∀ a, B' a → ∃ o, H a = some o) : SRel K B' 0 [] [] H :=
  ⟨rfl, .nil, fun r c e => by simp at e, fun a z => ⟨h a z, by simp⟩, Nat.le_refl _, fun r c e => by simp at e⟩
theorem Own.none {B' : Addr → Prop} {a : Addr} (h : Own B' [] [] a) : B' a := by
  rcases h with h | ⟨r, c, h, _⟩
  · exact h
  · simp at h
/-- the call by data: what the callee's run from an empty store gives -/
theorem pcall_sp {d f : Nat} {F : Fn} {B : Addr → Prop} {base : Nat} {μ : List Addr} {st : Store} {H : Hp} {us : List U} {vs : List V} {Q : VK} (hF : T.fns[f]? = some F) (hn : us.length = F.np) (R : SRel X.K B base μ st H) (ru : URs X.K (Own B μ st) H μ us vs)
    (h : Post X.K B base T.xv EX (TU X.K) μ st H Q (pcall (callD T.fns d) f us st)) : spF T X.K d f vs H Q EX := by
  unfold pcall at h
  split at h
  · rename_i ws e
    have hl : (ws.map U.v).length = F.np := by rw [List.length_map, ← mapM_v e, hn]
    -- a later heap in which all that was there stands as it stood
    have later : ∀ {B' : Addr → Prop} {μ' : List Addr} {H' : Hp}, Stp B' ([] : Store).length [] [] H μ' [] H' → SRel X.K B base μ st H' ∧ Stp B base μ st H μ st H' := fun {B' μ' H'} S => by
      have kp : ∀ a o, H a = some o → (∀ ps, o ≠ .tbl ps) → H' a = some o := fun a o g n => S.keep a o g n fun ⟨r, c, z, _⟩ => by simp at z
      have S2 : Stp B base μ st H μ st H' := ⟨⟨[], by simp⟩, fun a o g n _ => kp a o g n, fun _ _ _ n => n, fun _ _ _ n => n, S.there, fun r c _ g => ⟨c, g, fun _ z => z⟩⟩
      refine ⟨⟨R.len, R.nd, fun r c g => ?_, fun a g => ⟨?_, (R.out a g).2⟩, R.bl, R.bok⟩, S2⟩
      · obtain ⟨a, xs, h1, h2, h3⟩ := R.cell r c g
        exact ⟨a, xs, h1, kp a _ h2 fun _ z => (nomatch z), S2.urs R h3⟩
      · obtain ⟨o, g2⟩ := (R.out a g).1
        exact S.there a o g2
    split at h
    · rename_i w e2
      by_cases hw : noL w = true
      · refine ⟨F, B, [], [], ws.map .v, hF, hl, SRel.none fun a g => (R.out a g).1, URs.of_vrs (snap_list (fun u v w hu hs => snap_vr R (O' := Own B [] []) (fun a z => .inl z.none) (fun a ha z => (R.out a z.none).2 ha) 4 u v w hu hs) ru e), ?_⟩
        rw [e2]
        intro μ' v H' S' R' r
        obtain ⟨R2, S2⟩ := later S'
        have em : μ' = [] := List.eq_nil_of_length_eq_zero R'.len
        subst em
        rw [if_pos (by rw [hw, Bool.or_true])] at h
        cases r with
        | v r => exact h μ v H' S2 R2 (.v (noL_vr r hw))
      · cases ha : us.all isV with
        | true =>
          obtain ⟨ks, rfl⟩ := all_v ha
          have ek : ks = ws := by
            have : ∀ l : List W, (l.map U.v).mapM (snap 4 st) = some l := fun l => by
              induction l with
              | nil => rfl
              | cons a l ih => rw [List.map_cons, List.mapM_cons, ih]; rfl
            rw [this] at e
            exact Option.some.inj e
          subst ek
          refine ⟨F, Own B μ st, [], [], ks.map .v, hF, hl, SRel.none fun a g => R.own_there g, ?_, ?_⟩
          · have := VRs.of_paired (ws := ks) ru (by
              have : ∀ l : List W, pures (l.map U.v) = some l := fun l => by
                induction l with
                | nil => rfl
                | cons a l ih => simp [pures, ih]
              exact this ks)
            exact URs.of_vrs (VRs.hold (hold_sub fun a z => z.none) this)
          rw [e2]
          intro μ' v H' S' R' r
          obtain ⟨R2, S2⟩ := later S'
          have em : μ' = [] := List.eq_nil_of_length_eq_zero R'.len
          subst em
          rw [if_pos (by rw [ha, Bool.true_or])] at h
          cases r with
          | v r => exact h μ v H' S2 R2 (.v (r.hold (hold_sub fun a z => .inl z)))
        | false =>
          rw [if_neg (by rw [ha, Bool.false_or]; exact hw)] at h
          split at h
          · rename_i st' e3
            have hB : ∀ a, (Own B μ st a ∧ ∀ r, U.ref r ∈ us → μ[r]? ≠ some a) → Own B μ st a := fun a z => z.1
            refine ⟨F, fun a => Own B μ st a ∧ ∀ r, U.ref r ∈ us → μ[r]? ≠ some a, [], [], ws.map .v, hF, hl, SRel.none fun a g => R.own_there g.1, ?_, ?_⟩
            · -- each argument by itself
              have one : ∀ (l : List U) (ys : List V) (zs : List W), (∀ u ∈ l, u ∈ us) → frozA us st = some st' → URs X.K (Own B μ st) H μ l ys → l.mapM (snap 4 st) = some zs → VRs X.K (Own (fun a => Own B μ st a ∧ ∀ r, U.ref r ∈ us → μ[r]? ≠ some a) [] []) H zs ys := by
                intro l
                induction l with
                | nil =>
                  intro ys zs _ _ r g
                  simp at g
                  subst g
                  cases r
                  exact .nil
                | cons u l ih =>
                  intro ys zs hm hf r g
                  rw [List.mapM_cons] at g
                  cases g1 : snap 4 st u with
                  | none => simp [g1] at g
                  | some z =>
                    cases g2 : l.mapM (snap 4 st) with
                    | none => simp [g1, g2] at g
                    | some zs' =>
                      simp [g1, g2] at g
                      subst g
                      cases r with
                      | cons r r' =>
                        refine .cons ?_ (ih _ _ (fun x hx => hm x (List.mem_cons_of_mem _ hx)) hf r' g2)
                        cases r with
                        | v r =>
                          rename_i w0
                          have g1 : some w0 = some z := by simpa only [snap] using g1
                          obtain rfl := Option.some.inj g1
                          exact r.hold (hold_sub fun a z => z.none.1)
                        | ref r =>
                          rename_i x a
                          -- its items are data
                          have pur : ∃ xs ks, cells st x = some xs ∧ pures xs = some ks := by
                            have : ∀ (l : List U) (s s' : Store), (∀ y xs, cells st y = some xs ↔ cells s y = some xs) → frozA l s = some s' → U.ref x ∈ l → ∃ xs ks, cells st x = some xs ∧ pures xs = some ks := by
                              intro l
                              induction l with
                              | nil => intro s s' _ _ z; cases z
                              | cons y l ih =>
                                intro s s' hs hf z
                                cases y with
                                | v w =>
                                  rcases List.mem_cons.mp z with z | z
                                  · cases z
                                  · exact ih s s' hs (by simpa [frozA] using hf) z
                                | ref y =>
                                  simp only [frozA] at hf
                                  split at hf
                                  · rename_i ks e0
                                    obtain ⟨xs, k1, k2⟩ := Option.bind_eq_some_iff.mp e0
                                    rcases List.mem_cons.mp z with z | z
                                    · cases z
                                      exact ⟨xs, ks, (hs _ _).mpr k1, k2⟩
                                    · refine ih (PI.froz y s) s' (fun q xs => ?_) hf z
                                      rw [hs]
                                      unfold PI.froz cells
                                      cases hc : s[y]? with
                                      | none => exact Iff.rfl
                                      | some c =>
                                        dsimp only
                                        by_cases hq : y = q
                                        · subst hq
                                          rw [List.getElem?_set_self (List.getElem?_eq_some_iff.mp hc).1, hc]
                                          exact Iff.rfl
                                        · rw [List.getElem?_set_ne hq]
                                  · cases hf
                            exact this us st st' (fun _ _ => Iff.rfl) hf (hm _ List.mem_cons_self)
                          obtain ⟨xs, ks, k1, k2⟩ := pur
                          obtain ⟨b, ys', c, hb, q1, q2, q3, q4, q5⟩ := cells_get R (.ref r) k1
                          cases hb
                          have ez : z = .list ks := by
                            simp only [snap, k1] at g1
                            rw [pures_map k2] at g1
                            have : ∀ l : List W, (l.map U.v).mapM (snap 3 st) = some l := fun l => by
                              induction l with
                              | nil => rfl
                              | cons a l ih => rw [List.map_cons, List.mapM_cons, ih]; rfl
                            rw [this] at g1
                            exact (Option.some.inj g1).symm
                          subst ez
                          exact .lst q4 (fun z => z.none.2 x (hm _ List.mem_cons_self) q1) (VRs.hold (hold_sub fun a z => z.none.1) (VRs.of_paired q5 k2))
              exact URs.of_vrs (one us vs ws (fun _ h => h) e3 ru e)
            rw [e2]
            intro μ' v H' S' R' r
            obtain ⟨R2, S2⟩ := later S'
            have em : μ' = [] := List.eq_nil_of_length_eq_zero R'.len
            subst em
            obtain ⟨R3, S3, h1, h2⟩ := frozA_ok R2 e3
            cases r with
            | v r =>
              refine h μ v H' (S2.trans S3) R3 (.v (r.hold (hold_sub fun a z => .inl ⟨h2 a z, fun q hq g => h1 q a hq g z⟩)))
          · exact h.elim
    · rename_i c w e2
      refine ⟨F, B, [], [], ws.map .v, hF, hl, SRel.none fun a g => (R.out a g).1, URs.of_vrs (snap_list (fun u v w hu hs => snap_vr R (O' := Own B [] []) (fun a z => .inl z.none) (fun a ha z => (R.out a z.none).2 ha) 4 u v w hu hs) ru e), ?_⟩
      rw [e2]
      intro μ' cls d H' S' R' x
      obtain ⟨R2, S2⟩ := later S'
      exact h μ cls d H' S2 R2 x
    · exact h.elim
  · exact h.elim
theorem icall_sp {d f : Nat} {F : Fn} {B : Addr → Prop} {base : Nat} {μ : List Addr} {st : Store} {H : Hp} {us : List U} {vs : List V} {Q : VK} (hF : T.fns[f]? = some F) (hn : us.length = F.np) (R : SRel X.K B base μ st H) (ru : URs X.K (Own B μ st) H μ us vs)
    (h : Post X.K B base T.xv EX (TU X.K) μ st H Q (callD T.fns d f us st)) : spF T X.K d f vs H Q EX := ⟨F, B, μ, st, us, hF, hn, R.rebase, ru, h.rebase R⟩
theorem callD_np {P : List Fn} {d f : Nat} {us : List U} {st : Store} {F : Fn} (hF : P[f]? = some F) (h : us.length ≠ F.np) : callD P d f us st = .bad := by
  cases d with
  | zero => rfl
  | succ d =>
    unfold callD
    rw [hF]
    dsimp only
    rw [if_neg h]
/-- f(e, ..), f a def of the text -/
theorem r_call {d : Nat} {M : MC} (c : Ctx T d M X EX) {q : Bool} {f : Nat} {F : Fn} {es : Es} {x : Str} {y : Expr} {xs : List Expr} {p pos : Pos} (hF : T.fns[f]? = some F) (hx : T.nm[f]? = some x) (hg : Gl X x) (hdb : (x == ("__debug__" : Str)) = false)
    (hp : ∀ e ∈ y :: xs, Plain X.env e) (ha : pA X T EX (callD T.fns d) (y :: xs) es) : pE X T EX (callD T.fns d) (.Call (.Name x p) (y :: xs) [] pos) (.call q f es) := by
  obtain ⟨fa, fd, ps, hm, hk, hb, hnp, hfn⟩ := c.fns f F x hF hx
  refine PE.imp (pe_call (dvs := []) hfn c.room hg hm hk hb .nil c.pass ha hdb (hp y List.mem_cons_self xs) (plain_any fun e he => hp e (List.mem_cons_of_mem _ he))) fun σ H Q h => ?_
  refine Rd1.mono (fun vs H1 h => ?_) (Mid.ev (R1 := TUs X.K) (run := fun base ρ st => evalEs (callD T.fns d) base es ρ st) (f := fun base ρ _ us st => (if q then pcall (callD T.fns d) f us st else callD T.fns d f us st : R U)) stay0 (Rd1.mid h))
  obtain ⟨B, base, μ, st, ρ, p, R, E, ⟨_, z1⟩, hq⟩ := h
  dsimp only at hq
  rw [List.append_nil]
  by_cases hn : p.2.length = F.np
  · cases q with
    | true => exact pcall_sp hF hn R z1 hq
    | false => exact icall_sp hF hn R z1 hq
  · cases q with
    | true =>
      rw [if_pos rfl] at hq
      unfold pcall at hq
      split at hq
      · rename_i ws e
        rw [callD_np hF (by rw [List.length_map, ← mapM_v e]; exact hn)] at hq
        exact hq.elim
      · exact hq.elim
    | false =>
      rw [if_neg Bool.false_ne_true, callD_np hF hn] at hq
      exact hq.elim
theorem r_call0 {d : Nat} {M : MC} (c : Ctx T d M X EX) {q : Bool} {f : Nat} {F : Fn} {x : Str} {p pos : Pos} (hF : T.fns[f]? = some F) (hx : T.nm[f]? = some x) (hg : Gl X x) (hdb : (x == ("__debug__" : Str)) = false) :
    pE X T EX (callD T.fns d) (.Call (.Name x p) [] [] pos) (.call q f .nil) := by
  obtain ⟨fa, fd, ps, hm, hk, hb, hnp, hfn⟩ := c.fns f F x hF hx
  refine PE.imp (pe_call0 (dvs := []) hfn c.room hg hm hk hb .nil c.pass hdb) fun σ H Q h => ?_
  obtain ⟨B, base, μ, st, ρ, R, E, hq⟩ := h
  have hq : Post X.K B base T.xv EX (TU X.K) μ st H Q (if q then pcall (callD T.fns d) f [] st else callD T.fns d f [] st : PI.R U) := hq
  show spF T X.K d f [] H Q EX
  by_cases hn : ([] : List U).length = F.np
  · cases q with
    | true => exact pcall_sp (us := []) hF hn R .nil hq
    | false => exact icall_sp (us := []) hF hn R .nil hq
  · cases q with
    | true =>
      rw [if_pos rfl] at hq
      unfold pcall at hq
      have e : ([] : List U).mapM (snap 4 st) = some [] := rfl
      rw [e] at hq
      dsimp only at hq
      rw [show callD T.fns d f (([] : List W).map U.v) [] = .bad from callD_np hF hn] at hq
      exact hq.elim
    | false =>
      rw [if_neg Bool.false_ne_true, callD_np hF hn] at hq
      exact hq.elim
end
end PI

/-! what loops walk -/
namespace PI
open PySem PySem.Spec PyProof.Rows L2
theorem Paired.at' {α β : Type} {F : α → β → Prop} : ∀ {xs : List α} {ys : List β}, Paired F xs ys → ∀ {i : Nat} {y : β}, ys[i]? = some y → ∃ x, xs[i]? = some x ∧ F x y
  | _, _, .nil, i, x, e => by simp at e
  | _, _, .cons r t, 0, x, e => ⟨_, rfl, by cases e; exact r⟩
  | _, _, .cons r t, i + 1, x, e => by
    obtain ⟨y, h1, h2⟩ := Paired.at' t (i := i) (by simpa using e)
    exact ⟨y, by simpa using h1, h2⟩
/-- from one state to a later one, where more belongs to others -/
structure Stq (B B' : Addr → Prop) (μ : List Addr) (st : Store) (H : Hp) (μ' : List Addr) (st' : Store) (H' : Hp) : Prop where
  ext : ∃ t, μ' = μ ++ t
  keep : ∀ a o, H a = some o → (∀ ps, o ≠ .tbl ps) → ¬ Live μ st a → (∀ xs, o = .lst xs → ¬ B a) → H' a = some o
  own : ∀ a o, H a = some o → ¬ Own B μ st a → ¬ Own B' μ' st' a
section
variable {K : PySem.W.Frag} {B B' : Addr → Prop} {base : Nat} {μ μ' : List Addr} {st st' : Store} {H H' : Hp}
theorem Stp.stq (S : Stp B base μ st H μ' st' H') : Stq B B μ st H μ' st' H' := ⟨S.ext, fun a o h n l _ => S.keep a o h n l, S.own⟩
theorem Stq.hold (R : SRel K B base μ st H) (s : Stq B B' μ st H μ' st' H') : Hold (Own B μ st) (Own B' μ' st') H H' where
  tup := fun a xs h => s.keep a _ h (fun _ z => nomatch z) (fun l => by
    obtain ⟨ys, e⟩ := R.live_lst l
    rw [h] at e
    cases e) (fun _ z => nomatch z)
  frz := fun a o u h => s.keep a _ h (fun _ z => nomatch z) (fun l => by
    obtain ⟨ys, e⟩ := R.live_lst l
    rw [h] at e
    cases e) (fun _ z => nomatch z)
  lst := fun a xs h n => s.keep a _ h (fun _ z => nomatch z) (fun l => n l.own) (fun _ _ z => n (.inl z))
  own := fun a o h n => s.own a o h n
theorem Stq.urs (R : SRel K B base μ st H) (s : Stq B B' μ st H μ' st' H') {us : List U} {vs : List V} (h : URs K (Own B μ st) H μ us vs) : URs K (Own B' μ' st') H' μ' us vs := URs.hold (s.hold R) s.ext h
end
/-- J walks the items xs, whatever the turns do -/
structure Wk (K : PySem.W.Frag) (B : Addr → Prop) (base : Nat) (μ0 : List Addr) (st0 : Store) (H0 : Hp) (J : L2.It) (xs : List U) : Prop where
  go : ∀ B' i μ st H, Stq B B' μ0 st0 H0 μ st H → SRel K B' base μ st H → i < xs.length → J.go i H
  stop : ∀ B' i μ st H, Stq B B' μ0 st0 H0 μ st H → SRel K B' base μ st H → xs.length ≤ i → J.stop i H
  yld : ∀ B' i μ st H v H', Stq B B' μ0 st0 H0 μ st H → SRel K B' base μ st H → i < xs.length → J.yld i H v H' → ∃ u, xs[i]? = some u ∧ SRel K B' base μ st H' ∧ Stp B' base μ st H μ st H' ∧ UR K (Own B' μ st) H' μ u v
section
variable {K : PySem.W.Frag} {B : Addr → Prop} {base : Nat} {μ : List Addr} {st : Store} {H : Hp}
theorem lock_dead (R : SRel K B base μ st H) {u : U} {v : V} {us : List U} {a : Addr} (h : UR K (Own B μ st) H μ u (.ref a)) (e : seqOf st u = some us) (hl : isL u = true) : ¬ Live μ (lockS u st).1 a ∧ ¬ B a := by
  refine ⟨?_, fun z => ?_⟩
  rotate_left
  · cases h with
    | ref h => exact (R.out a z).2 (List.mem_of_getElem? h)
    | v h =>
      cases h with
      | lst h n r => exact n (.inl z)
      | tup h r => cases hl
      | scr h n r => cases hl
      | scrK h r => cases hl
  rintro ⟨s, d, h1, h2, h3⟩
  cases h with
  | ref h =>
    rename_i r
    obtain rfl := R.inj h h3
    simp only [seqOf, cells, Option.map_eq_some_iff] at e
    obtain ⟨c, hc, _⟩ := e
    simp only [lockS, hc] at h1
    split at h1
    · rcases set_get hc h1 with ⟨_, rfl⟩ | ⟨hne, _⟩
      · cases h2
      · exact hne rfl
    · rename_i hl
      rw [hc] at h1
      cases h1
      exact hl h2
  | v h =>
    cases h with
    | lst h n r => exact n (Live.own ⟨s, d, h1, h2, h3⟩)
    | tup h r => cases hl
    | scr h n r => cases hl
    | scrK h r => cases hl
theorem wk_list (R : SRel K B base μ st H) {u : U} {v : V} {us : List U} (h : UR K (Own B μ st) H μ u v) (e : seqOf st u = some us) (hl : isL u = true) :
    ∃ a vs, v = .ref a ∧ H a = some (.lst vs) ∧ URs K (Own B μ st) H μ us vs ∧ (¬ Live μ (lockS u st).1 a ∧ ¬ B a) ∧ Wk K B base μ (lockS u st).1 H (Itl K a) us := by
  obtain ⟨a, vs, rfl, r, hk⟩ := seq_ur R h e
  have ha : H a = some (.lst vs) := by
    rcases hk with ⟨_, t, _⟩ | ⟨_, _, hk⟩
    · rw [hl] at t; cases t
    · exact hk
  have dead := lock_dead (v := .ref a) R h e hl
  obtain ⟨R0, S0, _⟩ := R.lockS u
  have r0 := S0.urs R r
  have at_ : ∀ {B1 : Addr → Prop} {μ1 : List Addr} {st1 : Store} {H1 : Hp}, Stq B B1 μ (lockS u st).1 H μ1 st1 H1 → H1 a = some (.lst vs) := fun S => S.keep a _ ha (fun _ z => nomatch z) dead.1 fun _ _ => dead.2
  refine ⟨a, vs, rfl, ha, r, dead, ⟨fun B1 i μ1 st1 H1 S R1 hi => ?_, fun B1 i μ1 st1 H1 S R1 hi => ?_, fun B1 i μ1 st1 H1 v H' S R1 hi hy => ?_⟩⟩
  · have hi' : i < vs.length := by rw [← Paired.length r]; exact hi
    exact ⟨vs, vs[i], .inl (.inl (at_ S)), List.getElem?_eq_getElem hi'⟩
  · exact ⟨vs, .inl (.inl (at_ S)), by rw [← Paired.length r]; exact hi⟩
  · obtain ⟨rfl, f⟩ := hy
    obtain ⟨x, h1, h2⟩ := Paired.at' (S.urs R0 r0) (f vs (.inl (.inl (at_ S))))
    exact ⟨x, h1, R1, .refl, h2⟩
theorem lockS_v {w : W} : lockS (.v w) st = (st, none) := rfl
theorem wk_tup (R : SRel K B base μ st H) {u : U} {v : V} {us : List U} (h : UR K (Own B μ st) H μ u v) (e : seqOf st u = some us) (hl : isT u = true) :
    ∃ a vs, v = .ref a ∧ SqT K H a vs ∧ URs K (Own B μ st) H μ us vs ∧ lockS u st = (st, none) ∧ Wk K B base μ st H (Itt K a) us := by
  obtain ⟨a, vs, rfl, r, hk⟩ := seq_ur R h e
  have ha : SqT K H a vs := by
    rcases hk with ⟨_, _, hk⟩ | ⟨_, t, _⟩
    · exact hk
    · rw [hl] at t; cases t
  have el : lockS u st = (st, none) := by
    cases u with
    | v w => rfl
    | ref r => cases hl
  have at_ : ∀ {B1 : Addr → Prop} {μ1 : List Addr} {st1 : Store} {H1 : Hp}, Stq B B1 μ st H μ1 st1 H1 → SqT K H1 a vs := fun S => SqT.hold ha (S.hold R)
  refine ⟨a, vs, rfl, ha, r, el, ⟨fun B1 i μ1 st1 H1 S R1 hi => ?_, fun B1 i μ1 st1 H1 S R1 hi => ?_, fun B1 i μ1 st1 H1 v H' S R1 hi hy => ?_⟩⟩
  · have hi' : i < vs.length := by rw [← Paired.length r]; exact hi
    exact ⟨vs, vs[i], at_ S, List.getElem?_eq_getElem hi'⟩
  · exact ⟨vs, at_ S, by rw [← Paired.length r]; exact hi⟩
  · obtain ⟨rfl, f⟩ := hy
    obtain ⟨x, h1, h2⟩ := Paired.at' (S.urs R r) (f vs (at_ S))
    exact ⟨x, h1, R1, .refl, h2⟩
theorem wk_str (R : SRel K B base μ st H) (s : Str) : Wk K B base μ st H (Its s) (s.cps.toList.map fun c => .v (.str ⟨#[c]⟩)) := by
  refine ⟨fun B1 i μ1 st1 H1 S R1 hi => ?_, fun B1 i μ1 st1 H1 S R1 hi => ?_, fun B1 i μ1 st1 H1 v H' S R1 hi hy => ?_⟩
  · show i < s.cps.size
    simpa using hi
  · show s.cps.size ≤ i
    simpa using hi
  · obtain ⟨rfl, c, h1, rfl⟩ := hy
    refine ⟨.v (.str ⟨#[c]⟩), ?_, R1, .refl, .v (.str _)⟩
    rw [List.getElem?_map]
    have : s.cps.toList[i]? = some c := by simpa using h1
    rw [this]
    rfl
theorem rangeL_get (lo c : Int) : ∀ (n i : Nat), i < n → (rangeL lo c n)[i]? = some (.v (.int (lo + (i : Nat) * c)))
  | 0, i, h => absurd h (Nat.not_lt_zero _)
  | n + 1, 0, _ => by simp [rangeL]
  | n + 1, i + 1, h => by
    rw [rangeL, List.getElem?_cons_succ, rangeL_get (lo + c) c n i (Nat.lt_of_succ_lt_succ h)]
    congr 3
    have : ((i + 1 : Nat) : Int) * c = (i : Int) * c + c := by
      rw [show ((i + 1 : Nat) : Int) = (i : Int) + 1 by omega, Int.add_mul, Int.one_mul]
    omega
theorem rangeL_len (lo c : Int) : ∀ n : Nat, (rangeL lo c n).length = n
  | 0 => rfl
  | n + 1 => by rw [rangeL, List.length_cons, rangeL_len (lo + c) c n]
theorem wk_range (R : SRel K B base μ st H) (lo : Int) (n : Nat) : Wk K B base μ st H (Itr lo n) (rangeL lo 1 n) := by
  refine ⟨fun B1 i μ1 st1 H1 S R1 hi => ?_, fun B1 i μ1 st1 H1 S R1 hi => ?_, fun B1 i μ1 st1 H1 v H' S R1 hi hy => ?_⟩
  · rw [rangeL_len] at hi; exact hi
  · rw [rangeL_len] at hi; exact hi
  · rw [rangeL_len] at hi
    obtain ⟨rfl, rfl⟩ := hy
    refine ⟨_, rangeL_get lo 1 n i hi, R1, .refl, ?_⟩
    rw [Int.mul_one]
    exact .v (.int _)
theorem wk_rangeC (R : SRel K B base μ st H) (lo c : Int) (n : Nat) : Wk K B base μ st H (Itc lo c n) (rangeL lo c n) := by
  refine ⟨fun B1 i μ1 st1 H1 S R1 hi => ?_, fun B1 i μ1 st1 H1 S R1 hi => ?_, fun B1 i μ1 st1 H1 v H' S R1 hi hy => ?_⟩
  · rw [rangeL_len] at hi; exact hi
  · rw [rangeL_len] at hi; exact hi
  · rw [rangeL_len] at hi
    obtain ⟨rfl, rfl⟩ := hy
    exact ⟨_, rangeL_get lo c n i hi, R1, .refl, .v (.int _)⟩
theorem enumL_len : ∀ (i : Int) (ws : List W), (enumL i ws).length = ws.length
  | _, [] => rfl
  | i, w :: r => by rw [enumL, List.length_cons, enumL_len (i + 1) r, List.length_cons]
theorem enumL_get : ∀ (ws : List W) (lo : Int) (i : Nat) (w : W), ws[i]? = some w → (enumL lo ws)[i]? = some (.v (.tuple [.int (lo + (i : Nat)), w]))
  | [], _, _, _, h => by simp at h
  | a :: r, lo, 0, w, h => by
    have : a = w := by simpa using h
    subst this
    simp [enumL]
  | a :: r, lo, i + 1, w, h => by
    rw [enumL, List.getElem?_cons_succ, enumL_get r (lo + 1) i w (by simpa using h)]
    have e : lo + 1 + ((i : Nat) : Int) = lo + ((i + 1 : Nat) : Int) := by omega
    rw [e]
theorem zipL_len : ∀ (a b : List W), (zipL a b).length = min a.length b.length
  | [], b => by simp [zipL]
  | _ :: _, [] => by simp [zipL]
  | _ :: r, _ :: s => by rw [zipL, List.length_cons, zipL_len r s, List.length_cons, List.length_cons]; omega
theorem zipL_get : ∀ (a b : List W) (i : Nat) (x y : W), a[i]? = some x → b[i]? = some y → (zipL a b)[i]? = some (.v (.tuple [x, y]))
  | [], _, _, _, _, h, _ => by simp at h
  | _ :: _, [], _, _, _, _, h => by simp at h
  | a :: r, b :: s, 0, x, y, h, h' => by
    have e1 : a = x := by simpa using h
    have e2 : b = y := by simpa using h'
    subst e1 e2
    rfl
  | a :: r, b :: s, i + 1, x, y, h, h' => by
    rw [zipL, List.getElem?_cons_succ]
    exact zipL_get r s i x y (by simpa using h) (by simpa using h')
theorem VRs.at {O : Addr → Prop} : ∀ {ws : List W} {vs : List V}, VRs K O H ws vs → ∀ {i : Nat} {w : W}, ws[i]? = some w → ∃ v, vs[i]? = some v ∧ VR K O H w v
  | _, _, .nil, i, w, e => by simp at e
  | _, _, .cons h r, 0, w, e => ⟨_, rfl, by cases e; exact h⟩
  | _, _, .cons h r, i + 1, w, e => by
    obtain ⟨v, h1, h2⟩ := VRs.at r (i := i) (by simpa using e)
    exact ⟨v, by simpa using h1, h2⟩
theorem VRs.len {O : Addr → Prop} : ∀ {ws : List W} {vs : List V}, VRs K O H ws vs → ws.length = vs.length
  | _, _, .nil => rfl
  | _, _, .cons h r => by rw [List.length_cons, List.length_cons, VRs.len r]
/-- a list numbered -/
theorem wk_enum (R : SRel K B base μ st H) {u : U} {v : V} {us : List U} {ws : List W} (h : UR K (Own B μ st) H μ u v) (e : seqOf st u = some us) (hl : isL u = true) (ep : pures us = some ws) :
    ∃ a vs, v = .ref a ∧ H a = some (.lst vs) ∧ Wk K B base μ (lockS u st).1 H (Ite K a) (enumL 0 ws) := by
  obtain ⟨a, vs, rfl, ha, r, dead, _⟩ := wk_list R h e hl
  have rv := VRs.of_paired r ep
  obtain ⟨R0, S0, _⟩ := R.lockS u
  have rv0 := VRs.hold (S0.hold R) rv
  have at_ : ∀ {B1 : Addr → Prop} {μ1 : List Addr} {st1 : Store} {H1 : Hp}, Stq B B1 μ (lockS u st).1 H μ1 st1 H1 → H1 a = some (.lst vs) := fun S => S.keep a _ ha (fun _ z => nomatch z) dead.1 fun _ _ => dead.2
  have hlen : (enumL 0 ws).length = vs.length := by rw [enumL_len, VRs.len rv]
  refine ⟨a, vs, rfl, ha, ⟨fun B1 i μ1 st1 H1 S R1 hi => ?_, fun B1 i μ1 st1 H1 S R1 hi => ?_, fun B1 i μ1 st1 H1 v H' S R1 hi hy => ?_⟩⟩
  · rw [hlen] at hi
    exact ⟨vs, vs[i], .inl (.inl (at_ S)), List.getElem?_eq_getElem hi⟩
  · exact ⟨vs, .inl (.inl (at_ S)), by rw [← hlen]; exact hi⟩
  · obtain ⟨p, x, rfl, n, rfl, f⟩ := hy
    have hi' : i < ws.length := by rw [enumL_len] at hi; exact hi
    obtain ⟨x', h1, h2⟩ := VRs.at (VRs.hold (S.hold R0) rv0) (List.getElem?_eq_getElem hi')
    rw [f vs (.inl (.inl (at_ S)))] at h1
    cases h1
    obtain ⟨R2, S2⟩ := R1.fresh (o := .tup [.int (i : Nat), x]) n
    refine ⟨_, enumL_get ws 0 i _ (List.getElem?_eq_getElem hi'), R2, S2, .v (.tup (.inl (.inl upd_same)) ?_)⟩
    rw [Int.zero_add]
    exact .cons (.int _) (.cons (h2.hold (S2.hold R1)) .nil)

theorem lockS_seq (u y : U) : seqOf (lockS u st).1 y = seqOf st y := by
  cases u with
  | v w => rfl
  | ref r =>
    cases hc : st[r]? with
    | none => simp only [lockS, hc]
    | some c =>
      simp only [lockS, hc]
      by_cases hl : c.lv = .live
      · rw [if_pos hl]
        cases y with
        | v w => cases w <;> rfl
        | ref s =>
          simp only [seqOf, cells]
          by_cases hs : r = s
          · subst hs
            rw [List.getElem?_set_self (List.getElem?_eq_some_iff.mp hc).1, hc]
            rfl
          · rw [List.getElem?_set_ne hs]
      · rw [if_neg hl]
/-- two lists side by side -/
theorem wk_zipL (R : SRel K B base μ st H) {u y : U} {v x : V} {us ys : List U} {ws ks : List W} (h : UR K (Own B μ st) H μ u v) (h' : UR K (Own B μ st) H μ y x) (e : seqOf st u = some us) (e' : seqOf st y = some ys) (hl : isL u = true) (hl' : isL y = true) (ep : pures us = some ws) (ep' : pures ys = some ks) :
    ∃ a b vs xs, v = .ref a ∧ x = .ref b ∧ H a = some (.lst vs) ∧ H b = some (.lst xs) ∧ Wk K B base μ (lockS y (lockS u st).1).1 H (Itz K a b) (zipL ws ks) := by
  obtain ⟨a, vs, rfl, ha, r, dead, _⟩ := wk_list R h e hl
  obtain ⟨R0, S0, _⟩ := R.lockS u
  obtain ⟨b, xs, rfl, hb, r', dead', _⟩ := wk_list R0 (S0.ur R h') (by rw [lockS_seq]; exact e') hl'
  obtain ⟨R1, S1, _⟩ := R0.lockS y
  have dead2 : ¬ Live μ (lockS y (lockS u st).1).1 a := S1.live a _ ha dead.1
  have rv := VRs.hold (S1.hold R0) (VRs.hold (S0.hold R) (VRs.of_paired r ep))
  have rx := VRs.hold (S1.hold R0) (VRs.of_paired r' ep')
  have at1 : ∀ {B1 : Addr → Prop} {μ1 : List Addr} {st1 : Store} {H1 : Hp}, Stq B B1 μ (lockS y (lockS u st).1).1 H μ1 st1 H1 → H1 a = some (.lst vs) := fun S => S.keep a _ ha (fun _ z => nomatch z) dead2 fun _ _ => dead.2
  have at2 : ∀ {B1 : Addr → Prop} {μ1 : List Addr} {st1 : Store} {H1 : Hp}, Stq B B1 μ (lockS y (lockS u st).1).1 H μ1 st1 H1 → H1 b = some (.lst xs) := fun S => S.keep b _ hb (fun _ z => nomatch z) dead'.1 fun _ _ => dead'.2
  have e1 := VRs.len rv
  have e2 := VRs.len rx
  refine ⟨a, b, vs, xs, rfl, rfl, ha, hb, ⟨fun B1 i μ1 st1 H1 S R2 hi => ?_, fun B1 i μ1 st1 H1 S R2 hi => ?_, fun B1 i μ1 st1 H1 v H' S R2 hi hy => ?_⟩⟩
  · rw [zipL_len] at hi
    have h1 : i < vs.length := by omega
    have h2 : i < xs.length := by omega
    exact ⟨vs, xs, vs[i], xs[i], .inl (.inl (at1 S)), .inl (.inl (at2 S)), List.getElem?_eq_getElem h1, List.getElem?_eq_getElem h2⟩
  · rw [zipL_len] at hi
    exact ⟨vs, xs, .inl (.inl (at1 S)), .inl (.inl (at2 S)), by omega⟩
  · rw [zipL_len] at hi
    obtain ⟨p, z1, z2, rfl, n, rfl, f1, f2⟩ := hy
    have h1 : i < ws.length := by omega
    have h2 : i < ks.length := by omega
    obtain ⟨x1, g1, q1⟩ := VRs.at (VRs.hold (S.hold R1) rv) (List.getElem?_eq_getElem h1)
    obtain ⟨x2, g2, q2⟩ := VRs.at (VRs.hold (S.hold R1) rx) (List.getElem?_eq_getElem h2)
    rw [f1 vs (.inl (.inl (at1 S)))] at g1
    rw [f2 xs (.inl (.inl (at2 S)))] at g2
    cases g1
    cases g2
    obtain ⟨R3, S3⟩ := R2.fresh (o := .tup [z1, z2]) n
    exact ⟨_, zipL_get ws ks i _ _ (List.getElem?_eq_getElem h1) (List.getElem?_eq_getElem h2), R3, S3, .v (.tup (.inl (.inl upd_same)) (.cons (q1.hold (S3.hold R2)) (.cons (q2.hold (S3.hold R2)) .nil)))⟩
theorem wk_zipT (R : SRel K B base μ st H) {u y : U} {v x : V} {us ys : List U} {ws ks : List W} (h : UR K (Own B μ st) H μ u v) (h' : UR K (Own B μ st) H μ y x) (e : seqOf st u = some us) (e' : seqOf st y = some ys) (hl : isT u = true) (hl' : isT y = true) (ep : pures us = some ws) (ep' : pures ys = some ks) :
    ∃ a b vs xs, v = .ref a ∧ x = .ref b ∧ SqT K H a vs ∧ SqT K H b xs ∧ (lockS y (lockS u st).1).1 = st ∧ (lockS u st).2 = none ∧ (lockS y (lockS u st).1).2 = none ∧ Wk K B base μ st H (RZ.ItzT K a b) (zipL ws ks) := by
  obtain ⟨a, vs, rfl, ha, r, l1, _⟩ := wk_tup R h e hl
  obtain ⟨b, xs, rfl, hb, r', l2, _⟩ := wk_tup R h' e' hl'
  have rv := VRs.of_paired r ep
  have rx := VRs.of_paired r' ep'
  have at1 : ∀ {B1 : Addr → Prop} {μ1 : List Addr} {st1 : Store} {H1 : Hp}, Stq B B1 μ st H μ1 st1 H1 → SqT K H1 a vs := fun S => SqT.hold ha (S.hold R)
  have at2 : ∀ {B1 : Addr → Prop} {μ1 : List Addr} {st1 : Store} {H1 : Hp}, Stq B B1 μ st H μ1 st1 H1 → SqT K H1 b xs := fun S => SqT.hold hb (S.hold R)
  have e1 := VRs.len rv
  have e2 := VRs.len rx
  refine ⟨a, b, vs, xs, rfl, rfl, ha, hb, by rw [l1, l2], by rw [l1], by rw [l1, l2], ⟨fun B1 i μ1 st1 H1 S R2 hi => ?_, fun B1 i μ1 st1 H1 S R2 hi => ?_, fun B1 i μ1 st1 H1 v H' S R2 hi hy => ?_⟩⟩
  · rw [zipL_len] at hi
    have h1 : i < vs.length := by omega
    have h2 : i < xs.length := by omega
    exact ⟨vs, xs, vs[i], xs[i], at1 S, at2 S, List.getElem?_eq_getElem h1, List.getElem?_eq_getElem h2⟩
  · rw [zipL_len] at hi
    exact ⟨vs, xs, at1 S, at2 S, by omega⟩
  · rw [zipL_len] at hi
    obtain ⟨p, z1, z2, rfl, n, rfl, f1, f2⟩ := hy
    have h1 : i < ws.length := by omega
    have h2 : i < ks.length := by omega
    obtain ⟨x1, g1, q1⟩ := VRs.at (VRs.hold (S.hold R) rv) (List.getElem?_eq_getElem h1)
    obtain ⟨x2, g2, q2⟩ := VRs.at (VRs.hold (S.hold R) rx) (List.getElem?_eq_getElem h2)
    rw [f1 vs (at1 S)] at g1
    rw [f2 xs (at2 S)] at g2
    cases g1
    cases g2
    obtain ⟨R3, S3⟩ := R2.fresh (o := .tup [z1, z2]) n
    exact ⟨_, zipL_get ws ks i _ _ (List.getElem?_eq_getElem h1) (List.getElem?_eq_getElem h2), R3, S3, .v (.tup (.inl (.inl upd_same)) (.cons (q1.hold (S3.hold R2)) (.cons (q2.hold (S3.hold R2)) .nil)))⟩
theorem rev_get {α : Type} {l : List α} {i : Nat} (h : i < l.length) : l.reverse[i]? = l[l.length - 1 - i]? := by
  rw [List.getElem?_reverse h]
theorem wk_revL (R : SRel K B base μ st H) {u : U} {v : V} {us : List U} (h : UR K (Own B μ st) H μ u v) (e : seqOf st u = some us) (hl : isL u = true) :
    ∃ a vs, v = .ref a ∧ H a = some (.lst vs) ∧ Wk K B base μ (lockS u st).1 H (Itv K a vs.length) us.reverse := by
  obtain ⟨a, vs, rfl, ha, r, dead, _⟩ := wk_list R h e hl
  obtain ⟨R0, S0, _⟩ := R.lockS u
  have r0 := S0.urs R r
  have hlen := Paired.length r
  have at_ : ∀ {B1 : Addr → Prop} {μ1 : List Addr} {st1 : Store} {H1 : Hp}, Stq B B1 μ (lockS u st).1 H μ1 st1 H1 → H1 a = some (.lst vs) := fun S => S.keep a _ ha (fun _ z => nomatch z) dead.1 fun _ _ => dead.2
  refine ⟨a, vs, rfl, ha, ⟨fun B1 i μ1 st1 H1 S R1 hi => ?_, fun B1 i μ1 st1 H1 S R1 hi => ?_, fun B1 i μ1 st1 H1 v H' S R1 hi hy => ?_⟩⟩
  · rw [List.length_reverse, hlen] at hi
    have h2 : vs.length - 1 - i < vs.length := by omega
    exact ⟨hi, vs, vs[vs.length - 1 - i], .inl (.inl (at_ S)), List.getElem?_eq_getElem h2⟩
  · rw [List.length_reverse, hlen] at hi
    exact hi
  · rw [List.length_reverse] at hi
    obtain ⟨rfl, f⟩ := hy
    obtain ⟨x, h1, h2⟩ := Paired.at' (S.urs R0 r0) (f vs (.inl (.inl (at_ S))))
    refine ⟨x, ?_, R1, .refl, h2⟩
    rw [rev_get hi, hlen]
    exact h1
theorem wk_revT (R : SRel K B base μ st H) {u : U} {v : V} {us : List U} (h : UR K (Own B μ st) H μ u v) (e : seqOf st u = some us) (hl : isT u = true) :
    ∃ a vs, v = .ref a ∧ SqT K H a vs ∧ lockS u st = (st, none) ∧ Wk K B base μ st H (RT.ItvT K a vs.length) us.reverse := by
  obtain ⟨a, vs, rfl, ha, r, l1, _⟩ := wk_tup R h e hl
  have hlen := Paired.length r
  have at_ : ∀ {B1 : Addr → Prop} {μ1 : List Addr} {st1 : Store} {H1 : Hp}, Stq B B1 μ st H μ1 st1 H1 → SqT K H1 a vs := fun S => SqT.hold ha (S.hold R)
  refine ⟨a, vs, rfl, ha, l1, ⟨fun B1 i μ1 st1 H1 S R1 hi => ?_, fun B1 i μ1 st1 H1 S R1 hi => ?_, fun B1 i μ1 st1 H1 v H' S R1 hi hy => ?_⟩⟩
  · rw [List.length_reverse, hlen] at hi
    have h2 : vs.length - 1 - i < vs.length := by omega
    exact ⟨hi, vs, vs[vs.length - 1 - i], at_ S, List.getElem?_eq_getElem h2⟩
  · rw [List.length_reverse, hlen] at hi
    exact hi
  · rw [List.length_reverse] at hi
    obtain ⟨rfl, f⟩ := hy
    obtain ⟨x, h1, h2⟩ := Paired.at' (S.urs R r) (f vs (at_ S))
    refine ⟨x, ?_, R1, .refl, h2⟩
    rw [rev_get hi, hlen]
    exact h1
end
end PI

/-! iterables -/
namespace PI
open PySem PySem.Spec PyProof.Rows L2
section
variable (K : PySem.W.Frag) (B : Addr → Prop) (base : Nat) (xv : XV) (EX : XK)
def PostI (μ : List Addr) (st : Store) (H : Hp) (Q : L2.It → Hp → Prop) : R Items → Prop
  | .ok its st' => ∀ μ1 st1 H1 μ' H' J, Stp B base μ st H μ1 st1 H1 → SRel K B base μ1 st1 H1 → Stp B base μ1 st1 H1 μ' st' H' → SRel K B base μ' st' H' → (∀ r ∈ its.lk, ∃ c : Cell, st1[r]? = some c ∧ c.lv = .live) → Wk K B base μ' st' H' J its.xs → Q J H'
  | .ex c w st' => ∀ μ' cls d H', Stp B base μ st H μ' st' H' → SRel K B base μ' st' H' → xv c w cls d H' → EX cls d H'
  | .bad => False
end
def tI (K : PySem.W.Frag) (T : Tab) (EX : XK) (C : Call) (it : It) : TI := fun σ H Q => ∃ B base μ st ρ, SRel K B base μ st H ∧ ERel K (Own B μ st) H μ ρ σ ∧ PostI K B base T.xv EX μ st H Q (evalI C base it ρ st)
section
variable {K : PySem.W.Frag} {B : Addr → Prop} {base : Nat} {xv : XV} {EX : XK} {μ μ1 : List Addr} {st st1 : Store} {H H1 : Hp} {Q Q' : L2.It → Hp → Prop}
theorem PostI.step (S : Stp B base μ st H μ1 st1 H1) : ∀ {r : PI.R Items}, PostI K B base xv EX μ st H Q r → PostI K B base xv EX μ1 st1 H1 Q r
  | .ok _ _, h => fun a b c d e f S' => h a b c d e f (S.trans S')
  | .ex _ _ _, h => fun μ' c d H' S' => h μ' c d H' (S.trans S')
  | .bad, h => h
/-- what is asked of the expression's value -/
theorem PostI.bind {α β : Type} {RR : (Addr → Prop) → Hp → List Addr → α → β → Prop} {f : α → Store → PI.R Items} : ∀ {r : PI.R α}, PostI K B base xv EX μ st H Q (r.bind f) →
    Post K B base xv EX RR μ st H (fun y H1 => ∃ x μ1 st1, Stp B base μ st H μ1 st1 H1 ∧ SRel K B base μ1 st1 H1 ∧ RR (Own B μ1 st1) H1 μ1 x y ∧ PostI K B base xv EX μ1 st1 H1 Q (f x st1)) r
  | .ok x st1, h => fun μ1 y H1 S R t => ⟨x, μ1, st1, S, R, t, PostI.step S h⟩
  | .ex _ _ _, h => h
  | .bad, h => h
end
section
variable {X : Cx} {T : Tab} {EX : XK} {C : Call} {tg : Expr}
abbrev pI (X : Cx) (T : Tab) (EX : XK) (C : Call) (tg x : Expr) (it : It) : Prop := PI X tg x (tI X.K T EX C it)
/-- by what the expression gives -/
theorem i_by {e : E} {x : Expr} {it : It} {f : U → Store → PI.R Items} {wi : U → TI} (he : ∀ base ρ st, evalI C base it ρ st = (evalE C base e ρ st).bind f)
    (hw : ∀ u, PI X tg x (wi u)) (hd : ∀ (u : U) (σ : L2.St) (H : Hp) (Q : L2.It → Hp → Prop), (Rd1 X.K T EX (TU X.K) (fun base ρ st => evalE C base e ρ st) σ H fun v H1 => ∃ B base μ st, SRel X.K B base μ st H1 ∧ UR X.K (Own B μ st) H1 μ u v ∧ PostI X.K B base T.xv EX μ st H1 Q (f u st)) → wi u σ H Q) : pI X T EX C tg x it := by
  refine ⟨fun pins s σ H Q I h => ?_⟩
  obtain ⟨B, base, μ, st, ρ, R, E, h⟩ := h
  rw [he] at h
  cases hr : evalE C base e ρ st with
  | bad => rw [hr] at h; exact h.elim
  | ok u st1 =>
    refine (hw u).run pins s σ H Q I (hd u σ H Q ⟨B, base, μ, st, ρ, R, E, ?_⟩)
    dsimp only
    rw [hr] at h ⊢
    intro μ' v H' S R' r
    exact ⟨B, base, μ', st1, R', r, PostI.step S h⟩
  | ex c w st1 =>
    refine (hw (.v .none)).run pins s σ H Q I (hd (.v .none) σ H Q ⟨B, base, μ, st, ρ, R, E, ?_⟩)
    dsimp only
    rw [hr] at h ⊢
    exact h
theorem i_seq {e : E} {x : Expr} (hx : pE X T EX C x e) : pI X T EX C tg x (.seq e) := by
  refine i_by (e := e) (f := fun u st => match walkU st u with
    | some xs => .ok ⟨xs, (lockS u st).2.toList⟩ (lockS u st).1
    | none => .bad) (wi := fun u => if isL u then iList X.K (tE X.K T EX C e) else if isT u then iTup X.K (tE X.K T EX C e) else iStr (tE X.K T EX C e)) (fun base ρ st => by simp only [evalI] <;> rfl) (fun u => ?_) (fun u σ H Q h => ?_)
  · by_cases h1 : isL u = true
    · rw [if_pos h1]; exact pi_list hx
    · rw [if_neg h1]
      by_cases h2 : isT u = true
      · rw [if_pos h2]; exact pi_tup hx
      · rw [if_neg h2]; exact pi_str hx
  · have key : ∀ {us : List U} {st : Store}, walkU st u = some us → (isL u = true ∨ isT u = true) → seqOf st u = some us := fun {us st} g hk => by
      cases u with
      | ref r => exact g
      | v w => cases w <;> first | exact g | (rcases hk with hk | hk <;> cases hk)
    by_cases h1 : isL u = true
    · rw [if_pos h1]
      refine Rd1.mono (fun v H1 h => ?_) h
      obtain ⟨B, base, μ, st, R, r, h⟩ := h
      split at h
      · rename_i us g
        obtain ⟨a, vs, rfl, ha, _, _, hw⟩ := wk_list R r (key g (.inl h1)) h1
        obtain ⟨R0, S0, hl⟩ := R.lockS u
        exact ⟨a, rfl, ⟨vs, .inl (.inl ha)⟩, h _ _ _ _ _ _ .refl R S0 R0 hl hw⟩
      · exact h.elim
    · rw [if_neg h1]
      by_cases h2 : isT u = true
      · rw [if_pos h2]
        refine Rd1.mono (fun v H1 h => ?_) h
        obtain ⟨B, base, μ, st, R, r, h⟩ := h
        split at h
        · rename_i us g
          obtain ⟨a, vs, rfl, ha, _, hl, hw⟩ := wk_tup R r (key g (.inr h2)) h2
          rw [hl] at h
          exact ⟨a, rfl, ⟨vs, ha⟩, h _ _ _ _ _ _ .refl R .refl R (fun _ z => nomatch z) hw⟩
        · exact h.elim
      · rw [if_neg h2]
        refine Rd1.mono (fun v H1 h => ?_) h
        obtain ⟨B, base, μ, st, R, r, h⟩ := h
        split at h
        · rename_i us g
          cases u with
          | ref r => exact absurd rfl h1
          | v w =>
            cases w with
            | str z =>
              obtain rfl := v_str r
              unfold walkU at g
              split at g
              · rename_i z' hz
                cases hz
                split at g
                · obtain rfl := Option.some.inj g
                  exact ⟨z, rfl, h _ _ _ _ _ _ .refl R .refl R (fun _ q => nomatch q) (wk_str R z)⟩
                · cases g
              · rename_i hz
                exact absurd rfl (hz z)
            | list l => exact absurd rfl h1
            | tuple l => exact absurd rfl h2
            | none => cases g
            | bool b => cases g
            | int b => cases g
            | dict b => cases g
        · exact h.elim
def Es.len : Es → Nat
  | .nil => 0
  | .cons _ es => es.len + 1
theorem evalEs_len {base : Nat} {ρ : PI.Env} : ∀ {es : Es} {st st' : Store} {us : List U}, evalEs C base es ρ st = .ok us st' → us.length = es.len
  | .nil, st, st', us, h => by
    simp only [evalEs, PI.R.ok.injEq] at h
    rw [← h.1]; rfl
  | .cons e es, st, st', us, h => by
    simp only [evalEs] at h
    cases h1 : evalE C base e ρ st with
    | bad => rw [h1] at h; cases h
    | ex c w s1 => rw [h1] at h; cases h
    | ok u s1 =>
      rw [h1] at h
      simp only [PI.R.bind] at h
      cases h2 : evalEs C base es ρ s1 with
      | bad => rw [h2] at h; cases h
      | ex c w s1 => rw [h2] at h; cases h
      | ok us2 s2 =>
        rw [h2] at h
        simp only [PI.R.ok.injEq] at h
        rw [← h.1, List.length_cons, evalEs_len h2]
        rfl
/-- by what the arguments give -/
theorem i_byA {es : Es} {x : Expr} {it : It} {f : List U → Store → PI.R Items} {wi : TI} (he : ∀ base ρ st, evalI C base it ρ st = (evalEs C base es ρ st).bind f)
    (hw : PI X tg x wi) (hd : ∀ (σ : L2.St) (H : Hp) (Q : L2.It → Hp → Prop), (Rd1 X.K T EX (TUs X.K) (fun base ρ st => evalEs C base es ρ st) σ H fun v H1 => ∃ B base μ st us, us.length = es.len ∧ SRel X.K B base μ st H1 ∧ URs X.K (Own B μ st) H1 μ us v ∧ PostI X.K B base T.xv EX μ st H1 Q (f us st)) → wi σ H Q) : pI X T EX C tg x it := by
  refine ⟨fun pins s σ H Q I h => ?_⟩
  obtain ⟨B, base, μ, st, ρ, R, E, h⟩ := h
  rw [he] at h
  refine hw.run pins s σ H Q I (hd σ H Q ⟨B, base, μ, st, ρ, R, E, ?_⟩)
  dsimp only
  cases hr : evalEs C base es ρ st with
  | bad => rw [hr] at h; exact h.elim
  | ok us st1 =>
    rw [hr] at h
    intro μ' v H' S R' r
    exact ⟨B, base, μ', st1, us, evalEs_len hr, R', r, PostI.step S h⟩
  | ex c w st1 =>
    rw [hr] at h
    exact h
theorem rngOk_ok {i : Int} (h : rngOk i = true) : -(2 ^ 62) ≤ i ∧ i < 2 ^ 62 := by
  unfold rngOk at h
  simpa only [Bool.and_eq_true, decide_eq_true_eq] using h
theorem three_of {K : PySem.W.Frag} {O : Addr → Prop} {H : Hp} {μ : List Addr} {a b c : U} {vs : List V} (r : URs K O H μ [a, b, c] vs) : ∃ v w x, vs = [v, w, x] ∧ UR K O H μ a v ∧ UR K O H μ b w ∧ UR K O H μ c x := by
  cases r with
  | cons r t =>
    cases t with
    | cons r' t =>
      cases t with
      | cons r'' t =>
        cases t
        exact ⟨_, _, _, rfl, r, r', r''⟩
theorem len_two {α : Type} : ∀ {l : List α}, l.length = 2 → ∃ a b, l = [a, b]
  | [a, b], _ => ⟨a, b, rfl⟩
theorem len_three {α : Type} : ∀ {l : List α}, l.length = 3 → ∃ a b c, l = [a, b, c]
  | [a, b, c], _ => ⟨a, b, c, rfl⟩
theorem lock_live {u : U} {st : Store} {r : Nat} {c : Cell} (h : (lockS u st).1[r]? = some c) (hl : c.lv = .live) : st[r]? = some c := by
  cases u with
  | v w => exact h
  | ref s =>
    unfold lockS at h
    cases e : st[s]? with
    | none => simp only [e] at h; rw [← h]; first | done | exact e
    | some c0 =>
      simp only [e] at h
      split at h
      · rcases set_get e h with ⟨rfl, rfl⟩ | ⟨_, h⟩
        · cases hl
        · exact h
      · exact h
theorem size_nn {i j c : Int} (h : c ≠ 0) : 0 ≤ Builtin.Range.rangeSize i j c := by
  unfold Builtin.Range.rangeSize
  split
  · split
    · have : 0 ≤ (j - i - 1) / c := Int.ediv_nonneg (by omega) (by omega)
      omega
    · exact Int.le_refl 0
  · split
    · have : 0 ≤ (i - j - 1) / (-c) := Int.ediv_nonneg (by omega) (by omega)
      omega
    · exact Int.le_refl 0
theorem i_range1 {es : Es} {x : Expr} {p pos : Pos} (hg : Gl X "range") (hm : X.mg "range" = none) (hp : Plain X.env x) (hx : pA X T EX C [x] es) (hl : es.len = 1) : pI X T EX C tg (.Call (.Name "range" p) [x] [] pos) (.range es) := by
  refine i_byA (es := es) (f := fun us st => match rangeU us with
    | some xs => .ok ⟨xs, []⟩ st
    | none => .bad) (wi := iRng1 (tA X.K T EX C es)) (fun base ρ st => by simp only [evalI] <;> rfl) (pi_range1 hg hm hx (hp [])) (fun σ H Q h => ?_)
  refine Rd1.mono (fun vs H1 h => ?_) h
  obtain ⟨B, base, μ, st, us, hn, R, r, h⟩ := h
  rw [hl] at hn
  obtain ⟨u, rfl⟩ := List.length_eq_one_iff.mp hn
  obtain ⟨v, rfl, r1⟩ := one_of r
  split at h
  · rename_i xs e
    cases u with
    | ref a => cases e
    | v w =>
      cases w <;> try cases e
      rename_i j
      obtain rfl := v_int r1
      simp only [rangeU] at e
      split at e
      · rename_i hc
        obtain rfl := Option.some.inj e
        rw [Bool.and_eq_true] at hc
        exact ⟨j, rfl, (rngOk_ok hc.1).1, (rngOk_ok hc.1).2, h _ _ _ _ _ _ .refl R .refl R (fun _ q => nomatch q) (wk_range R 0 j.toNat)⟩
      · cases e
  · exact h.elim
theorem i_range2 {es : Es} {x y : Expr} {p pos : Pos} (hg : Gl X "range") (hm : X.mg "range" = none) (hp : Plain X.env x) (hp2 : Plain X.env y) (hx : pA X T EX C [x, y] es) (hl : es.len = 2) : pI X T EX C tg (.Call (.Name "range" p) [x, y] [] pos) (.range es) := by
  refine i_byA (es := es) (f := fun us st => match rangeU us with
    | some xs => .ok ⟨xs, []⟩ st
    | none => .bad) (wi := iRng2 (tA X.K T EX C es)) (fun base ρ st => by simp only [evalI] <;> rfl) (pi_range2 hg hm hx (by rw [hp, hp2]; rfl) (hp2 [])) (fun σ H Q h => ?_)
  refine Rd1.mono (fun vs H1 h => ?_) h
  obtain ⟨B, base, μ, st, us, hn, R, r, h⟩ := h
  rw [hl] at hn
  obtain ⟨u, u2, rfl⟩ := len_two hn
  obtain ⟨v, w, rfl, r1, r2⟩ := two_of r
  split at h
  · rename_i xs e
    unfold rangeU at e
    split at e
    · rename_i e0; cases e0
    · rename_i i j e0
      cases e0
      obtain rfl := v_int r1
      obtain rfl := v_int r2
      split at e
      · rename_i hc
        obtain rfl := Option.some.inj e
        rw [Bool.and_eq_true, Bool.and_eq_true] at hc
        exact ⟨i, j, rfl, ⟨(rngOk_ok hc.1.1).1, (rngOk_ok hc.1.1).2, (rngOk_ok hc.1.2).1, (rngOk_ok hc.1.2).2⟩, h _ _ _ _ _ _ .refl R .refl R (fun _ q => nomatch q) (wk_range R i (j - i).toNat)⟩
      · cases e
    · rename_i e0; cases e0
    · cases e
  · exact h.elim
theorem i_range3 {es : Es} {x y z : Expr} {p pos : Pos} (hg : Gl X "range") (hm : X.mg "range" = none) (hp : Plain X.env x) (hp2 : Plain X.env y) (hp3 : Plain X.env z) (hx : pA X T EX C [x, y, z] es) (hl : es.len = 3) : pI X T EX C tg (.Call (.Name "range" p) [x, y, z] [] pos) (.range es) := by
  refine i_byA (es := es) (f := fun us st => match rangeU us with
    | some xs => .ok ⟨xs, []⟩ st
    | none => .bad) (wi := iRng3 (tA X.K T EX C es)) (fun base ρ st => by simp only [evalI] <;> rfl) (pi_range3 hg hm hx (hp _) (plain_any fun e he => by
      rcases List.mem_cons.mp he with rfl | he
      · exact hp2
      · rw [List.mem_singleton.mp he]; exact hp3)) (fun σ H Q h => ?_)
  refine Rd1.mono (fun vs H1 h => ?_) h
  obtain ⟨B, base, μ, st, us, hn, R, r, h⟩ := h
  rw [hl] at hn
  obtain ⟨u, u2, u3, rfl⟩ := len_three hn
  obtain ⟨v, w, x, rfl, r1, r2, r3⟩ := three_of r
  split at h
  · rename_i xs e
    unfold rangeU at e
    split at e
    · rename_i e0; cases e0
    · rename_i e0; cases e0
    · rename_i i j c e0
      cases e0
      obtain rfl := v_int r1
      obtain rfl := v_int r2
      obtain rfl := v_int r3
      split at e
      · rename_i hc
        obtain rfl := Option.some.inj e
        rw [Bool.and_eq_true, Bool.and_eq_true, Bool.and_eq_true] at hc
        obtain ⟨⟨⟨h1, h2⟩, h3⟩, h4⟩ := hc
        have hne : c ≠ 0 := of_decide_eq_true h1
        exact ⟨i, j, c, rangeN i j c, rfl, ⟨hne, of_decide_eq_true h2, h3, (Int.toNat_of_nonneg (size_nn hne)).symm⟩, h _ _ _ _ _ _ .refl R .refl R (fun _ q => nomatch q) (wk_rangeC R i c (rangeN i j c))⟩
      · cases e
    · cases e
  · exact h.elim
theorem i_enum {e : E} {x : Expr} {p pos tpos : Pos} {elts : List Expr} {kk : Nat} (hg : Gl X "enumerate") (hm : X.mg "enumerate" = none) (hp : Plain X.env x) (hx : pE X T EX C x e) : pI X T EX C (.Tuple elts kk tpos) (.Call (.Name "enumerate" p) [x] [] pos) (.enum e) := by
  refine i_byA (es := .cons e .nil) (f := fun us st => match us with
    | [u] => (match (seqOf st u).bind pures with
      | some ws => if isL u then .ok ⟨enumL 0 ws, (lockS u st).2.toList⟩ (lockS u st).1 else .bad
      | none => .bad)
    | _ => .bad) (wi := iEnum X.K (tA X.K T EX C (.cons e .nil))) (fun base ρ st => by simp only [evalI, evalEs, bind_bind] <;> rfl) (pi_enum hg hm (a_cons hx a_nil hp) (hp [])) (fun σ H Q h => ?_)
  refine Rd1.mono (fun vs H1 h => ?_) h
  obtain ⟨B, base, μ, st, us, hn, R, r, h⟩ := h
  obtain ⟨u, rfl⟩ := List.length_eq_one_iff.mp (show us.length = 1 from hn)
  obtain ⟨v, rfl, r1⟩ := one_of r
  dsimp only at h
  split at h
  · rename_i ws e0
    obtain ⟨us, e1, e2⟩ := Option.bind_eq_some_iff.mp e0
    split at h
    · rename_i hl
      obtain ⟨a, vs, rfl, ha, hw⟩ := wk_enum R r1 e1 hl e2
      obtain ⟨R0, S0, hk⟩ := R.lockS u
      exact ⟨a, vs, rfl, .inl (.inl ha), h _ _ _ _ _ _ .refl R S0 R0 hk hw⟩
    · exact h.elim
  · exact h.elim
theorem i_zip {e e2 : E} {x y : Expr} {p pos tpos : Pos} {elts : List Expr} {kk : Nat} (hg : Gl X "zip") (hm : X.mg "zip" = none) (hp : Plain X.env x) (hp2 : Plain X.env y) (hx : pE X T EX C x e) (hy : pE X T EX C y e2) : pI X T EX C (.Tuple elts kk tpos) (.Call (.Name "zip" p) [x, y] [] pos) (.zip e e2) := by
  refine i_byA (es := .cons e (.cons e2 .nil)) (f := fun us st => match us with
    | [u, y] => (match (seqOf st u).bind pures, (seqOf st y).bind pures with
      | some ws, some ks => if (isL u && isL y) || (isT u && isT y) then .ok ⟨zipL ws ks, (lockS u st).2.toList ++ (lockS y (lockS u st).1).2.toList⟩ (lockS y (lockS u st).1).1 else .bad
      | _, _ => .bad)
    | _ => .bad) (wi := RZ.iZipA X.K (tA X.K T EX C (.cons e (.cons e2 .nil)))) (fun base ρ st => by simp only [evalI, evalEs, bind_bind] <;> rfl) (RZ.pi_zipA hg hm (a_cons hx (a_cons hy a_nil hp2) hp) (hp _) (plain_any fun e he => by rw [List.mem_singleton.mp he]; exact hp2)) (fun σ H Q h => ?_)
  refine Rd1.mono (fun vs H1 h => ?_) h
  obtain ⟨B, base, μ, st, us, hn, R, r, h⟩ := h
  obtain ⟨u, y, rfl⟩ := len_two (show us.length = 2 from hn)
  obtain ⟨v, w, rfl, r1, r2⟩ := two_of r
  dsimp only at h
  split at h
  · rename_i ws ks e0 e0'
    obtain ⟨us, e1, e2⟩ := Option.bind_eq_some_iff.mp e0
    obtain ⟨ys, e1', e2'⟩ := Option.bind_eq_some_iff.mp e0'
    split at h
    · rename_i hl
      rw [Bool.or_eq_true, Bool.and_eq_true, Bool.and_eq_true] at hl
      rcases hl with ⟨h1, h2⟩ | ⟨h1, h2⟩
      · obtain ⟨a, b, vs, xs, rfl, rfl, ha, hb, hw⟩ := wk_zipL R r1 r2 e1 e1' h1 h2 e2 e2'
        obtain ⟨R0, S0, hk⟩ := R.lockS u
        obtain ⟨R1, S1, hk1⟩ := R0.lockS y
        refine ⟨a, b, vs, xs, rfl, .inl ⟨.inl (.inl ha), .inl (.inl hb), h _ _ _ _ _ _ .refl R (S0.trans S1) R1 (fun r hr => ?_) hw⟩⟩
        rcases List.mem_append.mp hr with hr | hr
        · exact hk r hr
        · obtain ⟨c, k1, k2⟩ := hk1 r hr
          exact ⟨c, lock_live k1 k2, k2⟩
      · obtain ⟨a, b, vs, xs, rfl, rfl, ha, hb, q1, q2, q3, hw⟩ := wk_zipT R r1 r2 e1 e1' h1 h2 e2 e2'
        rw [q1, q2, q3] at h
        exact ⟨a, b, vs, xs, rfl, .inr ⟨ha, hb, h _ _ _ _ _ _ .refl R .refl R (fun _ q => nomatch q) hw⟩⟩
    · exact h.elim
  · exact h.elim
theorem i_rev {e : E} {x : Expr} {p pos : Pos} (hg : Gl X "reversed") (hm : X.mg "reversed" = none) (hp : Plain X.env x) (hx : pE X T EX C x e) : pI X T EX C tg (.Call (.Name "reversed" p) [x] [] pos) (.rev e) := by
  refine i_by (e := e) (f := fun u st => match seqOf st u with
    | some xs => .ok ⟨xs.reverse, (lockS u st).2.toList⟩ (lockS u st).1
    | none => .bad) (wi := fun _ => RT.iRevA X.K (tE X.K T EX C e)) (fun base ρ st => by simp only [evalI] <;> rfl) (fun u => RT.pi_revA hg hm hx (hp [])) (fun u σ H Q h => ?_)
  refine Rd1.mono (fun v H1 h => ?_) h
  obtain ⟨B, base, μ, st, R, r, h⟩ := h
  split at h
  · rename_i us e0
    obtain ⟨R0, S0, hk⟩ := R.lockS u
    by_cases hl : isL u = true
    · obtain ⟨a, vs, rfl, ha, hw⟩ := wk_revL R r e0 hl
      exact ⟨a, vs, rfl, .inl ⟨.inl (.inl ha), h _ _ _ _ _ _ .refl R S0 R0 hk hw⟩⟩
    · have ht : isT u = true := by
        cases u with
        | ref r => exact absurd rfl hl
        | v w => cases w <;> first | rfl | exact absurd rfl hl | cases e0
      obtain ⟨a, vs, rfl, ha, q, hw⟩ := wk_revT R r e0 ht
      rw [q] at h
      exact ⟨a, vs, rfl, .inr ⟨ha, h _ _ _ _ _ _ .refl R .refl R (fun _ q => nomatch q) hw⟩⟩
  · exact h.elim
end
end PI

/-! targets, blocks -/
namespace PI
open PySem PySem.Spec PyProof.Rows L2
mutual
def slotsT : Tg → List Nat
  | .nm i => [i]
  | .tp ts => slotsTs ts
def slotsTs : Tgs → List Nat
  | .nil => []
  | .cons t ts => slotsT t ++ slotsTs ts
end
def Keeps (l : List Nat) (σ σ' : L2.St) : Prop := ∀ vs : List Nat, (∀ i ∈ l, i ∈ vs) → L2.wipe σ' vs = L2.wipe σ vs
theorem wipe_set {i : Nat} {x : Option V} : ∀ {vs : List Nat} {σ : L2.St}, i ∈ vs → L2.wipe (σ.set i x) vs = L2.wipe σ vs
  | [], _, h => by simp at h
  | v :: vs, σ, h => by
    unfold L2.wipe
    by_cases hi : i ∈ vs
    · rw [wipe_set hi]
    · have e : i = v := by
        rcases List.mem_cons.mp h with h | h
        · exact h
        · exact absurd h hi
      subst e
      have out : ∀ {vs : List Nat} {σ : L2.St}, i ∉ vs → L2.wipe (σ.set i x) vs = (L2.wipe σ vs).set i x := fun {vs} => by
        induction vs with
        | nil => intro σ _; rfl
        | cons w vs ih =>
          intro σ hn
          have h1 : i ≠ w := fun z => hn (by rw [z]; exact List.mem_cons_self)
          have h2 : i ∉ vs := fun z => hn (List.mem_cons_of_mem _ z)
          show (L2.wipe (σ.set i x) vs).set w none = ((L2.wipe σ vs).set w none).set i x
          rw [ih h2, List.set_comm _ _ h1]
      rw [out hi, List.set_set]
theorem wipe_twice : ∀ {vs : List Nat} {σ : L2.St}, L2.wipe (L2.wipe σ vs) vs = L2.wipe σ vs := fun {vs} {σ} => by
  have gen : ∀ (us : List Nat) (σ : L2.St), (∀ i ∈ us, i ∈ vs) → L2.wipe (L2.wipe σ us) vs = L2.wipe σ vs := fun us => by
    induction us with
    | nil => intro σ _; rfl
    | cons u us ih =>
      intro σ h
      show L2.wipe ((L2.wipe σ us).set u none) vs = _
      rw [wipe_set (h u List.mem_cons_self)]
      exact ih σ fun i hi => h i (List.mem_cons_of_mem _ hi)
  exact gen vs σ fun _ h => h
theorem Keeps.refl {l : List Nat} {σ : L2.St} : Keeps l σ σ := fun _ _ => rfl
def tG (K : PySem.W.Frag) (tg : Tg) : TG := fun v σ H Q => ∃ B base μ st ρ ρ' u, SRel K B base μ st H ∧ ERel K (Own B μ st) H μ ρ σ ∧ UR K (Own B μ st) H μ u v ∧ asgT tg u ρ st = some ρ' ∧
  ∀ σ', ERel K (Own B μ st) H μ ρ' σ' → Keeps (slotsT tg) σ σ' → Q σ' H
def tGs (K : PySem.W.Frag) (ts : Tgs) : TGs := fun vs σ H Q => ∃ B base μ st ρ ρ' us, SRel K B base μ st H ∧ ERel K (Own B μ st) H μ ρ σ ∧ URs K (Own B μ st) H μ us vs ∧ asgTs ts us ρ st = some ρ' ∧
  ∀ σ', ERel K (Own B μ st) H μ ρ' σ' → Keeps (slotsTs ts) σ σ' → Q σ' H
section
variable {X : Cx}
theorem PG.imp {e : Expr} {t t' : TG} (h : PG X e t) (f : ∀ v σ H Q, t' v σ H Q → t v σ H Q) : PG X e t' := ⟨fun pins s σ H v u Q I r q => h.run pins s σ H v u Q I r (f v σ H Q q)⟩
theorem PGs.imp {es : List Expr} {t t' : TGs} (h : PGs X es t) (f : ∀ v σ H Q, t' v σ H Q → t v σ H Q) : PGs X es t' := ⟨fun pins s σ H v u Q I r q => h.run pins s σ H v u Q I r (f v σ H Q q)⟩
theorem g_nm {i : Nat} {x : Str} {pos : Pos} (hN : X.N.Nodup) (hi : X.N[i]? = some x) (hx : Loc X.env.scope x) (hf : X.fn x = true ∨ X.env.scope.names.lookup x = some .local) : PG X (.Name x pos) (tG X.K (.nm i)) := by
  refine PG.imp (pg_name hN hi hx hf) fun v σ H Q h => ?_
  obtain ⟨B, base, μ, st, ρ, ρ', u, R, E, r, e, f⟩ := h
  unfold asgT at e
  split at e
  · obtain rfl := Option.some.inj e
    exact f _ (E.set r) fun vs h => wipe_set (h i (by simp [slotsT]))
  · cases e
theorem gs_nil : PGs X [] (tGs X.K .nil) := by
  refine PGs.imp pgs_nil fun vs σ H Q h => ?_
  obtain ⟨B, base, μ, st, ρ, ρ', us, R, E, r, e, f⟩ := h
  cases r with
  | nil =>
    unfold asgTs at e
    obtain rfl := Option.some.inj e
    exact ⟨rfl, f σ E Keeps.refl⟩
  | cons r t => cases e
def PlainT (X : Cx) (e : Expr) : Prop := ∀ es, assignEach (e :: es) X.env = (false, assign e X.env) :: assignEach es X.env
theorem gs_cons {e : Expr} {es : List Expr} {t : Tg} {ts : Tgs} (h1 : PG X e (tG X.K t)) (h2 : PGs X es (tGs X.K ts)) (hp : PlainT X e) : PGs X (e :: es) (tGs X.K (.cons t ts)) := by
  refine PGs.imp (pgs_cons h1 h2 (by rw [hp]; rfl)) fun vs σ H Q h => ?_
  obtain ⟨B, base, μ, st, ρ, ρ', us, R, E, r, e, f⟩ := h
  cases r with
  | nil => cases e
  | cons r r' =>
    simp only [asgTs] at e
    split at e
    · rename_i ρ1 e1
      refine ⟨_, _, rfl, B, base, μ, st, ρ, ρ1, _, R, E, r, e1, fun σ1 E1 k1 => ?_⟩
      refine ⟨B, base, μ, st, ρ1, ρ', _, R, E1, r', e, fun σ2 E2 k2 => f σ2 E2 fun vs h => ?_⟩
      rw [k2 vs fun i hi => h i (by simp [slotsTs, hi]), k1 vs fun i hi => h i (by simp [slotsTs, hi])]
    · cases e
theorem plainT_len : ∀ {es : List Expr}, (∀ e ∈ es, PlainT X e) → (assignEach es X.env).length = es.length ∧ (assignEach es X.env).findIdx? (·.1) = none
  | [], _ => ⟨rfl, rfl⟩
  | e :: es, h => by
    obtain ⟨h1, h2⟩ := plainT_len (es := es) fun a ha => h a (List.mem_cons_of_mem _ ha)
    rw [h e List.mem_cons_self es]
    refine ⟨by rw [List.length_cons, h1, List.length_cons], ?_⟩
    rw [List.findIdx?_cons, h2]
    rfl
theorem g_tp {es : List Expr} {ts : Tgs} {k : Nat} {pos : Pos} (hc : X.calm = true) (h : PGs X es (tGs X.K ts)) (hp : ∀ e ∈ es, PlainT X e) (hl : ∀ us ρ st ρ', asgTs ts us ρ st = some ρ' → us.length = es.length) : PG X (.Tuple es k pos) (tG X.K (.tp ts)) := by
  obtain ⟨hn, hst⟩ := plainT_len hp
  refine ⟨fun pins s σ H v u Q I rv h' => ?_⟩
  obtain ⟨B, base, μ, st, ρ, ρ', x, R, E, r, e, f⟩ := h'
  simp only [asgT] at e
  split at e
  · rename_i us e0
    obtain ⟨a, vs, rfl, rs, hk⟩ := seq_ur R r e0
    have hlen : vs.length = es.length := by rw [← Paired.length rs]; exact hl us ρ st ρ' e
    have rest : tGs X.K ts vs σ H Q := ⟨B, base, μ, st, ρ, ρ', us, R, E, rs, e, f⟩
    rcases hk with ⟨_, _, hk⟩ | ⟨_, _, hk⟩
    · exact (pg_tup hc h hn hst).run pins s σ H _ u Q I rv ⟨a, vs, rfl, hk, hlen, rest⟩
    · exact (pg_unl hc h hn hst).run pins s σ H _ u Q I rv ⟨a, vs, rfl, .inl (.inl hk), hlen, rest⟩
  · cases e
end
end PI

/-! comprehensions -/
namespace PI
open PySem PySem.Spec PyProof.Rows L2
/-! ### locks taken off -/
section
variable {K : PySem.W.Frag} {B : Addr → Prop} {base : Nat} {μ μ' μ0 μ4 : List Addr} {st st' st0 st4 : Store} {H H' H0 H4 : Hp}
theorem unlk_get : ∀ {lk : List Nat} {r : Nat} {c : Cell}, (unlk lk st)[r]? = some c → ∃ c0, st[r]? = some c0 ∧ c.xs = c0.xs ∧ (c.lv = .froz ↔ c0.lv = .froz) ∧ (c.lv = .live → c0.lv = .live ∨ r ∈ lk)
  | [], r, c, h => ⟨c, h, rfl, Iff.rfl, .inl⟩
  | x :: lk, r, c, h => by
    unfold unlk at h
    cases e : (unlk lk st)[x]? with
    | none =>
      simp only [e] at h
      obtain ⟨c0, h1, h2, h3, h4⟩ := unlk_get h
      exact ⟨c0, h1, h2, h3, fun z => (h4 z).imp id (List.mem_cons_of_mem _)⟩
    | some d =>
      simp only [e] at h
      split at h
      · rename_i hd
        rcases set_get e h with ⟨rfl, rfl⟩ | ⟨_, h⟩
        · obtain ⟨c0, h1, h2, h3, h4⟩ := unlk_get e
          refine ⟨c0, h1, h2, ⟨fun z => (nomatch z), fun z => ?_⟩, fun _ => .inr List.mem_cons_self⟩
          have := h3.mpr z
          rw [hd] at this
          cases this
        · obtain ⟨c0, h1, h2, h3, h4⟩ := unlk_get h
          exact ⟨c0, h1, h2, h3, fun z => (h4 z).imp id (List.mem_cons_of_mem _)⟩
      · obtain ⟨c0, h1, h2, h3, h4⟩ := unlk_get h
        exact ⟨c0, h1, h2, h3, fun z => (h4 z).imp id (List.mem_cons_of_mem _)⟩
theorem unlk_len : ∀ {lk : List Nat}, (unlk lk st).length = st.length
  | [] => rfl
  | x :: lk => by
    unfold unlk
    split
    · split
      · rw [List.length_set]; exact unlk_len
      · exact unlk_len
    · exact unlk_len
theorem unlk_some {lk : List Nat} {r : Nat} {c0 : Cell} (h : st[r]? = some c0) : ∃ c, (unlk lk st)[r]? = some c := by
  have h1 := (List.getElem?_eq_some_iff.mp h).1
  have h2 : r < (unlk lk st).length := by rw [unlk_len]; exact h1
  exact ⟨_, List.getElem?_eq_getElem h2⟩
theorem own_unlk {lk : List Nat} {a : Addr} : Own B μ (unlk lk st) a ↔ Own B μ st a := by
  constructor
  · rintro (h | ⟨r, c, h1, h2, h3⟩)
    · exact .inl h
    · obtain ⟨c0, k1, k2, k3, k4⟩ := unlk_get h1
      exact .inr ⟨r, c0, k1, fun z => h2 (k3.mpr z), h3⟩
  · rintro (h | ⟨r, c, h1, h2, h3⟩)
    · exact .inl h
    · obtain ⟨c', e⟩ := unlk_some (lk := lk) h1
      obtain ⟨c0, k1, k2, k3, k4⟩ := unlk_get e
      rw [h1] at k1
      cases k1
      exact .inr ⟨r, c', e, fun z => h2 (k3.mp z), h3⟩
theorem live_unlk {lk : List Nat} {a : Addr} (h : Live μ (unlk lk st) a) : Live μ st a ∨ ∃ r ∈ lk, μ[r]? = some a := by
  obtain ⟨r, c, h1, h2, h3⟩ := h
  obtain ⟨c0, k1, k2, k3, k4⟩ := unlk_get h1
  rcases k4 h2 with k4 | k4
  · exact .inl ⟨r, c0, k1, k4, h3⟩
  · exact .inr ⟨r, k4, h3⟩
theorem hold_unlk {lk : List Nat} : Hold (Own B μ st) (Own B μ (unlk lk st)) H H := hold_sub fun _ z => own_unlk.mp z
theorem SRel.unlkR {lk : List Nat} (R : SRel K B base μ st H) : SRel K B base μ (PI.unlk lk st) H := by
  refine ⟨by rw [unlk_len]; exact R.len, R.nd, fun r c e => ?_, R.out, by rw [unlk_len]; exact R.bl, fun r c e hr k hk => ?_⟩
  · obtain ⟨c0, k1, k2, k3, k4⟩ := unlk_get e
    obtain ⟨a, xs, h1, h2, h3⟩ := R.cell r c0 k1
    exact ⟨a, xs, h1, h2, by rw [k2]; exact URs.hold hold_unlk ⟨[], by simp⟩ h3⟩
  · obtain ⟨c0, k1, k2, k3, k4⟩ := unlk_get e
    rw [k2] at hk
    exact R.bok r c0 k1 hr k hk
/-- from an origin over a loop's start to behind the loop -/
theorem Stp.unlk {lk : List Nat} (S4 : Stp B base μ0 st0 H0 μ4 st4 H4) (hl : ∀ r ∈ lk, ∃ c : Cell, st4[r]? = some c ∧ c.lv = .live) (he : ∃ t, μ = μ4 ++ t) (hn : μ4.length = st4.length) (S : Stp B base μ0 st0 H0 μ st H) : Stp B base μ0 st0 H0 μ (PI.unlk lk st) H := by
  refine ⟨S.ext, S.keep, fun a o h n z => ?_, fun a o h n z => S.own a o h n (own_unlk.mp z), S.there, fun r c' hr e => ?_⟩
  · rcases live_unlk z with z | ⟨r, hr, hm⟩
    · exact S.live a o h n z
    · obtain ⟨c, k1, k2⟩ := hl r hr
      obtain ⟨t, rfl⟩ := he
      rw [List.getElem?_append_left (by rw [hn]; exact (List.getElem?_eq_some_iff.mp k1).1)] at hm
      exact S4.live a o h n ⟨r, c, k1, k2, hm⟩
  · obtain ⟨c0, k1, k2, k3, k4⟩ := unlk_get e
    obtain ⟨c, h1, h2⟩ := S.refs r c0 hr k1
    exact ⟨c, h1, fun k hk => h2 k (by rw [← k2]; exact hk)⟩
end

/-! ### a list that is being filled, of nobody's -/
def More (B : Addr → Prop) (D : Addr) : Addr → Prop := fun a => B a ∨ a = D
section
variable {K : PySem.W.Frag} {B : Addr → Prop} {D : Addr} {base : Nat} {μ μ' μ0 : List Addr} {st st' st0 : Store} {H H' H0 : Hp}
theorem own_more {a : Addr} : Own (More B D) μ st a ↔ Own B μ st a ∨ a = D := by
  unfold Own More
  constructor
  · rintro ((h | h) | h)
    · exact .inl (.inl h)
    · exact .inr h
    · exact .inl (.inr h)
  · rintro ((h | h) | h)
    · exact .inl (.inl h)
    · exact .inr h
    · exact .inl (.inr h)
theorem hold_less : Hold (Own (More B D) μ st) (Own B μ st) H H := hold_sub fun _ z => own_more.mpr (.inl z)
theorem SRel.less (R : SRel K (More B D) base μ st H) : SRel K B base μ st H :=
  ⟨R.len, R.nd, fun r c e => let ⟨a, xs, h1, h2, h3⟩ := R.cell r c e; ⟨a, xs, h1, h2, URs.hold hold_less ⟨[], by simp⟩ h3⟩, fun a h => R.out a (.inl h), R.bl, R.bok⟩
theorem Stp.less (R' : SRel K (More B D) base μ' st' H') (nB : ¬ B D) (S : Stp (More B D) base μ st H μ' st' H') : Stp B base μ st H μ' st' H' := by
  refine ⟨S.ext, S.keep, S.live, fun a o h n z => ?_, S.there, S.refs⟩
  by_cases e : a = D
  · subst e
    rcases z with z | ⟨r, c, h1, h2, h3⟩
    · exact nB z
    · exact (R'.out a (.inr rfl)).2 (List.mem_of_getElem? h3)
  · exact S.own a o h (fun q => (own_more.mp q).elim n e) (own_more.mpr (.inl z))
theorem hold_new {o : HO} (n : H D = none) : Hold (Own B μ st) (Own (More B D) μ st) H (upd H D o) where
  tup := fun a xs h => upd_keep n h
  frz := fun a o u h => upd_keep n h
  lst := fun a xs h _ => upd_keep n h
  own := fun a o h q z => (own_more.mp z).elim q (ne_of_none h n)
theorem SRel.more {o : HO} (R : SRel K B base μ st H) (n : H D = Option.none) : SRel K (More B D) base μ st (upd H D o) := by
  refine ⟨R.len, R.nd, fun r c e => ?_, fun a h => ?_, R.bl, R.bok⟩
  · obtain ⟨a, xs, h1, h2, h3⟩ := R.cell r c e
    exact ⟨a, xs, h1, upd_keep n h2, URs.hold (hold_new n) ⟨[], by simp⟩ h3⟩
  · rcases h with h | rfl
    · obtain ⟨⟨u, h1⟩, h2⟩ := R.out a h
      exact ⟨⟨u, upd_keep n h1⟩, h2⟩
    · refine ⟨⟨o, upd_same⟩, fun z => ?_⟩
      obtain ⟨xs, e⟩ := R.mem_there z
      rw [n] at e
      cases e
theorem hold_turn {acc : List V} {xs : List V} (hD : H D = some (.lst acc)) : Hold (Own (More B D) μ st) (Own (More B D) μ st) H (upd H D (.lst xs)) where
  tup := fun a ys h => by rw [upd_ne (fun z => by rw [z, hD] at h; cases h)]; exact h
  frz := fun a o u h => by rw [upd_ne (fun z => by rw [z, hD] at h; cases h)]; exact h
  lst := fun a ys h n => by rw [upd_ne (fun z => n (own_more.mpr (.inr z)))]; exact h
  own := fun a o h n => n
theorem SRel.turn {acc xs : List V} (R : SRel K (More B D) base μ st H) (hD : H D = some (.lst acc)) : SRel K (More B D) base μ st (upd H D (.lst xs)) := by
  refine ⟨R.len, R.nd, fun r c e => ?_, fun a h => ⟨?_, (R.out a h).2⟩, R.bl, R.bok⟩
  · obtain ⟨a, ys, h1, h2, h3⟩ := R.cell r c e
    refine ⟨a, ys, h1, ?_, URs.hold (hold_turn hD) ⟨[], by simp⟩ h3⟩
    rw [upd_ne (fun z => (R.out D (.inr rfl)).2 (by rw [← z]; exact List.mem_of_getElem? h1))]
    exact h2
  · obtain ⟨⟨u, h1⟩, _⟩ := R.out a h
    by_cases e : a = D
    · exact ⟨_, by rw [e]; exact upd_same⟩
    · exact ⟨u, by rw [upd_ne e]; exact h1⟩
theorem Stp.turn {o : HO} (n0 : H0 D = none) (S : Stp B base μ0 st0 H0 μ st H) : Stp B base μ0 st0 H0 μ st (upd H D o) := by
  refine ⟨S.ext, fun a u h n l => ?_, S.live, S.own, fun a u h => ?_, S.refs⟩
  · rw [upd_ne (ne_of_none h n0)]
    exact S.keep a u h n l
  · obtain ⟨u', h'⟩ := S.there a u h
    exact ⟨u', by rw [upd_ne (ne_of_none h n0)]; exact h'⟩
/-- the filled list becomes a place -/
theorem SRel.adopt {us : List U} {vs : List V} (R : SRel K (More B D) base μ st H) (nB : ¬ B D) (hD : H D = some (.lst vs)) (hu : URs K (Own (More B D) μ st) H μ us vs) : SRel K B base (μ ++ [D]) (st ++ [⟨.live, us⟩]) H := by
  have sub : Hold (Own (More B D) μ st) (Own B (μ ++ [D]) (st ++ [⟨.live, us⟩])) H H := hold_sub fun a z => own_more.mpr (own_snoc R.len z)
  have nD : D ∉ μ := (R.out D (.inr rfl)).2
  refine ⟨by simp [R.len], ?_, fun r c e => ?_, fun a e => ?_, ?_, fun r c e hr k hk => ?_⟩
  · rw [List.nodup_append]
    refine ⟨R.nd, by simp, fun a ha b hb z => ?_⟩
    rw [List.mem_singleton.mp hb] at z
    exact nD (z ▸ ha)
  · by_cases hr : r < st.length
    · rw [List.getElem?_append_left hr] at e
      obtain ⟨a, ys, h1, h2, h3⟩ := R.cell r c e
      exact ⟨a, ys, by rw [List.getElem?_append_left (by rw [R.len]; exact hr)]; exact h1, h2, URs.hold sub ⟨[D], rfl⟩ h3⟩
    · have hr2 := (List.getElem?_eq_some_iff.mp e).1
      rw [List.length_append, List.length_singleton] at hr2
      have e1 : r = st.length := by omega
      subst e1
      rw [List.getElem?_append_right (Nat.le_refl _), Nat.sub_self] at e
      cases e
      exact ⟨D, vs, by rw [← R.len, List.getElem?_append_right (Nat.le_refl _), Nat.sub_self]; rfl, hD, URs.hold sub ⟨[D], rfl⟩ hu⟩
  · obtain ⟨⟨u, h1⟩, h2⟩ := R.out a (.inl e)
    refine ⟨⟨u, h1⟩, fun z => ?_⟩
    rcases List.mem_append.mp z with z | z
    · exact h2 z
    · exact nB (List.mem_singleton.mp z ▸ e)
  · rw [List.length_append]
    exact Nat.le_trans R.bl (Nat.le_add_right _ _)
  · rw [List.getElem?_append_left (Nat.lt_of_lt_of_le hr R.bl)] at e
    exact R.bok r c e hr k hk
theorem Stp.adopt {us : List U} (n0 : H0 D = none) (hl : μ.length = st.length) (hb : base ≤ st.length) (S : Stp B base μ0 st0 H0 μ st H) : Stp B base μ0 st0 H0 (μ ++ [D]) (st ++ [⟨.live, us⟩]) H := by
  refine ⟨?_, S.keep, fun a o h n z => ?_, fun a o h n z => ?_, S.there, fun r c' hr e => ?_⟩
  · obtain ⟨t, rfl⟩ := S.ext
    exact ⟨t ++ [D], by simp⟩
  · rcases live_snoc hl z with z | z
    · exact S.live a o h n z
    · exact ne_of_none h n0 z
  · rcases own_snoc hl z with z | z
    · exact S.own a o h n z
    · exact ne_of_none h n0 z
  · rw [List.getElem?_append_left (Nat.lt_of_lt_of_le hr hb)] at e
    exact S.refs r c' hr e
theorem Post.mkLD {xv : XV} {EX : XK} {Q : VK} {m : Bool} {us : List U} {vs : List V} (R : SRel K (More B D) base μ st H) (nB : ¬ B D) (hD : H D = some (.lst vs)) (hu : URs K (Own (More B D) μ st) H μ us vs) (n0 : H0 D = none)
    (S : Stp B base μ0 st0 H0 μ st H) (h : Post K B base xv EX (TU K) μ0 st0 H0 Q (PI.mkL m us st)) : Q (.ref D) H := by
  unfold PI.mkL at h
  split at h
  · cases m with
    | true =>
      simp only [if_pos] at h
      refine h _ _ _ (S.adopt n0 R.len R.bl) (R.adopt nB hD hu) (.ref ?_)
      rw [← R.len, List.getElem?_append_right (Nat.le_refl _), Nat.sub_self]
      rfl
    | false =>
      simp only [Bool.false_eq_true, if_false] at h
      cases e : pures us with
      | none => simp only [e] at h; exact h.elim
      | some ws =>
        simp only [e] at h
        have nO : ¬ Own B μ st D := fun z => by
          rcases z with z | ⟨r, c, h1, h2, h3⟩
          · exact nB z
          · exact (R.out D (.inr rfl)).2 (List.mem_of_getElem? h3)
        exact h μ _ H S R.less (.v (.lst hD nO (VRs.hold hold_less (VRs.of_paired hu e))))
  · exact h.elim
end

/-! ### runs of a comprehension -/
def PL (k : List U → Store → Prop) (r : PI.R (List U)) (us : List U) : Prop := ∃ us' st', r = .ok us' st' ∧ k (us ++ us') st'
theorem PL.nil {k : List U → Store → Prop} {step : U → Store → PI.R (List U)} {st : Store} {us : List U} (h : PL k (compL step [] st) us) : k us st := by
  obtain ⟨us', st', e, h⟩ := h
  cases e
  rw [List.append_nil] at h
  exact h
theorem PL.cons {k : List U → Store → Prop} {step : U → Store → PI.R (List U)} {st : Store} {us : List U} {x : U} {xs : List U} (h : PL k (compL step (x :: xs) st) us) : ∃ a st1, step x st = .ok a st1 ∧ PL k (compL step xs st1) (us ++ a) := by
  obtain ⟨us', st', e, h⟩ := h
  simp only [compL] at e
  cases e1 : step x st with
  | bad => rw [e1] at e; cases e
  | ex c w s => rw [e1] at e; cases e
  | ok a st1 =>
    rw [e1] at e
    simp only [PI.R.bind] at e
    cases e2 : compL step xs st1 with
    | bad => rw [e2] at e; cases e
    | ex c w s => rw [e2] at e; cases e
    | ok r st2 =>
      rw [e2] at e
      cases e
      exact ⟨a, st1, rfl, r, st', e2, by rw [List.append_assoc]; exact h⟩
theorem bind_ok {α β : Type} {r : PI.R α} {f : α → Store → PI.R β} {b : β} {st : Store} (h : r.bind f = .ok b st) : ∃ a st1, r = .ok a st1 ∧ f a st1 = .ok b st := by
  cases r with
  | ok a st1 => exact ⟨a, st1, rfl, h⟩
  | ex c w s => cases h
  | bad => cases h
theorem PL.le {k : List U → Store → Prop} {r : PI.R (List U)} {us : List U} (hk : ∀ us st, k us st → us.length ≤ lim) (h : PL k r us) : us.length ≤ lim := by
  obtain ⟨us', st', _, h⟩ := h
  have := hk _ _ h
  rw [List.length_append] at this
  omega

/-- the state of a comprehension's turns: started from (μ0, st0, H0), D filled with us -/
structure CSt (K : PySem.W.Frag) (B : Addr → Prop) (base : Nat) (D : Addr) (μ0 : List Addr) (st0 : Store) (H0 : Hp) (μ : List Addr) (st : Store) (H : Hp) (us : List U) (acc : List V) : Prop where
  nB : ¬ B D
  n0 : H0 D = none
  rel : SRel K (More B D) base μ st H
  stp : Stp B base μ0 st0 H0 μ st H
  here : H D = some (.lst acc)
  urs : URs K (Own (More B D) μ st) H μ us acc
section
variable {K : PySem.W.Frag} {B : Addr → Prop} {D : Addr} {base : Nat} {μ μ' μ0 : List Addr} {st st' st0 : Store} {H H' H0 : Hp} {us : List U} {acc : List V}
theorem CSt.step (c : CSt K B base D μ0 st0 H0 μ st H us acc) (S : Stp (More B D) base μ st H μ' st' H') (R : SRel K (More B D) base μ' st' H') : CSt K B base D μ0 st0 H0 μ' st' H' us acc where
  nB := c.nB
  n0 := c.n0
  rel := R
  stp := c.stp.trans (S.less R c.nB)
  here := S.keep D _ c.here (fun _ z => nomatch z) fun ⟨r, d, h1, h2, h3⟩ => (c.rel.out D (.inr rfl)).2 (List.mem_of_getElem? h3)
  urs := S.urs c.rel c.urs
theorem CSt.push (c : CSt K B base D μ0 st0 H0 μ st H us acc) {u : U} {y : V} (r : UR K (Own (More B D) μ st) H μ u y) : CSt K B base D μ0 st0 H0 μ st (upd H D (.lst (acc ++ [y]))) (us ++ [u]) (acc ++ [y]) where
  nB := c.nB
  n0 := c.n0
  rel := c.rel.turn c.here
  stp := c.stp.turn c.n0
  here := upd_same
  urs := URs.hold (hold_turn c.here) ⟨[], by simp⟩ (pairApp c.urs (.cons r .nil))
theorem CSt.unlk (c : CSt K B base D μ0 st0 H0 μ st H us acc) {lk : List Nat} {μ4 : List Addr} {st4 : Store} {H4 : Hp} (S4 : Stp B base μ0 st0 H0 μ4 st4 H4) (hl : ∀ r ∈ lk, ∃ c : Cell, st4[r]? = some c ∧ c.lv = .live) (he : ∃ t, μ = μ4 ++ t) (hn : μ4.length = st4.length) :
    CSt K B base D μ0 st0 H0 μ (PI.unlk lk st) H us acc where
  nB := c.nB
  n0 := c.n0
  rel := c.rel.unlkR
  stp := Stp.unlk S4 hl he hn c.stp
  here := c.here
  urs := URs.hold hold_unlk ⟨[], by simp⟩ c.urs
/-- for what the inner loop walks -/
theorem Stq.start : Stq B B μ st H μ st H := ⟨⟨[], by simp⟩, fun _ _ h _ _ _ => h, fun _ _ _ h => h⟩
theorem Stq.step (q : Stq (More B D) (More B D) μ0 st0 H0 μ st H) (S : Stp (More B D) base μ st H μ' st' H') (hl : ∀ a o, H0 a = some o → ¬ Live μ0 st0 a → ¬ Live μ st a) (ht : ∀ a o, H0 a = some o → ∃ o', H a = some o') : Stq (More B D) (More B D) μ0 st0 H0 μ' st' H' := by
  refine ⟨?_, fun a o h n l z => S.keep a o (q.keep a o h n l z) n (hl a o h l), fun a o h n => ?_⟩
  · obtain ⟨t, rfl⟩ := q.ext
    obtain ⟨u, rfl⟩ := S.ext
    exact ⟨t ++ u, by simp⟩
  · obtain ⟨o', h'⟩ := ht a o h
    exact S.own a o' h' (q.own a o h n)
end
end PI

/-! comprehensions: the rules -/
namespace PI
open PySem PySem.Spec PyProof.Rows L2
theorem ERel.hold {K : PySem.W.Frag} {O O' : Addr → Prop} {H H' : Hp} {μ μ' : List Addr} {ρ : PI.Env} {σ : L2.St} (e : Hold O O' H H') (m : ∃ t, μ' = μ ++ t) (h : ERel K O H μ ρ σ) : ERel K O' H' μ' ρ σ :=
  ⟨h.1, fun i u g => let ⟨v, g1, r⟩ := h.2 i u g; ⟨v, g1, r.hold e m⟩⟩
def noE : XK := fun _ _ _ => False
section
variable {K : PySem.W.Frag} {B : Addr → Prop} {D : Addr} {base : Nat} {μ μ' μ0 : List Addr} {st st' st0 : Store} {H H' H0 : Hp} {us : List U} {acc : List V}
theorem CSt.stq (c : CSt K B base D μ0 st0 H0 μ st H us acc) : Stq B (More B D) μ0 st0 H0 μ st H :=
  ⟨c.stp.ext, fun a o h n l _ => c.stp.keep a o h n l, fun a o h n z => (own_more.mp z).elim (c.stp.own a o h n) (ne_of_none h c.n0)⟩
theorem CSt.lt (c : CSt K B base D μ0 st0 H0 μ st H us acc) {u : U} (h : (us ++ [u]).length ≤ lim) : acc.length < sizeLine := by
  have e := Paired.length c.urs
  rw [lim_eq]
  rw [List.length_append, List.length_singleton] at h
  omega
/-- the inner walk's relation -/
structure Inn (B : Addr → Prop) (D : Addr) (μ0 : List Addr) (st0 : Store) (H0 : Hp) (μ : List Addr) (st : Store) (H : Hp) : Prop where
  q : Stq (More B D) (More B D) μ0 st0 H0 μ st H
  lv : ∀ a o, H0 a = some o → ¬ Live μ0 st0 a → ¬ Live μ st a
  th : ∀ a o, H0 a = some o → ∃ o', H a = some o'
theorem Inn.start : Inn B D μ st H μ st H := ⟨Stq.start, fun _ _ _ h => h, fun _ o h => ⟨o, h⟩⟩
theorem Inn.step (n : Inn B D μ0 st0 H0 μ st H) (S : Stp (More B D) base μ st H μ' st' H') : Inn B D μ0 st0 H0 μ' st' H' :=
  ⟨n.q.step S n.lv n.th, fun a o h l => let ⟨o', h'⟩ := n.th a o h; S.live a o' h' (n.lv a o h l), fun a o h => let ⟨o', h'⟩ := n.th a o h; S.there a o' h'⟩
theorem Inn.push (n : Inn B D μ0 st0 H0 μ st H) {acc0 ys : List V} (hD : H0 D = some (.lst acc0)) : Inn B D μ0 st0 H0 μ st (upd H D (.lst ys)) := by
  refine ⟨⟨n.q.ext, fun a o h l l2 z => ?_, n.q.own⟩, n.lv, fun a o h => ?_⟩
  · have ne : a ≠ D := fun e => by
      subst e
      rw [hD] at h
      cases h
      exact z _ rfl (.inr rfl)
    rw [upd_ne ne]
    exact n.q.keep a o h l l2 z
  · by_cases e : a = D
    · exact ⟨_, by rw [e]; exact upd_same⟩
    · obtain ⟨o', h'⟩ := n.th a o h
      exact ⟨o', by rw [upd_ne e]; exact h'⟩
end
section
variable {X : Cx} {T : Tab} {EX : XK} {C : Call}
def tCd (K : PySem.W.Frag) (T : Tab) (EX : XK) (C : Call) (cds : Es) : TT := fun σ H Q => Rd1 K T EX TB (fun base ρ st => condL C base cds ρ st) σ H Q
theorem cd_nil : PTs X [] (tCd X.K T EX C .nil) := ⟨fun pins s σ H Q I h => pts_nil.run pins s σ H Q I (by
  obtain ⟨B, base, μ, st, ρ, R, E, h⟩ := h
  exact h μ true H .refl R rfl)⟩
theorem cd_one {c : Expr} {e : E} (h : pT X T EX C c e) : PTs X [c] (tCd X.K T EX C (.cons e .nil)) := ⟨fun pins s σ H Q I q => (pts_one h).run pins s σ H Q I (by
  obtain ⟨B, base, μ, st, ρ, R, E, q⟩ := q
  refine ⟨B, base, μ, st, ρ, R, E, ?_⟩
  have e : condL C base (.cons e .nil) ρ st = testE C base e ρ st := by
    simp only [condL, testE]
    cases (evalE C base e ρ st).bind fun x st => okT st (truth st x) with
    | ok b st => cases b <;> rfl
    | ex c w st => rfl
    | bad => rfl
  dsimp only at q ⊢
  rw [← e]
  exact q)⟩
theorem mapS_ok {α : Type} {r : PI.R α} {f : Store → Store} {a : α} {st : Store} (h : r.mapS f = .ok a st) : ∃ st', r = .ok a st' ∧ st = f st' := by
  cases r with
  | ok b s => cases h; exact ⟨s, rfl, rfl⟩
  | ex c w s => cases h
  | bad => cases h
theorem comp_start {K : PySem.W.Frag} {B : Addr → Prop} {base : Nat} {xv : XV} {μ : List Addr} {st : Store} {H : Hp} {Q : VK} {m : Bool} {lk : List Nat} {r : PI.R (List U)} (h : Post K B base xv EX (TU K) μ st H Q ((r.noX.mapS (unlk lk)).bind fun us st => mkL m us st)) :
    PL (fun us st' => Post K B base xv EX (TU K) μ st H Q (mkL m us (unlk lk st'))) r [] := by
  cases r with
  | ok us st1 => exact ⟨us, st1, rfl, h⟩
  | ex c w s => exact h.elim
  | bad => exact h.elim
theorem mkL_le {K : PySem.W.Frag} {B : Addr → Prop} {base : Nat} {xv : XV} {μ : List Addr} {st : Store} {H : Hp} {Q : VK} {m : Bool} {us : List U} {st' : Store} (h : Post K B base xv EX (TU K) μ st H Q (mkL m us st')) : us.length ≤ lim := by
  unfold mkL at h
  split at h
  · assumption
  · exact h.elim
theorem comp_read {m : Bool} {own : List Nat} {elt : E} {tg : Tg} {it : It} {cds : Es} (hown : ∀ i ∈ slotsT tg, i ∈ own) : ∀ σ H Q, tE X.K T EX C (.comp m own elt tg it cds) σ H Q → tLc (tI X.K T EX C it) (tG X.K tg) (tCd X.K T noE C cds) (tE X.K T noE C elt) own σ H Q := by
  intro σ H Q h
  obtain ⟨B, base, μ, st, ρ, R, E, h⟩ := h
  simp only [evalE] at h
  refine ⟨B, base, μ, st, ρ, R, E, ?_⟩
  cases hr : evalI C base it ρ st with
  | bad => rw [hr] at h; exact h.elim
  | ex c w s => rw [hr] at h; exact h
  | ok its st1 =>
    rw [hr] at h
    intro μ1 st0 H1 μ2 H2 J S1 R1 S2 R2 hlk W D hD
    have p0 := comp_start h
    have nB : ¬ B D := fun z => by
      obtain ⟨⟨o, q⟩, _⟩ := R2.out D z
      rw [hD] at q
      cases q
    have n0 : H D = none := by
      cases q : H D with
      | none => rfl
      | some o =>
        obtain ⟨o', q'⟩ := (S1.trans S2).there D o q
        rw [hD] at q'
        cases q'
    refine ⟨fun i n H3 => n = its.xs.length - i ∧ i ≤ its.xs.length ∧ ∃ μc stc us acc, CSt X.K B base D μ2 st1 H2 μc stc H3 us acc ∧ ERel X.K (Own (More B D) μc stc) H3 μc ρ σ ∧ PL _ (compL _ (its.xs.drop i) stc) us,
      ⟨_, rfl, Nat.zero_le _, μ2, st1, [], [], ⟨nB, hD, R2.more hD, Stp.refl.turn hD, upd_same, .nil⟩, ERel.hold (hold_new hD) ⟨[], by simp⟩ ((S1.trans S2).env R E), p0⟩, ?_⟩
    rintro i n H3 ⟨rfl, hi, μc, stc, us, acc, c, Ec, p⟩
    by_cases hlt : i < its.xs.length
    · rw [List.drop_eq_getElem_cons hlt] at p
      obtain ⟨a, st2, hs, p⟩ := PL.cons p
      refine .inr ⟨W.go _ i μc stc H3 c.stq c.rel hlt, fun H4 => i + 1 ≤ its.xs.length ∧ ∃ μc stc us acc, CSt X.K B base D μ2 st1 H2 μc stc H4 us acc ∧ ERel X.K (Own (More B D) μc stc) H4 μc ρ σ ∧ PL _ (compL _ (its.xs.drop (i + 1)) stc) us, fun H4 w => ⟨_, by omega, rfl, w⟩, fun v H4 hy => ?_⟩
      obtain ⟨u, e1, R4, S4, r4⟩ := W.yld _ i μc stc H3 v H4 c.stq c.rel hlt hy
      rw [List.getElem?_eq_getElem hlt] at e1
      obtain rfl := Option.some.inj e1
      have c4 := c.step S4 R4
      have E4 := S4.env c.rel Ec
      split at hs
      · rename_i ρ' ea
        obtain ⟨b, st3, hb, hs⟩ := bind_ok hs
        refine ⟨More B D, base, μc, stc, PI.wipe ρ own, ρ', _, R4, E4.wipe own, r4, ea, fun σ2 E5 k2 => ⟨(k2 own hown).trans wipe_twice, ?_⟩⟩
        refine ⟨More B D, base, μc, stc, ρ', R4, E5, ?_⟩
        dsimp only
        rw [hb]
        intro μ5 b' H5 S5 R5 eb
        cases eb
        have c5 := c4.step S5 R5
        have E6 := S5.env R4 E4
        cases b with
        | false =>
          simp only [Bool.false_eq_true, if_false] at hs ⊢
          cases hs
          exact ⟨hlt, μ5, _, _, acc, by simpa using c5, E6, p⟩
        | true =>
          simp only [if_true] at hs ⊢
          obtain ⟨u2, st4, hu, hs⟩ := bind_ok hs
          cases hs
          refine ⟨More B D, base, μ5, st3, ρ', R5, S5.env R4 E5, ?_⟩
          dsimp only
          rw [hu]
          intro μ6 y H6 S6 R6 r6
          have c6 := c5.step S6 R6
          exact ⟨acc, c6.here, c6.lt (PL.le (fun _ _ z => mkL_le z) p), hlt, μ6, _, _, _, c6.push r6, ERel.hold (hold_turn c6.here) ⟨[], by simp⟩ (S6.env R5 E6), p⟩
      · cases hs
    · have e : i = its.xs.length := by omega
      subst e
      rw [List.drop_length] at p
      have pk := PL.nil p
      refine .inl ⟨W.stop _ _ μc stc H3 c.stq c.rel (Nat.le_refl _), ?_⟩
      exact Post.mkLD c.rel.unlkR nB c.here (URs.hold hold_unlk ⟨[], by simp⟩ c.urs) n0 (Stp.unlk S1 hlk (by
        obtain ⟨t, rfl⟩ := S2.ext
        obtain ⟨u, rfl⟩ := c.stp.ext
        exact ⟨t ++ u, by simp⟩) R1.len ((S1.trans S2).trans c.stp)) pk
theorem comp2_read {m : Bool} {own own1 : List Nat} {elt : E} {tg tg1 : Tg} {it it1 : It} {cds cds1 : Es} (hown : ∀ i ∈ slotsT tg, i ∈ own) (hown1 : ∀ i ∈ slotsT tg1, i ∈ own1) : ∀ σ H Q, tE X.K T EX C (.comp2 m own own1 elt tg it cds tg1 it1 cds1) σ H Q →
    tLc2 (tI X.K T EX C it) (tG X.K tg) (tCd X.K T noE C cds) (tI X.K T noE C it1) (tG X.K tg1) (tCd X.K T noE C cds1) (tE X.K T noE C elt) own own1 σ H Q := by
  intro σ H Q h
  obtain ⟨B, base, μ, st, ρ, R, E, h⟩ := h
  simp only [evalE] at h
  refine ⟨B, base, μ, st, ρ, R, E, ?_⟩
  cases hr : evalI C base it ρ st with
  | bad => rw [hr] at h; exact h.elim
  | ex c w s => rw [hr] at h; exact h
  | ok its st1 =>
    rw [hr] at h
    intro μ1 st0 H1 μ2 H2 J S1 R1 S2 R2 hlk W D hD
    have p0 := comp_start h
    have nB : ¬ B D := fun z => by
      obtain ⟨⟨o, q⟩, _⟩ := R2.out D z
      rw [hD] at q
      cases q
    have n0 : H D = none := by
      cases q : H D with
      | none => rfl
      | some o =>
        obtain ⟨o', q'⟩ := (S1.trans S2).there D o q
        rw [hD] at q'
        cases q'
    refine ⟨fun i n H3 => n = its.xs.length - i ∧ i ≤ its.xs.length ∧ ∃ μc stc us acc, CSt X.K B base D μ2 st1 H2 μc stc H3 us acc ∧ ERel X.K (Own (More B D) μc stc) H3 μc ρ σ ∧ PL _ (compL _ (its.xs.drop i) stc) us,
      ⟨_, rfl, Nat.zero_le _, μ2, st1, [], [], ⟨nB, hD, R2.more hD, Stp.refl.turn hD, upd_same, .nil⟩, ERel.hold (hold_new hD) ⟨[], by simp⟩ ((S1.trans S2).env R E), p0⟩, ?_⟩
    rintro i n H3 ⟨rfl, hi, μc, stc, us, acc, c, Ec, p⟩
    by_cases hlt : i < its.xs.length
    · rw [List.drop_eq_getElem_cons hlt] at p
      obtain ⟨a, st2, hs, p⟩ := PL.cons p
      refine .inr ⟨W.go _ i μc stc H3 c.stq c.rel hlt, fun H4 => i + 1 ≤ its.xs.length ∧ ∃ μc stc us acc, CSt X.K B base D μ2 st1 H2 μc stc H4 us acc ∧ ERel X.K (Own (More B D) μc stc) H4 μc ρ σ ∧ PL _ (compL _ (its.xs.drop (i + 1)) stc) us, fun H4 w => ⟨_, by omega, rfl, w⟩, fun v H4 hy => ?_⟩
      obtain ⟨u, e1, R4, S4, r4⟩ := W.yld _ i μc stc H3 v H4 c.stq c.rel hlt hy
      rw [List.getElem?_eq_getElem hlt] at e1
      obtain rfl := Option.some.inj e1
      have c4 := c.step S4 R4
      have E4 := S4.env c.rel Ec
      split at hs
      · rename_i ρ' ea
        obtain ⟨b, st3, hb, hs⟩ := bind_ok hs
        refine ⟨More B D, base, μc, stc, PI.wipe ρ own, ρ', _, R4, E4.wipe own, r4, ea, fun σ2 E5 k2 => ⟨(k2 own hown).trans wipe_twice, ?_⟩⟩
        refine ⟨More B D, base, μc, stc, ρ', R4, E5, ?_⟩
        dsimp only
        rw [hb]
        intro μ5 b' H5 S5 R5 eb
        cases eb
        have c5 := c4.step S5 R5
        have E6 := S5.env R4 E4
        cases b with
        | false =>
          simp only [Bool.false_eq_true, if_false] at hs ⊢
          cases hs
          exact ⟨hlt, μ5, _, _, acc, by simpa using c5, E6, p⟩
        | true =>
          simp only [if_true] at hs ⊢
          obtain ⟨its1, st4, hi1, hs⟩ := bind_ok hs
          refine ⟨More B D, base, μ5, st3, ρ', R5, S5.env R4 E5, ?_⟩
          rw [hi1]
          intro μ6 st6 H6 μ7 H7 J1 S6 R6 S7 R7 hlk1 W1
          have c6 := c5.step S6 R6
          have c7 := c6.step S7 R7
          have E7 := S7.env R6 (S6.env R5 E6)
          have F7 := S7.env R6 (S6.env R5 (S5.env R4 E5))
          -- the inner run
          obtain ⟨st5, e5, rfl⟩ := mapS_ok hs
          have q0 := show PL (fun us' st' => PL _ (compL _ (its.xs.drop (i + 1)) (unlk its1.lk st')) us') (compL _ its1.xs st4) us from ⟨a, st5, e5, p⟩
          refine ⟨fun j k H8 => k = its1.xs.length - j ∧ j ≤ its1.xs.length ∧ ∃ μd std us acc, CSt X.K B base D μ2 st1 H2 μd std H8 us acc ∧ Inn B D μ7 st4 H7 μd std H8 ∧ ERel X.K (Own (More B D) μd std) H8 μd ρ σ ∧ ERel X.K (Own (More B D) μd std) H8 μd ρ' σ2 ∧ PL _ (compL _ (its1.xs.drop j) std) us,
            ⟨_, rfl, Nat.zero_le _, μ7, st4, us, acc, c7, Inn.start, E7, F7, q0⟩, ?_⟩
          rintro j k H8 ⟨rfl, hj, μd, std, ud, ad, d, dn, Ed, Fd, q⟩
          by_cases hjt : j < its1.xs.length
          · rw [List.drop_eq_getElem_cons hjt] at q
            obtain ⟨a2, st8, hs2, q⟩ := PL.cons q
            refine .inr ⟨W1.go _ j μd std H8 dn.q d.rel hjt, fun H9 => j + 1 ≤ its1.xs.length ∧ ∃ μd std us acc, CSt X.K B base D μ2 st1 H2 μd std H9 us acc ∧ Inn B D μ7 st4 H7 μd std H9 ∧ ERel X.K (Own (More B D) μd std) H9 μd ρ σ ∧ ERel X.K (Own (More B D) μd std) H9 μd ρ' σ2 ∧ PL _ (compL _ (its1.xs.drop (j + 1)) std) us, fun H9 w => ⟨_, by omega, rfl, w⟩, fun v H9 hy => ?_⟩
            obtain ⟨u, e1, R9, S9, r9⟩ := W1.yld _ j μd std H8 v H9 dn.q d.rel hjt hy
            rw [List.getElem?_eq_getElem hjt] at e1
            obtain rfl := Option.some.inj e1
            have d9 := d.step S9 R9
            have n9 := dn.step S9
            have E9 := S9.env d.rel Ed
            have F9 := S9.env d.rel Fd
            split at hs2
            · rename_i ρ2 ea2
              obtain ⟨b2, st9, hb2, hs2⟩ := bind_ok hs2
              refine ⟨More B D, base, μd, std, PI.wipe ρ' own1, ρ2, _, R9, F9.wipe own1, r9, ea2, fun σ3 G9 k3 => ⟨(k3 own1 hown1).trans wipe_twice, ?_⟩⟩
              refine ⟨More B D, base, μd, std, ρ2, R9, G9, ?_⟩
              dsimp only
              rw [hb2]
              intro μ10 b' H10 S10 R10 eb
              cases eb
              have d10 := d9.step S10 R10
              have n10 := n9.step S10
              have E10 := S10.env R9 E9
              have F10 := S10.env R9 F9
              cases b2 with
              | false =>
                simp only [Bool.false_eq_true, if_false] at hs2 ⊢
                cases hs2
                exact ⟨hjt, μ10, _, _, ad, by simpa using d10, n10, E10, F10, q⟩
              | true =>
                simp only [if_true] at hs2 ⊢
                obtain ⟨u2, st10, hu, hs2⟩ := bind_ok hs2
                cases hs2
                refine ⟨More B D, base, μ10, st9, ρ2, R10, S10.env R9 G9, ?_⟩
                dsimp only
                rw [hu]
                intro μ11 y H11 S11 R11 r11
                have d11 := d10.step S11 R11
                have n11 := n10.step S11
                exact ⟨ad, d11.here, d11.lt (PL.le (fun _ _ z => PL.le (fun _ _ z => mkL_le z) z) q), hjt, μ11, _, _, _, d11.push r11, n11.push c7.here, ERel.hold (hold_turn d11.here) ⟨[], by simp⟩ (S11.env R10 E10), ERel.hold (hold_turn d11.here) ⟨[], by simp⟩ (S11.env R10 F10), q⟩
            · cases hs2
          · have e : j = its1.xs.length := by omega
            subst e
            rw [List.drop_length] at q
            have pk := PL.nil q
            refine .inl ⟨W1.stop _ _ μd std H8 dn.q d.rel (Nat.le_refl _), hlt, μd, _, _, ad, d.unlk c6.stp hlk1 ?_ R6.len, ERel.hold hold_unlk ⟨[], by simp⟩ Ed, pk⟩
            obtain ⟨t, rfl⟩ := S7.ext
            obtain ⟨u, rfl⟩ := dn.q.ext
            exact ⟨t ++ u, by simp⟩
      · cases hs
    · have e : i = its.xs.length := by omega
      subst e
      rw [List.drop_length] at p
      have pk := PL.nil p
      refine .inl ⟨W.stop _ _ μc stc H3 c.stq c.rel (Nat.le_refl _), ?_⟩
      exact Post.mkLD c.rel.unlkR nB c.here (URs.hold hold_unlk ⟨[], by simp⟩ c.urs) n0 (Stp.unlk S1 hlk (by
        obtain ⟨t, rfl⟩ := S2.ext
        obtain ⟨u, rfl⟩ := c.stp.ext
        exact ⟨t ++ u, by simp⟩) R1.len ((S1.trans S2).trans c.stp)) pk
end
end PI

/-! statements -/
namespace PI
open PySem PySem.Spec PyProof.Rows L2
section
variable (K : PySem.W.Frag) (T : Tab) (EX : XK) (C : Call)
def RdS (run : Nat → PI.Env → Store → SR) : TS := fun D σ H => ∃ B base μ st ρ, SRel K B base μ st H ∧ ERel K (Own B μ st) H μ ρ σ ∧ PostS K B base T.xv EX μ st H D (run base ρ st)
abbrev tS (s : S) : TS := RdS K T EX fun base ρ st => execS C base s ρ st
abbrev tSs (ss : Ss) : TS := RdS K T EX fun base ρ st => execSs C base ss ρ st
end
section
variable {X : Cx} {T : Tab} {EX : XK} {C : Call}
theorem PS.imp {e : Stmt} {t t' : TS} (h : PS X e t) (f : ∀ D σ H, t' D σ H → t D σ H) : PS X e t' := ⟨fun pins s σ H D I q => h.run pins s σ H D I (f D σ H q)⟩
theorem PSs.imp {e : List Stmt} {t t' : TS} (h : PSs X e t) (f : ∀ D σ H, t' D σ H → t D σ H) : PSs X e t' := ⟨fun pins s σ H D I q => h.run pins s σ H D I (f D σ H q)⟩
abbrev pS (X : Cx) (T : Tab) (EX : XK) (C : Call) (x : Stmt) (s : S) : Prop := PS X x (tS X.K T EX C s)
abbrev pSs (X : Cx) (T : Tab) (EX : XK) (C : Call) (x : List Stmt) (s : Ss) : Prop := PSs X x (tSs X.K T EX C s)
theorem ss_nil : pSs X T EX C [] .nil := PSs.imp pss_nil fun D σ H h => by
  obtain ⟨B, base, μ, st, ρ, R, E, h⟩ := h
  exact h μ σ H .refl R E
theorem ss_cons {x : Stmt} {xs : List Stmt} {s : S} {ss : Ss} (h1 : pS X T EX C x s) (h2 : pSs X T EX C xs ss) : pSs X T EX C (x :: xs) (.cons s ss) := by
  refine PSs.imp (pss_cons h1 h2) fun D σ H h => ?_
  obtain ⟨B, base, μ, st, ρ, R, E, h⟩ := h
  refine ⟨B, base, μ, st, ρ, R, E, ?_⟩
  simp only [execSs] at h
  dsimp only
  cases hr : execS C base s ρ st with
  | nx ρ' st' =>
    rw [hr] at h
    intro μ' σ' H' S R' E'
    exact ⟨B, base, μ', st', ρ', R', E', PostS.step S h⟩
  | rt u st' => rw [hr] at h; exact h
  | bk ρ' st' => rw [hr] at h; exact h
  | ct ρ' st' => rw [hr] at h; exact h
  | ex c w st' => rw [hr] at h; exact h
  | bad => rw [hr] at h; exact h
/-- an expression, then the rest -/
theorem evS {α β : Type} {RR : (Addr → Prop) → Hp → List Addr → α → β → Prop} {run : Nat → PI.Env → Store → PI.R α} {f : Nat → PI.Env → α → Store → SR} {D : Ends} {σ : L2.St} {H : Hp} (h : RdS X.K T EX (fun base ρ st => (run base ρ st).toS (f base ρ)) D σ H) :
    Rd1 X.K T EX RR run σ H fun y H1 => ∃ B base μ st ρ x, SRel X.K B base μ st H1 ∧ ERel X.K (Own B μ st) H1 μ ρ σ ∧ RR (Own B μ st) H1 μ x y ∧ PostS X.K B base T.xv EX μ st H1 D (f base ρ x st) := by
  obtain ⟨B, base, μ, st, ρ, R, E, h⟩ := h
  refine ⟨B, base, μ, st, ρ, R, E, (Post.toS (T := RR) h).mono fun y H1 q => ?_⟩
  obtain ⟨x, μ1, st1, S, R1, t, q⟩ := q
  exact ⟨B, base, μ1, st1, ρ, x, R1, S.env R E, t, q⟩
theorem PostS.nx0 {K : PySem.W.Frag} {B : Addr → Prop} {base : Nat} {xv : XV} {μ : List Addr} {st : Store} {H : Hp} {D : Ends} {ρ : PI.Env} {σ : L2.St} (h : PostS K B base xv EX μ st H D (.nx ρ st)) (R : SRel K B base μ st H) (E : ERel K (Own B μ st) H μ ρ σ) : D.nx σ H := h μ σ H .refl R E
theorem s_expr {x : Expr} {e : E} {pos : Pos} (he : pE X T EX C x e) (hs : swapsWith x none pos.line X.env = pure false) : pS X T EX C (.Expr x pos) (.expr e) := by
  refine PS.imp (ps_expr he hs) fun D σ H h => ?_
  refine Rd1.mono (fun y H1 h => ?_) (evS (RR := TU X.K) (run := fun base ρ st => evalE C base e ρ st) (f := fun base ρ _ st => .nx ρ st) h)
  obtain ⟨B, base, μ, st, ρ, u, R, E, r, h⟩ := h
  exact PostS.nx0 h R E
theorem s_asg {x tg : Expr} {e : E} {t : Tg} {pos : Pos} (he : pE X T EX C x e) (hg : PG X tg (tG X.K t)) (hs : swapsWithSole [tg] x pos.line X.env = pure false) (hw : swappedStores [tg] x X.env = pure none) (hp : PlainT X tg) : pS X T EX C (.Assign [tg] x pos) (.asg t e) := by
  refine PS.imp (ps_asg he hg hs hw (by rw [hp]; rfl)) fun D σ H h => ?_
  refine Rd1.mono (fun y H1 h => ?_) (evS (RR := TU X.K) (run := fun base ρ st => evalE C base e ρ st) (f := fun base ρ u st => match asgT t u ρ st with
    | some ρ' => .nx ρ' st
    | none => .bad) h)
  obtain ⟨B, base, μ, st, ρ, u, R, E, r, h⟩ := h
  split at h
  · rename_i ρ' e1
    exact ⟨B, base, μ, st, ρ, ρ', u, R, E, r, e1, fun σ' E' _ => h μ σ' H1 .refl R E'⟩
  · exact h.elim
theorem s_par {i j : Nat} {x y : Str} {p q : Expr} {a b : E} {px py pt pos pt2 : Pos} {kt k2 : Nat} (hc : X.calm = true) (hN : X.N.Nodup) (hi : X.N[i]? = some x) (hj : X.N[j]? = some y) (hij : i ≠ j)
    (hx : X.env.scope.names.lookup x = some .local) (hy : X.env.scope.names.lookup y = some .local) (ha : pE X T EX C p a) (hb : pE X T EX C q b) (h1 : Plain X.env p) (h2 : Plain X.env q)
    (hw : swappedStores [.Tuple [.Name x px, .Name y py] kt pt] (.Tuple [p, q] k2 pt2) X.env = pure (some [x, y])) :
    pS X T EX C (.Assign [.Tuple [.Name x px, .Name y py] kt pt] (.Tuple [p, q] k2 pt2) pos) (.par i j a b) := by
  refine PS.imp (ps_par hc hN hi hj hij hx hy (a_cons ha (a_cons hb a_nil h2) h1) hw) fun D σ H h => ?_
  have h : RdS X.K T EX (fun base ρ st => (evalEs C base (.cons a (.cons b .nil)) ρ st).toS fun us st => match us with
    | [u, w] => .nx ((ρ.set i (some u)).set j (some w)) st
    | _ => .bad) D σ H := by
    have e : (fun base ρ st => execS C base (.par i j a b) ρ st) = (fun base ρ st => (evalEs C base (.cons a (.cons b .nil)) ρ st).toS fun us st => match us with
    | [u, w] => .nx ((ρ.set i (some u)).set j (some w)) st
    | _ => .bad) := by
      funext base ρ st
      simp only [execS, evalEs]
      cases evalE C base a ρ st with
      | bad => rfl
      | ex c w s => rfl
      | ok u s =>
        show _ = PI.R.toS (PI.R.bind ((evalE C base b ρ s).bind _) _) _
        simp only [PI.R.toS]
        cases evalE C base b ρ s <;> rfl
    have h' : RdS X.K T EX (fun base ρ st => execS C base (.par i j a b) ρ st) D σ H := h
    rw [e] at h'
    exact h'
  refine Rd1.mono (fun vs H1 h => ?_) (evS (RR := TUs X.K) (run := fun base ρ st => evalEs C base (.cons a (.cons b .nil)) ρ st) (f := fun base ρ us st => match us with
    | [u, w] => .nx ((ρ.set i (some u)).set j (some w)) st
    | _ => .bad) h)
  obtain ⟨B, base, μ, st, ρ, us, R, E, r, h⟩ := h
  split at h
  · obtain ⟨v, w, rfl, r1, r2⟩ := two_of r
    exact ⟨v, w, rfl, PostS.nx0 h R ((E.set r1).set r2)⟩
  · exact h.elim
theorem s_par3 {i j l : Nat} {x y z : Str} {p q o : Expr} {a b c : E} {px py pz pt pos pt2 : Pos} {kt k2 : Nat} (hc : X.calm = true) (hN : X.N.Nodup) (hi : X.N[i]? = some x) (hj : X.N[j]? = some y) (hl : X.N[l]? = some z) (hij : i ≠ j) (hil : i ≠ l) (hjl : j ≠ l)
    (hx : X.env.scope.names.lookup x = some .local) (hy : X.env.scope.names.lookup y = some .local) (hz : X.env.scope.names.lookup z = some .local) (ha : pE X T EX C p a) (hb : pE X T EX C q b) (hd : pE X T EX C o c) (h1 : Plain X.env p) (h2 : Plain X.env q) (h3 : Plain X.env o)
    (hw : swappedStores [.Tuple [.Name x px, .Name y py, .Name z pz] kt pt] (.Tuple [p, q, o] k2 pt2) X.env = pure (some [x, y, z])) :
    pS X T EX C (.Assign [.Tuple [.Name x px, .Name y py, .Name z pz] kt pt] (.Tuple [p, q, o] k2 pt2) pos) (.par3 i j l a b c) := by
  refine PS.imp (ps_par3 hc hN hi hj hl hij hil hjl hx hy hz (a_cons ha (a_cons hb (a_cons hd a_nil h3) h2) h1) hw) fun D σ H h => ?_
  have h : RdS X.K T EX (fun base ρ st => (evalEs C base (.cons a (.cons b (.cons c .nil))) ρ st).toS fun us st => match us with
    | [u, w, y] => .nx (((ρ.set i (some u)).set j (some w)).set l (some y)) st
    | _ => .bad) D σ H := by
    have e : (fun base ρ st => execS C base (.par3 i j l a b c) ρ st) = (fun base ρ st => (evalEs C base (.cons a (.cons b (.cons c .nil))) ρ st).toS fun us st => match us with
    | [u, w, y] => .nx (((ρ.set i (some u)).set j (some w)).set l (some y)) st
    | _ => .bad) := by
      funext base ρ st
      simp only [execS, evalEs]
      cases evalE C base a ρ st with
      | bad => rfl
      | ex c w s => rfl
      | ok u s =>
        show _ = PI.R.toS (PI.R.bind ((evalE C base b ρ s).bind _) _) _
        simp only [PI.R.toS]
        cases evalE C base b ρ s with
        | bad => rfl
        | ex c w s => rfl
        | ok u s =>
          show _ = PI.R.toS (PI.R.bind (PI.R.bind ((evalE C base c ρ s).bind _) _) _) _
          simp only [PI.R.toS]
          cases evalE C base c ρ s <;> rfl
    have h' : RdS X.K T EX (fun base ρ st => execS C base (.par3 i j l a b c) ρ st) D σ H := h
    rw [e] at h'
    exact h'
  refine Rd1.mono (fun vs H1 h => ?_) (evS (RR := TUs X.K) (run := fun base ρ st => evalEs C base (.cons a (.cons b (.cons c .nil))) ρ st) (f := fun base ρ us st => match us with
    | [u, w, y] => .nx (((ρ.set i (some u)).set j (some w)).set l (some y)) st
    | _ => .bad) h)
  obtain ⟨B, base, μ, st, ρ, us, R, E, r, h⟩ := h
  split at h
  · obtain ⟨v, w, y, rfl, r1, r2, r3⟩ := three_of r
    exact ⟨v, w, y, rfl, PostS.nx0 h R (((E.set r1).set r2).set r3)⟩
  · exact h.elim
theorem s_ret {x : Expr} {e : E} {pos : Pos} (he : pE X T EX C x e) : pS X T EX C (.Return (some x) pos) (.ret e) := by
  refine PS.imp (ps_ret he) fun D σ H h => ?_
  refine Rd1.mono (fun y H1 h => ?_) (evS (RR := TU X.K) (run := fun base ρ st => evalE C base e ρ st) (f := fun base ρ u st => .rt u st) h)
  obtain ⟨B, base, μ, st, ρ, u, R, E, r, h⟩ := h
  exact h μ y H1 .refl R r
theorem s_ret0 {pos : Pos} : pS X T EX C (.Return none pos) .ret0 := by
  refine PS.imp ps_retN fun D σ H h => ?_
  obtain ⟨B, base, μ, st, ρ, R, E, h⟩ := h
  exact h μ .non H .refl R (.v .non)
theorem s_pass {pos : Pos} : pS X T EX C (.Pass pos) .pass := by
  refine PS.imp ps_pass fun D σ H h => ?_
  obtain ⟨B, base, μ, st, ρ, R, E, h⟩ := h
  exact PostS.nx0 h R E
theorem s_brk {pos : Pos} : pS X T EX C (.Break pos) .brk := by
  refine PS.imp ps_break fun D σ H h => ?_
  obtain ⟨B, base, μ, st, ρ, R, E, h⟩ := h
  exact h μ σ H .refl R E
theorem s_cont {pos : Pos} : pS X T EX C (.Continue pos) .cont := by
  refine PS.imp ps_continue fun D σ H h => ?_
  obtain ⟨B, base, μ, st, ρ, R, E, h⟩ := h
  exact h μ σ H .refl R E
theorem s_never {x : Stmt} : pS X T EX C x .never := by
  refine PS.imp ps_never fun D σ H h => ?_
  obtain ⟨B, base, μ, st, ρ, R, E, h⟩ := h
  exact h.elim
/-- a text ahead of a def's body -/
theorem s_doc {z : Str} {j : Nat} {p pos : Pos} : pS X T EX C (.Expr (.Constant (.str z) j p) pos) .pass := by
  refine PS.imp ps_doc fun D σ H h => ?_
  obtain ⟨B, base, μ, st, ρ, R, E, h⟩ := h
  exact PostS.nx0 h R E
theorem s_if {x : Expr} {p q : List Stmt} {c : E} {a b : Ss} {pos : Pos} (hc : pT X T EX C x c) (ha : pSs X T EX C p a) (hb : pSs X T EX C q b) : pS X T EX C (.If x p q pos) (.iff c a b) := by
  refine PS.imp (ps_if hc ha hb) fun D σ H h => ?_
  refine Rd1.mono (fun k H1 h => ?_) (evS (RR := TB) (run := fun base ρ st => testE C base c ρ st) (f := fun base ρ k st => if k then execSs C base a ρ st else execSs C base b ρ st) h)
  obtain ⟨B, base, μ, st, ρ, u, R, E, r, h⟩ := h
  cases r
  cases k with
  | true => exact ⟨B, base, μ, st, ρ, R, E, h⟩
  | false => exact ⟨B, base, μ, st, ρ, R, E, h⟩
theorem s_while {x : Expr} {p : List Stmt} {c : E} {b : Ss} {pos : Pos} (hp : PassesOwn (model X.prog X.w) X.A X.env X.xe) (hc : pT X T EX C x c) (hb : pSs X T EX C p b) : pS X T EX C (.While x p [] pos) (.whl c b) := by
  refine PS.imp (ps_while hp hc hb) fun D σ H h => ?_
  obtain ⟨B, base, μ, st, ρ, R, E, h⟩ := h
  simp only [execS] at h
  refine ⟨fun m σ H => ∃ μ' st' ρ', SRel X.K B base μ' st' H ∧ ERel X.K (Own B μ' st') H μ' ρ' σ ∧ PostS X.K B base T.xv EX μ' st' H D (whlN (fun ρ st => testE C base c ρ st) (fun ρ st => execSs C base b ρ st) m ρ' st'), ⟨turns, μ, st, ρ, R, E, h⟩, ?_⟩
  rintro m σ H ⟨μ, st, ρ, R, E, h⟩
  cases m with
  | zero => exact h.elim
  | succ m =>
    unfold whlN at h
    refine ⟨B, base, μ, st, ρ, R, E, (Post.toS (T := TB) h).mono fun k H1 q => ?_⟩
    obtain ⟨k', μ1, st1, S, R1, t, q⟩ := q
    cases t
    have E1 := S.env R E
    cases k with
    | false => exact PostS.nx0 q R1 E1
    | true =>
      rw [if_pos rfl] at q ⊢
      refine ⟨_, fun σ' H' w => ⟨m, Nat.lt_succ_self m, w⟩, B, base, μ1, st1, ρ, R1, E1, ?_⟩
      dsimp only
      cases hr : execSs C base b ρ st1 with
      | nx ρ' st' =>
        simp only [hr] at q
        exact fun μ' σ' H' S R' E' => ⟨μ', st', ρ', R', E', PostS.step S q⟩
      | ct ρ' st' =>
        simp only [hr] at q
        exact fun μ' σ' H' S R' E' => ⟨μ', st', ρ', R', E', PostS.step S q⟩
      | bk ρ' st' => simp only [hr] at q; exact q
      | rt u st' => simp only [hr] at q; exact q
      | ex c w st' => simp only [hr] at q; exact q
      | bad => simp only [hr] at q; exact q.elim
theorem s_for {x tg : Expr} {p : List Stmt} {t : Tg} {it : It} {b : Ss} {pos : Pos} (hp : PassesOwn (model X.prog X.w) X.A X.env X.xe) (hc : X.calm = true) (hi : pI X T EX C tg x it) (hg : PG X tg (tG X.K t)) (hb : pSs X T EX C p b)
    (hs : ∀ y, foldedSetIterable x X.env y = pure y) : pS X T EX C (.For tg x p [] pos) (.for t it b) := by
  refine PS.imp (ps_for hp hc hi hg hb hs) fun D σ H h => ?_
  obtain ⟨B, base, μ, st, ρ, R, E, h⟩ := h
  simp only [execS] at h
  refine ⟨B, base, μ, st, ρ, R, E, ?_⟩
  cases hr : evalI C base it ρ st with
  | bad => rw [hr] at h; exact h.elim
  | ex c w s => rw [hr] at h; exact h
  | ok its st1 =>
    rw [hr] at h
    intro μ1 st0 H1 μ2 H2 J S1 R1 S2 R2 hlk W
    simp only [PI.R.toS] at h
    have S02 := S1.trans S2
    refine ⟨fun i n σ H3 => n = its.xs.length - i ∧ i ≤ its.xs.length ∧ ∃ μc stc ρc, SRel X.K B base μc stc H3 ∧ Stp B base μ2 st1 H2 μc stc H3 ∧ ERel X.K (Own B μc stc) H3 μc ρc σ ∧ PostS X.K B base T.xv EX μ st H D ((forL _ (its.xs.drop i) ρc stc).mapS (unlk its.lk)),
      ⟨_, rfl, Nat.zero_le _, μ2, st1, ρ, R2, .refl, S02.env R E, h⟩, ?_⟩
    rintro i n σ H3 ⟨rfl, hi, μc, stc, ρc, Rc, Sc, Ec, q⟩
    -- behind the loop
    have off : ∀ {μd : List Addr} {std : Store} {Hd : Hp}, SRel X.K B base μd std Hd → Stp B base μ2 st1 H2 μd std Hd → SRel X.K B base μd (unlk its.lk std) Hd ∧ Stp B base μ st H μd (unlk its.lk std) Hd := fun {μd std Hd} Rd Sd =>
      ⟨Rd.unlkR, Stp.unlk S1 hlk (by
        obtain ⟨t, rfl⟩ := S2.ext
        obtain ⟨u, rfl⟩ := Sd.ext
        exact ⟨t ++ u, by simp⟩) R1.len (S02.trans Sd)⟩
    by_cases hlt : i < its.xs.length
    · rw [List.drop_eq_getElem_cons hlt] at q
      unfold forL at q
      refine .inr ⟨W.go _ i μc stc H3 Sc.stq Rc hlt, fun σ H4 => i + 1 ≤ its.xs.length ∧ ∃ μc stc ρc, SRel X.K B base μc stc H4 ∧ Stp B base μ2 st1 H2 μc stc H4 ∧ ERel X.K (Own B μc stc) H4 μc ρc σ ∧ PostS X.K B base T.xv EX μ st H D ((forL _ (its.xs.drop (i + 1)) ρc stc).mapS (unlk its.lk)),
        fun σ' H4 w => ⟨_, by omega, rfl, w⟩, fun v H4 hy => ?_⟩
      obtain ⟨u, e1, R4, S4, r4⟩ := W.yld _ i μc stc H3 v H4 Sc.stq Rc hlt hy
      rw [List.getElem?_eq_getElem hlt] at e1
      obtain rfl := Option.some.inj e1
      have E4 := S4.env Rc Ec
      have S24 := Sc.trans S4
      cases ea : asgT t its.xs[i] ρc stc with
      | none => simp only [ea] at q; exact q.elim
      | some ρ' =>
        simp only [ea] at q
        refine ⟨B, base, μc, stc, ρc, ρ', _, R4, E4, r4, ea, fun σ2 E5 _ => ⟨B, base, μc, stc, ρ', R4, E5, ?_⟩⟩
        dsimp only
        cases hx : execSs C base b ρ' stc with
        | nx ρ' st' =>
          simp only [hx] at q
          exact fun μ' σ' H' S R' E' => ⟨hlt, μ', st', ρ', R', S24.trans S, E', q⟩
        | ct ρ' st' =>
          simp only [hx] at q
          exact fun μ' σ' H' S R' E' => ⟨hlt, μ', st', ρ', R', S24.trans S, E', q⟩
        | bk ρ' st' =>
          simp only [hx] at q
          intro μ' σ' H' S R' E'
          obtain ⟨Ro, So⟩ := off R' (S24.trans S)
          exact q μ' σ' H' So Ro (ERel.hold hold_unlk ⟨[], by simp⟩ E')
        | rt u st' =>
          simp only [hx] at q
          intro μ' v' H' S R' r'
          obtain ⟨Ro, So⟩ := off R' (S24.trans S)
          exact q μ' v' H' So Ro (r'.hold hold_unlk ⟨[], by simp⟩)
        | ex c w st' =>
          simp only [hx] at q
          intro μ' cls d H' S R' x'
          obtain ⟨Ro, So⟩ := off R' (S24.trans S)
          exact q μ' cls d H' So Ro x'
        | bad => simp only [hx] at q; exact q.elim
    · have e : i = its.xs.length := by omega
      subst e
      rw [List.drop_length] at q
      obtain ⟨Ro, So⟩ := off Rc Sc
      exact .inl ⟨W.stop _ _ μc stc H3 Sc.stq Rc (Nat.le_refl _), q μc σ H3 So Ro (ERel.hold hold_unlk ⟨[], by simp⟩ Ec)⟩
end
end PI

/-! stores into names and lists; blocks of comprehensions -/
namespace PI
open PySem PySem.Spec PyProof.Rows L2
section
variable {K : PySem.W.Frag} {T : Tab} {EX : XK} {α β ι : Type} {R1 : (Addr → Prop) → Hp → List Addr → α → β → Prop}
def MidS (K : PySem.W.Frag) (T : Tab) (EX : XK) (Z : ι → (Addr → Prop) → Hp → List Addr → Prop) (f : Nat → PI.Env → ι → Store → SR) (σ : L2.St) (H : Hp) (D : Ends) : Prop :=
  ∃ B base μ st ρ i, SRel K B base μ st H ∧ ERel K (Own B μ st) H μ ρ σ ∧ Z i (Own B μ st) H μ ∧ PostS K B base T.xv EX μ st H D (f base ρ i st)
theorem MidS.ev {Z : ι → (Addr → Prop) → Hp → List Addr → Prop} (hZ : Stay Z) {run : Nat → PI.Env → Store → PI.R α} {f : Nat → PI.Env → ι → α → Store → SR} {σ : L2.St} {H : Hp} {D : Ends}
    (h : MidS K T EX Z (fun base ρ i st => (run base ρ st).toS (f base ρ i)) σ H D) : Rd1 K T EX R1 run σ H (fun y H1 => MidS K T EX (fun (p : ι × α) O H μ => Z p.1 O H μ ∧ R1 O H μ p.2 y) (fun base ρ p st => f base ρ p.1 p.2 st) σ H1 D) := by
  obtain ⟨B, base, μ, st, ρ, i, R, E, z, h⟩ := h
  refine ⟨B, base, μ, st, ρ, R, E, (Post.toS (T := R1) h).mono fun y H1 q => ?_⟩
  obtain ⟨x, μ1, st1, S1, R', t, q⟩ := q
  exact ⟨B, base, μ1, st1, ρ, (i, x), R', S1.env R E, ⟨hZ i _ _ _ _ _ _ (S1.hold R) S1.ext z, t⟩, q⟩
theorem RdS.mid {run : Nat → PI.Env → Store → SR} {σ : L2.St} {H : Hp} {D : Ends} (h : RdS K T EX run D σ H) : MidS K T EX (fun (_ : Unit) _ _ _ => True) (fun base ρ _ st => run base ρ st) σ H D := by
  obtain ⟨B, base, μ, st, ρ, R, E, h⟩ := h
  exact ⟨B, base, μ, st, ρ, (), R, E, trivial, h⟩
end
section
variable {X : Cx} {T : Tab} {EX : XK} {C : Call}
theorem s_setIx {x o k : Expr} {e a i : E} {p pos : Pos} (he : pE X T EX C x e) (ho : pE X T EX C o a) (hk : pE X T EX C k i)
    (ha : ∀ v, assign (.Subscript o k p) X.env v = (do
      let ov ← holding [v] (eval o X.env)
      let iv ← holding [v, ov] (eval k X.env)
      standAt p
      holding [v, ov, iv] (setItem ov iv v)
      release [v, ov, iv] []))
    (hs : swapsWithSole [.Subscript o k p] x pos.line X.env = pure false) (hw : swappedStores [.Subscript o k p] x X.env = pure none) :
    pS X T EX C (.Assign [.Subscript o k p] x pos) (.setIx a i e) := by
  refine PS.imp (ps_asg he (pg_sub ho hk st_ok ha) hs hw) fun D σ H h => ?_
  refine Rd1.mono (fun v H1 h => ?_) (MidS.ev (R1 := TU X.K) (run := fun base ρ st => evalE C base e ρ st) (f := fun base ρ _ y st => (evalE C base a ρ st).toS fun x st => (evalE C base i ρ st).toS fun k st => match setU base x k y st with
    | some st => .nx ρ st
    | none => .bad) stay0 (RdS.mid h))
  refine Rd1.mono (fun w H2 h => ?_) (MidS.ev (R1 := TU X.K) (run := fun base ρ st => evalE C base a ρ st) (f := fun base ρ y x st => (evalE C base i ρ st).toS fun k st => match setU base x k y.2 st with
    | some st => .nx ρ st
    | none => .bad) (stayU stay0) h)
  refine Rd1.mono (fun z H3 h => ?_) (MidS.ev (R1 := TU X.K) (run := fun base ρ st => evalE C base i ρ st) (f := fun base ρ y k st => match setU base y.2 k y.1.2 st with
    | some st => .nx ρ st
    | none => .bad) (stayU (stayU stay0)) h)
  obtain ⟨B, base, μ, st, ρ, q, R, E, ⟨⟨⟨_, z1⟩, z2⟩, z3⟩, h⟩ := h
  dsimp only at h
  split at h
  · rename_i st' e1
    exact ⟨B, base, μ, st, st', _, _, _, R, z2, z3, z1, e1, fun H' S R' => h μ σ H' S R' (S.env R E)⟩
  · exact h.elim
theorem s_aug {j : Nat} {x : Str} {o : Operator} {v : Expr} {e : E} {p pos : Pos} (hN : X.N.Nodup) (hi : X.N[j]? = some x) (hx : Loc X.env.scope x) (hf : X.fn x = true ∨ X.env.scope.names.lookup x = some .local) (he : pE X T EX C v e) :
    pS X T EX C (.AugAssign (.Name x p) o v pos) (.aug j o e) := by
  refine PS.imp (ps_aug hN hi hx he aug_ok hf) fun D σ H h => ?_
  obtain ⟨B, base, μ, st, ρ, R, E, h⟩ := h
  simp only [execS] at h
  split at h
  · rename_i u eu
    obtain ⟨y, ey, ry⟩ := E.2 j u eu
    refine ⟨y, ey, B, base, μ, st, ρ, R, E, (Post.toS (T := TU X.K) h).mono fun w H1 q => ?_⟩
    obtain ⟨u2, μ1, st1, S, R1, r, q⟩ := q
    split at q
    · rename_i z ez
      exact ⟨B, base, μ1, st1, u, u2, z, R1, S.ur R ry, r, ez, fun v rv => q μ1 _ H1 .refl R1 ((S.env R E).set rv)⟩
    · exact q.elim
  · exact h.elim
theorem s_augIx {o k v : Expr} {op : Operator} {a i e : E} {p pos : Pos} (ho : pE X T EX C o a) (hk : pE X T EX C k i) (he : pE X T EX C v e)
    (ha : ∀ ov iv new, augStore k ov iv new = (do holding [new, ov, iv] (setItem ov iv new); release [new, ov, iv] []; pure .next)) : pS X T EX C (.AugAssign (.Subscript o k p) op v pos) (.augIx a i op e) := by
  refine PS.imp (ps_augS ho hk gt_list he aug_ok st_ok ha) fun D σ H h => ?_
  have h : RdS X.K T EX (fun base ρ st => execS C base (.augIx a i op e) ρ st) D σ H := h
  simp only [execS] at h
  refine Rd1.mono (fun ov H1 h => ?_) (MidS.ev (R1 := TU X.K) (run := fun base ρ st => evalE C base a ρ st) (f := fun base ρ _ x st => (evalE C base i ρ st).toS fun k st => match (if isL x then ixU st x k else none) with
    | some old => (evalE C base e ρ st).toS fun y st => match augU op old y with
      | some z => match setU base x k z st with
        | some st => .nx ρ st
        | none => .bad
      | none => .bad
    | none => .bad) stay0 (RdS.mid h))
  refine Rd1.mono (fun iv H2 g => ?_) (MidS.ev (R1 := TU X.K) (run := fun base ρ st => evalE C base i ρ st) (f := fun base ρ x k st => match (if isL x.2 then ixU st x.2 k else none) with
    | some old => (evalE C base e ρ st).toS fun y st => match augU op old y with
      | some z => match setU base x.2 k z st with
        | some st => .nx ρ st
        | none => .bad
      | none => .bad
    | none => .bad) (stayU stay0) h)
  clear h
  obtain ⟨B, base, μ, st, ρ, ⟨⟨_, x⟩, y⟩, R, E, ⟨⟨_, z1⟩, z2⟩, h⟩ := g
  dsimp only at h z1 z2
  cases eo : (if isL x then ixU st x y else none) with
  | none => simp only [eo] at h; exact h.elim
  | some old =>
    simp only [eo] at h
    by_cases hl : isL x = true
    · rw [if_pos hl] at eo
      -- a list at an int
      obtain ⟨n, rfl⟩ : ∃ n, y = .v (.int n) := by
        unfold ixU at eo
        split at eo
        · exact ⟨_, rfl⟩
        · cases eo
      obtain rfl := v_int z2
      obtain ⟨us, e1, e2⟩ : ∃ us, seqOf st x = some us ∧ atI us n = some old := by
        cases x with
        | ref r =>
          simp only [ixU] at eo
          split at eo
          · rename_i xs e1; exact ⟨xs, e1, eo⟩
          · cases eo
        | v w =>
          cases w <;> first | cases hl | skip
          simp only [ixU] at eo
          split at eo
          · rename_i xs e1; exact ⟨xs, e1, eo⟩
          · cases eo
      obtain ⟨b, vs, rfl, rs, hk⟩ := seq_ur R z1 e1
      have hb : H2 b = some (.lst vs) := by
        rcases hk with ⟨_, t, _⟩ | ⟨_, _, hk⟩
        · rw [hl] at t; cases t
        · exact hk
      obtain ⟨z, e3, rz⟩ := atI_pair rs e2
      refine ⟨b, vs, n, z, rfl, rfl, .inl (.inl hb), e3, B, base, μ, st, ρ, R, E, (Post.toS (T := TU X.K) h).mono fun w H3 q => ?_⟩
      obtain ⟨u2, μ1, st1, S, R1, r, q⟩ := q
      split at q
      · rename_i z' ez
        split at q
        · rename_i st' es
          exact ⟨B, base, μ1, st1, old, u2, z', R1, S.ur R rz, r, ez, fun nv rv => ⟨B, base, μ1, st1, st', x, _, z', R1, S.ur R z1, .v (.int n), rv, es, fun H' S' R' => q μ1 σ H' S' R' (S'.env R1 (S.env R E))⟩⟩
        · exact q.elim
      · exact q.elim
    · rw [if_neg hl] at eo
      cases eo
end
end PI

/-! blocks of comprehensions -/
namespace PI
open PySem PySem.Spec PyProof.Rows L2
def MC.blk (M : MC) (scope : Scope) : MC := ⟨M.N, relS scope M.sc, scope⟩
section
variable {X : Cx} {T : Tab} {EX : XK} {d : Nat} {M : MC}
theorem Ctx.blk (c : Ctx T d M X EX) {scope : Scope} (hk : scope.kind = .function) (s : Shared) (H : Hp) (D : Addr) (cl : List (Str × Addr)) (fp : List Addr) : Ctx T d (M.blk scope) (X.blk s H scope (compEnvC scope cl D X.env) fp) noE where
  hN := c.hN
  nd := c.nd
  sc := by
    have e : relS scope M.sc = relS scope X.env.scope := by rw [c.sc]
    exact (show (compEnvC scope cl D X.env).scope = relS scope X.env.scope from rfl).trans e.symm
  fkd := hk
  tgn := fun x h => by
    rcases h with h | h
    · have h' := lookup_relS_keep (sc := M.sc) (k := .local) (by decide) h
      exact ⟨.inl h', .inr h'⟩
    · have h' := lookup_relS_keep (sc := M.sc) (k := .cell) (by decide) h
      refine ⟨.inr h', .inl ?_⟩
      have h : scope.names.lookup x = some .cell := h
      show (scope.names.lookup x == some .cell) = true
      rw [h]
      rfl
  calm := c.calm
  room := c.room
  un := c.un
  pass := fun pins σ H s e s' I h => by
    obtain ⟨a, B, H', cls, d, _, _, _, _, _, _, _, hE⟩ := h
    exact hE.elim
  fns := c.fns
  bt := c.bt
  gc := c.gc
  own := fun e s h => h.elim
  glb := c.glb
abbrev Blk (X : Cx) (scope : Scope) (P : Cx → Prop) : Prop := ∀ (s : Shared) (H : Hp) (D : Addr) (cl : List (Str × Addr)) (fp : List Addr), P (X.blk s H scope (compEnvC scope cl D X.env) fp)
theorem r_comp {C : Call} (c : Ctx T d M X EX) {m : Bool} {scope : Scope} {own : List (Str × Nat)} {elt : E} {tg : Tg} {it : It} {cds : Es} {xe xt xi : Expr} {ifs : List Expr} {pos : Pos} (ok : blkC M.N M.sc scope own = true) (hown : ∀ i ∈ slotsT tg, i ∈ own.map (·.2))
    (hi : pI X T EX C xt xi it) (hg : Blk X scope fun X => PG X xt (tG X.K tg)) (ht : Blk X scope fun X => PTs X ifs (tCd X.K T noE C cds)) (he : Blk X scope fun X => pE X T noE C xe elt) (hs : ∀ y, foldedSetIterable xi X.env y = pure y) :
    pE X T EX C (.ListComp xe [⟨xt, xi, ifs, 0⟩] scope pos) (.comp m (own.map (·.2)) elt tg it cds) :=
  PE.imp (pe_lc c.calm (by rw [c.hN]; exact c.nd) hi (by rw [c.hN, c.sc]; exact blkOk_by ok) hg ht he hs) (comp_read hown)
theorem s_setcomp {C : Call} (c : Ctx T d M X EX) {j : Nat} {y : Str} {py spos : Pos} {m : Bool} {scope : Scope} {own : List (Str × Nat)} {elt : E} {tg : Tg} {it : It} {cds : Es} {xe xt xi : Expr} {ifs : List Expr} {pos : Pos} (hy : X.N[j]? = some y) (hyl : X.env.scope.names.lookup y = some .local)
    (hsw : swapsWith (.ListComp xe [⟨xt, xi, ifs, 0⟩] scope pos) (some (.Name y py)) spos.line X.env = pure true) (ok : blkC M.N M.sc scope own = true) (hown : ∀ i ∈ slotsT tg, i ∈ own.map (·.2))
    (hi : pI X T EX C xt xi it) (hg : Blk X scope fun X => PG X xt (tG X.K tg)) (ht : Blk X scope fun X => PTs X ifs (tCd X.K T noE C cds)) (he : Blk X scope fun X => pE X T noE C xe elt) (hs : ∀ y, foldedSetIterable xi X.env y = pure y) :
    pS X T EX C (.Assign [.Name y py] (.ListComp xe [⟨xt, xi, ifs, 0⟩] scope pos) spos) (.asg (.nm j) (.comp m (own.map (·.2)) elt tg it cds)) := by
  refine PS.imp (ps_setLc (te := tE X.K T noE C elt) (g := tG X.K tg) (tt := tCd X.K T noE C cds) c.calm (by rw [c.hN]; exact c.nd) hy hyl hsw hi (by rw [c.hN, c.sc]; exact blkOk_by ok) hg ht he hs) fun D σ H h => ?_
  refine comp_read (m := m) hown σ H _ ?_
  refine Rd1.mono (fun v H1 h => ?_) (evS (RR := TU X.K) (run := fun base ρ st => evalE C base (.comp m (own.map (·.2)) elt tg it cds) ρ st) (f := fun base ρ u st => match asgT (.nm j) u ρ st with
    | some ρ' => .nx ρ' st
    | none => .bad) h)
  obtain ⟨B, base, μ, st, ρ, u, R, E, r, h⟩ := h
  unfold asgT at h
  split at h
  · rename_i ρ' e1
    split at e1
    · obtain rfl := Option.some.inj e1
      exact PostS.nx0 h R (E.set r)
    · cases e1
  · exact h.elim
theorem r_comp2 {C : Call} (c : Ctx T d M X EX) {m : Bool} {scope : Scope} {own : List (Str × Nat)} {own1 : List Nat} {elt : E} {tg tg1 : Tg} {it it1 : It} {cds cds1 : Es} {xe xt xi xt1 xi1 : Expr} {ifs ifs1 : List Expr} {pos : Pos} (ok : blkC M.N M.sc scope own = true) (hv : ∀ i ∈ own1, i ∈ own.map (·.2)) (hown : ∀ i ∈ slotsT tg, i ∈ own.map (·.2)) (hown1 : ∀ i ∈ slotsT tg1, i ∈ own1)
    (hi : pI X T EX C xt xi it) (hg : Blk X scope fun X => PG X xt (tG X.K tg)) (ht : Blk X scope fun X => PTs X ifs (tCd X.K T noE C cds))
    (hi1 : Blk X scope fun X => pI X T noE C xt1 xi1 it1) (hg1 : Blk X scope fun X => PG X xt1 (tG X.K tg1)) (ht1 : Blk X scope fun X => PTs X ifs1 (tCd X.K T noE C cds1)) (he : Blk X scope fun X => pE X T noE C xe elt)
    (hs : ∀ y, foldedSetIterable xi X.env y = pure y) (hs1 : ∀ env y, foldedSetIterable xi1 env y = pure y) :
    pE X T EX C (.ListComp xe [⟨xt, xi, ifs, 0⟩, ⟨xt1, xi1, ifs1, 0⟩] scope pos) (.comp2 m (own.map (·.2)) own1 elt tg it cds tg1 it1 cds1) :=
  PE.imp (pe_lc2 c.calm (by rw [c.hN]; exact c.nd) hi (by rw [c.hN, c.sc]; exact blkOk_by ok) hv hg ht hi1 hg1 ht1 he hs hs1) (comp2_read hown hown1)
theorem s_setcomp2 {C : Call} (c : Ctx T d M X EX) {j : Nat} {y : Str} {py spos : Pos} {m : Bool} {scope : Scope} {own : List (Str × Nat)} {own1 : List Nat} {elt : E} {tg tg1 : Tg} {it it1 : It} {cds cds1 : Es} {xe xt xi xt1 xi1 : Expr} {ifs ifs1 : List Expr} {pos : Pos} (hy : X.N[j]? = some y) (hyl : X.env.scope.names.lookup y = some .local)
    (hsw : swapsWith (.ListComp xe [⟨xt, xi, ifs, 0⟩, ⟨xt1, xi1, ifs1, 0⟩] scope pos) (some (.Name y py)) spos.line X.env = pure true) (ok : blkC M.N M.sc scope own = true) (hv : ∀ i ∈ own1, i ∈ own.map (·.2)) (hown : ∀ i ∈ slotsT tg, i ∈ own.map (·.2)) (hown1 : ∀ i ∈ slotsT tg1, i ∈ own1)
    (hi : pI X T EX C xt xi it) (hg : Blk X scope fun X => PG X xt (tG X.K tg)) (ht : Blk X scope fun X => PTs X ifs (tCd X.K T noE C cds))
    (hi1 : Blk X scope fun X => pI X T noE C xt1 xi1 it1) (hg1 : Blk X scope fun X => PG X xt1 (tG X.K tg1)) (ht1 : Blk X scope fun X => PTs X ifs1 (tCd X.K T noE C cds1)) (he : Blk X scope fun X => pE X T noE C xe elt)
    (hs : ∀ y, foldedSetIterable xi X.env y = pure y) (hs1 : ∀ env y, foldedSetIterable xi1 env y = pure y) :
    pS X T EX C (.Assign [.Name y py] (.ListComp xe [⟨xt, xi, ifs, 0⟩, ⟨xt1, xi1, ifs1, 0⟩] scope pos) spos) (.asg (.nm j) (.comp2 m (own.map (·.2)) own1 elt tg it cds tg1 it1 cds1)) := by
  refine PS.imp (ps_setLc2 (te := tE X.K T noE C elt) (g := tG X.K tg) (tt := tCd X.K T noE C cds) (wi1 := tI X.K T noE C it1) (g1 := tG X.K tg1) (tt1 := tCd X.K T noE C cds1) c.calm (by rw [c.hN]; exact c.nd) hy hyl hsw hi (by rw [c.hN, c.sc]; exact blkOk_by ok) hv hg ht hi1 hg1 ht1 he hs hs1) fun D σ H h => ?_
  refine comp2_read (m := m) hown hown1 σ H _ ?_
  refine Rd1.mono (fun v H1 h => ?_) (evS (RR := TU X.K) (run := fun base ρ st => evalE C base (.comp2 m (own.map (·.2)) own1 elt tg it cds tg1 it1 cds1) ρ st) (f := fun base ρ u st => match asgT (.nm j) u ρ st with
    | some ρ' => .nx ρ' st
    | none => .bad) h)
  obtain ⟨B, base, μ, st, ρ, u, R, E, r, h⟩ := h
  unfold asgT at h
  split at h
  · rename_i ρ' e1
    split at e1
    · obtain rfl := Option.some.inj e1
      exact PostS.nx0 h R (E.set r)
    · cases e1
  · exact h.elim
end
end PI

/-! the matcher: core forms against the text -/
namespace PI
open PySem PySem.Spec PyProof.Rows L2
def visB (M : MC) (x : Str) : Bool := match M.sc.names.lookup x with
  | some .local => true
  | some .cell => true
  | some .free => true
  | _ => false
def tgB (M : MC) (x : Str) : Bool := match M.raw.names.lookup x with
  | some .local => true
  | some .cell => true
  | _ => false
def glB (M : MC) (x : Str) : Bool := decide (M.sc.names.lookup x = some .globalImplicit)
def nmB (x : Str) : Bool := !(x == "__debug__") && !(x == "__classdict__")
def slotB (M : MC) (i : Nat) (x : Str) : Bool := decide (M.N[i]? = some x)
def conB : W → Const → Bool
  | .none, .none => true
  | .bool a, .bool b => a == b
  | .int a, .int b => decide (a = b)
  | .str a, .str b => decide (a = b)
  | _, _ => false
/-- asked for its truth, it is evaluated -/
def tShape : Expr → Bool
  | .Name _ _ => true
  | .Call _ _ _ _ => true
  | .Subscript _ _ _ => true
  | .Constant _ _ _ => true
  | .BinOp _ _ _ _ => true
  | _ => false
def bShape : Expr → Bool
  | .Name _ _ => true
  | .Subscript _ _ _ => true
  | .Attribute _ _ _ => true
  | _ => false
def ixShape : Expr → Bool
  | .Slice _ _ _ _ => false
  | _ => true
def setShape : Expr → Bool
  | .Set _ _ _ => true
  | _ => false
def biNm : Bi → Option (Bool × Str × String)
  | .len => some (false, "len", "len")
  | .abs => some (false, "abs", "abs")
  | .max2 => some (false, "max", "max")
  | .min2 => some (false, "min", "min")
  | .max1 => some (false, "max", "max")
  | .min1 => some (false, "min", "min")
  | .sum => some (false, "sum", "sum")
  | .all => some (false, "all", "all")
  | .any => some (false, "any", "any")
  | .int => some (true, "int", "int")
  | .str => some (true, "str", "str")
  | .tuple => some (true, "tuple", "tuple")
  | .list _ => some (true, "list", "list")
  | .sorted _ => some (false, "sorted", "sorted")
  | .ord => some (false, "ord", "ord")
  | _ => none
def mtNm : Mt → Option Str
  | .append => some "append"
  | .pop => some "pop"
  | .reverse => some "reverse"
  | .extend => some "extend"
  | _ => none
def kdNm : Kd → Option Str
  | .bool => some "bool"
  | .int => some "int"
  | .str => some "str"
  | .tuple => some "tuple"
  | .list => some "list"
  | _ => none
/-- equal data, no dict -/
theorem beqW_eq : ∀ {a b : W}, beqW a b = true → a = b := by
  have main : ∀ n : Nat, (∀ a b : W, sizeOf a ≤ n → beqW a b = true → a = b) ∧ (∀ a b : List W, sizeOf a ≤ n → beqWs a b = true → a = b) := by
    intro n
    induction n with
    | zero =>
      refine ⟨fun a b h => ?_, fun a b h => ?_⟩
      · cases a <;> simp at h
      · cases a <;> simp at h
    | succ n ih =>
      refine ⟨fun a b hs h => ?_, fun a b hs h => ?_⟩
      · cases a <;> cases b <;> simp only [beqW] at h <;> try (cases h)
        · rfl
        · rw [eq_of_beq h]
        · rw [eq_of_beq h]
        · rw [of_decide_eq_true h]
        · rw [ih.2 _ _ (by simp at hs; omega) h]
        · rw [ih.2 _ _ (by simp at hs; omega) h]
      · cases a <;> cases b <;> simp only [beqWs, Bool.and_eq_true] at h <;> try (cases h)
        · rfl
        · rename_i h1 h2
          rw [ih.1 _ _ (by simp at hs; omega) h1, ih.2 _ _ (by simp at hs; omega) h2]
  exact fun {a b} h => (main (sizeOf a)).1 a b (Nat.le_refl _) h
mutual
def mTg (M : MC) : Tg → Expr → Bool
  | .nm i, x => (match x with
    | .Name y _ => slotB M i y && tgB M y
    | _ => false)
  | .tp ts, x => (match x with
    | .Tuple es _ _ => mTgs M ts es
    | _ => false)
def mTgs (M : MC) : Tgs → List Expr → Bool
  | .nil, es => es.isEmpty
  | .cons t ts, es => (match es with
    | e :: es => mTg M t e && mTgs M ts es
    | [] => false)
end
def ownP (M : MC) (own : List Nat) : List (Str × Nat) := own.map fun i => ((M.N[i]?).getD "", i)
section
variable (T : Tab)
mutual
def mE : E → MC → Bool → Expr → Bool
  | .var i, M, b, x => (match x with
    | .Name y _ => slotB M i y && visB M y && nmB y
    | _ => false)
  | .con w, M, b, x => (match x with
    | .Constant c _ _ => conB w c
    | _ => false)
  | .glb y w, M, b, x => (match x with
    | .Name z _ => decide (y = z) && glB M y && nmB y && T.glb.any fun p => decide (p.1 = y) && beqW p.2 w
    | _ => false)
  | .op o m a c, M, b, x => (match x with
    | .BinOp p o' q _ => decide (o = o') && mE a M false p && mE c M false q
    | _ => false)
  | .neg a, M, b, x => (match x with
    | .UnaryOp .USub p _ => !b && mE a M false p
    | _ => false)
  | .cmp o a c, M, b, x => (match x with
    | .Compare p [o'] [q] _ => decide (o = o') && !setShape q && mE a M false p && mE c M false q
    | _ => false)
  | .chain o o2 a c d, M, b, x => (match x with
    | .Compare p [o', o2'] [q, r] _ => decide (o = o') && decide (o2 = o2') && !setShape r && mE a M false p && mE c M false q && mE d M false r
    | _ => false)
  | .and a c, M, b, x => (match x with
    | .BoolOp .And [p, q] _ => !b && mE a M false p && mE c M false q
    | .BoolOp .And (p :: q :: r :: rest) pos => !b && mE a M false p && mE c M false (.BoolOp .And (q :: r :: rest) pos)
    | _ => false)
  | .or a c, M, b, x => (match x with
    | .BoolOp .Or [p, q] _ => !b && mE a M false p && mE c M false q
    | .BoolOp .Or (p :: q :: r :: rest) pos => !b && mE a M false p && mE c M false (.BoolOp .Or (q :: r :: rest) pos)
    | _ => false)
  | .not a, M, b, x => (match x with
    | .UnaryOp .Not p _ => !b && mE a M false p
    | _ => false)
  | .andT a c, M, b, x => (match x with
    | .BoolOp .And [p, q] _ => b && mE a M true p && mE c M true q
    | .BoolOp .And (p :: q :: r :: rest) pos => b && mE a M true p && mE c M true (.BoolOp .And (q :: r :: rest) pos)
    | _ => false)
  | .orT a c, M, b, x => (match x with
    | .BoolOp .Or [p, q] _ => b && mE a M true p && mE c M true q
    | .BoolOp .Or (p :: q :: r :: rest) pos => b && mE a M true p && mE c M true (.BoolOp .Or (q :: r :: rest) pos)
    | _ => false)
  | .notT a, M, b, x => (match x with
    | .UnaryOp .Not p _ => b && mE a M true p
    | _ => false)
  | .ite c a d, M, b, x => (match x with
    | .IfExp t p q _ => !b && mE c M true t && mE a M false p && mE d M false q
    | _ => false)
  | .call p f es, M, b, x => (match x with
    | .Call (.Name y _) args [] _ => decide (T.nm[f]? = some y) && (T.fns[f]?).isSome && glB M y && nmB y && mEs es M args
    | _ => false)
  | .bi k es, M, b, x => (match k, x with
    | .isa k, .Call (.Name y _) [a, .Name ty _] [] _ => decide (y = "isinstance") && glB M y && decide (kdNm k = some ty) && glB M ty && mEs es M [a]
    | .isSeq, .Call (.Name y _) [a, .Tuple [.Name t1 _, .Name t2 _] _ _] [] _ => decide (y = "isinstance") && glB M y && decide (t1 = "list") && decide (t2 = "tuple") && glB M t1 && glB M t2 && mEs es M [a]
    | .gcd, .Call (.Name y _) args [] _ => decide (y = "gcd") && T.gcd && glB M y && !args.isEmpty && mEs es M args
    | k, .Call (.Name y _) args [] _ => (match biNm k with
      | some (_, z, _) => decide (y = z) && glB M y && !args.isEmpty && mEs es M args
      | none => false)
    | _, _ => false)
  | .mth k o es, M, b, x => (match x with
    | .Call (.Attribute p a apos) args [] cpos => decide (mtNm k = some a) && bShape p && (apos.endLine == cpos.line) && decide (args.length < 30) && mE o M false p && mEs es M args
    | _ => false)
  | .ix a i, M, b, x => (match x with
    | .Subscript p q _ => ixShape q && mE a M false p && mE i M false q
    | _ => false)
  | .sl m a lo hi, M, b, x => (match x with
    | .Subscript p (.Slice l h none _) _ => mE a M false p && mO lo M l && mO hi M h
    | _ => false)
  | .tup es, M, b, x => (match x with
    | .Tuple xs _ _ => !b && mEs es M xs
    | _ => false)
  | .lst m es, M, b, x => (match x with
    | .List xs _ => !b && mEs es M xs
    | _ => false)
  | .comp m own elt tg it cds, M, b, x => (match x with
    | .ListComp xe [⟨xt, xi, ifs, 0⟩] scope _ => !b && decide (scope.kind = .function) && blkC M.N M.sc scope (ownP M own) && ((slotsT tg).all fun i => own.contains i) && mI it M xt xi && mTg (M.blk scope) tg xt && mC cds (M.blk scope) ifs && mE elt (M.blk scope) false xe
    | _ => false)
  | .comp2 m own own1 elt tg it cds tg1 it1 cds1, M, b, x => (match x with
    | .ListComp xe [⟨xt, xi, ifs, 0⟩, ⟨xt1, xi1, ifs1, 0⟩] scope _ => !b && decide (scope.kind = .function) && blkC M.N M.sc scope (ownP M own) && (own1.all fun i => own.contains i) && ((slotsT tg).all fun i => own.contains i) && ((slotsT tg1).all fun i => own1.contains i) && mI it M xt xi &&
        mTg (M.blk scope) tg xt && mC cds (M.blk scope) ifs && mI it1 (M.blk scope) xt1 xi1 && mTg (M.blk scope) tg1 xt1 && mC cds1 (M.blk scope) ifs1 && mE elt (M.blk scope) false xe
    | _ => false)
def mEs : Es → MC → List Expr → Bool
  | .nil, M, xs => xs.isEmpty
  | .cons e es, M, xs => (match xs with
    | x :: xs => mE e M false x && mEs es M xs
    | [] => false)
/-- a bound of a slice -/
def mO : Es → MC → Option Expr → Bool
  | .nil, M, x => x.isNone
  | .cons e es, M, x => (match es, x with
    | .nil, some x => mE e M false x
    | _, _ => false)
/-- the conditions of a comprehension -/
def mC : Es → MC → List Expr → Bool
  | .nil, M, xs => xs.isEmpty
  | .cons e es, M, xs => (match es, xs with
    | .nil, [x] => mE e M true x
    | _, _ => false)
def mI : It → MC → Expr → Expr → Bool
  | .seq e, M, t, x => !setShape x && mE e M false x
  | .range es, M, t, x => (match x with
    | .Call (.Name y _) args [] _ => decide (y = "range") && glB M y && mEs es M args && decide (1 ≤ args.length) && decide (args.length ≤ 3)
    | _ => false)
  | .enum e, M, t, x => (match t, x with
    | .Tuple _ _ _, .Call (.Name y _) [a] [] _ => decide (y = "enumerate") && glB M y && mE e M false a
    | _, _ => false)
  | .zip e e2, M, t, x => (match t, x with
    | .Tuple _ _ _, .Call (.Name y _) [a, c] [] _ => decide (y = "zip") && glB M y && mE e M false a && mE e2 M false c
    | _, _ => false)
  | .rev e, M, t, x => (match x with
    | .Call (.Name y _) [a] [] _ => decide (y = "reversed") && glB M y && mE e M false a
    | _ => false)
end
end
end PI

/-! the matcher is sound -/
namespace PI
open PySem PySem.Spec PyProof.Rows L2
section
variable {T : Tab} {d : Nat} {M : MC} {X : Cx} {EX : XK}
theorem vis_ok (c : Ctx T d M X EX) {y : Str} (h : visB M y = true) : Vis X.env.scope y := by
  unfold visB at h
  rw [c.sc]
  split at h
  · exact .inl (by assumption)
  · exact .inr (.inl (by assumption))
  · exact .inr (.inr (by assumption))
  · cases h
theorem tg_ok (c : Ctx T d M X EX) {y : Str} (h : tgB M y = true) : Loc X.env.scope y ∧ (X.fn y = true ∨ X.env.scope.names.lookup y = some .local) := by
  unfold tgB at h
  rw [c.sc]
  split at h
  · exact c.tgn y (.inl (by assumption))
  · exact c.tgn y (.inr (by assumption))
  · cases h
theorem gl_ok (c : Ctx T d M X EX) {y : Str} (h : glB M y = true) : Gl X y := by
  unfold glB at h
  show X.env.scope.names.lookup y = _
  rw [c.sc]
  exact of_decide_eq_true h
theorem nm_ok {y : Str} (h : nmB y = true) : (y == ("__debug__" : Str)) = false ∧ (y == ("__classdict__" : Str)) = false := by
  unfold nmB at h
  rw [Bool.and_eq_true, Bool.not_eq_true', Bool.not_eq_true'] at h
  exact h
theorem slot_ok (c : Ctx T d M X EX) {i : Nat} {y : Str} (h : slotB M i y = true) : X.N[i]? = some y := by
  unfold slotB at h
  rw [c.hN]
  exact of_decide_eq_true h
theorem tShape_ok {x : Expr} {env : PySem.Env} (h : tShape x = true) : ∀ whole, isTrue x env whole = (do let v ← whole; standAt x.pos; holding [v] (truthy v)) := by
  intro w
  cases x <;> first | (cases h; done) | rfl
theorem bShape_ok {x : Expr} {env : PySem.Env} {a : Str} (h : bShape x = true) : attributeBase x a env (eval x env) = eval x env := by
  cases x <;> first | (cases h; done) | rfl
theorem ix_ok' {x : Expr} (h : ixShape x = true) : PlainIx x := by
  intro o i
  cases x <;> first | (cases h; done) | rfl
theorem set_ok {x : Expr} {env : PySem.Env} (h : setShape x = false) : ∀ y, foldedSetIterable x env y = pure y := by
  intro y
  cases x <;> first | (cases h; done) | rfl
theorem marks_ok {x : Expr} {o : CmpOp} (h : setShape x = false) : behindInMarks o x = false := by
  cases x <;> first | (cases h; done) | rfl
mutual
theorem sTg : ∀ (t : Tg) {M : MC} {X : Cx} {EX : XK} {x : Expr}, Ctx T d M X EX → mTg M t x = true → PG X x (tG X.K t) ∧ PlainT X x
  | .nm i, M, X, EX, x, c, h => by
    simp only [mTg] at h
    split at h
    · rw [Bool.and_eq_true] at h
      obtain ⟨h1, h2⟩ := tg_ok c h.2
      exact ⟨g_nm (by rw [c.hN]; exact c.nd) (slot_ok c h.1) h1 h2, fun _ => rfl⟩
    · cases h
  | .tp ts, M, X, EX, x, c, h => by
    simp only [mTg] at h
    split at h
    · obtain ⟨h1, h2, h3⟩ := sTgs ts c h
      exact ⟨g_tp c.calm h1 h2 h3, fun _ => rfl⟩
    · cases h
theorem sTgs : ∀ (ts : Tgs) {M : MC} {X : Cx} {EX : XK} {xs : List Expr}, Ctx T d M X EX → mTgs M ts xs = true → PGs X xs (tGs X.K ts) ∧ (∀ e ∈ xs, PlainT X e) ∧ ∀ us ρ st ρ', asgTs ts us ρ st = some ρ' → us.length = xs.length
  | .nil, M, X, EX, xs, c, h => by
    cases xs with
    | nil =>
      refine ⟨gs_nil, fun e he => (nomatch he), fun us ρ st ρ' e => ?_⟩
      cases us with
      | nil => rfl
      | cons => simp [asgTs] at e
    | cons => simp [mTgs] at h
  | .cons t ts, M, X, EX, xs, c, h => by
    cases xs with
    | nil => simp [mTgs] at h
    | cons x xs =>
      simp only [mTgs, Bool.and_eq_true] at h
      obtain ⟨h1, h2⟩ := sTg t c h.1
      obtain ⟨h3, h4, h5⟩ := sTgs ts c h.2
      refine ⟨gs_cons h1 h3 h2, fun e he => ?_, fun us ρ st ρ' e => ?_⟩
      · rcases List.mem_cons.mp he with rfl | he
        · exact h2
        · exact h4 e he
      · cases us with
        | nil => simp [asgTs] at e
        | cons u us =>
          simp only [asgTs] at e
          split at e
          · rw [List.length_cons, List.length_cons, h5 _ _ _ _ e]
          · cases e
end
/-- what a match gives -/
def Ok (T : Tab) (d : Nat) (X : Cx) (EX : XK) (b : Bool) (x : Expr) (e : E) : Prop := (b = false → pE X T EX (callD T.fns d) x e) ∧ (b = true → pT X T EX (callD T.fns d) x e) ∧ Plain X.env x
theorem Ok.val {x : Expr} {e : E} {b : Bool} (h : pE X T EX (callD T.fns d) x e) (hs : tShape x = true) (hp : Plain X.env x) : Ok T d X EX b x e := ⟨fun _ => h, fun _ => t_val h (tShape_ok hs), hp⟩
theorem bool_pw {op : BoolOp} {vs : List Expr} {pos : Pos} {t : TT} (h : PT X (.BoolOp op vs pos) t) : PW X (.BoolOp op vs pos) t := ⟨fun wh pins s σ H Q I q => by
  have := h.run pins s σ H Q I q
  rw [PySem.isTrue] at this ⊢
  exact this⟩
theorem kd_ok {k : Kd} {ty : Str} (h : kdNm k = some ty) : k ≠ .bad ∧ k ≠ .none ∧ ty ∈ bltNames ∧ bootBuiltins ty = some (.type k.ty) ∧ ty ≠ "__name__" ∧ (ty == ("__debug__" : Str)) = false := by
  cases k <;> simp only [kdNm, Option.some.injEq, reduceCtorEq] at h <;> subst h <;> exact ⟨by decide, by decide, by decide, by decide +kernel, by decide, by decide⟩
theorem mt_ok {m : Mt} {a : Str} (h : mtNm m = some a) : ∃ id : String, Slot "list" a id ∧ typeOf (.builtin id) = pure (.type "method_descriptor") ∧ MtR X id (rUm X.K T.xv EX fun base => mtR base m) := by
  cases m <;> simp only [mtNm, Option.some.injEq, reduceCtorEq] at h <;> subst h
  · exact ⟨_, PySem.F.slot_list_append, PySem.F.type_list_append, append_ok⟩
  · exact ⟨_, PySem.F.slot_list_pop, PySem.F.type_list_pop, pop_ok⟩
  · exact ⟨_, PySem.F.slot_list_reverse, PySem.F.type_list_reverse, reverse_ok⟩
  · exact ⟨_, PySem.F.slot_list_extend, PySem.F.type_list_extend, extend_ok⟩
theorem bi_ok (c : Ctx T d M X EX) {b : Bi} {es : Es} {ty : Bool} {z : Str} {id : String} (h : biNm b = some (ty, z, id)) (hg : Gl X z) {y : Expr} {xs : List Expr} {p pos : Pos} (hp : ∀ e ∈ y :: xs, Plain X.env e) (ha : pA X T EX (callD T.fns d) (y :: xs) es) :
    pE X T EX (callD T.fns d) (.Call (.Name z p) (y :: xs) [] pos) (.bi b es) := by
  cases b <;> simp only [biNm, Option.some.injEq, Prod.mk.injEq, reduceCtorEq] at h <;> obtain ⟨rfl, rfl, rfl⟩ := h
  case len => exact r_callB len_ok hg (c.bt _ (by decide)) (by decide +kernel) (by decide) (by decide) hp ha
  case abs => exact r_callB abs_ok hg (c.bt _ (by decide)) (by decide +kernel) (by decide) (by decide) hp ha
  case max2 => exact r_callB (max2_ok c.calm) hg (c.bt _ (by decide)) (by decide +kernel) (by decide) (by decide) hp ha
  case min2 => exact r_callB (min2_ok c.calm) hg (c.bt _ (by decide)) (by decide +kernel) (by decide) (by decide) hp ha
  case max1 => exact r_callB (max1_ok c.calm) hg (c.bt _ (by decide)) (by decide +kernel) (by decide) (by decide) hp ha
  case min1 => exact r_callB (min1_ok c.calm) hg (c.bt _ (by decide)) (by decide +kernel) (by decide) (by decide) hp ha
  case sum => exact r_callB (sum_ok c.calm) hg (c.bt _ (by decide)) (by decide +kernel) (by decide) (by decide) hp ha
  case all => exact r_callB (all_ok c.calm) hg (c.bt _ (by decide)) (by decide +kernel) (by decide) (by decide) hp ha
  case any => exact r_callB (any_ok c.calm) hg (c.bt _ (by decide)) (by decide +kernel) (by decide) (by decide) hp ha
  case int => exact r_callTy int_ok hg (c.bt _ (by decide)) (by decide +kernel) (by decide) (by decide) hp ha
  case str => exact r_callTy str_ok hg (c.bt _ (by decide)) (by decide +kernel) (by decide) (by decide) hp ha
  case tuple => exact r_callTy tuple_ok hg (c.bt _ (by decide)) (by decide +kernel) (by decide) (by decide) hp ha
  case list => exact r_callTy list_ok hg (c.bt _ (by decide)) (by decide +kernel) (by decide) (by decide) hp ha
  case sorted => exact r_callB sorted_ok hg (c.bt _ (by decide)) (by decide +kernel) (by decide) (by decide) hp ha
  case ord => exact r_callB ord_ok hg (c.bt _ (by decide)) (by decide +kernel) (by decide) (by decide) hp ha
theorem plain_all {xs : List Expr} (h : ∀ e ∈ xs, Plain X.env e) {pos : Pos} : ((backTo pos (starEach xs X.env)).all fun x => !x.1) = true := by
  have h2 := plain_any (pos := pos) h
  rw [List.all_eq_not_any_not]
  simp only [Bool.not_not]
  rw [h2]
  rfl
theorem ownP_snd {M : MC} {own : List Nat} : (ownP M own).map (·.2) = own := by
  unfold ownP
  rw [List.map_map]
  exact List.map_id own
theorem all_mem {l own : List Nat} (h : (l.all fun i => own.contains i) = true) : ∀ i ∈ l, i ∈ own := fun i hi => by
  have := List.all_eq_true.mp h i hi
  exact List.contains_iff_mem.mp this
end
end PI

/-! the matcher is sound: expressions -/
namespace PI
open PySem PySem.Spec PyProof.Rows L2
section
variable {T : Tab} {d : Nat}
theorem sI1 : ∀ (it : It) {M : MC} {t x : Expr}, mI T it M t x = true → ∀ (env : PySem.Env) (y : Value), foldedSetIterable x env y = pure y
  | .seq e, M, t, x, h => by
    simp only [mI, Bool.and_eq_true, Bool.not_eq_true'] at h
    exact fun env => set_ok h.1
  | .range es, M, t, x, h => by
    simp only [mI] at h
    split at h
    · exact fun _ _ => rfl
    · cases h
  | .enum e, M, t, x, h => by
    simp only [mI] at h
    split at h
    · exact fun _ _ => rfl
    · cases h
  | .zip e e2, M, t, x, h => by
    simp only [mI] at h
    split at h
    · exact fun _ _ => rfl
    · cases h
  | .rev e, M, t, x, h => by
    simp only [mI] at h
    split at h
    · exact fun _ _ => rfl
    · cases h
mutual
theorem sE : ∀ (e : E) {M : MC} {X : Cx} {EX : XK} {b : Bool} {x : Expr}, Ctx T d M X EX → mE T e M b x = true → Ok T d X EX b x e
  | .var i, M, X, EX, b, x, c, h => by
    simp only [mE] at h
    split at h
    · simp only [Bool.and_eq_true] at h
      obtain ⟨⟨h1, h2⟩, h3⟩ := h
      exact Ok.val (r_var (slot_ok c h1) (vis_ok c h2) (nm_ok h3).1 (nm_ok h3).2) rfl fun _ => rfl
    · cases h
  | .con w, M, X, EX, b, x, c, h => by
    simp only [mE] at h
    split at h
    · rename_i k _ _
      refine Ok.val ?_ rfl fun _ => rfl
      cases w <;> cases k <;> simp only [conB] at h <;> try (cases h)
      · exact r_none
      · rw [eq_of_beq h]; exact r_bool
      · rw [of_decide_eq_true h]; exact r_int
      · rw [of_decide_eq_true h]; exact r_str
    · cases h
  | .glb y w, M, X, EX, b, x, c, h => by
    simp only [mE] at h
    split at h
    · simp only [Bool.and_eq_true] at h
      obtain ⟨⟨⟨h1, h2⟩, h3⟩, h4⟩ := h
      obtain ⟨p, hp, h5⟩ := List.any_eq_true.mp h4
      rw [Bool.and_eq_true] at h5
      have e1 := of_decide_eq_true h5.1
      have e2 := beqW_eq h5.2
      obtain ⟨u, v, k1, k2, k3⟩ := c.glb y w (by rw [← e1, ← e2]; exact hp)
      rw [← of_decide_eq_true h1]
      exact Ok.val (r_glb (gl_ok c h2) k1 k2 (nm_ok h3).1 k3) rfl fun _ => rfl
    · cases h
  | .op o m a e2, M, X, EX, b, x, c, h => by
    simp only [mE] at h
    split at h
    · simp only [Bool.and_eq_true] at h
      obtain ⟨⟨h1, h2⟩, h3⟩ := h
      rw [← of_decide_eq_true h1]
      exact Ok.val (r_op ((sE a c h2).1 rfl) ((sE e2 c h3).1 rfl)) rfl fun _ => rfl
    · cases h
  | .neg a, M, X, EX, b, x, c, h => by
    simp only [mE] at h
    split at h
    · simp only [Bool.and_eq_true, Bool.not_eq_true'] at h
      exact ⟨fun _ => r_neg ((sE a c h.2).1 rfl), fun z => (nomatch h.1.symm.trans z), fun _ => rfl⟩
    · cases h
  | .cmp o a e2, M, X, EX, b, x, c, h => by
    simp only [mE] at h
    split at h
    · simp only [Bool.and_eq_true, Bool.not_eq_true'] at h
      obtain ⟨⟨⟨h1, h2⟩, h3⟩, h4⟩ := h
      rw [← of_decide_eq_true h1]
      have ha := (sE a c h3).1 rfl
      have hb := (sE e2 c h4).1 rfl
      exact ⟨fun _ => r_cmp c.room c.un ha hb (marks_ok h2), fun _ => t_cmp c.room c.un ha hb (marks_ok h2), fun _ => rfl⟩
    · cases h
  | .chain o o2 a e2 e3, M, X, EX, b, x, c, h => by
    simp only [mE] at h
    split at h
    · simp only [Bool.and_eq_true, Bool.not_eq_true'] at h
      obtain ⟨⟨⟨⟨⟨h1, h1'⟩, h2⟩, h3⟩, h4⟩, h5⟩ := h
      rw [← of_decide_eq_true h1, ← of_decide_eq_true h1']
      have ha := (sE a c h3).1 rfl
      have hb := (sE e2 c h4).1 rfl
      have hc := (sE e3 c h5).1 rfl
      exact ⟨fun _ => r_chain c.room c.un ha hb hc (marks_ok h2), fun _ => t_chain c.room c.un ha hb hc (marks_ok h2), fun _ => rfl⟩
    · cases h
  | .and a e2, M, X, EX, b, x, c, h => by
    simp only [mE] at h
    split at h
    · simp only [Bool.and_eq_true, Bool.not_eq_true'] at h
      exact ⟨fun _ => r_and ((sE a c h.1.2).1 rfl) (pe_one ((sE e2 c h.2).1 rfl)), fun z => (nomatch h.1.1.symm.trans z), fun _ => rfl⟩
    · simp only [Bool.and_eq_true, Bool.not_eq_true'] at h
      exact ⟨fun _ => r_and ((sE a c h.1.2).1 rfl) ((sE e2 c h.2).1 rfl), fun z => (nomatch h.1.1.symm.trans z), fun _ => rfl⟩
    · cases h
  | .or a e2, M, X, EX, b, x, c, h => by
    simp only [mE] at h
    split at h
    · simp only [Bool.and_eq_true, Bool.not_eq_true'] at h
      exact ⟨fun _ => r_or ((sE a c h.1.2).1 rfl) (pe_one ((sE e2 c h.2).1 rfl)), fun z => (nomatch h.1.1.symm.trans z), fun _ => rfl⟩
    · simp only [Bool.and_eq_true, Bool.not_eq_true'] at h
      exact ⟨fun _ => r_or ((sE a c h.1.2).1 rfl) ((sE e2 c h.2).1 rfl), fun z => (nomatch h.1.1.symm.trans z), fun _ => rfl⟩
    · cases h
  | .not a, M, X, EX, b, x, c, h => by
    simp only [mE] at h
    split at h
    · simp only [Bool.and_eq_true, Bool.not_eq_true'] at h
      exact ⟨fun _ => r_not ((sE a c h.2).1 rfl), fun z => (nomatch h.1.symm.trans z), fun _ => rfl⟩
    · cases h
  | .andT a e2, M, X, EX, b, x, c, h => by
    simp only [mE] at h
    split at h
    · simp only [Bool.and_eq_true] at h
      exact ⟨fun z => (nomatch h.1.1.symm.trans z), fun _ => (t_andT ((sE a c h.1.2).2.1 rfl) (pw_and1 ((sE e2 c h.2).2.1 rfl))).pt, fun _ => rfl⟩
    · simp only [Bool.and_eq_true] at h
      exact ⟨fun z => (nomatch h.1.1.symm.trans z), fun _ => (t_andT ((sE a c h.1.2).2.1 rfl) (bool_pw ((sE e2 c h.2).2.1 rfl))).pt, fun _ => rfl⟩
    · cases h
  | .orT a e2, M, X, EX, b, x, c, h => by
    simp only [mE] at h
    split at h
    · simp only [Bool.and_eq_true] at h
      exact ⟨fun z => (nomatch h.1.1.symm.trans z), fun _ => (t_orT ((sE a c h.1.2).2.1 rfl) (pw_or1 ((sE e2 c h.2).2.1 rfl))).pt, fun _ => rfl⟩
    · simp only [Bool.and_eq_true] at h
      exact ⟨fun z => (nomatch h.1.1.symm.trans z), fun _ => (t_orT ((sE a c h.1.2).2.1 rfl) (bool_pw ((sE e2 c h.2).2.1 rfl))).pt, fun _ => rfl⟩
    · cases h
  | .notT a, M, X, EX, b, x, c, h => by
    simp only [mE] at h
    split at h
    · simp only [Bool.and_eq_true] at h
      exact ⟨fun z => (nomatch h.1.symm.trans z), fun _ => t_notT ((sE a c h.2).2.1 rfl), fun _ => rfl⟩
    · cases h
  | .ite e1 e2 e3, M, X, EX, b, x, c, h => by
    simp only [mE] at h
    split at h
    · simp only [Bool.and_eq_true, Bool.not_eq_true'] at h
      obtain ⟨⟨⟨h1, h2⟩, h3⟩, h4⟩ := h
      exact ⟨fun _ => r_ite ((sE e1 c h2).2.1 rfl) ((sE e2 c h3).1 rfl) ((sE e3 c h4).1 rfl), fun z => (nomatch h1.symm.trans z), fun _ => rfl⟩
    · cases h
  | .call p f es, M, X, EX, b, x, c, h => by
    simp only [mE] at h
    split at h
    · rename_i y _ args _
      simp only [Bool.and_eq_true] at h
      obtain ⟨⟨⟨⟨h1, h2⟩, h3⟩, h4⟩, h5⟩ := h
      obtain ⟨F, hF⟩ := Option.isSome_iff_exists.mp h2
      have hx := of_decide_eq_true h1
      obtain ⟨ha, hp, hl, _⟩ := sEs es c h5
      refine Ok.val ?_ rfl fun _ => rfl
      cases args with
      | nil =>
        cases es with
        | nil => exact r_call0 c hF hx (gl_ok c h3) (nm_ok h4).1
        | cons e es => simp [Es.len] at hl
      | cons z zs => exact r_call c hF hx (gl_ok c h3) (nm_ok h4).1 hp ha
    · cases h
  | .bi k es, M, X, EX, b, x, c, h => by
    simp only [mE] at h
    split at h
    · rename_i k y _ a ty _ _
      simp only [Bool.and_eq_true] at h
      obtain ⟨⟨⟨⟨h1, h2⟩, h3⟩, h4⟩, h5⟩ := h
      have e1 := of_decide_eq_true h1
      subst e1
      obtain ⟨k1, k2, k3, k4, k5, k6⟩ := kd_ok (of_decide_eq_true h3)
      obtain ⟨_, hp, _, hh⟩ := sEs es c h5
      obtain ⟨e, rfl, h0⟩ := hh a rfl
      exact Ok.val (r_isa k1 k2 (gl_ok c h2) (c.bt _ (by decide)) (gl_ok c h4) (c.bt _ k3) k4 k5 k6 (hp a (by simp)) h0) rfl fun _ => rfl
    · rename_i y _ a t1 _ t2 _ _ _ _
      simp only [Bool.and_eq_true] at h
      obtain ⟨⟨⟨⟨⟨⟨h1, h2⟩, h3⟩, h4⟩, h5⟩, h6⟩, h7⟩ := h
      have e1 := of_decide_eq_true h1
      have e2 := of_decide_eq_true h3
      have e3 := of_decide_eq_true h4
      subst e1 e2 e3
      obtain ⟨_, hp, _, hh⟩ := sEs es c h7
      obtain ⟨e, rfl, h0⟩ := hh a rfl
      exact Ok.val (r_isSeq (gl_ok c h2) (c.bt _ (by decide)) (gl_ok c h5) (c.bt _ (by decide)) (gl_ok c h6) (c.bt _ (by decide)) (hp a (by simp)) h0) rfl fun _ => rfl
    · rename_i y _ args _
      simp only [Bool.and_eq_true] at h
      obtain ⟨⟨⟨⟨h1, h2⟩, h3⟩, h4⟩, h5⟩ := h
      have e1 := of_decide_eq_true h1
      subst e1
      obtain ⟨ha, hp, hl, _⟩ := sEs es c h5
      cases args with
      | nil => cases h4
      | cons z zs => exact Ok.val (r_gcd (gl_ok c h3) (c.gc h2) (by decide) hp ha) rfl fun _ => rfl
    · rename_i y _ args _ _ _ _
      split at h
      · rename_i ty z id hb
        simp only [Bool.and_eq_true] at h
        obtain ⟨⟨⟨h1, h3⟩, h4⟩, h5⟩ := h
        have e1 := of_decide_eq_true h1
        subst e1
        obtain ⟨ha, hp, hl, _⟩ := sEs es c h5
        cases args with
        | nil => cases h4
        | cons z zs => exact Ok.val (bi_ok c hb (gl_ok c h3) hp ha) rfl fun _ => rfl
      · cases h
    · cases h
  | .mth k o es, M, X, EX, b, x, c, h => by
    simp only [mE] at h
    split at h
    · rename_i p a apos args cpos
      simp only [Bool.and_eq_true] at h
      obtain ⟨⟨⟨⟨⟨h1, h2⟩, h3⟩, h4⟩, h5⟩, h6⟩ := h
      obtain ⟨id, k1, k2, k3⟩ := mt_ok (X := X) (T := T) (EX := EX) (of_decide_eq_true h1)
      have ho := (sE o c h5).1 rfl
      obtain ⟨ha, hp, hl, _⟩ := sEs es c h6
      refine Ok.val (r_mth (x := p) (t := fun _ _ _ => True) fun _ => ?_) rfl fun _ => rfl
      cases args with
      | nil =>
        cases es with
        | nil =>
          refine PE.imp (pe_bm0 PySem.F.plainAttrs_list k1 k2 k3 ho (bShape_ok h2) h3) fun σ H Q q => ?_
          refine Rd1.mono (fun v H1 q => ⟨q.1, ?_⟩) q
          obtain ⟨B, base, μ, st, ρ, R, E, w⟩ := q.2
          exact w μ [] H1 .refl R .nil
        | cons e es => simp [Es.len] at hl
      | cons z zs =>
        refine pe_bm PySem.F.plainAttrs_list k1 k2 k3 ho ha (bShape_ok h2) ?_ h3 (hp z List.mem_cons_self zs) (plain_any fun e he => hp e (List.mem_cons_of_mem _ he))
        rw [plain_all hp]
        have h4' := of_decide_eq_true h4
        simp only [Bool.true_and, Bool.and_eq_true]
        exact ⟨rfl, decide_eq_true (by simpa using h4')⟩
    · cases h
  | .ix a i, M, X, EX, b, x, c, h => by
    simp only [mE] at h
    split at h
    · simp only [Bool.and_eq_true] at h
      exact Ok.val (r_ix ((sE a c h.1.2).1 rfl) ((sE i c h.2).1 rfl) (ix_ok' h.1.1)) rfl fun _ => rfl
    · cases h
  | .sl m a lo hi, M, X, EX, b, x, c, h => by
    simp only [mE] at h
    split at h
    · simp only [Bool.and_eq_true] at h
      exact Ok.val (r_sl ((sE a c h.1.1).1 rfl) (sO lo c h.1.2) (sO hi c h.2)) rfl fun _ => rfl
    · cases h
  | .tup es, M, X, EX, b, x, c, h => by
    simp only [mE] at h
    split at h
    · simp only [Bool.and_eq_true, Bool.not_eq_true'] at h
      exact ⟨fun _ => r_tup (sEs es c h.2).1, fun z => (nomatch h.1.symm.trans z), fun _ => rfl⟩
    · cases h
  | .lst m es, M, X, EX, b, x, c, h => by
    simp only [mE] at h
    split at h
    · simp only [Bool.and_eq_true, Bool.not_eq_true'] at h
      exact ⟨fun _ => r_lst (sEs es c h.2).1, fun z => (nomatch h.1.symm.trans z), fun _ => rfl⟩
    · cases h
  | .comp m own elt tg it cds, M, X, EX, b, x, c, h => by
    simp only [mE] at h
    split at h
    · rename_i xe xt xi ifs scope ps
      simp only [Bool.and_eq_true, Bool.not_eq_true'] at h
      obtain ⟨⟨⟨⟨⟨⟨⟨h1, h2⟩, h3⟩, h4⟩, h5⟩, h6⟩, h7⟩, h8⟩ := h
      have hk := of_decide_eq_true h2
      have bl := fun s H D cl fp => c.blk hk s H D cl fp
      have hi := sI it c h5
      have := r_comp c (pos := ps) (m := m) (own := ownP M own) (elt := elt) (tg := tg) (it := it) (cds := cds) h3 (by rw [ownP_snd]; exact all_mem h4) hi.1 (fun s H D cl fp => (sTg tg (bl s H D cl fp) h6).1) (fun s H D cl fp => sC cds (bl s H D cl fp) h7) (fun s H D cl fp => (sE elt (bl s H D cl fp) h8).1 rfl) (hi.2 _)
      rw [ownP_snd] at this
      exact ⟨fun _ => this, fun z => (nomatch h1.symm.trans z), fun _ => rfl⟩
    · cases h
  | .comp2 m own own1 elt tg it cds tg1 it1 cds1, M, X, EX, b, x, c, h => by
    simp only [mE] at h
    split at h
    · rename_i xe xt xi ifs xt1 xi1 ifs1 scope ps
      simp only [Bool.and_eq_true, Bool.not_eq_true'] at h
      obtain ⟨⟨⟨⟨⟨⟨⟨⟨⟨⟨⟨⟨h1, h2⟩, h3⟩, h4⟩, h5⟩, h6⟩, h7⟩, h8⟩, h9⟩, h10⟩, h11⟩, h12⟩, h13⟩ := h
      have hk := of_decide_eq_true h2
      have bl := fun s H D cl fp => c.blk hk s H D cl fp
      have hi := sI it c h7
      have := r_comp2 c (pos := ps) (m := m) (own := ownP M own) (own1 := own1) (elt := elt) (tg := tg) (tg1 := tg1) (it := it) (it1 := it1) (cds := cds) (cds1 := cds1) h3 (by rw [ownP_snd]; exact all_mem h4) (by rw [ownP_snd]; exact all_mem h5) (all_mem h6) hi.1 (fun s H D cl fp => (sTg tg (bl s H D cl fp) h8).1) (fun s H D cl fp => sC cds (bl s H D cl fp) h9)
        (fun s H D cl fp => (sI it1 (bl s H D cl fp) h10).1) (fun s H D cl fp => (sTg tg1 (bl s H D cl fp) h11).1) (fun s H D cl fp => sC cds1 (bl s H D cl fp) h12) (fun s H D cl fp => (sE elt (bl s H D cl fp) h13).1 rfl) (hi.2 _) (fun env => sI1 it1 h10 env)
      rw [ownP_snd] at this
      exact ⟨fun _ => this, fun z => (nomatch h1.symm.trans z), fun _ => rfl⟩
    · cases h
theorem sEs : ∀ (es : Es) {M : MC} {X : Cx} {EX : XK} {xs : List Expr}, Ctx T d M X EX → mEs T es M xs = true → pA X T EX (callD T.fns d) xs es ∧ (∀ e ∈ xs, Plain X.env e) ∧ es.len = xs.length ∧ ∀ a, xs = [a] → ∃ e', es = .cons e' .nil ∧ pE X T EX (callD T.fns d) a e'
  | .nil, M, X, EX, xs, c, h => by
    cases xs with
    | nil => exact ⟨a_nil, fun e he => (nomatch he), rfl, fun a e => (nomatch e)⟩
    | cons => simp [mEs] at h
  | .cons e es, M, X, EX, xs, c, h => by
    cases xs with
    | nil => simp [mEs] at h
    | cons x xs =>
      simp only [mEs, Bool.and_eq_true] at h
      have h1 := sE e c h.1
      obtain ⟨h3, h4, h5, _⟩ := sEs es c h.2
      refine ⟨a_cons (h1.1 rfl) h3 h1.2.2, fun a he => ?_, by rw [List.length_cons, ← h5]; rfl, fun a ea => ?_⟩
      · rcases List.mem_cons.mp he with rfl | he
        · exact h1.2.2
        · exact h4 a he
      · cases ea
        cases es with
        | nil => exact ⟨e, rfl, h1.1 rfl⟩
        | cons => simp [Es.len] at h5
theorem sO : ∀ (es : Es) {M : MC} {X : Cx} {EX : XK} {x : Option Expr}, Ctx T d M X EX → mO T es M x = true → pO X T EX (callD T.fns d) x es
  | .nil, M, X, EX, x, c, h => by
    cases x with
    | none => exact o_none
    | some => simp [mO] at h
  | .cons e es, M, X, EX, x, c, h => by
    cases es with
    | nil =>
      cases x with
      | none => simp [mO] at h
      | some x =>
        simp only [mO] at h
        exact o_some ((sE e c h).1 rfl)
    | cons => simp [mO] at h
theorem sC : ∀ (es : Es) {M : MC} {X : Cx} {EX : XK} {xs : List Expr}, Ctx T d M X EX → mC T es M xs = true → PTs X xs (tCd X.K T EX (callD T.fns d) es)
  | .nil, M, X, EX, xs, c, h => by
    cases xs with
    | nil => exact cd_nil
    | cons => simp [mC] at h
  | .cons e es, M, X, EX, xs, c, h => by
    cases es with
    | nil =>
      cases xs with
      | nil => simp [mC] at h
      | cons x xs =>
        cases xs with
        | nil =>
          simp only [mC] at h
          exact cd_one ((sE e c h).2.1 rfl)
        | cons => simp [mC] at h
    | cons => cases xs <;> simp [mC] at h
theorem sI : ∀ (it : It) {M : MC} {X : Cx} {EX : XK} {t x : Expr}, Ctx T d M X EX → mI T it M t x = true → pI X T EX (callD T.fns d) t x it ∧ ∀ env y, foldedSetIterable x env y = pure y
  | .seq e, M, X, EX, t, x, c, h => by
    simp only [mI, Bool.and_eq_true, Bool.not_eq_true'] at h
    exact ⟨i_seq ((sE e c h.2).1 rfl), fun env => set_ok h.1⟩
  | .range es, M, X, EX, t, x, c, h => by
    simp only [mI] at h
    split at h
    · rename_i y _ args _
      simp only [Bool.and_eq_true] at h
      obtain ⟨⟨⟨⟨h1, h2⟩, h3⟩, h4⟩, h5⟩ := h
      have e1 := of_decide_eq_true h1
      subst e1
      obtain ⟨ha, hp, hl, _⟩ := sEs es c h3
      have hg := gl_ok c h2
      have hm := c.bt "range" (by decide)
      refine ⟨?_, fun _ _ => rfl⟩
      match args, ha, hp, hl, h4, h5 with
      | [a], ha, hp, hl, _, _ => exact i_range1 hg hm (hp a (by simp)) ha hl
      | [a, b], ha, hp, hl, _, _ => exact i_range2 hg hm (hp a (by simp)) (hp b (by simp)) ha hl
      | [a, b, e], ha, hp, hl, _, _ => exact i_range3 hg hm (hp a (by simp)) (hp b (by simp)) (hp e (by simp)) ha hl
      | [], _, _, _, h4, _ => exact absurd (of_decide_eq_true h4) (by simp)
      | _ :: _ :: _ :: _ :: _, _, _, _, _, h5 => exact absurd (of_decide_eq_true h5) (by simp)
    · cases h
  | .enum e, M, X, EX, t, x, c, h => by
    simp only [mI] at h
    split at h
    · simp only [Bool.and_eq_true] at h
      obtain ⟨⟨h1, h2⟩, h3⟩ := h
      have e1 := of_decide_eq_true h1
      subst e1
      have hh := sE e c h3
      exact ⟨i_enum (gl_ok c h2) (c.bt "enumerate" (by decide)) hh.2.2 (hh.1 rfl), fun _ _ => rfl⟩
    · cases h
  | .zip e e2, M, X, EX, t, x, c, h => by
    simp only [mI] at h
    split at h
    · simp only [Bool.and_eq_true] at h
      obtain ⟨⟨⟨h1, h2⟩, h3⟩, h4⟩ := h
      have e1 := of_decide_eq_true h1
      subst e1
      have hh := sE e c h3
      have hh2 := sE e2 c h4
      exact ⟨i_zip (gl_ok c h2) (c.bt "zip" (by decide)) hh.2.2 hh2.2.2 (hh.1 rfl) (hh2.1 rfl), fun _ _ => rfl⟩
    · cases h
  | .rev e, M, X, EX, t, x, c, h => by
    simp only [mI] at h
    split at h
    · simp only [Bool.and_eq_true] at h
      obtain ⟨⟨h1, h2⟩, h3⟩ := h
      have e1 := of_decide_eq_true h1
      subst e1
      have hh := sE e c h3
      exact ⟨i_rev (gl_ok c h2) (c.bt "reversed" (by decide)) hh.2.2 (hh.1 rfl), fun _ _ => rfl⟩
    · cases h
end
end
end PI

/-! the matcher for statements, sound -/
namespace PI
open PySem PySem.Spec PyProof.Rows L2
def noComp : Expr → Bool
  | .ListComp _ _ _ _ => false
  | .SetComp _ _ _ _ => false
  | .DictComp _ _ _ _ _ => false
  | _ => true
/-- a list comprehension goes straight to a local's place -/
def swB (M : MC) (t x : Expr) : Bool := match t, x with
  | .Name y py, .ListComp _ _ scope pos => (M.sc.names.lookup y == some .local) && py.line == pos.line && !(scope.names.any fun p => p.1 == y && (p.2 == .local || p.2 == .cell))
  | _, _ => false
def isLC : Expr → Bool
  | .ListComp _ _ _ _ => true
  | _ => false
def tupTup : Expr → Expr → Bool
  | .Tuple _ _ _, .Tuple vs _ _ => !(vs.all (foldedForSure 8))
  | .List _ _, .Tuple _ _ _ => true
  | _, _ => false
def locB (M : MC) (y : Str) : Bool := decide (M.sc.names.lookup y = some .local)
section
variable {T : Tab} {d : Nat}
theorem swaps_none {x : Expr} {env : PySem.Env} {t : Option Expr} {n : Nat} (h : noComp x = true) : swapsWith x t n env = pure false := by
  cases x <;> first | (cases h; done) | rfl
theorem blockKind_fn {M : MC} {X : Cx} {EX : XK} (c : Ctx T d M X EX) : X.env.blockKind = .function := by
  unfold Env.blockKind
  rw [c.sc, c.fkd]
  rfl
theorem swaps_lc {M : MC} {X : Cx} {EX : XK} (c : Ctx T d M X EX) {y : Str} {py pos : Pos} {xe : Expr} {gs : List Comprehension} {scope : Scope} {n : Nat} :
    swapsWith (.ListComp xe gs scope pos) (some (.Name y py)) n X.env = pure (swB M (.Name y py) (.ListComp xe gs scope pos)) := by
  show (pure (X.env.blockKind == .function && X.env.scope.names.lookup y == some .local && py.line == pos.line && !(scope.names.any fun p => p.1 == y && (p.2 == .local || p.2 == .cell))) : Sem Bool) = _
  rw [blockKind_fn c, c.sc]
  congr 1
theorem sole {t v : Expr} {n : Nat} {env : PySem.Env} : swapsWithSole [t] v n env = swapsWith v (some t) n env := by
  unfold swapsWithSole
  rfl
theorem swaps_lcT {y : Expr} {x : Expr} {n : Nat} {env : PySem.Env} (h : ∀ i p, y ≠ .Name i p) (hx : isLC x = true) : swapsWith x (some y) n env = pure false := by
  cases x <;> first | (cases hx; done) | skip
  cases y <;> first | rfl | exact absurd rfl (h _ _)
theorem stores_none {t x : Expr} {env : PySem.Env} (h : tupTup t x = false) : swappedStores [t] x env = pure none := by
  cases t <;> first | (cases x <;> rfl) | skip
  · cases x <;> first | rfl | (cases h; done)
  · cases x <;> first | rfl | skip
    rename_i ts k p vs k2 p2
    simp only [tupTup, Bool.not_eq_eq_eq_not, Bool.not_false] at h
    unfold swappedStores
    simp only [h, if_true]
    repeat' split
    all_goals rfl
end
section
variable (T : Tab)
def parB (M : MC) (l : List (Str × Pos)) (vs : List Expr) : Bool := (l.all fun p => locB M p.1) && (match l with
  | [] => false
  | p :: _ => l.all fun q => q.2.line == p.2.line) && decide ((l.map (·.1)).Nodup) && !(vs.all (foldedForSure 8)) && !(vs.all (constantsAlone 8))
mutual
def mS : S → MC → Stmt → Bool
  | .expr e, M, x => (match x with
    | .Expr v _ => noComp v && mE T e M false v
    | _ => false)
  | .asg t e, M, x => (match x with
    | .Assign [tg] v _ => !tupTup tg v && mTg M t tg && mE T e M false v && (noComp v || (isLC v && (match tg with
      | .Name _ _ => true
      | _ => false)))
    | _ => false)
  | .par i j a b, M, x => (match x with
    | .Assign [.Tuple [.Name y py, .Name z pz] _ _] (.Tuple [v, w] _ _) _ => slotB M i y && slotB M j z && parB M [(y, py), (z, pz)] [v, w] && mE T a M false v && mE T b M false w
    | _ => false)
  | .par3 i j k a b c, M, x => (match x with
    | .Assign [.Tuple [.Name y py, .Name z pz, .Name o po] _ _] (.Tuple [v, w, u] _ _) _ => slotB M i y && slotB M j z && slotB M k o && parB M [(y, py), (z, pz), (o, po)] [v, w, u] && mE T a M false v && mE T b M false w && mE T c M false u
    | _ => false)
  | .setIx o i e, M, x => (match x with
    | .Assign [.Subscript p q _] v _ => ixShape q && noComp v && mE T o M false p && mE T i M false q && mE T e M false v
    | _ => false)
  | .aug i o e, M, x => (match x with
    | .AugAssign (.Name y _) o' v _ => decide (o = o') && slotB M i y && tgB M y && mE T e M false v
    | _ => false)
  | .augIx o i p e, M, x => (match x with
    | .AugAssign (.Subscript y q _) o' v _ => decide (p = o') && ixShape q && mE T o M false y && mE T i M false q && mE T e M false v
    | _ => false)
  | .ret e, M, x => (match x with
    | .Return (some v) _ => mE T e M false v
    | _ => false)
  | .ret0, M, x => (match x with
    | .Return none _ => true
    | _ => false)
  | .iff c a b, M, x => (match x with
    | .If v p q _ => mE T c M true v && mSs a M p && mSs b M q
    | _ => false)
  | .whl c b, M, x => (match x with
    | .While v p [] _ => mE T c M true v && mSs b M p
    | _ => false)
  | .for t it b, M, x => (match x with
    | .For tg v p [] _ => mTg M t tg && mI T it M tg v && mSs b M p
    | _ => false)
  | .raise _ _, M, x => false
  | .never, M, x => true
  | .pass, M, x => (match x with
    | .Pass _ => true
    | .Expr (.Constant (.str _) _ _) _ => true
    | _ => false)
  | .brk, M, x => (match x with
    | .Break _ => true
    | _ => false)
  | .cont, M, x => (match x with
    | .Continue _ => true
    | _ => false)
def mSs : Ss → MC → List Stmt → Bool
  | .nil, M, xs => xs.isEmpty
  | .cons s ss, M, xs => (match xs with
    | x :: xs => mS s M x && mSs ss M xs
    | [] => false)
end
end
section
variable {T : Tab} {d : Nat}
theorem noStar2 {v w : Expr} (hs : ∀ x ∈ [v, w], ∀ a b, x ≠ .Starred a b) : ([v, w].any fun | .Starred .. => true | _ => false) = false := by
  have s1 := hs v (by simp)
  have s2 := hs w (by simp)
  cases v <;> first | (exact absurd rfl (s1 _ _)) | (cases w <;> first | (exact absurd rfl (s2 _ _)) | rfl)
theorem par2_ok {M : MC} {X : Cx} {EX : XK} (c : Ctx T d M X EX) {y z : Str} {py pz pt pt2 : Pos} {kt k2 : Nat} {v w : Expr} (h : parB M [(y, py), (z, pz)] [v, w] = true) (hs : ∀ x ∈ [v, w], ∀ a b, x ≠ .Starred a b) :
    X.env.scope.names.lookup y = some .local ∧ X.env.scope.names.lookup z = some .local ∧ y ≠ z ∧ swappedStores [.Tuple [.Name y py, .Name z pz] kt pt] (.Tuple [v, w] k2 pt2) X.env = pure (some [y, z]) := by
  simp only [parB, locB, List.all_cons, List.all_nil, Bool.and_true, Bool.and_eq_true, decide_eq_true_eq, Bool.not_eq_true', List.map_cons, List.map_nil, List.nodup_cons, List.mem_singleton, List.not_mem_nil, not_false_eq_true, List.nodup_nil, and_true, beq_iff_eq, true_and] at h
  obtain ⟨⟨⟨⟨⟨h1, h2⟩, h3⟩, h4⟩, h5⟩, h6⟩ := h
  have hk := blockKind_fn c
  have k1 : X.env.kindOf y = some .local := by show X.env.scope.names.lookup y = _; rw [c.sc]; exact h1
  have k2' : X.env.kindOf z = some .local := by show X.env.scope.names.lookup z = _; rw [c.sc]; exact h2
  refine ⟨k1, k2', h4, ?_⟩
  have hs1 := noStar2 hs
  have e1 : (X.env.kindOf y == some .local) = true := by rw [k1]; rfl
  have e2 : (X.env.kindOf z == some .local) = true := by rw [k2']; rfl
  have e3 : [y, z].eraseDups.length = 2 := by simp [List.eraseDups_cons, Ne.symm h4]
  unfold swappedStores
  simp only [hk, hs1, e1, e2, Expr.pos, List.filterMap_cons, List.filterMap_nil, h3, Bool.true_and, beq_self_eq_true, List.head?_cons, Option.map_some, Option.getD_some, if_true, List.length_cons, List.length_nil]
  rw [if_neg (by decide)]
  refine Eq.trans (if_neg ?_) ?_
  · intro z
    exact Bool.noConfusion (hs1.symm.trans z)
  rw [if_neg (by rw [e3]; decide), if_neg (by simp [h5]), if_neg (by simp [h6])]
theorem par3_ok {M : MC} {X : Cx} {EX : XK} (c : Ctx T d M X EX) {y z o : Str} {py pz po pt pt2 : Pos} {kt k2 : Nat} {v w u : Expr} (h : parB M [(y, py), (z, pz), (o, po)] [v, w, u] = true) (hs : ∀ x ∈ [v, w, u], ∀ a b, x ≠ .Starred a b) :
    X.env.scope.names.lookup y = some .local ∧ X.env.scope.names.lookup z = some .local ∧ X.env.scope.names.lookup o = some .local ∧ y ≠ z ∧ y ≠ o ∧ z ≠ o ∧ swappedStores [.Tuple [.Name y py, .Name z pz, .Name o po] kt pt] (.Tuple [v, w, u] k2 pt2) X.env = pure (some [y, z, o]) := by
  simp only [parB, locB, List.all_cons, List.all_nil, Bool.and_true, Bool.and_eq_true, decide_eq_true_eq, Bool.not_eq_true', List.map_cons, List.map_nil, List.nodup_cons, List.mem_cons, List.mem_singleton, List.not_mem_nil, not_false_eq_true, List.nodup_nil, and_true, beq_iff_eq, true_and, not_or, or_false] at h
  obtain ⟨⟨⟨⟨⟨h1, h2, h2'⟩, h3, h3'⟩, h4, h4'⟩, h5⟩, h6⟩ := h
  have hk := blockKind_fn c
  have k1 : X.env.kindOf y = some .local := by show X.env.scope.names.lookup y = _; rw [c.sc]; exact h1
  have k2' : X.env.kindOf z = some .local := by show X.env.scope.names.lookup z = _; rw [c.sc]; exact h2
  have k3' : X.env.kindOf o = some .local := by show X.env.scope.names.lookup o = _; rw [c.sc]; exact h2'
  refine ⟨k1, k2', k3', h4.1, h4.2, h4', ?_⟩
  have hs1 := noStar2 (v := w) (w := u) fun x hx => hs x (List.mem_cons_of_mem _ hx)
  have hs2 : ([v, w, u].any fun | .Starred .. => true | _ => false) = false := by
    rw [List.any_cons, hs1, Bool.or_false]
    have s1 := hs v (by simp)
    cases v <;> first | (exact absurd rfl (s1 _ _)) | rfl
  have e1 : (X.env.kindOf y == some .local) = true := by rw [k1]; rfl
  have e2 : (X.env.kindOf z == some .local) = true := by rw [k2']; rfl
  have e2' : (X.env.kindOf o == some .local) = true := by rw [k3']; rfl
  have e3 : [y, z, o].eraseDups.length = 3 := by simp [List.eraseDups_cons, Ne.symm h4.1, Ne.symm h4.2, Ne.symm h4']
  unfold swappedStores
  simp only [hk, hs2, e1, e2, e2', Expr.pos, List.filterMap_cons, List.filterMap_nil, h3, h3', Bool.true_and, beq_self_eq_true, List.head?_cons, Option.map_some, Option.getD_some, if_true, List.length_cons, List.length_nil]
  rw [if_neg (by decide)]
  refine Eq.trans (if_neg ?_) ?_
  · intro z
    exact Bool.noConfusion (hs2.symm.trans z)
  rw [if_neg (by rw [e3]; decide), if_neg (by simp [h5]), if_neg (by simp [h6])]
theorem plain_star {X : Cx} {x : Expr} (h : Plain X.env x) : ∀ a b, x ≠ .Starred a b := fun a b e => by
  subst e
  have := h []
  have h2 := congrArg (fun l => (l.map (·.1))) this
  exact Bool.noConfusion (List.cons.inj h2).1
mutual
theorem sS : ∀ (s : S) {M : MC} {X : Cx} {EX : XK} {x : Stmt}, Ctx T d M X EX → mS T s M x = true → pS X T EX (callD T.fns d) x s
  | .expr e, M, X, EX, x, c, h => by
    simp only [mS] at h
    split at h
    · rw [Bool.and_eq_true] at h
      exact s_expr ((sE e c h.2).1 rfl) (swaps_none h.1)
    · cases h
  | .asg t e, M, X, EX, x, c, h => by
    simp only [mS] at h
    split at h
    · rename_i tg v pos
      simp only [Bool.and_eq_true, Bool.not_eq_true', Bool.or_eq_true] at h
      obtain ⟨⟨⟨h1, h2⟩, h3⟩, h4⟩ := h
      obtain ⟨g1, g2⟩ := sTg t c h2
      have hv := (sE e c h3).1 rfl
      by_cases hn : noComp v = true
      · exact s_asg hv g1 (sole.trans (swaps_none hn)) (stores_none h1) g2
      · rcases h4 with h4 | ⟨h4, h5⟩
        · exact absurd h4 hn
        · split at h5
          · rename_i y py
            cases v <;> first | (cases h4; done) | skip
            rename_i xe gs scope lp
            cases hsw : swB M (.Name y py) (.ListComp xe gs scope lp) with
            | false => exact s_asg hv g1 (by rw [sole, swaps_lc c, hsw]) (stores_none h1) g2
            | true =>
              -- straight into the name
              have hyl : X.env.scope.names.lookup y = some .local := by
                rw [c.sc]
                unfold swB at hsw
                simp only [Bool.and_eq_true] at hsw
                exact eq_of_beq hsw.1.1
              have hs := (swaps_lc c (y := y) (py := py) (pos := lp) (xe := xe) (gs := gs) (scope := scope) (n := pos.line)).trans (by rw [hsw])
              cases t with
              | tp ts => simp [mTg] at h2
              | nm j =>
                simp only [mTg, Bool.and_eq_true] at h2
                have hj := slot_ok c h2.1
                cases e <;> simp only [mE] at h3 <;> try (cases h3; done)
                · split at h3
                  · rename_i m own elt tg it cds xd xe' xt xi ifs sc' ps' e0
                    cases e0
                    simp only [Bool.and_eq_true, Bool.not_eq_true'] at h3
                    obtain ⟨⟨⟨⟨⟨⟨⟨k1, k2⟩, k3⟩, k4⟩, k5⟩, k6⟩, k7⟩, k8⟩ := h3
                    have hk := of_decide_eq_true k2
                    have bl := fun s H D cl fp => c.blk hk s H D cl fp
                    have hi := sI it c k5
                    have := s_setcomp c (j := j) (m := m) (own := ownP M own) (elt := elt) (tg := tg) (it := it) (cds := cds) hj hyl hs k3 (by rw [ownP_snd]; exact all_mem k4) hi.1 (fun s H D cl fp => (sTg tg (bl s H D cl fp) k6).1) (fun s H D cl fp => sC cds (bl s H D cl fp) k7) (fun s H D cl fp => (sE elt (bl s H D cl fp) k8).1 rfl) (hi.2 _)
                    rw [ownP_snd] at this
                    exact this
                  · cases h3
                · split at h3
                  · rename_i m own own1 elt tg it cds tg1 it1 cds1 xd xe' xt xi ifs xt1 xi1 ifs1 sc' ps' e0
                    cases e0
                    simp only [Bool.and_eq_true, Bool.not_eq_true'] at h3
                    obtain ⟨⟨⟨⟨⟨⟨⟨⟨⟨⟨⟨⟨k1, k2⟩, k3⟩, k4⟩, k5⟩, k6⟩, k7⟩, k8⟩, k9⟩, k10⟩, k11⟩, k12⟩, k13⟩ := h3
                    have hk := of_decide_eq_true k2
                    have bl := fun s H D cl fp => c.blk hk s H D cl fp
                    have hi := sI it c k7
                    have := s_setcomp2 c (j := j) (m := m) (own := ownP M own) (own1 := own1) (elt := elt) (tg := tg) (tg1 := tg1) (it := it) (it1 := it1) (cds := cds) (cds1 := cds1) hj hyl hs k3 (by rw [ownP_snd]; exact all_mem k4) (by rw [ownP_snd]; exact all_mem k5) (all_mem k6) hi.1 (fun s H D cl fp => (sTg tg (bl s H D cl fp) k8).1) (fun s H D cl fp => sC cds (bl s H D cl fp) k9)
                      (fun s H D cl fp => (sI it1 (bl s H D cl fp) k10).1) (fun s H D cl fp => (sTg tg1 (bl s H D cl fp) k11).1) (fun s H D cl fp => sC cds1 (bl s H D cl fp) k12) (fun s H D cl fp => (sE elt (bl s H D cl fp) k13).1 rfl) (hi.2 _) (fun env => sI1 it1 k10 env)
                    rw [ownP_snd] at this
                    exact this
                  · cases h3
          · cases h5
    · cases h
  | .par i j a b, M, X, EX, x, c, h => by
    simp only [mS] at h
    split at h
    · simp only [Bool.and_eq_true] at h
      obtain ⟨⟨⟨⟨h1, h2⟩, h3⟩, h4⟩, h5⟩ := h
      have ha := sE a c h4
      have hb := sE b c h5
      obtain ⟨k1, k2, k3, k4⟩ := par2_ok c h3 (fun x hx => by
        rcases List.mem_cons.mp hx with rfl | hx
        · exact plain_star ha.2.2
        · rw [List.mem_singleton.mp hx]; exact plain_star hb.2.2)
      have hi := slot_ok c h1
      have hj := slot_ok c h2
      exact s_par c.calm (by rw [c.hN]; exact c.nd) hi hj (fun e => k3 (by rw [e, hj] at hi; exact (Option.some.inj hi).symm)) k1 k2 (ha.1 rfl) (hb.1 rfl) ha.2.2 hb.2.2 k4
    · cases h
  | .par3 i j k a b e, M, X, EX, x, c, h => by
    simp only [mS] at h
    split at h
    · simp only [Bool.and_eq_true] at h
      obtain ⟨⟨⟨⟨⟨⟨h1, h2⟩, h2'⟩, h3⟩, h4⟩, h5⟩, h6⟩ := h
      have ha := sE a c h4
      have hb := sE b c h5
      have he := sE e c h6
      obtain ⟨k1, k2, k2', k3, k3', k3'', k4⟩ := par3_ok c h3 (fun x hx => by
        rcases List.mem_cons.mp hx with rfl | hx
        · exact plain_star ha.2.2
        · rcases List.mem_cons.mp hx with rfl | hx
          · exact plain_star hb.2.2
          · rw [List.mem_singleton.mp hx]; exact plain_star he.2.2)
      have hi := slot_ok c h1
      have hj := slot_ok c h2
      have hl := slot_ok c h2'
      exact s_par3 c.calm (by rw [c.hN]; exact c.nd) hi hj hl (fun e => k3 (by rw [e, hj] at hi; exact (Option.some.inj hi).symm)) (fun e => k3' (by rw [e, hl] at hi; exact (Option.some.inj hi).symm)) (fun e => k3'' (by rw [e, hl] at hj; exact (Option.some.inj hj).symm)) k1 k2 k2' (ha.1 rfl) (hb.1 rfl) (he.1 rfl) ha.2.2 hb.2.2 he.2.2 k4
    · cases h
  | .setIx o i e, M, X, EX, x, c, h => by
    simp only [mS] at h
    split at h
    · rename_i p q sp v pos
      simp only [Bool.and_eq_true] at h
      obtain ⟨⟨⟨⟨h1, h2⟩, h3⟩, h4⟩, h5⟩ := h
      exact s_setIx ((sE e c h5).1 rfl) ((sE o c h3).1 rfl) ((sE i c h4).1 rfl) (fun _ => by cases q <;> first | (cases h1; done) | rfl) (sole.trans (swaps_none h2)) (by cases v <;> rfl)
    · cases h
  | .aug i o e, M, X, EX, x, c, h => by
    simp only [mS] at h
    split at h
    · simp only [Bool.and_eq_true] at h
      obtain ⟨⟨⟨h1, h2⟩, h3⟩, h4⟩ := h
      obtain ⟨k1, k2⟩ := tg_ok c h3
      rw [← of_decide_eq_true h1]
      exact s_aug (by rw [c.hN]; exact c.nd) (slot_ok c h2) k1 k2 ((sE e c h4).1 rfl)
    · cases h
  | .augIx o i p e, M, X, EX, x, c, h => by
    simp only [mS] at h
    split at h
    · rename_i y q _ _ v _
      simp only [Bool.and_eq_true] at h
      obtain ⟨⟨⟨⟨h1, h2⟩, h3⟩, h4⟩, h5⟩ := h
      rw [← of_decide_eq_true h1]
      exact s_augIx ((sE o c h3).1 rfl) ((sE i c h4).1 rfl) ((sE e c h5).1 rfl) (fun _ _ _ => by cases q <;> first | (cases h2; done) | rfl)
    · cases h
  | .ret e, M, X, EX, x, c, h => by
    simp only [mS] at h
    split at h
    · exact s_ret ((sE e c h).1 rfl)
    · cases h
  | .ret0, M, X, EX, x, c, h => by
    simp only [mS] at h
    split at h
    · exact s_ret0
    · cases h
  | .iff e a b, M, X, EX, x, c, h => by
    simp only [mS] at h
    split at h
    · simp only [Bool.and_eq_true] at h
      exact s_if ((sE e c h.1.1).2.1 rfl) (sSs a c h.1.2) (sSs b c h.2)
    · cases h
  | .whl e b, M, X, EX, x, c, h => by
    simp only [mS] at h
    split at h
    · simp only [Bool.and_eq_true] at h
      exact s_while c.own ((sE e c h.1).2.1 rfl) (sSs b c h.2)
    · cases h
  | .for t it b, M, X, EX, x, c, h => by
    simp only [mS] at h
    split at h
    · simp only [Bool.and_eq_true] at h
      have hi := sI it c h.1.2
      exact s_for c.own c.calm hi.1 (sTg t c h.1.1).1 (sSs b c h.2) (hi.2 _)
    · cases h
  | .raise _ _, M, X, EX, x, c, h => by simp [mS] at h
  | .never, M, X, EX, x, c, h => s_never
  | .pass, M, X, EX, x, c, h => by
    simp only [mS] at h
    split at h
    · exact s_pass
    · exact s_doc
    · cases h
  | .brk, M, X, EX, x, c, h => by
    simp only [mS] at h
    split at h
    · exact s_brk
    · cases h
  | .cont, M, X, EX, x, c, h => by
    simp only [mS] at h
    split at h
    · exact s_cont
    · cases h
theorem sSs : ∀ (ss : Ss) {M : MC} {X : Cx} {EX : XK} {xs : List Stmt}, Ctx T d M X EX → mSs T ss M xs = true → pSs X T EX (callD T.fns d) xs ss
  | .nil, M, X, EX, xs, c, h => by
    cases xs with
    | nil => exact ss_nil
    | cons => simp [mSs] at h
  | .cons s ss, M, X, EX, xs, c, h => by
    cases xs with
    | nil => simp [mSs] at h
    | cons x xs =>
      simp only [mSs, Bool.and_eq_true] at h
      exact ss_cons (sS s c h.1) (sSs ss c h.2)
end
end
end PI

/-! defs -/
namespace PI
open PySem PySem.Spec PyProof.Rows L2
section
variable {K : PySem.W.Frag} {B : Addr → Prop} {base : Nat} {μ μ' : List Addr} {st st' : Store} {H H' : Hp}
theorem take_get {α : Type} {l : List α} {n i : Nat} {a : α} (h : (l.take n)[i]? = some a) : i < n ∧ l[i]? = some a := by
  rw [List.getElem?_take] at h
  split at h
  · exact ⟨by assumption, h⟩
  · cases h
theorem get_take {α : Type} {l : List α} {n i : Nat} {a : α} (h : l[i]? = some a) (hi : i < n) : (l.take n)[i]? = some a := by
  rw [List.getElem?_take, if_pos hi]
  exact h
theorem own_take {n : Nat} {a : Addr} (h : Own B (μ.take n) (st.take n) a) : Own B μ st a := by
  rcases h with h | ⟨r, c, h1, h2, h3⟩
  · exact .inl h
  · exact .inr ⟨r, c, (take_get h1).2, h2, (take_get h3).2⟩
theorem live_take {n : Nat} {a : Addr} (h : Live (μ.take n) (st.take n) a) : Live μ st a := by
  obtain ⟨r, c, h1, h2, h3⟩ := h
  exact ⟨r, c, (take_get h1).2, h2, (take_get h3).2⟩
theorem ur_take {u : U} {v : V} (h : UR K (Own B μ st) H μ u v) (hu : ∀ k, u = .ref k → k < base) : UR K (Own B (μ.take base) (st.take base)) H (μ.take base) u v := by
  cases h with
  | v h => exact .v (h.hold (hold_sub fun _ z => own_take z))
  | ref h => exact .ref (get_take h (hu _ rfl))
theorem urs_take {us : List U} {vs : List V} (h : URs K (Own B μ st) H μ us vs) (hu : ∀ k, U.ref k ∈ us → k < base) : URs K (Own B (μ.take base) (st.take base)) H (μ.take base) us vs := by
  induction h with
  | nil => exact .nil
  | cons r t ih => exact .cons (ur_take r fun k e => hu k (by rw [e]; exact List.mem_cons_self)) (ih fun k hk => hu k (List.mem_cons_of_mem _ hk))
theorem SRel.takeB (R : SRel K B base μ st H) : SRel K B base (μ.take base) (st.take base) H := by
  refine ⟨by rw [List.length_take, List.length_take, R.len], R.nd.sublist (List.take_sublist _ _), fun r c e => ?_, fun a h => ⟨(R.out a h).1, fun z => (R.out a h).2 (List.mem_of_mem_take z)⟩, by rw [List.length_take]; exact Nat.le_min.mpr ⟨Nat.le_refl _, R.bl⟩, fun r c e hr => R.bok r c (take_get e).2 hr⟩
  obtain ⟨hr, e⟩ := take_get e
  obtain ⟨a, xs, h1, h2, h3⟩ := R.cell r c e
  exact ⟨a, xs, get_take h1 hr, h2, urs_take h3 (R.bok r c e hr)⟩
theorem Stp.takeB (R : SRel K B st.length μ st H) (S : Stp B st.length μ st H μ' st' H') : Stp B st.length μ st H (μ'.take st.length) (st'.take st.length) H' := by
  refine ⟨?_, S.keep, fun a o h n z => S.live a o h n (live_take z), fun a o h n z => S.own a o h n (own_take z), S.there, fun r c' hr e => S.refs r c' hr (take_get e).2⟩
  obtain ⟨t, rfl⟩ := S.ext
  refine ⟨[], ?_⟩
  rw [List.append_nil, List.take_append_of_le_length (by rw [R.len]; exact Nat.le_refl _), List.take_of_length_le (by rw [R.len]; exact Nat.le_refl _)]
/-- what the body is asked, from what the call is asked -/
theorem fin_post {xv : XV} {E : XK} {Q : VK} (R : SRel K B st.length μ st H) : ∀ {r : SR}, Post K B st.length xv E (TU K) μ st H Q (fin st.length r) → PostS K B st.length xv E μ st H { nx := fun _ H' => Q .non H', rt := Q } r
  | .nx ρ st1, h => fun μ1 σ H1 S R1 _ => h _ .non H1 (S.takeB R) R1.takeB (.v .non)
  | .rt u st1, h => fun μ1 v H1 S R1 r => by
    unfold fin at h
    cases u with
    | v w => exact h _ v H1 (S.takeB R) R1.takeB (ur_take r fun k e => (nomatch e))
    | ref k =>
      dsimp only at h
      split at h
      · rename_i hk
        exact h _ v H1 (S.takeB R) R1.takeB (ur_take r fun j e => by cases e; exact hk)
      · rename_i hk
        split at h
        · rename_i w ew
          refine h _ v H1 (S.takeB R) R1.takeB (.v (snapF_vr R1 (fun a z => own_take z) (fun s a hs hm z => ?_) 4 _ _ _ r ew))
          rcases z with z | ⟨q, c, h1, h2, h3⟩
          · exact (R1.out a z).2 (List.mem_of_getElem? hm)
          · have e := R1.inj hm (take_get h3).2
            have := (take_get h3).1
            omega
        · exact h.elim
  | .ex c w st1, h => fun μ1 cls d H1 S R1 x => h _ cls d H1 (S.takeB R) R1.takeB x
  | .bk _ _, h => h.elim
  | .ct _ _, h => h.elim
  | .bad, h => h.elim
theorem start_rel {N : List Str} {F : Fn} {us : List U} {vs : List V} {O : Addr → Prop} (r : URs K O H μ us vs) (hn : us.length = F.np) (hN : F.n = N.length) : ERel K O H μ (us.map some ++ List.replicate (F.n - F.np) none) (L2.start N vs) := by
  have hl := Paired.length r
  unfold L2.start
  rw [← hl, ← hN, hn]
  refine ⟨by simp [hl], fun i u e => ?_⟩
  by_cases hi : i < us.length
  · rw [List.getElem?_append_left (by simpa using hi), List.getElem?_map] at e
    obtain ⟨u', e1, e2⟩ := Option.map_eq_some_iff.mp e
    cases e2
    obtain ⟨v, g1, g2⟩ := Paired.at r e1
    refine ⟨v, ?_, g2⟩
    rw [List.getElem?_append_left (by rw [List.length_map, ← hl]; exact hi), List.getElem?_map, g1]
    rfl
  · rw [List.getElem?_append_right (by simpa using hi), List.getElem?_replicate] at e
    split at e <;> cases e
end
/-- a def of the text: its slots, its parameters, its text -/
structure DF where
  N : List Str
  ps : List Str
  st : Stmt
def paramB (sc : Scope) (x : Str) : Bool := match sc.names.lookup x with
  | some .local => true
  | some .cell => true
  | _ => false
def scB (N ps : List Str) (sc : Scope) : Bool := decide (sc.kind = .function) && decide (sc.isCoroutine = false) && decide (sc.isGenerator = false) && decide N.Nodup && decide (N.take ps.length = ps) && (ps.all (paramB sc)) && (sc.names.all fun y => decide (y.2 ≠ .free))
def defB (T : Tab) (F : Fn) (D : DF) : Bool := scB D.N D.ps (defScope D.st) && decide (D.ps.length = F.np) && decide (F.n = D.N.length) && mSs T F.body ⟨D.N, defScope D.st, defScope D.st⟩ (defBody D.st)
theorem scB_ok {N ps : List Str} {sc : Scope} (h : scB N ps sc = true) : FnScope N ps sc := by
  unfold scB at h
  simp only [Bool.and_eq_true, decide_eq_true_eq] at h
  obtain ⟨⟨⟨⟨⟨⟨h1, h2⟩, h3⟩, h4⟩, h5⟩, h6⟩, h7⟩ := h
  refine ⟨h1, h2, h3, h4, h5, fun x hx => ?_, fun y hy => of_decide_eq_true (List.all_eq_true.mp h7 y hy)⟩
  have := List.all_eq_true.mp h6 x hx
  unfold paramB at this
  split at this
  · exact .inl (by assumption)
  · exact .inr (by assumption)
  · cases this
/-- a def as it stands in the module -/
structure Def1 (K : PySem.W.Frag) (mg : Str → Option Value) (F : Fn) (x : Str) (D : DF) : Prop where
  ex : ∃ fa fd, mg x = some (.ref fa) ∧ Fun K x x D.st fa fd ∧ Binds K fd D.ps []
/-- the module, as the defs see it -/
structure Mg (T : Tab) (K : PySem.W.Frag) (mg : Str → Option Value) (Ds : List DF) : Prop where
  df : ∀ (f : Nat) (F : Fn) (x : Str), T.fns[f]? = some F → T.nm[f]? = some x → ∃ D : DF, Ds[f]? = some D ∧ defB T F D = true ∧ Def1 K mg F x D
  bt : ∀ x ∈ bltNames, mg x = none
  gc : T.gcd = true → mg "gcd" = some (.builtin "math.gcd")
  glb : ∀ x w, (x, w) ∈ T.glb → ∃ u v, mg x = some u ∧ RelV v u ∧ ∀ O H, VR K O H w v
section
variable {P : Program} {w : World} {K : PySem.W.Frag} {mg : Str → Option Value} {base : Heap} {T : Tab} {Ds : List DF}
theorem defs_ok (G : Mg T K mg Ds) : ∀ (d f : Nat) (F : Fn) (x : Str) (D : DF) (fa : Addr) (fd : FuncData), T.fns[f]? = some F → T.nm[f]? = some x → Ds[f]? = some D → mg x = some (.ref fa) → Fun K x x D.st fa fd → FnOk P w K mg base (L2.CX P w) d fa fd D.ps (spF T K d f) := by
  intro d
  induction d with
  | zero =>
    intro f F x D fa fd hF hx hD hm hf
    have no : ∀ {vs : List V} {H : Hp} {Q : VK} {E : XK}, spF T K 0 f vs H Q E → False := fun ⟨F, B, μ, st, us, _, _, _, _, h⟩ => h.elim
    exact ⟨fun vs H Q E h => (no h).elim, fun A outer s H args us vs Q E hr he hb hv h => (no h).elim⟩
  | succ d ih =>
    intro f F x D fa fd hF hx hD hm hf
    obtain ⟨D', hD', hB, _⟩ := G.df f F x hF hx
    rw [hD] at hD'
    cases hD'
    unfold defB at hB
    simp only [Bool.and_eq_true, decide_eq_true_eq] at hB
    obtain ⟨⟨⟨h1, h2⟩, h3⟩, h4⟩ := hB
    have S := scB_ok h1
    refine hf.okX S (fun vs H Q E h => ?_) (fun cdv A outer s H vs Q E hr h => ?_)
    · obtain ⟨F', B, μ, st, us, k1, k2, k3, k4, k5⟩ := h
      rw [hF] at k1
      cases k1
      rw [← Paired.length k4, k2, h2]
    · obtain ⟨F', B, μ, st, us, k1, k2, k3, k4, k5⟩ := h
      rw [hF] at k1
      cases k1
      have c : Ctx T d ⟨D.N, defScope D.st, defScope D.st⟩ (cxOf (L2.CX P w) P w K mg base D.N x (defScope D.st) fa cdv A outer s H E) E :=
        { hN := rfl, nd := S.nd, sc := rfl, fkd := S.kind, tgn := fun y hy => ⟨hy, .inl rfl⟩, calm := rfl, room := hr, un := by have := hr.un; show _ + 65 < cLine; have h' : (A.deeper (envOfC x (defScope D.st) s.heap.objs.size fa cdv)).units + 16 * d + 200 < cLine := this; show (A.deeper (envOfC x (defScope D.st) s.heap.objs.size fa cdv)).units + 65 < cLine; omega
          pass := passes_call (takes_of rfl rfl rfl rfl) (fun _ _ _ _ h => h)
          fns := fun g G' y hg hy => by
            obtain ⟨D2, e1, e2, fa2, fd2, e3, e4, e5⟩ := G.df g G' y hg hy
            refine ⟨fa2, fd2, D2.ps, e3, e4.kp, e5, ?_, ih g G' y D2 fa2 fd2 hg hy e1 e3 e4⟩
            unfold defB at e2
            simp only [Bool.and_eq_true, decide_eq_true_eq] at e2
            exact e2.1.1.2
          bt := G.bt, gc := G.gc, own := passes_of rfl, glb := G.glb }
      refine ⟨_, sSs F.body c h4, B, st.length, μ, st, us.map some ++ List.replicate (F.n - F.np) none, k3, start_rel k4 k2 h3, fin_post k3 ?_⟩
      unfold callD at k5
      rw [hF] at k5
      dsimp only at k5
      rw [if_pos k2] at k5
      exact k5
/-- the law's promise, from the evaluator's run -/
theorem law_sp {d f : Nat} {F : Fn} {H : Hp} {a : Addr} {ns : List Int} (hF : T.fns[f]? = some F) (hn : F.np = 1) (hS : SqL K H a (ns.map V.int)) (h : callD T.fns d f [.v (scr (ns.map .int))] [] = .ok (.v (.bool true)) []) : spF T K d f [.ref a] H (fun v _ => v = .bl true) fun _ _ _ => False := by
  refine ⟨F, fun _ => False, [], [], [.v (scr (ns.map .int))], hF, by rw [hn]; rfl, SRel.none fun a h => h.elim, .cons (.v ?_) .nil, ?_⟩
  · have rs : VRs K (Own (fun _ => False) [] []) H (ns.map PyData.int) (ns.map V.int) := by
      have all : ∀ l : List Int, VRs K (Own (fun _ => False) [] []) H (l.map PyData.int) (l.map V.int) := fun l => by
        induction l with
        | nil => exact .nil
        | cons a l ih => exact .cons (.int a) ih
      exact all ns
    have nO : ¬ Own (fun _ => False) [] [] a := fun z => z.none
    rcases hS with hS | hS
    · exact .scr hS nO rs
    · exact .scrK (fun _ => .inr hS) rs
  · show Post K _ 0 _ _ _ _ _ _ _ (callD T.fns d f [.v (scr (ns.map .int))] [])
    rw [h]
    exact fun μ' b H' S R r => v_bool r
theorem noCX {outer : List PySem.Env} {H : Hp} {s s' : Shared} {e : Value} (h : L2.CX P w outer H s (fun _ _ _ => False) e s') : False := by
  obtain ⟨a, B, H', cls, d, _, _, _, _, _, _, _, hE⟩ := h
  exact hE
end
end PI

/-! the plain side: what runs of the evaluator satisfy; the helpers that all laws share -/
namespace PI
open PySem
/-- a run of statements: where it may go -/
inductive sat (N B C : Env → Store → Prop) (Rt : U → Store → Prop) : SR → Prop
  | nx {ρ : Env} {st : Store} : N ρ st → sat N B C Rt (.nx ρ st)
  | bk {ρ : Env} {st : Store} : B ρ st → sat N B C Rt (.bk ρ st)
  | ct {ρ : Env} {st : Store} : C ρ st → sat N B C Rt (.ct ρ st)
  | rt {u : U} {st : Store} : Rt u st → sat N B C Rt (.rt u st)
abbrev noB : Env → Store → Prop := fun _ _ => False
abbrev noR : U → Store → Prop := fun _ _ => False
theorem sat.mono {r : SR} {N B C N' B' C' : Env → Store → Prop} {Rt Rt' : U → Store → Prop} (h : sat N B C Rt r) (h1 : ∀ ρ st, N ρ st → N' ρ st) (h2 : ∀ ρ st, B ρ st → B' ρ st) (h3 : ∀ ρ st, C ρ st → C' ρ st) (h4 : ∀ u st, Rt u st → Rt' u st) : sat N' B' C' Rt' r := by
  cases h with
  | nx h => exact .nx (h1 _ _ h)
  | bk h => exact .bk (h2 _ _ h)
  | ct h => exact .ct (h3 _ _ h)
  | rt h => exact .rt (h4 _ _ h)
theorem sat_any {r : SR} {N B C : Env → Store → Prop} {Rt : U → Store → Prop} (h : sat N noB noB Rt r) : sat N B C Rt r := h.mono (fun _ _ h => h) (fun _ _ h => h.elim) (fun _ _ h => h.elim) fun _ _ h => h
section
variable {C : Call} {base : Nat} {ρ ρ' : Env} {st st1 : Store} {N B K : Env → Store → Prop} {Rt : U → Store → Prop}
/-- statements, one after another -/
structure satS (C : Call) (base : Nat) (ss : Ss) (ρ : Env) (st : Store) (N B K : Env → Store → Prop) (Rt : U → Store → Prop) : Prop where
  out : sat N B K Rt (execSs C base ss ρ st)
structure satT (C : Call) (base : Nat) (s : S) (ρ : Env) (st : Store) (N B K : Env → Store → Prop) (Rt : U → Store → Prop) : Prop where
  out : sat N B K Rt (execS C base s ρ st)
theorem sat_cons {s : S} {ss : Ss} (h : satT C base s ρ st (fun ρ' st' => satS C base ss ρ' st' N B K Rt) B K Rt) : satS C base (.cons s ss) ρ st N B K Rt := by
  refine ⟨?_⟩
  have h := h.out
  simp only [execSs]
  cases hr : execS C base s ρ st <;> rw [hr] at h
  · cases h with | nx h => exact h.out
  · cases h with | rt h => exact .rt h
  · cases h with | bk h => exact .bk h
  · cases h with | ct h => exact .ct h
  · cases h
  · cases h
theorem sat_nil (h : N ρ st) : satS C base .nil ρ st N B K Rt := ⟨.nx h⟩
/-- a for loop by an invariant -/
theorem sat_forL {step : U → Env → Store → SR} {N : Env → Store → Prop} {Rt : U → Store → Prop} : ∀ (xs : List U) (I : Nat → Env → Store → Prop) (ρ : Env) (st : Store), (∀ i x, xs[i]? = some x → ∀ ρ st, I i ρ st → sat (I (i + 1)) N (I (i + 1)) Rt (step x ρ st)) → I 0 ρ st → (∀ ρ st, I xs.length ρ st → N ρ st) → sat N noB noB Rt (forL step xs ρ st)
  | [], I, ρ, st, hs, h0, hN => .nx (hN ρ st h0)
  | x :: xs, I, ρ, st, hs, h0, hN => by
    unfold forL
    have h1 := hs 0 x rfl ρ st h0
    have rec' := fun ρ' st' h => sat_forL xs (fun i => I (i + 1)) ρ' st' (fun i y hy => hs (i + 1) y hy) h hN
    cases hr : step x ρ st <;> rw [hr] at h1
    · cases h1 with | nx h => exact rec' _ _ h
    · cases h1 with | rt h => exact .rt h
    · cases h1 with | bk h => exact .nx h
    · cases h1 with | ct h => exact rec' _ _ h
    · cases h1
    · cases h1
theorem sat_for {t : Tg} {it : It} {b : Ss} {xs : List U} {lk : List Nat} (he : evalI C base it ρ st = .ok ⟨xs, lk⟩ st1) (I : Nat → Env → Store → Prop) (h0 : I 0 ρ st1)
    (hs : ∀ i x, xs[i]? = some x → ∀ ρ st, I i ρ st → ∃ ρ', asgT t x ρ st = some ρ' ∧ satS C base b ρ' st (I (i + 1)) (fun ρ st => N ρ (unlk lk st)) (I (i + 1)) (fun u st => Rt u (unlk lk st)))
    (hN : ∀ ρ st, I xs.length ρ st → N ρ (unlk lk st)) : satT C base (.for t it b) ρ st N B K Rt := by
  refine ⟨?_⟩
  simp only [execS, he, PI.R.toS]
  refine sat_any ?_
  have h := sat_forL (N := fun ρ st => N ρ (unlk lk st)) (Rt := fun u st => Rt u (unlk lk st)) (step := fun x ρ st => match asgT t x ρ st with
      | some ρ' => execSs C base b ρ' st
      | none => .bad) xs I ρ st1 (fun i x hx ρ st hI => by
    obtain ⟨ρ', e, h⟩ := hs i x hx ρ st hI
    simp only [e]
    exact h.out) h0 hN
  cases hr : forL (fun x ρ st => match asgT t x ρ st with
      | some ρ' => execSs C base b ρ' st
      | none => .bad) xs ρ st1 <;> rw [hr] at h
  · cases h with | nx h => exact .nx h
  · cases h with | rt h => exact .rt h
  · cases h with | bk h => exact h.elim
  · cases h with | ct h => exact h.elim
  · cases h
  · cases h
theorem sat_if {c : E} {a b : Ss} {k : Bool} (hc : (evalE C base c ρ st).bind (fun x st => okT st (truth st x)) = .ok k st1) (ha : k = true → satS C base a ρ st1 N B K Rt) (hb : k = false → satS C base b ρ st1 N B K Rt) : satT C base (.iff c a b) ρ st N B K Rt := by
  refine ⟨?_⟩
  simp only [execS, hc, PI.R.toS]
  cases k with
  | true => exact (ha rfl).out
  | false => exact (hb rfl).out
theorem sat_asg {t : Tg} {e : E} {u : U} (he : evalE C base e ρ st = .ok u st1) (ht : asgT t u ρ st1 = some ρ') (h : N ρ' st1) : satT C base (.asg t e) ρ st N B K Rt := by
  refine ⟨?_⟩
  simp only [execS, he, PI.R.toS, ht]
  exact .nx h
theorem sat_expr {e : E} {u : U} (he : evalE C base e ρ st = .ok u st1) (h : N ρ st1) : satT C base (.expr e) ρ st N B K Rt := by
  refine ⟨?_⟩
  simp only [execS, he, PI.R.toS]
  exact .nx h
theorem sat_ret {e : E} {u : U} (he : evalE C base e ρ st = .ok u st1) (h : Rt u st1) : satT C base (.ret e) ρ st N B K Rt := by
  refine ⟨?_⟩
  simp only [execS, he, PI.R.toS]
  exact .rt h
theorem sat_brk (h : B ρ st) : satT C base .brk ρ st N B K Rt := ⟨.bk h⟩
theorem sat_cont (h : K ρ st) : satT C base .cont ρ st N B K Rt := ⟨.ct h⟩
theorem satT.mono {s : S} {N' : Env → Store → Prop} {Rt' : U → Store → Prop} (h : satT C base s ρ st N noB noB Rt) (h1 : ∀ ρ st, N ρ st → N' ρ st) (h4 : ∀ u st, Rt u st → Rt' u st) : satT C base s ρ st N' B K Rt' := ⟨(sat_any h.out).mono h1 (fun _ _ h => h) (fun _ _ h => h) h4⟩
end
/-- a call of a def -/
theorem call_of {P : List Fn} {d f : Nat} {F : Fn} {us : List U} {st : Store} {Q : U → Store → Prop} (hF : P[f]? = some F) (hn : us.length = F.np)
    (h : satS (callD P d) st.length F.body (us.map some ++ List.replicate (F.n - F.np) none) st (fun _ st' => Q (.v .none) (st'.take st.length)) noB noB (fun u st' => match u with
      | .v w => Q (.v w) (st'.take st.length)
      | .ref r => if r < st.length then Q (.ref r) (st'.take st.length) else ∃ w, snapF st.length 4 st' (.ref r) = some w ∧ Q (.v w) (st'.take st.length))) :
    ∃ u st', callD P (d + 1) f us st = .ok u st' ∧ Q u st' := by
  have h := h.out
  unfold callD
  rw [hF]
  dsimp only
  rw [if_pos hn]
  cases hr : execSs (callD P d) st.length F.body (us.map some ++ List.replicate (F.n - F.np) none) st <;> rw [hr] at h
  · cases h with | nx h => exact ⟨_, _, rfl, h⟩
  · cases h with
    | rt h =>
      rename_i u st'
      cases u with
      | v w => exact ⟨_, _, rfl, h⟩
      | ref r =>
        unfold fin
        dsimp only at h ⊢
        split
        · rename_i hlt
          rw [if_pos hlt] at h
          exact ⟨_, _, rfl, h⟩
        · rename_i hlt
          rw [if_neg hlt] at h
          obtain ⟨w, e, q⟩ := h
          rw [e]
          exact ⟨_, _, rfl, q⟩
  · cases h with | bk h => exact h.elim
  · cases h with | ct h => exact h.elim
  · cases h
  · cases h

/-! ### steps, for simp -/
section
variable {α β : Type} {a : α} {st : Store}
@[simp] theorem bind_ok1 {f : α → Store → R β} : R.bind (.ok a st) f = f a st := rfl
@[simp] theorem toS_ok1 {f : α → Store → SR} : R.toS (.ok a st) f = f a st := rfl
@[simp] theorem okB_some {b : Bool} : okB st (some b) = .ok (.v (.bool b)) st := rfl
@[simp] theorem okT_some {b : Bool} : okT st (some b) = .ok b st := rfl
@[simp] theorem okU_some {u : U} : okU st (some u) = .ok u st := rfl
@[simp] theorem okI_some {u : Int} : okI st (some u) = .ok (.v (.int u)) st := rfl
@[simp] theorem okO_some {u : Option Int} : okO st (some u) = .ok u st := rfl
@[simp] theorem truth_b {b : Bool} : truth st (.v (.bool b)) = some b := rfl
@[simp] theorem truth_i {i : Int} : truth st (.v (.int i)) = some (i != 0) := rfl
@[simp] theorem opR_int {o : Operator} {m : Bool} {i j : Int} : opR o m (.v (.int i)) (.v (.int j)) st = match opI o i j with
    | some k => .ok (.v (.int k)) st
    | none => .bad := rfl
@[simp] theorem opI_add {i j : Int} : opI .Add i j = some (i + j) := rfl
@[simp] theorem opI_sub {i j : Int} : opI .Sub i j = some (i - j) := rfl
theorem opI_mod {i j : Int} (h : 0 < j) : opI .Mod i j = some (i % j) := if_pos h
theorem opI_mul {i j : Int} (h : mulOk i j = true) : opI .Mult i j = some (i * j) := if_pos h
theorem opI_fdiv {i j : Int} (h : divOk j = true) : opI .FloorDiv i j = some (i / j) := if_pos h
theorem mulOk_r {i j : Int} (h : j.natAbs < 2 ^ 64) : mulOk i j = true := by
  unfold mulOk
  rw [decide_eq_true h]
  simp
theorem mulOk_l {i j : Int} (h : i.natAbs < 2 ^ 64) : mulOk i j = true := by
  unfold mulOk
  rw [decide_eq_true h]
  simp
theorem divOk_of {j : Int} (h : 0 < j) (h2 : j.natAbs < 2 ^ 64) : divOk j = true := by
  unfold divOk
  rw [decide_eq_true h, Bool.true_and]
  exact decide_eq_true (Nat.lt_of_lt_of_le h2 (Nat.pow_le_pow_right (by decide) (by decide)))
@[simp] theorem bi_int {i : Int} : biR .int [.v (.int i)] st = .ok (.v (.int i)) st := rfl
@[simp] theorem bi_lenL {l : List W} : biR .len [.v (.list l)] st = .ok (.v (.int l.length)) st := by
  show R.ok (U.v (PyData.int ((l.map U.v).length : Nat))) st = _
  rw [List.length_map]
@[simp] theorem bi_lenT {l : List W} : biR .len [.v (.tuple l)] st = .ok (.v (.int l.length)) st := by
  show R.ok (U.v (PyData.int ((l.map U.v).length : Nat))) st = _
  rw [List.length_map]
@[simp] theorem bi_isa {k : Kd} {u : U} : biR (.isa k) [u] st = if kind u = .bad then .bad else .ok (.v (.bool (isaK (kind u) k))) st := rfl
@[simp] theorem bi_max2 {i j : Int} : biR .max2 [.v (.int i), .v (.int j)] st = .ok (.v (.int (if j > i then j else i))) st := rfl
@[simp] theorem bi_min2 {i j : Int} : biR .min2 [.v (.int i), .v (.int j)] st = .ok (.v (.int (if j < i then j else i))) st := rfl
@[simp] theorem bi_isSeq {u : U} : biR .isSeq [u] st = if kind u = .bad then .bad else .ok (.v (.bool (isaK (kind u) .list || isaK (kind u) .tuple))) st := rfl
@[simp] theorem bi_sum {u : U} : biR .sum [u] st = okI st ((seqI st u).map List.sum) := rfl
@[simp] theorem bi_all {u : U} : biR .all [u] st = okB st ((seqB st u).map fun l => l.all id) := rfl
@[simp] theorem bi_any {u : U} : biR .any [u] st = okB st ((seqB st u).map fun l => l.any id) := rfl
@[simp] theorem bi_max1 {u : U} : biR .max1 [u] st = okI st ((seqI st u).bind maxI) := rfl
@[simp] theorem bi_min1 {u : U} : biR .min1 [u] st = okI st ((seqI st u).bind minI) := rfl
@[simp] theorem seq_l {l : List W} : seqOf st (.v (.list l)) = some (l.map .v) := rfl
@[simp] theorem seq_t {l : List W} : seqOf st (.v (.tuple l)) = some (l.map .v) := rfl
@[simp] theorem seq_r {r : Nat} : seqOf st (.ref r) = cells st r := rfl
theorem ix_l {l : List W} {i : Int} : ixU st (.v (.list l)) (.v (.int i)) = L2.atI (l.map .v) i := rfl
theorem ix_r {r : Nat} {xs : List U} {i : Int} (h : cells st r = some xs) : ixU st (.ref r) (.v (.int i)) = L2.atI xs i := by
  show (match cells st r with | some xs => L2.atI xs i | none => none) = _
  rw [h]
@[simp] theorem cmp_lt {i j : Int} : cmpU st .Lt (.v (.int i)) (.v (.int j)) = some (decide (i < j)) := rfl
@[simp] theorem cmp_le {i j : Int} : cmpU st .LtE (.v (.int i)) (.v (.int j)) = some (decide (i ≤ j)) := rfl
@[simp] theorem cmp_gt {i j : Int} : cmpU st .Gt (.v (.int i)) (.v (.int j)) = some (decide (j < i)) := rfl
@[simp] theorem cmp_ge {i j : Int} : cmpU st .GtE (.v (.int i)) (.v (.int j)) = some (decide (j ≤ i)) := rfl
@[simp] theorem cmp_eq {i j : Int} : cmpU st .Eq (.v (.int i)) (.v (.int j)) = some (i == j) := rfl
@[simp] theorem cmp_ne {i j : Int} : cmpU st .NotEq (.v (.int i)) (.v (.int j)) = some (!(i == j)) := rfl
@[simp] theorem asg_nm {i : Nat} {u : U} {ρ : Env} : asgT (.nm i) u ρ st = if i < ρ.length then some (ρ.set i (some u)) else none := rfl
end
/-! ### the helpers: draws -/
def fDraw : Fn := ⟨3, 4, (.cons (.iff (.cmp .Lt (.var 1) (.bi .len (.cons (.var 0) .nil))) (.cons (.ret (.op .Mod false (.bi .int (.cons (.ix (.var 0) (.var 1)) .nil)) (.var 2))) .nil) .nil) (.cons (.asg (.nm 3) (.op .Mod false (.bi .int (.cons (.op .Add false (.op .Add false (.op .Mult false (.ix (.var 0) (.op .Mod false (.bi .int (.cons (.var 1) .nil)) (.bi .len (.cons (.var 0) .nil)))) (.con (.int 40692))) (.op .Mult false (.var 1) (.con (.int 7919)))) (.con (.int 3))) .nil)) (.con (.int 2147483399)))) (.cons (.ret (.op .Mod false (.bi .int (.cons (.op .Mod false (.bi .int (.cons (.op .Add false (.op .Mult false (.var 3) (.con (.int 48271))) (.var 1)) .nil)) (.con (.int 2147483647))) .nil)) (.var 2))) .nil)))⟩
def fTake (k : Nat) : Fn := ⟨3, 3, (.cons (.setIx (.var 1) (.con (.int 0)) (.op .Add false (.ix (.var 1) (.con (.int 0))) (.con (.int 1)))) (.cons (.ret (.call false k (.cons (.var 0) (.cons (.op .Sub false (.ix (.var 1) (.con (.int 0))) (.con (.int 1))) (.cons (.var 2) .nil))))) .nil))⟩
def drawI (rows : List Int) (i : Nat) (l : Int) : Int :=
  if i < rows.length then (rows.getD i 0) % l else ((((rows.getD (i % rows.length) 0) * 40692 + (i : Int) * 7919 + 3) % 2147483399) * 48271 + (i : Int)) % 2147483647 % l
theorem drawI_nn {rows : List Int} {i : Nat} {l : Int} (h : 0 < l) : 0 ≤ drawI rows i l ∧ drawI rows i l < l := by
  unfold drawI
  split
  · exact ⟨Int.emod_nonneg _ (by omega), Int.emod_lt_of_pos _ h⟩
  · exact ⟨Int.emod_nonneg _ (by omega), Int.emod_lt_of_pos _ h⟩
theorem at_row {rows : List Int} {i : Nat} (h : i < rows.length) : L2.atI (rows.map (U.v ∘ PyData.int)) (i : Int) = some (.v (.int (rows.getD i 0))) := by
  unfold L2.atI L2.ixN
  simp only [List.length_map]
  rw [if_pos (by omega), if_pos (by omega)]
  simp [h, List.getD, List.getElem?_eq_getElem h]
abbrev rowU (rows : List Int) : U := .v (.list (rows.map .int))
theorem call_rt {P : List Fn} {d f : Nat} {F : Fn} {us : List U} {st st' : Store} {w : W} (hF : P[f]? = some F) (hn : us.length = F.np)
    (h : execSs (callD P d) st.length F.body (us.map some ++ List.replicate (F.n - F.np) none) st = .rt (.v w) st') : callD P (d + 1) f us st = .ok (.v w) (st'.take st.length) := by
  unfold callD
  rw [hF]
  dsimp only
  rw [if_pos hn, h]
  rfl
theorem call_nx {P : List Fn} {d f : Nat} {F : Fn} {us : List U} {st st' : Store} {ρ : Env} (hF : P[f]? = some F) (hn : us.length = F.np)
    (h : execSs (callD P d) st.length F.body (us.map some ++ List.replicate (F.n - F.np) none) st = .nx ρ st') : callD P (d + 1) f us st = .ok (.v .none) (st'.take st.length) := by
  unfold callD
  rw [hF]
  dsimp only
  rw [if_pos hn, h]
  rfl
theorem take_all {st : Store} : st.take st.length = st := List.take_length
theorem call_rt0 {P : List Fn} {d f : Nat} {F : Fn} {us : List U} {st : Store} {w : W} (hF : P[f]? = some F) (hn : us.length = F.np)
    (h : execSs (callD P d) st.length F.body (us.map some ++ List.replicate (F.n - F.np) none) st = .rt (.v w) st) : callD P (d + 1) f us st = .ok (.v w) st := by
  have := call_rt hF hn h
  rw [take_all] at this
  exact this
theorem call_nx0 {P : List Fn} {d f : Nat} {F : Fn} {us : List U} {st : Store} {ρ : Env} (hF : P[f]? = some F) (hn : us.length = F.np)
    (h : execSs (callD P d) st.length F.body (us.map some ++ List.replicate (F.n - F.np) none) st = .nx ρ st) : callD P (d + 1) f us st = .ok (.v .none) st := by
  have := call_nx hF hn h
  rw [take_all] at this
  exact this
theorem draw_ok {P : List Fn} {d f : Nat} (hF : P[f]? = some fDraw) {rows : List Int} (hr : rows ≠ []) {i : Nat} {l : Int} (hl : 0 < l) (st : Store) : callD P (d + 1) f [rowU rows, .v (.int i), .v (.int l)] st = .ok (.v (.int (drawI rows i l))) st := by
  refine call_rt0 hF rfl ?_
  have hlen : 0 < rows.length := List.length_pos_iff.mpr hr
  have m1 : ∀ j : Int, mulOk j 40692 = true := fun j => mulOk_r (by decide)
  have m2 : ∀ j : Int, mulOk j 7919 = true := fun j => mulOk_r (by decide)
  have m3 : ∀ j : Int, mulOk j 48271 = true := fun j => mulOk_r (by decide)
  by_cases h : i < rows.length
  · have g := at_row h
    simp [fDraw, execSs, execS, evalE, evalEs, h, ix_l, g, opI_mod hl, drawI]
  · have g := at_row (rows := rows) (i := i % rows.length) (Nat.mod_lt _ hlen)
    rw [Int.natCast_emod] at g
    simp [fDraw, execSs, execS, evalE, evalEs, h, ix_l, g, opI_mod, opI_mul, hl, drawI, hlen, m1, m2, m3]
theorem snap_vs {st : Store} : ∀ ws : List W, (ws.map U.v).mapM (snap 4 st) = some ws
  | [] => rfl
  | w :: ws => by rw [List.map_cons, List.mapM_cons, snap_vs ws]; rfl
/-- a call by data -/
theorem pcall_v {C : Call} {f : Nat} {ws : List W} {w : W} {st : Store} (h : C f (ws.map .v) [] = .ok (.v w) []) : pcall C f (ws.map .v) st = .ok (.v w) st := by
  unfold pcall
  rw [snap_vs]
  dsimp only
  rw [h]
  have : (ws.map U.v).all isV = true := by
    rw [List.all_eq_true]
    intro u hu
    obtain ⟨w, _, rfl⟩ := List.mem_map.mp hu
    rfl
  simp only [this, Bool.true_or, if_true]
theorem pcall1 {C : Call} {f : Nat} {a w : W} {st : Store} (h : C f [.v a] [] = .ok (.v w) []) : pcall C f [.v a] st = .ok (.v w) st := pcall_v (ws := [a]) h
theorem pcall2 {C : Call} {f : Nat} {a b w : W} {st : Store} (h : C f [.v a, .v b] [] = .ok (.v w) []) : pcall C f [.v a, .v b] st = .ok (.v w) st := pcall_v (ws := [a, b]) h
theorem pcall3 {C : Call} {f : Nat} {a b c w : W} {st : Store} (h : C f [.v a, .v b, .v c] [] = .ok (.v w) []) : pcall C f [.v a, .v b, .v c] st = .ok (.v w) st := pcall_v (ws := [a, b, c]) h
theorem pcall4 {C : Call} {f : Nat} {a b c d w : W} {st : Store} (h : C f [.v a, .v b, .v c, .v d] [] = .ok (.v w) []) : pcall C f [.v a, .v b, .v c, .v d] st = .ok (.v w) st := pcall_v (ws := [a, b, c, d]) h
theorem cells_of {st : Store} {r : Nat} {c : Cell} (h : st[r]? = some c) : cells st r = some c.xs := by
  unfold cells
  rw [h]
  rfl
theorem take_ok {P : List Fn} {d f k : Nat} (hF : P[f]? = some (fTake k)) (hD : P[k]? = some fDraw) {rows : List Int} (hr : rows ≠ []) {i : Nat} {l : Int} (hl : 0 < l) {st : Store} {r : Nat} (hst : st[r]? = some ⟨.live, [.v (.int i)]⟩) :
    callD P (d + 2) f [rowU rows, .ref r, .v (.int l)] st = .ok (.v (.int (drawI rows i l))) (st.set r ⟨.live, [.v (.int ((i + 1 : Nat) : Int))]⟩) := by
  have h1 : cells st r = some [.v (.int i)] := cells_of hst
  have hlt := (List.getElem?_eq_some_iff.mp hst).1
  have e0 : ∀ x : U, L2.atI [x] 0 = some x := fun x => rfl
  have s1 : setC st.length r [.v (.int ((i : Int) + 1))] (.v (.int ((i : Int) + 1))) st = some (st.set r ⟨.live, [.v (.int ((i : Int) + 1))]⟩) := by
    unfold setC
    rw [hst]
    simp [isV, lim]
  have h2 : cells (st.set r ⟨.live, [.v (.int ((i : Int) + 1))]⟩) r = some [.v (.int ((i : Int) + 1))] := by
    unfold cells
    rw [List.getElem?_set_self hlt]
    rfl
  have dr := fun st' => draw_ok (d := d) hD hr (i := i) hl st'
  have := call_rt (d := d + 1) hF (us := [rowU rows, .ref r, .v (.int l)]) (st := st) (w := .int (drawI rows i l)) (st' := st.set r ⟨.live, [.v (.int ((i : Int) + 1))]⟩) rfl (by
    simp [fTake, execSs, execS, evalE, evalEs, ix_r h1, ix_r h2, e0, setU, h1, L2.ixN, s1, dr])
  rw [this]
  congr 1
  rw [List.take_of_length_le (by rw [List.length_set]; exact Nat.le_refl _)]
  rfl
/-! ### the numbers of a script -/
def fNums : Fn := ⟨1, 6, (.cons (.asg (.nm 1) (.lst true .nil)) (.cons (.for (.nm 2) (.seq (.sl false (.var 0) .nil (.cons (.con (.int 63)) .nil))) (.cons (.iff (.cmp .GtE (.var 2) (.op .Pow false (.con (.int 10)) (.con (.int 18)))) (.cons (.asg (.nm 3) (.var 2)) (.cons (.for (.nm 4) (.range (.cons (.con (.int 60)) .nil)) (.cons (.iff (.cmp .Eq (.var 3) (.con (.int 0))) (.cons .brk .nil) .nil) (.cons (.expr (.mth .append (.var 1) (.cons (.op .Mod false (.bi .int (.cons (.var 3) .nil)) (.con (.int 997))) .nil))) (.cons (.asg (.nm 3) (.op .FloorDiv false (.var 3) (.con (.int 997)))) .nil)))) .nil)) (.cons (.for (.nm 4) (.range (.cons (.con (.int 4)) .nil)) (.cons (.asg (.nm 5) (.op .Mod false (.bi .int (.cons (.op .Add false (.op .Add false (.op .Mult false (.var 2) (.con (.int 48271))) (.op .Mult false (.var 4) (.con (.int 69621)))) (.con (.int 11))) .nil)) (.con (.int 2147483647)))) (.cons (.expr (.mth .append (.var 1) (.cons (.op .Mod false (.bi .int (.cons (.op .Add false (.op .Mult false (.var 5) (.con (.int 16807))) (.var 4)) .nil)) (.con (.int 2147483629))) .nil))) .nil))) .nil)) .nil)) (.cons (.iff (.cmp .Eq (.bi .len (.cons (.var 1) .nil)) (.con (.int 0))) (.cons (.expr (.mth .append (.var 1) (.cons (.con (.int 0)) .nil))) .nil) .nil) (.cons (.ret (.var 1)) .nil))))⟩
end PI

/-! the helpers that all laws share: the numbers of a script -/
namespace PI
open PySem
abbrev iU (i : Int) : U := .v (.int i)
theorem append0 {xs : List U} {y : U} (h : xs.length + 1 ≤ lim) : mtR 0 .append (.ref 0) [y] [⟨.live, xs⟩] = .ok (.v .none) [⟨.live, xs ++ [y]⟩] := by
  show okN (setC 0 0 (xs ++ [y]) y [⟨.live, xs⟩]) = _
  have h' : (xs ++ [y]).length ≤ lim := by rw [List.length_append]; exact h
  unfold setC
  simp only [List.getElem?_cons_zero, Nat.le_refl, decide_true, Bool.true_or, Bool.true_and, decide_eq_true h', if_true, List.set_cons_zero]
  rfl
theorem pures_v : ∀ ws : List W, pures (ws.map U.v) = some ws
  | [] => rfl
  | w :: ws => by simp [pures, pures_v ws]
theorem cut_take (xs : List U) (k : Nat) : cutU xs none (some (k : Int)) = xs.take k := by
  unfold cutU
  rw [HT.sIx_nat, HT.sIx_none]
  simp only [List.drop_zero, Nat.sub_zero]
  by_cases h : k ≤ xs.length
  · rw [Nat.min_eq_left h]
  · rw [Nat.min_eq_right (by omega), List.take_length, List.take_of_length_le (by omega)]
theorem snap_rows {rows : List Int} {n : Nat} {st : Store} : (rows.map iU).mapM (snapF 0 (n + 1) st) = some (rows.map .int) := by
  induction rows with
  | nil => rfl
  | cons a l ih => rw [List.map_cons, List.mapM_cons, ih]; rfl
def RowOk (rows : List Int) (n : Nat) : Prop := rows.length ≤ n ∧ ∀ x ∈ rows, 0 ≤ x ∧ x < 2147483647
theorem RowOk.push {rows : List Int} {n : Nat} {x : Int} (h : RowOk rows n) (h0 : 0 ≤ x) (h1 : x < 2147483647) : RowOk (rows ++ [x]) (n + 1) := by
  refine ⟨by rw [List.length_append]; exact Nat.succ_le_succ h.1, fun y hy => ?_⟩
  rcases List.mem_append.mp hy with hy | hy
  · exact h.2 y hy
  · rw [List.mem_singleton.mp hy]; exact ⟨h0, h1⟩
theorem RowOk.mono {rows : List Int} {n m : Nat} (h : RowOk rows n) (hm : n ≤ m) : RowOk rows m := ⟨Nat.le_trans h.1 hm, h.2⟩
abbrev stR (rows : List Int) : Store := [⟨.live, rows.map iU⟩]
theorem range_one {n : Nat} (h : n ≤ 1000) : rangeU [.v (.int n)] = some (rangeL 0 1 n) := by
  unfold rangeU
  have h1 : rngOk (n : Int) = true := by simp [rngOk]; omega
  have h2 : ((n : Int) ≤ lim) := by show (n : Int) ≤ ((16777216 : Nat) : Int); omega
  simp only [h1, Bool.true_and]
  rw [if_pos (decide_eq_true h2)]
  rfl
theorem range60 : rangeU [.v (.int 60)] = some (rangeL 0 1 60) := range_one (n := 60) (by decide)
theorem range4 : rangeU [.v (.int 4)] = some (rangeL 0 1 4) := range_one (n := 4) (by decide)
theorem evalI_range {C : Call} {base : Nat} {es : Es} {ρ : Env} {st st1 : Store} {us xs : List U} (hes : evalEs C base es ρ st = .ok us st1) (hr : rangeU us = some xs) : evalI C base (.range es) ρ st = .ok ⟨xs, []⟩ st1 := by
  rw [evalI, hes]
  show (match rangeU us with
    | some xs => R.ok (Items.mk xs []) st1
    | none => .bad) = _
  rw [hr]
theorem evalI_seq {C : Call} {base : Nat} {e : E} {ρ : Env} {st st1 : Store} {l : List W} (he : evalE C base e ρ st = .ok (.v (.list l)) st1) : evalI C base (.seq e) ρ st = .ok ⟨l.map .v, []⟩ st1 := by
  rw [evalI, he]
  rfl
theorem evalI_seqT {C : Call} {base : Nat} {e : E} {ρ : Env} {st st1 : Store} {l : List W} (he : evalE C base e ρ st = .ok (.v (.tuple l)) st1) : evalI C base (.seq e) ρ st = .ok ⟨l.map .v, []⟩ st1 := by
  rw [evalI, he]
  rfl
theorem nums_ok {P : List Fn} {d f : Nat} (hF : P[f]? = some fNums) (ns : List Int) : ∃ rows : List Int, rows ≠ [] ∧ RowOk rows 3780 ∧ callD P (d + 1) f [.v (scr (ns.map .int))] [] = .ok (rowU rows) [] := by
  obtain ⟨u, st', e, rows, h1, h2, rfl, rfl⟩ := call_of (Q := fun u st' => ∃ rows : List Int, rows ≠ [] ∧ RowOk rows 3780 ∧ u = rowU rows ∧ st' = []) (d := d) hF (us := [.v (scr (ns.map .int))]) (st := []) rfl (by
    have hlim : lim = 16777216 := rfl
    have hpow : opI .Pow 10 18 = some 1000000000000000000 := by decide +kernel
    have hdiv : divOk 997 = true := by decide +kernel
    have m1 : ∀ j : Int, mulOk j 48271 = true := fun j => mulOk_r (by decide)
    have m2 : ∀ j : Int, mulOk j 69621 = true := fun j => mulOk_r (by decide)
    have m3 : ∀ j : Int, mulOk j 16807 = true := fun j => mulOk_r (by decide)
    have hcut : slU false (.v (scr (ns.map .int))) none (some 63) (stR []) = .ok (.v (.list ((ns.take 63).map .int))) (stR []) := by
      show mkL false (cutU ((ns.map PyData.int).map U.v) none (some ((63 : Nat) : Int))) (stR []) = _
      rw [cut_take, ← List.map_take, ← List.map_take]
      have hl : (((ns.take 63).map PyData.int).map U.v).length ≤ lim := by
        rw [List.length_map, List.length_map, List.length_take]
        exact Nat.le_trans (Nat.min_le_left _ _) (by decide)
      unfold mkL
      rw [if_pos hl]
      simp only [Bool.false_eq_true, if_false, pures_v]
    have cl : ∀ rows : List Int, cells (stR rows) 0 = some (rows.map iU) := fun _ => rfl
    refine sat_cons (sat_asg (u := .ref 0) (st1 := stR []) (by simp [evalE, evalEs, mkL, lim]) rfl ?_)
    refine sat_cons (sat_for (xs := ((ns.take 63).map PyData.int).map U.v) (lk := []) (st1 := stR []) (by simp [evalI, evalE, evalEs, bnd, hcut, walkU, lockS])
      (fun i ρ st => ∃ rows a b c e, ρ = [some (.v (scr (ns.map .int))), some (.ref 0), a, b, c, e] ∧ st = stR rows ∧ RowOk rows (60 * i)) ⟨[], none, none, none, none, rfl, rfl, Nat.le_refl _, fun x hx => (nomatch hx)⟩ ?_ ?_)
    · rintro i x hx ρ st ⟨rows, a, b, c, e, rfl, rfl, hr⟩
      obtain ⟨n, rfl, hi⟩ : ∃ n : Int, x = iU n ∧ i < 63 := by
        rw [List.map_map, List.getElem?_map] at hx
        obtain ⟨n, hn, rfl⟩ := Option.map_eq_some_iff.mp hx
        have := (List.getElem?_eq_some_iff.mp hn).1
        rw [List.length_take] at this
        exact ⟨n, rfl, by omega⟩
      refine ⟨_, rfl, sat_cons (sat_if (k := decide ((1000000000000000000 : Int) ≤ n)) (st1 := stR rows) (by simp [evalE, hpow]) (fun _ => ?_) fun _ => ?_)⟩
      · refine sat_cons (sat_asg (u := iU n) (st1 := stR rows) rfl rfl ?_)
        refine sat_cons (sat_for (xs := rangeL 0 1 60) (lk := []) (st1 := stR rows) (by simp [evalI, evalE, evalEs, range60])
          (fun j ρ st => ∃ rows a l c, ρ = [some (.v (scr (ns.map .int))), some (.ref 0), a, some (iU l), c, e] ∧ st = stR rows ∧ RowOk rows (60 * i + j)) ⟨rows, _, n, c, rfl, rfl, hr⟩ ?_ ?_)
        · rintro j x hx ρ st ⟨rows, a, l, c, rfl, rfl, hr⟩
          have hj : j < 60 := (List.getElem?_eq_some_iff.mp hx).1
          have hr1 := hr.1
          refine ⟨_, rfl, sat_cons (sat_if (k := (l == 0)) (st1 := stR rows) (by simp [evalE]) (fun _ => ?_) fun _ => ?_)⟩
          · exact sat_cons (sat_brk (sat_nil (sat_nil ⟨rows, _, _, _, _, rfl, rfl, hr.mono (by omega)⟩)))
          · refine sat_nil (sat_cons (sat_expr (u := .v .none) (st1 := stR (rows ++ [l % 997])) ?_ ?_))
            · simp [evalE, evalEs, isL, opI_mod]
              rw [append0 (by rw [List.length_map]; omega)]
              simp
            · refine sat_cons (sat_asg (u := iU (l / 997)) (st1 := stR (rows ++ [l % 997])) (by simp [evalE, opI_fdiv hdiv]) rfl ?_)
              exact sat_nil ⟨_, _, _, _, rfl, rfl, hr.push (Int.emod_nonneg _ (by decide)) (Int.lt_trans (Int.emod_lt_of_pos _ (by decide)) (by decide))⟩
        · rintro ρ st ⟨rows, a, l, c, rfl, rfl, hr⟩
          exact sat_nil (sat_nil ⟨rows, _, _, _, _, rfl, rfl, hr.mono (by rw [rangeL_len]; omega)⟩)
      · refine sat_cons (sat_for (xs := rangeL 0 1 4) (lk := []) (st1 := stR rows) (by simp [evalI, evalE, evalEs, range4])
          (fun j ρ st => ∃ rows b c e, ρ = [some (.v (scr (ns.map .int))), some (.ref 0), some (iU n), b, c, e] ∧ st = stR rows ∧ RowOk rows (60 * i + j)) ⟨rows, _, _, _, rfl, rfl, hr⟩ ?_ ?_)
        · rintro j x hx ρ st ⟨rows, b, c, e, rfl, rfl, hr⟩
          have hj : j < 4 := (List.getElem?_eq_some_iff.mp hx).1
          have hr1 := hr.1
          rw [rangeL_get 0 1 4 j hj] at hx
          obtain rfl := Option.some.inj hx
          refine ⟨_, rfl, sat_cons (sat_asg (u := iU ((n * 48271 + (0 + (j : Int) * 1) * 69621 + 11) % 2147483647)) (st1 := stR rows) (by simp [evalE, evalEs, opI_mod, opI_mul, m1, m2]) rfl ?_)⟩
          refine sat_cons (sat_expr (u := .v .none) (st1 := stR (rows ++ [(((n * 48271 + (0 + (j : Int) * 1) * 69621 + 11) % 2147483647) * 16807 + (0 + (j : Int) * 1)) % 2147483629])) ?_ ?_)
          · simp [evalE, evalEs, isL, opI_mod, opI_mul, m3]
            rw [append0 (by rw [List.length_map]; omega)]
            simp
          · exact sat_nil ⟨_, _, _, _, rfl, rfl, hr.push (Int.emod_nonneg _ (by decide)) (Int.lt_trans (Int.emod_lt_of_pos _ (by decide)) (by decide))⟩
        · rintro ρ st ⟨rows, b, c, e, rfl, rfl, hr⟩
          exact sat_nil (sat_nil ⟨rows, _, _, _, _, rfl, rfl, hr.mono (by rw [rangeL_len]; omega)⟩)
    · rintro ρ st ⟨rows, a, b, c, e, rfl, rfl, hr⟩
      have hr2 : RowOk rows 3780 := hr.mono (by
        rw [List.length_map, List.length_map, List.length_take]
        have := Nat.min_le_left 63 ns.length
        omega)
      show satS _ _ _ _ (stR rows) _ _ _ _
      refine sat_cons (sat_if (k := ((rows.length : Int) == 0)) (st1 := stR rows) (by simp [evalE, evalEs, biR, cl]) (fun h => ?_) fun h => ?_)
      · have : rows = [] := by
          have := eq_of_beq h
          exact List.length_eq_zero_iff.mp (by omega)
        subst this
        refine sat_cons (sat_expr (u := .v .none) (st1 := stR [0]) (by simp [evalE, evalEs, isL]; rfl) ?_)
        exact sat_nil (sat_cons (sat_ret (u := .ref 0) (st1 := stR [0]) rfl ⟨_, rfl, [0], by simp, ⟨by decide, fun x hx => by rw [List.mem_singleton.mp hx]; decide⟩, rfl, rfl⟩))
      · refine sat_nil (sat_cons (sat_ret (u := .ref 0) (st1 := stR rows) rfl ⟨.list (rows.map .int), ?_, rows, fun z => by rw [z] at h; exact absurd h (by decide), hr2, rfl, rfl⟩))
        show ((rows.map iU).mapM (snapF 0 3 (stR rows))).map PyData.list = _
        rw [snap_rows]
        rfl)
  exact ⟨rows, h1, h2, e⟩
end PI

/-! the helpers that all laws share: the comparison with what is meant -/
namespace PI
open PySem
def fSo (k : Nat) : Fn := ⟨2, 3, (.cons (.iff (.cmp .Is (.var 1) (.con .none)) (.cons (.ret (.cmp .Is (.var 0) (.con .none))) .nil) .nil) (.cons (.iff (.bi (.isa .tuple) (.cons (.var 1) .nil)) (.cons (.iff (.orT (.notT (.bi (.isa .tuple) (.cons (.var 0) .nil))) (.cmp .NotEq (.bi .len (.cons (.var 0) .nil)) (.bi .len (.cons (.var 1) .nil)))) (.cons (.ret (.con (.bool false))) .nil) .nil) (.cons (.for (.nm 2) (.range (.cons (.bi .len (.cons (.var 1) .nil)) .nil)) (.cons (.iff (.notT (.call true k (.cons (.ix (.var 0) (.var 2)) (.cons (.ix (.var 1) (.var 2)) .nil)))) (.cons (.ret (.con (.bool false))) .nil) .nil) .nil)) (.cons (.ret (.con (.bool true))) .nil))) .nil) (.cons (.iff (.orT (.bi (.isa .bool) (.cons (.var 1) .nil)) (.bi (.isa .bool) (.cons (.var 0) .nil))) (.cons (.ret (.and (.bi (.isa .bool) (.cons (.var 1) .nil)) (.and (.bi (.isa .bool) (.cons (.var 0) .nil)) (.cmp .Eq (.var 0) (.var 1))))) .nil) .nil) (.cons (.iff (.bi (.isa .int) (.cons (.var 1) .nil)) (.cons (.ret (.and (.bi (.isa .int) (.cons (.var 0) .nil)) (.cmp .Eq (.var 0) (.var 1)))) .nil) .nil) (.cons (.ret (.and (.bi (.isa .str) (.cons (.var 1) .nil)) (.and (.bi (.isa .str) (.cons (.var 0) .nil)) (.cmp .Eq (.var 0) (.var 1))))) .nil)))))⟩
mutual
/-- values that can be meant: none, bools, ints, texts, tuples of such -/
def soOk : W → Bool
  | .none => true
  | .bool _ => true
  | .int _ => true
  | .str _ => true
  | .tuple l => decide (l.length ≤ 1000) && soOks l
  | _ => false
def soOks : List W → Bool
  | [] => true
  | w :: r => soOk w && soOks r
end
mutual
def hgt : W → Nat
  | .tuple l => hgts l + 1
  | _ => 1
def hgts : List W → Nat
  | [] => 0
  | w :: r => max (hgt w) (hgts r)
end
theorem soOks_mem {l : List W} : soOks l = true → ∀ w ∈ l, soOk w = true := by
  induction l with
  | nil => intro _ w h; cases h
  | cons a l ih =>
    intro h w hw
    unfold soOks at h
    rw [Bool.and_eq_true] at h
    rcases List.mem_cons.mp hw with rfl | hw
    · exact h.1
    · exact ih h.2 w hw
theorem hgts_mem {l : List W} : ∀ w ∈ l, hgt w ≤ hgts l := by
  induction l with
  | nil => intro w h; cases h
  | cons a l ih =>
    intro w hw
    unfold hgts
    rcases List.mem_cons.mp hw with rfl | hw
    · omega
    · have := ih w hw; omega
theorem beqB (b : Bool) : PyData.eqv (.bool b) (.bool b) = true := by cases b <;> rfl
theorem at_l {l : List W} {i : Nat} (h : i < l.length) : L2.atI (l.map U.v) (i : Int) = some (.v l[i]) := by
  unfold L2.atI L2.ixN
  simp only [List.length_map]
  rw [if_pos (by omega), if_pos (by omega)]
  simp [h]
theorem ix_t {st : Store} {l : List W} {i : Int} : ixU st (.v (.tuple l)) (.v (.int i)) = L2.atI (l.map .v) i := rfl
theorem so_tup {P : List Fn} {k D : Nat} (hF : P[k]? = some (fSo k)) {l : List W} (hl : l.length ≤ 1000) (hr : ∀ w ∈ l, callD P D k [.v w, .v w] [] = .ok (.v (.bool true)) []) (st : Store) : callD P (D + 1) k [.v (.tuple l), .v (.tuple l)] st = .ok (.v (.bool true)) st := by
  obtain ⟨u, st', e, rfl, rfl⟩ := call_of (Q := fun u st' => u = .v (.bool true) ∧ st' = st) (d := D) hF (us := [.v (.tuple l), .v (.tuple l)]) (st := st) rfl (by
    refine sat_cons (sat_if (k := false) (st1 := st) (by simp [evalE, cmpU, isNone]) (fun h => (nomatch h)) fun _ => sat_nil ?_)
    refine sat_cons (sat_if (k := true) (st1 := st) (by simp [evalE, evalEs, kind, isaK]) (fun _ => ?_) fun h => (nomatch h))
    refine sat_cons (sat_if (k := false) (st1 := st) (by simp [evalE, evalEs, kind, isaK]) (fun h => (nomatch h)) fun _ => sat_nil ?_)
    have e1 : evalI (callD P D) st.length (.range (.cons (.bi .len (.cons (.var 1) .nil)) .nil)) [some (.v (.tuple l)), some (.v (.tuple l)), none] st = .ok ⟨rangeL 0 1 l.length, []⟩ st := by
      exact evalI_range (us := [iU (l.length : Int)]) (by simp only [evalE, evalEs, bind_ok1, List.getElem?_cons_succ, List.getElem?_cons_zero, bi_lenT]) (range_one hl)
    refine sat_cons (sat_for e1 (fun j ρ st' => ∃ c, ρ = [some (.v (.tuple l)), some (.v (.tuple l)), c] ∧ st' = st) ⟨none, rfl, rfl⟩ ?_ ?_)
    · rintro j x hx ρ st' ⟨c, rfl, rfl⟩
      have hj : j < l.length := by
        have := (List.getElem?_eq_some_iff.mp hx).1
        rwa [rangeL_len] at this
      rw [rangeL_get 0 1 l.length j hj] at hx
      obtain rfl := Option.some.inj hx
      have hz : (0 + (j : Int) * 1) = (j : Int) := by omega
      refine ⟨[some (.v (.tuple l)), some (.v (.tuple l)), some (iU (0 + (j : Int) * 1))], rfl, sat_cons (sat_if (k := false) (st1 := st') ?_ (fun h => (nomatch h)) fun _ => sat_nil (sat_nil ⟨_, rfl, rfl⟩))⟩
      simp only [evalE, evalEs, bind_ok1, List.getElem?_cons_succ, List.getElem?_cons_zero, ix_t, hz, at_l hj, okU_some, if_true, pcall2 (hr _ (List.getElem_mem hj)), truth_b, okT_some, Bool.not_true]
    · rintro ρ st' ⟨c, rfl, rfl⟩
      exact sat_cons (sat_ret (u := .v (.bool true)) (st1 := st') rfl ⟨rfl, take_all⟩))
  exact e
theorem so_ok {P : List Fn} {k : Nat} (hF : P[k]? = some (fSo k)) : ∀ (n : Nat) (m : W), sizeOf m ≤ n → soOk m = true → ∀ (d : Nat) (st : Store), callD P (d + hgt m) k [.v m, .v m] st = .ok (.v (.bool true)) st := by
  intro n
  induction n with
  | zero => intro m hs; cases m <;> simp at hs
  | succ n ih =>
    intro m hs ho d st
    cases m with
    | none => exact call_rt0 (d := d) hF rfl (by simp [fSo, execSs, execS, evalE, evalEs, cmpU, isNone])
    | bool b => cases b <;> exact call_rt0 (d := d) hF rfl rfl
    | int b => exact call_rt0 (d := d) hF rfl (by simp [fSo, execSs, execS, evalE, evalEs, cmpU, isNone, kind, isaK, eqU, eqW, snap])
    | str b => exact call_rt0 (d := d) hF rfl (by simp [fSo, execSs, execS, evalE, evalEs, cmpU, isNone, kind, isaK, eqU, eqW, snap])
    | list l => simp [soOk] at ho
    | dict l => simp [soOk] at ho
    | tuple l =>
      simp only [soOk, Bool.and_eq_true, decide_eq_true_eq] at ho
      refine so_tup (D := d + hgts l) hF ho.1 (fun w hw => ?_) st
      have hsz : sizeOf w ≤ n := by
        have := List.sizeOf_lt_of_mem hw
        simp at hs
        omega
      have hh := hgts_mem w hw
      have hr := ih w hsz (soOks_mem ho.2 _ hw) (d + hgts l - hgt w) []
      rwa [show d + hgts l - hgt w + hgt w = d + hgts l by omega] at hr
theorem so_true {P : List Fn} {k : Nat} (hF : P[k]? = some (fSo k)) {m : W} (ho : soOk m = true) {d : Nat} (hd : hgt m ≤ d) (st : Store) : callD P d k [.v m, .v m] st = .ok (.v (.bool true)) st := by
  have := so_ok hF (sizeOf m) m (Nat.le_refl _) ho (d - hgt m) st
  rwa [show d - hgt m + hgt m = d by omega] at this
end PI

/-! the plain side: comprehensions -/
namespace PI
open PySem
section
variable {C : Call} {base : Nat} {ρ : Env} {st : Store}
theorem compL_ok {step : U → Store → R (List U)} {g : U → List U} : ∀ {xs : List U}, (∀ x ∈ xs, step x st = .ok (g x) st) → compL step xs st = .ok (xs.flatMap g) st
  | [], _ => rfl
  | x :: xs, h => by
    unfold compL
    rw [h x List.mem_cons_self, bind_ok1, compL_ok fun y hy => h y (List.mem_cons_of_mem _ hy), bind_ok1, List.flatMap_cons]
theorem mkL_f {l : List W} (h : l.length ≤ 100000) : mkL false (l.map U.v) st = .ok (.v (.list l)) st := by
  unfold mkL
  rw [if_pos (by rw [List.length_map]; exact Nat.le_trans h (by decide))]
  simp only [Bool.false_eq_true, if_false, pures_v]
/-- [elt for .. in .. if ..] over data: what is kept, as data -/
theorem comp_ok {own : List Nat} {elt : E} {tg : Tg} {it : It} {cds : Es} {ks : List W} (f : W → Option W) (hit : evalI C base it ρ st = .ok ⟨ks.map .v, []⟩ st) (hl : ks.length ≤ 100000)
    (hs : ∀ x ∈ ks, ∃ ρ', asgT tg (.v x) (wipe ρ own) st = some ρ' ∧ match f x with
      | some w => condL C base cds ρ' st = .ok true st ∧ evalE C base elt ρ' st = .ok (.v w) st
      | none => condL C base cds ρ' st = .ok false st) : evalE C base (.comp false own elt tg it cds) ρ st = .ok (.v (.list (ks.filterMap f))) st := by
  have h1 : compL (fun x st => match asgT tg x (wipe ρ own) st with
        | some ρ' => (condL C base cds ρ' st).bind fun b st => if b then (evalE C base elt ρ' st).bind fun u st => .ok [u] st else .ok [] st
        | none => .bad) (ks.map .v) st = .ok ((ks.filterMap f).map U.v) st := by
    have := compL_ok (st := st) (xs := ks.map U.v) (g := fun u => match u with
      | .v x => ((f x).map U.v).toList
      | .ref _ => []) (step := fun x st => match asgT tg x (wipe ρ own) st with
        | some ρ' => (condL C base cds ρ' st).bind fun b st => if b then (evalE C base elt ρ' st).bind fun u st => .ok [u] st else .ok [] st
        | none => .bad) (fun u hu => by
      obtain ⟨x, hx, rfl⟩ := List.mem_map.mp hu
      obtain ⟨ρ', e1, h⟩ := hs x hx
      simp only [e1]
      cases e : f x with
      | none =>
        rw [e] at h
        simp only at h
        rw [h]
        rfl
      | some w =>
        rw [e] at h
        obtain ⟨h1, h2⟩ := h
        rw [h1]
        simp only [bind_ok1, if_true, h2]
        rfl)
    rw [this]
    congr 1
    clear this hs hit hl
    induction ks with
    | nil => rfl
    | cons a l ih =>
      rw [List.map_cons, List.flatMap_cons, ih, List.filterMap_cons]
      cases e : f a <;> simp [e]
  rw [evalE, hit, bind_ok1]
  refine Eq.trans (congrArg (fun r => ((R.noX r).mapS (unlk [])).bind fun us st => mkL false us st) h1) ?_
  show mkL false ((ks.filterMap f).map U.v) st = _
  exact mkL_f (Nat.le_trans (List.length_filterMap_le _ _) hl)
end
theorem rangeL_w (lo c : Int) : ∀ n : Nat, rangeL lo c n = ((List.range n).map fun i => PyData.int (lo + (i : Nat) * c)).map U.v := by
  intro n
  refine List.ext_getElem? fun i => ?_
  by_cases h : i < n
  · rw [rangeL_get lo c n i h]
    simp [h]
  · rw [List.getElem?_eq_none (by rw [rangeL_len]; omega), List.getElem?_eq_none (by simp; omega)]
end PI

namespace K66
open PySem PySem.Spec PyProof.Rows L2 PI
/-- 0 need(ok, at): ok at -/
def f0 : Fn := ⟨2, 2, (.cons (.iff (.notT (.var 0)) (.cons .never .nil) .nil) .nil)⟩
/-- 1 is_integer(value): value -/
def f1 : Fn := ⟨1, 1, (.cons (.ret (.and (.bi (.isa .int) (.cons (.var 0) .nil)) (.not (.bi (.isa .bool) (.cons (.var 0) .nil))))) .nil)⟩
/-- 2 is_whole(value, low, high): value low high -/
def f2 : Fn := ⟨3, 3, (.cons (.ret (.and (.call true 1 (.cons (.var 0) .nil)) (.chain .LtE .LtE (.var 1) (.var 0) (.var 2)))) .nil)⟩
/-- 3 is_sequence(value, fewest, most): value fewest most -/
def f3 : Fn := ⟨3, 3, (.cons (.ret (.and (.bi .isSeq (.cons (.var 0) .nil)) (.chain .LtE .LtE (.var 1) (.bi .len (.cons (.var 0) .nil)) (.var 2)))) .nil)⟩
/-- 4 nearest_multiple(weight, step): weight step -/
def f4 : Fn := ⟨2, 2, (.cons (.ret (.op .Mult false (.op .FloorDiv false (.op .Add false (.op .Mult false (.con (.int 2)) (.var 0)) (.var 1)) (.op .Mult false (.con (.int 2)) (.var 1))) (.var 1))) .nil)⟩
/-- 5 weights_for(show, step): show step low high -/
def f5 : Fn := ⟨2, 4, (.cons (.asg (.nm 2) (.op .Sub false (.var 0) (.op .FloorDiv false (.var 1) (.con (.int 2))))) (.cons (.asg (.nm 3) (.op .Add false (.var 0) (.op .FloorDiv false (.op .Sub false (.var 1) (.con (.int 1))) (.con (.int 2))))) (.cons (.ret (.tup (.cons (.bi .max2 (.cons (.con (.int 0)) (.cons (.var 2) .nil))) (.cons (.var 3) .nil)))) .nil)))⟩
/-- 6 together(spans): spans span -/
def f6 : Fn := ⟨1, 2, (.cons (.ret (.tup (.cons (.bi .sum (.cons (.comp false [1] (.ix (.var 1) (.con (.int 0))) (.nm 1) (.seq (.var 0)) .nil) .nil)) (.cons (.bi .sum (.cons (.comp false [1] (.ix (.var 1) (.con (.int 1))) (.nm 1) (.seq (.var 0)) .nil) .nil)) .nil)))) .nil)⟩
/-- 7 have_common(one, other): one other -/
def f7 : Fn := ⟨2, 2, (.cons (.ret (.cmp .LtE (.bi .max2 (.cons (.ix (.var 0) (.con (.int 0))) (.cons (.ix (.var 1) (.con (.int 0))) .nil))) (.bi .min2 (.cons (.ix (.var 0) (.con (.int 1))) (.cons (.ix (.var 1) (.con (.int 1))) .nil))))) .nil)⟩
/-- 8 are_multiples(values, step): values step value -/
def f8 : Fn := ⟨2, 3, (.cons (.ret (.bi .all (.cons (.comp false [2] (.cmp .Eq (.op .Mod false (.var 2) (.var 1)) (.con (.int 0))) (.nm 2) (.seq (.var 0)) .nil) .nil))) .nil)⟩
/-- 9 shown(weight, step): weight step -/
def f9 : Fn := ⟨2, 2, (.cons (.expr (.call true 0 (.cons (.call true 2 (.cons (.var 0) (.cons (.con (.int 0)) (.cons (.glb (PySem.Str.ofString "MOST_WEIGHT") (.int 1000000)) .nil)))) (.cons (.con (.int 0)) .nil)))) (.cons (.expr (.call true 0 (.cons (.call true 13 (.cons (.var 1) .nil)) (.cons (.con (.int 1)) .nil)))) (.cons (.ret (.call true 4 (.cons (.var 0) (.cons (.var 1) .nil)))) .nil)))⟩
/-- 10 could_be(show, step): show step -/
def f10 : Fn := ⟨2, 2, (.cons (.expr (.call true 0 (.cons (.call true 14 (.cons (.var 0) .nil)) (.cons (.con (.int 0)) .nil)))) (.cons (.expr (.call true 0 (.cons (.call true 13 (.cons (.var 1) .nil)) (.cons (.con (.int 1)) .nil)))) (.cons (.expr (.call true 0 (.cons (.call true 8 (.cons (.tup (.cons (.var 0) .nil)) (.cons (.var 1) .nil))) (.cons (.con (.int 1)) .nil)))) (.cons (.ret (.call true 5 (.cons (.var 0) (.cons (.var 1) .nil)))) .nil))))⟩
/-- 11 whole_between(shows, step): shows step -/
def f11 : Fn := ⟨2, 2, (.cons (.expr (.call true 0 (.cons (.call true 15 (.cons (.var 0) .nil)) (.cons (.con (.int 0)) .nil)))) (.cons (.expr (.call true 0 (.cons (.call true 13 (.cons (.var 1) .nil)) (.cons (.con (.int 1)) .nil)))) (.cons (.expr (.call true 0 (.cons (.call true 8 (.cons (.var 0) (.cons (.var 1) .nil))) (.cons (.con (.int 1)) .nil)))) (.cons (.ret (.call true 16 (.cons (.var 0) (.cons (.var 1) .nil)))) .nil))))⟩
/-- 12 honest(shows, step, whole, coarse): shows step whole coarse -/
def f12 : Fn := ⟨4, 4, (.cons (.expr (.call true 0 (.cons (.call true 15 (.cons (.var 0) .nil)) (.cons (.con (.int 0)) .nil)))) (.cons (.expr (.call true 0 (.cons (.call true 13 (.cons (.var 1) .nil)) (.cons (.con (.int 1)) .nil)))) (.cons (.expr (.call true 0 (.cons (.call true 2 (.cons (.var 2) (.cons (.con (.int 0)) (.cons (.glb (PySem.Str.ofString "MOST_WHOLE") (.int 10000000)) .nil)))) (.cons (.con (.int 2)) .nil)))) (.cons (.expr (.call true 0 (.cons (.call true 13 (.cons (.var 3) .nil)) (.cons (.con (.int 3)) .nil)))) (.cons (.expr (.call true 0 (.cons (.call true 8 (.cons (.var 0) (.cons (.var 1) .nil))) (.cons (.con (.int 1)) .nil)))) (.cons (.expr (.call true 0 (.cons (.call true 8 (.cons (.tup (.cons (.var 2) .nil)) (.cons (.var 3) .nil))) (.cons (.con (.int 3)) .nil)))) (.cons (.ret (.call true 7 (.cons (.call true 16 (.cons (.var 0) (.cons (.var 1) .nil))) (.cons (.call true 5 (.cons (.var 2) (.cons (.var 3) .nil))) .nil)))) .nil)))))))⟩
/-- 13 is_step(value): value -/
def f13 : Fn := ⟨1, 1, (.cons (.ret (.call true 2 (.cons (.var 0) (.cons (.con (.int 1)) (.cons (.glb (PySem.Str.ofString "MOST_STEP") (.int 1000)) .nil))))) .nil)⟩
/-- 14 is_show(value): value -/
def f14 : Fn := ⟨1, 1, (.cons (.ret (.call true 2 (.cons (.var 0) (.cons (.con (.int 0)) (.cons (.glb (PySem.Str.ofString "MOST_SHOW") (.int 1001000)) .nil))))) .nil)⟩
/-- 15 is_shows(value): value show -/
def f15 : Fn := ⟨1, 2, (.cons (.ret (.and (.call true 3 (.cons (.var 0) (.cons (.con (.int 0)) (.cons (.glb (PySem.Str.ofString "MOST_SHOWS") (.int 8)) .nil)))) (.bi .all (.cons (.comp false [1] (.call true 14 (.cons (.var 1) .nil)) (.nm 1) (.seq (.var 0)) .nil) .nil)))) .nil)⟩
/-- 16 weights_of_all(shows, step): shows step show -/
def f16 : Fn := ⟨2, 3, (.cons (.ret (.call true 6 (.cons (.comp false [2] (.call true 5 (.cons (.var 2) (.cons (.var 1) .nil))) (.nm 2) (.seq (.var 0)) .nil) .nil))) .nil)⟩
/-- 17 _law_so(found, meant): found meant k -/
def f17 : Fn := ⟨2, 3, (.cons (.iff (.cmp .Is (.var 1) (.con .none)) (.cons (.ret (.cmp .Is (.var 0) (.con .none))) .nil) .nil) (.cons (.iff (.bi (.isa .tuple) (.cons (.var 1) .nil)) (.cons (.iff (.orT (.notT (.bi (.isa .tuple) (.cons (.var 0) .nil))) (.cmp .NotEq (.bi .len (.cons (.var 0) .nil)) (.bi .len (.cons (.var 1) .nil)))) (.cons (.ret (.con (.bool false))) .nil) .nil) (.cons (.for (.nm 2) (.range (.cons (.bi .len (.cons (.var 1) .nil)) .nil)) (.cons (.iff (.notT (.call true 17 (.cons (.ix (.var 0) (.var 2)) (.cons (.ix (.var 1) (.var 2)) .nil)))) (.cons (.ret (.con (.bool false))) .nil) .nil) .nil)) (.cons (.ret (.con (.bool true))) .nil))) .nil) (.cons (.iff (.orT (.bi (.isa .bool) (.cons (.var 1) .nil)) (.bi (.isa .bool) (.cons (.var 0) .nil))) (.cons (.ret (.and (.bi (.isa .bool) (.cons (.var 1) .nil)) (.and (.bi (.isa .bool) (.cons (.var 0) .nil)) (.cmp .Eq (.var 0) (.var 1))))) .nil) .nil) (.cons (.iff (.bi (.isa .int) (.cons (.var 1) .nil)) (.cons (.ret (.and (.bi (.isa .int) (.cons (.var 0) .nil)) (.cmp .Eq (.var 0) (.var 1)))) .nil) .nil) (.cons (.ret (.and (.bi (.isa .str) (.cons (.var 1) .nil)) (.and (.bi (.isa .str) (.cons (.var 0) .nil)) (.cmp .Eq (.var 0) (.var 1))))) .nil)))))⟩
/-- 18 _law_numbers(script): script row single left k stirred -/
def f18 : Fn := ⟨1, 6, (.cons (.asg (.nm 1) (.lst true .nil)) (.cons (.for (.nm 2) (.seq (.sl false (.var 0) .nil (.cons (.con (.int 63)) .nil))) (.cons (.iff (.cmp .GtE (.var 2) (.op .Pow false (.con (.int 10)) (.con (.int 18)))) (.cons (.asg (.nm 3) (.var 2)) (.cons (.for (.nm 4) (.range (.cons (.con (.int 60)) .nil)) (.cons (.iff (.cmp .Eq (.var 3) (.con (.int 0))) (.cons .brk .nil) .nil) (.cons (.expr (.mth .append (.var 1) (.cons (.op .Mod false (.bi .int (.cons (.var 3) .nil)) (.con (.int 997))) .nil))) (.cons (.asg (.nm 3) (.op .FloorDiv false (.var 3) (.con (.int 997)))) .nil)))) .nil)) (.cons (.for (.nm 4) (.range (.cons (.con (.int 4)) .nil)) (.cons (.asg (.nm 5) (.op .Mod false (.bi .int (.cons (.op .Add false (.op .Add false (.op .Mult false (.var 2) (.con (.int 48271))) (.op .Mult false (.var 4) (.con (.int 69621)))) (.con (.int 11))) .nil)) (.con (.int 2147483647)))) (.cons (.expr (.mth .append (.var 1) (.cons (.op .Mod false (.bi .int (.cons (.op .Add false (.op .Mult false (.var 5) (.con (.int 16807))) (.var 4)) .nil)) (.con (.int 2147483629))) .nil))) .nil))) .nil)) .nil)) (.cons (.iff (.cmp .Eq (.bi .len (.cons (.var 1) .nil)) (.con (.int 0))) (.cons (.expr (.mth .append (.var 1) (.cons (.con (.int 0)) .nil))) .nil) .nil) (.cons (.ret (.var 1)) .nil))))⟩
/-- 19 _law_draw(row, at, limit): row at limit stirred IMPURE -/
def f19 : Fn := ⟨3, 4, (.cons (.iff (.cmp .Lt (.var 1) (.bi .len (.cons (.var 0) .nil))) (.cons (.ret (.op .Mod false (.bi .int (.cons (.ix (.var 0) (.var 1)) .nil)) (.var 2))) .nil) .nil) (.cons (.asg (.nm 3) (.op .Mod false (.bi .int (.cons (.op .Add false (.op .Add false (.op .Mult false (.ix (.var 0) (.op .Mod false (.bi .int (.cons (.var 1) .nil)) (.bi .len (.cons (.var 0) .nil)))) (.con (.int 40692))) (.op .Mult false (.var 1) (.con (.int 7919)))) (.con (.int 3))) .nil)) (.con (.int 2147483399)))) (.cons (.ret (.op .Mod false (.bi .int (.cons (.op .Mod false (.bi .int (.cons (.op .Add false (.op .Mult false (.var 3) (.con (.int 48271))) (.var 1)) .nil)) (.con (.int 2147483647))) .nil)) (.var 2))) .nil)))⟩
/-- 20 _law_take(row, spot, limit): row spot limit IMPURE -/
def f20 : Fn := ⟨3, 3, (.cons (.setIx (.var 1) (.con (.int 0)) (.op .Add false (.ix (.var 1) (.con (.int 0))) (.con (.int 1)))) (.cons (.ret (.call false 19 (.cons (.var 0) (.cons (.op .Sub false (.ix (.var 1) (.con (.int 0))) (.con (.int 1))) (.cons (.var 2) .nil))))) .nil))⟩
/-- 21 law(script): script row spot step show good weight coarse turn one other firsts seconds wholes a whole b -/
def f21 : Fn := ⟨1, 17, (.cons (.asg (.nm 1) (.call true 18 (.cons (.var 0) .nil))) (.cons (.asg (.nm 2) (.lst true (.cons (.con (.int 0)) .nil))) (.cons (.asg (.nm 3) (.op .Add false (.con (.int 1)) (.call false 20 (.cons (.var 1) (.cons (.var 2) (.cons (.con (.int 12)) .nil)))))) (.cons (.for (.nm 4) (.range (.cons (.con (.int 0)) (.cons (.op .Mult false (.con (.int 5)) (.var 3)) (.cons (.var 3) .nil)))) (.cons (.asg (.nm 5) (.comp false [6] (.var 6) (.nm 6) (.range (.cons (.con (.int 0)) (.cons (.op .Add false (.op .Mult false (.con (.int 6)) (.var 3)) (.con (.int 1))) .nil))) (.cons (.cmp .Eq (.call true 9 (.cons (.var 6) (.cons (.var 3) .nil))) (.var 4)) .nil))) (.cons (.iff (.orT (.notT (.call true 17 (.cons (.call true 10 (.cons (.var 4) (.cons (.var 3) .nil))) (.cons (.tup (.cons (.ix (.var 5) (.con (.int 0))) (.cons (.ix (.var 5) (.op .Sub false (.bi .len (.cons (.var 5) .nil)) (.con (.int 1)))) .nil))) .nil)))) (.cmp .NotEq (.bi .len (.cons (.var 5) .nil)) (.op .Add false (.op .Sub false (.ix (.var 5) (.op .Sub false (.bi .len (.cons (.var 5) .nil)) (.con (.int 1)))) (.ix (.var 5) (.con (.int 0)))) (.con (.int 1))))) (.cons (.ret (.con (.bool false))) .nil) .nil) .nil))) (.cons (.for (.nm 6) (.range (.cons (.con (.int 0)) (.cons (.con (.int 40)) .nil))) (.cons (.asg (.nm 4) (.call true 9 (.cons (.var 6) (.cons (.var 3) .nil)))) (.cons (.iff (.orT (.cmp .Gt (.op .Mult false (.bi .max2 (.cons (.op .Sub false (.var 4) (.var 6)) (.cons (.op .Sub false (.var 6) (.var 4)) .nil))) (.con (.int 2))) (.var 3)) (.orT (.cmp .NotEq (.op .Mod false (.bi .int (.cons (.var 4) .nil)) (.var 3)) (.con (.int 0))) (.cmp .Eq (.op .Mult false (.con (.int 2)) (.op .Sub false (.var 4) (.var 6))) (.neg (.var 3))))) (.cons (.ret (.con (.bool false))) .nil) .nil) .nil))) (.cons (.asg (.nm 7) (.op .Add false (.con (.int 1)) (.call false 20 (.cons (.var 1) (.cons (.var 2) (.cons (.con (.int 20)) .nil)))))) (.cons (.for (.nm 8) (.range (.cons (.con (.int 3)) .nil)) (.cons (.asg (.nm 9) (.op .Mult false (.var 3) (.call false 20 (.cons (.var 1) (.cons (.var 2) (.cons (.con (.int 4)) .nil)))))) (.cons (.asg (.nm 10) (.op .Mult false (.var 3) (.call false 20 (.cons (.var 1) (.cons (.var 2) (.cons (.con (.int 4)) .nil)))))) (.cons (.asg (.nm 11) (.comp false [6] (.var 6) (.nm 6) (.range (.cons (.con (.int 0)) (.cons (.con (.int 60)) .nil))) (.cons (.cmp .Eq (.call true 9 (.cons (.var 6) (.cons (.var 3) .nil))) (.var 9)) .nil))) (.cons (.asg (.nm 12) (.comp false [6] (.var 6) (.nm 6) (.range (.cons (.con (.int 0)) (.cons (.con (.int 60)) .nil))) (.cons (.cmp .Eq (.call true 9 (.cons (.var 6) (.cons (.var 3) .nil))) (.var 10)) .nil))) (.cons (.asg (.nm 13) (.lst false .nil)) (.cons (.for (.nm 14) (.seq (.var 11)) (.cons (.asg (.nm 13) (.op .Add false (.var 13) (.comp false [16] (.call true 9 (.cons (.op .Add false (.var 14) (.var 16)) (.cons (.var 7) .nil))) (.nm 16) (.seq (.var 12)) .nil))) .nil)) (.cons (.for (.nm 15) (.range (.cons (.con (.int 0)) (.cons (.op .Mult false (.con (.int 6)) (.var 7)) (.cons (.var 7) .nil)))) (.cons (.iff (.cmp .NotEq (.call true 12 (.cons (.tup (.cons (.var 9) (.cons (.var 10) .nil))) (.cons (.var 3) (.cons (.var 15) (.cons (.var 7) .nil))))) (.cmp .In (.var 15) (.var 13))) (.cons (.ret (.con (.bool false))) .nil) .nil) .nil)) (.cons (.iff (.notT (.call true 17 (.cons (.call true 11 (.cons (.tup (.cons (.var 9) (.cons (.var 10) .nil))) (.cons (.var 3) .nil))) (.cons (.tup (.cons (.op .Add false (.ix (.var 11) (.con (.int 0))) (.ix (.var 12) (.con (.int 0)))) (.cons (.op .Add false (.ix (.var 11) (.op .Sub false (.bi .len (.cons (.var 11) .nil)) (.con (.int 1)))) (.ix (.var 12) (.op .Sub false (.bi .len (.cons (.var 12) .nil)) (.con (.int 1))))) .nil))) .nil)))) (.cons (.ret (.con (.bool false))) .nil) .nil) .nil))))))))) (.cons (.ret (.con (.bool true))) .nil))))))))⟩
def prog : List Fn := [f0, f1, f2, f3, f4, f5, f6, f7, f8, f9, f10, f11, f12, f13, f14, f15, f16, f17, f18, f19, f20, f21]
def topS (i : Nat) : Stmt := PySem.Challenge.pw_cheesestead_k66_weights_one_by_one.main.body.getD i (.Pass ⟨0, 0, 0, 0⟩)
def names : List Str := [(PySem.Str.ofString "need"), (PySem.Str.ofString "is_integer"), (PySem.Str.ofString "is_whole"), (PySem.Str.ofString "is_sequence"), (PySem.Str.ofString "nearest_multiple"), (PySem.Str.ofString "weights_for"), (PySem.Str.ofString "together"), (PySem.Str.ofString "have_common"), (PySem.Str.ofString "are_multiples"), (PySem.Str.ofString "shown"), (PySem.Str.ofString "could_be"), (PySem.Str.ofString "whole_between"), (PySem.Str.ofString "honest"), (PySem.Str.ofString "is_step"), (PySem.Str.ofString "is_show"), (PySem.Str.ofString "is_shows"), (PySem.Str.ofString "weights_of_all"), (PySem.Str.ofString "_law_so"), (PySem.Str.ofString "_law_numbers"), (PySem.Str.ofString "_law_draw"), (PySem.Str.ofString "_law_take"), (PySem.Str.ofString "law")]
def glbs : List (Str × W) := [((PySem.Str.ofString "MOST_WEIGHT"), (.int 1000000)), ((PySem.Str.ofString "MOST_STEP"), (.int 1000)), ((PySem.Str.ofString "MOST_SHOW"), (.int 1001000)), ((PySem.Str.ofString "MOST_WHOLE"), (.int 10000000)), ((PySem.Str.ofString "MOST_SHOWS"), (.int 8))]
def tab : Tab := { fns := prog, nm := names, glb := glbs, xv := fun _ _ _ _ _ => False }
def d0 : DF := ⟨[(PySem.Str.ofString "ok"), (PySem.Str.ofString "at")], [(PySem.Str.ofString "ok"), (PySem.Str.ofString "at")], topS 4⟩
def d1 : DF := ⟨[(PySem.Str.ofString "value")], [(PySem.Str.ofString "value")], topS 5⟩
def d2 : DF := ⟨[(PySem.Str.ofString "value"), (PySem.Str.ofString "low"), (PySem.Str.ofString "high")], [(PySem.Str.ofString "value"), (PySem.Str.ofString "low"), (PySem.Str.ofString "high")], topS 6⟩
def d3 : DF := ⟨[(PySem.Str.ofString "value"), (PySem.Str.ofString "fewest"), (PySem.Str.ofString "most")], [(PySem.Str.ofString "value"), (PySem.Str.ofString "fewest"), (PySem.Str.ofString "most")], topS 7⟩
def d4 : DF := ⟨[(PySem.Str.ofString "weight"), (PySem.Str.ofString "step")], [(PySem.Str.ofString "weight"), (PySem.Str.ofString "step")], topS 9⟩
def d5 : DF := ⟨[(PySem.Str.ofString "show"), (PySem.Str.ofString "step"), (PySem.Str.ofString "low"), (PySem.Str.ofString "high")], [(PySem.Str.ofString "show"), (PySem.Str.ofString "step")], topS 10⟩
def d6 : DF := ⟨[(PySem.Str.ofString "spans"), (PySem.Str.ofString "span")], [(PySem.Str.ofString "spans")], topS 11⟩
def d7 : DF := ⟨[(PySem.Str.ofString "one"), (PySem.Str.ofString "other")], [(PySem.Str.ofString "one"), (PySem.Str.ofString "other")], topS 12⟩
def d8 : DF := ⟨[(PySem.Str.ofString "values"), (PySem.Str.ofString "step"), (PySem.Str.ofString "value")], [(PySem.Str.ofString "values"), (PySem.Str.ofString "step")], topS 13⟩
def d9 : DF := ⟨[(PySem.Str.ofString "weight"), (PySem.Str.ofString "step")], [(PySem.Str.ofString "weight"), (PySem.Str.ofString "step")], topS 20⟩
def d10 : DF := ⟨[(PySem.Str.ofString "show"), (PySem.Str.ofString "step")], [(PySem.Str.ofString "show"), (PySem.Str.ofString "step")], topS 21⟩
def d11 : DF := ⟨[(PySem.Str.ofString "shows"), (PySem.Str.ofString "step")], [(PySem.Str.ofString "shows"), (PySem.Str.ofString "step")], topS 22⟩
def d12 : DF := ⟨[(PySem.Str.ofString "shows"), (PySem.Str.ofString "step"), (PySem.Str.ofString "whole"), (PySem.Str.ofString "coarse")], [(PySem.Str.ofString "shows"), (PySem.Str.ofString "step"), (PySem.Str.ofString "whole"), (PySem.Str.ofString "coarse")], topS 23⟩
def d13 : DF := ⟨[(PySem.Str.ofString "value")], [(PySem.Str.ofString "value")], topS 24⟩
def d14 : DF := ⟨[(PySem.Str.ofString "value")], [(PySem.Str.ofString "value")], topS 25⟩
def d15 : DF := ⟨[(PySem.Str.ofString "value"), (PySem.Str.ofString "show")], [(PySem.Str.ofString "value")], topS 26⟩
def d16 : DF := ⟨[(PySem.Str.ofString "shows"), (PySem.Str.ofString "step"), (PySem.Str.ofString "show")], [(PySem.Str.ofString "shows"), (PySem.Str.ofString "step")], topS 27⟩
def d17 : DF := ⟨[(PySem.Str.ofString "found"), (PySem.Str.ofString "meant"), (PySem.Str.ofString "k")], [(PySem.Str.ofString "found"), (PySem.Str.ofString "meant")], topS 29⟩
def d18 : DF := ⟨[(PySem.Str.ofString "script"), (PySem.Str.ofString "row"), (PySem.Str.ofString "single"), (PySem.Str.ofString "left"), (PySem.Str.ofString "k"), (PySem.Str.ofString "stirred")], [(PySem.Str.ofString "script")], topS 30⟩
def d19 : DF := ⟨[(PySem.Str.ofString "row"), (PySem.Str.ofString "at"), (PySem.Str.ofString "limit"), (PySem.Str.ofString "stirred")], [(PySem.Str.ofString "row"), (PySem.Str.ofString "at"), (PySem.Str.ofString "limit")], topS 31⟩
def d20 : DF := ⟨[(PySem.Str.ofString "row"), (PySem.Str.ofString "spot"), (PySem.Str.ofString "limit")], [(PySem.Str.ofString "row"), (PySem.Str.ofString "spot"), (PySem.Str.ofString "limit")], topS 32⟩
def d21 : DF := ⟨[(PySem.Str.ofString "script"), (PySem.Str.ofString "row"), (PySem.Str.ofString "spot"), (PySem.Str.ofString "step"), (PySem.Str.ofString "show"), (PySem.Str.ofString "good"), (PySem.Str.ofString "weight"), (PySem.Str.ofString "coarse"), (PySem.Str.ofString "turn"), (PySem.Str.ofString "one"), (PySem.Str.ofString "other"), (PySem.Str.ofString "firsts"), (PySem.Str.ofString "seconds"), (PySem.Str.ofString "wholes"), (PySem.Str.ofString "a"), (PySem.Str.ofString "whole"), (PySem.Str.ofString "b")], [(PySem.Str.ofString "script")], topS 33⟩
def ds : List DF := [d0, d1, d2, d3, d4, d5, d6, d7, d8, d9, d10, d11, d12, d13, d14, d15, d16, d17, d18, d19, d20, d21]
theorem c0 : defB tab f0 d0 = true := by decide +kernel
theorem c1 : defB tab f1 d1 = true := by decide +kernel
theorem c2 : defB tab f2 d2 = true := by decide +kernel
theorem c3 : defB tab f3 d3 = true := by decide +kernel
theorem c4 : defB tab f4 d4 = true := by decide +kernel
theorem c5 : defB tab f5 d5 = true := by decide +kernel
theorem c6 : defB tab f6 d6 = true := by decide +kernel
theorem c7 : defB tab f7 d7 = true := by decide +kernel
theorem c8 : defB tab f8 d8 = true := by decide +kernel
theorem c9 : defB tab f9 d9 = true := by decide +kernel
theorem c10 : defB tab f10 d10 = true := by decide +kernel
theorem c11 : defB tab f11 d11 = true := by decide +kernel
theorem c12 : defB tab f12 d12 = true := by decide +kernel
theorem c13 : defB tab f13 d13 = true := by decide +kernel
theorem c14 : defB tab f14 d14 = true := by decide +kernel
theorem c15 : defB tab f15 d15 = true := by decide +kernel
theorem c16 : defB tab f16 d16 = true := by decide +kernel
theorem c17 : defB tab f17 d17 = true := by decide +kernel
theorem c18 : defB tab f18 d18 = true := by decide +kernel
theorem c19 : defB tab f19 d19 = true := by decide +kernel
theorem c20 : defB tab f20 d20 = true := by decide +kernel
theorem c21 : defB tab f21 d21 = true := by decide +kernel
end K66
namespace K66
open PySem PI
abbrev sh (w s : Int) : Int := (2 * w + s) / (2 * s) * s
theorem succ_of {n D : Nat} (h : n + 1 ≤ D) : ∃ d, D = d + 1 ∧ n ≤ d := ⟨D - 1, by omega, by omega⟩
theorem need_ok {D : Nat} (hD : 1 ≤ D) (x : W) : callD prog D 0 [.v (.bool true), .v x] [] = .ok (.v .none) [] := by
  obtain ⟨d, rfl, _⟩ := succ_of hD
  exact call_nx0 (F := f0) rfl rfl (by simp [f0, execSs, execS, evalE]; rfl)
theorem is_int {D : Nat} (hD : 1 ≤ D) (v : Int) : callD prog D 1 [iU v] [] = .ok (.v (.bool true)) [] := by
  obtain ⟨d, rfl, _⟩ := succ_of hD
  exact call_rt0 (F := f1) rfl rfl (by simp [f1, execSs, execS, evalE, evalEs, kind, isaK])
theorem is_whole {D : Nat} (hD : 2 ≤ D) {v lo hi : Int} (h1 : lo ≤ v) (h2 : v ≤ hi) : callD prog D 2 [iU v, iU lo, iU hi] [] = .ok (.v (.bool true)) [] := by
  obtain ⟨d, rfl, hd⟩ := succ_of hD
  exact call_rt0 (F := f2) rfl rfl (by simp [f2, execSs, execS, evalE, evalEs, pcall1 (is_int hd v), h1, h2])
theorem is_step {D : Nat} (hD : 3 ≤ D) {v : Int} (h1 : 1 ≤ v) (h2 : v ≤ 1000) : callD prog D 13 [iU v] [] = .ok (.v (.bool true)) [] := by
  obtain ⟨d, rfl, hd⟩ := succ_of hD
  exact call_rt0 (F := f13) rfl rfl (by simp [f13, execSs, execS, evalE, evalEs, pcall3 (is_whole hd h1 h2)])
theorem is_show {D : Nat} (hD : 3 ≤ D) {v : Int} (h1 : 0 ≤ v) (h2 : v ≤ 1001000) : callD prog D 14 [iU v] [] = .ok (.v (.bool true)) [] := by
  obtain ⟨d, rfl, hd⟩ := succ_of hD
  exact call_rt0 (F := f14) rfl rfl (by simp [f14, execSs, execS, evalE, evalEs, pcall3 (is_whole hd h1 h2)])
theorem nearest {D : Nat} (hD : 1 ≤ D) {w s : Int} (h1 : 1 ≤ s) (h2 : s ≤ 1000) : callD prog D 4 [iU w, iU s] [] = .ok (iU (sh w s)) [] := by
  obtain ⟨d, rfl, hd⟩ := succ_of hD
  have m1 : mulOk 2 w = true := mulOk_l (by decide)
  have m2 : mulOk 2 s = true := mulOk_l (by decide)
  have d1 : divOk (2 * s) = true := divOk_of (by omega) (by omega)
  have m3 : mulOk ((2 * w + s) / (2 * s)) s = true := mulOk_r (by omega)
  exact call_rt0 (F := f4) rfl rfl (by simp [f4, execSs, execS, evalE, evalEs, opI_mul, opI_fdiv, m1, m2, m3, d1])
theorem shown_ok {D : Nat} (hD : 4 ≤ D) {w s : Int} (h1 : 1 ≤ s) (h2 : s ≤ 1000) (h3 : 0 ≤ w) (h4 : w ≤ 1000000) : callD prog D 9 [iU w, iU s] [] = .ok (iU (sh w s)) [] := by
  obtain ⟨d, rfl, hd⟩ := succ_of hD
  exact call_rt0 (F := f9) rfl rfl (by simp [f9, execSs, execS, evalE, evalEs, pcall3 (is_whole (D := d) (by omega) h3 h4), pcall2 (need_ok (D := d) (by omega) _), pcall1 (is_step hd h1 h2), pcall2 (nearest (D := d) (by omega) h1 h2)])
abbrev wf (s t : Int) : W := .tuple [.int (if s - t / 2 > 0 then s - t / 2 else 0), .int (s + (t - 1) / 2)]
theorem weights_for {D : Nat} (hD : 1 ≤ D) {s t : Int} : callD prog D 5 [iU s, iU t] [] = .ok (.v (wf s t)) [] := by
  obtain ⟨d, rfl, hd⟩ := succ_of hD
  have d1 : divOk 2 = true := by decide +kernel
  exact call_rt0 (F := f5) rfl rfl (by simp [f5, execSs, execS, evalE, evalEs, opI_fdiv, d1, pack, mkT, lim])
theorem mult1 {D : Nat} (hD : 1 ≤ D) {v t : Int} (h1 : 1 ≤ t) (h2 : v % t = 0) : callD prog D 8 [.v (.tuple [.int v]), iU t] [] = .ok (.v (.bool true)) [] := by
  obtain ⟨d, rfl, hd⟩ := succ_of hD
  have ht : 0 < t := by omega
  exact call_rt0 (F := f8) rfl rfl (by simp [f8, execSs, execS, evalE, evalEs, evalI, walkU, lockS, compL, condL, PI.wipe, R.noX, R.mapS, unlk, mkL, lim, opI_mod ht, h2, pures, seqB, isL, boolsU])
theorem mult2 {D : Nat} (hD : 1 ≤ D) {v w t : Int} (h1 : 1 ≤ t) (h2 : v % t = 0) (h3 : w % t = 0) : callD prog D 8 [.v (.tuple [.int v, .int w]), iU t] [] = .ok (.v (.bool true)) [] := by
  obtain ⟨d, rfl, hd⟩ := succ_of hD
  have ht : 0 < t := by omega
  exact call_rt0 (F := f8) rfl rfl (by simp [f8, execSs, execS, evalE, evalEs, evalI, walkU, lockS, compL, condL, PI.wipe, R.noX, R.mapS, unlk, mkL, lim, opI_mod ht, h2, h3, pures, seqB, isL, boolsU])
theorem could_be {D : Nat} (hD : 4 ≤ D) {s t : Int} (h1 : 1 ≤ t) (h2 : t ≤ 1000) (h3 : 0 ≤ s) (h4 : s ≤ 1001000) (h5 : s % t = 0) : callD prog D 10 [iU s, iU t] [] = .ok (.v (wf s t)) [] := by
  obtain ⟨d, rfl, hd⟩ := succ_of hD
  exact call_rt0 (F := f10) rfl rfl (by simp [f10, execSs, execS, evalE, evalEs, pcall1 (is_show hd h3 h4), pcall2 (need_ok (D := d) (by omega) _), pcall1 (is_step hd h1 h2), pack, mkT, lim, pcall2 (mult1 (D := d) (by omega) h1 h5), pcall2 (weights_for (D := d) (by omega) (s := s) (t := t))])
theorem is_seq2 {D : Nat} (hD : 1 ≤ D) {v w : Int} : callD prog D 3 [.v (.tuple [.int v, .int w]), iU 0, iU 8] [] = .ok (.v (.bool true)) [] := by
  obtain ⟨d, rfl, hd⟩ := succ_of hD
  exact call_rt0 (F := f3) rfl rfl (by simp [f3, execSs, execS, evalE, evalEs, kind, isaK])
theorem is_shows {D : Nat} (hD : 4 ≤ D) {v w : Int} (h1 : 0 ≤ v) (h2 : v ≤ 1001000) (h3 : 0 ≤ w) (h4 : w ≤ 1001000) : callD prog D 15 [.v (.tuple [.int v, .int w])] [] = .ok (.v (.bool true)) [] := by
  obtain ⟨d, rfl, hd⟩ := succ_of hD
  exact call_rt0 (F := f15) rfl rfl (by simp [f15, execSs, execS, evalE, evalEs, pcall3 (is_seq2 (D := d) (by omega) (v := v) (w := w)), evalI, walkU, lockS, compL, condL, PI.wipe, R.noX, R.mapS, unlk, mkL, lim, pcall1 (is_show hd h1 h2), pcall1 (is_show hd h3 h4), pures, seqB, isL, boolsU])
abbrev lo (s t : Int) : Int := if s - t / 2 > 0 then s - t / 2 else 0
abbrev hi (s t : Int) : Int := s + (t - 1) / 2
theorem together2 {D : Nat} (hD : 1 ≤ D) {a b c e : Int} : callD prog D 6 [.v (.list [.tuple [.int a, .int b], .tuple [.int c, .int e]])] [] = .ok (.v (.tuple [.int (a + c), .int (b + e)])) [] := by
  obtain ⟨d, rfl, hd⟩ := succ_of hD
  exact call_rt0 (F := f6) rfl rfl (by simp [f6, execSs, execS, evalE, evalEs, evalI, walkU, lockS, compL, condL, PI.wipe, R.noX, R.mapS, unlk, mkL, lim, ix_t, L2.atI, L2.ixN, pures, seqI, isL, intsU, pack, mkT])
theorem of_all {D : Nat} (hD : 2 ≤ D) {v w t : Int} : callD prog D 16 [.v (.tuple [.int v, .int w]), iU t] [] = .ok (.v (.tuple [.int (lo v t + lo w t), .int (hi v t + hi w t)])) [] := by
  obtain ⟨d, rfl, hd⟩ := succ_of hD
  have e1 := pcall2 (st := []) (weights_for (D := d) (by omega) (s := v) (t := t))
  have e2 := pcall2 (st := []) (weights_for (D := d) (by omega) (s := w) (t := t))
  have e3 := pcall1 (st := []) (together2 (D := d) (by omega) (a := lo v t) (b := hi v t) (c := lo w t) (e := hi w t))
  exact call_rt0 (F := f16) rfl rfl (by simp [f16, execSs, execS, evalE, evalEs, evalI, walkU, lockS, compL, condL, PI.wipe, R.noX, R.mapS, unlk, mkL, lim, pures, e1, e2, e3])
theorem between {D : Nat} (hD : 5 ≤ D) {v w t : Int} (h1 : 1 ≤ t) (h2 : t ≤ 1000) (h3 : 0 ≤ v) (h4 : v ≤ 1001000) (h5 : 0 ≤ w) (h6 : w ≤ 1001000) (h7 : v % t = 0) (h8 : w % t = 0) : callD prog D 11 [.v (.tuple [.int v, .int w]), iU t] [] = .ok (.v (.tuple [.int (lo v t + lo w t), .int (hi v t + hi w t)])) [] := by
  obtain ⟨d, rfl, hd⟩ := succ_of hD
  exact call_rt0 (F := f11) rfl rfl (by simp [f11, execSs, execS, evalE, evalEs, pcall1 (is_shows hd h3 h4 h5 h6), pcall2 (need_ok (D := d) (by omega) _), pcall1 (is_step (D := d) (by omega) h1 h2), pcall2 (mult2 (D := d) (by omega) h1 h7 h8), pcall2 (of_all (D := d) (by omega) (v := v) (w := w) (t := t))])
abbrev mx (a b : Int) : Int := if b > a then b else a
abbrev mn (a b : Int) : Int := if b < a then b else a
theorem common {D : Nat} (hD : 1 ≤ D) {a b c e : Int} : callD prog D 7 [.v (.tuple [.int a, .int b]), .v (.tuple [.int c, .int e])] [] = .ok (.v (.bool (decide (mx a c ≤ mn b e)))) [] := by
  obtain ⟨d, rfl, hd⟩ := succ_of hD
  exact call_rt0 (F := f7) rfl rfl (by simp [f7, execSs, execS, evalE, evalEs, ix_t, L2.atI, L2.ixN])
theorem honest {D : Nat} (hD : 5 ≤ D) {v w t x c : Int} (h1 : 1 ≤ t) (h2 : t ≤ 1000) (h3 : 0 ≤ v) (h4 : v ≤ 1001000) (h5 : 0 ≤ w) (h6 : w ≤ 1001000) (h7 : v % t = 0) (h8 : w % t = 0) (h9 : 0 ≤ x) (h10 : x ≤ 10000000) (h11 : 1 ≤ c) (h12 : c ≤ 1000) (h13 : x % c = 0) :
    callD prog D 12 [.v (.tuple [.int v, .int w]), iU t, iU x, iU c] [] = .ok (.v (.bool (decide (mx (lo v t + lo w t) (lo x c) ≤ mn (hi v t + hi w t) (hi x c))))) [] := by
  obtain ⟨d, rfl, hd⟩ := succ_of hD
  have e1 := pcall2 (st := []) (common (D := d) (by omega) (a := lo v t + lo w t) (b := hi v t + hi w t) (c := lo x c) (e := hi x c))
  have e2 := pcall2 (st := []) (weights_for (D := d) (by omega) (s := x) (t := c))
  exact call_rt0 (F := f12) rfl rfl (by simp [f12, execSs, execS, evalE, evalEs, pcall1 (is_shows hd h3 h4 h5 h6), pcall2 (need_ok (D := d) (by omega) _), pcall1 (is_step (D := d) (by omega) h1 h2), pcall1 (is_step (D := d) (by omega) h11 h12), pcall3 (is_whole (D := d) (by omega) h9 h10), pcall2 (mult2 (D := d) (by omega) h1 h7 h8), pcall2 (mult1 (D := d) (by omega) h11 h13), pack, mkT, lim, pcall2 (of_all (D := d) (by omega) (v := v) (w := w) (t := t)), e1, e2])
end K66

namespace K66
open PySem PI
def upto (n : Nat) : List Int := (List.range n).map fun i : Nat => (i : Int)
def filt (s : Int) (n : Nat) (t : Int) : List Int := (upto n).filter fun w => sh w s == t
theorem range_two {n : Nat} (h : n ≤ 1000) : rangeU [iU 0, iU n] = some (rangeL 0 1 n) := by
  unfold rangeU
  have h1 : rngOk (n : Int) = true := by simp [rngOk]; omega
  have h0 : rngOk 0 = true := by decide +kernel
  have h2 : ((n : Int) - 0 ≤ lim) := by show (n : Int) - 0 ≤ ((16777216 : Nat) : Int); omega
  simp only [h1, h0, Bool.true_and]
  rw [if_pos (decide_eq_true h2)]
  rw [Int.sub_zero]
  rfl
theorem good_ok {D : Nat} (hD : 4 ≤ D) {base : Nat} {ρ : PI.Env} {st : Store} {es : Es} {k n : Nat} {s t : Int} (hl : ρ.length = 17) (hn : n ≤ 1000) (h1 : 1 ≤ s) (h2 : s ≤ 1000) (hs : ρ[3]? = some (some (iU s))) (hk : ρ[k]? = some (some (iU t))) (hk6 : k ≠ 6) (he : evalEs (callD prog D) base es ρ st = .ok [iU 0, iU n] st) :
    evalE (callD prog D) base (.comp false [6] (.var 6) (.nm 6) (.range es) (.cons (.cmp .Eq (.call true 9 (.cons (.var 6) (.cons (.var 3) .nil))) (.var k)) .nil)) ρ st = .ok (.v (.list ((filt s n t).map .int))) st := by
  have hit := evalI_range he (range_two hn)
  rw [rangeL_w] at hit
  refine Eq.trans (comp_ok (f := fun w => match w with
    | .int i => if sh i s == t then some (.int i) else none
    | _ => none) hit (by simp; omega) fun x hx => ?_) ?_
  · obtain ⟨i, hi, rfl⟩ := List.mem_map.mp hx
    have hi := List.mem_range.mp hi
    refine ⟨(ρ.set 6 none).set 6 (some (iU (0 + (i : Int) * 1))), by simp [PI.wipe, hl], ?_⟩
    have g3 : ((ρ.set 6 none).set 6 (some (iU (0 + (i : Int) * 1))))[3]? = some (some (iU s)) := by
      rw [List.getElem?_set_ne (by decide), List.getElem?_set_ne (by decide)]; exact hs
    have gk : ((ρ.set 6 none).set 6 (some (iU (0 + (i : Int) * 1))))[k]? = some (some (iU t)) := by
      rw [List.getElem?_set_ne (Ne.symm hk6), List.getElem?_set_ne (Ne.symm hk6)]; exact hk
    have g6 : ((ρ.set 6 none).set 6 (some (iU (0 + (i : Int) * 1))))[6]? = some (some (iU (0 + (i : Int) * 1))) := by
      rw [List.getElem?_set_self (by rw [List.length_set, hl]; decide)]
    have hsh := pcall2 (st := st) (shown_ok hD h1 h2 (w := 0 + (i : Int) * 1) (by omega) (by omega))
    have hc : condL (callD prog D) base (.cons (.cmp .Eq (.call true 9 (.cons (.var 6) (.cons (.var 3) .nil))) (.var k)) .nil) ((ρ.set 6 none).set 6 (some (iU (0 + (i : Int) * 1)))) st = .ok (sh (0 + (i : Int) * 1) s == t) st := by
      simp only [condL, evalE, evalEs, g3, gk, g6, bind_ok1, if_true, hsh, cmp_eq, okB_some, truth_b, okT_some]
      cases (sh (0 + (i : Int) * 1) s == t) <;> rfl
    dsimp only
    cases e : (sh (0 + (i : Int) * 1) s == t) with
    | true =>
      rw [if_pos rfl]
      exact ⟨by rw [hc, e], by simp only [evalE, g6]⟩
    | false =>
      rw [if_neg Bool.false_ne_true]
      show condL _ _ _ _ _ = _
      rw [hc, e]
  · congr 3
    unfold filt upto
    generalize List.range n = l
    induction l with
    | nil => rfl
    | cons a l ih =>
      rw [List.map_cons, List.filterMap_cons, List.map_cons, List.filter_cons, ih]
      have hz : (0 + (a : Int) * 1) = (a : Int) := by omega
      rw [hz]
      dsimp only
      cases e : (sh (a : Int) s == t) <;> simp
/-! ### the finite facts -/
def hd (l : List Int) : Int := l.getD 0 0
def lst (l : List Int) : Int := l.getD (l.length - 1) 0
def chkA : Bool := (List.range 12).all fun a => (List.range 5).all fun i =>
  let s : Int := a + 1
  let t : Int := i * s
  let g := filt s (6 * (a + 1) + 1) t
  !g.isEmpty && hd g == lo t s && lst g == hi t s && (g.length : Int) == hi t s - lo t s + 1 && t % s == 0
theorem okA : chkA = true := by decide +kernel
def chkB : Bool := (List.range 12).all fun a => (List.range 40).all fun i =>
  let s : Int := a + 1
  let w : Int := i
  let t := sh w s
  !decide (s < mx (t - w) (w - t) * 2) && t % s == 0 && !(2 * (t - w) == -s)
theorem okB' : chkB = true := by decide +kernel
def whs (f g : List Int) (c : Int) : List Int := f.flatMap fun a => g.map fun b => sh (a + b) c
def chkC1 : Bool := (List.range 12).all fun a => (List.range 4).all fun i =>
  let s : Int := a + 1
  let t : Int := i * s
  let g := filt s 60 t
  !g.isEmpty && hd g == lo t s && lst g == hi t s && t % s == 0 && decide (g.length ≤ 60) && g.all fun w => decide (0 ≤ w) && decide (w ≤ 60)
theorem okC1 : chkC1 = true := by decide +kernel
def chkC (a : Nat) : Bool := (List.range 4).all fun i => (List.range 4).all fun j =>
  let s : Int := a + 1
  let f := filt s 60 (i * s)
  let g := filt s 60 (j * s)
  (List.range 20).all fun b =>
    let c : Int := b + 1
    let w := whs f g c
    (List.range 6).all fun k => decide (mx (lo (i * s) s + lo (j * s) s) (lo (k * c) c) ≤ mn (hi (i * s) s + hi (j * s) s) (hi (k * c) c)) == w.any fun z => z == k * c
end K66

namespace K66
open PySem PI
abbrev CC : Call := callD prog 11
abbrev stK (k : Nat) : Store := [⟨.live, [iU k]⟩]
structure En (rows : List Int) (s : Int) (ρ : PI.Env) : Prop where
  len : ρ.length = 17
  r1 : ρ[1]? = some (some (rowU rows))
  r2 : ρ[2]? = some (some (.ref 0))
  r3 : ρ[3]? = some (some (iU s))
theorem En.set {rows : List Int} {s : Int} {ρ : PI.Env} (e : En rows s ρ) {i : Nat} {x : Option U} (hi : 4 ≤ i) : En rows s (ρ.set i x) where
  len := by rw [List.length_set]; exact e.len
  r1 := by rw [List.getElem?_set_ne (by omega)]; exact e.r1
  r2 := by rw [List.getElem?_set_ne (by omega)]; exact e.r2
  r3 := by rw [List.getElem?_set_ne (by omega)]; exact e.r3
theorem get_self {ρ : PI.Env} {i : Nat} {x : Option U} (h : i < ρ.length) : (ρ.set i x)[i]? = some x := List.getElem?_set_self h
theorem draw_at {rows : List Int} (hr : rows ≠ []) {ρ : PI.Env} (h1 : ρ[1]? = some (some (rowU rows))) (h2 : ρ[2]? = some (some (.ref 0))) {l : Int} (hl : 0 < l) (k : Nat) :
    evalE CC 0 (.call false 20 (.cons (.var 1) (.cons (.var 2) (.cons (.con (.int l)) .nil)))) ρ (stK k) = .ok (iU (drawI rows k l)) (stK (k + 1)) := by
  have := take_ok (P := prog) (d := 9) (f := 20) (k := 19) rfl rfl hr (i := k) hl (st := stK k) (r := 0) rfl
  simp only [evalE, evalEs, h1, h2, bind_ok1, Bool.false_eq_true, if_false]
  exact this
theorem twelve {s : Int} (h1 : 1 ≤ s) (h2 : s ≤ 12) : ∃ a : Nat, a < 12 ∧ s = a + 1 := ⟨(s - 1).toNat, by omega, by omega⟩
theorem rng5 {s : Int} (h1 : 1 ≤ s) (h2 : s ≤ 12) : rangeU [iU 0, iU (5 * s), iU s] = some (rangeL 0 s 5) := by
  have : s = 1 ∨ s = 2 ∨ s = 3 ∨ s = 4 ∨ s = 5 ∨ s = 6 ∨ s = 7 ∨ s = 8 ∨ s = 9 ∨ s = 10 ∨ s = 11 ∨ s = 12 := by omega
  rcases this with rfl | rfl | rfl | rfl | rfl | rfl | rfl | rfl | rfl | rfl | rfl | rfl <;> rfl
theorem rng6 {s : Int} (h1 : 1 ≤ s) (h2 : s ≤ 20) : rangeU [iU 0, iU (6 * s), iU s] = some (rangeL 0 s 6) := by
  have : s = 1 ∨ s = 2 ∨ s = 3 ∨ s = 4 ∨ s = 5 ∨ s = 6 ∨ s = 7 ∨ s = 8 ∨ s = 9 ∨ s = 10 ∨ s = 11 ∨ s = 12 ∨ s = 13 ∨ s = 14 ∨ s = 15 ∨ s = 16 ∨ s = 17 ∨ s = 18 ∨ s = 19 ∨ s = 20 := by omega
  rcases this with rfl | rfl | rfl | rfl | rfl | rfl | rfl | rfl | rfl | rfl | rfl | rfl | rfl | rfl | rfl | rfl | rfl | rfl | rfl | rfl <;> rfl
theorem factA {s : Int} (h1 : 1 ≤ s) (h2 : s ≤ 12) {i : Nat} (hi : i < 5) : filt s (6 * s + 1).toNat (i * s) ≠ [] ∧ hd (filt s (6 * s + 1).toNat (i * s)) = lo (i * s) s ∧ lst (filt s (6 * s + 1).toNat (i * s)) = K66.hi (i * s) s ∧ ((filt s (6 * s + 1).toNat (i * s)).length : Int) = K66.hi (i * s) s - lo (i * s) s + 1 ∧ ((i : Int) * s) % s = 0 := by
  obtain ⟨a, ha, rfl⟩ := twelve h1 h2
  have h := List.all_eq_true.mp (List.all_eq_true.mp okA a (List.mem_range.mpr ha)) i (List.mem_range.mpr hi)
  have e : (6 * ((a : Int) + 1) + 1).toNat = 6 * (a + 1) + 1 := by omega
  rw [e]
  simp only [Bool.and_eq_true, Bool.not_eq_true', beq_iff_eq] at h
  obtain ⟨⟨⟨⟨k1, k2⟩, k3⟩, k4⟩, k5⟩ := h
  exact ⟨fun z => (by rw [z] at k1; exact Bool.noConfusion k1), k2, k3, k4, k5⟩
theorem factB {s : Int} (h1 : 1 ≤ s) (h2 : s ≤ 12) {i : Nat} (hi : i < 40) : ¬ (s < mx (sh i s - i) (i - sh i s) * 2) ∧ sh i s % s = 0 ∧ ¬ (2 * (sh i s - i) = -s) := by
  obtain ⟨a, ha, rfl⟩ := twelve h1 h2
  have h := List.all_eq_true.mp (List.all_eq_true.mp okB' a (List.mem_range.mpr ha)) i (List.mem_range.mpr hi)
  simp only [Bool.and_eq_true, Bool.not_eq_true', beq_iff_eq, decide_eq_false_iff_not, beq_eq_false_iff_ne] at h
  exact ⟨h.1.1, h.1.2, h.2⟩
theorem factC1 {s : Int} (h1 : 1 ≤ s) (h2 : s ≤ 12) {i : Nat} (hi : i < 4) : filt s 60 (i * s) ≠ [] ∧ hd (filt s 60 (i * s)) = lo (i * s) s ∧ lst (filt s 60 (i * s)) = K66.hi (i * s) s ∧ ((i : Int) * s) % s = 0 ∧ (filt s 60 (i * s)).length ≤ 60 ∧ ∀ w ∈ filt s 60 (i * s), 0 ≤ w ∧ w ≤ 60 := by
  obtain ⟨a, ha, rfl⟩ := twelve h1 h2
  have h := List.all_eq_true.mp (List.all_eq_true.mp okC1 a (List.mem_range.mpr ha)) i (List.mem_range.mpr hi)
  simp only [Bool.and_eq_true, Bool.not_eq_true', beq_iff_eq, decide_eq_true_eq] at h
  obtain ⟨⟨⟨⟨⟨k1, k2⟩, k3⟩, k4⟩, k5⟩, k6⟩ := h
  refine ⟨fun z => (by rw [z] at k1; exact Bool.noConfusion k1), k2, k3, k4, k5, fun w hw => ?_⟩
  have := List.all_eq_true.mp k6 w hw
  simp only [Bool.and_eq_true, decide_eq_true_eq] at this
  exact this
theorem factC (okC : ∀ a, a < 12 → chkC a = true) {s c : Int} (h1 : 1 ≤ s) (h2 : s ≤ 12) (h3 : 1 ≤ c) (h4 : c ≤ 20) {i j k : Nat} (hi : i < 4) (hj : j < 4) (hk : k < 6) :
    decide (mx (lo (i * s) s + lo (j * s) s) (lo (k * c) c) ≤ mn (K66.hi (i * s) s + K66.hi (j * s) s) (K66.hi (k * c) c)) = (whs (filt s 60 (i * s)) (filt s 60 (j * s)) c).any fun z => z == k * c := by
  obtain ⟨a, ha, rfl⟩ := twelve h1 h2
  obtain ⟨b, hb, rfl⟩ : ∃ b : Nat, b < 20 ∧ c = b + 1 := ⟨(c - 1).toNat, by omega, by omega⟩
  have h := List.all_eq_true.mp (List.all_eq_true.mp (List.all_eq_true.mp (List.all_eq_true.mp (okC a ha) i (List.mem_range.mpr hi)) j (List.mem_range.mpr hj)) b (List.mem_range.mpr hb)) k (List.mem_range.mpr hk)
  exact eq_of_beq h
theorem at_hd {g : List Int} (hg : g ≠ []) : L2.atI ((g.map PyData.int).map U.v) 0 = some (iU (hd g)) := by
  have := at_row (rows := g) (i := 0) (List.length_pos_iff.mpr hg)
  rw [List.map_map]
  exact this
theorem at_lst {g : List Int} (hg : g ≠ []) : L2.atI ((g.map PyData.int).map U.v) ((g.length : Int) - 1) = some (iU (lst g)) := by
  have hl : 0 < g.length := List.length_pos_iff.mpr hg
  have := at_row (rows := g) (i := g.length - 1) (by omega)
  rw [List.map_map]
  rw [show ((g.length - 1 : Nat) : Int) = (g.length : Int) - 1 by omega] at this
  exact this
theorem so2 {a b : Int} (st : Store) : pcall CC 17 [.v (.tuple [.int a, .int b]), .v (.tuple [.int a, .int b])] st = .ok (.v (.bool true)) st :=
  pcall2 (so_true (P := prog) (k := 17) rfl (m := .tuple [.int a, .int b]) rfl (by show max 1 (max 1 0) + 1 ≤ 11; decide) [])
end K66

namespace K66
open PySem PI
theorem en_intro {P : PI.Env → Prop} {rows : List Int} {s : Int} {ρ0 : PI.Env} (e : En rows s ρ0) (h : ∀ ρ, En rows s ρ → P ρ) : P ρ0 := h _ e
theorem items {lo c : Int} {n i : Nat} {x : U} (h : (rangeL lo c n)[i]? = some x) : i < n ∧ x = iU (lo + (i : Nat) * c) := by
  have hi : i < n := by
    have := (List.getElem?_eq_some_iff.mp h).1
    rwa [rangeL_len] at this
  rw [rangeL_get lo c n i hi] at h
  exact ⟨hi, (Option.some.inj h).symm⟩
theorem pk2 {a b : Int} {st : Store} : pack [iU a, iU b] st = some ([.int a, .int b], st) := rfl
theorem mk2 {a b : Int} {st : Store} : mkT [.int a, .int b] st = .ok (.v (.tuple [.int a, .int b])) st := rfl
/-- the first loop's test -/
theorem testA {rows : List Int} {s : Int} {ρ : PI.Env} (E : En rows s ρ) (h1 : 1 ≤ s) (h2 : s ≤ 12) {i : Nat} (hi : i < 5) (h4 : ρ[4]? = some (some (iU (i * s)))) (h5 : ρ[5]? = some (some (.v (.list ((filt s (6 * s + 1).toNat (i * s)).map .int))))) (st : Store) :
    (evalE CC 0 (.orT (.notT (.call true 17 (.cons (.call true 10 (.cons (.var 4) (.cons (.var 3) .nil))) (.cons (.tup (.cons (.ix (.var 5) (.con (.int 0))) (.cons (.ix (.var 5) (.op .Sub false (.bi .len (.cons (.var 5) .nil)) (.con (.int 1)))) .nil))) .nil)))) (.cmp .NotEq (.bi .len (.cons (.var 5) .nil)) (.op .Add false (.op .Sub false (.ix (.var 5) (.op .Sub false (.bi .len (.cons (.var 5) .nil)) (.con (.int 1)))) (.ix (.var 5) (.con (.int 0)))) (.con (.int 1))))) ρ st).bind (fun x st => okT st (truth st x)) = .ok false st := by
  obtain ⟨g0, g1, g2, g3, g4⟩ := factA h1 h2 hi
  generalize filt s (6 * s + 1).toNat (i * s) = g at *
  have hn : 0 ≤ (i : Int) * s := Int.mul_nonneg (by omega) (by omega)
  have hm : (i : Int) * s ≤ 1001000 := by
    have : (i : Int) * s ≤ 4 * 12 := Int.mul_le_mul (by omega) h2 (by omega) (by omega)
    omega
  have e1 := pcall2 (st := st) (could_be (D := 11) (by omega) h1 (by omega) hn hm g4)
  have e2 := at_hd g0
  have e3 := at_lst g0
  rw [g1] at e2
  rw [g2, g3] at e3
  have e4 := so2 (a := lo (i * s) s) (b := K66.hi (i * s) s) st
  simp only [evalE, evalEs, E.r3, h4, h5, bind_ok1, if_true, e1, ix_l, e2, e3, bi_lenL, List.length_map, opR_int, opI_sub, opI_add, okU_some, pk2, mk2, e4, truth_b, okT_some, Bool.not_true, Bool.false_eq_true, if_false, cmp_ne, okB_some, g3, beq_self_eq_true]
theorem loopA {rows : List Int} {s : Int} {ρ : PI.Env} (E : En rows s ρ) (h1 : 1 ≤ s) (h2 : s ≤ 12) (k : Nat) {B K : PI.Env → Store → Prop} {Rt : U → Store → Prop} {b : Ss} (hb : b = (.cons (.asg (.nm 5) (.comp false [6] (.var 6) (.nm 6) (.range (.cons (.con (.int 0)) (.cons (.op .Add false (.op .Mult false (.con (.int 6)) (.var 3)) (.con (.int 1))) .nil))) (.cons (.cmp .Eq (.call true 9 (.cons (.var 6) (.cons (.var 3) .nil))) (.var 4)) .nil))) (.cons (.iff (.orT (.notT (.call true 17 (.cons (.call true 10 (.cons (.var 4) (.cons (.var 3) .nil))) (.cons (.tup (.cons (.ix (.var 5) (.con (.int 0))) (.cons (.ix (.var 5) (.op .Sub false (.bi .len (.cons (.var 5) .nil)) (.con (.int 1)))) .nil))) .nil)))) (.cmp .NotEq (.bi .len (.cons (.var 5) .nil)) (.op .Add false (.op .Sub false (.ix (.var 5) (.op .Sub false (.bi .len (.cons (.var 5) .nil)) (.con (.int 1)))) (.ix (.var 5) (.con (.int 0)))) (.con (.int 1))))) (.cons (.ret (.con (.bool false))) .nil) .nil) .nil))) :
    satT CC 0 (.for (.nm 4) (.range (.cons (.con (.int 0)) (.cons (.op .Mult false (.con (.int 5)) (.var 3)) (.cons (.var 3) .nil)))) b) ρ (stK k) (fun ρ st => En rows s ρ ∧ st = stK k) B K Rt := by
  subst hb
  have m5 : mulOk 5 s = true := mulOk_l (by decide)
  have m6 : mulOk 6 s = true := mulOk_l (by decide)
  have he : evalEs CC 0 (.cons (.con (.int 0)) (.cons (.op .Mult false (.con (.int 5)) (.var 3)) (.cons (.var 3) .nil))) ρ (stK k) = .ok [iU 0, iU (5 * s), iU s] (stK k) := by
    simp only [evalE, evalEs, E.r3, bind_ok1, opR_int, opI_mul m5]
  refine sat_for (evalI_range he (rng5 h1 h2)) (fun _ ρ st => En rows s ρ ∧ st = stK k) ⟨E, rfl⟩ ?_ (fun ρ st h => h)
  rintro i x hx ρ st ⟨E, rfl⟩
  obtain ⟨hi, rfl⟩ := items hx
  rw [show (0 : Int) + (i : Nat) * s = i * s by omega]
  have E4 := E.set (i := 4) (x := some (iU (i * s))) (by omega)
  have hn : ((6 * s + 1).toNat : Int) = 6 * s + 1 := by omega
  have he2 : evalEs CC 0 (.cons (.con (.int 0)) (.cons (.op .Add false (.op .Mult false (.con (.int 6)) (.var 3)) (.con (.int 1))) .nil)) (ρ.set 4 (some (iU (i * s)))) (stK k) = .ok [iU 0, iU ((6 * s + 1).toNat : Int)] (stK k) := by
    simp only [evalE, evalEs, E4.r3, bind_ok1, opR_int, opI_mul m6, opI_add, hn]
  have hg := good_ok (D := 11) (base := 0) (k := 4) (t := i * s) (by omega) E4.len (by omega) h1 (by omega) E4.r3 (get_self (by rw [E.len]; decide)) (by omega) he2
  have E5 := E4.set (i := 5) (x := some (.v (.list ((filt s (6 * s + 1).toNat (i * s)).map .int)))) (by omega)
  refine ⟨ρ.set 4 (some (iU (i * s))), by simp [E.len], sat_cons (sat_asg hg (by rw [asg_nm, if_pos (by rw [E4.len]; decide)]) ?_)⟩
  refine sat_cons (sat_if (testA E5 h1 h2 hi (by rw [List.getElem?_set_ne (by omega)]; exact get_self (by rw [E.len]; decide)) (get_self (by rw [E4.len]; decide)) (stK k)) (fun h => (nomatch h)) fun _ => sat_nil (sat_nil ⟨E5, rfl⟩))
end K66

namespace K66
open PySem PI
theorem loopB {rows : List Int} {s : Int} {ρ : PI.Env} (E : En rows s ρ) (h1 : 1 ≤ s) (h2 : s ≤ 12) (k : Nat) {B K : PI.Env → Store → Prop} {Rt : U → Store → Prop} :
    satT CC 0 (.for (.nm 6) (.range (.cons (.con (.int 0)) (.cons (.con (.int 40)) .nil))) (.cons (.asg (.nm 4) (.call true 9 (.cons (.var 6) (.cons (.var 3) .nil)))) (.cons (.iff (.orT (.cmp .Gt (.op .Mult false (.bi .max2 (.cons (.op .Sub false (.var 4) (.var 6)) (.cons (.op .Sub false (.var 6) (.var 4)) .nil))) (.con (.int 2))) (.var 3)) (.orT (.cmp .NotEq (.op .Mod false (.bi .int (.cons (.var 4) .nil)) (.var 3)) (.con (.int 0))) (.cmp .Eq (.op .Mult false (.con (.int 2)) (.op .Sub false (.var 4) (.var 6))) (.neg (.var 3))))) (.cons (.ret (.con (.bool false))) .nil) .nil) .nil))) ρ (stK k) (fun ρ st => En rows s ρ ∧ st = stK k) B K Rt := by
  have he : evalEs CC 0 (.cons (.con (.int 0)) (.cons (.con (.int 40)) .nil)) ρ (stK k) = .ok [iU 0, iU ((40 : Nat) : Int)] (stK k) := rfl
  refine sat_for (evalI_range he (range_two (by decide))) (fun _ ρ st => En rows s ρ ∧ st = stK k) ⟨E, rfl⟩ ?_ (fun ρ st h => h)
  rintro i x hx ρ st ⟨E, rfl⟩
  obtain ⟨hi, rfl⟩ := items hx
  rw [show (0 : Int) + (i : Nat) * 1 = i by omega]
  obtain ⟨f1, f2, f3⟩ := factB h1 h2 hi
  have E6 := E.set (i := 6) (x := some (iU i)) (by omega)
  have E4 := E6.set (i := 4) (x := some (iU (sh i s))) (by omega)
  have g6 : ((ρ.set 6 (some (iU i))).set 4 (some (iU (sh i s))))[6]? = some (some (iU i)) := by
    rw [List.getElem?_set_ne (by omega)]; exact get_self (by rw [E.len]; decide)
  have g4 : ((ρ.set 6 (some (iU i))).set 4 (some (iU (sh i s))))[4]? = some (some (iU (sh i s))) := get_self (by rw [E6.len]; decide)
  have hs := pcall2 (st := stK k) (shown_ok (D := 11) (by omega) h1 (by omega) (w := (i : Int)) (by omega) (by omega))
  have m1 : ∀ z : Int, mulOk z 2 = true := fun z => mulOk_r (by decide)
  have m2 : ∀ z : Int, mulOk 2 z = true := fun z => mulOk_l (by decide)
  have ea : evalE CC 0 (.call true 9 (.cons (.var 6) (.cons (.var 3) .nil))) (ρ.set 6 (some (iU i))) (stK k) = .ok (iU (sh i s)) (stK k) := by
    have q : (ρ.set 6 (some (iU i)))[6]? = some (some (iU i)) := get_self (by rw [E.len]; decide)
    simp only [evalE, evalEs, E6.r3, q, bind_ok1, if_true, hs]
  refine ⟨ρ.set 6 (some (iU i)), by simp [E.len], sat_cons (sat_asg ea (by rw [asg_nm, if_pos (by rw [E6.len]; decide)]) ?_)⟩
  refine sat_cons (sat_if (k := false) (st1 := stK k) ?_ (fun h => (nomatch h)) fun _ => sat_nil (sat_nil ⟨E4, rfl⟩))
  have f1' : decide (s < (if (i : Int) - sh i s > sh i s - i then (i : Int) - sh i s else sh i s - i) * 2) = false := decide_eq_false f1
  have f3' : (2 * (sh i s - (i : Int)) == -s) = false := by simpa using f3
  simp only [evalE, evalEs, E4.r3, g4, g6, bind_ok1, opR_int, opI_sub, bi_max2, opI_mul (m1 _), opI_mul (m2 _), cmp_gt, okB_some, truth_b, okT_some, f1', Bool.false_eq_true, if_false, bi_int, opI_mod (show 0 < s by omega), f2, cmp_ne, beq_self_eq_true, Bool.not_true, cmp_eq, f3']
/-- [shown(a + b, coarse) for b in seconds] -/
theorem inner_ok {rows : List Int} {s : Int} {ρ : PI.Env} (E : En rows s ρ) {a c : Int} {g : List Int} (hc : 1 ≤ c) (hc2 : c ≤ 20) (ha : 0 ≤ a ∧ a ≤ 60) (hg : ∀ w ∈ g, 0 ≤ w ∧ w ≤ 60) (hl : g.length ≤ 60) (g7 : ρ[7]? = some (some (iU c))) (g12 : ρ[12]? = some (some (.v (.list (g.map .int))))) (g14 : ρ[14]? = some (some (iU a))) (st : Store) :
    evalE CC 0 (.comp false [16] (.call true 9 (.cons (.op .Add false (.var 14) (.var 16)) (.cons (.var 7) .nil))) (.nm 16) (.seq (.var 12)) .nil) ρ st = .ok (.v (.list ((g.map fun b => sh (a + b) c).map .int))) st := by
  have hit : evalI CC 0 (.seq (.var 12)) ρ st = .ok ⟨(g.map PyData.int).map .v, []⟩ st := evalI_seq (by simp only [evalE, g12])
  refine Eq.trans (comp_ok (f := fun w => match w with
    | .int b => some (.int (sh (a + b) c))
    | _ => none) hit (by simp; omega) fun x hx => ?_) ?_
  · obtain ⟨b, hb, rfl⟩ := List.mem_map.mp hx
    have hb := hg b hb
    refine ⟨(ρ.set 16 none).set 16 (some (iU b)), by simp [PI.wipe, E.len], rfl, ?_⟩
    have q7 : ((ρ.set 16 none).set 16 (some (iU b)))[7]? = some (some (iU c)) := by
      rw [List.getElem?_set_ne (by decide), List.getElem?_set_ne (by decide)]; exact g7
    have q14 : ((ρ.set 16 none).set 16 (some (iU b)))[14]? = some (some (iU a)) := by
      rw [List.getElem?_set_ne (by decide), List.getElem?_set_ne (by decide)]; exact g14
    have q16 : ((ρ.set 16 none).set 16 (some (iU b)))[16]? = some (some (iU b)) := get_self (by rw [List.length_set, E.len]; decide)
    have hs := pcall2 (st := st) (shown_ok (D := 11) (by omega) hc (by omega) (w := a + b) (by omega) (by omega))
    simp only [evalE, evalEs, q7, q14, q16, bind_ok1, opR_int, opI_add, if_true, hs]
  · congr 3
    rw [List.filterMap_map, List.map_map, ← List.filterMap_eq_map]
    rfl
end K66

namespace K66
open PySem PI
/-- the names of a turn: coarse, one, other, firsts, seconds -/
structure Tn (rows : List Int) (s c : Int) (p q : Int) (f g : List Int) (ρ : PI.Env) : Prop where
  en : En rows s ρ
  r7 : ρ[7]? = some (some (iU c))
  r9 : ρ[9]? = some (some (iU p))
  r10 : ρ[10]? = some (some (iU q))
  r11 : ρ[11]? = some (some (.v (.list (f.map .int))))
  r12 : ρ[12]? = some (some (.v (.list (g.map .int))))
theorem Tn.set {rows : List Int} {s c p q : Int} {f g : List Int} {ρ : PI.Env} (t : Tn rows s c p q f g ρ) {i : Nat} {x : Option U} (hi : 13 ≤ i) : Tn rows s c p q f g (ρ.set i x) where
  en := t.en.set (by omega)
  r7 := by rw [List.getElem?_set_ne (by omega)]; exact t.r7
  r9 := by rw [List.getElem?_set_ne (by omega)]; exact t.r9
  r10 := by rw [List.getElem?_set_ne (by omega)]; exact t.r10
  r11 := by rw [List.getElem?_set_ne (by omega)]; exact t.r11
  r12 := by rw [List.getElem?_set_ne (by omega)]; exact t.r12
theorem add_lists {a b : List Int} {st : Store} (h : a.length + b.length ≤ 100000) : opR .Add false (.v (.list (a.map .int))) (.v (.list (b.map .int))) st = .ok (.v (.list ((a ++ b).map .int))) st := by
  have hl : ((a.map PyData.int).map U.v).length + ((b.map PyData.int).map U.v).length ≤ lim := by
    simp only [List.length_map]
    exact Nat.le_trans h (by decide)
  show (match seqOf st (.v (.list (a.map .int))), seqOf st (.v (.list (b.map .int))) with
    | some xs, some ys => if xs.length + ys.length ≤ lim then
          if isL (.v (.list (a.map .int))) && isL (.v (.list (b.map .int))) then mkL false (xs ++ ys) st
          else if isT (.v (.list (a.map .int))) && isT (.v (.list (b.map .int))) then match pures (xs ++ ys) with
            | some ws => .ok (.v (.tuple ws)) st
            | none => .bad
          else .bad
        else .bad
    | _, _ => .bad) = _
  simp only [seq_l]
  rw [if_pos hl]
  refine Eq.trans (if_pos rfl) ?_
  rw [← List.map_append, ← List.map_append]
  exact mkL_f (by rw [List.length_map, List.length_append]; exact h)
theorem loopW {rows : List Int} {s c p q : Int} {f g : List Int} {ρ : PI.Env} (t : Tn rows s c p q f g ρ) (hc : 1 ≤ c) (hc2 : c ≤ 20) (hf : ∀ w ∈ f, 0 ≤ w ∧ w ≤ 60) (hfl : f.length ≤ 60) (hg : ∀ w ∈ g, 0 ≤ w ∧ w ≤ 60) (hgl : g.length ≤ 60) (h13 : ρ[13]? = some (some (.v (.list [])))) (k : Nat) {B K : PI.Env → Store → Prop} {Rt : U → Store → Prop} :
    satT CC 0 (.for (.nm 14) (.seq (.var 11)) (.cons (.asg (.nm 13) (.op .Add false (.var 13) (.comp false [16] (.call true 9 (.cons (.op .Add false (.var 14) (.var 16)) (.cons (.var 7) .nil))) (.nm 16) (.seq (.var 12)) .nil))) .nil)) ρ (stK k)
      (fun ρ st => Tn rows s c p q f g ρ ∧ st = stK k ∧ ρ[13]? = some (some (.v (.list ((whs f g c).map .int))))) B K Rt := by
  have hit : evalI CC 0 (.seq (.var 11)) ρ (stK k) = .ok ⟨(f.map PyData.int).map .v, []⟩ (stK k) := evalI_seq (by simp only [evalE, t.r11])
  refine sat_for hit (fun i ρ st => Tn rows s c p q f g ρ ∧ st = stK k ∧ ρ[13]? = some (some (.v (.list ((whs (f.take i) g c).map .int))))) ⟨t, rfl, h13⟩ ?_ ?_
  · rintro i x hx ρ st ⟨t, rfl, h13⟩
    have hi : i < f.length := by
      have := (List.getElem?_eq_some_iff.mp hx).1
      simpa using this
    have hx : x = iU f[i] := by
      rw [List.map_map, List.getElem?_map, List.getElem?_eq_getElem hi] at hx
      exact (Option.some.inj hx).symm
    subst hx
    have t2 := t.set (i := 14) (x := some (iU f[i])) (by omega)
    have g14 : (ρ.set 14 (some (iU f[i])))[14]? = some (some (iU f[i])) := get_self (by rw [t.en.len]; decide)
    have g13 : (ρ.set 14 (some (iU f[i])))[13]? = some (some (.v (.list ((whs (f.take i) g c).map .int)))) := by
      rw [List.getElem?_set_ne (by decide)]; exact h13
    have hin := inner_ok t2.en hc hc2 (hf _ (List.getElem_mem hi)) hg hgl t2.r7 t2.r12 g14 (stK k)
    have hlen : (whs (f.take i) g c).length + (g.map fun b => sh (f[i] + b) c).length ≤ 100000 := by
      have h1 : (whs (f.take i) g c).length ≤ 60 * 60 := by
        unfold whs
        have : ∀ l : List Int, (l.flatMap fun a => g.map fun b => sh (a + b) c).length = l.length * g.length := fun l => by
          induction l with
          | nil => simp
          | cons a l ih => rw [List.flatMap_cons, List.length_append, ih, List.length_map, List.length_cons, Nat.succ_mul]; omega
        rw [this, List.length_take]
        exact Nat.mul_le_mul (by omega) hgl
      rw [List.length_map]
      omega
    have hev : evalE CC 0 (.op .Add false (.var 13) (.comp false [16] (.call true 9 (.cons (.op .Add false (.var 14) (.var 16)) (.cons (.var 7) .nil))) (.nm 16) (.seq (.var 12)) .nil)) (ρ.set 14 (some (iU f[i]))) (stK k) = .ok (.v (.list ((whs (f.take i) g c ++ g.map fun b => sh (f[i] + b) c).map .int))) (stK k) := by
      rw [evalE]
      simp only [evalE.eq_1, g13]
      rw [bind_ok1, hin, bind_ok1]
      exact add_lists hlen
    refine ⟨ρ.set 14 (some (iU f[i])), by simp [t.en.len], sat_cons (sat_asg hev (by rw [asg_nm, if_pos (by rw [t2.en.len]; decide)]) (sat_nil ⟨t2.set (by omega), rfl, ?_⟩))⟩
    have hw : whs (f.take (i + 1)) g c = whs (f.take i) g c ++ g.map fun b => sh (f[i] + b) c := by
      unfold whs
      rw [List.take_add_one, List.getElem?_eq_getElem hi, List.flatMap_append]
      simp
    rw [get_self (by rw [t2.en.len]; decide), hw]
  · rintro ρ st ⟨t, rfl, h13⟩
    refine ⟨t, rfl, ?_⟩
    show ρ[13]? = _
    rw [h13]
    congr 4
    rw [List.take_of_length_le (by simp)]
end K66

namespace K66
open PySem PI
theorem any_eqv {x : Int} : ∀ l : List Int, ((l.map PyData.int).any fun z => PyData.eqv z (.int x)) = l.any fun z => z == x
  | [] => rfl
  | a :: l => by
    rw [List.map_cons, List.any_cons, any_eqv l, List.any_cons]
    congr 1
theorem flat_ints : ∀ l : List Int, (l.map PyData.int).all flat = true
  | [] => rfl
  | a :: l => by rw [List.map_cons, List.all_cons, flat_ints l]; rfl
theorem in_ok {x : Int} {l : List Int} {st : Store} : cmpU st .In (iU x) (.v (.list (l.map .int))) = some (l.any fun z => z == x) := by
  show inU st (iU x) (.v (.list (l.map .int))) = _
  unfold inU
  simp only [snap, seq_l, pures_v, flat, flat_ints, Bool.true_and, Bool.true_or, if_true, any_eqv]
theorem ne_bool {b : Bool} {st : Store} : cmpU st .NotEq (.v (.bool b)) (.v (.bool b)) = some false := by cases b <;> rfl
theorem loopH (okC : ∀ a, a < 12 → chkC a = true) {rows : List Int} {s c : Int} {i j : Nat} {ρ : PI.Env} (t : Tn rows s c (i * s) (j * s) (filt s 60 (i * s)) (filt s 60 (j * s)) ρ) (h1 : 1 ≤ s) (h2 : s ≤ 12) (hc : 1 ≤ c) (hc2 : c ≤ 20) (hi : i < 4) (hj : j < 4) (h13 : ρ[13]? = some (some (.v (.list ((whs (filt s 60 (i * s)) (filt s 60 (j * s)) c).map .int))))) (k : Nat) {B K : PI.Env → Store → Prop} {Rt : U → Store → Prop} :
    satT CC 0 (.for (.nm 15) (.range (.cons (.con (.int 0)) (.cons (.op .Mult false (.con (.int 6)) (.var 7)) (.cons (.var 7) .nil)))) (.cons (.iff (.cmp .NotEq (.call true 12 (.cons (.tup (.cons (.var 9) (.cons (.var 10) .nil))) (.cons (.var 3) (.cons (.var 15) (.cons (.var 7) .nil))))) (.cmp .In (.var 15) (.var 13))) (.cons (.ret (.con (.bool false))) .nil) .nil) .nil)) ρ (stK k)
      (fun ρ st => Tn rows s c (i * s) (j * s) (filt s 60 (i * s)) (filt s 60 (j * s)) ρ ∧ st = stK k) B K Rt := by
  have m6 : mulOk 6 c = true := mulOk_l (by decide)
  have he : evalEs CC 0 (.cons (.con (.int 0)) (.cons (.op .Mult false (.con (.int 6)) (.var 7)) (.cons (.var 7) .nil))) ρ (stK k) = .ok [iU 0, iU (6 * c), iU c] (stK k) := by
    simp only [evalE, evalEs, t.r7, bind_ok1, opR_int, opI_mul m6]
  have bi : ∀ {n : Nat}, n < 4 → 0 ≤ (n : Int) * s ∧ (n : Int) * s ≤ 1001000 := fun {n} hn => by
    have : (n : Int) * s ≤ 3 * 12 := Int.mul_le_mul (by omega) h2 (by omega) (by omega)
    exact ⟨Int.mul_nonneg (by omega) (by omega), by omega⟩
  have ci := factC1 h1 h2 hi
  have cj := factC1 h1 h2 hj
  refine sat_for (evalI_range he (rng6 hc hc2)) (fun _ ρ st => Tn rows s c (i * s) (j * s) (filt s 60 (i * s)) (filt s 60 (j * s)) ρ ∧ st = stK k ∧ ρ[13]? = some (some (.v (.list ((whs (filt s 60 (i * s)) (filt s 60 (j * s)) c).map .int))))) ⟨t, rfl, h13⟩ ?_ (fun ρ st h => ⟨h.1, h.2.1⟩)
  rintro n x hx ρ st ⟨t, rfl, h13⟩
  obtain ⟨hn, rfl⟩ := items hx
  rw [show (0 : Int) + (n : Nat) * c = n * c by omega]
  have t2 := t.set (i := 15) (x := some (iU (n * c))) (by omega)
  have g15 : (ρ.set 15 (some (iU (n * c))))[15]? = some (some (iU (n * c))) := get_self (by rw [t.en.len]; decide)
  have g13 : (ρ.set 15 (some (iU (n * c))))[13]? = some (some (.v (.list ((whs (filt s 60 (i * s)) (filt s 60 (j * s)) c).map .int)))) := by
    rw [List.getElem?_set_ne (by decide)]; exact h13
  have b0 : 0 ≤ (n : Int) * c := Int.mul_nonneg (by omega) (by omega)
  have b1 : (n : Int) * c ≤ 10000000 := by
    have : (n : Int) * c ≤ 5 * 20 := Int.mul_le_mul (by omega) hc2 (by omega) (by omega)
    omega
  have hh := pcall4 (st := stK k) (honest (D := 11) (by omega) h1 (by omega) (bi hi).1 (bi hi).2 (bi hj).1 (bi hj).2 ci.2.2.2.1 cj.2.2.2.1 b0 b1 hc (by omega) (Int.mul_emod_left _ _))
  have fc := factC okC h1 h2 hc hc2 hi hj hn
  rw [fc] at hh
  refine ⟨ρ.set 15 (some (iU (n * c))), by simp [t.en.len], sat_cons (sat_if (k := false) (st1 := stK k) ?_ (fun h => (nomatch h)) fun _ => sat_nil (sat_nil ⟨t2, rfl, g13⟩))⟩
  simp only [evalE, evalEs, t2.r9, t2.r10, t2.r7, t2.en.r3, g15, g13, bind_ok1, pk2, mk2, if_true, hh, in_ok, okB_some, ne_bool, truth_b, okT_some]
/-- the last test of a turn -/
theorem testZ {rows : List Int} {s c : Int} {i j : Nat} {ρ : PI.Env} (t : Tn rows s c (i * s) (j * s) (filt s 60 (i * s)) (filt s 60 (j * s)) ρ) (h1 : 1 ≤ s) (h2 : s ≤ 12) (hi : i < 4) (hj : j < 4) (st : Store) :
    (evalE CC 0 (.notT (.call true 17 (.cons (.call true 11 (.cons (.tup (.cons (.var 9) (.cons (.var 10) .nil))) (.cons (.var 3) .nil))) (.cons (.tup (.cons (.op .Add false (.ix (.var 11) (.con (.int 0))) (.ix (.var 12) (.con (.int 0)))) (.cons (.op .Add false (.ix (.var 11) (.op .Sub false (.bi .len (.cons (.var 11) .nil)) (.con (.int 1)))) (.ix (.var 12) (.op .Sub false (.bi .len (.cons (.var 12) .nil)) (.con (.int 1))))) .nil))) .nil)))) ρ st).bind (fun x st => okT st (truth st x)) = .ok false st := by
  have bi : ∀ {n : Nat}, n < 4 → 0 ≤ (n : Int) * s ∧ (n : Int) * s ≤ 1001000 := fun {n} hn => by
    have : (n : Int) * s ≤ 3 * 12 := Int.mul_le_mul (by omega) h2 (by omega) (by omega)
    exact ⟨Int.mul_nonneg (by omega) (by omega), by omega⟩
  obtain ⟨i0, i1, i2, i3, _, _⟩ := factC1 h1 h2 hi
  obtain ⟨j0, j1, j2, j3, _, _⟩ := factC1 h1 h2 hj
  have hb := pcall2 (st := st) (between (D := 11) (by omega) h1 (by omega) (bi hi).1 (bi hi).2 (bi hj).1 (bi hj).2 i3 j3)
  have a1 := at_hd i0
  have a2 := at_hd j0
  have a3 := at_lst i0
  have a4 := at_lst j0
  rw [i1] at a1
  rw [j1] at a2
  rw [i2] at a3
  rw [j2] at a4
  have e4 := so2 (a := lo (i * s) s + lo (j * s) s) (b := K66.hi (i * s) s + K66.hi (j * s) s) st
  simp only [evalE, evalEs, t.r9, t.r10, t.r11, t.r12, t.en.r3, bind_ok1, pk2, mk2, if_true, hb, ix_l, a1, a2, a3, a4, bi_lenL, List.length_map, opR_int, opI_sub, opI_add, okU_some, e4, truth_b, okT_some, Bool.not_true]
end K66

namespace K66
open PySem PI
theorem con_ok {C : Call} {b : Nat} {w : W} {ρ : PI.Env} {st : Store} : evalE C b (.con w) ρ st = .ok (.v w) st := by simp only [evalE]
theorem four {rows : List Int} {k : Nat} : ∃ a : Nat, a < 4 ∧ drawI rows k 4 = a := by
  have := drawI_nn (rows := rows) (i := k) (l := 4) (by decide)
  exact ⟨(drawI rows k 4).toNat, by omega, by omega⟩
theorem law_ok (okC : ∀ a, a < 12 → chkC a = true) (ns : List Int) : callD prog 12 21 [.v (scr (ns.map .int))] [] = .ok (.v (.bool true)) [] := by
  obtain ⟨rows, hr, _, hnum⟩ := nums_ok (P := prog) (d := 10) (f := 18) rfl ns
  have hnum : callD prog 11 18 [.v (scr (ns.map .int))] [] = .ok (rowU rows) [] := hnum
  obtain ⟨u, st', e, rfl, rfl⟩ := call_of (Q := fun u st' => u = .v (.bool true) ∧ st' = []) (P := prog) (d := 11) (f := 21) (F := f21) rfl (us := [.v (scr (ns.map .int))]) (st := []) rfl (by
    have hs0 := drawI_nn (rows := rows) (i := 0) (l := 12) (by decide)
    have hc0 := drawI_nn (rows := rows) (i := 1) (l := 20) (by decide)
    refine sat_cons (sat_asg (u := rowU rows) (st1 := []) (by
      show evalE CC 0 (.call true 18 (.cons (.var 0) .nil)) (some (.v (scr (ns.map .int))) :: _) [] = _
      simp only [evalE, evalEs, List.getElem?_cons_zero, bind_ok1, if_true, pcall1 hnum]) rfl ?_)
    refine sat_cons (sat_asg (u := .ref 0) (st1 := stK 0) (by simp [evalE, evalEs, mkL, lim]) rfl ?_)
    refine sat_cons (sat_asg (u := iU (1 + drawI rows 0 12)) (st1 := stK 1) (by
      have := draw_at hr (ρ := [some (.v (scr (ns.map .int))), some (rowU rows), some (.ref 0), none, none, none, none, none, none, none, none, none, none, none, none, none, none]) rfl rfl (l := 12) (by decide) 0
      show evalE CC 0 (.op .Add false (.con (.int 1)) (.call false 20 (.cons (.var 1) (.cons (.var 2) (.cons (.con (.int 12)) .nil))))) [some (.v (scr (ns.map .int))), some (rowU rows), some (.ref 0), none, none, none, none, none, none, none, none, none, none, none, none, none, none] (stK 0) = _
      rw [evalE, con_ok, bind_ok1, this]
      rfl) rfl ?_)
    generalize hs : 1 + drawI rows 0 12 = s
    have h1 : 1 ≤ s := by omega
    have h2 : s ≤ 12 := by omega
    refine en_intro (rows := rows) (s := s) (P := fun ρ => satS CC 0 _ ρ _ _ _ _ _) ⟨rfl, rfl, rfl, rfl⟩ fun ρ E => ?_
    refine sat_cons ((loopA E h1 h2 1 rfl).mono ?_ fun _ _ h => h)
    rintro ρ st ⟨E, rfl⟩
    refine sat_cons ((loopB E h1 h2 1).mono ?_ fun _ _ h => h)
    rintro ρ st ⟨E, rfl⟩
    have hco : evalE CC 0 (.op .Add false (.con (.int 1)) (.call false 20 (.cons (.var 1) (.cons (.var 2) (.cons (.con (.int 20)) .nil))))) ρ (stK 1) = .ok (iU (1 + drawI rows 1 20)) (stK 2) := by
      rw [evalE, con_ok, bind_ok1, draw_at hr E.r1 E.r2 (by decide) 1]
      rfl
    refine sat_cons (sat_asg hco (by rw [asg_nm, if_pos (by rw [E.len]; decide)]) ?_)
    generalize hc : 1 + drawI rows 1 20 = c
    have h3 : 1 ≤ c := by omega
    have h4 : c ≤ 20 := by omega
    have E7 := E.set (i := 7) (x := some (iU c)) (by omega)
    have r7 : (ρ.set 7 (some (iU c)))[7]? = some (some (iU c)) := get_self (by rw [E.len]; decide)
    refine sat_cons (sat_for (xs := rangeL 0 1 3) (lk := []) (st1 := stK 2) (evalI_range (us := [iU 3]) rfl (range_one (n := 3) (by decide))) (fun _ ρ st => En rows s ρ ∧ ρ[7]? = some (some (iU c)) ∧ ∃ k, st = stK k) ⟨E7, r7, 2, rfl⟩ ?_ ?_)
    · rintro n x hx ρ st ⟨E, r7, k, rfl⟩
      have E8 := E.set (i := 8) (x := some x) (by omega)
      refine ⟨ρ.set 8 (some x), by simp [E.len], ?_⟩
      have r7 : (ρ.set 8 (some x))[7]? = some (some (iU c)) := by rw [List.getElem?_set_ne (by decide)]; exact r7
      generalize ρ.set 8 (some x) = ρ at E8 r7
      obtain ⟨i, hi, ei⟩ := four (rows := rows) (k := k)
      obtain ⟨j, hj, ej⟩ := four (rows := rows) (k := k + 1)
      have ms : ∀ z : Int, mulOk s z = true := fun z => mulOk_l (by omega)
      have e9 : evalE CC 0 (.op .Mult false (.var 3) (.call false 20 (.cons (.var 1) (.cons (.var 2) (.cons (.con (.int 4)) .nil))))) ρ (stK k) = .ok (iU (i * s)) (stK (k + 1)) := by
        rw [evalE]
        simp only [evalE.eq_1, E8.r3]
        rw [bind_ok1, draw_at hr E8.r1 E8.r2 (by decide) k, bind_ok1, ei, opR_int, opI_mul (ms _), Int.mul_comm]
      refine sat_cons (sat_asg e9 (by rw [asg_nm, if_pos (by rw [E8.len]; decide)]) ?_)
      have E9 := E8.set (i := 9) (x := some (iU (i * s))) (by omega)
      have r7 : (ρ.set 9 (some (iU (i * s))))[7]? = some (some (iU c)) := by rw [List.getElem?_set_ne (by decide)]; exact r7
      have r9 : (ρ.set 9 (some (iU (i * s))))[9]? = some (some (iU (i * s))) := get_self (by rw [E8.len]; decide)
      generalize ρ.set 9 (some (iU (i * s))) = ρ at E9 r7 r9
      have e10 : evalE CC 0 (.op .Mult false (.var 3) (.call false 20 (.cons (.var 1) (.cons (.var 2) (.cons (.con (.int 4)) .nil))))) ρ (stK (k + 1)) = .ok (iU (j * s)) (stK (k + 1 + 1)) := by
        rw [evalE]
        simp only [evalE.eq_1, E9.r3]
        rw [bind_ok1, draw_at hr E9.r1 E9.r2 (by decide) (k + 1), bind_ok1, ej, opR_int, opI_mul (ms _), Int.mul_comm]
      refine sat_cons (sat_asg e10 (by rw [asg_nm, if_pos (by rw [E9.len]; decide)]) ?_)
      have E10 := E9.set (i := 10) (x := some (iU (j * s))) (by omega)
      have r7 : (ρ.set 10 (some (iU (j * s))))[7]? = some (some (iU c)) := by rw [List.getElem?_set_ne (by decide)]; exact r7
      have r9 : (ρ.set 10 (some (iU (j * s))))[9]? = some (some (iU (i * s))) := by rw [List.getElem?_set_ne (by decide)]; exact r9
      have r10 : (ρ.set 10 (some (iU (j * s))))[10]? = some (some (iU (j * s))) := get_self (by rw [E9.len]; decide)
      generalize ρ.set 10 (some (iU (j * s))) = ρ at E10 r7 r9 r10
      refine sat_cons (sat_asg (good_ok (D := 11) (base := 0) (k := 9) (n := 60) (t := i * s) (by omega) E10.len (by decide) h1 (by omega) E10.r3 r9 (by decide) rfl) (by rw [asg_nm, if_pos (by rw [E10.len]; decide)]) ?_)
      have E11 := E10.set (i := 11) (x := some (.v (.list ((filt s 60 (i * s)).map .int)))) (by omega)
      have r7 : (ρ.set 11 (some (.v (.list ((filt s 60 (i * s)).map .int)))))[7]? = some (some (iU c)) := by rw [List.getElem?_set_ne (by decide)]; exact r7
      have r9 : (ρ.set 11 (some (.v (.list ((filt s 60 (i * s)).map .int)))))[9]? = some (some (iU (i * s))) := by rw [List.getElem?_set_ne (by decide)]; exact r9
      have r10 : (ρ.set 11 (some (.v (.list ((filt s 60 (i * s)).map .int)))))[10]? = some (some (iU (j * s))) := by rw [List.getElem?_set_ne (by decide)]; exact r10
      have r11 : (ρ.set 11 (some (.v (.list ((filt s 60 (i * s)).map .int)))))[11]? = some (some (.v (.list ((filt s 60 (i * s)).map .int)))) := get_self (by rw [E10.len]; decide)
      generalize ρ.set 11 (some (.v (.list ((filt s 60 (i * s)).map .int)))) = ρ at E11 r7 r9 r10 r11
      refine sat_cons (sat_asg (good_ok (D := 11) (base := 0) (k := 10) (n := 60) (t := j * s) (by omega) E11.len (by decide) h1 (by omega) E11.r3 r10 (by decide) rfl) (by rw [asg_nm, if_pos (by rw [E11.len]; decide)]) ?_)
      have t12 : Tn rows s c (i * s) (j * s) (filt s 60 (i * s)) (filt s 60 (j * s)) (ρ.set 12 (some (.v (.list ((filt s 60 (j * s)).map .int))))) := ⟨E11.set (by omega), by rw [List.getElem?_set_ne (by decide)]; exact r7, by rw [List.getElem?_set_ne (by decide)]; exact r9, by rw [List.getElem?_set_ne (by decide)]; exact r10, by rw [List.getElem?_set_ne (by decide)]; exact r11, get_self (by rw [E11.len]; decide)⟩
      generalize ρ.set 12 (some (.v (.list ((filt s 60 (j * s)).map .int)))) = ρ at t12
      refine sat_cons (sat_asg (u := .v (.list [])) (st1 := stK (k + 1 + 1)) rfl (by rw [asg_nm, if_pos (by rw [t12.en.len]; decide)]) ?_)
      have t13 := t12.set (i := 13) (x := some (.v (.list []))) (by omega)
      have r13 : (ρ.set 13 (some (.v (.list []))))[13]? = some (some (.v (.list []))) := get_self (by rw [t12.en.len]; decide)
      obtain ⟨_, _, _, _, fi, fi'⟩ := factC1 h1 h2 hi
      obtain ⟨_, _, _, _, fj, fj'⟩ := factC1 h1 h2 hj
      refine sat_cons ((loopW t13 h3 h4 fi' fi fj' fj r13 (k + 1 + 1)).mono ?_ fun _ _ h => h)
      rintro ρ st ⟨t, rfl, r13⟩
      refine sat_cons ((loopH okC t h1 h2 h3 h4 hi hj r13 (k + 1 + 1)).mono ?_ fun _ _ h => h)
      rintro ρ st ⟨t, rfl⟩
      exact sat_cons (sat_if (testZ t h1 h2 hi hj (stK (k + 1 + 1))) (fun h => (nomatch h)) fun _ => sat_nil (sat_nil ⟨t.en, t.r7, _, rfl⟩))
    · rintro ρ st ⟨E, r7, k, rfl⟩
      exact sat_cons (sat_ret (u := .v (.bool true)) (st1 := stK k) rfl ⟨rfl, rfl⟩))
  exact e
end K66

namespace K66
open PySem PI
theorem okF0 : chkC 0 = true := by decide +kernel
theorem okF1 : chkC 1 = true := by decide +kernel
theorem okF2 : chkC 2 = true := by decide +kernel
theorem okF3 : chkC 3 = true := by decide +kernel
theorem okF4 : chkC 4 = true := by decide +kernel
theorem okF5 : chkC 5 = true := by decide +kernel
theorem okF6 : chkC 6 = true := by decide +kernel
theorem okF7 : chkC 7 = true := by decide +kernel
theorem okF8 : chkC 8 = true := by decide +kernel
theorem okF9 : chkC 9 = true := by decide +kernel
theorem okF10 : chkC 10 = true := by decide +kernel
theorem okF11 : chkC 11 = true := by decide +kernel
theorem okC : ∀ a, a < 12 → chkC a = true := fun a ha => match a, ha with
  | 0, _ => okF0
  | 1, _ => okF1
  | 2, _ => okF2
  | 3, _ => okF3
  | 4, _ => okF4
  | 5, _ => okF5
  | 6, _ => okF6
  | 7, _ => okF7
  | 8, _ => okF8
  | 9, _ => okF9
  | 10, _ => okF10
  | 11, _ => okF11
  | n + 12, h => absurd h (by omega)
theorem law_true (ns : List Int) (hl : ns.length ≤ 63) : callD tab.fns 12 21 [.v (scr (ns.map .int))] [] = .ok (.v (.bool true)) [] := law_ok okC ns
end K66

namespace K66
open PySem PySem.Spec PyProof.Rows L2 PI
theorem all_mk {l : PySem.W.OpenLaw} {w : World} {K : PySem.W.Frag} {h : Heap} {mg : Str → Option Value} {fa : Addr} (X : K.In h) (G : h.Ns mainGlobals mg) (hfa : mg "law" = some (.ref fa))
    {q0 : Addr} {od0 an0 : Option Addr} {sl0 : Array (Option Value)} {oc0 kV0 dc0 pm0 cd0 ct0 : Value}
    (a0 : PySem.W.nsIn K mainGlobals (PySem.Str.ofString "need") = some (some (.ref q0)))
    (l0 : K.lookup q0 = some ⟨oc0, od0, .func (PySem.W.fnOf (PySem.Str.ofString "need") (PySem.Str.ofString "need") (defArgs (topS 4)) (defBody (topS 4)) (defScope (topS 4)) .none kV0 dc0 pm0 an0 cd0 ct0), sl0⟩)
    (c0 : PySem.W.codeIn K cd0 (PySem.Str.ofString "need") = true) (k0 : PySem.W.keepIn K (.ref q0) = true)
    {q1 : Addr} {od1 an1 : Option Addr} {sl1 : Array (Option Value)} {oc1 kV1 dc1 pm1 cd1 ct1 : Value}
    (a1 : PySem.W.nsIn K mainGlobals (PySem.Str.ofString "is_integer") = some (some (.ref q1)))
    (l1 : K.lookup q1 = some ⟨oc1, od1, .func (PySem.W.fnOf (PySem.Str.ofString "is_integer") (PySem.Str.ofString "is_integer") (defArgs (topS 5)) (defBody (topS 5)) (defScope (topS 5)) .none kV1 dc1 pm1 an1 cd1 ct1), sl1⟩)
    (c1 : PySem.W.codeIn K cd1 (PySem.Str.ofString "is_integer") = true) (k1 : PySem.W.keepIn K (.ref q1) = true)
    {q2 : Addr} {od2 an2 : Option Addr} {sl2 : Array (Option Value)} {oc2 kV2 dc2 pm2 cd2 ct2 : Value}
    (a2 : PySem.W.nsIn K mainGlobals (PySem.Str.ofString "is_whole") = some (some (.ref q2)))
    (l2 : K.lookup q2 = some ⟨oc2, od2, .func (PySem.W.fnOf (PySem.Str.ofString "is_whole") (PySem.Str.ofString "is_whole") (defArgs (topS 6)) (defBody (topS 6)) (defScope (topS 6)) .none kV2 dc2 pm2 an2 cd2 ct2), sl2⟩)
    (c2 : PySem.W.codeIn K cd2 (PySem.Str.ofString "is_whole") = true) (k2 : PySem.W.keepIn K (.ref q2) = true)
    {q3 : Addr} {od3 an3 : Option Addr} {sl3 : Array (Option Value)} {oc3 kV3 dc3 pm3 cd3 ct3 : Value}
    (a3 : PySem.W.nsIn K mainGlobals (PySem.Str.ofString "is_sequence") = some (some (.ref q3)))
    (l3 : K.lookup q3 = some ⟨oc3, od3, .func (PySem.W.fnOf (PySem.Str.ofString "is_sequence") (PySem.Str.ofString "is_sequence") (defArgs (topS 7)) (defBody (topS 7)) (defScope (topS 7)) .none kV3 dc3 pm3 an3 cd3 ct3), sl3⟩)
    (c3 : PySem.W.codeIn K cd3 (PySem.Str.ofString "is_sequence") = true) (k3 : PySem.W.keepIn K (.ref q3) = true)
    {q4 : Addr} {od4 an4 : Option Addr} {sl4 : Array (Option Value)} {oc4 kV4 dc4 pm4 cd4 ct4 : Value}
    (a4 : PySem.W.nsIn K mainGlobals (PySem.Str.ofString "nearest_multiple") = some (some (.ref q4)))
    (l4 : K.lookup q4 = some ⟨oc4, od4, .func (PySem.W.fnOf (PySem.Str.ofString "nearest_multiple") (PySem.Str.ofString "nearest_multiple") (defArgs (topS 9)) (defBody (topS 9)) (defScope (topS 9)) .none kV4 dc4 pm4 an4 cd4 ct4), sl4⟩)
    (c4 : PySem.W.codeIn K cd4 (PySem.Str.ofString "nearest_multiple") = true) (k4 : PySem.W.keepIn K (.ref q4) = true)
    {q5 : Addr} {od5 an5 : Option Addr} {sl5 : Array (Option Value)} {oc5 kV5 dc5 pm5 cd5 ct5 : Value}
    (a5 : PySem.W.nsIn K mainGlobals (PySem.Str.ofString "weights_for") = some (some (.ref q5)))
    (l5 : K.lookup q5 = some ⟨oc5, od5, .func (PySem.W.fnOf (PySem.Str.ofString "weights_for") (PySem.Str.ofString "weights_for") (defArgs (topS 10)) (defBody (topS 10)) (defScope (topS 10)) .none kV5 dc5 pm5 an5 cd5 ct5), sl5⟩)
    (c5 : PySem.W.codeIn K cd5 (PySem.Str.ofString "weights_for") = true) (k5 : PySem.W.keepIn K (.ref q5) = true)
    {q6 : Addr} {od6 an6 : Option Addr} {sl6 : Array (Option Value)} {oc6 kV6 dc6 pm6 cd6 ct6 : Value}
    (a6 : PySem.W.nsIn K mainGlobals (PySem.Str.ofString "together") = some (some (.ref q6)))
    (l6 : K.lookup q6 = some ⟨oc6, od6, .func (PySem.W.fnOf (PySem.Str.ofString "together") (PySem.Str.ofString "together") (defArgs (topS 11)) (defBody (topS 11)) (defScope (topS 11)) .none kV6 dc6 pm6 an6 cd6 ct6), sl6⟩)
    (c6 : PySem.W.codeIn K cd6 (PySem.Str.ofString "together") = true) (k6 : PySem.W.keepIn K (.ref q6) = true)
    {q7 : Addr} {od7 an7 : Option Addr} {sl7 : Array (Option Value)} {oc7 kV7 dc7 pm7 cd7 ct7 : Value}
    (a7 : PySem.W.nsIn K mainGlobals (PySem.Str.ofString "have_common") = some (some (.ref q7)))
    (l7 : K.lookup q7 = some ⟨oc7, od7, .func (PySem.W.fnOf (PySem.Str.ofString "have_common") (PySem.Str.ofString "have_common") (defArgs (topS 12)) (defBody (topS 12)) (defScope (topS 12)) .none kV7 dc7 pm7 an7 cd7 ct7), sl7⟩)
    (c7 : PySem.W.codeIn K cd7 (PySem.Str.ofString "have_common") = true) (k7 : PySem.W.keepIn K (.ref q7) = true)
    {q8 : Addr} {od8 an8 : Option Addr} {sl8 : Array (Option Value)} {oc8 kV8 dc8 pm8 cd8 ct8 : Value}
    (a8 : PySem.W.nsIn K mainGlobals (PySem.Str.ofString "are_multiples") = some (some (.ref q8)))
    (l8 : K.lookup q8 = some ⟨oc8, od8, .func (PySem.W.fnOf (PySem.Str.ofString "are_multiples") (PySem.Str.ofString "are_multiples") (defArgs (topS 13)) (defBody (topS 13)) (defScope (topS 13)) .none kV8 dc8 pm8 an8 cd8 ct8), sl8⟩)
    (c8 : PySem.W.codeIn K cd8 (PySem.Str.ofString "are_multiples") = true) (k8 : PySem.W.keepIn K (.ref q8) = true)
    {q9 : Addr} {od9 an9 : Option Addr} {sl9 : Array (Option Value)} {oc9 kV9 dc9 pm9 cd9 ct9 : Value}
    (a9 : PySem.W.nsIn K mainGlobals (PySem.Str.ofString "shown") = some (some (.ref q9)))
    (l9 : K.lookup q9 = some ⟨oc9, od9, .func (PySem.W.fnOf (PySem.Str.ofString "shown") (PySem.Str.ofString "shown") (defArgs (topS 20)) (defBody (topS 20)) (defScope (topS 20)) .none kV9 dc9 pm9 an9 cd9 ct9), sl9⟩)
    (c9 : PySem.W.codeIn K cd9 (PySem.Str.ofString "shown") = true) (k9 : PySem.W.keepIn K (.ref q9) = true)
    {q10 : Addr} {od10 an10 : Option Addr} {sl10 : Array (Option Value)} {oc10 kV10 dc10 pm10 cd10 ct10 : Value}
    (a10 : PySem.W.nsIn K mainGlobals (PySem.Str.ofString "could_be") = some (some (.ref q10)))
    (l10 : K.lookup q10 = some ⟨oc10, od10, .func (PySem.W.fnOf (PySem.Str.ofString "could_be") (PySem.Str.ofString "could_be") (defArgs (topS 21)) (defBody (topS 21)) (defScope (topS 21)) .none kV10 dc10 pm10 an10 cd10 ct10), sl10⟩)
    (c10 : PySem.W.codeIn K cd10 (PySem.Str.ofString "could_be") = true) (k10 : PySem.W.keepIn K (.ref q10) = true)
    {q11 : Addr} {od11 an11 : Option Addr} {sl11 : Array (Option Value)} {oc11 kV11 dc11 pm11 cd11 ct11 : Value}
    (a11 : PySem.W.nsIn K mainGlobals (PySem.Str.ofString "whole_between") = some (some (.ref q11)))
    (l11 : K.lookup q11 = some ⟨oc11, od11, .func (PySem.W.fnOf (PySem.Str.ofString "whole_between") (PySem.Str.ofString "whole_between") (defArgs (topS 22)) (defBody (topS 22)) (defScope (topS 22)) .none kV11 dc11 pm11 an11 cd11 ct11), sl11⟩)
    (c11 : PySem.W.codeIn K cd11 (PySem.Str.ofString "whole_between") = true) (k11 : PySem.W.keepIn K (.ref q11) = true)
    {q12 : Addr} {od12 an12 : Option Addr} {sl12 : Array (Option Value)} {oc12 kV12 dc12 pm12 cd12 ct12 : Value}
    (a12 : PySem.W.nsIn K mainGlobals (PySem.Str.ofString "honest") = some (some (.ref q12)))
    (l12 : K.lookup q12 = some ⟨oc12, od12, .func (PySem.W.fnOf (PySem.Str.ofString "honest") (PySem.Str.ofString "honest") (defArgs (topS 23)) (defBody (topS 23)) (defScope (topS 23)) .none kV12 dc12 pm12 an12 cd12 ct12), sl12⟩)
    (c12 : PySem.W.codeIn K cd12 (PySem.Str.ofString "honest") = true) (k12 : PySem.W.keepIn K (.ref q12) = true)
    {q13 : Addr} {od13 an13 : Option Addr} {sl13 : Array (Option Value)} {oc13 kV13 dc13 pm13 cd13 ct13 : Value}
    (a13 : PySem.W.nsIn K mainGlobals (PySem.Str.ofString "is_step") = some (some (.ref q13)))
    (l13 : K.lookup q13 = some ⟨oc13, od13, .func (PySem.W.fnOf (PySem.Str.ofString "is_step") (PySem.Str.ofString "is_step") (defArgs (topS 24)) (defBody (topS 24)) (defScope (topS 24)) .none kV13 dc13 pm13 an13 cd13 ct13), sl13⟩)
    (c13 : PySem.W.codeIn K cd13 (PySem.Str.ofString "is_step") = true) (k13 : PySem.W.keepIn K (.ref q13) = true)
    {q14 : Addr} {od14 an14 : Option Addr} {sl14 : Array (Option Value)} {oc14 kV14 dc14 pm14 cd14 ct14 : Value}
    (a14 : PySem.W.nsIn K mainGlobals (PySem.Str.ofString "is_show") = some (some (.ref q14)))
    (l14 : K.lookup q14 = some ⟨oc14, od14, .func (PySem.W.fnOf (PySem.Str.ofString "is_show") (PySem.Str.ofString "is_show") (defArgs (topS 25)) (defBody (topS 25)) (defScope (topS 25)) .none kV14 dc14 pm14 an14 cd14 ct14), sl14⟩)
    (c14 : PySem.W.codeIn K cd14 (PySem.Str.ofString "is_show") = true) (k14 : PySem.W.keepIn K (.ref q14) = true)
    {q15 : Addr} {od15 an15 : Option Addr} {sl15 : Array (Option Value)} {oc15 kV15 dc15 pm15 cd15 ct15 : Value}
    (a15 : PySem.W.nsIn K mainGlobals (PySem.Str.ofString "is_shows") = some (some (.ref q15)))
    (l15 : K.lookup q15 = some ⟨oc15, od15, .func (PySem.W.fnOf (PySem.Str.ofString "is_shows") (PySem.Str.ofString "is_shows") (defArgs (topS 26)) (defBody (topS 26)) (defScope (topS 26)) .none kV15 dc15 pm15 an15 cd15 ct15), sl15⟩)
    (c15 : PySem.W.codeIn K cd15 (PySem.Str.ofString "is_shows") = true) (k15 : PySem.W.keepIn K (.ref q15) = true)
    {q16 : Addr} {od16 an16 : Option Addr} {sl16 : Array (Option Value)} {oc16 kV16 dc16 pm16 cd16 ct16 : Value}
    (a16 : PySem.W.nsIn K mainGlobals (PySem.Str.ofString "weights_of_all") = some (some (.ref q16)))
    (l16 : K.lookup q16 = some ⟨oc16, od16, .func (PySem.W.fnOf (PySem.Str.ofString "weights_of_all") (PySem.Str.ofString "weights_of_all") (defArgs (topS 27)) (defBody (topS 27)) (defScope (topS 27)) .none kV16 dc16 pm16 an16 cd16 ct16), sl16⟩)
    (c16 : PySem.W.codeIn K cd16 (PySem.Str.ofString "weights_of_all") = true) (k16 : PySem.W.keepIn K (.ref q16) = true)
    {q17 : Addr} {od17 an17 : Option Addr} {sl17 : Array (Option Value)} {oc17 kV17 dc17 pm17 cd17 ct17 : Value}
    (a17 : PySem.W.nsIn K mainGlobals (PySem.Str.ofString "_law_so") = some (some (.ref q17)))
    (l17 : K.lookup q17 = some ⟨oc17, od17, .func (PySem.W.fnOf (PySem.Str.ofString "_law_so") (PySem.Str.ofString "_law_so") (defArgs (topS 29)) (defBody (topS 29)) (defScope (topS 29)) .none kV17 dc17 pm17 an17 cd17 ct17), sl17⟩)
    (c17 : PySem.W.codeIn K cd17 (PySem.Str.ofString "_law_so") = true) (k17 : PySem.W.keepIn K (.ref q17) = true)
    {q18 : Addr} {od18 an18 : Option Addr} {sl18 : Array (Option Value)} {oc18 kV18 dc18 pm18 cd18 ct18 : Value}
    (a18 : PySem.W.nsIn K mainGlobals (PySem.Str.ofString "_law_numbers") = some (some (.ref q18)))
    (l18 : K.lookup q18 = some ⟨oc18, od18, .func (PySem.W.fnOf (PySem.Str.ofString "_law_numbers") (PySem.Str.ofString "_law_numbers") (defArgs (topS 30)) (defBody (topS 30)) (defScope (topS 30)) .none kV18 dc18 pm18 an18 cd18 ct18), sl18⟩)
    (c18 : PySem.W.codeIn K cd18 (PySem.Str.ofString "_law_numbers") = true) (k18 : PySem.W.keepIn K (.ref q18) = true)
    {q19 : Addr} {od19 an19 : Option Addr} {sl19 : Array (Option Value)} {oc19 kV19 dc19 pm19 cd19 ct19 : Value}
    (a19 : PySem.W.nsIn K mainGlobals (PySem.Str.ofString "_law_draw") = some (some (.ref q19)))
    (l19 : K.lookup q19 = some ⟨oc19, od19, .func (PySem.W.fnOf (PySem.Str.ofString "_law_draw") (PySem.Str.ofString "_law_draw") (defArgs (topS 31)) (defBody (topS 31)) (defScope (topS 31)) .none kV19 dc19 pm19 an19 cd19 ct19), sl19⟩)
    (c19 : PySem.W.codeIn K cd19 (PySem.Str.ofString "_law_draw") = true) (k19 : PySem.W.keepIn K (.ref q19) = true)
    {q20 : Addr} {od20 an20 : Option Addr} {sl20 : Array (Option Value)} {oc20 kV20 dc20 pm20 cd20 ct20 : Value}
    (a20 : PySem.W.nsIn K mainGlobals (PySem.Str.ofString "_law_take") = some (some (.ref q20)))
    (l20 : K.lookup q20 = some ⟨oc20, od20, .func (PySem.W.fnOf (PySem.Str.ofString "_law_take") (PySem.Str.ofString "_law_take") (defArgs (topS 32)) (defBody (topS 32)) (defScope (topS 32)) .none kV20 dc20 pm20 an20 cd20 ct20), sl20⟩)
    (c20 : PySem.W.codeIn K cd20 (PySem.Str.ofString "_law_take") = true) (k20 : PySem.W.keepIn K (.ref q20) = true)
    {q21 : Addr} {od21 an21 : Option Addr} {sl21 : Array (Option Value)} {oc21 kV21 dc21 pm21 cd21 ct21 : Value}
    (a21 : PySem.W.nsIn K mainGlobals (PySem.Str.ofString "law") = some (some (.ref q21)))
    (l21 : K.lookup q21 = some ⟨oc21, od21, .func (PySem.W.fnOf (PySem.Str.ofString "law") (PySem.Str.ofString "law") (defArgs (topS 33)) (defBody (topS 33)) (defScope (topS 33)) .none kV21 dc21 pm21 an21 cd21 ct21), sl21⟩)
    (c21 : PySem.W.codeIn K cd21 (PySem.Str.ofString "law") = true) (k21 : PySem.W.keepIn K (.ref q21) = true)
    (z0 : PySem.W.nsIn K mainGlobals (PySem.Str.ofString "len") = some none)
    (z1 : PySem.W.nsIn K mainGlobals (PySem.Str.ofString "abs") = some none)
    (z2 : PySem.W.nsIn K mainGlobals (PySem.Str.ofString "max") = some none)
    (z3 : PySem.W.nsIn K mainGlobals (PySem.Str.ofString "min") = some none)
    (z4 : PySem.W.nsIn K mainGlobals (PySem.Str.ofString "sum") = some none)
    (z5 : PySem.W.nsIn K mainGlobals (PySem.Str.ofString "all") = some none)
    (z6 : PySem.W.nsIn K mainGlobals (PySem.Str.ofString "any") = some none)
    (z7 : PySem.W.nsIn K mainGlobals (PySem.Str.ofString "int") = some none)
    (z8 : PySem.W.nsIn K mainGlobals (PySem.Str.ofString "str") = some none)
    (z9 : PySem.W.nsIn K mainGlobals (PySem.Str.ofString "tuple") = some none)
    (z10 : PySem.W.nsIn K mainGlobals (PySem.Str.ofString "list") = some none)
    (z11 : PySem.W.nsIn K mainGlobals (PySem.Str.ofString "sorted") = some none)
    (z12 : PySem.W.nsIn K mainGlobals (PySem.Str.ofString "isinstance") = some none)
    (z13 : PySem.W.nsIn K mainGlobals (PySem.Str.ofString "bool") = some none)
    (z14 : PySem.W.nsIn K mainGlobals (PySem.Str.ofString "ord") = some none)
    (z15 : PySem.W.nsIn K mainGlobals (PySem.Str.ofString "divmod") = some none)
    (z16 : PySem.W.nsIn K mainGlobals (PySem.Str.ofString "range") = some none)
    (z17 : PySem.W.nsIn K mainGlobals (PySem.Str.ofString "enumerate") = some none)
    (z18 : PySem.W.nsIn K mainGlobals (PySem.Str.ofString "zip") = some none)
    (z19 : PySem.W.nsIn K mainGlobals (PySem.Str.ofString "reversed") = some none)
    (z20 : PySem.W.nsIn K mainGlobals (PySem.Str.ofString "set") = some none)
    {t0 : Nat} (g0 : PySem.W.nsIn K mainGlobals (PySem.Str.ofString "MOST_WEIGHT") = some (some (.int (1000000) t0)))
    {t1 : Nat} (g1 : PySem.W.nsIn K mainGlobals (PySem.Str.ofString "MOST_STEP") = some (some (.int (1000) t1)))
    {t2 : Nat} (g2 : PySem.W.nsIn K mainGlobals (PySem.Str.ofString "MOST_SHOW") = some (some (.int (1001000) t2)))
    {t3 : Nat} (g3 : PySem.W.nsIn K mainGlobals (PySem.Str.ofString "MOST_WHOLE") = some (some (.int (10000000) t3)))
    {t4 : Nat} (g4 : PySem.W.nsIn K mainGlobals (PySem.Str.ofString "MOST_SHOWS") = some (some (.int (8) t4)))
    : ∃ fd : FuncData, (∀ (s : Shared) (v : Value), BindsTo s fd ⟨[v], []⟩ [("script", v)]) ∧ ∀ base : Heap, K.In base → base.Ns mainGlobals mg → FnOk l.prog w K mg base (L2.CX l.prog w) 12 fa fd ["script"] (spF tab K 12 21) := by
  have e := hfa.symm.trans (PySem.W.mg_of X G a21)
  cases e
  have M : Mg tab K mg ds := by
    refine ⟨fun f F x hF hx => ?_, fun x hx => ?_, fun z => (nomatch z), fun x w hg => ?_⟩
    · match f, hF, hx with
      | 0, hF, hx =>
        cases hF
        cases hx
        exact ⟨d0, rfl, K66.c0, ⟨q0, _, PySem.W.mg_of X G a0, fun_mk l0 c0 k0, (fun_mk l0 c0 k0).binds fun _ _ _ _ _ _ us hl => match us, hl with | [_, _], _ => rfl⟩⟩
      | 1, hF, hx =>
        cases hF
        cases hx
        exact ⟨d1, rfl, K66.c1, ⟨q1, _, PySem.W.mg_of X G a1, fun_mk l1 c1 k1, (fun_mk l1 c1 k1).binds fun _ _ _ _ _ _ us hl => match us, hl with | [_], _ => rfl⟩⟩
      | 2, hF, hx =>
        cases hF
        cases hx
        exact ⟨d2, rfl, K66.c2, ⟨q2, _, PySem.W.mg_of X G a2, fun_mk l2 c2 k2, (fun_mk l2 c2 k2).binds fun _ _ _ _ _ _ us hl => match us, hl with | [_, _, _], _ => rfl⟩⟩
      | 3, hF, hx =>
        cases hF
        cases hx
        exact ⟨d3, rfl, K66.c3, ⟨q3, _, PySem.W.mg_of X G a3, fun_mk l3 c3 k3, (fun_mk l3 c3 k3).binds fun _ _ _ _ _ _ us hl => match us, hl with | [_, _, _], _ => rfl⟩⟩
      | 4, hF, hx =>
        cases hF
        cases hx
        exact ⟨d4, rfl, K66.c4, ⟨q4, _, PySem.W.mg_of X G a4, fun_mk l4 c4 k4, (fun_mk l4 c4 k4).binds fun _ _ _ _ _ _ us hl => match us, hl with | [_, _], _ => rfl⟩⟩
      | 5, hF, hx =>
        cases hF
        cases hx
        exact ⟨d5, rfl, K66.c5, ⟨q5, _, PySem.W.mg_of X G a5, fun_mk l5 c5 k5, (fun_mk l5 c5 k5).binds fun _ _ _ _ _ _ us hl => match us, hl with | [_, _], _ => rfl⟩⟩
      | 6, hF, hx =>
        cases hF
        cases hx
        exact ⟨d6, rfl, K66.c6, ⟨q6, _, PySem.W.mg_of X G a6, fun_mk l6 c6 k6, (fun_mk l6 c6 k6).binds fun _ _ _ _ _ _ us hl => match us, hl with | [_], _ => rfl⟩⟩
      | 7, hF, hx =>
        cases hF
        cases hx
        exact ⟨d7, rfl, K66.c7, ⟨q7, _, PySem.W.mg_of X G a7, fun_mk l7 c7 k7, (fun_mk l7 c7 k7).binds fun _ _ _ _ _ _ us hl => match us, hl with | [_, _], _ => rfl⟩⟩
      | 8, hF, hx =>
        cases hF
        cases hx
        exact ⟨d8, rfl, K66.c8, ⟨q8, _, PySem.W.mg_of X G a8, fun_mk l8 c8 k8, (fun_mk l8 c8 k8).binds fun _ _ _ _ _ _ us hl => match us, hl with | [_, _], _ => rfl⟩⟩
      | 9, hF, hx =>
        cases hF
        cases hx
        exact ⟨d9, rfl, K66.c9, ⟨q9, _, PySem.W.mg_of X G a9, fun_mk l9 c9 k9, (fun_mk l9 c9 k9).binds fun _ _ _ _ _ _ us hl => match us, hl with | [_, _], _ => rfl⟩⟩
      | 10, hF, hx =>
        cases hF
        cases hx
        exact ⟨d10, rfl, K66.c10, ⟨q10, _, PySem.W.mg_of X G a10, fun_mk l10 c10 k10, (fun_mk l10 c10 k10).binds fun _ _ _ _ _ _ us hl => match us, hl with | [_, _], _ => rfl⟩⟩
      | 11, hF, hx =>
        cases hF
        cases hx
        exact ⟨d11, rfl, K66.c11, ⟨q11, _, PySem.W.mg_of X G a11, fun_mk l11 c11 k11, (fun_mk l11 c11 k11).binds fun _ _ _ _ _ _ us hl => match us, hl with | [_, _], _ => rfl⟩⟩
      | 12, hF, hx =>
        cases hF
        cases hx
        exact ⟨d12, rfl, K66.c12, ⟨q12, _, PySem.W.mg_of X G a12, fun_mk l12 c12 k12, (fun_mk l12 c12 k12).binds fun _ _ _ _ _ _ us hl => match us, hl with | [_, _, _, _], _ => rfl⟩⟩
      | 13, hF, hx =>
        cases hF
        cases hx
        exact ⟨d13, rfl, K66.c13, ⟨q13, _, PySem.W.mg_of X G a13, fun_mk l13 c13 k13, (fun_mk l13 c13 k13).binds fun _ _ _ _ _ _ us hl => match us, hl with | [_], _ => rfl⟩⟩
      | 14, hF, hx =>
        cases hF
        cases hx
        exact ⟨d14, rfl, K66.c14, ⟨q14, _, PySem.W.mg_of X G a14, fun_mk l14 c14 k14, (fun_mk l14 c14 k14).binds fun _ _ _ _ _ _ us hl => match us, hl with | [_], _ => rfl⟩⟩
      | 15, hF, hx =>
        cases hF
        cases hx
        exact ⟨d15, rfl, K66.c15, ⟨q15, _, PySem.W.mg_of X G a15, fun_mk l15 c15 k15, (fun_mk l15 c15 k15).binds fun _ _ _ _ _ _ us hl => match us, hl with | [_], _ => rfl⟩⟩
      | 16, hF, hx =>
        cases hF
        cases hx
        exact ⟨d16, rfl, K66.c16, ⟨q16, _, PySem.W.mg_of X G a16, fun_mk l16 c16 k16, (fun_mk l16 c16 k16).binds fun _ _ _ _ _ _ us hl => match us, hl with | [_, _], _ => rfl⟩⟩
      | 17, hF, hx =>
        cases hF
        cases hx
        exact ⟨d17, rfl, K66.c17, ⟨q17, _, PySem.W.mg_of X G a17, fun_mk l17 c17 k17, (fun_mk l17 c17 k17).binds fun _ _ _ _ _ _ us hl => match us, hl with | [_, _], _ => rfl⟩⟩
      | 18, hF, hx =>
        cases hF
        cases hx
        exact ⟨d18, rfl, K66.c18, ⟨q18, _, PySem.W.mg_of X G a18, fun_mk l18 c18 k18, (fun_mk l18 c18 k18).binds fun _ _ _ _ _ _ us hl => match us, hl with | [_], _ => rfl⟩⟩
      | 19, hF, hx =>
        cases hF
        cases hx
        exact ⟨d19, rfl, K66.c19, ⟨q19, _, PySem.W.mg_of X G a19, fun_mk l19 c19 k19, (fun_mk l19 c19 k19).binds fun _ _ _ _ _ _ us hl => match us, hl with | [_, _, _], _ => rfl⟩⟩
      | 20, hF, hx =>
        cases hF
        cases hx
        exact ⟨d20, rfl, K66.c20, ⟨q20, _, PySem.W.mg_of X G a20, fun_mk l20 c20 k20, (fun_mk l20 c20 k20).binds fun _ _ _ _ _ _ us hl => match us, hl with | [_, _, _], _ => rfl⟩⟩
      | 21, hF, hx =>
        cases hF
        cases hx
        exact ⟨d21, rfl, K66.c21, ⟨fa, _, PySem.W.mg_of X G a21, fun_mk l21 c21 k21, (fun_mk l21 c21 k21).binds fun _ _ _ _ _ _ us hl => match us, hl with | [_], _ => rfl⟩⟩
      | n + 22, hF, _ => cases hF
    · simp only [bltNames, List.mem_cons, List.not_mem_nil, or_false] at hx
      rcases hx with rfl | rfl | rfl | rfl | rfl | rfl | rfl | rfl | rfl | rfl | rfl | rfl | rfl | rfl | rfl | rfl | rfl | rfl | rfl | rfl | rfl
      · exact PySem.W.mg_none_of X G z0
      · exact PySem.W.mg_none_of X G z1
      · exact PySem.W.mg_none_of X G z2
      · exact PySem.W.mg_none_of X G z3
      · exact PySem.W.mg_none_of X G z4
      · exact PySem.W.mg_none_of X G z5
      · exact PySem.W.mg_none_of X G z6
      · exact PySem.W.mg_none_of X G z7
      · exact PySem.W.mg_none_of X G z8
      · exact PySem.W.mg_none_of X G z9
      · exact PySem.W.mg_none_of X G z10
      · exact PySem.W.mg_none_of X G z11
      · exact PySem.W.mg_none_of X G z12
      · exact PySem.W.mg_none_of X G z13
      · exact PySem.W.mg_none_of X G z14
      · exact PySem.W.mg_none_of X G z15
      · exact PySem.W.mg_none_of X G z16
      · exact PySem.W.mg_none_of X G z17
      · exact PySem.W.mg_none_of X G z18
      · exact PySem.W.mg_none_of X G z19
      · exact PySem.W.mg_none_of X G z20
    · simp only [tab, glbs, List.mem_cons, List.not_mem_nil, or_false, Prod.mk.injEq] at hg
      rcases hg with ⟨rfl, rfl⟩ | ⟨rfl, rfl⟩ | ⟨rfl, rfl⟩ | ⟨rfl, rfl⟩ | ⟨rfl, rfl⟩
      · exact ⟨_, .int _, PySem.W.mg_of X G g0, ⟨_, rfl⟩, fun _ _ => .int _⟩
      · exact ⟨_, .int _, PySem.W.mg_of X G g1, ⟨_, rfl⟩, fun _ _ => .int _⟩
      · exact ⟨_, .int _, PySem.W.mg_of X G g2, ⟨_, rfl⟩, fun _ _ => .int _⟩
      · exact ⟨_, .int _, PySem.W.mg_of X G g3, ⟨_, rfl⟩, fun _ _ => .int _⟩
      · exact ⟨_, .int _, PySem.W.mg_of X G g4, ⟨_, rfl⟩, fun _ _ => .int _⟩
  have F := fun_mk l21 c21 k21
  exact ⟨_, fun s v => .of_eq rfl, fun base _ _ => defs_ok M 12 21 f21 (PySem.Str.ofString "law") d21 fa _ rfl rfl rfl hfa F⟩
end K66
open PySem PySem.W PyProof.Rows
set_option maxHeartbeats 0 in
theorem PySem.Challenge.cw_cheesestead_k66_weights_one_by_one_holds : PySem.Challenge.rw_cheesestead_k66_weights_one_by_one.Holds := by
  w_on; o_law; k_head; (case hw => w_witness2)
  k_fill
  refine L2.walk_of (l := PySem.Challenge.rw_cheesestead_k66_weights_one_by_one) (n := 63) (k := 12) (x := "script") (CX := fun w => L2.CX PySem.Challenge.rw_cheesestead_k66_weights_one_by_one.prog w) (sp := fun w => PI.spF K66.tab _ 12 21) rfl (by decide) rfl ⟨rfl, by decide, by decide⟩ (fun w h Y => PySem.W.kIn_of Y) ?F (fun _ _ a ns hl _ hS => PI.law_sp rfl rfl hS (K66.law_true ns hl)) (fun _ _ _ _ _ h => PI.noCX h)
  case F =>
    intro w mg fa h KX G hmg
    refine' K66.all_mk KX G hmg ?a0 ?l0 ?c0 ?k0 ?a1 ?l1 ?c1 ?k1 ?a2 ?l2 ?c2 ?k2 ?a3 ?l3 ?c3 ?k3 ?a4 ?l4 ?c4 ?k4 ?a5 ?l5 ?c5 ?k5 ?a6 ?l6 ?c6 ?k6 ?a7 ?l7 ?c7 ?k7 ?a8 ?l8 ?c8 ?k8 ?a9 ?l9 ?c9 ?k9 ?a10 ?l10 ?c10 ?k10 ?a11 ?l11 ?c11 ?k11 ?a12 ?l12 ?c12 ?k12 ?a13 ?l13 ?c13 ?k13 ?a14 ?l14 ?c14 ?k14 ?a15 ?l15 ?c15 ?k15 ?a16 ?l16 ?c16 ?k16 ?a17 ?l17 ?c17 ?k17 ?a18 ?l18 ?c18 ?k18 ?a19 ?l19 ?c19 ?k19 ?a20 ?l20 ?c20 ?k20 ?a21 ?l21 ?c21 ?k21 ?z0 ?z1 ?z2 ?z3 ?z4 ?z5 ?z6 ?z7 ?z8 ?z9 ?z10 ?z11 ?z12 ?z13 ?z14 ?z15 ?z16 ?z17 ?z18 ?z19 ?z20 ?gk0 ?gk1 ?gk2 ?gk3 ?gk4
    (case a0 => k_is)
    (case l0 => k_is)
    (case c0 => k_is)
    (case k0 => k_is)
    (case a1 => k_is)
    (case l1 => k_is)
    (case c1 => k_is)
    (case k1 => k_is)
    (case a2 => k_is)
    (case l2 => k_is)
    (case c2 => k_is)
    (case k2 => k_is)
    (case a3 => k_is)
    (case l3 => k_is)
    (case c3 => k_is)
    (case k3 => k_is)
    (case a4 => k_is)
    (case l4 => k_is)
    (case c4 => k_is)
    (case k4 => k_is)
    (case a5 => k_is)
    (case l5 => k_is)
    (case c5 => k_is)
    (case k5 => k_is)
    (case a6 => k_is)
    (case l6 => k_is)
    (case c6 => k_is)
    (case k6 => k_is)
    (case a7 => k_is)
    (case l7 => k_is)
    (case c7 => k_is)
    (case k7 => k_is)
    (case a8 => k_is)
    (case l8 => k_is)
    (case c8 => k_is)
    (case k8 => k_is)
    (case a9 => k_is)
    (case l9 => k_is)
    (case c9 => k_is)
    (case k9 => k_is)
    (case a10 => k_is)
    (case l10 => k_is)
    (case c10 => k_is)
    (case k10 => k_is)
    (case a11 => k_is)
    (case l11 => k_is)
    (case c11 => k_is)
    (case k11 => k_is)
    (case a12 => k_is)
    (case l12 => k_is)
    (case c12 => k_is)
    (case k12 => k_is)
    (case a13 => k_is)
    (case l13 => k_is)
    (case c13 => k_is)
    (case k13 => k_is)
    (case a14 => k_is)
    (case l14 => k_is)
    (case c14 => k_is)
    (case k14 => k_is)
    (case a15 => k_is)
    (case l15 => k_is)
    (case c15 => k_is)
    (case k15 => k_is)
    (case a16 => k_is)
    (case l16 => k_is)
    (case c16 => k_is)
    (case k16 => k_is)
    (case a17 => k_is)
    (case l17 => k_is)
    (case c17 => k_is)
    (case k17 => k_is)
    (case a18 => k_is)
    (case l18 => k_is)
    (case c18 => k_is)
    (case k18 => k_is)
    (case a19 => k_is)
    (case l19 => k_is)
    (case c19 => k_is)
    (case k19 => k_is)
    (case a20 => k_is)
    (case l20 => k_is)
    (case c20 => k_is)
    (case k20 => k_is)
    (case a21 => k_is)
    (case l21 => k_is)
    (case c21 => k_is)
    (case k21 => k_is)
    (case z0 => k_is)
    (case z1 => k_is)
    (case z2 => k_is)
    (case z3 => k_is)
    (case z4 => k_is)
    (case z5 => k_is)
    (case z6 => k_is)
    (case z7 => k_is)
    (case z8 => k_is)
    (case z9 => k_is)
    (case z10 => k_is)
    (case z11 => k_is)
    (case z12 => k_is)
    (case z13 => k_is)
    (case z14 => k_is)
    (case z15 => k_is)
    (case z16 => k_is)
    (case z17 => k_is)
    (case z18 => k_is)
    (case z19 => k_is)
    (case z20 => k_is)
    (case gk0 => k_is)
    (case gk1 => k_is)
    (case gk2 => k_is)
    (case gk3 => k_is)
    (case gk4 => k_is)
