import PyProof.Rows.All
import Wide.All
import OpenK.AllK
import Wide.FinOn
import HandS.ForMost
import HandS.TupAny
import HandS.TupMul
import HandS.Wide
import HandS.IsInst
import HandS.Flow
import HandS.Style
import HandS.Exc
import HandS.ExcOwn
import HandS.WordsExc
import HandS.Comp
import HandS.Iter
import HandS.Zip
import HandS.RaiseMore
import HandS.Conv
import HandS.CallLocal
import HandS.TryOnly
import KE.GoesEnum
import HandS.Codes
import HandS.HeadEnd
import PySem.Challenge.RW_rodsandbeads_k23_quarter_squares
set_option Elab.async false
set_option linter.all false
namespace RB
open PySem
open L2 (atI ixN)

/-- what is read: it never changes -/
inductive D where
  | non | bl (b : Bool) | int (i : Int) | str (s : Str) | tup (xs : List D) | lst (xs : List D)
  /-- the script; a def of the text, by its number; an error of the text's own class, by number -/
  | scr (xs : List D) | fn (j : Nat) | exc (c : Nat) (x : D)
  deriving Inhabited

/-- a slot's value: data, or a list that this slot alone holds -/
inductive Vl where
  | im (d : D) | ow (xs : List D)
  deriving Inhabited

/-- an expression's: data, a new list that nobody holds yet, a slot that holds its list alone -/
inductive Rf where
  | im (d : D) | tm (xs : List D) | sl (i : Nat)

abbrev Env := List (Option Vl)

inductive R (α : Type) where
  | ok (a : α) | ex (c : Nat) (d : D) | no

namespace R
variable {α β : Type}
def bind : R α → (α → R β) → R β
  | ok a, f => f a
  | ex c d, _ => ex c d
  | no, _ => no
@[simp] theorem bind_ok (a : α) (f : α → R β) : bind (ok a) f = f a := rfl
@[simp] theorem bind_ex (c : Nat) (d : D) (f : α → R β) : bind (ex c d : R α) f = ex c d := rfl
@[simp] theorem bind_no (f : α → R β) : bind (no : R α) f = no := rfl
def of : Option α → R α
  | some a => ok a
  | none => no
@[simp] theorem of_some (a : α) : of (some a) = ok a := rfl
@[simp] theorem of_none : of (none : Option α) = no := rfl
theorem bind_eq_ok {x : R α} {f : α → R β} {b : β} : bind x f = ok b ↔ ∃ a, x = ok a ∧ f a = ok b := by
  cases x <;> simp [bind]
end R

/-- what a def is: from its arguments to its value, and what is left of the arguments that were lent -/
abbrev Fn := List Vl → R (Vl × Env)
abbrev Fns := Nat → Fn

inductive BOp where
  | add | sub | mul | fdiv | mod | pow | shl | shr | band
  deriving DecidableEq
inductive COp where
  | eq | ne | lt | le | gt | ge | is_ | isnot | in_ | notin
  deriving DecidableEq
/-- built-ins by name -/
inductive Bi where
  | len | abs | min | max | sum | all | any | tuple | list | int | str | repr | isin (t : Nat) | sorted
  deriving DecidableEq
/-- methods that change nothing -/
inductive Mt where
  | count | index | join | bitlen | get | replace
  deriving DecidableEq

inductive Tg where
  | v (i : Nat) | t (ts : List Tg)

mutual
inductive E where
  | var (i : Nat)
  | lit (d : D)
  /-- a module's constant; a def as a value -/
  | glb (x : Str) (d : D)
  | bin (op : BOp) (a b : E)
  | neg (a : E)
  | not_ (a : E)
  | and_ (a b : E)
  | or_ (a b : E)
  | cmp (op : COp) (a b : E)
  | chn (op op' : COp) (a b c : E)
  | ite (c a b : E)
  | tup (es : Es)
  | lst (es : Es)
  /-- a def of the text; ds: the defaults that fill up -/
  | call (j : Nat) (es : Es) (ds : List D)
  /-- a call of what slot i holds: one of the first m defs -/
  | cvar (m i : Nat) (es : Es)
  | bi (b : Bi) (es : Es)
  | mt (m : Mt) (a : E) (es : Es)
  | ix (a b : E)
  | sli (a : E) (lo hi : Oe)
  | rev (a : E)
  /-- [e for tg in it if c]; own: the slots of the comprehension's own names -/
  | comp (own : List Nat) (tg : Tg) (it : Iter) (c : Oe) (e : E)
inductive Es where
  | nil
  | cons (e : E) (es : Es)
inductive Oe where
  | none
  | some (e : E)
inductive Iter where
  | seq (e : E)
  | rng (es : Es)
  | enum (e : E)
  | zip (es : Es)
end

mutual
inductive S where
  | pass | brk | cont
  /-- one target, or (more than one slot) a, b, .. = e1, e2, .. over names -/
  | asg (tg : Tg) (e : E)
  | set (i : Nat) (e : E)
  | par (is : List Nat) (es : Es)
  | setix (i : Nat) (a e : E)
  | augv (i : Nat) (op : BOp) (e : E)
  | augix (i : Nat) (a : E) (op : BOp) (e : E)
  | app (i : Nat) (e : E)
  | ext (i : Nat) (e : E)
  | drop (e : E)
  | ret (e : E)
  | retn
  | iff (c : E) (a b : Ss)
  | whl (c : E) (b : Ss)
  | forr (tg : Tg) (it : Iter) (b : Ss)
  | rais (c : Nat) (es : Es)
inductive Ss where
  | nil
  | cons (s : S) (ss : Ss)
end

def frz : Vl → D
  | .im d => d
  | .ow xs => .lst xs
def get (env : Env) (i : Nat) : Option Vl :=
  match env[i]? with
  | some (some v) => some v
  | _ => none
/-- the value, read only -/
def peek (env : Env) : Rf → Option D
  | .im d => some d
  | .tm xs => some (.lst xs)
  | .sl i => (get env i).bind fun v => some (frz v)
/-- the value, kept: a list that a slot held alone may not change any more -/
def keep (env : Env) : Rf → Option (D × Env)
  | .im d => some (d, env)
  | .tm xs => some (.lst xs, env)
  | .sl i => (get env i).bind fun v => some (frz v, env.set i (some (.im (frz v))))
/-- what is stored: a list that a slot held alone may not change any more, a new one may -/
def settle (env : Env) : Rf → Option (Vl × Env)
  | .im d => some (.im d, env)
  | .tm xs => some (.ow xs, env)
  | .sl i => (get env i).bind fun v => some (.im (frz v), env.set i (some (.im (frz v))))
/-- handed to a def: lent -/
def lend (env : Env) : Rf → Option (Vl × Env × Option Nat)
  | .im d => some (.im d, env, none)
  | .tm xs => some (.ow xs, env, none)
  | .sl i => (get env i).bind fun v => match v with
    | .im d => some (.im d, env, none)
    | .ow xs => some (.ow xs, env.set i none, some i)
/-- behind the call: what was lent stands at its slot again -/
def lendBack : List (Option Nat) → Env → Env → Env
  | some i :: is, o :: os, env => lendBack is os (env.set i o)
  | none :: is, _ :: os, env => lendBack is os env
  | _, _, env => env
def peeks (env : Env) : List Rf → Option (List D)
  | [] => some []
  | r :: rs => (peek env r).bind fun d => (peeks env rs).bind fun ds => some (d :: ds)
/-- handed back: a local list is handed on, a lent one is kept -/
def giveback (loc : Nat → Bool) (env : Env) : Rf → Option (Vl × Env)
  | .im d => some (.im d, env)
  | .tm xs => some (.ow xs, env)
  | .sl i => (get env i).bind fun v => if loc i then some (v, env.set i none) else some (.im (frz v), env.set i (some (.im (frz v))))

def lim : Nat := 2 ^ 4000
/-- the numbers that products and divisions may take -/
def wide (i : Int) : Bool := decide (i.natAbs < lim)
def listLim : Nat := 1000000

def binI : BOp → Int → Int → Option D
  | .add, i, j => some (.int (i + j))
  | .sub, i, j => some (.int (i - j))
  | .mul, i, j => if (-(2 ^ 64) < i ∧ i < 2 ^ 64) ∨ (-(2 ^ 64) < j ∧ j < 2 ^ 64) ∨ (wide i ∧ wide j) then some (.int (i * j)) else none
  | .fdiv, i, j => if 0 < j ∧ (j < 1073741824 ∨ wide j = true) then some (.int (i / j)) else none
  | .mod, i, j => if 0 < j then some (.int (i % j)) else none
  | .pow, i, j => if 0 ≤ j ∧ j ≤ 1000000 ∧ -(2 ^ 64) < i ∧ i < 2 ^ 64 then some (.int (i ^ j.toNat)) else none
  | .shl, i, j => if 0 ≤ j ∧ j ≤ 1000000 ∧ -(2 ^ 64) < i ∧ i < 2 ^ 64 then some (.int (i * 2 ^ j.toNat)) else none
  | .shr, i, j => if 0 ≤ j then some (.int (i / 2 ^ j.toNat)) else none
  | .band, i, j => some (.int (Builtin.bitAnd i j))
/-- a new list where the answer is one -/
def bin (op : BOp) (a b : D) : Option Rf :=
  match op, a, b with
  | op, .int i, .int j => (binI op i j).bind fun d => some (.im d)
  | .add, .str x, .str y => if x.length + y.length ≤ listLim then some (.im (.str (x ++ y))) else none
  | .add, .tup xs, .tup ys => if xs.length + ys.length ≤ listLim then some (.im (.tup (xs ++ ys))) else none
  | .add, .lst xs, .lst ys => if xs.length + ys.length ≤ listLim then some (.tm (xs ++ ys)) else none
  | .mul, .tup xs, .int k => if xs ≠ [] ∧ xs.length ≤ 1000 ∧ 2 ≤ k ∧ k ≤ 1000 then some (.im (.tup (List.replicate k.toNat xs).flatten)) else none
  | .mul, .lst xs, .int k => if xs.length ≤ 1000 ∧ -1000 ≤ k ∧ k ≤ 1000 then some (.tm (List.replicate k.toNat xs).flatten) else none
  | _, _, _ => none

mutual
def D.py : D → PyData
  | .non => .none
  | .bl b => .bool b
  | .int i => .int i
  | .str s => .str s
  | .tup xs => .tuple (D.pys xs)
  | .lst xs => .list (D.pys xs)
  | .scr _ => .dict []
  | .fn _ => .dict []
  | .exc _ _ => .dict []
def D.pys : List D → List PyData
  | [] => []
  | x :: xs => D.py x :: D.pys xs
end

def eqD : D → D → Option Bool
  | .str x, .str y => some (x == y)
  | a, b => if SeqAt.shaped a.py = true ∧ SeqAt.shaped b.py = true then some (PyData.eqv a.py b.py) else none

def cmpD : COp → D → D → Option Bool
  | .eq, a, b => eqD a b
  | .ne, a, b => (eqD a b).bind fun c => some (!c)
  | .lt, .int i, .int j => some (decide (i < j))
  | .le, .int i, .int j => some (decide (i ≤ j))
  | .gt, .int i, .int j => some (decide (j < i))
  | .ge, .int i, .int j => some (decide (j ≤ i))
  | .lt, .str i, .str j => some (decide (i.cps.toList < j.cps.toList))
  | .is_, a, .non => some (match a with | .non => true | _ => false)
  | .isnot, a, .non => some (match a with | .non => false | _ => true)
  | _, _, _ => none

def truth : D → Option Bool
  | .non => some false
  | .bl b => some b
  | .int i => some (i != 0)
  | .str s => if s.length ≤ listLim then some (s.length != 0) else none
  | .tup xs => some (!xs.isEmpty)
  | .lst xs => some (!xs.isEmpty)
  | _ => none

def isinB (t : Nat) : D → Option Bool
  | .non => some false
  | .bl _ => some (t == 0 || t == 1)
  | .int _ => some (t == 0)
  | .str _ => some (t == 3)
  | .tup _ => some (t == 2)
  | .lst _ => some (t == 4)
  | _ => none

/-- all allI -/
def allI : List D → Option (List Int)
  | [] => some []
  | .int i :: r => (allI r).map (i :: ·)
  | _ :: _ => none
def allB : List D → Option (List Bool)
  | [] => some []
  | .bl i :: r => (allB r).map (i :: ·)
  | _ :: _ => none

def maxI : List Int → Int
  | [] => 0
  | x :: xs => xs.foldl max x
def minI : List Int → Int
  | [] => 0
  | x :: xs => xs.foldl min x

def reprD (d : D) : Option D := if d.py.canLay0 = true ∧ d.py.showable = true ∧ d.py.depth ≤ 64 ∧ d.py.shown.length ≤ listLim then some (.str d.py.shown) else none

def items : D → Option (List D)
  | .tup xs => some xs
  | .lst xs => some xs
  | .scr xs => some xs
  | _ => none

def biD : Bi → List D → Option Rf
  | .len, [.tup xs] => some (.im (.int xs.length))
  | .len, [.lst xs] => some (.im (.int xs.length))
  | .len, [.str x] => if x.length ≤ listLim then some (.im (.int x.length)) else none
  | .abs, [.int i] => some (.im (.int (if i < 0 then -i else i)))
  | .max, [.int i, .int j] => some (.im (.int (if j > i then j else i)))
  | .min, [.int i, .int j] => some (.im (.int (if j < i then j else i)))
  | .max, [.lst xs] => match allI xs with | some (x :: r) => some (.im (.int (maxI (x :: r)))) | _ => none
  | .min, [.lst xs] => match allI xs with | some (x :: r) => some (.im (.int (minI (x :: r)))) | _ => none
  | .sum, [.lst xs] => match allI xs with | some ns => some (.im (.int ns.sum)) | _ => none
  | .all, [.lst xs] => match allB xs with | some bs => some (.im (.bl (bs.all id))) | _ => none
  | .any, [.lst xs] => match allB xs with | some bs => some (.im (.bl (bs.any id))) | _ => none
  | .tuple, [.lst xs] => some (.im (.tup xs))
  | .tuple, [.tup xs] => some (.im (.tup xs))
  | .list, [.lst xs] => some (.tm xs)
  | .list, [.tup xs] => some (.tm xs)
  | .list, [.scr xs] => some (.tm xs)
  | .int, [.int i] => some (.im (.int i))
  | .int, [.bl b] => some (.im (.int (if b then 1 else 0)))
  | .repr, [d] => (reprD d).bind fun x => some (.im x)
  | .isin t, [d] => (isinB t d).bind fun b => some (.im (.bl b))
  | _, _ => none

def ixD : D → D → Option D
  | .tup xs, .int i => atI xs i
  | .lst xs, .int i => atI xs i
  | .str z, .int i => if z.length ≤ listLim then (atI z.cps.toList i).bind fun c => some (.str ⟨#[c]⟩) else none
  | _, _ => none

def cut {α : Type} (xs : List α) (lo hi : Option Int) : List α := (xs.drop (HT.sIx xs.length 0 lo)).take (HT.sIx xs.length xs.length hi - HT.sIx xs.length 0 lo)
def cutD : D → Option Int → Option Int → Option Rf
  | .tup xs, lo, hi => some (.im (.tup (cut xs lo hi)))
  | .lst xs, lo, hi => some (.tm (cut xs lo hi))
  | _, _, _ => none
def toI : D → Option Int
  | .int i => some i
  | _ => none

/-- stored at a place -/
def putIx (xs : List D) (k : Int) (d : D) : Option (List D) := (ixN xs.length k).bind fun j => some (xs.set j d)

mutual
def asgT (env : Env) : Tg → D → Option Env
  | .v i, d => some (env.set i (some (.im d)))
  | .t ts, .tup ds => asgTs env ts ds
  | .t ts, .lst ds => asgTs env ts ds
  | .t _, _ => none
def asgTs (env : Env) : List Tg → List D → Option Env
  | [], [] => some env
  | t :: ts, d :: ds => (asgT env t d).bind fun env => asgTs env ts ds
  | _, _ => none
end

mutual
/-- a target's slots -/
def Tg.sl : Tg → List Nat
  | .v i => [i]
  | .t us => Tg.sls us
def Tg.sls : List Tg → List Nat
  | [] => []
  | u :: us => Tg.sl u ++ Tg.sls us
end

def wipeE (env : Env) : List Nat → Env
  | [] => env
  | i :: is => (wipeE env is).set i none
/-- the outer names' values again -/
def backE (env0 env : Env) : List Nat → Env
  | [] => env
  | i :: is => (backE env0 env is).set i ((env0[i]?).getD none)

/-- range's ends and step -/
def rngOf : List D → Option (List D)
  | [.int n] => if -(2 ^ 62) ≤ n ∧ n < 2 ^ 62 then some ((List.range n.toNat).map fun k : Nat => .int k) else none
  | [.int a, .int b] => if -(2 ^ 62) ≤ a ∧ a < 2 ^ 62 ∧ -(2 ^ 62) ≤ b ∧ b < 2 ^ 62 then some ((List.range (b - a).toNat).map fun k : Nat => .int (a + k)) else none
  | [.int a, .int b, .int c] => if c = -1 then (if -(2 ^ 62) ≤ a ∧ a < 2 ^ 62 ∧ -(2 ^ 62) ≤ b ∧ b < 2 ^ 62 then some ((List.range (a - b).toNat).map fun k : Nat => .int (a - k)) else none)
    else if c ≠ 0 ∧ c.natAbs < 1073741824 ∧ Builtin.Range.small a b c = true then some ((List.range (Builtin.Range.rangeSize a b c).toNat).map fun k : Nat => .int (a + k * c)) else none
  | _ => none

def enumFrom (n : Nat) : List D → List D
  | [] => []
  | x :: xs => .tup [.int n, x] :: enumFrom (n + 1) xs
def zipD : List (List D) → List D
  | [xs, ys] => (xs.zip ys).map fun p => .tup [p.1, p.2]
  | _ => []

def itemss : List D → Option (List (List D))
  | [] => some []
  | d :: ds => (items d).bind fun xs => (itemss ds).bind fun xss => some (xs :: xss)

/-- no error may leave it -/
def noex {α : Type} : R α → R α
  | .ex _ _ => .no
  | x => x
/-- one turn after another; the list that slot g holds (if it is walked) stands -/
def compL (f : D → Env → R (Option D × Env)) : List D → Env → R (List D × Env)
  | [], env => .ok ([], env)
  | x :: xs, env => (f x env).bind fun r => (compL f xs r.2).bind fun q => .ok ((match r.1 with | some d => d :: q.1 | none => q.1), q.2)

/-- a def's answer, as an expression's -/
def ofVl : Vl → Rf
  | .im d => .im d
  | .ow xs => .tm xs

mutual
def ev (F : Fns) : E → Env → R (Rf × Env)
  | .var i, env => (R.of (get env i)).bind fun v => match v with
    | .im d => .ok (.im d, env)
    | .ow _ => .ok (.sl i, env)
  | .lit d, env => .ok (.im d, env)
  | .glb _ d, env => .ok (.im d, env)
  | .bin op a b, env => (ev F a env).bind fun x => (ev F b x.2).bind fun y => (R.of (peek y.2 x.1)).bind fun da => (R.of (peek y.2 y.1)).bind fun db => (R.of (bin op da db)).bind fun r => .ok (r, y.2)
  | .neg a, env => (ev F a env).bind fun x => (R.of (peek x.2 x.1)).bind fun d => (R.of (toI d)).bind fun i => .ok (.im (.int (-i)), x.2)
  | .not_ a, env => (ev F a env).bind fun x => (R.of (peek x.2 x.1)).bind fun d => (R.of (truth d)).bind fun c => .ok (.im (.bl (!c)), x.2)
  | .and_ a b, env => (ev F a env).bind fun x => (R.of (peek x.2 x.1)).bind fun d => (R.of (truth d)).bind fun c => if c = true then ev F b x.2 else .ok x
  | .or_ a b, env => (ev F a env).bind fun x => (R.of (peek x.2 x.1)).bind fun d => (R.of (truth d)).bind fun c => if c = true then .ok x else ev F b x.2
  | .cmp op a b, env => (ev F a env).bind fun x => (ev F b x.2).bind fun y => (R.of (peek y.2 x.1)).bind fun da => (R.of (peek y.2 y.1)).bind fun db => (R.of (cmpD op da db)).bind fun c => .ok (.im (.bl c), y.2)
  | .chn op op' a b c, env => (ev F a env).bind fun x => (ev F b x.2).bind fun y => (R.of (peek y.2 x.1)).bind fun da => (R.of (peek y.2 y.1)).bind fun db => (R.of (cmpD op da db)).bind fun t =>
      if t = true then (ev F c y.2).bind fun z => (R.of (peek z.2 y.1)).bind fun db => (R.of (peek z.2 z.1)).bind fun dc => (R.of (cmpD op' db dc)).bind fun t => .ok (.im (.bl t), z.2) else .ok (.im (.bl false), y.2)
  | .ite c a b, env => (ev F c env).bind fun x => (R.of (peek x.2 x.1)).bind fun d => (R.of (truth d)).bind fun t => if t = true then ev F a x.2 else ev F b x.2
  | .tup es, env => (evK F es env).bind fun x => if x.1.length ≤ listLim then .ok (.im (.tup x.1), x.2) else .no
  | .lst es, env => (evK F es env).bind fun x => if x.1.length ≤ listLim then .ok (.tm x.1, x.2) else .no
  | .call j es ds, env => (evA F es env).bind fun x => (F j (x.1 ++ ds.map .im)).bind fun r => .ok (ofVl r.1, lendBack x.2.2 r.2 x.2.1)
  | .cvar m i es, env => (R.of (get env i)).bind fun v => match v with
    | .im (.fn j) => if m ≤ j then .no else (evA F es env).bind fun x => (F j x.1).bind fun r => .ok (ofVl r.1, lendBack x.2.2 r.2 x.2.1)
    | _ => .no
  | .bi b es, env => (evP F es env).bind fun x => (R.of (peeks x.2 x.1)).bind fun ds => (R.of (biD b ds)).bind fun r => .ok (r, x.2)
  | .mt m a es, env => .no
  | .ix a b, env => (ev F a env).bind fun x => (ev F b x.2).bind fun y => (R.of (peek y.2 x.1)).bind fun da => (R.of (peek y.2 y.1)).bind fun db => (R.of (ixD da db)).bind fun d => .ok (.im d, y.2)
  | .sli a lo hi, env => (ev F a env).bind fun x => (evO F lo x.2).bind fun l => (evO F hi l.2).bind fun h => (R.of (peek h.2 x.1)).bind fun d => (R.of (cutD d l.1 h.1)).bind fun r => .ok (r, h.2)
  | .rev a, env => (ev F a env).bind fun x => (R.of (peek x.2 x.1)).bind fun d => match d with
    | .tup xs => .ok (.im (.tup xs.reverse), x.2)
    | .lst xs => .ok (.tm xs.reverse, x.2)
    | _ => .no
  | .comp own tg it c e, env => (evI F it env).bind fun x =>
      (noex (compL (fun d env1 => (R.of (asgT env1 tg d)).bind fun env2 => (evC F c env2).bind fun t =>
          if t.1 = true then (ev F e t.2).bind fun y => (R.of (keep y.2 y.1)).bind fun z => .ok (some z.1, wipeE z.2 own) else .ok (none, wipeE t.2 own))
        x.1 (wipeE x.2 own))).bind fun r => if r.1.length ≤ listLim then .ok (.tm r.1, backE x.2 r.2 own) else .no
/-- a comprehension's test -/
def evC (F : Fns) : Oe → Env → R (Bool × Env)
  | .none, env => .ok (true, env)
  | .some c, env => (ev F c env).bind fun t => (R.of (peek t.2 t.1)).bind fun td => (R.of (truth td)).bind fun b => .ok (b, t.2)
/-- kept, from the left -/
def evK (F : Fns) : Es → Env → R (List D × Env)
  | .nil, env => .ok ([], env)
  | .cons e es, env => (ev F e env).bind fun x => (R.of (keep x.2 x.1)).bind fun y => (evK F es y.2).bind fun z => .ok (y.1 :: z.1, z.2)
/-- read, from the left -/
def evP (F : Fns) : Es → Env → R (List Rf × Env)
  | .nil, env => .ok ([], env)
  | .cons e es, env => (ev F e env).bind fun x => (evP F es x.2).bind fun z => .ok (x.1 :: z.1, z.2)
/-- handed to a def: a list that a slot holds alone is lent; whose slot it was -/
def evA (F : Fns) : Es → Env → R (List Vl × Env × List (Option Nat))
  | .nil, env => .ok ([], env, [])
  | .cons e es, env => (ev F e env).bind fun x => (evA F es x.2).bind fun z => (R.of (lend z.2.1 x.1)).bind fun y => .ok (y.1 :: z.1, y.2.1, y.2.2 :: z.2.2)
def evO (F : Fns) : Oe → Env → R (Option Int × Env)
  | .none, env => .ok (none, env)
  | .some e, env => (ev F e env).bind fun x => (R.of (peek x.2 x.1)).bind fun d => (R.of (toI d)).bind fun i => .ok (some i, x.2)
/-- to be stored, from the left -/
def evS (F : Fns) : Es → Env → R (List Vl × Env)
  | .nil, env => .ok ([], env)
  | .cons e es, env => (ev F e env).bind fun x => (R.of (settle x.2 x.1)).bind fun y => (evS F es y.2).bind fun z => .ok (y.1 :: z.1, z.2)
/-- what is walked; a list that a slot held alone is kept -/
def evI (F : Fns) : Iter → Env → R (List D × Env)
  | .seq e, env => (ev F e env).bind fun x => (R.of (keep x.2 x.1)).bind fun y => (R.of (items y.1)).bind fun xs => .ok (xs, y.2)
  | .rng es, env => (evK F es env).bind fun x => (R.of (rngOf x.1)).bind fun xs => .ok (xs, x.2)
  | .enum e, env => (ev F e env).bind fun x => (R.of (keep x.2 x.1)).bind fun y => (R.of (items y.1)).bind fun xs => .ok (enumFrom 0 xs, y.2)
  | .zip es, env => (evK F es env).bind fun x => (R.of (itemss x.1)).bind fun xss => .ok (zipD xss, x.2)
end

inductive Ctl where
  | nx | bk | ct | rt (v : Vl)

def setAll (env : Env) : List Nat → List Vl → Option Env
  | [], [] => some env
  | i :: is, v :: vs => setAll (env.set i (some v)) is vs
  | _, _ => none
/-- the list that slot i holds alone -/
def getOw (env : Env) (i : Nat) : Option (List D) := (get env i).bind fun v => match v with
  | .ow xs => some xs
  | _ => none

/-- x op= e: ints and texts -/
def augV (op : BOp) : Vl → D → Option D
  | .im (.int i), .int j => match op with
    | .add => some (.int (i + j))
    | .sub => some (.int (i - j))
    | .mul => if (-(2 ^ 64) < i ∧ i < 2 ^ 64) ∨ (-(2 ^ 64) < j ∧ j < 2 ^ 64) then some (.int (i * j)) else none
    | .fdiv => if 0 < j ∧ j < 1073741824 then some (.int (i / j)) else none
    | .mod => if 0 < j then some (.int (i % j)) else none
    | _ => none
  | .im (.str x), .str y => match op with
    | .add => if x.length + y.length ≤ listLim then some (.str (x ++ y)) else none
    | _ => none
  | _, _ => none

def forL (f : D → Env → R (Ctl × Env)) : List D → Env → R (Ctl × Env)
  | [], env => .ok (.nx, env)
  | x :: xs, env => (f x env).bind fun r => match r.1 with
    | .nx => forL f xs r.2
    | .ct => forL f xs r.2
    | .bk => .ok (.nx, r.2)
    | .rt v => .ok (.rt v, r.2)

/-- at most n turns -/
def whlN (c : Env → R (Bool × Env)) (b : Env → R (Ctl × Env)) : Nat → Env → R (Ctl × Env)
  | 0, _ => .no
  | n + 1, env => (c env).bind fun t => if t.1 = true then (b t.2).bind fun r => match r.1 with
      | .nx => whlN c b n r.2
      | .ct => whlN c b n r.2
      | .bk => .ok (.nx, r.2)
      | .rt v => .ok (.rt v, r.2) else .ok (.nx, t.2)
open Classical in
/-- as many as it takes -/
noncomputable def whl (c : Env → R (Bool × Env)) (b : Env → R (Ctl × Env)) (env : Env) : R (Ctl × Env) :=
  if h : ∃ n, whlN c b n env ≠ .no then whlN c b h.choose env else .no

mutual
noncomputable def exec (F : Fns) (loc : Nat → Bool) : S → Env → R (Ctl × Env)
  | .pass, env => .ok (.nx, env)
  | .brk, env => .ok (.bk, env)
  | .cont, env => .ok (.ct, env)
  | .asg tg e, env => (ev F e env).bind fun x => (R.of (keep x.2 x.1)).bind fun y => (R.of (asgT y.2 tg y.1)).bind fun env => .ok (.nx, env)
  | .set i e, env => (ev F e env).bind fun x => (R.of (settle x.2 x.1)).bind fun y => .ok (.nx, y.2.set i (some y.1))
  | .par is es, env => (evS F es env).bind fun x => (R.of (setAll x.2 is x.1)).bind fun env => .ok (.nx, env)
  | .setix i a e, env => (ev F e env).bind fun x => (R.of (keep x.2 x.1)).bind fun y => (R.of (getOw y.2 i)).bind fun _ => (ev F a y.2).bind fun z => (R.of (peek z.2 z.1)).bind fun d => (R.of (toI d)).bind fun k =>
      (R.of (getOw z.2 i)).bind fun xs => (R.of (putIx xs k y.1)).bind fun ys => .ok (.nx, z.2.set i (some (.ow ys)))
  | .augv i op e, env => (R.of (get env i)).bind fun v => (ev F e env).bind fun x => (R.of (keep x.2 x.1)).bind fun y => (R.of (augV op v y.1)).bind fun r => .ok (.nx, y.2.set i (some (.im r)))
  | .augix i a op e, env => .no
  | .app i e, env => (R.of (getOw env i)).bind fun _ => (ev F e env).bind fun x => (R.of (keep x.2 x.1)).bind fun y => (R.of (getOw y.2 i)).bind fun xs =>
      if xs.length < listLim then .ok (.nx, y.2.set i (some (.ow (xs ++ [y.1])))) else .no
  | .ext i e, env => (R.of (getOw env i)).bind fun _ => (ev F e env).bind fun x => (R.of (peek x.2 x.1)).bind fun d => (R.of (getOw x.2 i)).bind fun xs => match d with
      | .lst ys => if xs.length + ys.length ≤ listLim then .ok (.nx, x.2.set i (some (.ow (xs ++ ys)))) else .no
      | _ => .no
  | .drop e, env => (ev F e env).bind fun x => .ok (.nx, x.2)
  | .ret e, env => (ev F e env).bind fun x => (R.of (giveback loc x.2 x.1)).bind fun y => .ok (.rt y.1, y.2)
  | .retn, env => .ok (.rt (.im .non), env)
  | .iff c a b, env => (ev F c env).bind fun t => (R.of (peek t.2 t.1)).bind fun td => (R.of (truth td)).bind fun q => if q = true then execs F loc a t.2 else execs F loc b t.2
  | .whl c b, env => whl (fun env => (ev F c env).bind fun t => (R.of (peek t.2 t.1)).bind fun td => (R.of (truth td)).bind fun q => .ok (q, t.2)) (fun env => execs F loc b env) env
  | .forr tg it b, env => (evI F it env).bind fun x => forL (fun d env => (R.of (asgT env tg d)).bind fun env1 => execs F loc b env1) x.1 x.2
  | .rais c es, env => (evK F es env).bind fun x => match x.1 with
      | [d] => .ex c d
      | _ => .no
noncomputable def execs (F : Fns) (loc : Nat → Bool) : Ss → Env → R (Ctl × Env)
  | .nil, env => .ok (.nx, env)
  | .cons s ss, env => (exec F loc s env).bind fun r => match r.1 with
    | .nx => execs F loc ss r.2
    | c => .ok (c, r.2)
end

/-- the parameters that the body stores to are lost to the caller -/
def outs (loc : Nat → Bool) (n : Nat) (env : Env) : Env := (List.range n).map fun i => if loc i then none else (env[i]?).getD none
/-- a lent list in a parameter that the body stores to may not change any more -/
def entry (loc : Nat → Bool) : Nat → List Vl → Env
  | _, [] => []
  | i, v :: vs => (if loc i then some (.im (frz v)) else some v) :: entry loc (i + 1) vs
/-- a def: so many slots, the parameters first; lost: the parameters that the body stores to -/
def locOf (np : Nat) (lost : List Nat) (i : Nat) : Bool := decide (np ≤ i) || lost.contains i
noncomputable def fnOf (F : Fns) (np slots : Nat) (lost : List Nat) (body : Ss) : Fn := fun vs =>
  if vs.length = np then (execs F (locOf np lost) body (entry (locOf np lost) 0 vs ++ List.replicate (slots - np) none)).bind fun r => match r.1 with
    | .nx => .ok (.im .non, outs (locOf np lost) np r.2)
    | .rt v => .ok (v, outs (locOf np lost) np r.2)
    | _ => .no
  else .no
end RB

set_option linter.all false
namespace RB
open PySem L2
open PySem.W (Frag)

/-- an object of the module that is read as a list -/
def KLst (K : Frag) (a : Addr) (xs : List V) : Prop :=
  ∃ (o : Obj) (its : Array Value) (n : Nat), K.lookup a = some o ∧ o.cls = .type "list" ∧ o.dict = none ∧ o.data = .seq its n ∧ its.size ≤ sizeLine ∧ Vals xs its.toList

section
variable (K : Frag) (FT : Nat → Option Addr) (H : Hp) (Z : Addr → Prop)
mutual
/-- v is the data d; lists that may not change any more stand at Z -/
inductive Rep : V → D → Prop
  | non : Rep .non .non
  | bl (b : Bool) : Rep (.bl b) (.bl b)
  | int (i : Int) : Rep (.int i) (.int i)
  | str (x : Str) : Rep (.str x) (.str x)
  | tup {a : Addr} {vs : List V} {ds : List D} : SqT K H a vs → Reps vs ds → Rep (.ref a) (.tup ds)
  | lst {a : Addr} {vs : List V} {ds : List D} : H a = some (.lst vs) → Z a → Reps vs ds → Rep (.ref a) (.lst ds)
  | scr {a : Addr} {vs : List V} {ds : List D} : ((∃ o, H a = some (.frz o (.lst vs))) ∨ KLst K a vs) → Reps vs ds → Rep (.ref a) (.scr ds)
  | fn {a : Addr} {j : Nat} : FT j = some a → Rep (.ref a) (.fn j)
inductive Reps : List V → List D → Prop
  | nil : Reps [] []
  | cons {v : V} {vs : List V} {d : D} {ds : List D} : Rep v d → Reps vs ds → Reps (v :: vs) (d :: ds)
end
/-- read only: the list itself may be one that changes -/
def Pk (v : V) (d : D) : Prop := Rep K FT H Z v d ∨ ∃ a vs ds, v = .ref a ∧ d = .lst ds ∧ H a = some (.lst vs) ∧ Reps K FT H Z vs ds
end

/-- what has happened: lists at O may have changed, the rest stands -/
structure Go (O : Addr → Prop) (H : Hp) (Z : Addr → Prop) (H' : Hp) (Z' : Addr → Prop) : Prop where
  fr : ∀ p o, H p = some o → ¬ O p → H' p = some o
  dom : ∀ p o, H p = some o → ∃ o', H' p = some o'
  zm : ∀ p, Z p → Z' p
  zn : ∀ p, Z' p → Z p ∨ O p ∨ H p = none

def Own (env : Env) (σ : St) (a : Addr) : Prop := ∃ (i : Nat) (xs : List D), env[i]? = some (some (.ow xs)) ∧ σ[i]? = some (some (.ref a))

structure EnvR (K : Frag) (FT : Nat → Option Addr) (H : Hp) (Z : Addr → Prop) (env : Env) (σ : St) : Prop where
  len : env.length = σ.length
  im : ∀ (i : Nat) d, env[i]? = some (some (.im d)) → ∃ v, σ[i]? = some (some v) ∧ Rep K FT H Z v d
  ow : ∀ (i : Nat) xs, env[i]? = some (some (.ow xs)) → ∃ a vs, σ[i]? = some (some (.ref a)) ∧ H a = some (.lst vs) ∧ Reps K FT H Z vs xs ∧ ¬ Z a
  inj : ∀ (i j : Nat) xs ys a, env[i]? = some (some (.ow xs)) → env[j]? = some (some (.ow ys)) → σ[i]? = some (some (.ref a)) → σ[j]? = some (some (.ref a)) → i = j
  zh : ∀ a, Z a → ∃ o, H a = some o

section
variable {K : Frag} {FT : Nat → Option Addr} {O : Addr → Prop} {H H' H1 H2 : Hp} {Z Z' Z1 Z2 : Addr → Prop} {env env' : Env} {σ : St} {v : V} {vs : List V} {d : D} {ds : List D} {a : Addr}

theorem Go.refl : Go O H Z H Z := ⟨fun _ _ e _ => e, fun _ o e => ⟨o, e⟩, fun _ z => z, fun _ z => .inl z⟩
theorem Go.trans {O1 : Addr → Prop} (g : Go O H Z H1 Z1) (g1 : Go O1 H1 Z1 H2 Z2) (hO : ∀ p, O1 p → O p ∨ H p = none) : Go O H Z H2 Z2 where
  fr := fun p o e n => g1.fr p o (g.fr p o e n) fun h => (hO p h).elim n fun q => by rw [q] at e; cases e
  dom := fun p o e => let ⟨o', e'⟩ := g.dom p o e; g1.dom p o' e'
  zm := fun p z => g1.zm p (g.zm p z)
  zn := fun p z => by
    rcases g1.zn p z with h | h | h
    · exact g.zn p h
    · rcases hO p h with h | h
      · exact .inr (.inl h)
      · exact .inr (.inr h)
    · refine .inr (.inr ?_)
      cases q : H p with
      | none => rfl
      | some o =>
        obtain ⟨o', e'⟩ := g.dom p o q
        rw [h] at e'; cases e'
theorem Go.free (g : Go O H Z H1 Z1) {p : Addr} (h : H1 p = none) : H p = none := by
  cases q : H p with
  | none => rfl
  | some o =>
    obtain ⟨o', e'⟩ := g.dom p o q
    rw [h] at e'; cases e'
theorem Go.mono {O1 : Addr → Prop} (g : Go O H Z H1 Z1) (h : ∀ p, O p → O1 p) : Go O1 H Z H1 Z1 :=
  ⟨fun p o e n => g.fr p o e fun q => n (h p q), g.dom, g.zm, fun p z => (g.zn p z).imp_right fun q => q.imp_left (h p)⟩
/-- a new object -/
theorem Go.new {o : HO} (hp : H a = none) : Go O H Z (upd H a o) Z where
  fr := fun p o e _ => by rw [upd_ne (ne_of_none e hp)]; exact e
  dom := fun p o e => ⟨o, by rw [upd_ne (ne_of_none e hp)]; exact e⟩
  zm := fun _ z => z
  zn := fun _ z => .inl z

mutual
theorem Rep.go (g : Go O H Z H' Z') (hO : ∀ p, O p → ¬ Z p ∧ ∃ ws, H p = some (.lst ws)) : ∀ {v : V} {d : D}, Rep K FT H Z v d → Rep K FT H' Z' v d
  | _, _, .non => .non
  | _, _, .bl b => .bl b
  | _, _, .int b => .int b
  | _, _, .str b => .str b
  | _, _, .tup h r => .tup (by
      rcases h with (h | ⟨o, h⟩) | h
      · exact .inl (.inl (g.fr _ _ h fun q => by obtain ⟨_, ws, e⟩ := hO _ q; rw [h] at e; cases e))
      · exact .inl (.inr ⟨o, g.fr _ _ h fun q => by obtain ⟨_, ws, e⟩ := hO _ q; rw [h] at e; cases e⟩)
      · exact .inr h) (Reps.go g hO r)
  | _, _, .lst h z r => .lst (g.fr _ _ h fun q => (hO _ q).1 z) (g.zm _ z) (Reps.go g hO r)
  | _, _, .scr h r => .scr (by
      rcases h with ⟨o, h⟩ | h
      · exact .inl ⟨o, g.fr _ _ h fun q => by obtain ⟨_, ws, e⟩ := hO _ q; rw [h] at e; cases e⟩
      · exact .inr h) (Reps.go g hO r)
  | _, _, .fn h => .fn h
theorem Reps.go (g : Go O H Z H' Z') (hO : ∀ p, O p → ¬ Z p ∧ ∃ ws, H p = some (.lst ws)) : ∀ {vs : List V} {ds : List D}, Reps K FT H Z vs ds → Reps K FT H' Z' vs ds
  | _, _, .nil => .nil
  | _, _, .cons h r => .cons (Rep.go g hO h) (Reps.go g hO r)
end

theorem EnvR.own (E : EnvR K FT H Z env σ) : ∀ p, Own env σ p → ¬ Z p ∧ ∃ ws, H p = some (.lst ws) := fun p ⟨i, xs, h1, h2⟩ => by
  obtain ⟨a, vs, e, q, _, n⟩ := E.ow i xs h1
  rw [h2] at e
  cases e
  exact ⟨n, vs, q⟩
theorem Rep.goE (E : EnvR K FT H Z env σ) (g : Go (Own env σ) H Z H' Z') (r : Rep K FT H Z v d) : Rep K FT H' Z' v d := r.go g E.own
theorem Reps.goE (E : EnvR K FT H Z env σ) (g : Go (Own env σ) H Z H' Z') (r : Reps K FT H Z vs ds) : Reps K FT H' Z' vs ds := r.go g E.own
/-- nothing changed but for new objects and what may not change any more -/
theorem Rep.grow (g : Go (fun _ => False) H Z H' Z') (r : Rep K FT H Z v d) : Rep K FT H' Z' v d := r.go g fun _ h => h.elim
theorem Reps.grow (g : Go (fun _ => False) H Z H' Z') (r : Reps K FT H Z vs ds) : Reps K FT H' Z' vs ds := r.go g fun _ h => h.elim

theorem Reps.length : ∀ {vs : List V} {ds : List D}, Reps K FT H Z vs ds → vs.length = ds.length
  | _, _, .nil => rfl
  | _, _, .cons _ r => by simp [r.length]
theorem Reps.append : ∀ {vs ws : List V} {ds es : List D}, Reps K FT H Z vs ds → Reps K FT H Z ws es → Reps K FT H Z (vs ++ ws) (ds ++ es)
  | _, _, _, _, .nil, s => s
  | _, _, _, _, .cons h r, s => .cons h (r.append s)
theorem Reps.one (h : Rep K FT H Z v d) : Reps K FT H Z [v] [d] := .cons h .nil
theorem Reps.get : ∀ {vs : List V} {ds : List D} {i : Nat} {d : D}, Reps K FT H Z vs ds → ds[i]? = some d → ∃ v, vs[i]? = some v ∧ Rep K FT H Z v d
  | _, _, _, _, .nil, e => by simp at e
  | _, _, 0, _, .cons h _, e => by simp at e; subst e; exact ⟨_, rfl, h⟩
  | _, _, i + 1, d, .cons _ r, e => by
    obtain ⟨v, h1, h2⟩ := r.get (i := i) (by simpa using e)
    exact ⟨v, by simpa using h1, h2⟩
theorem Reps.getV : ∀ {vs : List V} {ds : List D} {i : Nat} {v : V}, Reps K FT H Z vs ds → vs[i]? = some v → ∃ d, ds[i]? = some d ∧ Rep K FT H Z v d
  | _, _, _, _, .nil, e => by simp at e
  | _, _, 0, _, .cons h _, e => by simp at e; subst e; exact ⟨_, rfl, h⟩
  | _, _, i + 1, d, .cons _ r, e => by
    obtain ⟨v, h1, h2⟩ := r.getV (i := i) (by simpa using e)
    exact ⟨v, by simpa using h1, h2⟩
theorem Reps.take : ∀ {vs : List V} {ds : List D} (n : Nat), Reps K FT H Z vs ds → Reps K FT H Z (vs.take n) (ds.take n)
  | _, _, 0, _ => by simp; exact .nil
  | _, _, _ + 1, .nil => .nil
  | _, _, n + 1, .cons h r => .cons h (r.take n)
theorem Reps.drop : ∀ {vs : List V} {ds : List D} (n : Nat), Reps K FT H Z vs ds → Reps K FT H Z (vs.drop n) (ds.drop n)
  | _, _, 0, r => r
  | _, _, _ + 1, .nil => .nil
  | _, _, n + 1, .cons _ r => r.drop n
theorem Reps.set (h : Rep K FT H Z v d) : ∀ {vs : List V} {ds : List D} (n : Nat), Reps K FT H Z vs ds → Reps K FT H Z (vs.set n v) (ds.set n d)
  | _, _, _, .nil => .nil
  | _, _, 0, .cons _ r => .cons h r
  | _, _, n + 1, .cons q r => .cons q (r.set h n)
theorem Reps.reverse : ∀ {vs : List V} {ds : List D}, Reps K FT H Z vs ds → Reps K FT H Z vs.reverse ds.reverse
  | _, _, .nil => .nil
  | _, _, .cons h r => by simp only [List.reverse_cons]; exact r.reverse.append (.one h)
theorem Reps.flat : ∀ (n : Nat) {vs : List V} {ds : List D}, Reps K FT H Z vs ds → Reps K FT H Z (List.replicate n vs).flatten (List.replicate n ds).flatten
  | 0, _, _, _ => .nil
  | n + 1, _, _, r => by simp only [List.replicate_succ, List.flatten_cons]; exact r.append (r.flat n)
theorem Reps.cut {lo hi : Option Int} (r : Reps K FT H Z vs ds) : Reps K FT H Z (cutV vs lo hi) (cut ds lo hi) := by
  unfold cutV RB.cut
  rw [r.length]
  exact (r.drop _).take _

theorem Pk.of (r : Rep K FT H Z v d) : Pk K FT H Z v d := .inl r
/-- by kinds -/
theorem Pk.lst {ds : List D} (p : Pk K FT H Z v (.lst ds)) : ∃ a vs, v = .ref a ∧ H a = some (.lst vs) ∧ Reps K FT H Z vs ds := by
  rcases p with p | ⟨a, vs, ds', e, e', h, r⟩
  · cases p with
    | lst h _ r => exact ⟨_, _, rfl, h, r⟩
  · cases e'
    exact ⟨a, vs, e, h, r⟩
theorem Pk.tup {ds : List D} (p : Pk K FT H Z v (.tup ds)) : ∃ a vs, v = .ref a ∧ SqT K H a vs ∧ Reps K FT H Z vs ds := by
  rcases p with p | ⟨a, vs, ds', e, e', h, r⟩
  · cases p with
    | tup h r => exact ⟨_, _, rfl, h, r⟩
  · cases e'
theorem Pk.scr {ds : List D} (p : Pk K FT H Z v (.scr ds)) : ∃ a vs, v = .ref a ∧ SqL K H a vs ∧ Reps K FT H Z vs ds := by
  rcases p with p | ⟨a, vs, ds', e, e', h, r⟩
  · cases p with
    | scr h r =>
      refine ⟨_, _, rfl, ?_, r⟩
      rcases h with ⟨o, h⟩ | h
      · exact .inl (.inr ⟨o, h⟩)
      · exact .inr h
  · cases e'
theorem Pk.int {i : Int} (p : Pk K FT H Z v (.int i)) : v = .int i := by
  rcases p with p | ⟨a, vs, ds', e, e', h, r⟩
  · cases p; rfl
  · cases e'
theorem Pk.bl {i : Bool} (p : Pk K FT H Z v (.bl i)) : v = .bl i := by
  rcases p with p | ⟨a, vs, ds', e, e', h, r⟩
  · cases p; rfl
  · cases e'
theorem Pk.str {i : Str} (p : Pk K FT H Z v (.str i)) : v = .str i := by
  rcases p with p | ⟨a, vs, ds', e, e', h, r⟩
  · cases p; rfl
  · cases e'
theorem Pk.non (p : Pk K FT H Z v .non) : v = .non := by
  rcases p with p | ⟨a, vs, ds', e, e', h, r⟩
  · cases p; rfl
  · cases e'
theorem Pk.fn {j : Nat} (p : Pk K FT H Z v (.fn j)) : ∃ a, v = .ref a ∧ FT j = some a := by
  rcases p with p | ⟨a, vs, ds', e, e', h, r⟩
  · cases p with
    | fn h => exact ⟨_, rfl, h⟩
  · cases e'
theorem Pk.noexc {c : Nat} {x : D} (p : Pk K FT H Z v (.exc c x)) : False := by
  rcases p with p | ⟨a, vs, ds', e, e', h, r⟩
  · cases p
  · cases e'

mutual
theorem Rep.dp : ∀ {v : V} {d : D}, Rep K FT H Z v d → d.py.canLay0 = true → Dp K H v d.py
  | _, _, .non, _ => .non
  | _, _, .bl b, _ => .bl b
  | _, _, .int b, _ => .int b
  | _, _, .str b, _ => .str b
  | _, _, .tup h r, e => .tup h (r.dps (by simpa [D.py, PyData.canLay0] using e))
  | _, _, .lst h _ r, e => .lst (.of h) (r.dps (by simpa [D.py, PyData.canLay0] using e))
  | _, _, .scr h r, e => by simp [D.py, PyData.canLay0] at e
  | _, _, .fn h, e => by simp [D.py, PyData.canLay0] at e
theorem Reps.dps : ∀ {vs : List V} {ds : List D}, Reps K FT H Z vs ds → PyData.canLayAll0 (D.pys ds) = true → DpAll K H vs (D.pys ds)
  | _, _, .nil, _ => .nil
  | _, _, .cons h r, e => by
    simp only [D.pys, PyData.canLayAll0, Bool.and_eq_true] at e
    exact .cons (h.dp e.1) (r.dps e.2)
end
theorem Pk.dp (p : Pk K FT H Z v d) (e : d.py.canLay0 = true) : Dp K H v d.py := by
  rcases p with p | ⟨a, vs, ds', rfl, rfl, h, r⟩
  · exact p.dp e
  · exact .lst (.of h) (r.dps (by simpa [D.py, PyData.canLay0] using e))
end
end RB

set_option linter.all false
set_option maxHeartbeats 1000000
namespace RB
open PySem L2
open PySem.W (Frag)

def bop : BOp → Operator
  | .add => .Add | .sub => .Sub | .mul => .Mult | .fdiv => .FloorDiv | .mod => .Mod | .pow => .Pow | .shl => .LShift | .shr => .RShift | .band => .BitAnd
def cop : COp → CmpOp
  | .eq => .Eq | .ne => .NotEq | .lt => .Lt | .le => .LtE | .gt => .Gt | .ge => .GtE | .is_ => .Is | .isnot => .IsNot | .in_ => .In | .notin => .NotIn

/-- an answer: data, or a new list -/
def AnsR (K : Frag) (FT : Nat → Option Addr) (H H' : Hp) (Z : Addr → Prop) (v : V) : Rf → Prop
  | .im d => Rep K FT H' Z v d
  | .tm xs => ∃ a vs, v = .ref a ∧ H a = none ∧ H' a = some (.lst vs) ∧ Reps K FT H' Z vs xs
  | .sl _ => False
def Ans (K : Frag) (FT : Nat → Option Addr) (H : Hp) (Z : Addr → Prop) (r : Rf) (Q : VK) : Prop :=
  ∀ v H', Go (fun _ => False) H Z H' Z → AnsR K FT H H' Z v r → Q v H'

section
variable {K : Frag} {FT : Nat → Option Addr} {H : Hp} {Z : Addr → Prop} {Q : VK}
theorem Ans.int {i : Int} (h : Ans K FT H Z (.im (.int i)) Q) : Q (.int i) H := h _ _ .refl (.int i)
theorem Ans.bl {i : Bool} (h : Ans K FT H Z (.im (.bl i)) Q) : Q (.bl i) H := h _ _ .refl (.bl i)
theorem Ans.str {i : Str} (h : Ans K FT H Z (.im (.str i)) Q) : Q (.str i) H := h _ _ .refl (.str i)
theorem Ans.rep {v : V} {d : D} (h : Ans K FT H Z (.im d) Q) (r : Rep K FT H Z v d) : Q v H := h _ _ .refl r
theorem Ans.tup {vs : List V} {ds : List D} {p : Addr} (h : Ans K FT H Z (.im (.tup ds)) Q) (r : Reps K FT H Z vs ds) (hp : H p = none) : Q (.ref p) (upd H p (.tup vs)) :=
  h _ _ (.new hp) (.tup (.of upd_same) (r.grow (.new hp)))
theorem Ans.lst {vs : List V} {ds : List D} {p : Addr} (h : Ans K FT H Z (.tm ds) Q) (r : Reps K FT H Z vs ds) (hp : H p = none) : Q (.ref p) (upd H p (.lst vs)) :=
  h _ _ (.new hp) ⟨p, vs, rfl, hp, upd_same, r.grow (.new hp)⟩
end

theorem lim_line {n : Nat} (h : n ≤ listLim) : n ≤ sizeLine := by
  rw [sizeLine_eq]; unfold listLim at h; omega
theorem wide_abs {i : Int} (h : wide i = true) : i.natAbs < 2 ^ 4000 := of_decide_eq_true h

section
variable {X : Cx} {FT : Nat → Option Addr}

def rBin (K : Frag) (FT : Nat → Option Addr) (op : BOp) : R2 := fun x y H Q => ∃ Z da db r, Pk K FT H Z x da ∧ Pk K FT H Z y db ∧ bin op da db = some r ∧ Ans K FT H Z r Q

theorem binI_ok {op : BOp} {i j : Int} {d : D} (e : binI op i j = some d) : ∃ k, d = .int k := by
  cases op <;> simp only [binI] at e <;> (try split at e) <;> first | (cases e; exact ⟨_, rfl⟩) | cases e

theorem op_binI {op : BOp} {i j : Int} {t u : Tok} {pins : List (Addr × Obj)} {s : Shared} {σ : St} {H : Hp} {Q : VK} {k : Int} (I : Inv X pins σ H s) (e : binI op i j = some (.int k)) (q : Q (.int k) H) :
    wpAny (model X.prog X.w) X.A (binaryOp (bop op) (.int i t) (.int j u)) (EP X pins σ Q) X.xe s := by
  have ri : RelV (.int i) (.int i t) := ⟨t, rfl⟩
  have rj : RelV (.int j) (.int j u) := ⟨u, rfl⟩
  cases op <;> simp only [binI] at e
  · cases e; exact op_add pins s σ H _ _ _ _ Q I ri rj ⟨i, j, rfl, rfl, q⟩
  · cases e; exact op_sub pins s σ H _ _ _ _ Q I ri rj ⟨i, j, rfl, rfl, q⟩
  · split at e
    · rename_i hc
      cases e
      rcases hc with hc | hc | hc
      · exact op_mul pins s σ H _ _ _ _ Q I ri rj ⟨i, j, rfl, rfl, .inl hc, q⟩
      · exact op_mul pins s σ H _ _ _ _ Q I ri rj ⟨i, j, rfl, rfl, .inr hc, q⟩
      · exact op_mulW pins s σ H _ _ _ _ Q I ri rj ⟨i, j, rfl, rfl, wide_mul (wide_abs hc.1) (wide_abs hc.2) (by decide) (by decide) (by decide), q⟩
    · cases e
  · split at e
    · rename_i hc
      cases e
      rcases hc.2 with h | h
      · exact op_fdiv pins s σ H _ _ _ _ Q I ri rj ⟨i, j, rfl, rfl, ⟨hc.1, h⟩, q⟩
      · exact op_fdivW pins s σ H _ _ _ _ Q I ri rj ⟨i, j, rfl, rfl, wide_div hc.1 (wide_abs h) (by decide) (by decide), q⟩
    · cases e
  · split at e
    · rename_i hc
      cases e
      exact op_mod pins s σ H _ _ _ _ Q I ri rj ⟨i, j, rfl, rfl, hc, q⟩
    · cases e
  · split at e
    · rename_i hc
      cases e
      exact op_pow pins s σ H _ _ _ _ Q I ri rj ⟨i, j, rfl, rfl, ⟨hc.1, hc.2.1, by omega⟩, q⟩
    · cases e
  · split at e
    · rename_i hc
      cases e
      exact op_shl pins s σ H _ _ _ _ Q I ri rj ⟨i, j, rfl, rfl, ⟨hc.1, hc.2.1, by omega⟩, q⟩
    · cases e
  · split at e
    · rename_i hc
      cases e
      exact op_shr pins s σ H _ _ _ _ Q I ri rj ⟨i, j, rfl, rfl, hc, q⟩
    · cases e
  · cases e; exact op_and pins s σ H _ _ _ _ Q I ri rj ⟨i, j, rfl, rfl, q⟩

theorem op_bin (op : BOp) : OpR X (binaryOp (bop op)) (rBin X.K FT op) := by
  intro pins s σ H x y v u Q I rx ry ⟨Z, da, db, r, px, py, e, q⟩
  unfold bin at e
  split at e
  · -- two ints
    rename_i i j
    cases px.int
    cases py.int
    obtain ⟨t, rfl⟩ := rx
    obtain ⟨t', rfl⟩ := ry
    obtain ⟨d, e1, e2⟩ := Option.bind_eq_some_iff.mp e
    obtain ⟨k, rfl⟩ := binI_ok e1
    cases e2
    exact op_binI I e1 q.int
  · -- texts
    split at e
    · rename_i hl
      cases e
      cases px.str
      cases py.str
      exact op_add_str pins s σ H _ _ v u Q I rx ry ⟨_, _, rfl, rfl, lim_line hl, q.str⟩
    · cases e
  · -- tuples
    split at e
    · rename_i hl
      cases e
      obtain ⟨a, xs, rfl, h1, r1⟩ := px.tup
      obtain ⟨b, ys, rfl, h2, r2⟩ := py.tup
      refine op_catA pins s σ H _ _ v u Q I rx ry ⟨a, b, xs, ys, rfl, rfl, h1, h2, ?_, fun e => ?_, fun _ e => ?_, fun _ _ p hp => ?_⟩
      · rw [r1.length, r2.length]; exact lim_line hl
      · subst e
        cases r1
        exact q.rep (.tup h2 r2)
      · subst e
        cases r2
        exact q.rep (.tup h1 (by rw [List.append_nil]; exact r1))
      · exact q.tup (r1.append r2) hp
    · cases e
  · -- lists
    split at e
    · rename_i hl
      cases e
      obtain ⟨a, xs, rfl, h1, r1⟩ := px.lst
      obtain ⟨b, ys, rfl, h2, r2⟩ := py.lst
      exact op_cat pins s σ H _ _ v u Q I rx ry ⟨a, b, xs, ys, rfl, rfl, h1, h2, by rw [r1.length, r2.length]; exact lim_line hl, fun p hp => q.lst (r1.append r2) hp⟩
    · cases e
  · -- a tuple, many times
    split at e
    · rename_i xs k hl
      cases e
      obtain ⟨a, vs, rfl, h1, r1⟩ := px.tup
      cases py.int
      refine op_repT pins s σ H _ _ v u Q I rx ry ⟨a, k, vs, rfl, rfl, h1, ?_, hl.2.2.1, hl.2.2.2, by rw [r1.length]; exact hl.2.1, fun p hp => q.tup (r1.flat _) hp⟩
      intro e
      have := r1.length
      rw [e] at this
      exact hl.1 (List.eq_nil_of_length_eq_zero this.symm)
    · cases e
  · split at e
    · rename_i xs k hl
      cases e
      obtain ⟨a, vs, rfl, h1, r1⟩ := px.lst
      cases py.int
      refine op_rep pins s σ H _ _ v u Q I rx ry ⟨a, k, vs, rfl, rfl, h1, by omega, by omega, ?_, fun p hp => q.lst (r1.flat _) hp⟩
      rw [r1.length, sizeLine_eq]
      have : xs.length * k.toNat ≤ 1000 * 1000 := Nat.mul_le_mul hl.1 (by omega)
      omega
    · cases e
  · cases e

def rCmp (K : Frag) (FT : Nat → Option Addr) (op : COp) : R2 := fun x y H Q => ∃ Z da db c, Pk K FT H Z x da ∧ Pk K FT H Z y db ∧ cmpD op da db = some c ∧ Q (.bl c) H
theorem op_cmp (hu : X.A.units + 64 < cLine) (op : COp) : OpR X (compareOp (cop op)) (rCmp X.K FT op) := by
  intro pins s σ H x y v u Q I rx ry ⟨Z, da, db, c, px, py, e, q⟩
  have eqs : ∀ {c : Bool}, eqD da db = some c → (∃ i j, da = .str i ∧ db = .str j ∧ c = (i == j)) ∨ (PyData.eqv da.py db.py = c ∧ ∃ d e, Dp X.K H x d ∧ Dp X.K H y e ∧ SeqAt.shaped d = true ∧ SeqAt.shaped e = true ∧ d = da.py ∧ e = db.py) := fun {c} e => by
    unfold eqD at e
    split at e
    · injection e with e
      exact .inl ⟨_, _, rfl, rfl, e.symm⟩
    · split at e
      · rename_i hs
        injection e with e
        exact .inr ⟨e, _, _, px.dp (SeqAt.canLay_of_shaped hs.1), py.dp (SeqAt.canLay_of_shaped hs.2), hs.1, hs.2, rfl, rfl⟩
      · cases e
  unfold cmpD at e
  split at e
  · rcases eqs e with ⟨i, j, rfl, rfl, rfl⟩ | ⟨e1, d, d', h1, h2, s1, s2, rfl, rfl⟩
    · cases px.str
      cases py.str
      exact op_eq pins s σ H _ _ v u Q I rx ry ⟨rfl, by rw [dec_str]; exact q⟩
    · exact op_eqD hu pins s σ H x y v u Q I rx ry ⟨_, _, h1, h2, s1, s2, by rw [e1]; exact q⟩
  · obtain ⟨c', e1, e2⟩ := Option.bind_eq_some_iff.mp e
    injection e2 with e2
    rcases eqs e1 with ⟨i, j, rfl, rfl, rfl⟩ | ⟨e1, d, d', h1, h2, s1, s2, rfl, rfl⟩
    · cases px.str
      cases py.str
      exact op_ne pins s σ H _ _ v u Q I rx ry ⟨rfl, by rw [dec_str, e2]; exact q⟩
    · exact op_neD hu pins s σ H x y v u Q I rx ry ⟨_, _, h1, h2, s1, s2, by rw [e1, e2]; exact q⟩
  · injection e with e; subst e; cases px.int; cases py.int
    exact op_lt pins s σ H _ _ v u Q I rx ry ⟨_, _, rfl, rfl, q⟩
  · injection e with e; subst e; cases px.int; cases py.int
    exact op_le pins s σ H _ _ v u Q I rx ry ⟨_, _, rfl, rfl, q⟩
  · injection e with e; subst e; cases px.int; cases py.int
    exact op_gt pins s σ H _ _ v u Q I rx ry ⟨_, _, rfl, rfl, q⟩
  · injection e with e; subst e; cases px.int; cases py.int
    exact op_ge pins s σ H _ _ v u Q I rx ry ⟨_, _, rfl, rfl, q⟩
  · injection e with e; subst e; cases px.str; cases py.str
    exact op_lt_str pins s σ H _ _ v u Q I rx ry ⟨_, _, rfl, rfl, q⟩
  · injection e with e; subst e; cases py.non
    refine op_isN pins s σ H _ _ v u Q I rx ry ⟨rfl, ?_⟩
    cases da with
    | non => cases px.non; exact q
    | bl b => cases px.bl; exact q
    | int b => cases px.int; exact q
    | str b => cases px.str; exact q
    | tup b => obtain ⟨_, _, rfl, _⟩ := px.tup; exact q
    | lst b => obtain ⟨_, _, rfl, _⟩ := px.lst; exact q
    | scr b => obtain ⟨_, _, rfl, _⟩ := px.scr; exact q
    | fn b => obtain ⟨_, rfl, _⟩ := px.fn; exact q
    | exc c d => exact px.noexc.elim
  · injection e with e; subst e; cases py.non
    refine op_notN pins s σ H _ _ v u Q I rx ry ⟨rfl, ?_⟩
    cases da with
    | non => cases px.non; exact q
    | bl b => cases px.bl; exact q
    | int b => cases px.int; exact q
    | str b => cases px.str; exact q
    | tup b => obtain ⟨_, _, rfl, _⟩ := px.tup; exact q
    | lst b => obtain ⟨_, _, rfl, _⟩ := px.lst; exact q
    | scr b => obtain ⟨_, _, rfl, _⟩ := px.scr; exact q
    | fn b => obtain ⟨_, rfl, _⟩ := px.fn; exact q
    | exc c d => exact px.noexc.elim
  · cases e
end
end RB

set_option linter.all false
set_option maxHeartbeats 1000000
namespace RB
open PySem L2
open PySem.W (Frag)

def R.Wp {α : Type} (x : R α) (P : α → Prop) (E : Nat → D → Prop) : Prop := match x with
  | .ok a => P a
  | .ex c d => E c d
  | .no => False
section
variable {α β : Type} {x : R α} {f : α → R β} {P P' : α → Prop} {P2 : β → Prop} {E E' : Nat → D → Prop}
theorem wp_bind : (x.bind f).Wp P2 E ↔ x.Wp (fun a => (f a).Wp P2 E) E := by cases x <;> rfl
theorem wp_mono (h : x.Wp P E) (hP : ∀ a, x = .ok a → P a → P' a) (hE : ∀ c d, E c d → E' c d) : x.Wp P' E' := by
  cases x with
  | ok a => exact hP a rfl h
  | ex c d => exact hE c d h
  | no => exact h
theorem wp_of {o : Option α} : (R.of o).Wp P E ↔ ∃ a, o = some a ∧ P a := by cases o <;> simp [R.of, R.Wp]
theorem wp_ok {a : α} : (R.ok a).Wp P E ↔ P a := Iff.rfl
end

/-- what the text's top holds: where the defs stand, what they are, the errors' classes with their fields' names -/
structure Tb where
  FT : Nat → Option Addr
  F : Fns
  EX : Nat → Option (Addr × Str)

section
variable (K : Frag) (T : Tb)
/-- how an error of the text lies -/
def ExcR (c : Nat) (d : D) (cls : Value) (dd : Option Addr) (H : Hp) (Z : Addr → Prop) : Prop :=
  ∃ C f p v, T.EX c = some (C, f) ∧ cls = .ref C ∧ dd = some p ∧ H p = some (.xd [(f, v)]) ∧ Rep K T.FT H Z v d
/-- what is wanted of an error -/
def ExP (W : WX) (σ : St) (H : Hp) (Z : Addr → Prop) (O : Addr → Prop) (c : Nat) (d : D) : Prop :=
  (T.EX c).isSome = true ∧ ∀ cls dd H' Z', Go O H Z H' Z' → ExcR K T c d cls dd H' Z' → W cls dd σ H'
/-- a value as it is carried -/
def Hd (H : Hp) (Z : Addr → Prop) (env : Env) (σ : St) (v : V) : Rf → Prop
  | .im d => Rep K T.FT H Z v d
  | .tm xs => ∃ a vs, v = .ref a ∧ H a = some (.lst vs) ∧ Reps K T.FT H Z vs xs ∧ ¬ Z a ∧ ¬ Own env σ a
  | .sl i => σ[i]? = some (some v)
/-- from (H, Z, env) to (H', Z', env') -/
structure Step (σ : St) (H : Hp) (Z : Addr → Prop) (env : Env) (H' : Hp) (Z' : Addr → Prop) (env' : Env) : Prop where
  go : Go (Own env σ) H Z H' Z'
  en : EnvR K T.FT H' Z' env' σ
  ownI : ∀ (i : Nat) xs, env'[i]? = some (some (.ow xs)) → ∃ ys, env[i]? = some (some (.ow ys))
/-- a new list is new -/
def Fr (H : Hp) (v : V) : Rf → Prop
  | .tm _ => ∀ a, v = .ref a → H a = none
  | _ => True
def PostE (σ : St) (H : Hp) (Z : Addr → Prop) (env : Env) (Q : VK) (x : Rf × Env) : Prop :=
  ∀ v H' Z', Step K T σ H Z env H' Z' x.2 → Hd K T H' Z' x.2 σ v x.1 → Fr H v x.1 → Q v H'
/-- the reading of an expression by the evaluator -/
def tR (W : WX) (x : Env → R (Rf × Env)) : TE := fun σ H Q => ∃ env Z, EnvR K T.FT H Z env σ ∧ (x env).Wp (PostE K T σ H Z env Q) (ExP K T W σ H Z (Own env σ))
def tE (W : WX) (c : E) : TE := tR K T W (ev T.F c)
end

section
variable {K : Frag} {T : Tb} {W : WX} {σ : St} {H H1 H2 : Hp} {Z Z1 Z2 : Addr → Prop} {env env1 env2 : Env} {Q : VK} {v : V} {r : Rf} {d : D}

theorem Step.refl (E : EnvR K T.FT H Z env σ) : Step K T σ H Z env H Z env := ⟨.refl, E, fun _ xs h => ⟨xs, h⟩⟩
theorem Step.own (a : Step K T σ H Z env H1 Z1 env1) : ∀ p, Own env1 σ p → Own env σ p := fun p ⟨i, xs, e, q⟩ => let ⟨ys, e'⟩ := a.ownI i xs e; ⟨i, ys, e', q⟩
theorem Step.trans (a : Step K T σ H Z env H1 Z1 env1) (b : Step K T σ H1 Z1 env1 H2 Z2 env2) : Step K T σ H Z env H2 Z2 env2 :=
  ⟨a.go.trans b.go fun p h => .inl (a.own p h), b.en, fun i xs h => let ⟨_, e⟩ := b.ownI i xs h; a.ownI i _ e⟩
theorem ExP.step (a : Step K T σ H Z env H1 Z1 env1) {c : Nat} {d : D} (e : ExP K T W σ H Z (Own env σ) c d) : ExP K T W σ H1 Z1 (Own env1 σ) c d :=
  ⟨e.1, fun cls dd H' Z' g x => e.2 cls dd H' Z' (a.go.trans g fun p h => .inl (a.own p h)) x⟩
theorem Hd.step (E : EnvR K T.FT H Z env σ) (a : Step K T σ H Z env H1 Z1 env1) (h : Hd K T H Z env σ v r) : Hd K T H1 Z1 env1 σ v r := by
  cases r with
  | im d => exact Rep.goE E a.go h
  | tm xs =>
    obtain ⟨p, vs, rfl, h1, h2, h3, h4⟩ := h
    refine ⟨p, vs, rfl, a.go.fr p _ h1 h4, Reps.goE E a.go h2, fun z => ?_, fun o => h4 (a.own p o)⟩
    rcases a.go.zn p z with z | z | z
    · exact h3 z
    · exact h4 z
    · rw [h1] at z; cases z
  | sl i => exact h

theorem get_ok {env : Env} {i : Nat} {x : Vl} (e : get env i = some x) : env[i]? = some (some x) := by
  unfold get at e
  split at e
  · rename_i h
    cases e
    exact h
  · cases e
/-- read only -/
theorem Hd.peek (E : EnvR K T.FT H Z env σ) (h : Hd K T H Z env σ v r) (e : peek env r = some d) : Pk K T.FT H Z v d := by
  cases r with
  | im d' => cases e; exact .inl h
  | tm xs =>
    cases e
    obtain ⟨p, vs, rfl, h1, h2, _, _⟩ := h
    exact .inr ⟨p, vs, xs, rfl, rfl, h1, h2⟩
  | sl i =>
    obtain ⟨x, e1, e2⟩ := Option.bind_eq_some_iff.mp e
    cases e2
    have g := get_ok e1
    cases x with
    | im d' =>
      obtain ⟨v', q, r⟩ := E.im i d' g
      have h : σ[i]? = some (some v) := h
      rw [q] at h; cases h
      exact .inl r
    | ow xs =>
      obtain ⟨p, vs, q, h1, h2, _⟩ := E.ow i xs g
      have h : σ[i]? = some (some v) := h
      rw [q] at h; cases h
      exact .inr ⟨p, vs, xs, rfl, rfl, h1, h2⟩

/-- a slot's value set aside (the slot is emptied, or holds data from now on) -/
theorem EnvR.less (E : EnvR K T.FT H Z env σ) {i : Nat} : EnvR K T.FT H Z (env.set i none) σ := by
  have g : ∀ {j : Nat} {x : Vl}, (env.set i none)[j]? = some (some x) → env[j]? = some (some x) := fun {j x} e => by
    rw [List.getElem?_set] at e
    split at e
    · split at e <;> cases e
    · exact e
  exact ⟨by rw [List.length_set]; exact E.len, fun j d e => E.im j d (g e), fun j xs e => E.ow j xs (g e), fun j k xs ys a e e' => E.inj j k xs ys a (g e) (g e'), E.zh⟩
theorem own_less {i : Nat} {a : Addr} (h : Own (env.set i none) σ a) : Own env σ a := by
  obtain ⟨j, xs, e, q⟩ := h
  refine ⟨j, xs, ?_, q⟩
  rw [List.getElem?_set] at e
  split at e
  · split at e <;> cases e
  · exact e
theorem ow_less {i j : Nat} {xs : List D} (e : (env.set i none)[j]? = some (some (.ow xs))) : env[j]? = some (some (.ow xs)) := by
  rw [List.getElem?_set] at e
  split at e
  · split at e <;> cases e
  · exact e
theorem ow_im {i j : Nat} {d : D} {xs : List D} (e : (env.set i (some (.im d)))[j]? = some (some (.ow xs))) : env[j]? = some (some (.ow xs)) := by
  rw [List.getElem?_set] at e
  split at e
  · split at e <;> cases e
  · exact e
theorem own_im {i : Nat} {a : Addr} {d : D} (h : Own (env.set i (some (.im d))) σ a) : Own env σ a := by
  obtain ⟨j, xs, e, q⟩ := h
  refine ⟨j, xs, ?_, q⟩
  rw [List.getElem?_set] at e
  split at e
  · split at e <;> cases e
  · exact e
/-- more may not change any more -/
theorem Go.zadd {O : Addr → Prop} {p : Addr} {o : HO} (h : O p ∨ H p = none) : Go O H Z H (fun a => Z a ∨ a = p) :=
  ⟨fun _ _ e _ => e, fun _ o e => ⟨o, e⟩, fun _ z => .inl z, fun a z => z.elim .inl fun e => .inr (by rw [e]; exact h)⟩
theorem Rep.zm {Z' : Addr → Prop} (hz : ∀ a, Z a → Z' a) {FT : Nat → Option Addr} : ∀ {v : V} {d : D}, Rep K FT H Z v d → Rep K FT H Z' v d := by
  intro v d r
  -- by the frame rule from a step that only adds to Z where nothing stood before is not to be had: direct
  exact Rep.rec (motive_1 := fun v d _ => Rep K FT H Z' v d) (motive_2 := fun vs ds _ => Reps K FT H Z' vs ds) .non (fun b => .bl b) (fun b => .int b) (fun b => .str b)
    (fun h _ i => .tup h i) (fun h z _ i => .lst h (hz _ z) i) (fun h _ i => .scr h i) (fun h => .fn h) .nil (fun _ _ i j => .cons i j) r
theorem Reps.zm {Z' : Addr → Prop} (hz : ∀ a, Z a → Z' a) {FT : Nat → Option Addr} : ∀ {vs : List V} {ds : List D}, Reps K FT H Z vs ds → Reps K FT H Z' vs ds
  | _, _, .nil => .nil
  | _, _, .cons h r => .cons (h.zm hz) (r.zm hz)

/-- slot i's list may not change any more -/
theorem EnvR.freeze (E : EnvR K T.FT H Z env σ) {i : Nat} {xs : List D} (e : env[i]? = some (some (.ow xs))) :
    ∃ p, σ[i]? = some (some (.ref p)) ∧ EnvR K T.FT H (fun a => Z a ∨ a = p) (env.set i (some (.im (.lst xs)))) σ ∧ Rep K T.FT H (fun a => Z a ∨ a = p) (.ref p) (.lst xs) ∧ Own env σ p := by
  obtain ⟨p, vs, q, h1, h2, h3⟩ := E.ow i xs e
  have hz : ∀ a, Z a → Z a ∨ a = p := fun a z => .inl z
  have rp : Rep K T.FT H (fun a => Z a ∨ a = p) (.ref p) (.lst xs) := .lst h1 (.inr rfl) (h2.zm hz)
  refine ⟨p, q, ⟨by rw [List.length_set]; exact E.len, fun j d e' => ?_, fun j ys e' => ?_, fun j k ys zs a e1 e2 => ?_, fun a z => ?_⟩, rp, i, xs, e, q⟩
  · rw [List.getElem?_set] at e'
    split at e'
    · rename_i hj
      split at e'
      · cases e'
        subst hj
        exact ⟨_, q, rp⟩
      · cases e'
    · obtain ⟨v, a, b⟩ := E.im j d e'
      exact ⟨v, a, b.zm hz⟩
  · have hj : i ≠ j := fun z => by
      subst z
      rw [List.getElem?_set_self (List.getElem?_eq_some_iff.mp e).1] at e'
      cases e'
    rw [List.getElem?_set_ne hj] at e'
    obtain ⟨a, ws, b, c, f, g⟩ := E.ow j ys e'
    refine ⟨a, ws, b, c, f.zm hz, fun z => z.elim g fun z => ?_⟩
    subst z
    exact hj (E.inj i j xs ys a e e' q b)
  · have g : ∀ {j : Nat} {ys : List D}, (env.set i (some (.im (.lst xs))))[j]? = some (some (.ow ys)) → env[j]? = some (some (.ow ys)) := fun {j ys} e' => by
      rw [List.getElem?_set] at e'
      split at e'
      · split at e' <;> cases e'
      · exact e'
    exact E.inj j k ys zs a (g e1) (g e2)
  · rcases z with z | z
    · exact E.zh a z
    · exact ⟨_, by rw [z]; exact h1⟩
/-- a new list may not change any more -/
theorem EnvR.freezeT (E : EnvR K T.FT H Z env σ) {p : Addr} {vs : List V} (h1 : H p = some (.lst vs)) (h4 : ¬ Own env σ p) : EnvR K T.FT H (fun a => Z a ∨ a = p) env σ := by
  have hz : ∀ a, Z a → Z a ∨ a = p := fun a z => .inl z
  refine ⟨E.len, fun j d e => ?_, fun j ys e => ?_, E.inj, fun a z => ?_⟩
  · obtain ⟨v, a, b⟩ := E.im j d e
    exact ⟨v, a, b.zm hz⟩
  · obtain ⟨a, ws, b, c, f, g⟩ := E.ow j ys e
    refine ⟨a, ws, b, c, f.zm hz, fun z => z.elim g fun z => h4 ⟨j, ys, e, by rw [← z]; exact b⟩⟩
  · rcases z with z | z
    · exact E.zh a z
    · exact ⟨_, by rw [z]; exact h1⟩
/-- kept -/
theorem Step.keep {x : D × Env} (E0 : EnvR K T.FT H Z env σ) (a : Step K T σ H Z env H1 Z1 env1) (h : Hd K T H1 Z1 env1 σ v r) (f : Fr H v r) (e : keep env1 r = some x) :
    ∃ Z2, Step K T σ H Z env H1 Z2 x.2 ∧ Rep K T.FT H1 Z2 v x.1 ∧ (∀ p, Z1 p → Z2 p) ∧ ∀ p, Z2 p → Z1 p ∨ Own env1 σ p ∨ H p = none := by
  cases r with
  | im d' => cases e; exact ⟨Z1, a, h, fun _ z => z, fun _ z => .inl z⟩
  | tm xs =>
    cases e
    obtain ⟨p, vs, rfl, h1, h2, h3, h4⟩ := h
    have hz : ∀ a, Z1 a → Z1 a ∨ a = p := fun a z => .inl z
    have fp : H p = none := f p rfl
    refine ⟨_, ⟨?_, a.en.freezeT h1 h4, a.ownI⟩, .lst h1 (.inr rfl) (h2.zm hz), hz, fun q z => z.imp_right fun e => .inr (by rw [e]; exact fp)⟩
    exact ⟨a.go.fr, a.go.dom, fun q z => .inl (a.go.zm q z), fun q z => z.elim (a.go.zn q) fun e => .inr (.inr (by rw [e]; exact fp))⟩
  | sl i =>
    obtain ⟨y, e1, e2⟩ := Option.bind_eq_some_iff.mp e
    cases e2
    have g := get_ok e1
    cases y with
    | im d' =>
      obtain ⟨v', q, r⟩ := a.en.im i d' g
      have h : σ[i]? = some (some v) := h
      rw [q] at h; cases h
      have es : env1.set i (some (.im d')) = env1 := by
        apply List.ext_getElem?
        intro j
        rw [List.getElem?_set]
        split
        · rename_i hj
          subst hj
          split
          · exact g.symm
          · rename_i hn
            exact absurd (List.getElem?_eq_some_iff.mp g).1 hn
        · rfl
      refine ⟨Z1, ?_, r, fun _ z => z, fun _ z => .inl z⟩
      show Step K T σ H Z env H1 Z1 (env1.set i (some (.im d')))
      rw [es]
      exact a
    | ow xs =>
      obtain ⟨p, q, E2, rp, o⟩ := a.en.freeze g
      have h : σ[i]? = some (some v) := h
      rw [q] at h; cases h
      have hz : ∀ a, Z1 a → Z1 a ∨ a = p := fun a z => .inl z
      refine ⟨_, ⟨⟨a.go.fr, a.go.dom, fun q z => .inl (a.go.zm q z), fun q z => z.elim (a.go.zn q) fun e => .inr (.inl (by rw [e]; exact a.own p o))⟩, E2, fun j ys e => a.ownI j ys (ow_im e)⟩, rp, hz, fun q z => z.imp_right fun e => .inl (by rw [e]; exact o)⟩

/-- consequence -/
theorem pe_mono {X : Cx} {e : Expr} {t t' : TE} (h : PE X e t) (i : ∀ σ H Q, t' σ H Q → t σ H Q) : PE X e t' := ⟨fun pins s σ H Q I q => h.run pins s σ H Q I (i σ H Q q)⟩
theorem pt_mono {X : Cx} {e : Expr} {t t' : TT} (h : PT X e t) (i : ∀ σ H Q, t' σ H Q → t σ H Q) : PT X e t' := ⟨fun pins s σ H Q I q => h.run pins s σ H Q I (i σ H Q q)⟩
theorem pa_mono {X : Cx} {e : List Expr} {t t' : TA} (h : PA X e t) (i : ∀ σ H Q, t' σ H Q → t σ H Q) : PA X e t' := ⟨fun pos pins s σ H Q I q => h.run pos pins s σ H Q I (i σ H Q q)⟩
theorem ps_mono {X : Cx} {e : Stmt} {t t' : TS} (h : PS X e t) (i : ∀ D σ H, t' D σ H → t D σ H) : PS X e t' := ⟨fun pins s σ H D I q => h.run pins s σ H D I (i D σ H q)⟩
theorem pss_mono {X : Cx} {e : List Stmt} {t t' : TS} (h : PSs X e t) (i : ∀ D σ H, t' D σ H → t D σ H) : PSs X e t' := ⟨fun pins s σ H D I q => h.run pins s σ H D I (i D σ H q)⟩

/-- an expression, then what follows: from the evaluator's bind to the reading's continuation -/
theorem tR_bind {x : Env → R (Rf × Env)} {P : Rf × Env → Prop} (E : EnvR K T.FT H Z env σ) (h : (x env).Wp P (ExP K T W σ H Z (Own env σ)))
    (k : ∀ y, P y → ∀ v H1 Z1, Step K T σ H Z env H1 Z1 y.2 → Hd K T H1 Z1 y.2 σ v y.1 → Fr H v y.1 → Q v H1) : tR K T W x σ H Q :=
  ⟨env, Z, E, wp_mono h (fun y _ p v H1 Z1 st hd fr => k y p v H1 Z1 st hd fr) fun _ _ e => e⟩
/-- the same of a later expression, from the first start -/
theorem tR_next {x : Env → R (Rf × Env)} {P : Rf × Env → Prop} (a : Step K T σ H Z env H1 Z1 env1) (h : (x env1).Wp P (ExP K T W σ H Z (Own env σ)))
    (k : ∀ y, P y → ∀ v H2 Z2, Step K T σ H1 Z1 env1 H2 Z2 y.2 → Hd K T H2 Z2 y.2 σ v y.1 → Fr H1 v y.1 → Q v H2) : tR K T W x σ H1 Q :=
  ⟨env1, Z1, a.en, wp_mono h (fun y _ p v H1 Z1 st hd fr => k y p v H1 Z1 st hd fr) fun _ _ e => e.step a⟩
end

section
variable {X : Cx} {T : Tb} {W : WX} {a b c : Expr} {ca cb cc : E} {pos : Pos}

/-- an operator's answer at the end -/
theorem post_ans {K : Frag} {σ : St} {H H2 : Hp} {Z Z2 : Addr → Prop} {env env2 : Env} {Q : VK} {r : Rf} (st : Step K T σ H Z env H2 Z2 env2) (q : PostE K T σ H Z env Q (r, env2)) : Ans K T.FT H2 Z2 r Q := by
  intro v H' g h
  have g' : Go (Own env2 σ) H2 Z2 H' Z2 := g.mono fun _ h => h.elim
  have E' : EnvR K T.FT H' Z2 env2 σ := by
    have E := st.en
    refine ⟨E.len, fun i d e => ?_, fun i xs e => ?_, E.inj, fun a z => ?_⟩
    · obtain ⟨v, e1, r⟩ := E.im i d e
      exact ⟨v, e1, r.grow g⟩
    · obtain ⟨p, vs, e1, e2, r, n⟩ := E.ow i xs e
      exact ⟨p, vs, e1, g.fr _ _ e2 (fun z => z), r.grow g, n⟩
    · obtain ⟨o, e⟩ := E.zh a z
      exact ⟨o, g.fr _ _ e fun z => z⟩
  have st' : Step K T σ H2 Z2 env2 H' Z2 env2 := ⟨g', E', fun _ xs h => ⟨xs, h⟩⟩
  refine q v H' Z2 (st.trans st') ?_ ?_
  · cases r with
    | im d => exact h
    | tm xs =>
      obtain ⟨p, vs, rfl, h1, h2, h3⟩ := h
      refine ⟨p, vs, rfl, h2, h3, fun z => ?_, fun o => ?_⟩
      · obtain ⟨o, e⟩ := st.en.zh p z
        rw [h1] at e; cases e
      · obtain ⟨_, ws, e⟩ := st.en.own p o
        rw [h1] at e; cases e
    | sl i => exact h.elim
  · cases r with
    | im d => trivial
    | tm xs =>
      obtain ⟨p, vs, rfl, h1, h2, h3⟩ := h
      intro a e
      cases e
      exact st.go.free h1
    | sl i => exact h.elim

theorem pe_bin {op : BOp} (ha : PE X a (tE X.K T W ca)) (hb : PE X b (tE X.K T W cb)) : PE X (.BinOp a (bop op) b pos) (tE X.K T W (.bin op ca cb)) := by
  refine pe_mono (pe_op (op_bin (FT := T.FT) op) ha hb) fun σ H Q ⟨env, Z, E, h⟩ => ?_
  simp only [ev, wp_bind, wp_of] at h
  refine tR_bind E h fun x hx v1 H1 Z1 s1 d1 _ => tR_next s1 hx fun y hy v2 H2 Z2 s2 d2 _ => ?_
  obtain ⟨da, e1, db, e2, r, e3, q⟩ := hy
  exact ⟨Z2, da, db, r, (d1.step s1.en s2).peek s2.en e1, d2.peek s2.en e2, e3, post_ans (s1.trans s2) q⟩
theorem pe_neg (ha : PE X a (tE X.K T W ca)) : PE X (.UnaryOp .USub a pos) (tE X.K T W (.neg ca)) := by
  refine pe_mono (pe_un un_neg ha) fun σ H Q ⟨env, Z, E, h⟩ => ?_
  simp only [ev, wp_bind, wp_of] at h
  refine tR_bind E h fun x hx v1 H1 Z1 s1 d1 _ => ?_
  obtain ⟨d, e1, i, e2, q⟩ := hx
  have p := d1.peek s1.en e1
  cases d <;> cases e2
  cases p.int
  exact ⟨_, rfl, (post_ans s1 q).int⟩
theorem pe_ixE (ha : PE X a (tE X.K T W ca)) (hb : PE X b (tE X.K T W cb)) (hs : PlainIx b) : PE X (.Subscript a b pos) (tE X.K T W (.ix ca cb)) := by
  refine pe_mono (pe_ix ix_seq ha hb hs) fun σ H Q ⟨env, Z, E, h⟩ => ?_
  simp only [ev, wp_bind, wp_of] at h
  refine tR_bind E h fun x hx v1 H1 Z1 s1 d1 _ => tR_next s1 hx fun y hy v2 H2 Z2 s2 d2 _ => ?_
  obtain ⟨da, e1, db, e2, r, e3, q⟩ := hy
  have p1 := (d1.step s1.en s2).peek s2.en e1
  have p2 := d2.peek s2.en e2
  have q := post_ans (s1.trans s2) q
  have at_ : ∀ {vs : List V} {ds : List D} {i : Int} {d : D}, Reps X.K T.FT H2 Z2 vs ds → atI ds i = some d → ∃ v, atI vs i = some v ∧ Rep X.K T.FT H2 Z2 v d := fun {vs ds i d} r e => by
    obtain ⟨j, e1, e2⟩ := Option.bind_eq_some_iff.mp e
    obtain ⟨v, g1, g2⟩ := r.get e2
    refine ⟨v, ?_, g2⟩
    unfold atI
    rw [r.length, e1]
    exact g1
  unfold ixD at e3
  split at e3
  · obtain ⟨p, vs, rfl, h1, r⟩ := p1.tup
    cases p2.int
    obtain ⟨v, g1, g2⟩ := at_ r e3
    exact .inr (.inl ⟨p, vs, _, v, rfl, rfl, h1, g1, q.rep g2⟩)
  · obtain ⟨p, vs, rfl, h1, r⟩ := p1.lst
    cases p2.int
    obtain ⟨v, g1, g2⟩ := at_ r e3
    exact .inl ⟨p, vs, _, v, rfl, rfl, .of h1, g1, q.rep g2⟩
  · split at e3
    · rename_i hl
      obtain ⟨c, e4, e5⟩ := Option.bind_eq_some_iff.mp e3
      cases e5
      cases p1.str
      cases p2.int
      exact .inr (.inr ⟨_, _, c, rfl, rfl, lim_line hl, e4, q.str⟩)
    · cases e3
  · cases e3

theorem post_im {K : Frag} {σ : St} {H : Hp} {Z : Addr → Prop} {env : Env} {Q : VK} {v : V} {d : D} (E : EnvR K T.FT H Z env σ) (q : PostE K T σ H Z env Q (.im d, env)) (r : Rep K T.FT H Z v d) : Q v H := q v H Z (.refl E) r trivial
theorem pe_varE {i : Nat} {x : Str} (hN : X.N[i]? = some x) (hv : Vis X.env.scope x) (hd : (x == ("__debug__" : Str)) = false) (hcd : (x == ("__classdict__" : Str)) = false) : PE X (.Name x pos) (tE X.K T W (.var i)) := by
  refine pe_mono (pe_var hN hv hd hcd) fun σ H Q ⟨env, Z, E, h⟩ => ?_
  simp only [ev, wp_bind, wp_of] at h
  obtain ⟨y, e, h⟩ := h
  have g := get_ok e
  cases y with
  | im d =>
    obtain ⟨v, q, r⟩ := E.im i d g
    exact ⟨v, q, post_im E h r⟩
  | ow xs =>
    obtain ⟨p, vs, q, _⟩ := E.ow i xs g
    exact ⟨_, q, h _ H Z (.refl E) q trivial⟩
theorem pe_const {e : Expr} {v : V} {d : D} (he : PE X e (tC v)) (r : ∀ H Z, Rep X.K T.FT H Z v d) {f : Env → R (Rf × Env)} (hf : ∀ env, f env = .ok (.im d, env)) : PE X e (tR X.K T W f) := by
  refine pe_mono he fun σ H Q ⟨env, Z, E, h⟩ => ?_
  rw [hf] at h
  exact post_im E h (r H Z)
end

section
variable {X : Cx} {T : Tb} {W : WX} {a b c : Expr} {ca cb cc : E} {pos : Pos} {rest : List Expr}
def evT (F : Fns) (c : E) (env : Env) : R (Bool × Env) := (ev F c env).bind fun t => (R.of (peek t.2 t.1)).bind fun td => (R.of (truth td)).bind fun q => .ok (q, t.2)
def PostT (K : Frag) (T : Tb) (σ : St) (H : Hp) (Z : Addr → Prop) (env : Env) (Q : Bool → Hp → Prop) (x : Bool × Env) : Prop :=
  ∀ H' Z', Step K T σ H Z env H' Z' x.2 → Q x.1 H'
def tT (K : Frag) (T : Tb) (W : WX) (c : E) : TT := fun σ H Q => ∃ env Z, EnvR K T.FT H Z env σ ∧ (evT T.F c env).Wp (PostT K T σ H Z env Q) (ExP K T W σ H Z (Own env σ))

theorem Pk.tru {K : Frag} {FT : Nat → Option Addr} {H : Hp} {Z : Addr → Prop} {v : V} {d : D} {k : Bool} (p : Pk K FT H Z v d) (e : truth d = some k) : TruV K v H k := by
  unfold truth at e
  split at e
  · cases e; cases p.non; exact rfl
  · cases e; cases p.bl; exact rfl
  · cases e; cases p.int; exact rfl
  · split at e
    · rename_i hl
      cases e; cases p.str
      refine ⟨lim_line hl, ?_⟩
      rename_i s
      rcases Nat.eq_zero_or_pos s.length with z | z
      · rw [z]; rfl
      · have h1 : (s.length != 0) = true := by simp; omega
        have h2 : ((s.length : Int) != 0) = true := by simp; omega
        rw [h1, h2]
    · cases e
  · cases e
    obtain ⟨p, vs, rfl, h, r⟩ := p.tup
    refine .inr (.inl ⟨vs, h, ?_⟩)
    cases r <;> rfl
  · cases e
    obtain ⟨p, vs, rfl, h, r⟩ := p.lst
    refine .inl ⟨vs, .of h, ?_⟩
    cases r <;> rfl
  · cases e

theorem tT_bind {K : Frag} {σ : St} {H : Hp} {Z : Addr → Prop} {env : Env} {Q : Bool → Hp → Prop} {P : Bool × Env → Prop} {c : E} (E : EnvR K T.FT H Z env σ) (h : (evT T.F c env).Wp P (ExP K T W σ H Z (Own env σ)))
    (k : ∀ y, P y → ∀ H1 Z1, Step K T σ H Z env H1 Z1 y.2 → Q y.1 H1) : tT K T W c σ H Q :=
  ⟨env, Z, E, wp_mono h (fun y _ p H1 Z1 st => k y p H1 Z1 st) fun _ _ e => e⟩
theorem tT_next {K : Frag} {σ : St} {H H1 : Hp} {Z Z1 : Addr → Prop} {env env1 : Env} {Q : Bool → Hp → Prop} {P : Bool × Env → Prop} {c : E} (a : Step K T σ H Z env H1 Z1 env1) (h : (evT T.F c env1).Wp P (ExP K T W σ H Z (Own env σ)))
    (k : ∀ y, P y → ∀ H2 Z2, Step K T σ H1 Z1 env1 H2 Z2 y.2 → Q y.1 H2) : tT K T W c σ H1 Q :=
  ⟨env1, Z1, a.en, wp_mono h (fun y _ p H1 Z1 st => k y p H1 Z1 st) fun _ _ e => e.step a⟩

/-- a test by its value's truth -/
theorem pt_tr (ha : PE X a (tE X.K T W ca)) (he : ∀ whole, isTrue a X.env whole = (do let v ← whole; standAt a.pos; holding [v] (truthy v))) : PT X a (tT X.K T W ca) := by
  refine pt_mono (pt_truth ha he) fun σ H Q ⟨env, Z, E, h⟩ => ?_
  simp only [evT, wp_bind, wp_of] at h
  refine tR_bind E h fun x hx v1 H1 Z1 s1 d1 _ => ?_
  obtain ⟨d, e1, k, e2, q⟩ := hx
  exact ⟨k, (d1.peek s1.en e1).tru e2, q H1 Z1 s1⟩
theorem pt_notE (ha : PT X a (tT X.K T W ca)) : PT X (.UnaryOp .Not a pos) (tT X.K T W (.not_ ca)) := by
  refine pt_mono (pt_not ha) fun σ H Q ⟨env, Z, E, h⟩ => ?_
  refine ⟨env, Z, E, ?_⟩
  simp only [evT, ev, wp_bind, wp_of, wp_ok] at h ⊢
  refine wp_mono h (fun x _ hx => ?_) fun _ _ e => e
  obtain ⟨d, e1, k, e2, d', e3, k', e4, q⟩ := hx
  cases e3
  cases e4
  exact ⟨d, e1, k, e2, q⟩
theorem evT_and {F : Fns} {env : Env} : evT F (.and_ ca cb) env = (evT F ca env).bind fun t => if t.1 = true then evT F cb t.2 else .ok (false, t.2) := by
  simp only [evT, ev]
  cases h : ev F ca env with
  | ok x =>
    simp only [R.bind_ok]
    cases h1 : peek x.2 x.1 with
    | none => rfl
    | some d =>
      simp only [R.of_some, R.bind_ok]
      cases h2 : truth d with
      | none => rfl
      | some k =>
        simp only [R.of_some, R.bind_ok]
        cases k with
        | true => simp
        | false => simp [h1, h2]
  | ex c d => rfl
  | no => rfl
theorem evT_or {F : Fns} {env : Env} : evT F (.or_ ca cb) env = (evT F ca env).bind fun t => if t.1 = true then .ok (true, t.2) else evT F cb t.2 := by
  simp only [evT, ev]
  cases h : ev F ca env with
  | ok x =>
    simp only [R.bind_ok]
    cases h1 : peek x.2 x.1 with
    | none => rfl
    | some d =>
      simp only [R.of_some, R.bind_ok]
      cases h2 : truth d with
      | none => rfl
      | some k =>
        simp only [R.of_some, R.bind_ok]
        cases k with
        | true => simp [h1, h2]
        | false => simp
  | ex c d => rfl
  | no => rfl
theorem pw_andE (ha : PT X a (tT X.K T W ca)) (hb : PW X (.BoolOp .And (b :: rest) pos) (tT X.K T W cb)) : PW X (.BoolOp .And (a :: b :: rest) pos) (tT X.K T W (.and_ ca cb)) := by
  have h := pw_and ha hb
  refine ⟨fun whole pins s σ H Q I q => h.run whole pins s σ H Q I ?_⟩
  obtain ⟨env, Z, E, h⟩ := q
  rw [evT_and, wp_bind] at h
  refine tT_bind E h fun y hy H1 Z1 s1 => ?_
  split at hy
  · rename_i hk
    rw [if_pos hk]
    exact tT_next s1 hy fun y hy H2 Z2 s2 => hy H2 Z2 (s1.trans s2)
  · rename_i hk
    rw [if_neg hk]
    exact hy H1 Z1 s1
theorem pw_orE (ha : PT X a (tT X.K T W ca)) (hb : PW X (.BoolOp .Or (b :: rest) pos) (tT X.K T W cb)) : PW X (.BoolOp .Or (a :: b :: rest) pos) (tT X.K T W (.or_ ca cb)) := by
  have h := pw_or ha hb
  refine ⟨fun whole pins s σ H Q I q => h.run whole pins s σ H Q I ?_⟩
  obtain ⟨env, Z, E, h⟩ := q
  rw [evT_or, wp_bind] at h
  refine tT_bind E h fun y hy H1 Z1 s1 => ?_
  split at hy
  · rename_i hk
    rw [if_pos hk]
    exact hy H1 Z1 s1
  · rename_i hk
    rw [if_neg hk]
    exact tT_next s1 hy fun y hy H2 Z2 s2 => hy H2 Z2 (s1.trans s2)
/-- not, and, or as values -/
theorem pe_notE (ha : PE X a (tE X.K T W ca)) : PE X (.UnaryOp .Not a pos) (tE X.K T W (.not_ ca)) := by
  refine pe_mono (pe_notT ha) fun σ H Q ⟨env, Z, E, h⟩ => ?_
  simp only [ev, wp_bind, wp_of] at h
  refine tR_bind E h fun x hx v1 H1 Z1 s1 d1 _ => ?_
  obtain ⟨d, e1, k, e2, q⟩ := hx
  exact ⟨k, (d1.peek s1.en e1).tru e2, (post_ans s1 q).bl⟩
theorem pe_andE (ha : PE X a (tE X.K T W ca)) (hb : PE X (.BoolOp .And (b :: rest) pos) (tE X.K T W cb)) : PE X (.BoolOp .And (a :: b :: rest) pos) (tE X.K T W (.and_ ca cb)) := by
  refine pe_mono (pe_andT ha hb) fun σ H Q ⟨env, Z, E, h⟩ => ?_
  simp only [ev, wp_bind, wp_of] at h
  refine tR_bind E h fun x hx v1 H1 Z1 s1 d1 f1 => ?_
  obtain ⟨d, e1, k, e2, q⟩ := hx
  refine ⟨k, (d1.peek s1.en e1).tru e2, ?_⟩
  split at q
  · rename_i hk
    rw [if_pos hk]
    exact tR_next s1 q fun y hy v2 H2 Z2 s2 d2 f2 => hy v2 H2 Z2 (s1.trans s2) d2 (by
      cases y1 : y.1 with
      | tm xs => rw [y1] at f2; exact fun a e => s1.go.free (f2 a e)
      | im d => trivial
      | sl i => trivial)
  · rename_i hk
    rw [if_neg hk]
    exact q v1 H1 Z1 s1 d1 f1
theorem Fr.back {K : Frag} {σ : St} {H H1 : Hp} {Z Z1 : Addr → Prop} {env env1 : Env} {v : V} {r : Rf} (s : Step K T σ H Z env H1 Z1 env1) (f : Fr H1 v r) : Fr H v r := by
  cases r with
  | tm xs => exact fun a e => s.go.free (f a e)
  | im d => trivial
  | sl i => trivial
theorem pe_orE (ha : PE X a (tE X.K T W ca)) (hb : PE X (.BoolOp .Or (b :: rest) pos) (tE X.K T W cb)) : PE X (.BoolOp .Or (a :: b :: rest) pos) (tE X.K T W (.or_ ca cb)) := by
  refine pe_mono (pe_orT ha hb) fun σ H Q ⟨env, Z, E, h⟩ => ?_
  simp only [ev, wp_bind, wp_of] at h
  refine tR_bind E h fun x hx v1 H1 Z1 s1 d1 f1 => ?_
  obtain ⟨d, e1, k, e2, q⟩ := hx
  refine ⟨k, (d1.peek s1.en e1).tru e2, ?_⟩
  split at q
  · rename_i hk
    rw [if_pos hk]
    exact q v1 H1 Z1 s1 d1 f1
  · rename_i hk
    rw [if_neg hk]
    exact tR_next s1 q fun y hy v2 H2 Z2 s2 d2 f2 => hy v2 H2 Z2 (s1.trans s2) d2 (f2.back s1)
theorem pe_iteE (hc : PT X c (tT X.K T W cc)) (ha : PE X a (tE X.K T W ca)) (hb : PE X b (tE X.K T W cb)) : PE X (.IfExp c a b pos) (tE X.K T W (.ite cc ca cb)) := by
  refine pe_mono (pe_ifExp hc ha hb) fun σ H Q ⟨env, Z, E, h⟩ => ?_
  have h : (evT T.F cc env).Wp (fun t => (if t.1 = true then ev T.F ca t.2 else ev T.F cb t.2).Wp (PostE X.K T σ H Z env Q) (ExP X.K T W σ H Z (Own env σ))) (ExP X.K T W σ H Z (Own env σ)) := by
    simp only [evT, ev, wp_bind, wp_of, wp_ok] at h ⊢
    exact h
  refine tT_bind E h fun y hy H1 Z1 s1 => ?_
  split at hy
  · rename_i hk
    rw [if_pos hk]
    exact tR_next s1 hy fun y hy v2 H2 Z2 s2 d2 f2 => hy v2 H2 Z2 (s1.trans s2) d2 (f2.back s1)
  · rename_i hk
    rw [if_neg hk]
    exact tR_next s1 hy fun y hy v2 H2 Z2 s2 d2 f2 => hy v2 H2 Z2 (s1.trans s2) d2 (f2.back s1)

theorem pe_cmpE {op : COp} (hu : X.A.units + 64 < cLine) (ha : PE X a (tE X.K T W ca)) (hb : PE X b (tE X.K T W cb)) (hm : behindInMarks (cop op) b = false) : PE X (.Compare a [cop op] [b] pos) (tE X.K T W (.cmp op ca cb)) := by
  refine pe_mono (pe_cmpR (op_cmp (FT := T.FT) hu op) ha hb hm) fun σ H Q ⟨env, Z, E, h⟩ => ?_
  simp only [ev, wp_bind, wp_of] at h
  refine tR_bind E h fun x hx v1 H1 Z1 s1 d1 _ => tR_next s1 hx fun y hy v2 H2 Z2 s2 d2 _ => ?_
  obtain ⟨da, e1, db, e2, r, e3, q⟩ := hy
  exact ⟨Z2, da, db, r, (d1.step s1.en s2).peek s2.en e1, d2.peek s2.en e2, e3, (post_ans (s1.trans s2) q).bl⟩
theorem pt_cmpE {op : COp} (hu : X.A.units + 64 < cLine) (ha : PE X a (tE X.K T W ca)) (hb : PE X b (tE X.K T W cb)) (hm : behindInMarks (cop op) b = false) : PT X (.Compare a [cop op] [b] pos) (tT X.K T W (.cmp op ca cb)) := by
  refine pt_mono (pt_cmpR (op_cmp (FT := T.FT) hu op) ha hb hm) fun σ H Q ⟨env, Z, E, h⟩ => ?_
  simp only [evT, ev, wp_bind, wp_of] at h
  refine tR_bind E h fun x hx v1 H1 Z1 s1 d1 _ => tR_next s1 hx fun y hy v2 H2 Z2 s2 d2 _ => ?_
  obtain ⟨da, e1, db, e2, r, e3, d', e4, k, e5, q⟩ := hy
  cases e4
  cases e5
  exact ⟨Z2, da, db, r, (d1.step s1.en s2).peek s2.en e1, d2.peek s2.en e2, e3, r, rfl, q H2 Z2 (s1.trans s2)⟩
theorem pe_chnE {op op' : COp} (hu : X.A.units + 64 < cLine) (ha : PE X a (tE X.K T W ca)) (hb : PE X b (tE X.K T W cb)) (hc : PE X c (tE X.K T W cc)) (hm : behindInMarks (cop op') c = false) :
    PE X (.Compare a [cop op, cop op'] [b, c] pos) (tE X.K T W (.chn op op' ca cb cc)) := by
  refine pe_mono (pe_chain (op_cmp (FT := T.FT) hu op) (op_cmp (FT := T.FT) hu op') ha hb hc (by exact hm)) fun σ H Q ⟨env, Z, E, h⟩ => ?_
  simp only [ev, wp_bind, wp_of] at h
  refine tR_bind E h fun x hx v1 H1 Z1 s1 d1 _ => tR_next s1 hx fun y hy v2 H2 Z2 s2 d2 _ => ?_
  obtain ⟨da, e1, db, e2, r, e3, q⟩ := hy
  refine ⟨Z2, da, db, r, (d1.step s1.en s2).peek s2.en e1, d2.peek s2.en e2, e3, r, rfl, ?_⟩
  split at q
  · rename_i hk
    rw [if_pos hk]
    simp only [wp_bind, wp_of] at q
    refine tR_next (s1.trans s2) q fun z hz v3 H3 Z3 s3 d3 _ => ?_
    obtain ⟨db', e4, dc, e5, r', e6, q⟩ := hz
    exact ⟨Z3, db', dc, r', (d2.step s2.en s3).peek s3.en e4, d3.peek s3.en e5, e6, (post_ans ((s1.trans s2).trans s3) q).bl⟩
  · rename_i hk
    rw [if_neg hk]
    exact (post_ans (s1.trans s2) q).bl
theorem pt_chnE {op op' : COp} (hu : X.A.units + 64 < cLine) (ha : PE X a (tE X.K T W ca)) (hb : PE X b (tE X.K T W cb)) (hc : PE X c (tE X.K T W cc)) (hm : behindInMarks (cop op') c = false) :
    PT X (.Compare a [cop op, cop op'] [b, c] pos) (tT X.K T W (.chn op op' ca cb cc)) := by
  refine pt_mono (pt_chain (op_cmp (FT := T.FT) hu op) (op_cmp (FT := T.FT) hu op') ha hb hc (by exact hm)) fun σ H Q ⟨env, Z, E, h⟩ => ?_
  simp only [evT, ev, wp_bind, wp_of] at h
  refine tR_bind E h fun x hx v1 H1 Z1 s1 d1 _ => tR_next s1 hx fun y hy v2 H2 Z2 s2 d2 _ => ?_
  obtain ⟨da, e1, db, e2, r, e3, q⟩ := hy
  refine ⟨Z2, da, db, r, (d1.step s1.en s2).peek s2.en e1, d2.peek s2.en e2, e3, r, rfl, ?_⟩
  split at q
  · rename_i hk
    rw [if_pos hk]
    simp only [wp_bind, wp_of] at q
    refine tR_next (s1.trans s2) q fun z hz v3 H3 Z3 s3 d3 _ => ?_
    obtain ⟨db', e4, dc, e5, r', e6, d', e7, k, e8, q⟩ := hz
    cases e7
    cases e8
    exact ⟨Z3, db', dc, r', (d2.step s2.en s3).peek s3.en e4, d3.peek s3.en e5, e6, r', rfl, q H3 Z3 ((s1.trans s2).trans s3)⟩
  · rename_i hk
    rw [if_neg hk]
    obtain ⟨d', e7, k, e8, q⟩ := q
    cases e7
    cases e8
    exact ⟨false, rfl, q H2 Z2 (s1.trans s2)⟩
end
end RB

set_option linter.all false
set_option maxHeartbeats 1000000
namespace RB
open PySem L2
open PySem.W (Frag)

section
variable (K : Frag) (T : Tb)
def tK (W : WX) (cs : Es) : TA := fun σ H Q => ∃ env Z, EnvR K T.FT H Z env σ ∧
  (evK T.F cs env).Wp (fun x => ∀ vs H' Z', Step K T σ H Z env H' Z' x.2 → Reps K T.FT H' Z' vs x.1 → Q vs H') (ExP K T W σ H Z (Own env σ))
def Hds (H : Hp) (Z : Addr → Prop) (env : Env) (σ : St) : List V → List Rf → Prop := Paired fun v r => Hd K T H Z env σ v r
def tP (W : WX) (cs : Es) : TA := fun σ H Q => ∃ env Z, EnvR K T.FT H Z env σ ∧
  (evP T.F cs env).Wp (fun x => ∀ vs H' Z', Step K T σ H Z env H' Z' x.2 → Hds K T H' Z' x.2 σ vs x.1 → Q vs H') (ExP K T W σ H Z (Own env σ))
end

section
variable {X : Cx} {T : Tb} {W : WX} {e : Expr} {es : List Expr} {c : E} {cs : Es} {pos : Pos}

theorem pa_nilK : PA X [] (tK X.K T W .nil) := pa_mono pa_nil fun σ H Q ⟨env, Z, E, h⟩ => by
  simp only [evK, wp_ok] at h
  exact h [] H Z (.refl E) .nil
theorem pa_consK (ha : PE X e (tE X.K T W c)) (hr : PA X es (tK X.K T W cs)) (hs : starEach (e :: es) X.env = (false, eval e X.env) :: starEach es X.env) : PA X (e :: es) (tK X.K T W (.cons c cs)) := by
  refine pa_mono (pa_cons ha hr hs) fun σ H Q ⟨env, Z, E, h⟩ => ?_
  simp only [evK, wp_bind, wp_of, wp_ok] at h
  refine tR_bind E h fun x hx v1 H1 Z1 s1 d1 f1 => ?_
  obtain ⟨y, e1, hx⟩ := hx
  obtain ⟨Z2, s2, r2, _, _⟩ := Step.keep E s1 d1 f1 e1
  refine ⟨y.2, Z2, s2.en, wp_mono hx (fun z _ hz vs H3 Z3 s3 r3 => ?_) fun _ _ e => e.step s2⟩
  exact hz (v1 :: vs) H3 Z3 (s2.trans s3) (.cons (Rep.goE s2.en s3.go r2) r3)
theorem pa_nilP : PA X [] (tP X.K T W .nil) := pa_mono pa_nil fun σ H Q ⟨env, Z, E, h⟩ => by
  simp only [evP, wp_ok] at h
  exact h [] H Z (.refl E) .nil
theorem pa_consP (ha : PE X e (tE X.K T W c)) (hr : PA X es (tP X.K T W cs)) (hs : starEach (e :: es) X.env = (false, eval e X.env) :: starEach es X.env) : PA X (e :: es) (tP X.K T W (.cons c cs)) := by
  refine pa_mono (pa_cons ha hr hs) fun σ H Q ⟨env, Z, E, h⟩ => ?_
  simp only [evP, wp_bind, wp_ok] at h
  refine tR_bind E h fun x hx v1 H1 Z1 s1 d1 f1 => ?_
  refine ⟨x.2, Z1, s1.en, wp_mono hx (fun z _ hz vs H3 Z3 s3 r3 => ?_) fun _ _ e => e.step s1⟩
  exact hz (v1 :: vs) H3 Z3 (s1.trans s3) (.cons (d1.step s1.en s3) r3)

/-- displays -/
theorem pe_tupE {x1} (h : PA X es (tK X.K T W cs)) : PE X (.Tuple es x1 pos) (tE X.K T W (.tup cs)) := by
  refine pe_mono (pe_tup h) fun σ H Q ⟨env, Z, E, h⟩ => ?_
  simp only [ev, wp_bind] at h
  refine ⟨env, Z, E, wp_mono h (fun x _ hx vs H1 Z1 s1 r1 => ?_) fun _ _ e => e⟩
  split at hx
  · rename_i hl
    exact ⟨by rw [r1.length]; exact lim_line hl, fun p hp => (post_ans s1 hx).tup r1 hp⟩
  · exact hx.elim
theorem pe_lstE (h : PA X es (tK X.K T W cs)) : PE X (.List es pos) (tE X.K T W (.lst cs)) := by
  refine pe_mono (pe_lst h) fun σ H Q ⟨env, Z, E, h⟩ => ?_
  simp only [ev, wp_bind] at h
  refine ⟨env, Z, E, wp_mono h (fun x _ hx vs H1 Z1 s1 r1 => ?_) fun _ _ e => e⟩
  split at hx
  · rename_i hl
    exact ⟨by rw [r1.length]; exact lim_line hl, fun p hp => (post_ans s1 hx).lst r1 hp⟩
  · exact hx.elim

def tO (K : Frag) (T : Tb) (W : WX) (c : Oe) : TO := fun σ H Q => ∃ env Z, EnvR K T.FT H Z env σ ∧
  (evO T.F c env).Wp (fun x => ∀ H' Z', Step K T σ H Z env H' Z' x.2 → Q x.1 H') (ExP K T W σ H Z (Own env σ))
theorem po_mono {o : Option Expr} {t t' : TO} (h : PO X o t) (i : ∀ σ H Q, t' σ H Q → t σ H Q) : PO X o t' := ⟨fun pins s σ H Q I q => h.run pins s σ H Q I (i σ H Q q)⟩
theorem po_noneE : PO X none (tO X.K T W .none) := po_mono po_none fun σ H Q ⟨env, Z, E, h⟩ => by
  simp only [evO, wp_ok] at h
  exact h H Z (.refl E)
theorem po_someE (ha : PE X e (tE X.K T W c)) : PO X (some e) (tO X.K T W (.some c)) := po_mono (po_some ha) fun σ H Q ⟨env, Z, E, h⟩ => by
  simp only [evO, wp_bind, wp_of, wp_ok] at h
  refine tR_bind E h fun x hx v1 H1 Z1 s1 d1 _ => ?_
  obtain ⟨d, e1, i, e2, q⟩ := hx
  have p := d1.peek s1.en e1
  cases d <;> cases e2
  cases p.int
  exact ⟨_, rfl, q H1 Z1 s1⟩
theorem cut_whole {α : Type} {xs : List α} {lo hi : Option Int} (h : HT.sIx xs.length 0 lo = 0 ∧ HT.sIx xs.length xs.length hi = xs.length) : cut xs lo hi = xs := by
  unfold cut
  rw [h.1, h.2]
  simp
theorem pe_sliE {lo hi : Option Expr} {p2 : Pos} {cl ch : Oe} (ha : PE X e (tE X.K T W c)) (hl : PO X lo (tO X.K T W cl)) (hh : PO X hi (tO X.K T W ch)) : PE X (.Subscript e (.Slice lo hi none p2) pos) (tE X.K T W (.sli c cl ch)) := by
  refine pe_mono (pe_slice (SlR.or (sl_tupA (X := X)) (sl_list (X := X))) ha hl hh) fun σ H Q ⟨env, Z, E, h⟩ => ?_
  simp only [ev, wp_bind, wp_of] at h
  refine tR_bind E h fun x hx v1 H1 Z1 s1 d1 _ => ?_
  refine ⟨x.2, Z1, s1.en, wp_mono hx (fun l _ hl H2 Z2 s2 => ?_) fun _ _ e => e.step s1⟩
  refine ⟨l.2, Z2, s2.en, wp_mono hl (fun h _ hh H3 Z3 s3 => ?_) fun _ _ e => e.step (s1.trans s2)⟩
  obtain ⟨d, e1, r, e2, q⟩ := hh
  have s13 := s2.trans s3
  have p := (d1.step s1.en s13).peek s13.en e1
  have q := post_ans (s1.trans s13) q
  unfold cutD at e2
  split at e2
  · cases e2
    obtain ⟨a, vs, rfl, h1, r⟩ := p.tup
    refine .inl ⟨a, vs, rfl, h1, fun hw => ?_, fun _ o ho => q.tup r.cut ho⟩
    refine q.rep (.tup h1 ?_)
    rw [r.length] at hw
    rw [cut_whole hw]
    exact r
  · cases e2
    obtain ⟨a, vs, rfl, h1, r⟩ := p.lst
    exact .inr ⟨a, vs, rfl, .of h1, fun o ho => q.lst r.cut ho⟩
  · cases e2

def Pks (K : Frag) (FT : Nat → Option Addr) (H : Hp) (Z : Addr → Prop) : List V → List D → Prop := Paired fun v d => Pk K FT H Z v d
theorem Hds.peeks {K : Frag} {H : Hp} {Z : Addr → Prop} {env : Env} {σ : St} (E : EnvR K T.FT H Z env σ) : ∀ {vs : List V} {rs : List Rf} {ds : List D}, Hds K T H Z env σ vs rs → peeks env rs = some ds → Pks K T.FT H Z vs ds
  | _, _, _, .nil, e => by cases e; exact .nil
  | _, _, _, .cons h r, e => by
    obtain ⟨d, e1, e⟩ := Option.bind_eq_some_iff.mp e
    obtain ⟨ds, e2, e⟩ := Option.bind_eq_some_iff.mp e
    cases e
    exact .cons (h.peek E e1) (Hds.peeks E r e2)
theorem Pks.one {K : Frag} {FT : Nat → Option Addr} {H : Hp} {Z : Addr → Prop} {vs : List V} {d : D} (p : Pks K FT H Z vs [d]) : ∃ v, vs = [v] ∧ Pk K FT H Z v d := by
  cases p with
  | cons h r => cases r; exact ⟨_, rfl, h⟩
theorem Pks.two {K : Frag} {FT : Nat → Option Addr} {H : Hp} {Z : Addr → Prop} {vs : List V} {d d' : D} (p : Pks K FT H Z vs [d, d']) : ∃ v w, vs = [v, w] ∧ Pk K FT H Z v d ∧ Pk K FT H Z w d' := by
  cases p with
  | cons h r => cases r with
    | cons h' r => cases r; exact ⟨_, _, rfl, h, h'⟩
theorem Reps.ints {K : Frag} {FT : Nat → Option Addr} {H : Hp} {Z : Addr → Prop} : ∀ {vs : List V} {ds : List D} {ns : List Int}, Reps K FT H Z vs ds → allI ds = some ns → vs = ns.map V.int
  | _, _, _, .nil, e => by cases e; rfl
  | _, _, _, .cons (d := d) h r, e => by
    cases d with
    | int i =>
      obtain ⟨ns, e1, e2⟩ := Option.map_eq_some_iff.mp e
      cases e2
      cases h
      rw [Reps.ints r e1]
      rfl
    | _ => cases e
theorem Reps.bls {K : Frag} {FT : Nat → Option Addr} {H : Hp} {Z : Addr → Prop} : ∀ {vs : List V} {ds : List D} {ns : List Bool}, Reps K FT H Z vs ds → allB ds = some ns → vs = ns.map V.bl
  | _, _, _, .nil, e => by cases e; rfl
  | _, _, _, .cons (d := d) h r, e => by
    cases d with
    | bl i =>
      obtain ⟨ns, e1, e2⟩ := Option.map_eq_some_iff.mp e
      cases e2
      cases h
      rw [Reps.bls r e1]
      rfl
    | _ => cases e
theorem foldl_max_le : ∀ (xs : List Int) (x : Int), x ≤ xs.foldl max x ∧ (∀ y ∈ xs, y ≤ xs.foldl max x) ∧ (xs.foldl max x = x ∨ xs.foldl max x ∈ xs)
  | [], x => ⟨Int.le_refl _, (fun _ h => nomatch h), .inl rfl⟩
  | y :: xs, x => by
    obtain ⟨h1, h2, h3⟩ := foldl_max_le xs (max x y)
    refine ⟨?_, fun z hz => ?_, ?_⟩
    · show x ≤ xs.foldl max (max x y); omega
    · show z ≤ xs.foldl max (max x y)
      rcases List.mem_cons.mp hz with rfl | hz
      · omega
      · exact h2 z hz
    · show xs.foldl max (max x y) = x ∨ xs.foldl max (max x y) ∈ y :: xs
      rcases h3 with h | h
      · rw [h]
        by_cases q : x ≤ y
        · right; rw [show max x y = y by omega]; exact List.mem_cons_self
        · left; omega
      · exact .inr (List.mem_cons_of_mem _ h)
theorem foldl_min_le : ∀ (xs : List Int) (x : Int), xs.foldl min x ≤ x ∧ (∀ y ∈ xs, xs.foldl min x ≤ y) ∧ (xs.foldl min x = x ∨ xs.foldl min x ∈ xs)
  | [], x => ⟨Int.le_refl _, (fun _ h => nomatch h), .inl rfl⟩
  | y :: xs, x => by
    obtain ⟨h1, h2, h3⟩ := foldl_min_le xs (min x y)
    refine ⟨?_, fun z hz => ?_, ?_⟩
    · show xs.foldl min (min x y) ≤ x; omega
    · show xs.foldl min (min x y) ≤ z
      rcases List.mem_cons.mp hz with rfl | hz
      · omega
      · exact h2 z hz
    · show xs.foldl min (min x y) = x ∨ xs.foldl min (min x y) ∈ y :: xs
      rcases h3 with h | h
      · rw [h]
        by_cases q : y ≤ x
        · right; rw [show min x y = y by omega]; exact List.mem_cons_self
        · left; omega
      · exact .inr (List.mem_cons_of_mem _ h)
theorem maxI_ok {ns : List Int} (h : 0 < ns.length) : maxI ns ∈ ns ∧ ∀ y ∈ ns, y ≤ maxI ns := by
  cases ns with
  | nil => cases h
  | cons x xs =>
    obtain ⟨h1, h2, h3⟩ := foldl_max_le xs x
    refine ⟨?_, fun y hy => ?_⟩
    · rcases h3 with h | h
      · show xs.foldl max x ∈ _; rw [h]; exact List.mem_cons_self
      · exact List.mem_cons_of_mem _ h
    · rcases List.mem_cons.mp hy with rfl | hy
      · exact h1
      · exact h2 y hy
theorem minI_ok {ns : List Int} (h : 0 < ns.length) : minI ns ∈ ns ∧ ∀ y ∈ ns, minI ns ≤ y := by
  cases ns with
  | nil => cases h
  | cons x xs =>
    obtain ⟨h1, h2, h3⟩ := foldl_min_le xs x
    refine ⟨?_, fun y hy => ?_⟩
    · rcases h3 with h | h
      · show xs.foldl min x ∈ _; rw [h]; exact List.mem_cons_self
      · exact List.mem_cons_of_mem _ h
    · rcases List.mem_cons.mp hy with rfl | hy
      · exact h1
      · exact h2 y hy

/-- a built-in's answer by the evaluator -/
def rBi (K : Frag) (FT : Nat → Option Addr) (b : Bi) : List V → Hp → VK → Prop := fun vs H Q => ∃ Z ds r, Pks K FT H Z vs ds ∧ biD b ds = some r ∧ Ans K FT H Z r Q
section
variable {FT : Nat → Option Addr}
theorem cr_len : CallR X (.builtin "len") (rBi X.K FT .len) := by
  intro pins s σ H vs us Q I r ⟨Z, ds, y, p, e, q⟩
  unfold biD at e
  split at e <;> rename_i hb <;> first | cases hb | skip
  · cases e
    obtain ⟨v, rfl, p1⟩ := p.one
    obtain ⟨a, ws, rfl, h, rs⟩ := p1.tup
    refine call_len_seq pins s σ H _ us Q I r ⟨a, ws, rfl, .inr h, ?_⟩
    rw [rs.length]
    exact q.int
  · cases e
    obtain ⟨v, rfl, p1⟩ := p.one
    obtain ⟨a, ws, rfl, h, rs⟩ := p1.lst
    refine call_len_seq pins s σ H _ us Q I r ⟨a, ws, rfl, .inl (.of h), ?_⟩
    rw [rs.length]
    exact q.int
  · split at e
    · cases e
      obtain ⟨v, rfl, p1⟩ := p.one
      cases p1.str
      exact call_len_str pins s σ H _ us Q I r ⟨_, rfl, lim_line (by assumption), q.int⟩
    · cases e
  · cases e
theorem cr_abs : CallR X (.builtin "abs") (rBi X.K FT .abs) := by
  intro pins s σ H vs us Q I r ⟨Z, ds, y, p, e, q⟩
  unfold biD at e
  split at e <;> rename_i hb <;> first | cases hb | skip
  · cases e
    obtain ⟨v, rfl, p1⟩ := p.one
    cases p1.int
    exact call_abs pins s σ H _ us Q I r ⟨_, rfl, q.int⟩
  · cases e
theorem cr_maxE (hc : X.calm = true) : CallR X (.builtin "max") (rBi X.K FT .max) := by
  intro pins s σ H vs us Q I r ⟨Z, ds, y, p, e, q⟩
  unfold biD at e
  split at e <;> rename_i hb <;> first | cases hb | skip
  · cases e
    obtain ⟨v, w, rfl, p1, p2⟩ := p.two
    cases p1.int
    cases p2.int
    exact call_max2 hc pins s σ H _ us Q I r ⟨_, _, rfl, q.int⟩
  · split at e
    · rename_i x t hx
      cases e
      obtain ⟨v, rfl, p1⟩ := p.one
      obtain ⟨a, ws, rfl, h, rs⟩ := p1.lst
      have hw := rs.ints hx
      subst hw
      refine cr_max hc pins s σ H _ us Q I r ⟨a, x :: t, rfl, .of h, by simp, fun m hm hle => ?_⟩
      have o := maxI_ok (ns := x :: t) (by simp)
      have : m = maxI (x :: t) := Int.le_antisymm (o.2 m hm) (hle _ o.1)
      rw [this]
      exact q.int
    · cases e
  · cases e
theorem cr_minE (hc : X.calm = true) : CallR X (.builtin "min") (rBi X.K FT .min) := by
  intro pins s σ H vs us Q I r ⟨Z, ds, y, p, e, q⟩
  unfold biD at e
  split at e <;> rename_i hb <;> first | cases hb | skip
  · cases e
    obtain ⟨v, w, rfl, p1, p2⟩ := p.two
    cases p1.int
    cases p2.int
    exact call_min2 hc pins s σ H _ us Q I r ⟨_, _, rfl, q.int⟩
  · split at e
    · rename_i x t hx
      cases e
      obtain ⟨v, rfl, p1⟩ := p.one
      obtain ⟨a, ws, rfl, h, rs⟩ := p1.lst
      have hw := rs.ints hx
      subst hw
      refine cr_min hc pins s σ H _ us Q I r ⟨a, x :: t, rfl, .of h, by simp, fun m hm hle => ?_⟩
      have o := minI_ok (ns := x :: t) (by simp)
      have : m = minI (x :: t) := Int.le_antisymm (hle _ o.1) (o.2 m hm)
      rw [this]
      exact q.int
    · cases e
  · cases e
theorem cr_sumE (hc : X.calm = true) : CallR X (.builtin "sum") (rBi X.K FT .sum) := by
  intro pins s σ H vs us Q I r ⟨Z, ds, y, p, e, q⟩
  unfold biD at e
  split at e <;> rename_i hb <;> first | cases hb | skip
  · split at e
    · rename_i ns hx
      cases e
      obtain ⟨v, rfl, p1⟩ := p.one
      obtain ⟨a, ws, rfl, h, rs⟩ := p1.lst
      have hw := rs.ints hx
      subst hw
      exact cr_sum hc pins s σ H _ us Q I r ⟨a, ns, rfl, .of h, q.int⟩
    · cases e
  · cases e
theorem cr_allE (hc : X.calm = true) : CallR X (.builtin "all") (rBi X.K FT .all) := by
  intro pins s σ H vs us Q I r ⟨Z, ds, y, p, e, q⟩
  unfold biD at e
  split at e <;> rename_i hb <;> first | cases hb | skip
  · split at e
    · rename_i ns hx
      cases e
      obtain ⟨v, rfl, p1⟩ := p.one
      obtain ⟨a, ws, rfl, h, rs⟩ := p1.lst
      have hw := rs.bls hx
      subst hw
      exact cr_all hc pins s σ H _ us Q I r ⟨a, ns, rfl, .of h, q.bl⟩
    · cases e
  · cases e
theorem cr_anyE (hc : X.calm = true) : CallR X (.builtin "any") (rBi X.K FT .any) := by
  intro pins s σ H vs us Q I r ⟨Z, ds, y, p, e, q⟩
  unfold biD at e
  split at e <;> rename_i hb <;> first | cases hb | skip
  · split at e
    · rename_i ns hx
      cases e
      obtain ⟨v, rfl, p1⟩ := p.one
      obtain ⟨a, ws, rfl, h, rs⟩ := p1.lst
      have hw := rs.bls hx
      subst hw
      exact cr_any hc pins s σ H _ us Q I r ⟨a, ns, rfl, .of h, q.bl⟩
    · cases e
  · cases e
theorem cr_tupleE : CallR X (.type "tuple") (rBi X.K FT .tuple) := by
  intro pins s σ H vs us Q I r ⟨Z, ds, y, p, e, q⟩
  unfold biD at e
  split at e <;> rename_i hb <;> first | cases hb | skip
  · cases e
    obtain ⟨v, rfl, p1⟩ := p.one
    obtain ⟨a, ws, rfl, h, rs⟩ := p1.lst
    exact call_tuple_of pins s σ H _ us Q I r ⟨a, ws, rfl, .inl ⟨.of h, fun l hl => q.tup rs hl⟩⟩
  · cases e
    obtain ⟨v, rfl, p1⟩ := p.one
    obtain ⟨a, ws, rfl, h, rs⟩ := p1.tup
    exact call_tuple_of pins s σ H _ us Q I r ⟨a, ws, rfl, .inr ⟨h, q.rep (.tup h rs)⟩⟩
  · cases e
theorem cr_listE : CallR X (.type "list") (rBi X.K FT .list) := by
  intro pins s σ H vs us Q I r ⟨Z, ds, y, p, e, q⟩
  unfold biD at e
  split at e <;> rename_i hb <;> first | cases hb | skip
  · cases e
    obtain ⟨v, rfl, p1⟩ := p.one
    obtain ⟨a, ws, rfl, h, rs⟩ := p1.lst
    exact call_list_of pins s σ H _ us Q I r ⟨a, ws, rfl, .inl (.of h), fun l hl => q.lst rs hl⟩
  · cases e
    obtain ⟨v, rfl, p1⟩ := p.one
    obtain ⟨a, ws, rfl, h, rs⟩ := p1.tup
    exact call_list_of pins s σ H _ us Q I r ⟨a, ws, rfl, .inr h, fun l hl => q.lst rs hl⟩
  · cases e
    obtain ⟨v, rfl, p1⟩ := p.one
    obtain ⟨a, ws, rfl, h, rs⟩ := p1.scr
    exact call_list_of pins s σ H _ us Q I r ⟨a, ws, rfl, .inl h, fun l hl => q.lst rs hl⟩
  · cases e
theorem cr_intE : CallR X (.type "int") (rBi X.K FT .int) := by
  intro pins s σ H vs us Q I r ⟨Z, ds, y, p, e, q⟩
  unfold biD at e
  split at e <;> rename_i hb <;> first | cases hb | skip
  · cases e
    obtain ⟨v, rfl, p1⟩ := p.one
    cases p1.int
    exact call_int1 pins s σ H _ us Q I r (.inl ⟨_, rfl, q.int⟩)
  · cases e
    obtain ⟨v, rfl, p1⟩ := p.one
    cases p1.bl
    exact call_int1 pins s σ H _ us Q I r (.inr ⟨_, rfl, q.int⟩)
  · cases e
theorem cr_reprE (hg : X.A.guards = some []) (hu : X.A.units + 70 < cLine) : CallR X (.builtin "repr") (rBi X.K FT .repr) := by
  intro pins s σ H vs us Q I r ⟨Z, ds, y, p, e, q⟩
  unfold biD at e
  split at e <;> rename_i hb <;> first | cases hb | skip
  · obtain ⟨z, e1, e2⟩ := Option.bind_eq_some_iff.mp e
    cases e2
    obtain ⟨v, rfl, p1⟩ := p.one
    unfold reprD at e1
    split at e1
    · rename_i d hc
      cases e1
      cases r with
      | cons rv rr =>
        rename_i u us
        cases rr
        have dp := p1.dp hc.1
        obtain ⟨as, rd⟩ := Dp.reads I _ _ _ dp rv
        have q := q.str
        have fin : ∀ t, EP X pins σ Q (.str d.py.shown t) s := fun t => ⟨.str _, H, I, ⟨t, rfl⟩, q⟩
        have fin2 : ∀ t k, EP X pins σ Q (.str d.py.shown t) { s with toks := k } := fun t k => ⟨.str _, H, I.tok k, ⟨t, rfl⟩, q⟩
        have hz := lim_line hc.2.2.2
        generalize hd : d.py = D at *
        cases rd with
        | none => exact PySem.P.repr_of_none (fin2 _ _)
        | bool b => exact PySem.P.repr_of_bool (by cases b <;> exact fin2 _ _)
        | int i t => exact PySem.P.repr_of_int (of_decide_eq_true hc.2.1) (fin2 _ _)
        | str x t => exact PySem.P.repr_of_str (fin2 _ _) hz
        | list h1 h2 h3 h4 =>
          refine PySem.repr_of_reads' (.list h1 h2 h3 h4) hc.2.1 (PyData.noDict_hsm (PyData.hasDict_of_canLay _ hc.1)) hg (by have := hc.2.2.1; omega) (fun _ _ q => q) (fun h' u tk hk => ?_) hz
          exact ⟨.str _, H, I.kept (t' := tk) hk, ⟨u, rfl⟩, q⟩
        | tuple h1 h2 h3 h4 =>
          refine PySem.repr_of_reads' (.tuple h1 h2 h3 h4) hc.2.1 (PyData.noDict_hsm (PyData.hasDict_of_canLay _ hc.1)) hg (by have := hc.2.2.1; omega) (fun _ _ q => q) (fun h' u tk hk => ?_) hz
          exact ⟨.str _, H, I.kept (t' := tk) hk, ⟨u, rfl⟩, q⟩
        | dict h1 h2 h3 h4 h5 => exact absurd hc.1 (by simp [PyData.canLay0])
    · cases e1
  · cases e

/-- a built-in function called -/
theorem pe_biB {b : Bi} {id : String} {x : Str} {p : Pos} (hc : CallR X (.builtin id) (rBi X.K T.FT b)) (hg : Gl X x) (hm : X.mg x = none) (hv : bootBuiltins x = some (.builtin id)) (ha : PA X (e :: es) (tP X.K T W cs)) (hn : x ≠ "__name__") (hdb : (x == ("__debug__" : Str)) = false)
    (he : starEach (e :: es) X.env = (false, eval e X.env) :: starEach es X.env) (hpl : (backTo pos (starEach es X.env)).any (·.1) = false) : PE X (.Call (.Name x p) (e :: es) [] pos) (tE X.K T W (.bi b cs)) := by
  refine pe_mono (pe_callB hc hg hm hv ha hn hdb he hpl) fun σ H Q ⟨env, Z, E, h⟩ => ?_
  simp only [ev, wp_bind, wp_of] at h
  refine ⟨env, Z, E, wp_mono h (fun x _ hx vs H1 Z1 s1 r1 => ?_) fun _ _ e => e⟩
  obtain ⟨ds, e1, r, e2, q⟩ := hx
  exact ⟨Z1, ds, r, r1.peeks s1.en e1, e2, post_ans s1 q⟩
theorem pe_biT {b : Bi} {id : String} {x : Str} {p : Pos} (hc : CallR X (.type id) (rBi X.K T.FT b)) (hg : Gl X x) (hm : X.mg x = none) (hv : bootBuiltins x = some (.type id)) (ha : PA X (e :: es) (tP X.K T W cs)) (hn : x ≠ "__name__") (hdb : (x == ("__debug__" : Str)) = false)
    (he : starEach (e :: es) X.env = (false, eval e X.env) :: starEach es X.env) (hpl : (backTo pos (starEach es X.env)).any (·.1) = false) : PE X (.Call (.Name x p) (e :: es) [] pos) (tE X.K T W (.bi b cs)) := by
  refine pe_mono (pe_callTy hc hg hm hv ha hn hdb he hpl) fun σ H Q ⟨env, Z, E, h⟩ => ?_
  simp only [ev, wp_bind, wp_of] at h
  refine ⟨env, Z, E, wp_mono h (fun x _ hx vs H1 Z1 s1 r1 => ?_) fun _ _ e => e⟩
  obtain ⟨ds, e1, r, e2, q⟩ := hx
  exact ⟨Z1, ds, r, r1.peeks s1.en e1, e2, post_ans s1 q⟩
end
end
end RB

set_option linter.all false
set_option maxHeartbeats 1000000
namespace RB
open PySem L2
open PySem.W (Frag)

/-- values as they are handed to a def -/
abbrev som {α : Type} (l : List α) : List (Option α) := l.map some

section
variable (K : Frag) (T : Tb)
/-- a def's answer: new where it is a list -/
def ResR (H H' : Hp) (Z' : Addr → Prop) (v : V) : Vl → Prop
  | .im d => Rep K T.FT H' Z' v d
  | .ow xs => ∃ a vs, v = .ref a ∧ H a = none ∧ H' a = some (.lst vs) ∧ Reps K T.FT H' Z' vs xs ∧ ¬ Z' a
/-- what a def promises: what G tells -/
def spG (n : Nat) (G : Fn) : Sp := fun vs H Q E => ∃ (vals : List Vl) (Z : Addr → Prop), vals.length = n ∧ vs.length = n ∧ EnvR K T.FT H Z (som vals) (som vs) ∧
  (G vals).Wp (fun x => ∀ v H' Z', Go (Own (som vals) (som vs)) H Z H' Z' → EnvR K T.FT H' Z' x.2 (som vs) → (∀ a, Own x.2 (som vs) a → Own (som vals) (som vs) a) → ResR K T H H' Z' v x.1 → Q v H')
    (fun c d => (T.EX c).isSome = true ∧ ∀ cls dd H' Z', Go (Own (som vals) (som vs)) H Z H' Z' → ExcR K T c d cls dd H' Z' → E cls dd H')
end
/-- a def keeps its promise, wherever nothing is being shown -/
structure FnG (P : Program) (w : World) (K : Frag) (mg : Str → Option Value) (base : Heap) (k : Nat) (f : Addr) (fd : FuncData) (ps : List Str) (sp : Sp) : Prop where
  len : ∀ vs H Q E, sp vs H Q E → vs.length = ps.length
  run : ∀ (A : Around) (outer : List PySem.Env) (s : Shared) (H : Hp) (args : Args) (us : List Value) (vs : List V) (Q : VK) (E : XK), Room k A → A.guards = some [] → Env0 P w K mg base A outer s H → BindsTo s fd args (ps.zip us) → Vals vs us → sp vs H Q E →
    codeAny (model P w) A (.call (.ref f) args) (CR (L2.CX P w) outer P w H s Q E) s

section
variable {X : Cx} {T : Tb} {W : WX} {e : Expr} {es : List Expr} {c : E} {cs : Es} {pos : Pos}

/-- arguments -/
def tA (K : Frag) (T : Tb) (W : WX) (cs : Es) : TA := fun σ H Q => ∃ env Z, EnvR K T.FT H Z env σ ∧
  (evA T.F cs env).Wp (fun x => ∀ vs H' Z', Step K T σ H Z env H' Z' x.2.1 → EnvR K T.FT H' Z' (som x.1) (som vs) →
    (∀ a, Own (som x.1) (som vs) a → (Own env σ a ∨ H a = none) ∧ ¬ Own x.2.1 σ a) → vs.length = x.2.2.length → (∀ (k i : Nat) v, x.2.2[k]? = some (some i) → vs[k]? = some v → σ[i]? = some (some v) ∧ ∃ ys, env[i]? = some (some (.ow ys))) → Q vs H') (ExP K T W σ H Z (Own env σ))

theorem own_nil {a : Addr} : ¬ Own (som ([] : List Vl)) (som ([] : List V)) a := fun ⟨i, xs, e, _⟩ => by simp at e
theorem own_cons {ev : Option Vl} {env : Env} {sv : Option V} {σ : St} {a : Addr} (h : Own (ev :: env) (sv :: σ) a) : (∃ xs, ev = some (.ow xs) ∧ sv = some (.ref a)) ∨ Own env σ a := by
  obtain ⟨i, xs, e, q⟩ := h
  cases i with
  | zero => simp at e q; exact .inl ⟨xs, e, q⟩
  | succ i => simp at e q; exact .inr ⟨i, xs, e, q⟩
theorem own_tail {ev : Option Vl} {env : Env} {sv : Option V} {σ : St} {a : Addr} (h : Own env σ a) : Own (ev :: env) (sv :: σ) a := by
  obtain ⟨i, xs, e, q⟩ := h
  exact ⟨i + 1, xs, by simpa using e, by simpa using q⟩
theorem own_head {xs : List D} {env : Env} {σ : St} {a : Addr} : Own (some (.ow xs) :: env) (some (.ref a) :: σ) a := ⟨0, xs, rfl, rfl⟩
/-- a value's place in a list of slots -/
def SlotR (K : Frag) (T : Tb) (H : Hp) (Z : Addr → Prop) (O : Addr → Prop) : Option Vl → Option V → Prop
  | none, _ => True
  | some (.im d), sv => ∃ v, sv = some v ∧ Rep K T.FT H Z v d
  | some (.ow xs), sv => ∃ a vs, sv = some (.ref a) ∧ H a = some (.lst vs) ∧ Reps K T.FT H Z vs xs ∧ ¬ Z a ∧ ¬ O a
section
variable {K : Frag} {H H1 : Hp} {Z Z1 : Addr → Prop} {env : Env} {σ : St}
theorem EnvR.nil (zh : ∀ a, Z a → ∃ o, H a = some o) : EnvR K T.FT H Z [] [] := ⟨rfl, fun i d e => by simp at e, fun i xs e => by simp at e, fun i j xs ys a e => by simp at e, zh⟩
theorem EnvR.cons {x : Option Vl} {sv : Option V} (h : SlotR K T H Z (Own env σ) x sv) (E : EnvR K T.FT H Z env σ) : EnvR K T.FT H Z (x :: env) (sv :: σ) := by
  refine ⟨by simp [E.len], fun i d e => ?_, fun i xs e => ?_, fun i j xs ys a e1 e2 q1 q2 => ?_, E.zh⟩
  · cases i with
    | zero => simp at e; subst e; obtain ⟨v, rfl, r⟩ := h; exact ⟨v, rfl, r⟩
    | succ i => simp at e; simpa using E.im i d e
  · cases i with
    | zero => simp at e; subst e; obtain ⟨a, vs, rfl, h1, r, n, _⟩ := h; exact ⟨a, vs, rfl, h1, r, n⟩
    | succ i => simp at e; simpa using E.ow i xs e
  · cases i with
    | zero =>
      simp at e1 q1
      subst e1
      obtain ⟨b, vs, hb, _, _, _, no⟩ := h
      rw [q1] at hb; cases hb
      cases j with
      | zero => rfl
      | succ j => simp at e2 q2; exact (no ⟨j, ys, e2, q2⟩).elim
    | succ i =>
      simp at e1 q1
      cases j with
      | zero =>
        simp at e2 q2
        subst e2
        obtain ⟨b, vs, hb, _, _, _, no⟩ := h
        rw [q2] at hb; cases hb
        exact (no ⟨i, xs, e1, q1⟩).elim
      | succ j => simp at e2 q2; rw [E.inj i j xs ys a e1 e2 q1 q2]
theorem EnvR.tail {x : Option Vl} {sv : Option V} (E : EnvR K T.FT H Z (x :: env) (sv :: σ)) : EnvR K T.FT H Z env σ :=
  ⟨by simpa using E.len, fun i d e => by simpa using E.im (i + 1) d (by simpa using e), fun i xs e => by simpa using E.ow (i + 1) xs (by simpa using e),
    fun i j xs ys a e1 e2 q1 q2 => by simpa using E.inj (i + 1) (j + 1) xs ys a (by simpa using e1) (by simpa using e2) (by simpa using q1) (by simpa using q2), E.zh⟩
theorem EnvR.head {x : Option Vl} {sv : Option V} (E : EnvR K T.FT H Z (x :: env) (sv :: σ)) : SlotR K T H Z (Own env σ) x sv := by
  cases x with
  | none => trivial
  | some x =>
    cases x with
    | im d => obtain ⟨v, e, r⟩ := E.im 0 d rfl; simp at e; exact ⟨v, e, r⟩
    | ow xs =>
      obtain ⟨a, vs, e, h, r, n⟩ := E.ow 0 xs rfl
      simp at e
      refine ⟨a, vs, e, h, r, n, fun ⟨j, ys, e2, q2⟩ => ?_⟩
      have := E.inj 0 (j + 1) xs ys a rfl (by simpa using e2) (by simpa using e) (by simpa using q2)
      omega
/-- slot i is given a value that its variable holds -/
theorem EnvR.put {i : Nat} {x : Option Vl} {v : V} (E : EnvR K T.FT H Z env σ) (hv : σ[i]? = some (some v)) (h : SlotR K T H Z (Own env σ) x (some v)) : EnvR K T.FT H Z (env.set i x) σ := by
  have g : ∀ {j : Nat} {y : Option Vl}, (env.set i x)[j]? = some y → (i = j ∧ y = x) ∨ (i ≠ j ∧ env[j]? = some y) := fun {j y} e => by
    rw [List.getElem?_set] at e
    split at e
    · rename_i hj
      split at e
      · cases e; exact .inl ⟨hj, rfl⟩
      · cases e
    · rename_i hj
      exact .inr ⟨hj, e⟩
  refine ⟨by rw [List.length_set]; exact E.len, fun j d e => ?_, fun j xs e => ?_, fun j k xs ys a e1 e2 q1 q2 => ?_, E.zh⟩
  · rcases g e with ⟨rfl, z⟩ | ⟨_, z⟩
    · rw [← z] at h
      obtain ⟨v', e', r⟩ := h
      cases e'
      exact ⟨v, hv, r⟩
    · exact E.im j d z
  · rcases g e with ⟨rfl, z⟩ | ⟨_, z⟩
    · rw [← z] at h
      obtain ⟨a, vs, e', h1, r, n, _⟩ := h
      cases e'
      exact ⟨a, vs, hv, h1, r, n⟩
    · exact E.ow j xs z
  · rcases g e1 with ⟨rfl, z1⟩ | ⟨n1, z1⟩
    · rcases g e2 with ⟨rfl, z2⟩ | ⟨n2, z2⟩
      · rfl
      · rw [← z1] at h
        obtain ⟨b, vs, hb, _, _, _, no⟩ := h
        cases hb
        rw [hv] at q1; cases q1
        exact (no ⟨k, ys, z2, q2⟩).elim
    · rcases g e2 with ⟨rfl, z2⟩ | ⟨n2, z2⟩
      · rw [← z2] at h
        obtain ⟨b, vs, hb, _, _, _, no⟩ := h
        cases hb
        rw [hv] at q2; cases q2
        exact (no ⟨j, xs, z1, q1⟩).elim
      · exact E.inj j k xs ys a z1 z2 q1 q2
theorem own_put {i : Nat} {x : Option Vl} {a : Addr} (h : Own (env.set i x) σ a) : Own env σ a ∨ ∃ xs, x = some (.ow xs) ∧ σ[i]? = some (some (.ref a)) := by
  obtain ⟨j, xs, e, q⟩ := h
  rw [List.getElem?_set] at e
  split at e
  · rename_i hj
    split at e
    · cases e; subst hj; exact .inr ⟨xs, rfl, q⟩
    · cases e
  · exact .inl ⟨j, xs, e, q⟩
theorem SlotR.step {env1 : Env} {x : Option Vl} {sv : Option V} (E : EnvR K T.FT H Z env σ) (a : Step K T σ H Z env H1 Z1 env1) (h : SlotR K T H Z (Own env σ) x sv) : SlotR K T H1 Z1 (Own env1 σ) x sv := by
  cases x with
  | none => trivial
  | some x =>
    cases x with
    | im d => obtain ⟨v, e, r⟩ := h; exact ⟨v, e, Rep.goE E a.go r⟩
    | ow xs =>
      obtain ⟨p, vs, e, h1, r, n, no⟩ := h
      refine ⟨p, vs, e, a.go.fr p _ h1 no, Reps.goE E a.go r, fun z => ?_, fun o => no (a.own p o)⟩
      rcases a.go.zn p z with z | z | z
      · exact n z
      · exact no z
      · rw [h1] at z; cases z
end

/-- lent -/
theorem Step.lend {K : Frag} {σ : St} {H H1 : Hp} {Z Z1 : Addr → Prop} {env env1 : Env} {v : V} {r : Rf} {y : Vl × Env × Option Nat} (a : Step K T σ H Z env H1 Z1 env1) (h : Hd K T H1 Z1 env1 σ v r) (f : Fr H v r) (e : lend env1 r = some y) :
    Step K T σ H Z env H1 Z1 y.2.1 ∧ SlotR K T H1 Z1 (Own y.2.1 σ) (some y.1) (some v) ∧ (∀ p xs, y.1 = .ow xs → v = .ref p → Own env σ p ∨ H p = none) ∧ (∀ i, y.2.2 = some i → σ[i]? = some (some v) ∧ ∃ ys, env[i]? = some (some (.ow ys))) := by
  cases r with
  | im d => cases e; exact ⟨a, ⟨v, rfl, h⟩, (fun p xs e => by cases e), (fun i e => by cases e)⟩
  | tm xs =>
    cases e
    obtain ⟨p, vs, rfl, h1, h2, h3, h4⟩ := h
    exact ⟨a, ⟨p, vs, rfl, h1, h2, h3, h4⟩, (fun q ys _ e => .inr (f q e)), (fun i e => by cases e)⟩
  | sl i =>
    obtain ⟨x, e1, e2⟩ := Option.bind_eq_some_iff.mp e
    have g := get_ok e1
    have hv : σ[i]? = some (some v) := h
    cases x with
    | im d =>
      cases e2
      obtain ⟨v', q, r⟩ := a.en.im i d g
      rw [hv] at q; cases q
      exact ⟨a, ⟨v, rfl, r⟩, (fun p xs e => by cases e), (fun i e => by cases e)⟩
    | ow xs =>
      cases e2
      obtain ⟨p, vs, q, h1, r, n⟩ := a.en.ow i xs g
      rw [hv] at q; cases q
      have op : Own env σ p := a.own p ⟨i, xs, g, hv⟩
      refine ⟨⟨a.go, a.en.less, fun j ys e => a.ownI j ys (ow_less e)⟩, ⟨p, vs, rfl, h1, r, n, fun ⟨j, ys, e3, q3⟩ => ?_⟩, fun q ys e e' => ?_, fun j e => ?_⟩
      · have hj : j = i := by
          have e4 : env1[j]? = some (some (.ow ys)) := by
            rw [List.getElem?_set] at e3
            split at e3
            · split at e3 <;> cases e3
            · exact e3
          exact a.en.inj j i ys xs p e4 g q3 hv
        subst hj
        rw [List.getElem?_set_self (List.getElem?_eq_some_iff.mp g).1] at e3
        cases e3
      · cases e'
        exact .inl op
      · cases e
        exact ⟨hv, a.ownI i xs g⟩

theorem pa_nilA : PA X [] (tA X.K T W .nil) := pa_mono pa_nil fun σ H Q ⟨env, Z, E, h⟩ => by
  simp only [evA, wp_ok] at h
  exact h [] H Z (.refl E) (.nil E.zh) (fun a o => (own_nil o).elim) rfl (fun k i v e => by simp at e)
theorem lend_sub {env1 : Env} {σ : St} {r : Rf} {y : Vl × Env × Option Nat} (e : lend env1 r = some y) {a : Addr} (h : Own y.2.1 σ a) : Own env1 σ a := by
  cases r with
  | im d => cases e; exact h
  | tm xs => cases e; exact h
  | sl i =>
    obtain ⟨x, e1, e2⟩ := Option.bind_eq_some_iff.mp e
    cases x with
    | im d => cases e2; exact h
    | ow xs => cases e2; exact own_less h
theorem lend_own {env1 : Env} {σ : St} {v : V} {r : Rf} {y : Vl × Env × Option Nat} (e : lend env1 r = some y) {xs : List D} {a : Addr} (h1 : y.1 = .ow xs) (h2 : v = .ref a) (h3 : ∀ i, r = .sl i → σ[i]? = some (some v)) : (∃ zs, r = .tm zs) ∨ Own env1 σ a := by
  cases r with
  | im d => cases e; cases h1
  | tm zs => exact .inl ⟨zs, rfl⟩
  | sl i =>
    obtain ⟨x, e1, e2⟩ := Option.bind_eq_some_iff.mp e
    cases x with
    | im d => cases e2; cases h1
    | ow zs => exact .inr ⟨i, zs, get_ok e1, by rw [h3 i rfl, h2]⟩
theorem pa_consA (ha : PE X e (tE X.K T W c)) (hr : PA X es (tA X.K T W cs)) (hs : starEach (e :: es) X.env = (false, eval e X.env) :: starEach es X.env) : PA X (e :: es) (tA X.K T W (.cons c cs)) := by
  refine pa_mono (pa_cons ha hr hs) fun σ H Q ⟨env, Z, E, h⟩ => ?_
  simp only [evA, wp_bind, wp_of, wp_ok] at h
  refine tR_bind E h fun x hx v1 H1 Z1 s1 d1 f1 => ?_
  refine ⟨x.2, Z1, s1.en, wp_mono hx (fun z _ hz vs H3 Z3 s3 E3 o3 n3 l3 => ?_) fun _ _ e => e.step s1⟩
  obtain ⟨y, e1, hz⟩ := hz
  have d3 := d1.step s1.en s3
  obtain ⟨s4, r4, o4, l4⟩ := Step.lend (s1.trans s3) d3 f1 e1
  have r4' : SlotR X.K T H3 Z3 (Own (som z.1) (som vs)) (some y.1) (some v1) := by
    cases hy : y.1 with
    | im d => rw [hy] at r4; exact r4
    | ow xs =>
      rw [hy] at r4
      obtain ⟨p, ws, e, h1, r, n, no⟩ := r4
      refine ⟨p, ws, e, h1, r, n, fun o => ?_⟩
      have ev : v1 = .ref p := by simpa using e
      rcases lend_own (σ := σ) (v := v1) e1 hy ev (fun i hi => by rw [hi] at d1; exact d1) with ⟨zs, hz⟩ | q
      · rw [hz] at d1
        obtain ⟨p', ws', e', h1', _, _, no'⟩ := d1
        rw [ev] at e'
        cases e'
        rcases (o3 p o).1 with q | q
        · exact no' q
        · rw [h1'] at q; cases q
      · exact (o3 p o).2 q
  refine hz (v1 :: vs) H3 Z3 s4 (E3.cons r4') (fun a o => ?_) (by simp [n3]) (fun k i v e1 e2 => ?_)
  · rcases own_cons o with ⟨xs, ex, ea⟩ | o
    · have ex : y.1 = .ow xs := by simpa using ex
      have ea : v1 = .ref a := by simpa using ea
      refine ⟨o4 a xs ex ea, fun o => ?_⟩
      rw [ex] at r4
      obtain ⟨p, ws, e, h1, r, n, no⟩ := r4
      rw [ea] at e; cases e
      exact no o
    · obtain ⟨q, n⟩ := o3 a o
      refine ⟨?_, fun h => n (lend_sub e1 h)⟩
      rcases q with q | q
      · exact .inl (s1.own a q)
      · exact .inr (s1.go.free q)
  · cases k with
    | zero =>
      have e1 : y.2.2 = some i := by simpa using e1
      have e2 : v1 = v := by simpa using e2
      rw [← e2]
      exact l4 i e1
    | succ k =>
      obtain ⟨a, ys, b⟩ := l3 k i v (by simpa using e1) (by simpa using e2)
      exact ⟨a, s1.ownI i ys b⟩

/-- what was lent stands at its slot again -/
theorem lendBack_ok {K : Frag} {σ : St} {H : Hp} {Z : Addr → Prop} : ∀ {ls : List (Option Nat)} {os : Env} {vs : List V} {env : Env}, EnvR K T.FT H Z env σ → EnvR K T.FT H Z os (som vs) → (∀ a, Own os (som vs) a → ¬ Own env σ a) →
    (∀ (k i : Nat) v, ls[k]? = some (some i) → vs[k]? = some v → σ[i]? = some (some v)) → EnvR K T.FT H Z (lendBack ls os env) σ ∧ ∀ (i : Nat) xs, (lendBack ls os env)[i]? = some (some (.ow xs)) → env[i]? = some (some (.ow xs)) ∨ ∃ (k : Nat) (v : V), ls[k]? = some (some i) ∧ os[k]? = some (some (.ow xs)) ∧ vs[k]? = some v
  | [], _, _, _, E, _, _, _ => by simp only [lendBack]; exact ⟨E, fun i xs h => .inl h⟩
  | none :: ls, [], _, _, E, _, _, _ => by simp only [lendBack]; exact ⟨E, fun i xs h => .inl h⟩
  | some _ :: ls, [], _, _, E, _, _, _ => by simp only [lendBack]; exact ⟨E, fun i xs h => .inl h⟩
  | l :: ls, o :: os, [], _, _, Eo, _, _ => by have := Eo.len; simp at this
  | none :: ls, o :: os, v :: vs, env, E, Eo, no, hl => by
    simp only [lendBack]
    obtain ⟨h1, h2⟩ := lendBack_ok (ls := ls) E Eo.tail (fun a h => no a (own_tail h)) fun k i w e1 e2 => hl (k + 1) i w (by simpa using e1) (by simpa using e2)
    refine ⟨h1, fun i xs h => (h2 i xs h).imp_right ?_⟩
    rintro ⟨k, w, e1, e2, e3⟩
    exact ⟨k + 1, w, by simpa using e1, by simpa using e2, by simpa using e3⟩
  | some i :: ls, o :: os, v :: vs, env, E, Eo, no, hl => by
    simp only [lendBack]
    have hv : σ[i]? = some (some v) := hl 0 i v rfl rfl
    have hs := Eo.head
    have hs' : SlotR K T H Z (Own env σ) o (some v) := by
      cases o with
      | none => trivial
      | some o =>
        cases o with
        | im d => exact hs
        | ow xs =>
          obtain ⟨a, ws, e, h1, r, n, _⟩ := hs
          refine ⟨a, ws, e, h1, r, n, no a ?_⟩
          have e : v = .ref a := by simpa using e
          subst e
          exact own_head
    obtain ⟨h1, h2⟩ := lendBack_ok (ls := ls) (E.put hv hs') Eo.tail (fun a h h' => by
      rcases own_put h' with h' | ⟨xs, ex, ea⟩
      · exact no a (own_tail h) h'
      · subst ex
        obtain ⟨b, ws, e, _, _, _, nb⟩ := hs
        have e : v = .ref b := by simpa using e
        rw [hv, e] at ea
        cases ea
        exact nb h) fun k i w e1 e2 => hl (k + 1) i w (by simpa using e1) (by simpa using e2)
    refine ⟨h1, fun j xs h => ?_⟩
    rcases h2 j xs h with hh | ⟨k, w, e1, e2, e3⟩
    · rw [List.getElem?_set] at hh
      split at hh
      · rename_i hj
        split at hh
        · injection hh with hh
          subst hj
          exact .inr ⟨0, v, rfl, by rw [hh]; rfl, rfl⟩
        · cases hh
      · exact .inl hh
    · exact .inr ⟨k + 1, w, by simpa using e1, by simpa using e2, by simpa using e3⟩

/-- a list of values and defaults -/
theorem EnvR.app {K : Frag} {H : Hp} {Z : Addr → Prop} : ∀ {vals : List Vl} {vs : List V} {ds : List D} {ws : List V}, EnvR K T.FT H Z (som vals) (som vs) → Reps K T.FT H Z ws ds → EnvR K T.FT H Z (som (vals ++ ds.map .im)) (som (vs ++ ws)) ∧ ∀ a, Own (som (vals ++ ds.map .im)) (som (vs ++ ws)) a → Own (som vals) (som vs) a
  | [], [], ds, ws, E, r => by
    simp only [List.nil_append]
    have aux : ∀ {ds : List D} {ws : List V}, Reps K T.FT H Z ws ds → EnvR K T.FT H Z (som (ds.map Vl.im)) (som ws) ∧ ∀ a, ¬ Own (som (ds.map Vl.im)) (som ws) a := by
      intro ds ws r
      induction ds generalizing ws with
      | nil => cases r; exact ⟨.nil E.zh, fun a h => own_nil h⟩
      | cons d ds ih =>
        cases r with
        | cons h r =>
          obtain ⟨a, b⟩ := ih r
          refine ⟨a.cons ⟨_, rfl, h⟩, fun p o => ?_⟩
          rcases own_cons o with ⟨xs, e, _⟩ | o
          · cases e
          · exact b p o
    obtain ⟨a, b⟩ := aux r
    exact ⟨a, fun p o => (b p o).elim⟩
  | v :: vals, [], ds, ws, E, r => by have := E.len; simp at this
  | [], v :: vs, ds, ws, E, r => by have := E.len; simp at this
  | x :: vals, v :: vs, ds, ws, E, r => by
    obtain ⟨a, b⟩ := EnvR.app (vals := vals) (vs := vs) E.tail r
    have h := E.head
    refine ⟨a.cons (sv := some v) ?_, fun p o => ?_⟩
    · cases x with
      | im d => exact h
      | ow xs =>
        obtain ⟨p, us, e, h1, r, n, no⟩ := h
        exact ⟨p, us, e, h1, r, n, fun o => no (b p o)⟩
    · rcases own_cons o with ⟨xs, e, q⟩ | o
      · have e : x = .ow xs := by simpa using e
        have q : v = .ref p := by simpa using q
        subst e; subst q
        exact own_head
      · exact own_tail (b p o)

theorem run_fnG {k : Nat} {f : Addr} {fd : FuncData} {ps : List Str} {sp : Sp} {ds : List Value} {dvs : List V} {E : XK} {pins : List (Addr × Obj)} {σ : St} {H : Hp} {s : Shared} {Q : VK} {us : List Value} {vs : List V}
    (F : FnG X.prog X.w X.K X.mg X.base k f fd ps sp) (hr : Room k X.A) (hg : X.A.guards = some []) (hb : Binds X.K fd ps ds) (hd : Vals dvs ds) (hx : PassesAt (L2.CX X.prog X.w) X σ E) (I : Inv X pins σ H s) (r : Vals vs us) (h : sp (vs ++ dvs) H Q E) :
    wpAny (model X.prog X.w) X.A (call (.ref f) us) (EP X pins σ Q) X.xe s := by
  have rr : Vals (vs ++ dvs) (us ++ ds) := r.append hd
  have hl : (us ++ ds).length = ps.length := rr.length ▸ F.len _ _ _ _ h
  refine wpAny_call (codeAny_mono (F.run X.A X.stack s H ⟨us, []⟩ _ _ Q E hr hg I.env0 (hb s us I.kIn hl) rr h) ?_)
  intro res s' hq
  match res, hq with
  | .error e, hq => exact hx pins H s e s' I hq
  | .ok (.ret u), hq => exact I.after hq
/-- where the def j stands, what it promises -/
structure At (X : Cx) (T : Tb) (j : Nat) (ds : List D) : Prop where
  ex : ∃ (f : Addr) (fd : FuncData) (ps : List Str) (k : Nat) (dvs : List V) (dus : List Value), T.FT j = some f ∧ PySem.W.keepIn X.K (.ref f) = true ∧ FnG X.prog X.w X.K X.mg X.base k f fd ps (spG X.K T ps.length (T.F j)) ∧ Room k X.A ∧ Binds X.K fd ps dus ∧ Vals dvs dus ∧
    (∀ H Z, Reps X.K T.FT H Z dvs ds) ∧ (∀ vals, (T.F j vals).Wp (fun _ => True) (fun _ _ => True) → vals.length = ps.length)

/-- from the arguments to the answer -/
theorem call_post {σ : St} {H H2 : Hp} {Z Z2 : Addr → Prop} {env : Env} {Q : VK} {j n : Nat} {x : List Vl × Env × List (Option Nat)} {ds : List D} {vs dvs : List V} (E : EnvR X.K T.FT H Z env σ)
    (hG : ∀ vals, (T.F j vals).Wp (fun _ => True) (fun _ _ => True) → vals.length = n) (st : Step X.K T σ H Z env H2 Z2 x.2.1) (Ea : EnvR X.K T.FT H2 Z2 (som x.1) (som vs)) (ho : ∀ a, Own (som x.1) (som vs) a → (Own env σ a ∨ H a = none) ∧ ¬ Own x.2.1 σ a) (hn : vs.length = x.2.2.length) (hl : ∀ (k i : Nat) v, x.2.2[k]? = some (some i) → vs[k]? = some v → σ[i]? = some (some v) ∧ ∃ ys, env[i]? = some (some (.ow ys)))
    (hd : Reps X.K T.FT H2 Z2 dvs ds)
    (h : (T.F j (x.1 ++ ds.map .im)).Wp (fun r => PostE X.K T σ H Z env Q (ofVl r.1, lendBack x.2.2 r.2 x.2.1)) (ExP X.K T W σ H Z (Own env σ))) : spG X.K T n (T.F j) (vs ++ dvs) H2 Q (WE W σ) := by
  obtain ⟨Eb, hob⟩ := Ea.app hd
  have lb : (x.1 ++ ds.map Vl.im).length = n := hG _ (wp_mono h (fun _ _ _ => trivial) fun _ _ _ => trivial)
  have hlen : (vs ++ dvs).length = n := by
    have := Eb.len
    simp only [List.length_map] at this
    rw [← this, lb]
  refine ⟨_, Z2, lb, hlen, Eb, wp_mono h (fun r _ q v H' Z' g E' o' res => ?_) fun c d e => ⟨e.1, fun cls dd H' Z' g x => ?_⟩⟩
  · -- the callee is back
    have go : Go (Own env σ) H Z H' Z' := st.go.trans g fun p o => (ho p (hob p o)).1
    -- the caller's slots stand
    have E1 : EnvR X.K T.FT H' Z' x.2.1 σ := by
      have E0 := st.en
      refine ⟨E0.len, fun i d e => ?_, fun i xs e => ?_, E0.inj, fun a z => ?_⟩
      · obtain ⟨w, e1, r1⟩ := E0.im i d e
        exact ⟨w, e1, r1.go g Eb.own⟩
      · obtain ⟨p, ws, e1, e2, r1, n1⟩ := E0.ow i xs e
        have no : ¬ Own (som (x.1 ++ ds.map Vl.im)) (som (vs ++ dvs)) p := fun o => (ho p (hob p o)).2 ⟨i, xs, e, e1⟩
        refine ⟨p, ws, e1, g.fr p _ e2 no, r1.go g Eb.own, fun z => ?_⟩
        rcases g.zn p z with z | z | z
        · exact n1 z
        · exact no z
        · rw [e2] at z; cases z
      · rcases g.zn a z with z | z | z
        · obtain ⟨o, e⟩ := E0.zh a z
          exact g.dom a o e
        · obtain ⟨_, ws, e⟩ := Eb.own a z
          exact g.dom a _ e
        · exact E'.zh a (by assumption)
    obtain ⟨E2, o2⟩ := lendBack_ok (ls := x.2.2) (vs := vs ++ dvs) E1 E' (fun a o o1 => (ho a (hob a (o' a o))).2 o1) fun k i w e1 e2 => by
      have hk : k < vs.length := by rw [hn]; exact (List.getElem?_eq_some_iff.mp e1).1
      rw [List.getElem?_append_left hk] at e2
      exact (hl k i w e1 e2).1
    have lt : ∀ {k i : Nat}, x.2.2[k]? = some (some i) → k < vs.length := fun {k i} e1 => by rw [hn]; exact (List.getElem?_eq_some_iff.mp e1).1
    have own2 : ∀ (i : Nat) xs, (lendBack x.2.2 r.2 x.2.1)[i]? = some (some (.ow xs)) → ∃ ys, env[i]? = some (some (.ow ys)) := fun i xs o => by
      rcases o2 i xs o with o | ⟨k, w, e1, _, e2⟩
      · exact st.ownI i xs o
      · rw [List.getElem?_append_left (lt e1)] at e2
        exact (hl k i _ e1 e2).2
    refine q v H' Z' ⟨go, E2, own2⟩ ?_ ?_
    · cases hr : r.1 with
      | im d => rw [hr] at res; exact res
      | ow xs =>
        rw [hr] at res
        obtain ⟨p, ws, rfl, h0, h1, r1, n1⟩ := res
        refine ⟨p, ws, rfl, h1, r1, n1, fun ⟨i, ys, o, oi⟩ => ?_⟩
        rcases o2 i ys o with o | ⟨k, w, e1, e2, e3⟩
        · obtain ⟨_, ws', e⟩ := st.en.own p ⟨i, ys, o, oi⟩
          rw [h0] at e; cases e
        · have e4 := e3
          rw [List.getElem?_append_left (lt e1)] at e4
          have ew := (hl k i _ e1 e4).1
          rw [oi] at ew
          cases ew
          obtain ⟨_, ws', e⟩ := Eb.own p (o' p ⟨k, ys, e2, by rw [List.getElem?_map, e3]; rfl⟩)
          rw [h0] at e; cases e
    · cases hr : r.1 with
      | im d => trivial
      | ow xs =>
        rw [hr] at res
        obtain ⟨p, ws, rfl, h0, _⟩ := res
        intro a e
        cases e
        exact st.go.free h0
  · exact e.2 cls dd H' Z' (st.go.trans g fun p o => (ho p (hob p o)).1) x
end
end RB

set_option linter.all false
set_option maxHeartbeats 1000000
namespace RB
open PySem L2 PySem.Spec PyProof.Rows
open PySem.W (Frag)
section
variable {X : Cx} {T : Tb} {W : WX} {e : Expr} {es : List Expr} {c : E} {cs : Es} {pos p : Pos} {x : Str} {j : Nat} {ds : List D}

theorem pe_callE (hA : At X T j ds) (hm : ∃ f, T.FT j = some f ∧ X.mg x = some (.ref f)) (hgu : X.A.guards = some []) (tk : Takes X W) (hg : Gl X x) (ha : PA X (e :: es) (tA X.K T W cs)) (hdb : (x == ("__debug__" : Str)) = false)
    (he : starEach (e :: es) X.env = (false, eval e X.env) :: starEach es X.env) (hpl : (backTo pos (starEach es X.env)).any (·.1) = false) : PE X (.Call (.Name x p) (e :: es) [] pos) (tE X.K T W (.call j cs ds)) := by
  obtain ⟨f, hf, hm⟩ := hm
  obtain ⟨f', fd, ps, k, dvs, dus, h1, h2, h3, h4, h5, h6, h7, h8⟩ := hA.ex
  rw [hf] at h1
  cases h1
  refine ⟨fun pins s σ H Q I h => ?_⟩
  obtain ⟨env, Z, E, h⟩ := h
  simp only [ev, wp_bind, wp_ok] at h
  refine wpAny_Call_Name_kw (ld_glob I hg hm ?_ hdb)
  refine PySem.W.callWith_K (h₀ := X.base) I.ok.mod.kin h2 (thn (ha.run pos pins s σ H (fun vs H1 => spG X.K T ps.length (T.F j) (vs ++ dvs) H1 Q (WE W σ)) I ?_) fun us s1 ⟨vs, H1, I1, r, q⟩ => ⟨I1.kIn, ?_⟩) he hpl
  · exact ⟨env, Z, E, wp_mono h (fun x _ hx vs H1 Z1 s1 E1 o1 n1 l1 => call_post E h8 s1 E1 o1 n1 l1 (h7 H1 Z1) hx) fun _ _ e => e⟩
  · exact run_fnG h3 h4 hgu h5 h6 (passAt tk σ) I1 r q
theorem pe_call0E (hA : At X T j ds) (hm : ∃ f, T.FT j = some f ∧ X.mg x = some (.ref f)) (hgu : X.A.guards = some []) (tk : Takes X W) (hg : Gl X x) (hdb : (x == ("__debug__" : Str)) = false) : PE X (.Call (.Name x p) [] [] pos) (tE X.K T W (.call j .nil ds)) := by
  obtain ⟨f, hf, hm⟩ := hm
  obtain ⟨f', fd, ps, k, dvs, dus, h1, h2, h3, h4, h5, h6, h7, h8⟩ := hA.ex
  rw [hf] at h1
  cases h1
  refine ⟨fun pins s σ H Q I h => ?_⟩
  obtain ⟨env, Z, E, h⟩ := h
  simp only [ev, evA, wp_bind, wp_ok] at h
  refine wpAny_Call_Name_kw (ld_glob I hg hm ?_ hdb)
  refine PySem.W.callWith_K0 I.kIn h2 (run_fnG (us := []) (vs := []) h3 h4 hgu h5 h6 (passAt tk σ) I .nil ?_)
  exact call_post (x := ([], env, [])) (vs := []) E h8 (.refl E) (.nil E.zh) (fun a o => (own_nil o).elim) rfl (fun k i v e => by simp at e) (h7 H Z) h
/-- a def in a local name -/
theorem pe_cvarE {m i : Nat} (hA : ∀ j < m, (T.FT j).isSome = true → At X T j []) (hgu : X.A.guards = some []) (tk : Takes X W) (hN : X.N[i]? = some x) (hv : Vis X.env.scope x) (ha : PA X (e :: es) (tA X.K T W cs)) (hdb : (x == ("__debug__" : Str)) = false) (hcd : (x == ("__classdict__" : Str)) = false)
    (he : starEach (e :: es) X.env = (false, eval e X.env) :: starEach es X.env) (hpl : (backTo pos (starEach es X.env)).any (·.1) = false) : PE X (.Call (.Name x p) (e :: es) [] pos) (tE X.K T W (.cvar m i cs)) := by
  refine ⟨fun pins s σ H Q I h => ?_⟩
  obtain ⟨env, Z, E, h⟩ := h
  simp only [ev, wp_bind, wp_of] at h
  obtain ⟨y, ey, h⟩ := h
  cases y with
  | ow xs => exact h.elim
  | im d =>
    cases d with
    | fn j =>
      simp only at h
      split at h
      · exact h.elim
      · rename_i hmj
        simp only [wp_bind, wp_ok] at h
        obtain ⟨v, hσ, rv⟩ := E.im i _ (get_ok ey)
        cases rv with
        | fn hf =>
          rename_i f
          obtain ⟨f', fd, ps, k, dvs, dus, h1, h2, h3, h4, h5, h6, h7, h8⟩ := (hA j (Nat.lt_of_not_le hmj) (by rw [hf]; rfl)).ex
          rw [hf] at h1
          cases h1
          refine wpAny_Call_Name_kw (thn ((pe_var (pos := p) hN hv hdb hcd).run pins s σ H (fun v H1 => v = .ref f ∧ H1 = H) I ⟨.ref f, hσ, rfl, rfl⟩) fun u s1 ⟨v, H1, I1, r1, q1⟩ => ?_)
          obtain ⟨rfl, rfl⟩ := q1
          cases r1
          refine PySem.W.callWith_K (h₀ := X.base) I.ok.mod.kin h2 (thn (ha.run pos pins s1 σ _ (fun vs H1 => spG X.K T ps.length (T.F j) (vs ++ dvs) H1 Q (WE W σ)) I1 ?_) fun us s2 ⟨vs, H2, I2, r, q⟩ => ⟨I2.kIn, ?_⟩) he hpl
          · refine ⟨env, Z, E, wp_mono h (fun x _ hx vs H1 Z1 s1 E1 o1 n1 l1 => call_post (ds := []) E h8 s1 E1 o1 n1 l1 (h7 H1 Z1) ?_) fun _ _ e => e⟩
            simp only [List.map_nil, List.append_nil]
            exact hx
          · exact run_fnG h3 h4 hgu h5 h6 (passAt tk σ) I2 r q
    | _ => exact h.elim
end
end RB

set_option linter.all false
set_option maxHeartbeats 1000000
namespace RB
open PySem L2 PySem.Spec PyProof.Rows
open PySem.W (Frag)

/-- later: what may not change stands -/
def Later (H : Hp) (Z : Addr → Prop) (H' : Hp) (Z' : Addr → Prop) : Prop := ∃ O, Go O H Z H' Z' ∧ ∀ p, O p → ¬ Z p ∧ ∃ ws, H p = some (.lst ws)
/-- an iterator that gives the data ds in turn -/
structure Yields (K : Frag) (T : Tb) (J : It) (ds : List D) (H : Hp) (Z : Addr → Prop) : Prop where
  go : ∀ H1 Z1, Later H Z H1 Z1 → ∀ i d, ds[i]? = some d → J.go i H1 ∧ ∀ x H2, J.yld i H1 x H2 → Go (fun _ => False) H1 Z1 H2 Z1 ∧ Rep K T.FT H2 Z1 x d
  stop : ∀ H1 Z1, Later H Z H1 Z1 → J.stop ds.length H1

section
variable {X : Cx} {T : Tb} {W : WX} {e tg : Expr} {es : List Expr} {c : E} {cs : Es} {pos p : Pos} {K : Frag} {σ : L2.St} {H H1 H2 : Hp} {Z Z1 Z2 : Addr → Prop} {env env1 env2 : Env}

theorem Later.refl : Later H Z H Z := ⟨fun _ => False, .refl, fun _ h => h.elim⟩
/-- what was not there is left out of what may have changed -/
theorem Go.tight {O : Addr → Prop} (g : Go O H Z H1 Z1) : Go (fun p => O p ∧ ∃ o, H p = some o) H Z H1 Z1 where
  fr := fun p o e n => g.fr p o e fun q => n ⟨q, _, e⟩
  dom := g.dom
  zm := g.zm
  zn := fun p z => by
    rcases g.zn p z with z | z | z
    · exact .inl z
    · cases q : H p with
      | none => exact .inr (.inr rfl)
      | some o => exact .inr (.inl ⟨z, o, rfl⟩)
    · exact .inr (.inr z)
theorem Later.go {O : Addr → Prop} (g : Go O H Z H1 Z1) (h : ∀ p, O p → H p = none ∨ (¬ Z p ∧ ∃ ws, H p = some (.lst ws))) : Later H Z H1 Z1 :=
  ⟨_, g.tight, fun p ⟨o, u, e⟩ => (h p o).elim (fun q => by rw [q] at e; cases e) id⟩
theorem Later.trans (a : Later H Z H1 Z1) (b : Later H1 Z1 H2 Z2) : Later H Z H2 Z2 := by
  obtain ⟨O, g, h⟩ := a
  obtain ⟨O1, g1, h1⟩ := b
  refine Later.go (O := fun p => O p ∨ O1 p) ((g.mono fun p q => .inl q).trans g1 fun p q => .inl (.inr q)) fun p q => ?_
  rcases q with q | q
  · exact .inr (h p q)
  · obtain ⟨n, ws, e⟩ := h1 p q
    cases hp : H p with
    | none => exact .inl rfl
    | some o =>
      refine .inr ⟨fun z => n (g.zm p z), ?_⟩
      by_cases ho : O p
      · obtain ⟨_, vs, e'⟩ := h p ho
        exact ⟨vs, by rw [← e', hp]⟩
      · have := g.fr p o hp ho
        rw [this] at e
        cases e
        exact ⟨ws, rfl⟩
theorem Rep.later {v : V} {d : D} (l : Later H Z H1 Z1) (r : Rep K T.FT H Z v d) : Rep K T.FT H1 Z1 v d := let ⟨_, g, h⟩ := l; r.go g h
theorem Reps.later {v : List V} {d : List D} (l : Later H Z H1 Z1) (r : Reps K T.FT H Z v d) : Reps K T.FT H1 Z1 v d := let ⟨_, g, h⟩ := l; r.go g h

/-- an iterable's reading -/
def tI (K : Frag) (T : Tb) (W : WX) (it : Iter) : TI := fun σ H R => ∃ env Z, EnvR K T.FT H Z env σ ∧
  (evI T.F it env).Wp (fun x => ∀ J H' Z', Step K T σ H Z env H' Z' x.2 → Yields K T J x.1 H' Z' → R J H') (ExP K T W σ H Z (Own env σ))
theorem pi_mono {w w' : TI} (h : PI X tg e w) (i : ∀ σ H R, w' σ H R → w σ H R) : PI X tg e w' := ⟨fun pins s σ H R I q => h.run pins s σ H R I (i σ H R q)⟩
theorem pi_or {w w' : TI} (h : PI X tg e w) (h' : PI X tg e w') : PI X tg e (fun σ H R => w σ H R ∨ w' σ H R) := ⟨fun pins s σ H R I q => q.elim (h.run pins s σ H R I) (h'.run pins s σ H R I)⟩

theorem yields_list {a : Addr} {vs : List V} {ds : List D} (h : H a = some (.lst vs)) (z : Z a) (r : Reps K T.FT H Z vs ds) : Yields K T (Itl K a) ds H Z := by
  have st : ∀ {H1 Z1}, Later H Z H1 Z1 → H1 a = some (.lst vs) := fun {H1 Z1} ⟨O, g, ho⟩ => g.fr a _ h fun q => (ho a q).1 z
  refine ⟨fun H1 Z1 l i d e => ?_, fun H1 Z1 l => ⟨vs, .of (st l), by rw [r.length]; exact Nat.le_refl _⟩⟩
  obtain ⟨v, hv, rv⟩ := (r.later l).get e
  exact ⟨⟨vs, v, .of (st l), hv⟩, fun x H2 y => by
    obtain ⟨rfl, y⟩ := y
    have := y vs (.of (st l))
    rw [hv] at this
    cases this
    exact ⟨.refl, rv⟩⟩
theorem yields_scr {a : Addr} {vs : List V} {ds : List D} (h : (∃ o, H a = some (.frz o (.lst vs))) ∨ KLst K a vs) (r : Reps K T.FT H Z vs ds) : Yields K T (Itl K a) ds H Z := by
  have st : ∀ {H1 Z1}, Later H Z H1 Z1 → SqL K H1 a vs := fun {H1 Z1} ⟨O, g, ho⟩ => by
    rcases h with ⟨o, h⟩ | h
    · exact .inl (.inr ⟨o, g.fr a _ h fun q => by obtain ⟨_, ws, e⟩ := ho a q; rw [h] at e; cases e⟩)
    · exact .inr h
  refine ⟨fun H1 Z1 l i d e => ?_, fun H1 Z1 l => ⟨vs, st l, by rw [r.length]; exact Nat.le_refl _⟩⟩
  obtain ⟨v, hv, rv⟩ := (r.later l).get e
  exact ⟨⟨vs, v, st l, hv⟩, fun x H2 y => by
    obtain ⟨rfl, y⟩ := y
    have := y vs (st l)
    rw [hv] at this
    cases this
    exact ⟨.refl, rv⟩⟩
theorem sqT_later {a : Addr} {vs : List V} (h : SqT K H a vs) (l : Later H Z H1 Z1) : SqT K H1 a vs := by
  obtain ⟨O, g, ho⟩ := l
  rcases h with (h | ⟨o, h⟩) | h
  · exact .inl (.inl (g.fr _ _ h fun q => by obtain ⟨_, ws, e⟩ := ho _ q; rw [h] at e; cases e))
  · exact .inl (.inr ⟨o, g.fr _ _ h fun q => by obtain ⟨_, ws, e⟩ := ho _ q; rw [h] at e; cases e⟩)
  · exact .inr h
theorem yields_tup {a : Addr} {vs : List V} {ds : List D} (h : SqT K H a vs) (r : Reps K T.FT H Z vs ds) : Yields K T (Itt K a) ds H Z := by
  refine ⟨fun H1 Z1 l i d e => ?_, fun H1 Z1 l => ⟨vs, sqT_later h l, by rw [r.length]; exact Nat.le_refl _⟩⟩
  obtain ⟨v, hv, rv⟩ := (r.later l).get e
  exact ⟨⟨vs, v, sqT_later h l, hv⟩, fun x H2 y => by
    obtain ⟨rfl, y⟩ := y
    have := y vs (sqT_later h l)
    rw [hv] at this
    cases this
    exact ⟨.refl, rv⟩⟩
theorem pi_seqE (he : PE X e (tE X.K T W c)) : PI X tg e (tI X.K T W (.seq c)) := by
  refine pi_mono (pi_or (pi_list he) (pi_tup he)) fun σ H R ⟨env, Z, E, h⟩ => ?_
  simp only [evI, wp_bind, wp_of, wp_ok] at h
  cases hx : ev T.F c env with
  | no => rw [hx] at h; exact h.elim
  | ex k d =>
    rw [hx] at h
    exact .inl ⟨env, Z, E, by rw [hx]; exact h⟩
  | ok x =>
    rw [hx] at h
    obtain ⟨y, e3, xs, e4, q⟩ := h
    cases hy : y.1 with
    | tup zs =>
      rw [hy] at e4
      cases e4
      refine .inr ⟨env, Z, E, ?_⟩
      rw [hx]
      intro v H1 Z1 s1 d1 f1
      obtain ⟨Z2, s2, r2, _, _⟩ := Step.keep E s1 d1 f1 e3
      rw [hy] at r2
      cases r2 with
      | tup h1 r => exact ⟨_, rfl, ⟨_, h1⟩, q _ H1 Z2 s2 (yields_tup h1 r)⟩
    | lst zs =>
      rw [hy] at e4
      cases e4
      refine .inl ⟨env, Z, E, ?_⟩
      rw [hx]
      intro v H1 Z1 s1 d1 f1
      obtain ⟨Z2, s2, r2, _, _⟩ := Step.keep E s1 d1 f1 e3
      rw [hy] at r2
      cases r2 with
      | lst h1 z r => exact ⟨_, rfl, ⟨_, .of h1⟩, q _ H1 Z2 s2 (yields_list h1 z r)⟩
    | scr zs =>
      rw [hy] at e4
      cases e4
      refine .inl ⟨env, Z, E, ?_⟩
      rw [hx]
      intro v H1 Z1 s1 d1 f1
      obtain ⟨Z2, s2, r2, _, _⟩ := Step.keep E s1 d1 f1 e3
      rw [hy] at r2
      cases r2 with
      | scr h1 r =>
        rename_i vs
        refine ⟨_, rfl, ⟨vs, ?_⟩, q _ H1 Z2 s2 (yields_scr h1 r)⟩
        · rcases h1 with ⟨o, h1⟩ | h1
          · exact .inl (.inr ⟨o, h1⟩)
          · exact .inr h1
    | _ => rw [hy] at e4; cases e4

theorem yields_range {lo : Int} {n : Nat} : Yields K T (Itr lo n) ((List.range n).map fun k : Nat => D.int (lo + k)) H Z := by
  refine ⟨fun H1 Z1 _ i d e => ?_, fun H1 Z1 _ => by show n ≤ _; simp⟩
  rw [List.getElem?_map] at e
  obtain ⟨k, e1, e2⟩ := Option.map_eq_some_iff.mp e
  obtain ⟨hk, e3⟩ := List.getElem?_eq_some_iff.mp e1
  simp at e3 hk
  subst e3
  subst e2
  exact ⟨hk, fun x H2 ⟨e4, e5⟩ => by subst e4 e5; exact ⟨.refl, .int _⟩⟩
theorem yields_rangeC {lo c : Int} {n : Nat} : Yields K T (Itc lo c n) ((List.range n).map fun k : Nat => D.int (lo + k * c)) H Z := by
  refine ⟨fun H1 Z1 _ i d e => ?_, fun H1 Z1 _ => by show n ≤ _; simp⟩
  rw [List.getElem?_map] at e
  obtain ⟨k, e1, e2⟩ := Option.map_eq_some_iff.mp e
  obtain ⟨hk, e3⟩ := List.getElem?_eq_some_iff.mp e1
  simp at e3 hk
  subst e3
  subst e2
  exact ⟨hk, fun x H2 ⟨e4, e5⟩ => by subst e4 e5; exact ⟨.refl, .int _⟩⟩
theorem Reps.int1 {vs : List V} {a : Int} (r : Reps K T.FT H Z vs [.int a]) : vs = [.int a] := by
  cases r with
  | cons h r => cases r; cases h; rfl
theorem Reps.int2 {vs : List V} {a b : Int} (r : Reps K T.FT H Z vs [.int a, .int b]) : vs = [.int a, .int b] := by
  cases r with
  | cons h r => cases h; rw [r.int1]
theorem Reps.int3 {vs : List V} {a b c : Int} (r : Reps K T.FT H Z vs [.int a, .int b, .int c]) : vs = [.int a, .int b, .int c] := by
  cases r with
  | cons h r => cases h; rw [r.int2]
theorem rng_cases {ds xs : List D} (e : rngOf ds = some xs) : (∃ n, ds = [.int n]) ∨ (∃ a b, ds = [.int a, .int b]) ∨ ∃ a b c, ds = [.int a, .int b, .int c] := by
  unfold rngOf at e
  split at e
  · exact .inl ⟨_, rfl⟩
  · exact .inr (.inl ⟨_, _, rfl⟩)
  · exact .inr (.inr ⟨_, _, _, rfl⟩)
  · cases e
def Es.len : Es → Nat
  | .nil => 0
  | .cons _ es => es.len + 1
theorem evK_len {F : Fns} : ∀ {cs : Es} {env : Env} {x : List D × Env}, evK F cs env = .ok x → x.1.length = cs.len
  | .nil, env, x, h => by simp only [evK] at h; cases h; rfl
  | .cons c cs, env, x, h => by
    simp only [evK] at h
    obtain ⟨y, _, h⟩ := R.bind_eq_ok.mp h
    obtain ⟨z, _, h⟩ := R.bind_eq_ok.mp h
    obtain ⟨u, e, h⟩ := R.bind_eq_ok.mp h
    cases h
    have := evK_len e
    simp [Es.len, this]
theorem pi_rng1E {a : Expr} (hg : Gl X "range") (hm : X.mg "range" = none) (ha : PA X [a] (tK X.K T W (.cons c .nil))) (hs : starEach [a] X.env = [(false, eval a X.env)]) : PI X tg (.Call (.Name "range" p) [a] [] pos) (tI X.K T W (.rng (.cons c .nil))) := by
  refine pi_mono (pi_range1 hg hm ha hs) fun σ H R ⟨env, Z, E, h⟩ => ?_
  simp only [evI, wp_bind, wp_of, wp_ok] at h
  refine ⟨env, Z, E, wp_mono h (fun x hok hx vs H1 Z1 s1 r1 => ?_) fun _ _ e => e⟩
  obtain ⟨xs, e, q⟩ := hx
  have hl := evK_len hok
  rcases rng_cases e with ⟨n, hd⟩ | ⟨a, b, hd⟩ | ⟨a, b, c, hd⟩ <;> rw [hd] at r1 e hl <;> simp [Es.len] at hl
  have := r1.int1
  subst this
  simp only [rngOf] at e
  split at e
  · rename_i hc
    cases e
    refine ⟨n, rfl, hc.1, hc.2, q _ H1 Z1 s1 ?_⟩
    have := yields_range (K := X.K) (T := T) (lo := 0) (n := n.toNat) (H := H1) (Z := Z1)
    simpa using this
  · cases e
theorem pi_rng2E {a b : Expr} {c' : E} (hg : Gl X "range") (hm : X.mg "range" = none) (ha : PA X [a, b] (tK X.K T W (.cons c (.cons c' .nil)))) (hs : starEach [a, b] X.env = [(false, eval a X.env), (false, eval b X.env)]) (hs2 : starEach [b] X.env = [(false, eval b X.env)]) :
    PI X tg (.Call (.Name "range" p) [a, b] [] pos) (tI X.K T W (.rng (.cons c (.cons c' .nil)))) := by
  refine pi_mono (pi_range2 hg hm ha hs hs2) fun σ H R ⟨env, Z, E, h⟩ => ?_
  simp only [evI, wp_bind, wp_of, wp_ok] at h
  refine ⟨env, Z, E, wp_mono h (fun x hok hx vs H1 Z1 s1 r1 => ?_) fun _ _ e => e⟩
  obtain ⟨xs, e, q⟩ := hx
  have hl := evK_len hok
  rcases rng_cases e with ⟨n, hd⟩ | ⟨a, b, hd⟩ | ⟨a, b, c, hd⟩ <;> rw [hd] at r1 e hl <;> simp [Es.len] at hl
  have := r1.int2
  subst this
  simp only [rngOf] at e
  split at e
  · rename_i hc
    cases e
    exact ⟨a, b, rfl, hc, q _ H1 Z1 s1 yields_range⟩
  · cases e
theorem pi_rng3E {a b d : Expr} {c' c'' : E} (hg : Gl X "range") (hm : X.mg "range" = none) (ha : PA X [a, b, d] (tK X.K T W (.cons c (.cons c' (.cons c'' .nil)))))
    (hs : starEach [a, b, d] X.env = (false, eval a X.env) :: starEach [b, d] X.env) (hpl : (backTo pos (starEach [b, d] X.env)).any (·.1) = false) :
    PI X tg (.Call (.Name "range" p) [a, b, d] [] pos) (tI X.K T W (.rng (.cons c (.cons c' (.cons c'' .nil))))) := by
  refine pi_mono (pi_range3 hg hm ha hs hpl) fun σ H R ⟨env, Z, E, h⟩ => ?_
  simp only [evI, wp_bind, wp_of, wp_ok] at h
  refine ⟨env, Z, E, wp_mono h (fun x hok hx vs H1 Z1 s1 r1 => ?_) fun _ _ e => e⟩
  obtain ⟨xs, e, q⟩ := hx
  have hl := evK_len hok
  rcases rng_cases e with ⟨n, hd⟩ | ⟨a, b, hd⟩ | ⟨a, b, c, hd⟩ <;> rw [hd] at r1 e hl <;> simp [Es.len] at hl
  have := r1.int3
  subst this
  simp only [rngOf] at e
  split at e
  · rename_i hc
    subst hc
    split at e
    · rename_i hc
      cases e
      refine ⟨a, b, -1, _, rfl, .neg hc.1 hc.2.1 hc.2.2.1 hc.2.2.2, q _ H1 Z1 s1 ?_⟩
      have := yields_rangeC (K := X.K) (T := T) (lo := a) (c := -1) (n := (a - b).toNat) (H := H1) (Z := Z1)
      have e : ∀ k : Nat, a + (k : Int) * -1 = a - k := fun k => by omega
      simpa only [e] using this
    · cases e
  · split at e
    · rename_i hc
      cases e
      exact ⟨a, b, c, _, rfl, ⟨hc.1, hc.2.1, hc.2.2, PyProof.Rows.rangeSize_toNat a b c⟩, q _ H1 Z1 s1 yields_rangeC⟩
    · cases e

/-- what a store to names changes -/
structure SetR (l : List Nat) (env : Env) (σ : L2.St) (env' : Env) (σ' : L2.St) : Prop where
  own : ∀ (i : Nat) xs, env'[i]? = some (some (.ow xs)) → env[i]? = some (some (.ow xs)) ∧ σ'[i]? = σ[i]?
  off : ∀ i, i ∉ l → σ'[i]? = σ[i]?
  len : σ'.length = σ.length
theorem SetR.refl {l : List Nat} : SetR l env σ env σ := ⟨fun i xs h => ⟨h, rfl⟩, fun _ _ => rfl, rfl⟩
theorem SetR.trans {l l' : List Nat} {σ1 σ2 : L2.St} (a : SetR l env σ env1 σ1) (b : SetR l' env1 σ1 env2 σ2) : SetR (l ++ l') env σ env2 σ2 :=
  ⟨fun i xs h => let ⟨h1, e1⟩ := b.own i xs h; let ⟨h2, e2⟩ := a.own i xs h1; ⟨h2, e1.trans e2⟩, fun i h => (b.off i fun q => h (List.mem_append_right _ q)).trans (a.off i fun q => h (List.mem_append_left _ q)), b.len.trans a.len⟩
theorem SetR.ownA {l : List Nat} {σ1 : L2.St} (a : SetR l env σ env1 σ1) {p : Addr} (h : Own env1 σ1 p) : Own env σ p := by
  obtain ⟨i, xs, e, q⟩ := h
  obtain ⟨h1, e1⟩ := a.own i xs e
  exact ⟨i, xs, h1, by rw [← e1]; exact q⟩
/-- a target's reading: data stored -/
def gE (K : Frag) (T : Tb) (tg : Tg) : TG := fun v σ H Q => ∃ env Z d env', EnvR K T.FT H Z env σ ∧ Rep K T.FT H Z v d ∧ asgT env tg d = some env' ∧
  ∀ σ', EnvR K T.FT H Z env' σ' → SetR tg.sl env σ env' σ' → Q σ' H
def gEs (K : Frag) (T : Tb) (tgs : List Tg) : TGs := fun vs σ H Q => ∃ env Z ds env', EnvR K T.FT H Z env σ ∧ Reps K T.FT H Z vs ds ∧ asgTs env tgs ds = some env' ∧
  ∀ σ', EnvR K T.FT H Z env' σ' → SetR (Tg.sls tgs) env σ env' σ' → Q σ' H
theorem pg_mono {t t' : TG} (h : PG X tg t) (i : ∀ v σ H Q, t' v σ H Q → t v σ H Q) : PG X tg t' := ⟨fun pins s σ H v u Q I r q => h.run pins s σ H v u Q I r (i v σ H Q q)⟩
theorem pg_or {t t' : TG} (h : PG X tg t) (h' : PG X tg t') : PG X tg (fun v σ H Q => t v σ H Q ∨ t' v σ H Q) := ⟨fun pins s σ H v u Q I r q => q.elim (h.run pins s σ H v u Q I r) (h'.run pins s σ H v u Q I r)⟩
theorem pgs_mono {ts : List Expr} {t t' : TGs} (h : PGs X ts t) (i : ∀ v σ H Q, t' v σ H Q → t v σ H Q) : PGs X ts t' := ⟨fun pins s σ H v u Q I r q => h.run pins s σ H v u Q I r (i v σ H Q q)⟩
/-- slot i is given data -/
theorem EnvR.setD {i : Nat} {v : V} {d : D} (E : EnvR K T.FT H Z env σ) (r : Rep K T.FT H Z v d) : EnvR K T.FT H Z (env.set i (some (.im d))) (σ.set i (some v)) := by
  refine ⟨by simp [E.len], fun j d' e => ?_, fun j xs e => ?_, fun j k xs ys a e1 e2 q1 q2 => ?_, E.zh⟩
  · rw [List.getElem?_set] at e ⊢
    split at e
    · rename_i hj
      split at e
      · rename_i hl
        cases e
        rw [if_pos hj, if_pos (by rw [← E.len]; exact hl)]
        exact ⟨v, rfl, r⟩
      · cases e
    · rename_i hj
      rw [if_neg hj]
      exact E.im j d' e
  · rw [List.getElem?_set] at e ⊢
    split at e
    · split at e <;> cases e
    · rename_i hj
      rw [if_neg hj]
      exact E.ow j xs e
  · rw [List.getElem?_set] at e1 e2 q1 q2
    split at e1
    · split at e1 <;> cases e1
    · rename_i hj
      rw [if_neg hj] at q1
      split at e2
      · split at e2 <;> cases e2
      · rename_i hk
        rw [if_neg hk] at q2
        exact E.inj j k xs ys a e1 e2 q1 q2
theorem setR_setD {i : Nat} {v : Option V} {d : D} : SetR [i] env σ (env.set i (some (.im d))) (σ.set i v) := by
  refine ⟨fun j xs e => ?_, fun j h => ?_, by simp⟩
  · rw [List.getElem?_set] at e ⊢
    split at e
    · split at e <;> cases e
    · rename_i hj
      rw [if_neg hj]
      exact ⟨e, rfl⟩
  · rw [List.getElem?_set_ne (fun e => h (by simp [e]))]
theorem pg_nameE {i : Nat} {x : Str} (hN : X.N.Nodup) (hi : X.N[i]? = some x) (hx : Loc X.env.scope x) (hf : X.fn x = true ∨ X.env.scope.names.lookup x = some .local) : PG X (.Name x p) (gE X.K T (.v i)) :=
  pg_mono (pg_name hN hi hx hf) fun v σ H Q ⟨env, Z, d, env', E, r, e, q⟩ => by
    cases e
    exact q _ (E.setD r) setR_setD
theorem pgs_nilE : PGs X [] (gEs X.K T []) := pgs_mono pgs_nil fun v σ H Q ⟨env, Z, d, env', E, r, e, q⟩ => by
  cases r with
  | nil => cases e; exact ⟨rfl, q _ E .refl⟩
  | cons h r => cases e
theorem pgs_consE {t : Tg} {ts : List Tg} (h1 : PG X e (gE X.K T t)) (h2 : PGs X es (gEs X.K T ts))
    (hs : (assignEach (e :: es) X.env).map (·.2) = assign e X.env :: (assignEach es X.env).map (·.2)) : PGs X (e :: es) (gEs X.K T (t :: ts)) :=
  pgs_mono (pgs_cons h1 h2 hs) fun v σ H Q ⟨env, Z, d, env', E, r, e, q⟩ => by
    cases r with
    | nil => cases e
    | cons h r =>
      obtain ⟨env1, e1, e2⟩ := Option.bind_eq_some_iff.mp e
      exact ⟨_, _, rfl, env, Z, _, env1, E, h, e1, fun σ1 E1 o1 => ⟨env1, Z, _, env', E1, r, e2, fun σ2 E2 o2 => q σ2 E2 (o1.trans o2)⟩⟩
theorem asgTs_len : ∀ {ts : List Tg} {ds : List D} {env env' : Env}, asgTs env ts ds = some env' → ds.length = ts.length
  | [], [], _, _, _ => rfl
  | [], _ :: _, _, _, e => by cases e
  | _ :: _, [], _, _, e => by cases e
  | _ :: ts, _ :: ds, env, env', e => by
    obtain ⟨_, _, e⟩ := Option.bind_eq_some_iff.mp e
    simp [asgTs_len e]
theorem pg_tupE {k n : Nat} {ts : List Tg} (hc : X.calm = true) (h : PGs X es (gEs X.K T ts)) (hl : ts.length = n)
    (hn : (assignEach es X.env).length = n) (hst : (assignEach es X.env).findIdx? (·.1) = none) : PG X (.Tuple es k p) (gE X.K T (.t ts)) := by
  refine pg_mono (pg_or (pg_tup hc h hn hst) (pg_lst hc h hn hst)) fun v σ H Q ⟨env, Z, d, env', E, r, e, q⟩ => ?_
  cases d <;> first | cases e | skip
  · rename_i ds
    cases r with
    | tup h1 r =>
      exact .inl ⟨_, _, rfl, h1, by rw [r.length, asgTs_len e, hl], env, Z, ds, env', E, r, e, q⟩
  · rename_i ds
    cases r with
    | lst h1 z r =>
      exact .inr ⟨_, _, rfl, .of h1, by rw [r.length, asgTs_len e, hl], env, Z, ds, env', E, r, e, q⟩
end
end RB

set_option linter.all false
set_option maxHeartbeats 1000000
namespace RB
open PySem L2 PySem.Spec PyProof.Rows
open PySem.W (Frag)

section
variable {X : Cx} {T : Tb} {W W' : WX} {e tg : Expr} {c : E} {pos p : Pos} {K : Frag} {σ σ2 σ3 : L2.St} {H H1 H2 : Hp} {Z Z1 Z2 : Addr → Prop} {env env0 env1 env2 : Env}

theorem wipe_get {i : Nat} : ∀ {vs : List Nat} {σ : L2.St}, i ∉ vs → (wipe σ vs)[i]? = σ[i]?
  | [], _, _ => rfl
  | v :: vs, σ, h => by
    unfold wipe
    rw [List.getElem?_set_ne (fun e => h (by simp [e]))]
    exact wipe_get fun q => h (List.mem_cons_of_mem _ q)
theorem wipe_at {i : Nat} : ∀ {vs : List Nat} {σ : L2.St}, i ∈ vs → (wipe σ vs)[i]? = if i < σ.length then some none else none
  | [], _, h => by simp at h
  | v :: vs, σ, h => by
    unfold wipe
    rw [List.getElem?_set, wipe_length]
    by_cases hv : v = i
    · subst hv; simp
    · rw [if_neg hv]
      exact wipe_at ((List.mem_cons.mp h).resolve_left fun e => hv e.symm)
theorem wipe_ext {vs : List Nat} {a b : L2.St} (hl : a.length = b.length) (h : ∀ i, i ∉ vs → a[i]? = b[i]?) : wipe a vs = wipe b vs := by
  apply List.ext_getElem?
  intro i
  by_cases hi : i ∈ vs
  · rw [wipe_at hi, wipe_at hi, hl]
  · rw [wipe_get hi, wipe_get hi, h i hi]
theorem wipeE_length : ∀ {vs : List Nat} {env : Env}, (wipeE env vs).length = env.length
  | [], _ => rfl
  | v :: vs, env => by unfold wipeE; rw [List.length_set, wipeE_length]
theorem wipeE_some {i : Nat} {x : Vl} : ∀ {vs : List Nat} {env : Env}, (wipeE env vs)[i]? = some (some x) → i ∉ vs ∧ env[i]? = some (some x)
  | [], _, h => ⟨by simp, h⟩
  | v :: vs, env, h => by
    unfold wipeE at h
    rw [List.getElem?_set] at h
    split at h
    · split at h <;> cases h
    · rename_i hv
      obtain ⟨h1, h2⟩ := wipeE_some h
      exact ⟨fun q => (List.mem_cons.mp q).elim (fun e => hv e.symm) h1, h2⟩
theorem backE_length {env0 : Env} : ∀ {vs : List Nat} {env : Env}, (backE env0 env vs).length = env.length
  | [], _ => rfl
  | v :: vs, env => by unfold backE; rw [List.length_set, backE_length]
theorem backE_some {env0 : Env} {i : Nat} {x : Vl} : ∀ {vs : List Nat} {env : Env}, (backE env0 env vs)[i]? = some (some x) → (i ∈ vs ∧ env0[i]? = some (some x)) ∨ (i ∉ vs ∧ env[i]? = some (some x))
  | [], _, h => .inr ⟨by simp, h⟩
  | v :: vs, env, h => by
    unfold backE at h
    rw [List.getElem?_set] at h
    split at h
    · rename_i hv
      subst hv
      split at h
      · injection h with h
        cases q : env0[v]? with
        | none => rw [q] at h; cases h
        | some y =>
          rw [q] at h
          have h : y = some x := h
          rw [h]
          exact .inl ⟨List.mem_cons_self, rfl⟩
      · cases h
    · rename_i hv
      rcases backE_some h with ⟨h1, h2⟩ | ⟨h1, h2⟩
      · exact .inl ⟨List.mem_cons_of_mem _ h1, h2⟩
      · exact .inr ⟨fun q => (List.mem_cons.mp q).elim (fun e => hv e.symm) h1, h2⟩
theorem EnvR.wipe {vs : List Nat} (E : EnvR K T.FT H Z env σ) : EnvR K T.FT H Z (wipeE env vs) (wipe σ vs) := by
  refine ⟨by rw [wipeE_length, wipe_length, E.len], fun i d e => ?_, fun i xs e => ?_, fun i j xs ys a e1 e2 q1 q2 => ?_, E.zh⟩
  · obtain ⟨h1, h2⟩ := wipeE_some e
    rw [wipe_get h1]
    exact E.im i d h2
  · obtain ⟨h1, h2⟩ := wipeE_some e
    rw [wipe_get h1]
    exact E.ow i xs h2
  · obtain ⟨h1, h2⟩ := wipeE_some e1
    obtain ⟨h3, h4⟩ := wipeE_some e2
    rw [wipe_get h1] at q1
    rw [wipe_get h3] at q2
    exact E.inj i j xs ys a h2 h4 q1 q2

/-- within a comprehension: from (H1, Z1, env0, σ) to (H, Z, env2, σ2), the new list at D -/
structure InC (K : Frag) (T : Tb) (σ : L2.St) (H1 : Hp) (Z1 : Addr → Prop) (env0 : Env) (D : Addr) (σ2 : L2.St) (H : Hp) (Z : Addr → Prop) (env2 : Env) (acc : List V) (ds : List RB.D) : Prop where
  go : Go (fun p => Own env0 σ p ∨ p = D) H1 Z1 H Z
  en : EnvR K T.FT H Z env2 σ2
  ow : ∀ (i : Nat) xs, env2[i]? = some (some (.ow xs)) → (∃ ys, env0[i]? = some (some (.ow ys))) ∧ σ2[i]? = σ[i]?
  hD : H D = some (.lst acc)
  r : Reps K T.FT H Z acc ds
  nz : ¬ Z D
  h0 : H1 D = none
  o0 : ∀ p, Own env0 σ p → ∃ ws, H1 p = some (.lst ws)
section
variable {D : Addr} {acc : List V} {ds : List RB.D}
theorem InC.own (I : InC K T σ H1 Z1 env0 D σ2 H Z env2 acc ds) {p : Addr} (h : Own env2 σ2 p) : Own env0 σ p := by
  obtain ⟨i, xs, e, q⟩ := h
  obtain ⟨⟨ys, e1⟩, e2⟩ := I.ow i xs e
  exact ⟨i, ys, e1, by rw [← e2]; exact q⟩
theorem InC.nO (I : InC K T σ H1 Z1 env0 D σ2 H Z env2 acc ds) : ¬ Own env2 σ2 D := fun h => by
  obtain ⟨ws, e⟩ := I.o0 D (I.own h)
  rw [I.h0] at e; cases e
theorem InC.step (I : InC K T σ H1 Z1 env0 D σ2 H Z env2 acc ds) {H2 : Hp} {Z2 : Addr → Prop} {env3 : Env} (a : Step K T σ2 H Z env2 H2 Z2 env3) : InC K T σ H1 Z1 env0 D σ2 H2 Z2 env3 acc ds where
  go := I.go.trans a.go fun p h => .inl (.inl (I.own h))
  en := a.en
  ow := fun i xs h => let ⟨ys, e⟩ := a.ownI i xs h; I.ow i ys e
  hD := a.go.fr D _ I.hD I.nO
  r := Reps.goE I.en a.go I.r
  nz := fun z => by
    rcases a.go.zn D z with z | z | z
    · exact I.nz z
    · exact I.nO z
    · rw [I.hD] at z; cases z
  h0 := I.h0
  o0 := I.o0
theorem Step.grow {H2 : Hp} (E : EnvR K T.FT H Z env σ) (g : Go (fun _ => False) H Z H2 Z) : Step K T σ H Z env H2 Z env := by
  refine ⟨g.mono fun _ h => h.elim, ⟨E.len, fun i d e => ?_, fun i xs e => ?_, E.inj, fun a z => ?_⟩, fun i xs h => ⟨xs, h⟩⟩
  · obtain ⟨v, e1, r⟩ := E.im i d e
    exact ⟨v, e1, r.grow g⟩
  · obtain ⟨p, vs, e1, e2, r, n⟩ := E.ow i xs e
    exact ⟨p, vs, e1, g.fr _ _ e2 (fun z => z), r.grow g, n⟩
  · obtain ⟨o, e⟩ := E.zh a z
    exact g.dom a o e
theorem InC.set (I : InC K T σ H1 Z1 env0 D σ2 H Z env2 acc ds) {l : List Nat} {σ3 : L2.St} {env3 : Env} (E : EnvR K T.FT H Z env3 σ3) (s : SetR l env2 σ2 env3 σ3) : InC K T σ H1 Z1 env0 D σ3 H Z env3 acc ds where
  go := I.go
  en := E
  ow := fun i xs h => let ⟨h1, e1⟩ := s.own i xs h; let ⟨h2, e2⟩ := I.ow i xs h1; ⟨h2, e1.trans e2⟩
  hD := I.hD
  r := I.r
  nz := I.nz
  h0 := I.h0
  o0 := I.o0
theorem InC.wipe (I : InC K T σ H1 Z1 env0 D σ2 H Z env2 acc ds) (vs : List Nat) : InC K T σ H1 Z1 env0 D (wipe σ2 vs) H Z (wipeE env2 vs) acc ds where
  go := I.go
  en := I.en.wipe
  ow := fun i xs h => by
    obtain ⟨h1, h2⟩ := wipeE_some h
    rw [wipe_get h1]
    exact I.ow i xs h2
  hD := I.hD
  r := I.r
  nz := I.nz
  h0 := I.h0
  o0 := I.o0
theorem InC.add (I : InC K T σ H1 Z1 env0 D σ2 H Z env2 acc ds) {y : V} {d : RB.D} (r : Rep K T.FT H Z y d) : InC K T σ H1 Z1 env0 D σ2 (upd H D (.lst (acc ++ [y]))) Z env2 (acc ++ [y]) (ds ++ [d]) := by
  have g : Go (fun p => p = D) H Z (upd H D (.lst (acc ++ [y]))) Z :=
    ⟨fun p o e n => by rw [upd_ne n]; exact e, fun p o e => by
      by_cases h : p = D
      · exact ⟨_, by rw [h]; exact upd_same⟩
      · exact ⟨o, by rw [upd_ne h]; exact e⟩, fun _ z => z, fun _ z => .inl z⟩
  have hO : ∀ p, p = D → ¬ Z p ∧ ∃ ws, H p = some (.lst ws) := fun p e => by subst e; exact ⟨I.nz, _, I.hD⟩
  refine ⟨I.go.trans g fun p h => .inl (.inr h), ⟨I.en.len, fun i d e => ?_, fun i xs e => ?_, I.en.inj, fun a z => ?_⟩, I.ow, upd_same, (I.r.go g hO).append (.one (r.go g hO)), I.nz, I.h0, I.o0⟩
  · obtain ⟨v, e1, r⟩ := I.en.im i d e
    exact ⟨v, e1, r.go g hO⟩
  · obtain ⟨p, vs, e1, e2, r, n⟩ := I.en.ow i xs e
    refine ⟨p, vs, e1, g.fr _ _ e2 (fun z => ?_), r.go g hO, n⟩
    subst z
    exact I.nO ⟨i, xs, e, e1⟩
  · obtain ⟨o, e⟩ := I.en.zh a z
    exact g.dom a o e
/-- the new list at its birth -/
theorem InC.start (E : EnvR K T.FT H1 Z1 env1 σ) (h : H1 D = none) (vs : List Nat) : InC K T σ H1 Z1 (wipeE env1 vs) D (L2.wipe σ vs) (upd H1 D (.lst [])) Z1 (wipeE env1 vs) [] [] := by
  have g : Go (fun _ => False) H1 Z1 (upd H1 D (.lst [])) Z1 := .new h
  refine ⟨g.mono fun _ h => h.elim, (Step.grow E.wipe g).en, fun i xs e => ⟨⟨xs, e⟩, wipe_get (wipeE_some e).1⟩, upd_same, .nil, fun z => ?_, h, fun p o => ?_⟩
  · obtain ⟨o, e⟩ := E.zh D z
    rw [h] at e; cases e
  · obtain ⟨i, xs, e, q⟩ := o
    obtain ⟨_, e1⟩ := wipeE_some e
    exact (E.own p ⟨i, xs, e1, q⟩).2
/-- behind the comprehension -/
theorem InC.back {vs : List Nat} (E : EnvR K T.FT H1 Z1 env1 σ) (I : InC K T σ H1 Z1 (wipeE env1 vs) D (L2.wipe σ vs) H Z (wipeE env2 vs) acc ds) :
    Step K T σ H1 Z1 env1 H Z (backE env1 (wipeE env2 vs) vs) ∧ ¬ Own (backE env1 (wipeE env2 vs) vs) σ D := by
  have own0 : ∀ p, Own (wipeE env1 vs) σ p → Own env1 σ p := fun p ⟨i, xs, e, q⟩ => ⟨i, xs, (wipeE_some e).2, q⟩
  have g : Go (Own env1 σ) H1 Z1 H Z := ⟨fun p o e n => I.go.fr p o e fun q => q.elim (fun q => n (own0 p q)) fun q => (by rw [q, I.h0] at e; cases e), I.go.dom, I.go.zm, fun p z => by
    rcases I.go.zn p z with z | (z | z) | z
    · exact .inl z
    · exact .inr (.inl (own0 p z))
    · exact .inr (.inr (by rw [z]; exact I.h0))
    · exact .inr (.inr z)⟩
  have st : ∀ (i : Nat) xs a ws, i ∈ vs → env1[i]? = some (some (.ow xs)) → σ[i]? = some (some (.ref a)) → H1 a = some (.lst ws) → ¬ (Own (wipeE env1 vs) σ a ∨ a = D) := fun i xs a ws hi e q h o => by
    rcases o with ⟨j, ys, e1, q1⟩ | o
    · obtain ⟨n, e2⟩ := wipeE_some e1
      have := E.inj i j xs ys a e e2 q q1
      subst this
      exact n hi
    · rw [o, I.h0] at h; cases h
  have owb : ∀ (i : Nat) xs, (backE env1 (wipeE env2 vs) vs)[i]? = some (some (.ow xs)) → ∃ ys, env1[i]? = some (some (.ow ys)) := fun i xs e => by
    rcases backE_some e with ⟨_, e1⟩ | ⟨_, e1⟩
    · exact ⟨xs, e1⟩
    · obtain ⟨⟨ys, e2⟩, _⟩ := I.ow i xs e1
      exact ⟨ys, (wipeE_some e2).2⟩
  refine ⟨⟨g, ⟨?_, fun i d e => ?_, fun i xs e => ?_, fun i j xs ys a e1 e2 q1 q2 => ?_, I.en.zh⟩, owb⟩, fun ⟨i, xs, e, q⟩ => ?_⟩
  · have := I.en.len
    rw [wipe_length] at this
    rw [backE_length, this]
  · rcases backE_some e with ⟨_, e1⟩ | ⟨n, e1⟩
    · obtain ⟨v, q, r⟩ := E.im i d e1
      exact ⟨v, q, Rep.goE E g r⟩
    · obtain ⟨v, q, r⟩ := I.en.im i d e1
      rw [wipe_get n] at q
      exact ⟨v, q, r⟩
  · rcases backE_some e with ⟨m, e1⟩ | ⟨n, e1⟩
    · obtain ⟨a, ws, q, h, r, nz⟩ := E.ow i xs e1
      have s := st i xs a ws m e1 q h
      refine ⟨a, ws, q, I.go.fr a _ h s, Reps.goE E g r, fun z => ?_⟩
      rcases I.go.zn a z with z | z | z
      · exact nz z
      · exact s z
      · rw [h] at z; cases z
    · obtain ⟨a, ws, q, h⟩ := I.en.ow i xs e1
      rw [wipe_get n] at q
      exact ⟨a, ws, q, h⟩
  · obtain ⟨zs, f1⟩ := owb i xs e1
    obtain ⟨zs', f2⟩ := owb j ys e2
    exact E.inj i j zs zs' a f1 f2 q1 q2
  · obtain ⟨ys, e1⟩ := owb i xs e
    obtain ⟨_, ws, h⟩ := E.own D ⟨i, ys, e1, q⟩
    rw [I.h0] at h; cases h
end

/-- a comprehension's test -/
def tC (K : Frag) (T : Tb) (W : WX) (c : Oe) : TT := fun σ H Q => ∃ env Z, EnvR K T.FT H Z env σ ∧ (evC T.F c env).Wp (PostT K T σ H Z env Q) (ExP K T W σ H Z (Own env σ))
theorem pts_mono {ifs : List Expr} {t t' : TT} (h : PTs X ifs t) (i : ∀ σ H Q, t' σ H Q → t σ H Q) : PTs X ifs t' := ⟨fun pins s σ H Q I q => h.run pins s σ H Q I (i σ H Q q)⟩
theorem pts_nilC : PTs X [] (tC X.K T W .none) := pts_mono pts_nil fun σ H Q ⟨env, Z, E, h⟩ => h H Z (.refl E)
theorem pts_oneC (h : PT X e (tT X.K T W c)) : PTs X [e] (tC X.K T W (.some c)) := pts_mono (pts_one h) fun σ H Q ⟨env, Z, E, h⟩ => ⟨env, Z, E, h⟩

theorem lc_of {elt tg iter : Expr} {ifs : List Expr} {scope : Scope} {own : List (Str × Nat)} {ct : Tg} {ci : Iter} {cc : Oe} {ce : E} (hc : X.calm = true) (hN : X.N.Nodup) (hi : PI X tg iter (tI X.K T W ci)) (ok : BlkOk X.N X.env.scope scope own)
    (hg : ∀ (s : Shared) (H : Hp) (C : Addr) (cl : List (Str × Addr)) (fp : List Addr), PG (X.blk s H scope (compEnvC scope cl C X.env) fp) tg (gE X.K T ct)) (ht : ∀ (s : Shared) (H : Hp) (C : Addr) (cl : List (Str × Addr)) (fp : List Addr), PTs (X.blk s H scope (compEnvC scope cl C X.env) fp) ifs (tC X.K T W' cc))
    (he : ∀ (s : Shared) (H : Hp) (C : Addr) (cl : List (Str × Addr)) (fp : List Addr), PE (X.blk s H scope (compEnvC scope cl C X.env) fp) elt (tE X.K T W' ce)) (hs : ∀ x, foldedSetIterable iter X.env x = pure x) (hsub : ∀ i ∈ ct.sl, i ∈ own.map (·.2)) :
    ∀ σ H Q, tE X.K T W (.comp (own.map (·.2)) ct ci cc ce) σ H Q → tLc (tI X.K T W ci) (gE X.K T ct) (tC X.K T W' cc) (tE X.K T W' ce) (own.map (·.2)) σ H Q := by
  generalize own.map (·.2) = vs at *
  rintro σ H Q ⟨env, Z, E, h⟩
  simp only [ev, wp_bind] at h
  refine ⟨env, Z, E, wp_mono h (fun x _ hx J H1 Z1 s1 y D hD => ?_) fun _ _ e => e⟩
  -- the loop's answer
  generalize hst : (fun d env1 => (R.of (asgT env1 ct d)).bind fun env2 => (evC T.F cc env2).bind fun t =>
          if t.1 = true then (ev T.F ce t.2).bind fun y => (R.of (keep y.2 y.1)).bind fun z => R.ok (some z.1, wipeE z.2 vs) else .ok (none, wipeE t.2 vs)) = st at hx
  cases hr : compL st x.1 (wipeE x.2 vs) with
  | no => rw [hr] at hx; exact hx.elim
  | ex c d => rw [hr] at hx; exact hx.elim
  | ok r =>
  rw [hr] at hx
  replace hx : (if r.1.length ≤ listLim then (R.ok (Rf.tm r.1, backE x.2 r.2 vs)) else R.no).Wp (PostE X.K T σ H Z env Q) (ExP X.K T W σ H Z (Own env σ)) := hx
  by_cases hlen : r.1.length ≤ listLim
  case neg => rw [if_neg hlen] at hx; exact hx.elim
  rw [if_pos hlen] at hx
  -- the invariant
  refine ⟨fun i m H' => m = x.1.length - i ∧ i ≤ x.1.length ∧ ∃ Z' env' acc ds q, InC X.K T σ H1 Z1 (wipeE x.2 vs) D (L2.wipe σ vs) H' Z' (wipeE env' vs) acc ds ∧ compL st (x.1.drop i) (wipeE env' vs) = .ok q ∧ r.1 = ds ++ q.1 ∧ r.2 = q.2,
    ⟨_, rfl, Nat.zero_le _, Z1, x.2, [], [], r, InC.start s1.en hD vs, hr, rfl, rfl⟩, ?_⟩
  rintro i m H' ⟨rfl, hi, Z', env', acc, ds, q, I, hq, hq1, hq2⟩
  have lat : Later H1 Z1 H' Z' := by
    refine Later.go I.go fun p o => ?_
    rcases o with o | o
    · obtain ⟨ws, e⟩ := I.o0 p o
      obtain ⟨i, xs, e1, q1⟩ := o
      exact .inr (s1.en.own p ⟨i, xs, (wipeE_some e1).2, q1⟩)
    · exact .inl (by rw [o]; exact hD)
  by_cases hlt : i < x.1.length
  case neg =>
    have ei : i = x.1.length := by omega
    subst ei
    refine .inl ⟨y.stop H' Z' lat, ?_⟩
    rw [List.drop_length] at hq
    cases hq
    rw [List.append_nil] at hq1
    obtain ⟨sb, nD⟩ := I.back s1.en
    have e2 : r.2 = wipeE env' vs := hq2
    rw [e2, hq1] at hx
    exact hx (.ref D) H' Z' (s1.trans sb) ⟨D, acc, rfl, I.hD, I.r, I.nz, nD⟩ (fun a e => by cases e; exact s1.go.free hD)
  case pos =>
    rw [List.drop_eq_getElem_cons hlt] at hq
    simp only [compL] at hq
    obtain ⟨t1, ht1, hq⟩ := R.bind_eq_ok.mp hq
    obtain ⟨q', hq', hq⟩ := R.bind_eq_ok.mp hq
    cases hq
    subst hst
    obtain ⟨go, yld⟩ := y.go H' Z' lat i x.1[i] (by simp [hlt])
    obtain ⟨env2, h2, ht1⟩ := R.bind_eq_ok.mp ht1
    obtain ⟨t, h3, ht1⟩ := R.bind_eq_ok.mp ht1
    have h2 : asgT (wipeE env' vs) ct x.1[i] = some env2 := by
      cases hh : asgT (wipeE env' vs) ct x.1[i] with
      | none => rw [hh] at h2; cases h2
      | some z => rw [hh] at h2; cases h2; rfl
    refine .inr ⟨go, fun H'' => ∃ m', m' < x.1.length - i ∧ (m' = x.1.length - (i + 1) ∧ i + 1 ≤ x.1.length ∧ ∃ Z' env' acc ds q, InC X.K T σ H1 Z1 (wipeE x.2 vs) D (L2.wipe σ vs) H'' Z' (wipeE env' vs) acc ds ∧ compL _ (x.1.drop (i + 1)) (wipeE env' vs) = .ok q ∧ r.1 = ds ++ q.1 ∧ r.2 = q.2), fun _ h => h, fun xv H2 hy => ?_⟩
    obtain ⟨g2, r2⟩ := yld xv H2 hy
    have I2 := I.step (Step.grow I.en g2)
    refine ⟨wipeE env' vs, Z', _, env2, I2.en, r2, h2, fun σ3 E3 S3 => ?_⟩
    have I3 := I2.set E3 S3
    have wσ : L2.wipe σ3 vs = L2.wipe σ vs := by
      rw [wipe_ext (a := σ3) (b := L2.wipe σ vs) S3.len fun i hi => S3.off i fun q => hi (hsub i q)]
      exact wipe_ext (wipe_length σ vs) fun i hi => wipe_get hi
    refine ⟨wσ, env2, Z', E3, ?_⟩
    rw [h3]
    intro H3 Z3 s3
    have I4 := I3.step s3
    split at ht1
    · rename_i hb
      rw [if_pos hb]
      obtain ⟨z, h4, ht1⟩ := R.bind_eq_ok.mp ht1
      obtain ⟨u, h5, ht1⟩ := R.bind_eq_ok.mp ht1
      cases ht1
      have h5 : keep z.2 z.1 = some u := by
        cases hh : keep z.2 z.1 with
        | none => rw [hh] at h5; cases h5
        | some z => rw [hh] at h5; cases h5; rfl
      refine ⟨t.2, Z3, s3.en, ?_⟩
      rw [h4]
      intro yv H4 Z4 s4 d4 f4
      obtain ⟨Z5, s5, r5, _, _⟩ := Step.keep s3.en s4 d4 f4 h5
      have I5 := I4.step s5
      refine ⟨acc, I5.hD, ?_, x.1.length - (i + 1), by omega, rfl, by omega, Z5, u.2, acc ++ [yv], ds ++ [u.1], q', ?_, ?_, by rw [hq1]; show ds ++ (u.1 :: q'.1) = _; simp, hq2⟩
      · have l1 := I5.r.length
        have e1 : r.1.length = (ds ++ (u.1 :: q'.1)).length := by rw [hq1]
        simp at e1
        have := lim_line (n := acc.length + 1) (by rw [l1]; omega)
        omega
      · have I6 := (I5.add r5).wipe vs
        rw [wσ] at I6
        exact I6
      · exact hq'
    · rename_i hb
      rw [if_neg hb]
      cases ht1
      refine ⟨x.1.length - (i + 1), by omega, rfl, by omega, Z3, t.2, acc, ds, q', ?_, hq', hq1, hq2⟩
      have I6 := I4.wipe vs
      rw [wσ] at I6
      exact I6
theorem pe_compE {elt tg iter : Expr} {ifs : List Expr} {scope : Scope} {own : List (Str × Nat)} {ct : Tg} {ci : Iter} {cc : Oe} {ce : E} (hc : X.calm = true) (hN : X.N.Nodup) (hi : PI X tg iter (tI X.K T W ci)) (ok : BlkOk X.N X.env.scope scope own)
    (hg : ∀ (s : Shared) (H : Hp) (C : Addr) (cl : List (Str × Addr)) (fp : List Addr), PG (X.blk s H scope (compEnvC scope cl C X.env) fp) tg (gE X.K T ct)) (ht : ∀ (s : Shared) (H : Hp) (C : Addr) (cl : List (Str × Addr)) (fp : List Addr), PTs (X.blk s H scope (compEnvC scope cl C X.env) fp) ifs (tC X.K T W' cc))
    (he : ∀ (s : Shared) (H : Hp) (C : Addr) (cl : List (Str × Addr)) (fp : List Addr), PE (X.blk s H scope (compEnvC scope cl C X.env) fp) elt (tE X.K T W' ce)) (hs : ∀ x, foldedSetIterable iter X.env x = pure x) (hsub : ∀ i ∈ ct.sl, i ∈ own.map (·.2)) :
    PE X (.ListComp elt [⟨tg, iter, ifs, 0⟩] scope pos) (tE X.K T W (.comp (own.map (·.2)) ct ci cc ce)) :=
  pe_mono (pe_lc hc hN hi ok hg ht he hs) (lc_of hc hN hi ok hg ht he hs hsub)
end
end RB

set_option linter.all false
set_option maxHeartbeats 1000000
namespace RB
open PySem L2 PySem.Spec PyProof.Rows
open PySem.W (Frag)

section
variable (K : Frag) (T : Tb)
/-- from (σ, H, Z, env) to (σ', H', Z', env') by statements -/
structure SStep (loc : Nat → Bool) (σ : L2.St) (H : Hp) (Z : Addr → Prop) (env : Env) (σ' : L2.St) (H' : Hp) (Z' : Addr → Prop) (env' : Env) : Prop where
  go : Go (Own env σ) H Z H' Z'
  en : EnvR K T.FT H' Z' env' σ'
  kp : ∀ i, loc i = false → σ'[i]? = σ[i]?
  len : σ'.length = σ.length
  ow : ∀ (i : Nat) xs a, env'[i]? = some (some (.ow xs)) → σ'[i]? = some (some (.ref a)) → (∃ ys, env[i]? = some (some (.ow ys)) ∧ σ[i]? = some (some (.ref a))) ∨ (loc i = true ∧ H a = none)
/-- a return's value -/
def ResS (loc : Nat → Bool) (σ : L2.St) (H : Hp) (env : Env) (H' : Hp) (Z' : Addr → Prop) (v : V) : Vl → Prop
  | .im d => Rep K T.FT H' Z' v d
  | .ow xs => ∃ a vs, v = .ref a ∧ H' a = some (.lst vs) ∧ Reps K T.FT H' Z' vs xs ∧ ¬ Z' a ∧ ((∃ (i : Nat) (ys : List D), loc i = true ∧ env[i]? = some (some (.ow ys)) ∧ σ[i]? = some (some (.ref a))) ∨ H a = none)
def PostS (loc : Nat → Bool) (σ : L2.St) (H : Hp) (Z : Addr → Prop) (env : Env) (D : Ends) (x : Ctl × Env) : Prop :=
  match x.1 with
  | .nx => ∀ σ' H' Z', SStep K T loc σ H Z env σ' H' Z' x.2 → D.nx σ' H'
  | .bk => ∀ σ' H' Z', SStep K T loc σ H Z env σ' H' Z' x.2 → D.bk σ' H'
  | .ct => ∀ σ' H' Z', SStep K T loc σ H Z env σ' H' Z' x.2 → D.ct σ' H'
  | .rt w => ∀ v σ' H' Z', SStep K T loc σ H Z env σ' H' Z' x.2 → ResS K T loc σ H env H' Z' v w → D.rt v H'
def ExS (W : WX) (H : Hp) (Z : Addr → Prop) (O : Addr → Prop) (c : Nat) (d : D) : Prop :=
  (T.EX c).isSome = true ∧ ∀ σ' cls dd H' Z', Go O H Z H' Z' → ExcR K T c d cls dd H' Z' → W cls dd σ' H'
def tSx (W : WX) (loc : Nat → Bool) (x : Env → R (Ctl × Env)) : TS := fun D σ H => ∃ env Z, EnvR K T.FT H Z env σ ∧ (x env).Wp (PostS K T loc σ H Z env D) (ExS K T W H Z (Own env σ))
abbrev tS (W : WX) (loc : Nat → Bool) (c : S) : TS := tSx K T W loc (exec T.F loc c)
abbrev tSs (W : WX) (loc : Nat → Bool) (c : Ss) : TS := tSx K T W loc (execs T.F loc c)
end

section
variable {X : Cx} {T : Tb} {W W' : WX} {e : Expr} {c : E} {pos p : Pos} {K : Frag} {loc : Nat → Bool} {σ σ1 σ2 σ3 : L2.St} {H H1 H2 : Hp} {Z Z1 Z2 : Addr → Prop} {env env0 env1 env2 : Env} {D : Ends}

theorem SStep.refl (E : EnvR K T.FT H Z env σ) : SStep K T loc σ H Z env σ H Z env := ⟨.refl, E, fun _ _ => rfl, rfl, fun i xs a e q => .inl ⟨xs, e, q⟩⟩
theorem SStep.own (s : SStep K T loc σ H Z env σ1 H1 Z1 env1) {p : Addr} (h : Own env1 σ1 p) : Own env σ p ∨ H p = none := by
  obtain ⟨i, xs, e, q⟩ := h
  rcases s.ow i xs p e q with ⟨ys, a, b⟩ | ⟨_, b⟩
  · exact .inl ⟨i, ys, a, b⟩
  · exact .inr b
theorem SStep.trans (a : SStep K T loc σ H Z env σ1 H1 Z1 env1) (b : SStep K T loc σ1 H1 Z1 env1 σ2 H2 Z2 env2) : SStep K T loc σ H Z env σ2 H2 Z2 env2 where
  go := a.go.trans b.go fun p h => a.own h
  en := b.en
  kp := fun i h => (b.kp i h).trans (a.kp i h)
  len := b.len.trans a.len
  ow := fun i xs p e q => by
    rcases b.ow i xs p e q with ⟨ys, e1, q1⟩ | ⟨l, n⟩
    · exact a.ow i ys p e1 q1
    · exact .inr ⟨l, a.go.free n⟩
theorem SStep.of (s : Step K T σ H Z env H1 Z1 env1) : SStep K T loc σ H Z env σ H1 Z1 env1 :=
  ⟨s.go, s.en, fun _ _ => rfl, rfl, fun i xs a e q => let ⟨ys, h⟩ := s.ownI i xs e; .inl ⟨ys, h, q⟩⟩
theorem SStep.set {l : List Nat} (E : EnvR K T.FT H Z env1 σ1) (s : SetR l env σ env1 σ1) (hl : ∀ i ∈ l, loc i = true) : SStep K T loc σ H Z env σ1 H Z env1 := by
  refine ⟨.refl, E, fun i h => s.off i fun q => (by rw [hl i q] at h; cases h), s.len, fun i xs a e q => ?_⟩
  obtain ⟨h1, e1⟩ := s.own i xs e
  exact .inl ⟨xs, h1, by rw [← e1]; exact q⟩
theorem ExS.exP {O : Addr → Prop} {c : Nat} {d : RB.D} (h : ExS K T W H Z O c d) : ExP K T W σ H Z O c d := ⟨h.1, fun cls dd H' Z' g x => h.2 σ cls dd H' Z' g x⟩
theorem ExS.from (a : SStep K T loc σ H Z env σ1 H1 Z1 env1) {c : Nat} {d : RB.D} (h : ExS K T W H Z (Own env σ) c d) : ExS K T W H1 Z1 (Own env1 σ1) c d :=
  ⟨h.1, fun σ' cls dd H' Z' g x => h.2 σ' cls dd H' Z' (a.go.trans g fun p h => a.own h) x⟩
theorem ResS.from (a : SStep K T loc σ H Z env σ1 H1 Z1 env1) {v : V} {w : Vl} (h : ResS K T loc σ1 H1 env1 H2 Z2 v w) : ResS K T loc σ H env H2 Z2 v w := by
  cases w with
  | im d => exact h
  | ow xs =>
    obtain ⟨p, vs, rfl, h1, r, n, q⟩ := h
    refine ⟨p, vs, rfl, h1, r, n, ?_⟩
    rcases q with ⟨i, ys, l, e, q⟩ | q
    · rcases a.ow i ys p e q with ⟨zs, e1, q1⟩ | ⟨_, n⟩
      · exact .inl ⟨i, zs, l, e1, q1⟩
      · exact .inr n
    · exact .inr (a.go.free q)
theorem PostS.from (a : SStep K T loc σ H Z env σ1 H1 Z1 env1) {x : Ctl × Env} (h : PostS K T loc σ H Z env D x) : PostS K T loc σ1 H1 Z1 env1 D x := by
  obtain ⟨k, e⟩ := x
  cases k with
  | nx => exact fun σ' H' Z' s => h σ' H' Z' (a.trans s)
  | bk => exact fun σ' H' Z' s => h σ' H' Z' (a.trans s)
  | ct => exact fun σ' H' Z' s => h σ' H' Z' (a.trans s)
  | rt w => exact fun v σ' H' Z' s r => h v σ' H' Z' (a.trans s) (r.from a)
theorem wpS_from {x : R (Ctl × Env)} (a : SStep K T loc σ H Z env σ1 H1 Z1 env1) (h : x.Wp (PostS K T loc σ H Z env D) (ExS K T W H Z (Own env σ))) : x.Wp (PostS K T loc σ1 H1 Z1 env1 D) (ExS K T W H1 Z1 (Own env1 σ1)) :=
  wp_mono h (fun _ _ q => q.from a) fun _ _ q => q.from a

/-- an expression within a statement -/
theorem sE {x : Env → R (Rf × Env)} {P : Rf × Env → Prop} {Q : VK} (E : EnvR K T.FT H Z env σ) (h : (x env).Wp P (ExS K T W H Z (Own env σ)))
    (k : ∀ y, P y → ∀ v H1 Z1, Step K T σ H Z env H1 Z1 y.2 → Hd K T H1 Z1 y.2 σ v y.1 → Fr H v y.1 → Q v H1) : tR K T W x σ H Q :=
  tR_bind E (wp_mono h (fun _ _ q => q) fun _ _ q => q.exP) k
theorem sE1 {x : Env → R (Rf × Env)} {P : Rf × Env → Prop} {Q : VK} (a : SStep K T loc σ H Z env σ1 H1 Z1 env1) (h : (x env1).Wp P (ExS K T W H Z (Own env σ)))
    (k : ∀ y, P y → ∀ v H2 Z2, Step K T σ1 H1 Z1 env1 H2 Z2 y.2 → Hd K T H2 Z2 y.2 σ1 v y.1 → Fr H1 v y.1 → Q v H2) : tR K T W x σ1 H1 Q :=
  tR_bind a.en (wp_mono h (fun _ _ q => q) fun _ _ q => (q.from a).exP) k

/-- to be stored -/
theorem Step.settle {v : V} {r : Rf} {x : Vl × Env} (E0 : EnvR K T.FT H Z env σ) (a : Step K T σ H Z env H1 Z1 env1) (h : Hd K T H1 Z1 env1 σ v r) (f : Fr H v r) (e : settle env1 r = some x) :
    ∃ Z2, Step K T σ H Z env H1 Z2 x.2 ∧ SlotR K T H1 Z2 (Own x.2 σ) (some x.1) (some v) ∧ ∀ xs a, x.1 = .ow xs → v = .ref a → H a = none := by
  cases r with
  | tm xs =>
    cases e
    obtain ⟨p, vs, rfl, h1, h2, h3, h4⟩ := h
    exact ⟨Z1, a, ⟨p, vs, rfl, h1, h2, h3, h4⟩, fun xs' a e1 e2 => f a e2⟩
  | im d =>
    cases e
    exact ⟨Z1, a, ⟨v, rfl, h⟩, fun xs a e1 => by cases e1⟩
  | sl i =>
    obtain ⟨y, e1, e2⟩ := Option.bind_eq_some_iff.mp e
    cases e2
    have e' : RB.keep env1 (.sl i) = some (frz y, env1.set i (some (.im (frz y)))) := by
      show ((get env1 i).bind _) = _
      rw [e1]; rfl
    obtain ⟨Z2, s2, r2, _, _⟩ := Step.keep E0 a h f e'
    exact ⟨Z2, s2, ⟨v, rfl, r2⟩, fun xs a e1 => by cases e1⟩
theorem get_set {α : Type} {l : List α} {i j : Nat} {x y : α} (h : (l.set i x)[j]? = some y) : (i = j ∧ i < l.length ∧ y = x) ∨ (i ≠ j ∧ l[j]? = some y) := by
  rw [List.getElem?_set] at h
  split at h
  · rename_i hj
    split at h
    · cases h; exact .inl ⟨hj, by assumption, rfl⟩
    · cases h
  · rename_i hj
    exact .inr ⟨hj, h⟩
/-- slot i is given a value -/
theorem EnvR.setV {i : Nat} {v : V} {x : Vl} (E : EnvR K T.FT H Z env σ) (h : SlotR K T H Z (Own env σ) (some x) (some v)) : EnvR K T.FT H Z (env.set i (some x)) (σ.set i (some v)) := by
  have at_ : ∀ {j : Nat}, i = j → i < env.length → (σ.set i (some v))[j]? = some (some v) := fun {j} e hl => by
    subst e
    rw [List.getElem?_set_self (by rw [← E.len]; exact hl)]
  refine ⟨by simp [E.len], fun j d e => ?_, fun j xs e => ?_, fun j k xs ys a e1 e2 q1 q2 => ?_, E.zh⟩
  · rcases get_set e with ⟨hj, hl, q⟩ | ⟨hj, q⟩
    · cases q
      obtain ⟨w, ew, r⟩ := h
      cases ew
      exact ⟨v, at_ hj hl, r⟩
    · rw [List.getElem?_set_ne hj]
      exact E.im j d q
  · rcases get_set e with ⟨hj, hl, q⟩ | ⟨hj, q⟩
    · cases q
      obtain ⟨a, ws, ew, h1, r, n, _⟩ := h
      cases ew
      exact ⟨a, ws, at_ hj hl, h1, r, n⟩
    · rw [List.getElem?_set_ne hj]
      exact E.ow j xs q
  · rcases get_set e1 with ⟨hj, hl, q⟩ | ⟨hj, q⟩
    · cases q
      obtain ⟨b, ws, ew, _, _, _, no⟩ := h
      cases ew
      rw [at_ hj hl] at q1
      cases q1
      rcases get_set e2 with ⟨hk, _, _⟩ | ⟨hk, q⟩
      · exact hj.symm.trans hk
      · rw [List.getElem?_set_ne hk] at q2
        exact (no ⟨k, ys, q, q2⟩).elim
    · rw [List.getElem?_set_ne hj] at q1
      rcases get_set e2 with ⟨hk, hl, q'⟩ | ⟨hk, q'⟩
      · cases q'
        obtain ⟨b, ws, ew, _, _, _, no⟩ := h
        cases ew
        rw [at_ hk hl] at q2
        cases q2
        exact (no ⟨j, xs, q, q1⟩).elim
      · rw [List.getElem?_set_ne hk] at q2
        exact E.inj j k xs ys a q q' q1 q2
theorem SStep.setV {i : Nat} {v : V} {x : Vl} (s : SStep K T loc σ H Z env σ1 H1 Z1 env1) (h : SlotR K T H1 Z1 (Own env1 σ1) (some x) (some v)) (hl : loc i = true) (hn : ∀ xs a, x = .ow xs → v = .ref a → H a = none) :
    SStep K T loc σ H Z env (σ1.set i (some v)) H1 Z1 (env1.set i (some x)) := by
  refine ⟨s.go, s.en.setV h, fun j e => ?_, by rw [List.length_set, s.len], fun j xs a e q => ?_⟩
  · rw [List.getElem?_set_ne (fun z => by subst z; rw [hl] at e; cases e)]
    exact s.kp j e
  · rcases get_set e with ⟨hj, hlt, q'⟩ | ⟨hj, q'⟩
    · subst hj
      cases q'
      rw [List.getElem?_set_self (by rw [← s.en.len]; exact hlt)] at q
      cases q
      exact .inr ⟨hl, hn xs a rfl rfl⟩
    · rw [List.getElem?_set_ne hj] at q
      exact s.ow j xs a q' q
/-- a slot's own list is changed -/
theorem Step.upd {i : Nat} {l : Addr} {vs ws : List V} {xs ys : List RB.D} (E : EnvR K T.FT H Z env σ) (e : env[i]? = some (some (.ow xs))) (q : σ[i]? = some (some (.ref l))) (h : H l = some (.lst vs)) (r : Reps K T.FT H Z ws ys) :
    Step K T σ H Z env (L2.upd H l (.lst ws)) Z (env.set i (some (.ow ys))) := by
  have g : Go (fun p => p = l) H Z (L2.upd H l (.lst ws)) Z :=
    ⟨fun p o e n => by rw [upd_ne n]; exact e, fun p o e => by
      by_cases h : p = l
      · exact ⟨_, by rw [h]; exact upd_same⟩
      · exact ⟨o, by rw [upd_ne h]; exact e⟩, fun _ z => z, fun _ z => .inl z⟩
  have nz : ¬ Z l := by
    obtain ⟨a, _, q', _, _, n⟩ := E.ow i xs e
    rw [q] at q'; cases q'
    exact n
  have hO : ∀ p, p = l → ¬ Z p ∧ ∃ ws, H p = some (.lst ws) := fun p e => by subst e; exact ⟨nz, _, h⟩
  have ow : ∀ (j : Nat) zs, (env.set i (some (.ow ys)))[j]? = some (some (.ow zs)) → ∃ zs', env[j]? = some (some (.ow zs')) := fun j zs e' => by
    rcases get_set e' with ⟨hj, _, _⟩ | ⟨hj, q'⟩
    · subst hj; exact ⟨xs, e⟩
    · exact ⟨zs, q'⟩
  refine ⟨g.mono fun p z => by subst z; exact ⟨i, xs, e, q⟩, ⟨by simp [E.len], fun j d e' => ?_, fun j zs e' => ?_, fun j k xs' ys' a e1 e2 q1 q2 => ?_, fun a z => ?_⟩, ow⟩
  · rcases get_set e' with ⟨_, _, z⟩ | ⟨hj, q'⟩
    · cases z
    · obtain ⟨v, e1, r'⟩ := E.im j d q'
      exact ⟨v, e1, r'.go g hO⟩
  · rcases get_set e' with ⟨hj, _, z⟩ | ⟨hj, q'⟩
    · cases z
      subst hj
      exact ⟨l, ws, q, upd_same, r.go g hO, nz⟩
    · obtain ⟨a, us, e1, h1, r', n⟩ := E.ow j zs q'
      have : a ≠ l := fun z => by
        subst z
        exact hj (E.inj i j xs zs a e q' q e1)
      exact ⟨a, us, e1, by rw [upd_ne this]; exact h1, r'.go g hO, n⟩
  · obtain ⟨_, f1⟩ := ow j xs' e1
    obtain ⟨_, f2⟩ := ow k ys' e2
    exact E.inj j k _ _ a f1 f2 q1 q2
  · obtain ⟨o, e'⟩ := E.zh a z
    exact g.dom a o e'
end

section
variable {X : Cx} {T : Tb} {W W' : WX} {e tg iter : Expr} {es : List Expr} {c : E} {cs : Es} {pos p : Pos} {loc : Nat → Bool} {st : Stmt} {rest : List Stmt}

theorem pss_nilS : PSs X [] (tSs X.K T W loc .nil) := pss_mono pss_nil fun D σ H ⟨env, Z, E, h⟩ => by
  simp only [execs, wp_ok] at h
  exact h σ H Z (.refl E)
theorem seqS {s : S} {ss : Ss} {D : Ends} {σ : L2.St} {H : Hp} (h : tSs X.K T W loc (.cons s ss) D σ H) : tSeq (tS X.K T W loc s) (tSs X.K T W loc ss) D σ H := by
  obtain ⟨env, Z, E, h⟩ := h
  simp only [execs, wp_bind] at h
  refine ⟨env, Z, E, wp_mono h (fun x _ hx => ?_) fun _ _ q => q⟩
  obtain ⟨k, e⟩ := x
  cases k with
  | nx => exact fun σ' H' Z' s => ⟨e, Z', s.en, wpS_from s hx⟩
  | bk => exact hx
  | ct => exact hx
  | rt w => exact hx
theorem pss_consS {s : S} {ss : Ss} (h1 : PS X st (tS X.K T W loc s)) (h2 : PSs X rest (tSs X.K T W loc ss)) : PSs X (st :: rest) (tSs X.K T W loc (.cons s ss)) := pss_mono (pss_cons h1 h2) fun D σ H h => seqS h
theorem ps_passS : PS X (.Pass pos) (tS X.K T W loc .pass) := ps_mono ps_pass fun D σ H ⟨env, Z, E, h⟩ => by
  simp only [exec, wp_ok] at h
  exact h σ H Z (.refl E)
theorem ps_brkS : PS X (.Break pos) (tS X.K T W loc .brk) := ps_mono ps_break fun D σ H ⟨env, Z, E, h⟩ => by
  simp only [exec, wp_ok] at h
  exact h σ H Z (.refl E)
theorem ps_contS : PS X (.Continue pos) (tS X.K T W loc .cont) := ps_mono ps_continue fun D σ H ⟨env, Z, E, h⟩ => by
  simp only [exec, wp_ok] at h
  exact h σ H Z (.refl E)
theorem ps_retnS : PS X (.Return none pos) (tS X.K T W loc .retn) := ps_mono ps_retN fun D σ H ⟨env, Z, E, h⟩ => by
  simp only [exec, wp_ok] at h
  exact h .non σ H Z (.refl E) .non
theorem ps_dropS (he : PE X e (tE X.K T W c)) (hs : swapsWith e none pos.line X.env = pure false) : PS X (.Expr e pos) (tS X.K T W loc (.drop c)) := ps_mono (ps_expr he hs) fun D σ H ⟨env, Z, E, h⟩ => by
  simp only [exec, wp_bind, wp_ok] at h
  exact sE E h fun y hy v H1 Z1 s1 _ _ => hy σ H1 Z1 (.of s1)

theorem retS {D : Ends} {σ : L2.St} {H : Hp} (h : tS X.K T W loc (.ret c) D σ H) : tE X.K T W c σ H D.rt := by
  obtain ⟨env, Z, E, h⟩ := h
  simp only [exec, wp_bind, wp_of, wp_ok] at h
  refine sE E h fun x hx v H1 Z1 s1 d1 f1 => ?_
  obtain ⟨y, e1, q⟩ := hx
  cases hr : x.1 with
  | im d =>
    rw [hr] at e1 d1
    cases e1
    exact q v σ H1 Z1 (.of s1) d1
  | tm xs =>
    rw [hr] at e1 d1 f1
    cases e1
    obtain ⟨a, vs, rfl, h1, r, n, no⟩ := d1
    exact q _ σ H1 Z1 (.of s1) ⟨a, vs, rfl, h1, r, n, .inr (f1 a rfl)⟩
  | sl i =>
    rw [hr] at e1 d1 f1
    obtain ⟨u, e2, e3⟩ := Option.bind_eq_some_iff.mp e1
    have g := get_ok e2
    split at e3
    · rename_i hl
      cases e3
      have s2 : SStep X.K T loc σ H Z env σ H1 Z1 (x.2.set i none) := by
        refine ⟨s1.go, s1.en.less, fun _ _ => rfl, rfl, fun j xs a e q => ?_⟩
        obtain ⟨ys, e'⟩ := s1.ownI j xs (ow_less e)
        exact .inl ⟨ys, e', q⟩
      refine q v σ H1 Z1 s2 ?_
      cases u with
      | im d =>
        obtain ⟨w, q1, r⟩ := s1.en.im i d g
        have d1 : σ[i]? = some (some v) := d1
        rw [q1] at d1; cases d1
        exact r
      | ow xs =>
        obtain ⟨a, vs, q1, h1, r, n⟩ := s1.en.ow i xs g
        have d1 : σ[i]? = some (some v) := d1
        rw [q1] at d1; cases d1
        obtain ⟨ys, e'⟩ := s1.ownI i xs g
        exact ⟨a, vs, rfl, h1, r, n, .inl ⟨i, ys, hl, e', q1⟩⟩
    · cases e3
      have e' : RB.keep x.2 (.sl i) = some (frz u, x.2.set i (some (.im (frz u)))) := by
        show ((get x.2 i).bind _) = _
        rw [e2]; rfl
      obtain ⟨Z2, s2, r2, _, _⟩ := Step.keep E s1 d1 f1 e'
      exact q v σ H1 Z2 (.of s2) r2
theorem ps_retS (he : PE X e (tE X.K T W c)) : PS X (.Return (some e) pos) (tS X.K T W loc (.ret c)) := ps_mono (ps_ret he) fun D σ H h => retS h

theorem ifS {cc : E} {a b : Ss} {D : Ends} {σ : L2.St} {H : Hp} (h : tS X.K T W loc (.iff cc a b) D σ H) : tIfS (tT X.K T W cc) (tSs X.K T W loc a) (tSs X.K T W loc b) D σ H := by
  obtain ⟨env, Z, E, h⟩ := h
  have h : (evT T.F cc env).Wp (fun t => (if t.1 = true then execs T.F loc a t.2 else execs T.F loc b t.2).Wp (PostS X.K T loc σ H Z env D) (ExS X.K T W H Z (Own env σ))) (ExS X.K T W H Z (Own env σ)) := by
    simp only [evT, exec, wp_bind, wp_of, wp_ok] at h ⊢
    exact h
  refine tT_bind E (wp_mono h (fun _ _ q => q) fun _ _ q => q.exP) fun y hy H1 Z1 s1 => ?_
  split at hy
  · rename_i hk
    rw [if_pos hk]
    exact ⟨y.2, Z1, s1.en, wpS_from (.of s1) hy⟩
  · rename_i hk
    rw [if_neg hk]
    exact ⟨y.2, Z1, s1.en, wpS_from (.of s1) hy⟩
theorem ps_ifS {cc : E} {ce : Expr} {a b : Ss} {sa sb : List Stmt} (hc : PT X ce (tT X.K T W cc)) (ha : PSs X sa (tSs X.K T W loc a)) (hb : PSs X sb (tSs X.K T W loc b)) : PS X (.If ce sa sb pos) (tS X.K T W loc (.iff cc a b)) :=
  ps_mono (ps_if hc ha hb) fun D σ H h => ifS h

theorem setS {i : Nat} {D : Ends} {σ : L2.St} {H : Hp} (hl : loc i = true) (h : tS X.K T W loc (.set i c) D σ H) : tE X.K T W c σ H fun v H1 => D.nx (σ.set i (some v)) H1 := by
  obtain ⟨env, Z, E, h⟩ := h
  simp only [exec, wp_bind, wp_of, wp_ok] at h
  refine sE E h fun x hx v H1 Z1 s1 d1 f1 => ?_
  obtain ⟨y, e1, q⟩ := hx
  obtain ⟨Z2, s2, r2, n2⟩ := Step.settle E s1 d1 f1 e1
  exact q _ H1 Z2 (SStep.setV (.of s2) r2 hl n2)
theorem ps_setS {i : Nat} {x : Str} {pos' : Pos} (hl : loc i = true) (hN : X.N.Nodup) (hi : X.N[i]? = some x) (hx : Loc X.env.scope x) (he : PE X e (tE X.K T W c)) (hs : swapsWith e (some (.Name x pos')) pos.line X.env = pure false) (hf : X.fn x = true ∨ X.env.scope.names.lookup x = some .local) :
    PS X (.Assign [.Name x pos'] e pos) (tS X.K T W loc (.set i c)) := ps_mono (ps_set hN hi hx he hs hf) fun D σ H h => setS hl h
theorem ps_setLcS {i : Nat} {y : Str} {py : Pos} {elt : Expr} {ifs : List Expr} {scope : Scope} {own : List (Str × Nat)} {pos spos : Pos} {ct : Tg} {ci : Iter} {cc : Oe} {ce : E} (hl : loc i = true) (hc : X.calm = true) (hN : X.N.Nodup) (hy : X.N[i]? = some y) (hyl : X.env.scope.names.lookup y = some .local)
    (hsw : swapsWith (.ListComp elt [⟨tg, iter, ifs, 0⟩] scope pos) (some (.Name y py)) spos.line X.env = pure true) (hi : PI X tg iter (tI X.K T W ci)) (ok : BlkOk X.N X.env.scope scope own)
    (hg : ∀ (s : Shared) (H : Hp) (C : Addr) (cl : List (Str × Addr)) (fp : List Addr), PG (X.blk s H scope (compEnvC scope cl C X.env) fp) tg (gE X.K T ct)) (ht : ∀ (s : Shared) (H : Hp) (C : Addr) (cl : List (Str × Addr)) (fp : List Addr), PTs (X.blk s H scope (compEnvC scope cl C X.env) fp) ifs (tC X.K T W' cc))
    (he : ∀ (s : Shared) (H : Hp) (C : Addr) (cl : List (Str × Addr)) (fp : List Addr), PE (X.blk s H scope (compEnvC scope cl C X.env) fp) elt (tE X.K T W' ce)) (hs : ∀ x, foldedSetIterable iter X.env x = pure x) (hsub : ∀ i ∈ ct.sl, i ∈ own.map (·.2)) :
    PS X (.Assign [.Name y py] (.ListComp elt [⟨tg, iter, ifs, 0⟩] scope pos) spos) (tS X.K T W loc (.set i (.comp (own.map (·.2)) ct ci cc ce))) :=
  ps_mono (ps_setLc hc hN hy hyl hsw hi ok hg ht he hs) fun D σ H h => lc_of hc hN hi ok hg ht he hs hsub σ H _ (setS hl h)

theorem ps_asgS {ct : Tg} (hl : ∀ i ∈ ct.sl, loc i = true) (he : PE X e (tE X.K T W c)) (hg : PG X tg (gE X.K T ct)) (hs : swapsWithSole [tg] e pos.line X.env = pure false) (hw : swappedStores [tg] e X.env = pure none)
    (h1 : (assignEach [tg] X.env).map (·.2) = [assign tg X.env]) : PS X (.Assign [tg] e pos) (tS X.K T W loc (.asg ct c)) := ps_mono (ps_asg he hg hs hw h1) fun D σ H ⟨env, Z, E, h⟩ => by
  simp only [exec, wp_bind, wp_of, wp_ok] at h
  refine sE E h fun x hx v H1 Z1 s1 d1 f1 => ?_
  obtain ⟨y, e1, env', e2, q⟩ := hx
  obtain ⟨Z2, s2, r2, _, _⟩ := Step.keep E s1 d1 f1 e1
  exact ⟨y.2, Z2, y.1, env', s2.en, r2, e2, fun σ' E' S' => q σ' H1 Z2 ((SStep.of s2).trans (.set E' S' hl))⟩

end
end RB

set_option linter.all false
set_option maxHeartbeats 1000000
namespace RB
open PySem L2 PySem.Spec PyProof.Rows
open PySem.W (Frag)

section
variable {X : Cx} {T : Tb} {W W' : WX} {e tg iter : Expr} {es : List Expr} {c : E} {cs : Es} {pos p : Pos} {loc : Nat → Bool} {st : Stmt} {rest : List Stmt}

def rAug (K : Frag) (FT : Nat → Option Addr) (op : BOp) : R2 := fun x y H Q => ∃ Z u db r, (∃ da, u = Vl.im da ∧ Rep K FT H Z x da) ∧ Rep K FT H Z y db ∧ augV op u db = some r ∧ ∀ v, Rep K FT H Z v r → Q v H
theorem op_aug {FT : Nat → Option Addr} (op : BOp) : OpR X (inplaceOp (bop op)) (rAug X.K FT op) := by
  intro pins s σ H x y v u Q I rx ry ⟨Z, a, db, r, ⟨da, ea, px⟩, py, e, q⟩
  subst ea
  cases da <;> cases db <;> first | (simp only [augV] at e; cases e; done) | skip
  · cases px
    cases py
    cases op <;> simp only [augV] at e <;> first | (cases e; done) | skip
    · cases e; exact iop_add pins s σ H _ _ v u Q I rx ry ⟨_, _, rfl, rfl, q _ (.int _)⟩
    · cases e; exact iop_sub pins s σ H _ _ v u Q I rx ry ⟨_, _, rfl, rfl, q _ (.int _)⟩
    · split at e
      · rename_i hc
        cases e; exact iop_mul pins s σ H _ _ v u Q I rx ry ⟨_, _, rfl, rfl, hc, q _ (.int _)⟩
      · cases e
    · split at e
      · rename_i hc
        cases e; exact iop_fdiv pins s σ H _ _ v u Q I rx ry ⟨_, _, rfl, rfl, hc, q _ (.int _)⟩
      · cases e
    · split at e
      · rename_i hc
        cases e; exact iop_mod pins s σ H _ _ v u Q I rx ry ⟨_, _, rfl, rfl, hc, q _ (.int _)⟩
      · cases e
  · cases px
    cases py
    cases op <;> simp only [augV] at e <;> first | (cases e; done) | skip
    split at e
    · rename_i hc
      cases e; exact iop_add_str pins s σ H _ _ v u Q I rx ry ⟨_, _, rfl, rfl, lim_line hc, q _ (.str _)⟩
    · cases e
theorem ps_augS' {i : Nat} {op : BOp} {x : Str} {pos' : Pos} (hl : loc i = true) (hN : X.N.Nodup) (hi : X.N[i]? = some x) (hx : Loc X.env.scope x) (he : PE X e (tE X.K T W c)) (hf : X.fn x = true ∨ X.env.scope.names.lookup x = some .local) :
    PS X (.AugAssign (.Name x pos') (bop op) e pos) (tS X.K T W loc (.augv i op c)) := by
  refine ps_mono (ps_aug hN hi hx he (ti := rAug X.K T.FT op) (fun pins s σ H x y v u Q I rx ry h => op_aug op pins s σ H x y v u Q I rx ry h) hf) fun D σ H ⟨env, Z, E, h⟩ => ?_
  simp only [exec, wp_bind, wp_of, wp_ok] at h
  obtain ⟨a, ea, h⟩ := h
  have g := get_ok ea
  cases a with
  | ow xs =>
    obtain ⟨p, vs, q, _⟩ := E.ow i xs g
    refine ⟨_, q, sE E h fun x hx v H1 Z1 s1 d1 f1 => ?_⟩
    obtain ⟨y, e1, r, e2, q⟩ := hx
    simp only [augV] at e2
    cases e2
  | im d =>
    obtain ⟨v0, q0, r0⟩ := E.im i d g
    refine ⟨v0, q0, sE E h fun x hx v H1 Z1 s1 d1 f1 => ?_⟩
    obtain ⟨y, e1, r, e2, q⟩ := hx
    obtain ⟨Z2, s2, r2, _, _⟩ := Step.keep E s1 d1 f1 e1
    exact ⟨Z2, _, y.1, r, ⟨d, rfl, Rep.goE E s2.go r0⟩, r2, e2, fun w rw => q _ H1 Z2 (SStep.setV (.of s2) ⟨w, rfl, rw⟩ hl fun xs a z => by cases z)⟩

def tV (K : Frag) (T : Tb) (W : WX) (loc : Nat → Bool) (cs : Es) (P : List Vl × Env → L2.St → Hp → (Addr → Prop) → Env → Prop) : L2.St → Hp → Prop := fun _ _ => True
/-- stored, from the left -/
def tSt (K : Frag) (T : Tb) (W : WX) (cs : Es) : TA := fun σ H Q => ∃ env Z, EnvR K T.FT H Z env σ ∧
  (evS T.F cs env).Wp (fun x => ∀ vs H' Z', Step K T σ H Z env H' Z' x.2 → EnvR K T.FT H' Z' (som x.1) (som vs) → (∀ a, Own (som x.1) (som vs) a → ¬ Own x.2 σ a ∧ H a = none) → Q vs H') (ExP K T W σ H Z (Own env σ))
theorem pa_nilS : PA X [] (tSt X.K T W .nil) := pa_mono pa_nil fun σ H Q ⟨env, Z, E, h⟩ => by
  simp only [evS, wp_ok] at h
  exact h [] H Z (.refl E) (.nil E.zh) fun a o => (own_nil o).elim
theorem pa_consS (ha : PE X e (tE X.K T W c)) (hr : PA X es (tSt X.K T W cs)) (hs : starEach (e :: es) X.env = (false, eval e X.env) :: starEach es X.env) : PA X (e :: es) (tSt X.K T W (.cons c cs)) := by
  refine pa_mono (pa_cons ha hr hs) fun σ H Q ⟨env, Z, E, h⟩ => ?_
  simp only [evS, wp_bind, wp_of, wp_ok] at h
  refine tR_bind E h fun x hx v1 H1 Z1 s1 d1 f1 => ?_
  obtain ⟨y, e1, hx⟩ := hx
  obtain ⟨Z2, s2, r2, n2⟩ := Step.settle E s1 d1 f1 e1
  refine ⟨y.2, Z2, s2.en, wp_mono hx (fun z _ hz vs H3 Z3 s3 E3 o3 => ?_) fun _ _ e => e.step s2⟩
  have r3 := r2.step s2.en s3
  refine hz (v1 :: vs) H3 Z3 (s2.trans s3) (E3.cons ?_) fun a o => ?_
  · cases hy : y.1 with
    | im d => rw [hy] at r3; exact r3
    | ow xs =>
      rw [hy] at r3 r2
      obtain ⟨q, ws, e, h1, r, n, no⟩ := r3
      obtain ⟨q', ws', e', h1', r', n', no'⟩ := r2
      rw [e] at e'; cases e'
      refine ⟨q, ws, e, h1, r, n, fun o => ?_⟩
      have := (o3 q o).2
      rw [h1'] at this; cases this
  · rcases own_cons o with ⟨xs, ex, ea⟩ | o
    · have ex : y.1 = .ow xs := by simpa using ex
      have ea : v1 = .ref a := by simpa using ea
      rw [ex] at r3
      obtain ⟨q, ws, e, h1, r, n, no⟩ := r3
      rw [ea] at e; cases e
      exact ⟨no, n2 xs a ex ea⟩
    · obtain ⟨n, q⟩ := o3 a o
      exact ⟨n, s2.go.free q⟩
theorem own_setV {K : Frag} {T : Tb} {H : Hp} {Z : Addr → Prop} {env : Env} {σ : L2.St} (E : EnvR K T.FT H Z env σ) {i : Nat} {x : Vl} {v : V} {a : Addr} (h : Own (env.set i (some x)) (σ.set i (some v)) a) : Own env σ a ∨ ∃ xs, x = .ow xs ∧ v = .ref a := by
  obtain ⟨j, xs, e, q⟩ := h
  rcases get_set e with ⟨hj, hl, z⟩ | ⟨hj, z⟩
  · subst hj
    rw [List.getElem?_set_self (by rw [← E.len]; exact hl)] at q
    cases q
    cases z
    exact .inr ⟨xs, rfl, rfl⟩
  · rw [List.getElem?_set_ne hj] at q
    exact .inl ⟨j, xs, z, q⟩
/-- several slots are given values -/
def setSt (σ : L2.St) : List Nat → List V → L2.St
  | i :: is, v :: vs => setSt (σ.set i (some v)) is vs
  | _, _ => σ
theorem SStep.setAll {K : Frag} {T : Tb} {σ : L2.St} {H H1 : Hp} {Z Z1 : Addr → Prop} {env : Env} : ∀ {is : List Nat} {xs : List Vl} {vs : List V} {σ1 : L2.St} {env1 env2 : Env}, SStep K T loc σ H Z env σ1 H1 Z1 env1 → EnvR K T.FT H1 Z1 (som xs) (som vs) →
    (∀ a, Own (som xs) (som vs) a → ¬ Own env1 σ1 a ∧ H a = none) → (∀ i ∈ is, loc i = true) → RB.setAll env1 is xs = some env2 → SStep K T loc σ H Z env (setSt σ1 is vs) H1 Z1 env2 ∧ is.length = vs.length
  | [], [], [], _, _, _, s, _, _, _, e => by cases e; exact ⟨s, rfl⟩
  | [], [], _ :: _, _, _, _, _, E, _, _, _ => by have := E.len; simp at this
  | [], _ :: _, _, _, _, _, _, _, _, _, e => by cases e
  | _ :: _, [], _, _, _, _, _, _, _, _, e => by cases e
  | _ :: _, _ :: _, [], _, _, _, _, E, _, _, _ => by have := E.len; simp at this
  | i :: is, x :: xs, v :: vs, σ1, env1, env2, s, E, o, hl, e => by
    have e : RB.setAll (env1.set i (some x)) is xs = some env2 := e
    have h0 := E.head
    have o0 : ∀ zs a, x = .ow zs → v = .ref a → ¬ Own env1 σ1 a ∧ H a = none := fun zs a h1 h2 => by subst h1; subst h2; exact o a own_head
    have hs : SlotR K T H1 Z1 (Own env1 σ1) (some x) (some v) := by
      cases x with
      | im d => exact h0
      | ow zs =>
        obtain ⟨a, ws, e1, h1, r, n, _⟩ := h0
        cases e1
        exact ⟨a, ws, rfl, h1, r, n, (o0 zs a rfl rfl).1⟩
    have s1 := SStep.setV (i := i) (x := x) s hs (hl i List.mem_cons_self) fun zs a h1 h2 => (o0 zs a h1 h2).2
    have key : ∀ a, Own (som xs) (som vs) a → ¬ Own (env1.set i (some x)) (σ1.set i (some v)) a ∧ H a = none := fun a h => by
      refine ⟨fun h' => ?_, (o a (own_tail h)).2⟩
      rcases own_setV s.en h' with h' | ⟨zs, h1, h2⟩
      · exact (o a (own_tail h)).1 h'
      · subst h1
        obtain ⟨a', _, e1, _, _, _, no⟩ := h0
        rw [h2] at e1; cases e1
        exact no h
    obtain ⟨a, b⟩ := SStep.setAll (is := is) (xs := xs) (vs := vs) s1 E.tail key (fun j hj => hl j (List.mem_cons_of_mem _ hj)) e
    exact ⟨a, by simp [b]⟩
theorem parS {is : List Nat} {D : Ends} {σ : L2.St} {H : Hp} (hl : ∀ i ∈ is, loc i = true) (h : tS X.K T W loc (.par is cs) D σ H) : tSt X.K T W cs σ H fun vs H1 => is.length = vs.length ∧ D.nx (setSt σ is vs) H1 := by
  obtain ⟨env, Z, E, h⟩ := h
  simp only [exec, wp_bind, wp_of, wp_ok] at h
  refine ⟨env, Z, E, wp_mono h (fun x _ hx vs H1 Z1 s1 E1 o1 => ?_) fun _ _ q => q.exP⟩
  obtain ⟨env', e, q⟩ := hx
  obtain ⟨a, b⟩ := SStep.setAll (.of s1) E1 o1 hl e
  exact ⟨b, q _ H1 Z1 a⟩
theorem ps_par2S {i j : Nat} {x y : Str} {a b : Expr} {px py pt : Pos} {kt k2 pt2} (hl : ∀ k ∈ [i, j], loc k = true) (hc : X.calm = true) (hN : X.N.Nodup) (hi : X.N[i]? = some x) (hj : X.N[j]? = some y) (hij : i ≠ j)
    (hx : X.env.scope.names.lookup x = some .local) (hy : X.env.scope.names.lookup y = some .local) (ha : PA X [a, b] (tSt X.K T W cs))
    (hw : swappedStores [.Tuple [.Name x px, .Name y py] kt pt] (.Tuple [a, b] k2 pt2) X.env = pure (some [x, y])) :
    PS X (.Assign [.Tuple [.Name x px, .Name y py] kt pt] (.Tuple [a, b] k2 pt2) pos) (tS X.K T W loc (.par [i, j] cs)) :=
  ps_mono (ps_par hc hN hi hj hij hx hy ha hw) fun D σ H h => by
    obtain ⟨env, Z, E, h⟩ := parS hl h
    refine ⟨env, Z, E, wp_mono h (fun x _ hx vs H1 Z1 s1 E1 o1 => ?_) fun _ _ q => q⟩
    obtain ⟨l, q⟩ := hx vs H1 Z1 s1 E1 o1
    match vs, l with
    | [v, w], _ => exact ⟨v, w, rfl, q⟩
theorem ps_par3S {i j l : Nat} {x y z : Str} {a b c : Expr} {px py pz pt : Pos} {kt k2 pt2} (hlo : ∀ k ∈ [i, j, l], loc k = true) (hc : X.calm = true) (hN : X.N.Nodup) (hi : X.N[i]? = some x) (hj : X.N[j]? = some y) (hl : X.N[l]? = some z) (hij : i ≠ j) (hil : i ≠ l) (hjl : j ≠ l)
    (hx : X.env.scope.names.lookup x = some .local) (hy : X.env.scope.names.lookup y = some .local) (hz : X.env.scope.names.lookup z = some .local) (ha : PA X [a, b, c] (tSt X.K T W cs))
    (hw : swappedStores [.Tuple [.Name x px, .Name y py, .Name z pz] kt pt] (.Tuple [a, b, c] k2 pt2) X.env = pure (some [x, y, z])) :
    PS X (.Assign [.Tuple [.Name x px, .Name y py, .Name z pz] kt pt] (.Tuple [a, b, c] k2 pt2) pos) (tS X.K T W loc (.par [i, j, l] cs)) :=
  ps_mono (ps_par3 hc hN hi hj hl hij hil hjl hx hy hz ha hw) fun D σ H h => by
    obtain ⟨env, Z, E, h⟩ := parS hlo h
    refine ⟨env, Z, E, wp_mono h (fun x _ hx vs H1 Z1 s1 E1 o1 => ?_) fun _ _ q => q⟩
    obtain ⟨l, q⟩ := hx vs H1 Z1 s1 E1 o1
    match vs, l with
    | [u, v, w], _ => exact ⟨u, v, w, rfl, q⟩

theorem getOw_ok {env : Env} {i : Nat} {xs : List D} (e : getOw env i = some xs) : env[i]? = some (some (.ow xs)) := by
  obtain ⟨v, e1, e2⟩ := Option.bind_eq_some_iff.mp e
  cases v with
  | im d => cases e2
  | ow ys => cases e2; exact get_ok e1
theorem ps_appS {i : Nat} {x : Str} {xp ap : Pos} {s1 : Pos} (hN : X.N[i]? = some x) (hv : Vis X.env.scope x) (hd : (x == ("__debug__" : Str)) = false) (hcd : (x == ("__classdict__" : Str)) = false) (he : PE X e (tE X.K T W c))
    (hb : attributeBase (.Name x xp) "append" X.env (eval (.Name x xp) X.env) = eval (.Name x xp) X.env)
    (hfew : ((backTo s1 (starEach [e] X.env)).all (fun x => !x.1) && (backToKw s1 (keywordEach [] X.env)).all (fun x => x.1.isSome) && decide (([e] : List Expr).length + ([] : List Keyword).length + (if ([] : List Keyword).isEmpty then 0 else 1) < 30)) = true)
    (hline : (ap.endLine == s1.line) = true) (hs : starEach [e] X.env = (false, eval e X.env) :: starEach [] X.env) (hplain : (backTo s1 (starEach [] X.env)).any (·.1) = false) :
    PS X (.Expr (.Call (.Attribute (.Name x xp) "append" ap) [e] [] s1) pos) (tS X.K T W loc (.app i c)) := by
  refine ps_mono (ps_expr (pe_bm PySem.F.plainAttrs_list PySem.F.slot_list_append PySem.F.type_list_append mt_append (pe_var (pos := xp) hN hv hd hcd) (pa_cons he pa_nil hs) hb hfew hline hs hplain) rfl) fun D σ H ⟨env, Z, E, h⟩ => ?_
  simp only [exec, wp_bind, wp_of, wp_ok] at h
  obtain ⟨xs0, e0, h⟩ := h
  obtain ⟨l, vs0, q0, h0, _⟩ := E.ow i xs0 (getOw_ok e0)
  refine ⟨_, q0, .inl ⟨rfl, vs0, .of h0⟩, sE E h fun x hx v H1 Z1 s1 d1 f1 => ?_⟩
  obtain ⟨y, e1, xs, e2, q⟩ := hx
  obtain ⟨Z2, s2, r2, _, _⟩ := Step.keep E s1 d1 f1 e1
  obtain ⟨l', vs, q1, h1, r, n⟩ := s2.en.ow i xs (getOw_ok e2)
  rw [q0] at q1; cases q1
  split at q
  · rename_i hz
    refine ⟨l, vs, v, rfl, rfl, h1, ?_, ?_⟩
    · have := lim_line (n := xs.length + 1) (by omega)
      rw [r.length]; omega
    · exact q σ _ Z2 (.of (s2.trans (Step.upd s2.en (getOw_ok e2) q0 h1 (r.append (.one r2)))))
  · exact q.elim
theorem ps_extS {i : Nat} {x : Str} {xp ap : Pos} {s1 : Pos} (hN : X.N[i]? = some x) (hv : Vis X.env.scope x) (hd : (x == ("__debug__" : Str)) = false) (hcd : (x == ("__classdict__" : Str)) = false) (he : PE X e (tE X.K T W c))
    (hb : attributeBase (.Name x xp) "extend" X.env (eval (.Name x xp) X.env) = eval (.Name x xp) X.env)
    (hfew : ((backTo s1 (starEach [e] X.env)).all (fun x => !x.1) && (backToKw s1 (keywordEach [] X.env)).all (fun x => x.1.isSome) && decide (([e] : List Expr).length + ([] : List Keyword).length + (if ([] : List Keyword).isEmpty then 0 else 1) < 30)) = true)
    (hline : (ap.endLine == s1.line) = true) (hs : starEach [e] X.env = (false, eval e X.env) :: starEach [] X.env) (hplain : (backTo s1 (starEach [] X.env)).any (·.1) = false) :
    PS X (.Expr (.Call (.Attribute (.Name x xp) "extend" ap) [e] [] s1) pos) (tS X.K T W loc (.ext i c)) := by
  refine ps_mono (ps_expr (pe_bm PySem.F.plainAttrs_list PySem.F.slot_list_extend PySem.F.type_list_extend mt_extend (pe_var (pos := xp) hN hv hd hcd) (pa_cons he pa_nil hs) hb hfew hline hs hplain) rfl) fun D σ H ⟨env, Z, E, h⟩ => ?_
  simp only [exec, wp_bind, wp_of, wp_ok] at h
  obtain ⟨xs0, e0, h⟩ := h
  obtain ⟨l, vs0, q0, h0, _⟩ := E.ow i xs0 (getOw_ok e0)
  refine ⟨_, q0, .inl ⟨rfl, vs0, .of h0⟩, sE E h fun x hx v H1 Z1 s1 d1 f1 => ?_⟩
  obtain ⟨d, e1, xs, e2, q⟩ := hx
  have pk := d1.peek s1.en e1
  obtain ⟨l', vs, q1, h1, r, n⟩ := s1.en.ow i xs (getOw_ok e2)
  rw [q0] at q1; cases q1
  cases d with
  | lst ys =>
    simp only at q
    split at q
    · rename_i hz
      obtain ⟨b, ws, rfl, h2, r2⟩ := pk.lst
      refine ⟨l, b, vs, ws, rfl, rfl, h1, h2, ?_, ?_⟩
      · have := lim_line hz
        rw [r.length, r2.length]; omega
      · exact q σ _ Z1 (.of (s1.trans (Step.upd s1.en (getOw_ok e2) q0 h1 (r.append r2))))
    · exact q.elim
  | _ => exact q.elim
theorem ixN_len {α β : Type} {xs : List α} {ys : List β} (h : xs.length = ys.length) (k : Int) : ixN xs.length k = ixN ys.length k := by rw [h]
theorem ps_setixS {i : Nat} {a : E} {ae : Expr} {x : Str} {xp p : Pos} (hN : X.N[i]? = some x) (hv : Vis X.env.scope x) (hd : (x == ("__debug__" : Str)) = false) (hcd : (x == ("__classdict__" : Str)) = false) (he : PE X e (tE X.K T W c)) (hi : PE X ae (tE X.K T W a))
    (ha : ∀ v, assign (.Subscript (.Name x xp) ae p) X.env v = (do
      let ov ← holding [v] (eval (.Name x xp) X.env)
      let iv ← holding [v, ov] (eval ae X.env)
      standAt p
      holding [v, ov, iv] (setItem ov iv v)
      release [v, ov, iv] [])) (hs : swapsWithSole [.Subscript (.Name x xp) ae p] e pos.line X.env = pure false) (hw : swappedStores [.Subscript (.Name x xp) ae p] e X.env = pure none) :
    PS X (.Assign [.Subscript (.Name x xp) ae p] e pos) (tS X.K T W loc (.setix i a c)) := by
  refine ps_mono (ps_asg he (pg_sub (pe_var (pos := xp) hN hv hd hcd) hi set_list ha) hs hw) fun D σ H ⟨env, Z, E, h⟩ => ?_
  simp only [exec, wp_bind, wp_of, wp_ok] at h
  refine sE E h fun x hx v H1 Z1 s1 d1 f1 => ?_
  obtain ⟨y, e1, xs1, e2, hx⟩ := hx
  obtain ⟨Z2, s2, r2, _, _⟩ := Step.keep E s1 d1 f1 e1
  obtain ⟨l, vs1, q1, h1, _⟩ := s2.en.ow i xs1 (getOw_ok e2)
  refine ⟨_, q1, ?_⟩
  refine sE1 (loc := loc) (.of s2) hx fun z hz iv H3 Z3 s3 d3 f3 => ?_
  obtain ⟨d, e3, k, e4, xs, e5, ys, e6, q⟩ := hz
  have pk := d3.peek s3.en e3
  cases d <;> cases e4
  cases pk.int
  obtain ⟨l', vs, q2, h2, r, n⟩ := s3.en.ow i xs (getOw_ok e5)
  rw [q1] at q2; cases q2
  obtain ⟨j, e7, e8⟩ := Option.bind_eq_some_iff.mp e6
  cases e8
  refine ⟨l, vs, k, j, rfl, rfl, h2, by rw [r.length]; exact e7, ?_⟩
  exact q σ _ Z3 (.of ((s2.trans s3).trans (Step.upd s3.en (getOw_ok e5) q1 h2 (r.set (Rep.goE s2.en s3.go r2) j))))

theorem evTw {F : Fns} {cc : E} {env : Env} : ((ev F cc env).bind fun t => (R.of (peek t.2 t.1)).bind fun td => (R.of (truth td)).bind fun q => R.ok (q, t.2)) = evT F cc env := rfl
theorem ps_whileS {cc : E} {ce : Expr} {b : Ss} {sb : List Stmt} (hp : PassesOwn (model X.prog X.w) X.A X.env X.xe) (hc : PT X ce (tT X.K T W cc)) (hb : PSs X sb (tSs X.K T W loc b)) : PS X (.While ce sb [] pos) (tS X.K T W loc (.whl cc b)) := by
  refine ps_mono (ps_while hp hc hb) fun D σ H ⟨env, Z, E, h⟩ => ?_
  simp only [exec, whl] at h
  split at h
  · rename_i hn
    generalize hn.choose = n at h
    refine ⟨fun m σ' H' => ∃ env' Z', SStep X.K T loc σ H Z env σ' H' Z' env' ∧ (whlN (evT T.F cc) (fun env => execs T.F loc b env) m env').Wp (PostS X.K T loc σ H Z env D) (ExS X.K T W H Z (Own env σ)), ⟨n, env, Z, .refl E, h⟩, ?_⟩
    rintro m σ1 H1 ⟨env1, Z1, s1, h1⟩
    cases m with
    | zero => exact h1.elim
    | succ m =>
      simp only [whlN, wp_bind] at h1
      refine ⟨env1, Z1, s1.en, wp_mono h1 (fun t _ ht H2 Z2 s2 => ?_) fun _ _ q => (q.from s1).exP⟩
      have s12 := s1.trans (SStep.of s2)
      change (if t.1 = true then _ else _)
      split at ht
      · rename_i hk
        rw [if_pos hk]
        simp only [wp_bind] at ht
        refine ⟨_, fun σ' H' h => h, t.2, Z2, s2.en, wp_mono ht (fun r _ hr => ?_) fun _ _ q => q.from s12⟩
        obtain ⟨k, e'⟩ := r
        cases k with
        | nx => exact fun σ' H' Z' s => ⟨m, Nat.lt_succ_self m, e', Z', s12.trans s, hr⟩
        | ct => exact fun σ' H' Z' s => ⟨m, Nat.lt_succ_self m, e', Z', s12.trans s, hr⟩
        | bk => exact fun σ' H' Z' s => hr σ' H' Z' (s12.trans s)
        | rt w => exact fun v σ' H' Z' s q => hr v σ' H' Z' (s12.trans s) (q.from s12)
      · rename_i hk
        rw [if_neg hk]
        exact ht σ1 H2 Z2 s12
  · exact h.elim
theorem ps_forS {ct : Tg} {ci : Iter} {b : Ss} {sb : List Stmt} (hl : ∀ i ∈ ct.sl, loc i = true) (hp : PassesOwn (model X.prog X.w) X.A X.env X.xe) (hc : X.calm = true) (hi : PI X tg iter (tI X.K T W ci)) (hg : PG X tg (gE X.K T ct)) (hb : PSs X sb (tSs X.K T W loc b))
    (hs : ∀ x, foldedSetIterable iter X.env x = pure x) : PS X (.For tg iter sb [] pos) (tS X.K T W loc (.forr ct ci b)) := by
  refine ps_mono (ps_for hp hc hi hg hb hs) fun D σ H ⟨env, Z, E, h⟩ => ?_
  simp only [exec, wp_bind] at h
  refine ⟨env, Z, E, wp_mono h (fun x _ hx J H1 Z1 s1 y => ?_) fun _ _ q => q.exP⟩
  have hx := wpS_from (SStep.of s1) hx
  refine ⟨fun i m σ' H' => m = x.1.length - i ∧ i ≤ x.1.length ∧ ∃ env' Z', SStep X.K T loc σ H1 Z1 x.2 σ' H' Z' env' ∧
    (forL (fun d env => (R.of (asgT env ct d)).bind fun env1 => execs T.F loc b env1) (x.1.drop i) env').Wp (PostS X.K T loc σ H1 Z1 x.2 D) (ExS X.K T W H1 Z1 (Own x.2 σ)), ⟨_, rfl, Nat.zero_le _, x.2, Z1, .refl s1.en, hx⟩, ?_⟩
  rintro i m σ' H' ⟨rfl, hi, env', Z', s2, h2⟩
  have lat : Later H1 Z1 H' Z' := Later.go s2.go fun p o => .inr (s1.en.own p o)
  by_cases hlt : i < x.1.length
  case neg =>
    have ei : i = x.1.length := by omega
    subst ei
    rw [List.drop_length] at h2
    exact .inl ⟨y.stop H' Z' lat, h2 σ' H' Z' s2⟩
  case pos =>
    rw [List.drop_eq_getElem_cons hlt] at h2
    simp only [forL, wp_bind, wp_of] at h2
    obtain ⟨env2, e2, h2⟩ := h2
    obtain ⟨go, yld⟩ := y.go H' Z' lat i x.1[i] (by simp [hlt])
    refine .inr ⟨go, _, fun σ'' H'' h => h, fun xv H2 hy => ?_⟩
    obtain ⟨g2, r2⟩ := yld xv H2 hy
    have s3 := s2.trans (SStep.of (Step.grow s2.en g2))
    refine ⟨env', Z', _, env2, s3.en, r2, e2, fun σ3 E3 S3 => ?_⟩
    have s4 := s3.trans (SStep.set E3 S3 hl)
    refine ⟨env2, Z', E3, wp_mono h2 (fun r _ hr => ?_) fun _ _ q => q.from s4⟩
    obtain ⟨k, e'⟩ := r
    cases k with
    | nx => exact fun σ' H' Z' s => ⟨x.1.length - (i + 1), by omega, rfl, by omega, e', Z', s4.trans s, hr⟩
    | ct => exact fun σ' H' Z' s => ⟨x.1.length - (i + 1), by omega, rfl, by omega, e', Z', s4.trans s, hr⟩
    | bk => exact fun σ' H' Z' s => hr σ' H' Z' (s4.trans s)
    | rt w => exact fun v σ' H' Z' s q => hr v σ' H' Z' (s4.trans s) (q.from s4)

/-- where no error of the class is told of, none is raised -/
theorem ps_raiseN {k : Nat} {cs : Es} (hn : ∀ k, (T.EX k).isSome = false) : PS X st (tS X.K T W loc (.rais k cs)) := ps_mono ps_never fun D σ H ⟨env, Z, E, h⟩ => by
  simp only [exec, wp_bind] at h
  cases hx : evK T.F cs env with
  | no => rw [hx] at h; exact h
  | ex c d => rw [hx] at h; have := h.1; rw [hn c] at this; cases this
  | ok x =>
    rw [hx] at h
    change (match x.1 with | [d] => R.ex k d | _ => R.no : R (Ctl × Env)).Wp _ _ at h
    split at h
    · have := h.1; rw [hn k] at this; cases this
    · exact h
end
end RB

set_option linter.all false
set_option maxHeartbeats 2000000
namespace RB
open PySem L2 PySem.Spec PyProof.Rows
open PySem.W (Frag)

theorem meets_enum_tup (t : Addr) (items : Array Value) :
    Meets (Builtin.«enumerate.__new__» ⟨[.type "enumerate", .ref t], []⟩) (fun _ R s => s.heap.IsTuple t items ∧
      R (.ok (.ret (.ref (s.heap.push { cls := .type "tuple_iterator", data := .fields #[.ref t, .int 0 0] }).objs.size)))
        { s with heap := (s.heap.push { cls := .type "tuple_iterator", data := .fields #[.ref t, .int 0 0] }).push { cls := .type "enumerate", data := .fields #[.none, .bool false, .ref s.heap.objs.size, rawInt 0, .none, .none] } }) :=
  .of_wp fun prog w A R s h => by
    obtain ⟨hp, g, d, tk, os⟩ := s
    obtain ⟨hT, h⟩ := h
    have hsub := sub_enumerate
    obtain ⟨o, ho, hoc, hod⟩ := hT
    have hT : Heap.IsTuple (Shared.heap ⟨hp, g, d, tk, os⟩) t items := ⟨o, ho, hoc, hod⟩
    wp_walk using wpAny_loadPart' ho
    refine wpAny_stack_any fun st => wpAny_pure ?_
    split
    · rename_i c _ _ _ _ _
      cases (c == Value.type "enumerate")
      · wp_walk using wpAny_loadPart' ho, wpAny_pyIter_tuple hT
        exact ⟨_, rfl, h⟩
      · wp_walk using wpAny_loadPart' ho, wpAny_pyIter_tuple hT
        exact ⟨_, rfl, h⟩
    · wp_walk using wpAny_loadPart' ho, wpAny_pyIter_tuple hT
      exact ⟨_, rfl, h⟩
theorem call_enum_tup {prog : Program} {w : World} {A : Around} {E : Value → Shared → Prop} {s : Shared} {t : Addr} {items : Array Value} {Q : Value → Shared → Prop} (hT : s.heap.IsTuple t items)
    (h : ∀ h', IsEnum h' (s.heap.objs.size + 1) s.heap.objs.size 0 .none → h'.IsTupleIter s.heap.objs.size t 0 → h'.objs.size = s.heap.objs.size + 2 →
      (∀ b o, s.heap.get? b = some o → h'.get? b = some o) → Q (.ref (s.heap.objs.size + 1)) { s with heap := h' }) :
    wpAny (model prog w) A (call (.type "enumerate") [.ref t]) Q E s := by
  refine callType_new F.called_enumerate (by decide) (F.typeCall_enumerate_1 _) (F.newCall_enumerate_1 _) (fun obj => F.args_object_init_2 obj _) F.entry_enumerate_new (meets_enum_tup t items) ⟨hT, ?_⟩
  have sz : (s.heap.push { cls := .type "tuple_iterator", data := .fields #[.ref t, .int 0 0] }).objs.size = s.heap.objs.size + 1 := Heap.size_push ..
  show _ ∧ _
  rw [sz]
  have he : IsEnum ((s.heap.push { cls := .type "tuple_iterator", data := .fields #[.ref t, .int 0 0] }).push
      { cls := .type "enumerate", data := .fields #[.none, .bool false, .ref s.heap.objs.size, rawInt 0, .none, .none] }) (s.heap.objs.size + 1) s.heap.objs.size 0 .none := by
    have q := Heap.get?_push_size (s.heap.push { cls := .type "tuple_iterator", data := .fields #[.ref t, .int 0 0] })
      (o := { cls := .type "enumerate", data := .fields #[.none, .bool false, .ref s.heap.objs.size, rawInt 0, .none, .none] }) rfl
    rw [sz] at q
    exact q
  exact ⟨⟨_, he, rfl⟩, h _ he ⟨_, Heap.get?_push_of_some _ (Heap.get?_push_size _ rfl), rfl, rfl⟩ (by rw [Heap.size_push, sz]) fun b o x => Heap.get?_push_of_some _ (Heap.get?_push_of_some _ x)⟩

/-- pairs of a count and an item -/
def IteS (Sq : Hp → List V → Prop) : It :=
  ⟨fun i H => ∃ (xs : List V) (x : V), Sq H xs ∧ xs[i]? = some x, fun i H v H' => ∃ T x, v = .ref T ∧ H T = none ∧ H' = upd H T (.tup [.int (i : Nat), x]) ∧ ∀ xs, Sq H xs → xs[i]? = some x, fun i H => ∃ xs : List V, Sq H xs ∧ xs.length ≤ i⟩
theorem turn_enumT {P : Program} {w : World} {K : Frag} {elts : List Expr} {kk : Nat} {tpos : Pos} (a e it : Addr) :
    Turn P w K (.Tuple elts kk tpos) (IteS fun H xs => SqT K H a xs) [e, it] e (fun i h => (∃ old, IsEnum h e it ((i : Nat) : Int) old) ∧ h.IsTupleIter it a i ∧ e ≠ it) where
  mem := by simp
  obj := fun i h st b hb => by
    obtain ⟨⟨old, he⟩, ⟨o, ho, hc, hd⟩, _⟩ := st
    rcases (show b = e ∨ b = it by simpa using hb) with z | z
    · rw [z]; exact ⟨_, he, fun v q => nomatch q⟩
    · rw [z]; exact ⟨o, ho, fun v q => by rw [hd] at q; cases q⟩
  keep := fun i h h' st k => let ⟨⟨old, he⟩, hi, hne⟩ := st; ⟨⟨old, k e (by simp) _ he⟩, hi.at fun o q => k it (by simp) o q, hne⟩
  item := by
    intro X hP hw hK hc i pins s σ H E I hf st hg
    subst hP hw hK
    obtain ⟨⟨old, he⟩, hit, hne⟩ := st
    obtain ⟨xs, x, hq, hx⟩ := hg
    obtain ⟨its, rv, p, hz⟩ := I.tuple hq
    obtain ⟨u, hu, ru⟩ := rv.get hx
    have hel : e < s.heap.objs.size := Heap.lt_size he
    have hil : it < s.heap.objs.size := by obtain ⟨_, q, _⟩ := hit; exact Heap.lt_size q
    have hai : a ≠ it := fun z => by
      obtain ⟨o, ho, hc, _⟩ := p
      obtain ⟨o', ho', hc', _⟩ := hit
      subst z
      rw [ho] at ho'; cases ho'
      exact absurd (hc.symm.trans hc') (by decide)
    have hea : e ∉ [it, a] := fun z => by
      rcases List.mem_cons.mp z with z | z
      · exact hne z
      · have z : e = a := by simpa using z
        obtain ⟨o, ho, hc, _⟩ := p
        subst z
        rw [he] at ho; cases ho
        exact absurd (show Value.type "enumerate" = Value.type "tuple" from hc) (by decide)
    have hlt : i < its.toArray.size := by
      have := (List.getElem?_eq_some_iff.mp hu).1
      simpa using this
    refine wpAny_pyNext_enum_itemD (Draws.tuple (A := X.A.in1) (I.ok.hd hc) it a hai its.toArray) he ⟨hit, p⟩ hlt hne hea fun y h' tk hy ho st' hT hsz hk => ?_
    have ey : y = u := by
      have hy : its.toArray[i]? = some y := hy
      simp at hy
      rw [hu] at hy
      exact (Option.some.inj hy).symm
    subst ey
    refine ⟨_, rfl, wpAny_letOwnedTupleGo_enum (s := { s with heap := h', toks := tk + 1 }) ho fun h'' he' sb => ?_⟩
    have hT2 : h''.get? s.heap.objs.size = some { cls := .type "tuple", data := .seq #[.int i tk, y] } := (sb.2 _ (Nat.ne_of_gt hel)).trans hT
    have new : ObjOk X.prog X.w (upd H s.heap.objs.size (.tup [.int (i : Nat), x])) h'' s.heap.objs.size (.tup [.int (i : Nat), x]) :=
      ⟨by show 2 ≤ sizeLine; decide, [.int i tk, y], .cons ⟨_, rfl⟩ (.cons ru .nil), ⟨_, hT2, rfl, _, rfl⟩⟩
    have I1 : L2.Inv X pins σ (upd H s.heap.objs.size (.tup [.int (i : Nat), x])) { s with heap := h'', toks := tk + 1 } :=
      I.turnedNew (ch := [e, it]) (fun b ob hb q => (sb.2 b (fun z => hb (by simp [z]))).trans (hk b ob (fun z => hb (by simp [z])) (fun z => hb (by simp [z])) q)) hf (Nat.le_refl _) new
    refine ⟨.ref s.heap.objs.size, _, I1, rfl, ⟨_, x, rfl, I.hok.fresh (Nat.le_refl _), rfl, fun ys hy => by rw [I.tuple_inj hy hq]; exact hx⟩, ⟨⟨y, ?_⟩, st'.1.at fun o q => (sb.2 it (Ne.symm hne)).trans q, hne⟩, fun b hb => ?_⟩
    · have e1 : ((i + 1 : Nat) : Int) = (i : Int) + 1 := by omega
      rw [e1]; exact he'
    · have hb' : b < s.heap.objs.size := by
        rcases (show b = e ∨ b = it by simpa using hb) with z | z
        · rw [z]; exact hel
        · rw [z]; exact hil
      rw [upd_ne (Nat.ne_of_lt hb')]
      exact (hf b hb).1
  done := by
    intro X hP hw hK hc i pins s σ H E I hf st hg
    subst hP hw hK
    obtain ⟨⟨old, he⟩, hit, hne⟩ := st
    obtain ⟨xs, hq, hx⟩ := hg
    obtain ⟨its, rv, p, hz⟩ := I.tuple hq
    obtain ⟨f0, f1, f2, f3, f4, f5⟩ := hf it (by simp)
    have hl := rv.length
    unfold pyNext
    have hTy : s.TypeIs (.ref e) "enumerate" := ⟨_, he, rfl⟩
    refine wpAny_bind (wpAny_attempt (wpAny_callSpecial?_slot (name := Str.ofString "__next__") hTy F.slot_enumerate_next
      (wpAny_call_entry F.slot_enumerate_next hTy F.entry_enumerate_next ?_ (F.args_enumerate_next_1 _))))
    show wpAny _ _ (field (.ref e) 2 >>= _) _ _ _
    refine wpAny_bind (wpAny_field he rfl (x := .ref it) rfl ?_)
    refine wpAny_bind (wpAny_nextOf_tuple_end (I.ok.hd hc) hit p (by simp; omega) fun h' x he' hx' => ?_)
    obtain ⟨o, ho, hc⟩ := hx'
    refine wpAny_bind (wpAny_isInstance (T := "StopIteration") (b := true) ⟨o, ho, hc⟩ isSubtype_stop ?_)
    exact wpAny_pure ⟨rfl, I.turned (t' := s.toks) (fun b o hb q => he' b o hb q) f0 f1 f3 f4 f5⟩
  self := fun A i s Q E st h => let ⟨⟨_, he⟩, _⟩ := st; wpAny_pyIter_enum he h
section
variable {X : Cx} {T : Tb} {W : WX} {c : E} {p pos tpos : Pos} {K : Frag} {H : Hp} {Z : Addr → Prop}
theorem pi_enumT {e : Expr} {ta : TA} {elts : List Expr} {kk : Nat} (hg : Gl X "enumerate") (hm : X.mg "enumerate" = none) (ha : PA X [e] ta) (hs : starEach [e] X.env = [(false, eval e X.env)]) :
    PI X (.Tuple elts kk tpos) (.Call (.Name "enumerate" p) [e] [] pos) (fun σ H R => ta σ H fun vs H1 => ∃ a xs, vs = [.ref a] ∧ SqT X.K H1 a xs ∧ R (IteS fun H xs => SqT X.K H a xs) H1) := by
  refine ⟨fun pins s σ H R I h => ?_⟩
  refine Call_ (ld_blt I hg hm boot_enumerate (PyProof.Rows.callWith_type1 (thn (ha.run pos pins s σ H _ I h) fun us s1 ⟨vs, H1, I1, r1, q1⟩ => ?_) hs rfl))
  obtain ⟨a, xs, rfl, hq, q⟩ := q1
  cases r1 with
  | cons r rr =>
    cases rr
    cases r
    obtain ⟨its, rv, pt, hz⟩ := I1.tuple hq
    refine call_enum_tup pt fun h' he hit hsz hk => wpAny_pyIter_enum he ?_
    have I2 : L2.Inv X pins σ H1 { s1 with heap := h' } := I1.kept (t' := s1.toks) hk
    refine ⟨s1.heap.objs.size + 1, [s1.heap.objs.size + 1, s1.heap.objs.size], _, _, H1, rfl, I2, turn_enumT a (s1.heap.objs.size + 1) s1.heap.objs.size, ⟨⟨.none, he⟩, hit, Nat.succ_ne_self _⟩, fun b hb => ?_, q⟩
    have hle : s1.heap.objs.size ≤ b := by
      rcases (show b = s1.heap.objs.size + 1 ∨ b = s1.heap.objs.size by simpa using hb) with z | z
      · rw [z]; exact Nat.le_succ _
      · rw [z]; exact Nat.le_refl _
    exact I1.fpOk hle (I1.hok.fresh hle)
theorem enum_get : ∀ {ds : List D} {k i : Nat} {d : D}, (enumFrom k ds)[i]? = some d → ∃ x, ds[i]? = some x ∧ d = .tup [.int ((k + i : Nat) : Int), x]
  | [], _, _, _, h => by simp [enumFrom] at h
  | x :: xs, k, 0, d, h => by
    simp [enumFrom] at h
    exact ⟨x, rfl, by rw [← h]; rfl⟩
  | x :: xs, k, i + 1, d, h => by
    simp only [enumFrom, List.getElem?_cons_succ] at h
    obtain ⟨y, h1, h2⟩ := enum_get h
    exact ⟨y, by simpa using h1, by rw [h2, show k + 1 + i = k + (i + 1) by omega]⟩
theorem enum_len : ∀ {ds : List D} {k : Nat}, (enumFrom k ds).length = ds.length
  | [], _ => rfl
  | _ :: xs, k => by simp [enumFrom, enum_len]
theorem yields_enum {Sq : Hp → List V → Prop} {vs : List V} {ds : List D} (st : ∀ {H1 Z1}, Later H Z H1 Z1 → Sq H1 vs) (r : Reps K T.FT H Z vs ds) : Yields K T (IteS Sq) (enumFrom 0 ds) H Z := by
  refine ⟨fun H1 Z1 l i d e => ?_, fun H1 Z1 l => ⟨vs, st l, by rw [enum_len, r.length]; exact Nat.le_refl _⟩⟩
  obtain ⟨x, h1, rfl⟩ := enum_get e
  obtain ⟨v, hv, rv⟩ := (r.later l).get h1
  refine ⟨⟨vs, v, st l, hv⟩, fun y H2 ⟨T', x', e1, e2, e3, e4⟩ => ?_⟩
  subst e1 e3
  have := e4 vs (st l)
  rw [hv] at this
  cases this
  have g : Go (fun _ => False) H1 Z1 (upd H1 T' (.tup [.int (i : Nat), v])) Z1 := .new e2
  refine ⟨g, .tup (.of upd_same) (.cons ?_ (.one (rv.grow g)))⟩
  rw [Nat.zero_add]
  exact .int _
theorem pi_enumE {e : Expr} {elts : List Expr} {kk : Nat} (hg : Gl X "enumerate") (hm : X.mg "enumerate" = none) (he : PE X e (tE X.K T W c)) (hs : starEach [e] X.env = [(false, eval e X.env)]) :
    PI X (.Tuple elts kk tpos) (.Call (.Name "enumerate" p) [e] [] pos) (tI X.K T W (.enum c)) := by
  refine pi_mono (pi_or (pi_enum hg hm (pa_cons he pa_nil hs) hs) (pi_enumT hg hm (pa_cons he pa_nil hs) hs)) fun σ H R ⟨env, Z, E, h⟩ => ?_
  simp only [evI, wp_bind, wp_of, wp_ok] at h
  cases hx : ev T.F c env with
  | no => rw [hx] at h; exact h.elim
  | ex k d =>
    rw [hx] at h
    exact .inl ⟨env, Z, E, by rw [hx]; exact h⟩
  | ok x =>
    rw [hx] at h
    obtain ⟨y, e3, xs, e4, q⟩ := h
    cases hy : y.1 <;> rw [hy] at e4 <;> first | (cases e4; done) | skip
    · cases e4
      refine .inr ⟨env, Z, E, ?_⟩
      rw [hx]
      intro v H1 Z1 s1 d1 f1
      obtain ⟨Z2, s2, r2, _, _⟩ := Step.keep E s1 d1 f1 e3
      rw [hy] at r2
      cases r2 with
      | tup h1 r => exact ⟨_, _, rfl, h1, q _ H1 Z2 s2 (yields_enum (fun l => sqT_later h1 l) r)⟩
    · cases e4
      refine .inl ⟨env, Z, E, ?_⟩
      rw [hx]
      intro v H1 Z1 s1 d1 f1
      obtain ⟨Z2, s2, r2, _, _⟩ := Step.keep E s1 d1 f1 e3
      rw [hy] at r2
      cases r2 with
      | lst h1 z r =>
        rename_i a vs
        exact ⟨a, vs, rfl, .of h1, q _ H1 Z2 s2 (yields_enum (Sq := fun H xs => SqL X.K H a xs) (fun {H1 Z1} ⟨O, g, ho⟩ => .of (g.fr _ _ h1 fun o => (ho _ o).1 z)) r)⟩
    · cases e4
      refine .inl ⟨env, Z, E, ?_⟩
      rw [hx]
      intro v H1 Z1 s1 d1 f1
      obtain ⟨Z2, s2, r2, _, _⟩ := Step.keep E s1 d1 f1 e3
      rw [hy] at r2
      cases r2 with
      | scr h1 r =>
        rename_i a vs
        refine ⟨a, vs, rfl, ?_, q _ H1 Z2 s2 (yields_enum (Sq := fun H xs => SqL X.K H a xs) (fun {H1 Z1} ⟨O, g, ho⟩ => ?_) r)⟩
        · rcases h1 with ⟨o, h1⟩ | h1
          · exact .inl (.inr ⟨o, h1⟩)
          · exact .inr h1
        · rcases h1 with ⟨o, h1⟩ | h1
          · exact .inl (.inr ⟨o, g.fr _ _ h1 fun z => by obtain ⟨_, ws, e⟩ := ho _ z; rw [h1] at e; cases e⟩)
          · exact .inr h1
end
end RB

set_option linter.all false
set_option maxHeartbeats 2000000
namespace RB
open PySem L2 PySem.Spec PyProof.Rows
open PySem.W (Frag)

structure Ck where
  N : List Str
  nm : List (Str × NameKind)
  fc : Str → Bool
  fns : List (Str × Nat × List D)
  cts : List (Str × D)
  nol : List Str
  lv : Nat

structure CkOk (X : Cx) (T : Tb) (W : WX) (C : Ck) : Prop where
  N : X.N = C.N
  nd : X.N.Nodup
  nm : X.env.scope.names = C.nm
  kd : X.env.scope.kind = .function
  calm : X.calm = true
  gu : X.A.guards = some []
  un : X.A.units + 70 < cLine
  tk : Takes X W
  fc : ∀ x, C.fc x = true → X.fn x = true
  fns : ∀ x j dfl, (x, j, dfl) ∈ C.fns → (∃ f, T.FT j = some f ∧ X.mg x = some (.ref f)) ∧ ∀ k, k ≤ dfl.length → At X T j (dfl.drop k)
  cts : ∀ x d, (x, d) ∈ C.cts → ∃ v u, X.mg x = some u ∧ RelV v u ∧ ∀ H Z, Rep X.K T.FT H Z v d
  nol : ∀ x ∈ C.nol, X.mg x = none
  lv : ∀ j < C.lv, (T.FT j).isSome = true → At X T j []

def vis (nm : List (Str × NameKind)) (x : Str) : Bool := match nm.lookup x with
  | some .local => true
  | some .cell => true
  | some .free => true
  | _ => false
def lcl (nm : List (Str × NameKind)) (x : Str) : Bool := match nm.lookup x with
  | some .local => true
  | some .cell => true
  | _ => false
def gl (nm : List (Str × NameKind)) (x : Str) : Bool := match nm.lookup x with
  | some .globalImplicit => true
  | _ => false
def okn (x : Str) : Bool := !(x == ("__debug__" : Str)) && !(x == ("__classdict__" : Str))
def plainE : Expr → Bool
  | .Starred .. => false
  | _ => true
def isComp : Expr → Bool
  | .ListComp .. => true
  | .SetComp .. => true
  | .DictComp .. => true
  | _ => false
def isSlice : Expr → Bool
  | .Slice .. => true
  | _ => false
def isSet : Expr → Bool
  | .Set .. => true
  | _ => false
def relab (scope : Scope) (nm : List (Str × NameKind)) : List (Str × NameKind) := scope.names.map fun (n, k) => if (k == .free && nm.lookup n == some .cell) then (n, .cell) else (n, k)
def Ck.blk (C : Ck) (scope : Scope) : Ck := { C with nm := relab scope C.nm, fc := fun x => scope.names.lookup x == some .cell }

mutual
def eqS : D → D → Bool
  | .non, .non => true
  | .bl a, .bl b => a == b
  | .int a, .int b => decide (a = b)
  | .str a, .str b => decide (a = b)
  | .fn a, .fn b => decide (a = b)
  | .tup xs, .tup ys => eqSs xs ys
  | _, _ => false
def eqSs : List D → List D → Bool
  | [], [] => true
  | x :: xs, y :: ys => eqS x y && eqSs xs ys
  | _, _ => false
end
mutual
theorem eqS_ok : ∀ {a b : D}, eqS a b = true → a = b
  | a, b, h => by
    cases a <;> cases b <;> simp only [eqS, Bool.false_eq_true, beq_iff_eq, decide_eq_true_eq] at h <;> first | rfl | (subst h; rfl) | cases h | skip
    rw [eqSs_ok h]
theorem eqSs_ok : ∀ {a b : List D}, eqSs a b = true → a = b
  | [], [], _ => rfl
  | [], _ :: _, h => by simp [eqSs] at h
  | _ :: _, [], h => by simp [eqSs] at h
  | x :: xs, y :: ys, h => by
    simp only [eqSs, Bool.and_eq_true] at h
    rw [eqS_ok h.1, eqSs_ok h.2]
end
def inCts (C : Ck) (x : Str) (d : D) : Bool := C.cts.any fun p => decide (p.1 = x) && eqS p.2 d
def inFns (C : Ck) (x : Str) (j : Nat) (ds : List D) : Bool := C.fns.any fun p => decide (p.1 = x) && decide (p.2.1 = j) && decide (ds.length ≤ p.2.2.length) && eqSs (p.2.2.drop (p.2.2.length - ds.length)) ds

def litC : D → Const → Bool
  | .int i, .int j => decide (i = j)
  | .bl i, .bool j => i == j
  | .str i, .str j => decide (i = j)
  | .non, .none => true
  | _, _ => false
def biN : Bi → Str
  | .len => "len" | .abs => "abs" | .min => "min" | .max => "max" | .sum => "sum" | .all => "all" | .any => "any" | .tuple => "tuple" | .list => "list" | .int => "int" | .str => "str" | .repr => "repr" | .isin _ => "isinstance" | .sorted => "sorted"
def biOk : Bi → Bool
  | .str => false | .isin _ => false | .sorted => false | _ => true
def tyN : Nat → String
  | 0 => "int" | 1 => "bool" | 2 => "tuple" | 3 => "str" | _ => "list"
def known (C : Ck) (x : Str) : Bool := decide (x ∈ C.nol) && gl C.nm x

mutual
def chkG : Tg → Ck → Expr → Bool
  | .v i, C, .Name x _ => decide (C.N[i]? = some x) && lcl C.nm x && (C.fc x || decide (C.nm.lookup x = some .local))
  | .t us, C, .Tuple es _ _ => chkGs us C es
  | _, _, _ => false
def chkGs : List Tg → Ck → List Expr → Bool
  | [], _, [] => true
  | u :: us, C, e :: es => plainE e && chkG u C e && chkGs us C es
  | _, _, _ => false
end

mutual
def chk : E → Bool → Ck → Expr → Bool
  | .var i, _, C, .Name x _ => decide (C.N[i]? = some x) && vis C.nm x && okn x
  | .lit d, _, _, .Constant k _ _ => litC d k
  | .glb x d, _, C, .Name y _ => decide (x = y) && gl C.nm x && inCts C x d && okn x
  | .bin op a b, _, C, .BinOp l o r _ => decide (o = bop op) && chk a false C l && chk b false C r
  | .neg a, _, C, .UnaryOp .USub e _ => chk a false C e
  | .not_ a, t, C, .UnaryOp .Not e _ => chk a t C e
  | .and_ a b, t, C, .BoolOp .And [x, y] _ => chk a t C x && chk b t C y
  | .and_ a b, t, C, .BoolOp .And (x :: y :: z :: r) p => chk a t C x && chk b t C (.BoolOp .And (y :: z :: r) p)
  | .or_ a b, t, C, .BoolOp .Or [x, y] _ => chk a t C x && chk b t C y
  | .or_ a b, t, C, .BoolOp .Or (x :: y :: z :: r) p => chk a t C x && chk b t C (.BoolOp .Or (y :: z :: r) p)
  | .cmp op a b, _, C, .Compare l [o] [r] _ => decide (o = cop op) && !isSet r && chk a false C l && chk b false C r
  | .chn op op' a b c, _, C, .Compare l [o, o'] [r, r'] _ => decide (o = cop op) && decide (o' = cop op') && !isSet r' && chk a false C l && chk b false C r && chk c false C r'
  | .ite c a b, t, C, .IfExp e x y _ => !t && chk c true C e && chk a false C x && chk b false C y
  | .tup es, _, C, .Tuple xs _ _ => chks es 0 C xs
  | .lst es, _, C, .List xs _ => chks es 0 C xs
  | .call j es ds, _, C, .Call (.Name x _) xs [] _ => inFns C x j ds && gl C.nm x && okn x && chks es 0 C xs
  | .cvar m i es, _, C, .Call (.Name x _) (y :: xs) [] _ => decide (m ≤ C.lv) && decide (C.N[i]? = some x) && vis C.nm x && okn x && chks es 0 C (y :: xs)
  | .bi (.isin k) (.cons c .nil), _, C, .Call (.Name x _) [a, .Name y _] [] _ => decide (x = ("isinstance" : Str)) && known C x && decide (k ≤ 4) && decide (y = Str.ofString (tyN k)) && known C y && plainE a && chk c false C a
  | .bi b es, _, C, .Call (.Name x _) (y :: xs) [] _ => biOk b && decide (x = biN b) && known C x && chks es 0 C (y :: xs)
  | .ix a b, _, C, .Subscript o i _ => !isSlice i && chk a false C o && chk b false C i
  | .sli a lo hi, _, C, .Subscript o (.Slice l h none _) _ => chk a false C o && chkO lo C l && chkO hi C h
  | .comp own tg it c e, _, C, .ListComp elt [⟨t, iter, ifs, z⟩] scope _ =>
      decide (z = 0) && !isSet iter && chkI it C t iter && blkC C.N ⟨.function, C.nm, false, false, []⟩ scope (own.map fun i => ((C.N[i]?).getD "", i)) && tg.sl.all (fun i => own.contains i) && chkG tg (C.blk scope) t && chkC c (C.blk scope) ifs && chk e false (C.blk scope) elt
  | _, _, _, _ => false
/-- k: nothing to it -/
def chks : Es → Nat → Ck → List Expr → Bool
  | .nil, _, _, [] => true
  | .cons e es, k, C, x :: xs => plainE x && chk e false C x && chks es k C xs
  | _, _, _, _ => false
def chkO : Oe → Ck → Option Expr → Bool
  | .none, _, none => true
  | .some e, C, some x => chk e false C x
  | _, _, _ => false
def chkC : Oe → Ck → List Expr → Bool
  | .none, _, [] => true
  | .some e, C, [x] => chk e true C x
  | _, _, _ => false
def chkI : Iter → Ck → Expr → Expr → Bool
  | .seq e, C, _, x => chk e false C x
  | .rng es, C, _, .Call (.Name x _) (y :: xs) [] _ => decide (x = ("range" : Str)) && known C x && decide (xs.length < 3) && chks es 0 C (y :: xs)
  | .enum e, C, .Tuple _ _ _, .Call (.Name x _) [y] [] _ => decide (x = ("enumerate" : Str)) && known C x && plainE y && chk e false C y
  | _, _, _, _ => false
end

section
variable {X : Cx} {T : Tb} {W : WX} {C : Ck} {x : Str}
theorem CkOk.vis (k : CkOk X T W C) (h : RB.vis C.nm x = true) : Vis X.env.scope x := by
  unfold RB.vis at h
  unfold L2.Vis
  rw [k.nm]
  split at h <;> first | (rename_i e; rw [e]; simp; done) | cases h
theorem CkOk.lcl (k : CkOk X T W C) (h : RB.lcl C.nm x = true) : Loc X.env.scope x := by
  unfold RB.lcl at h
  unfold L2.Loc
  rw [k.nm]
  split at h <;> first | (rename_i e; rw [e]; simp; done) | cases h
theorem CkOk.gl (k : CkOk X T W C) (h : RB.gl C.nm x = true) : Gl X x := by
  unfold RB.gl at h
  unfold L2.Gl Env.kindOf
  rw [k.nm]
  split at h <;> first | assumption | cases h
theorem okn_d (h : okn x = true) : (x == ("__debug__" : Str)) = false := by
  unfold okn at h
  simp only [Bool.and_eq_true, Bool.not_eq_true'] at h
  exact h.1
theorem okn_c (h : okn x = true) : (x == ("__classdict__" : Str)) = false := by
  unfold okn at h
  simp only [Bool.and_eq_true, Bool.not_eq_true'] at h
  exact h.2
theorem CkOk.known (k : CkOk X T W C) (h : RB.known C x = true) : Gl X x ∧ X.mg x = none := by
  unfold RB.known at h
  simp only [Bool.and_eq_true, decide_eq_true_eq] at h
  exact ⟨k.gl h.2, k.nol x h.1⟩
theorem CkOk.cell (k : CkOk X T W C) (h : (C.fc x || decide (C.nm.lookup x = some .local)) = true) : X.fn x = true ∨ X.env.scope.names.lookup x = some .local := by
  simp only [Bool.or_eq_true, decide_eq_true_eq] at h
  rw [k.nm]
  exact h.imp_left (k.fc x)
theorem star_cons {e : Expr} {es : List Expr} {env : PySem.Env} (h : plainE e = true) : starEach (e :: es) env = (false, eval e env) :: starEach es env := by
  cases e <;> first | rfl | cases h
theorem assign_cons {e : Expr} {es : List Expr} {env : PySem.Env} (h : plainE e = true) : assignEach (e :: es) env = (false, assign e env) :: assignEach es env := by
  cases e <;> first | rfl | cases h
theorem chks_plain : ∀ {es : Es} {k : Nat} {xs : List Expr}, chks es k C xs = true → xs.all plainE = true
  | .nil, _, [], _ => rfl
  | .nil, _, _ :: _, h => by simp [chks] at h
  | .cons _ _, _, [], h => by simp [chks] at h
  | .cons e es, k, x :: xs, h => by
    simp only [chks, Bool.and_eq_true] at h
    simp only [List.all_cons, Bool.and_eq_true]
    exact ⟨h.1.1, chks_plain h.2⟩
theorem back_plain {pos : Pos} {env : PySem.Env} : ∀ {xs : List Expr}, xs.all plainE = true → (backTo pos (starEach xs env)).any (·.1) = false
  | [], _ => rfl
  | x :: xs, h => by
    simp only [List.all_cons, Bool.and_eq_true] at h
    rw [star_cons h.1]
    simp only [backTo, List.map_cons, List.any_cons, Bool.false_or]
    exact back_plain h.2
theorem back_tail {pos : Pos} {env : PySem.Env} {x : Expr} {xs : List Expr} (h : (x :: xs).all plainE = true) : (backTo pos (starEach xs env)).any (·.1) = false := by
  simp only [List.all_cons, Bool.and_eq_true] at h
  exact back_plain h.2
theorem notSet_fold {e : Expr} {env : PySem.Env} (h : (!isSet e) = true) : ∀ x, foldedSetIterable e env x = pure x := by
  intro x
  cases e <;> first | rfl | cases h
theorem notSet_behind {op : CmpOp} {e : Expr} (h : (!isSet e) = true) : behindInMarks op e = false := by
  cases e <;> first | rfl | cases h
theorem plain_ix {i : Expr} (h : (!isSlice i) = true) : PlainIx i := by
  intro o j
  cases i <;> first | rfl | cases h
theorem pw_of_pt {op : BoolOp} {es : List Expr} {pos : Pos} {t : TT} (h : PT X (.BoolOp op es pos) t) : PW X (.BoolOp op es pos) t :=
  ⟨fun whole pins s σ H Q I q => by
    have := h.run pins s σ H Q I q
    unfold PySem.isTrue at this ⊢
    exact this⟩

def W0 : WX := fun _ _ _ _ => False
theorem takes0 {X : Cx} : Takes X W0 := fun u s' ⟨_, _, _, _, _, _, _, _, _, _, _, _, _, _, _, _, w⟩ => w.elim
theorem CkOk.blk (k : CkOk X T W C) {s : Shared} {H : Hp} {scope : Scope} {cl : List (Str × Addr)} {Ca : Addr} {fp : List Addr} (hk : scope.kind = .function) : CkOk (X.blk s H scope (compEnvC scope cl Ca X.env) fp) T W0 (C.blk scope) where
  N := k.N
  nd := k.nd
  nm := by
    show (relabel scope X.env).names = _
    unfold relabel Ck.blk relab Env.kindOf
    rw [k.nm, k.kd]
    simp
  kd := hk
  calm := k.calm
  gu := k.gu
  un := k.un
  tk := takes0
  fc := fun x h => h
  fns := fun x j dfl h => let ⟨a, b⟩ := k.fns x j dfl h; ⟨a, fun n hn => ⟨(b n hn).ex⟩⟩
  cts := k.cts
  nol := k.nol
  lv := fun j h e => ⟨(k.lv j h e).ex⟩
end

section
variable {X : Cx} {T : Tb} {W : WX} {a : Expr} {c : E} {pos p : Pos} {x : Str}
theorem pk_ty {K : Frag} {FT : Nat → Option Addr} {H : Hp} {Z : Addr → Prop} {v : V} {d : D} {k : Nat} {b : Bool} (pk : Pk K FT H Z v d) (hk : k ≤ 4) (e : isinB k d = some b) : ∃ t, TyX K H v t ∧ PySem.W.kitOne K t (.type (tyN k)) = some b := by
  have hk : k = 0 ∨ k = 1 ∨ k = 2 ∨ k = 3 ∨ k = 4 := by omega
  cases d with
  | non => cases pk.non; cases e; exact ⟨_, .base .non, by rcases hk with rfl | rfl | rfl | rfl | rfl <;> rfl⟩
  | bl x => cases pk.bl; cases e; exact ⟨_, .base (.bl x), by rcases hk with rfl | rfl | rfl | rfl | rfl <;> rfl⟩
  | int x => cases pk.int; cases e; exact ⟨_, .base (.int x), by rcases hk with rfl | rfl | rfl | rfl | rfl <;> rfl⟩
  | str x => cases pk.str; cases e; exact ⟨_, .base (.str x), by rcases hk with rfl | rfl | rfl | rfl | rfl <;> rfl⟩
  | tup xs =>
    obtain ⟨a, vs, rfl, h, _⟩ := pk.tup
    cases e
    refine ⟨.type "tuple", ?_, by rcases hk with rfl | rfl | rfl | rfl | rfl <;> rfl⟩
    rcases h with (h | ⟨o, h⟩) | ⟨o, _, _, h1, h2, _⟩
    · exact .base (.tup h)
    · exact .fTuple h
    · exact .kTuple h1 h2
  | lst xs =>
    obtain ⟨a, vs, rfl, h, _⟩ := pk.lst
    cases e
    exact ⟨_, .base (.lst h), by rcases hk with rfl | rfl | rfl | rfl | rfl <;> rfl⟩
  | scr xs => cases e
  | fn j => cases e
  | exc c x => cases e
theorem boot_ty {k : Nat} (hk : k ≤ 4) : bootBuiltins (Str.ofString (tyN k)) = some (.type (tyN k)) := by
  have hk : k = 0 ∨ k = 1 ∨ k = 2 ∨ k = 3 ∨ k = 4 := by omega
  rcases hk with rfl | rfl | rfl | rfl | rfl <;> decide +kernel
theorem ty_ne {k : Nat} (hk : k ≤ 4) : Str.ofString (tyN k) ≠ "__name__" ∧ (Str.ofString (tyN k) == ("__debug__" : Str)) = false := by
  have hk : k = 0 ∨ k = 1 ∨ k = 2 ∨ k = 3 ∨ k = 4 := by omega
  rcases hk with rfl | rfl | rfl | rfl | rfl <;> decide +kernel
theorem pe_isinE {k : Nat} {py : Pos} (hk : k ≤ 4) (hg : Gl X "isinstance") (hm : X.mg "isinstance" = none) (hg2 : Gl X (Str.ofString (tyN k))) (hm2 : X.mg (Str.ofString (tyN k)) = none) (hp : plainE a = true) (ha : PE X a (tE X.K T W c)) :
    PE X (.Call (.Name "isinstance" p) [a, .Name (Str.ofString (tyN k)) py] [] pos) (tE X.K T W (.bi (.isin k) (.cons c .nil))) := by
  have hb : PE X (.Name (Str.ofString (tyN k)) py) (L2.tC (V.ty (tyN k))) := pe_bltn hg2 hm2 (boot_ty hk) (show RelV (V.ty (tyN k)) (Value.type (tyN k)) from rfl) (ty_ne hk).1 (ty_ne hk).2
  refine pe_mono (pe_callB call_isi hg hm boot_isinstance (pa_cons ha (pa_cons hb pa_nil rfl) (star_cons hp)) (by decide) (by decide) (star_cons hp) rfl) fun σ H Q ⟨env, Z, E, h⟩ => ?_
  simp only [ev, evP, wp_bind, wp_of, wp_ok] at h
  refine tR_bind E h fun x hx v1 H1 Z1 s1 d1 f1 => ?_
  obtain ⟨ds, e1, r, e2, q⟩ := hx
  obtain ⟨d, e3, e4⟩ := Option.bind_eq_some_iff.mp e1
  cases e4
  obtain ⟨b, e5, e6⟩ := Option.bind_eq_some_iff.mp e2
  cases e6
  obtain ⟨t, h1, h2⟩ := pk_ty (d1.peek s1.en e3) hk e5
  exact ⟨v1, .ty (tyN k), t, .type (tyN k), b, rfl, .ty _, h1, h2, (post_ans s1 q).bl⟩
end

section
variable {T : Tb}
mutual
theorem chkG_ok : ∀ (u : Tg) {C : Ck} {e : Expr} {X : Cx} {W : WX}, chkG u C e = true → CkOk X T W C → PG X e (gE X.K T u)
  | .v i, C, e, X, W, h, k => by
    cases e <;> first | (simp [chkG] at h; done) | skip
    rename_i x p
    simp only [chkG, Bool.and_eq_true, decide_eq_true_eq] at h
    exact pg_nameE k.nd (by rw [k.N]; exact h.1.1) (k.lcl h.1.2) (k.cell (by simpa using h.2))
  | .t us, C, e, X, W, h, k => by
    cases e <;> first | (simp [chkG] at h; done) | skip
    rename_i es kk p
    simp only [chkG] at h
    obtain ⟨a, b, c⟩ := chkGs_ok us h k
    exact pg_tupE k.calm a b rfl c
theorem chkGs_ok : ∀ (us : List Tg) {C : Ck} {es : List Expr} {X : Cx} {W : WX}, chkGs us C es = true → CkOk X T W C → PGs X es (gEs X.K T us) ∧ us.length = (assignEach es X.env).length ∧ (assignEach es X.env).findIdx? (·.1) = none
  | [], C, [], X, W, h, k => ⟨pgs_nilE, rfl, rfl⟩
  | [], C, _ :: _, X, W, h, k => by simp [chkGs] at h
  | _ :: _, C, [], X, W, h, k => by simp [chkGs] at h
  | u :: us, C, e :: es, X, W, h, k => by
    simp only [chkGs, Bool.and_eq_true] at h
    obtain ⟨a, b, c⟩ := chkGs_ok us h.2 k
    refine ⟨pgs_consE (chkG_ok u h.1.2 k) a (by rw [assign_cons h.1.1]; rfl), by rw [assign_cons h.1.1]; simp [b], ?_⟩
    rw [assign_cons h.1.1, List.findIdx?_cons]
    simp [c]
end
end
end RB

set_option linter.all false
set_option maxHeartbeats 4000000
namespace RB
open PySem L2 PySem.Spec PyProof.Rows
open PySem.W (Frag)
section
variable {T : Tb}
theorem both {X : Cx} {W : WX} {c : E} {e : Expr} {t : Bool} (h : PE X e (tE X.K T W c)) (he : ∀ whole, PySem.isTrue e X.env whole = (do let v ← whole; standAt e.pos; holding [v] (truthy v))) :
    (t = false → PE X e (tE X.K T W c)) ∧ (t = true → PT X e (tT X.K T W c)) := ⟨fun _ => h, fun _ => pt_tr h he⟩
theorem CkOk.units (k : CkOk X T W C) : X.A.units + 64 < cLine := by have := k.un; omega
theorem inCts_ok {C : Ck} {x : Str} {d : D} (h : inCts C x d = true) : (x, d) ∈ C.cts := by
  unfold inCts at h
  obtain ⟨⟨y, d'⟩, hm, h'⟩ := List.any_eq_true.mp h
  simp only [Bool.and_eq_true, decide_eq_true_eq] at h'
  obtain ⟨e1, e2⟩ := h'
  rw [← eqS_ok e2, ← e1]
  exact hm
theorem CkOk.at (k : CkOk X T W C) {x : Str} {j : Nat} {ds : List D} (h : inFns C x j ds = true) : (∃ f, T.FT j = some f ∧ X.mg x = some (.ref f)) ∧ At X T j ds := by
  unfold inFns at h
  obtain ⟨⟨y, j', dfl⟩, hm, h⟩ := List.any_eq_true.mp h
  simp only [Bool.and_eq_true, decide_eq_true_eq] at h
  obtain ⟨⟨⟨rfl, rfl⟩, h1⟩, h2⟩ := h
  obtain ⟨a, b⟩ := k.fns _ _ _ hm
  refine ⟨a, ?_⟩
  have := b (dfl.length - ds.length) (Nat.sub_le _ _)
  rw [eqSs_ok h2] at this
  exact this
theorem cr_bi {X : Cx} {b : Bi} (h : biOk b = true) (hc : X.calm = true) (hg : X.A.guards = some []) (hu : X.A.units + 70 < cLine) :
    (∃ id, CallR X (.builtin id) (rBi X.K T.FT b) ∧ bootBuiltins (biN b) = some (.builtin id)) ∨ (∃ id, CallR X (.type id) (rBi X.K T.FT b) ∧ bootBuiltins (biN b) = some (.type id)) := by
  cases b <;> first | (cases h; done) | skip
  · exact .inl ⟨_, cr_len, PySem.boot_len⟩
  · exact .inl ⟨_, cr_abs, boot_abs⟩
  · exact .inl ⟨_, cr_minE hc, boot_min⟩
  · exact .inl ⟨_, cr_maxE hc, boot_max⟩
  · exact .inl ⟨_, cr_sumE hc, boot_sum⟩
  · exact .inl ⟨_, cr_allE hc, boot_all⟩
  · exact .inl ⟨_, cr_anyE hc, boot_any⟩
  · exact .inr ⟨_, cr_tupleE, boot_tuple⟩
  · exact .inr ⟨_, cr_listE, boot_list⟩
  · exact .inr ⟨_, cr_intE, boot_int⟩
  · exact .inl ⟨_, cr_reprE hg hu, boot_repr⟩
theorem biN_ok {b : Bi} : biN b ≠ "__name__" ∧ (biN b == ("__debug__" : Str)) = false := by
  cases b <;> first | exact ⟨by decide +kernel, by decide +kernel⟩ | exact ⟨show ("isinstance" : Str) ≠ "__name__" by decide +kernel, show (("isinstance" : Str) == ("__debug__" : Str)) = false by decide +kernel⟩
theorem own_map {N : List Str} {own : List Nat} : (own.map fun i : Nat => ((N[i]?).getD "", i)).map (·.2) = own := by
  rw [List.map_map]
  exact List.map_id _

mutual
theorem chk_ok : ∀ (c : E) {t : Bool} {C : Ck} {e : Expr} {X : Cx} {W : WX}, chk c t C e = true → CkOk X T W C → (t = false → PE X e (tE X.K T W c)) ∧ (t = true → PT X e (tT X.K T W c))
  | .var i, t, C, e, X, W, h, k => by
    cases e <;> first | (simp [chk] at h; done) | skip
    simp only [chk, Bool.and_eq_true, decide_eq_true_eq] at h
    exact both (pe_varE (by rw [k.N]; exact h.1.1) (k.vis h.1.2) (okn_d h.2) (okn_c h.2)) fun _ => rfl
  | .lit d, t, C, e, X, W, h, k => by
    cases e <;> first | (simp [chk] at h; done) | skip
    rename_i v kk p
    simp only [chk] at h
    cases d <;> cases v <;> first | (simp [litC] at h; done) | skip
    · exact both (pe_const pe_non (fun _ _ => .non) fun _ => rfl) fun _ => rfl
    · simp only [litC, beq_iff_eq] at h
      subst h
      exact both (pe_const pe_bl (fun _ _ => .bl _) fun _ => rfl) fun _ => rfl
    · simp only [litC, decide_eq_true_eq] at h
      subst h
      exact both (pe_const pe_int (fun _ _ => .int _) fun _ => rfl) fun _ => rfl
    · simp only [litC, decide_eq_true_eq] at h
      subst h
      exact both (pe_const pe_str (fun _ _ => .str _) fun _ => rfl) fun _ => rfl
  | .glb x d, t, C, e, X, W, h, k => by
    cases e <;> first | (simp [chk] at h; done) | skip
    simp only [chk, Bool.and_eq_true, decide_eq_true_eq] at h
    obtain ⟨⟨⟨rfl, h1⟩, h2⟩, h3⟩ := h
    obtain ⟨v, u, m, r, rp⟩ := k.cts _ _ (inCts_ok h2)
    exact both (pe_const (pe_glob (k.gl h1) m r (okn_d h3)) rp fun _ => rfl) fun _ => rfl
  | .bin op a b, t, C, e, X, W, h, k => by
    cases e <;> first | (simp [chk] at h; done) | skip
    simp only [chk, Bool.and_eq_true, decide_eq_true_eq] at h
    obtain ⟨⟨rfl, h1⟩, h2⟩ := h
    exact both (pe_bin ((chk_ok a h1 k).1 rfl) ((chk_ok b h2 k).1 rfl)) fun _ => rfl
  | .neg a, t, C, e, X, W, h, k => by
    cases e <;> first | (simp [chk] at h; done) | skip
    rename_i op e1 p
    cases op <;> first | (simp [chk] at h; done) | skip
    simp only [chk] at h
    exact both (pe_neg ((chk_ok a h k).1 rfl)) fun _ => rfl
  | .not_ a, t, C, e, X, W, h, k => by
    cases e <;> first | (simp [chk] at h; done) | skip
    rename_i op e1 p
    cases op <;> first | (simp [chk] at h; done) | skip
    simp only [chk] at h
    have q := chk_ok a h k
    exact ⟨fun ht => pe_notE (q.1 ht), fun ht => pt_notE (q.2 ht)⟩
  | .and_ a b, t, C, e, X, W, h, k => by
    cases e <;> first | (simp [chk] at h; done) | skip
    rename_i op vs p
    cases op <;> first | (simp [chk] at h; done) | skip
    match vs, h with
    | [], h => simp [chk] at h
    | [_], h => simp [chk] at h
    | [x, y], h =>
      simp only [chk, Bool.and_eq_true] at h
      have q := chk_ok a h.1 k
      have q2 := chk_ok b h.2 k
      exact ⟨fun ht => pe_andE (q.1 ht) (pe_one (q2.1 ht)), fun ht => (pw_andE (q.2 ht) (pw_and1 (q2.2 ht))).pt⟩
    | x :: y :: z :: r, h =>
      simp only [chk, Bool.and_eq_true] at h
      have q := chk_ok a h.1 k
      have q2 := chk_ok b h.2 k
      exact ⟨fun ht => pe_andE (q.1 ht) (q2.1 ht), fun ht => (pw_andE (q.2 ht) (pw_of_pt (q2.2 ht))).pt⟩
  | .or_ a b, t, C, e, X, W, h, k => by
    cases e <;> first | (simp [chk] at h; done) | skip
    rename_i op vs p
    cases op <;> first | (simp [chk] at h; done) | skip
    match vs, h with
    | [], h => simp [chk] at h
    | [_], h => simp [chk] at h
    | [x, y], h =>
      simp only [chk, Bool.and_eq_true] at h
      have q := chk_ok a h.1 k
      have q2 := chk_ok b h.2 k
      exact ⟨fun ht => pe_orE (q.1 ht) (pe_one (q2.1 ht)), fun ht => (pw_orE (q.2 ht) (pw_or1 (q2.2 ht))).pt⟩
    | x :: y :: z :: r, h =>
      simp only [chk, Bool.and_eq_true] at h
      have q := chk_ok a h.1 k
      have q2 := chk_ok b h.2 k
      exact ⟨fun ht => pe_orE (q.1 ht) (q2.1 ht), fun ht => (pw_orE (q.2 ht) (pw_of_pt (q2.2 ht))).pt⟩
  | .cmp op a b, t, C, e, X, W, h, k => by
    cases e <;> first | (simp [chk] at h; done) | skip
    rename_i l os rs p
    match os, rs, h with
    | [], _, h => simp [chk] at h
    | [_], [], h => simp [chk] at h
    | [_], _ :: _ :: _, h => simp [chk] at h
    | _ :: _ :: _, _, h => simp [chk] at h
    | [o], [r], h =>
      simp only [chk, Bool.and_eq_true, decide_eq_true_eq] at h
      obtain ⟨⟨⟨rfl, h1⟩, h2⟩, h3⟩ := h
      have qa := (chk_ok a h2 k).1 rfl
      have qb := (chk_ok b h3 k).1 rfl
      exact ⟨fun _ => pe_cmpE k.units qa qb (notSet_behind h1), fun _ => pt_cmpE k.units qa qb (notSet_behind h1)⟩
  | .chn op op' a b c, t, C, e, X, W, h, k => by
    cases e <;> first | (simp [chk] at h; done) | skip
    rename_i l os rs p
    match os, rs, h with
    | [], _, h => simp [chk] at h
    | [_], _, h => simp [chk] at h
    | _ :: _ :: _ :: _, _, h => simp [chk] at h
    | [_, _], [], h => simp [chk] at h
    | [_, _], [_], h => simp [chk] at h
    | [_, _], _ :: _ :: _ :: _, h => simp [chk] at h
    | [o, o'], [r, r'], h =>
      simp only [chk, Bool.and_eq_true, decide_eq_true_eq] at h
      obtain ⟨⟨⟨⟨⟨rfl, rfl⟩, h1⟩, h2⟩, h3⟩, h4⟩ := h
      have qa := (chk_ok a h2 k).1 rfl
      have qb := (chk_ok b h3 k).1 rfl
      have qc := (chk_ok c h4 k).1 rfl
      exact ⟨fun _ => pe_chnE k.units qa qb qc (notSet_behind h1), fun _ => pt_chnE k.units qa qb qc (notSet_behind h1)⟩
  | .ite c a b, t, C, e, X, W, h, k => by
    cases e <;> first | (simp [chk] at h; done) | skip
    simp only [chk, Bool.and_eq_true, Bool.not_eq_true'] at h
    obtain ⟨⟨⟨rfl, h1⟩, h2⟩, h3⟩ := h
    exact ⟨fun _ => pe_iteE ((chk_ok c h1 k).2 rfl) ((chk_ok a h2 k).1 rfl) ((chk_ok b h3 k).1 rfl), fun ht => nomatch ht⟩
  | .tup es, t, C, e, X, W, h, k => by
    cases e <;> first | (simp [chk] at h; done) | skip
    simp only [chk] at h
    exact both (pe_tupE (chks_ok es h k).1) fun _ => rfl
  | .lst es, t, C, e, X, W, h, k => by
    cases e <;> first | (simp [chk] at h; done) | skip
    simp only [chk] at h
    exact both (pe_lstE (chks_ok es h k).1) fun _ => rfl
  | .call j es ds, t, C, e, X, W, h, k => by
    cases e <;> first | (simp [chk] at h; done) | skip
    rename_i f xs kws p
    cases f <;> first | (simp [chk] at h; done) | skip
    cases kws <;> first | (simp [chk] at h; done) | skip
    simp only [chk, Bool.and_eq_true] at h
    obtain ⟨⟨⟨h1, h2⟩, h3⟩, h4⟩ := h
    obtain ⟨hm, ha⟩ := k.at h1
    have hp := chks_plain h4
    cases xs with
    | nil =>
      cases es with
      | nil => exact both (pe_call0E ha hm k.gu k.tk (k.gl h2) (okn_d h3)) fun _ => rfl
      | cons _ _ => simp [chks] at h4
    | cons y ys =>
      have hy : plainE y = true := by simp only [List.all_cons, Bool.and_eq_true] at hp; exact hp.1
      exact both (pe_callE ha hm k.gu k.tk (k.gl h2) (chks_ok es h4 k).2.2.1 (okn_d h3) (star_cons hy) (back_tail hp)) fun _ => rfl
  | .cvar m i es, t, C, e, X, W, h, k => by
    cases e <;> first | (simp [chk] at h; done) | skip
    rename_i f xs kws p
    cases f <;> first | (simp [chk] at h; done) | skip
    cases xs <;> first | (simp [chk] at h; done) | skip
    cases kws <;> first | (simp [chk] at h; done) | skip
    simp only [chk, Bool.and_eq_true, decide_eq_true_eq] at h
    obtain ⟨⟨⟨⟨h1, h2⟩, h3⟩, h4⟩, h5⟩ := h
    have hp := chks_plain h5
    have hy := hp
    simp only [List.all_cons, Bool.and_eq_true] at hy
    exact both (pe_cvarE (fun j hj e => k.lv j (Nat.lt_of_lt_of_le hj h1) e) k.gu k.tk (by rw [k.N]; exact h2) (k.vis h3) (chks_ok es h5 k).2.2.1 (okn_d h4) (okn_c h4) (star_cons hy.1) (back_tail hp)) fun _ => rfl
  | .bi b es, t, C, e, X, W, h, k => by
    cases e <;> first | (simp [chk] at h; done) | skip
    rename_i f xs kws p
    cases f <;> first | (simp [chk] at h; done) | skip
    cases kws <;> first | (simp [chk] at h; done) | skip
    have gen : ∀ {x : Str} {q : Pos} {y : Expr} {ys : List Expr}, (biOk b && decide (x = biN b) && known C x && chks es 0 C (y :: ys)) = true → (t = false → PE X (.Call (.Name x q) (y :: ys) [] p) (tE X.K T W (.bi b es))) ∧ (t = true → PT X (.Call (.Name x q) (y :: ys) [] p) (tT X.K T W (.bi b es))) := fun {x q y ys} h => by
      simp only [Bool.and_eq_true, decide_eq_true_eq] at h
      obtain ⟨⟨⟨h1, rfl⟩, h3⟩, h4⟩ := h
      obtain ⟨g, m⟩ := k.known h3
      have hp := chks_plain h4
      have hy := hp
      simp only [List.all_cons, Bool.and_eq_true] at hy
      rcases cr_bi (T := T) h1 k.calm k.gu k.un with ⟨id, c, bo⟩ | ⟨id, c, bo⟩
      · exact both (pe_biB c g m bo (chks_ok es h4 k).2.1 biN_ok.1 biN_ok.2 (star_cons hy.1) (back_tail hp)) fun _ => rfl
      · exact both (pe_biT c g m bo (chks_ok es h4 k).2.1 biN_ok.1 biN_ok.2 (star_cons hy.1) (back_tail hp)) fun _ => rfl
    cases b with
    | isin kk =>
      cases es with
      | nil => cases xs <;> (simp [chk, biOk] at h)
      | cons c es' =>
        cases es' with
        | cons _ _ => cases xs <;> (simp [chk, biOk] at h)
        | nil =>
          match xs, h with
          | [], h => simp [chk] at h
          | [_], h => simp [chk, biOk] at h
          | _ :: _ :: _ :: _, h => simp [chk, biOk] at h
          | [a, y], h =>
            cases y <;> first | (simp [chk, biOk] at h; done) | skip
            simp only [chk, Bool.and_eq_true, decide_eq_true_eq] at h
            obtain ⟨⟨⟨⟨⟨⟨rfl, h1⟩, h2⟩, rfl⟩, h3⟩, h4⟩, h5⟩ := h
            obtain ⟨g, m⟩ := k.known h1
            obtain ⟨g2, m2⟩ := k.known h3
            exact both (pe_isinE h2 g m g2 m2 h4 ((chk_ok c h5 k).1 rfl)) fun _ => rfl
    | _ =>
      cases xs <;> first | (simp [chk] at h; done) | skip
      simp only [chk] at h
      exact gen h
  | .mt m a es, t, C, e, X, W, h, k => by
    cases e <;> (simp [chk] at h)
  | .ix a b, t, C, e, X, W, h, k => by
    cases e <;> first | (simp [chk] at h; done) | skip
    simp only [chk, Bool.and_eq_true] at h
    exact both (pe_ixE ((chk_ok a h.1.2 k).1 rfl) ((chk_ok b h.2 k).1 rfl) (plain_ix h.1.1)) fun _ => rfl
  | .sli a lo hi, t, C, e, X, W, h, k => by
    cases e <;> first | (simp [chk] at h; done) | skip
    rename_i o i p
    cases i <;> first | (simp [chk] at h; done) | skip
    rename_i l hh st p2
    cases st <;> first | (simp [chk] at h; done) | skip
    simp only [chk, Bool.and_eq_true] at h
    exact both (pe_sliE ((chk_ok a h.1.1 k).1 rfl) (chkO_ok lo h.1.2 k) (chkO_ok hi h.2 k)) fun _ => rfl
  | .rev a, t, C, e, X, W, h, k => by
    cases e <;> (simp [chk] at h)
  | .comp own tg it c e', t, C, e, X, W, h, k => by
    cases e <;> first | (simp [chk] at h; done) | skip
    rename_i elt gens scope p
    match gens, h with
    | [], h => simp [chk] at h
    | _ :: _ :: _, h => simp [chk] at h
    | [⟨tgt, iter, ifs, z⟩], h =>
      simp only [chk, Bool.and_eq_true, decide_eq_true_eq, List.all_eq_true] at h
      obtain ⟨⟨⟨⟨⟨⟨⟨rfl, h1⟩, h2⟩, h3⟩, h4⟩, h5⟩, h6⟩, h7⟩ := h
      have ok := blkOk_by h3
      have ok' : BlkOk X.N X.env.scope scope (own.map fun i => ((C.N[i]?).getD "", i)) := ⟨ok.kind, ok.uniq, by rw [k.N]; exact ok.ix, by rw [k.nm]; exact ok.free, by rw [k.N]; exact ok.own⟩
      have kb := fun (s : Shared) (H : Hp) (Ca : Addr) (cl : List (Str × Addr)) (fp : List Addr) => k.blk (s := s) (H := H) (Ca := Ca) (cl := cl) (fp := fp) ok.kind
      have := pe_compE (X := X) (T := T) (W := W) (W' := W0) (pos := p) k.calm k.nd (chkI_ok it h2 k) ok' (fun s H Ca cl fp => chkG_ok tg h5 (kb s H Ca cl fp)) (fun s H Ca cl fp => chkC_ok c h6 (kb s H Ca cl fp))
        (fun s H Ca cl fp => (chk_ok e' h7 (kb s H Ca cl fp)).1 rfl) (notSet_fold h1) (by rw [own_map]; exact fun i hi => by simpa using h4 i hi)
      rw [own_map] at this
      exact both this fun _ => rfl
theorem chks_ok : ∀ (es : Es) {n : Nat} {C : Ck} {xs : List Expr} {X : Cx} {W : WX}, chks es n C xs = true → CkOk X T W C → PA X xs (tK X.K T W es) ∧ PA X xs (tP X.K T W es) ∧ PA X xs (tA X.K T W es) ∧ PA X xs (tSt X.K T W es)
  | .nil, n, C, xs, X, W, h, k => by
    cases xs with
    | nil => exact ⟨pa_nilK, pa_nilP, pa_nilA, pa_nilS⟩
    | cons _ _ => simp [chks] at h
  | .cons e es, n, C, xs, X, W, h, k => by
    cases xs with
    | nil => simp [chks] at h
    | cons x xs =>
      simp only [chks, Bool.and_eq_true] at h
      have he := (chk_ok e h.1.2 k).1 rfl
      obtain ⟨a, b, c, d⟩ := chks_ok es h.2 k
      have hs := star_cons (es := xs) (env := X.env) h.1.1
      exact ⟨pa_consK he a hs, pa_consP he b hs, pa_consA he c hs, pa_consS he d hs⟩
theorem chkO_ok : ∀ (o : Oe) {C : Ck} {e : Option Expr} {X : Cx} {W : WX}, chkO o C e = true → CkOk X T W C → PO X e (tO X.K T W o)
  | .none, C, e, X, W, h, k => by
    cases e with
    | none => exact po_noneE
    | some _ => simp [chkO] at h
  | .some c, C, e, X, W, h, k => by
    cases e with
    | none => simp [chkO] at h
    | some x =>
      simp only [chkO] at h
      exact po_someE ((chk_ok c h k).1 rfl)
theorem chkC_ok : ∀ (o : Oe) {C : Ck} {es : List Expr} {X : Cx} {W : WX}, chkC o C es = true → CkOk X T W C → PTs X es (tC X.K T W o)
  | .none, C, es, X, W, h, k => by
    cases es with
    | nil => exact pts_nilC
    | cons _ _ => simp [chkC] at h
  | .some c, C, es, X, W, h, k => by
    match es, h with
    | [], h => simp [chkC] at h
    | _ :: _ :: _, h => simp [chkC] at h
    | [x], h =>
      simp only [chkC] at h
      exact pts_oneC ((chk_ok c h k).2 rfl)
theorem chkI_ok : ∀ (it : Iter) {C : Ck} {tg e : Expr} {X : Cx} {W : WX}, chkI it C tg e = true → CkOk X T W C → PI X tg e (tI X.K T W it)
  | .seq c, C, tg, e, X, W, h, k => by
    simp only [chkI] at h
    exact pi_seqE ((chk_ok c h k).1 rfl)
  | .rng es, C, tg, e, X, W, h, k => by
    cases e <;> first | (simp [chkI] at h; done) | skip
    rename_i f xs kws p
    cases f <;> first | (simp [chkI] at h; done) | skip
    cases xs <;> first | (simp [chkI] at h; done) | skip
    cases kws <;> first | (simp [chkI] at h; done) | skip
    rename_i x q y ys
    simp only [chkI, Bool.and_eq_true, decide_eq_true_eq] at h
    obtain ⟨⟨⟨rfl, h1⟩, h2⟩, h3⟩ := h
    obtain ⟨g, m⟩ := k.known h1
    have hp := chks_plain h3
    have ha := (chks_ok es h3 k).1
    match ys, es, h2, h3, hp, ha with
    | [], .cons a .nil, h2, h3, hp, ha =>
      simp only [List.all_cons, Bool.and_eq_true] at hp
      exact pi_rng1E g m ha (star_cons hp.1)
    | [y2], .cons a (.cons b .nil), h2, h3, hp, ha =>
      simp only [List.all_cons, Bool.and_eq_true] at hp
      exact pi_rng2E g m ha (by rw [star_cons hp.1, star_cons hp.2.1]; rfl) (star_cons hp.2.1)
    | [y2, y3], .cons a (.cons b (.cons d .nil)), h2, h3, hp, ha =>
      have hp' := hp
      simp only [List.all_cons, Bool.and_eq_true] at hp'
      exact pi_rng3E g m ha (star_cons hp'.1) (back_tail hp)
    | _, .nil, h2, h3, hp, ha => simp [chks] at h3
    | [], .cons a (.cons b r), h2, h3, hp, ha => simp [chks] at h3
    | [_], .cons a .nil, h2, h3, hp, ha => simp [chks] at h3
    | [_], .cons a (.cons b (.cons c r)), h2, h3, hp, ha => simp [chks] at h3
    | [_, _], .cons a .nil, h2, h3, hp, ha => simp [chks] at h3
    | [_, _], .cons a (.cons b .nil), h2, h3, hp, ha => simp [chks] at h3
    | [_, _], .cons a (.cons b (.cons c (.cons d r))), h2, h3, hp, ha => simp [chks] at h3
    | _ :: _ :: _ :: _, _, h2, h3, hp, ha => simp at h2; omega
  | .enum c, C, tg, e, X, W, h, k => by
    cases tg <;> first | (simp [chkI] at h; done) | skip
    cases e <;> first | (simp [chkI] at h; done) | skip
    rename_i f xs kws p
    cases f <;> first | (simp [chkI] at h; done) | skip
    match xs, kws, h with
    | [], _, h => simp [chkI] at h
    | _ :: _ :: _, _, h => simp [chkI] at h
    | [_], _ :: _, h => simp [chkI] at h
    | [y], [], h =>
      simp only [chkI, Bool.and_eq_true, decide_eq_true_eq] at h
      obtain ⟨⟨⟨rfl, h1⟩, h2⟩, h3⟩ := h
      obtain ⟨g, m⟩ := k.known h1
      exact pi_enumE g m ((chk_ok c h3 k).1 rfl) (star_cons h2)
  | .zip es, C, tg, e, X, W, h, k => by simp [chkI] at h
end
end
end RB

set_option linter.all false
set_option maxHeartbeats 4000000
namespace RB
open PySem L2 PySem.Spec PyProof.Rows
open PySem.W (Frag)

def swB (nm : List (Str × NameKind)) (scope : Scope) (pos : Pos) (y : Str) (py : Pos) : Bool :=
  nm.lookup y == some .local && py.line == pos.line && !(scope.names.any fun (n, k) => n == y && (k == .local || k == .cell))
theorem sw_eq {elt : Expr} {gs : List Comprehension} {scope : Scope} {pos py : Pos} {y : Str} {l : Nat} {env : PySem.Env} (hk : env.scope.kind = .function) : swapsWith (.ListComp elt gs scope pos) (some (.Name y py)) l env = pure (swB env.scope.names scope pos y py) := by
  have hb : env.blockKind = .function := by unfold Env.blockKind; rw [hk]; rfl
  unfold swapsWith swB
  simp [hb, Env.kindOf, Expr.pos]
theorem sw_not {e : Expr} {tg : Option Expr} {l : Nat} {env : PySem.Env} (h : isComp e = false) : swapsWith e tg l env = pure false := by
  cases e <;> first | rfl | cases h
def isName : Expr → Bool
  | .Name .. => true
  | _ => false
theorem sw_tg {e tg : Expr} {l : Nat} {env : PySem.Env} (h : isName tg = false) : swapsWith e (some tg) l env = pure false := by
  cases e <;> first | rfl | (cases tg <;> first | rfl | cases h)

theorem sws_tg {e tg : Expr} {l : Nat} {env : PySem.Env} (h : isName tg = false) : swapsWithSole [tg] e l env = pure false := by
  unfold swapsWithSole
  exact sw_tg h
theorem ff {P : Prop} (h : false = true) : P := nomatch h
/-- the pair of targets and values is stored from the left -/
def notLoc (nm : List (Str × NameKind)) : Expr → Bool
  | .Name x _ => !(nm.lookup x == some .local)
  | _ => true
def noSw (nm : List (Str × NameKind)) (ts : List Expr) : Expr → Bool
  | .Tuple vs _ _ => !(ts.length == 2 || ts.length == 3) || vs.length != ts.length || vs.all (foldedForSure 8) || ts.any (notLoc nm)
  | _ => true
theorem few_names {α β : Type} {f : α → Option β} : ∀ {l : List α}, (∃ x ∈ l, f x = none) → (l.filterMap f).length ≠ l.length
  | [], ⟨_, h, _⟩ => by simp at h
  | a :: l, ⟨x, h, e⟩ => by
    have le := List.length_filterMap_le f l
    cases q : f a with
    | none => simp only [List.filterMap_cons, q, List.length_cons]; omega
    | some b =>
      rcases List.mem_cons.mp h with rfl | h
      · rw [q] at e; cases e
      · have := few_names (f := f) ⟨x, h, e⟩
        simp only [List.filterMap_cons, q, List.length_cons]
        omega
theorem noSw_ok {ts : List Expr} {k : Nat} {q : Pos} {e : Expr} {env : PySem.Env} (h : noSw env.scope.names ts e = true) : swappedStores [.Tuple ts k q] e env = pure none := by
  cases e <;> first | rfl | skip
  rename_i vs k2 q2
  simp only [noSw, Bool.or_eq_true] at h
  unfold swappedStores
  simp only [bind_assoc, pure_bind]
  by_cases c1 : (!(ts.length == 2 || ts.length == 3) || vs.length != ts.length || env.blockKind != .function) = true
  · rw [if_pos c1]
  · rw [if_neg c1]
    have h3 : vs.all (foldedForSure 8) = true ∨ ts.any (notLoc env.scope.names) = true := by
      rcases h with ((h | h) | h) | h
      · exact absurd (by rw [h]; rfl) c1
      · exact absurd (by rw [h]; simp) c1
      · exact .inl h
      · exact .inr h
    split
    · rfl
    · split
      · rfl
      · rename_i hn
        rcases h3 with h3 | h3
        · rw [if_pos h3]
        · exfalso
          apply hn
          rw [Bool.or_eq_true]
          left
          obtain ⟨t, ht, hl⟩ := List.any_eq_true.mp h3
          simp only [bne_iff_ne]
          refine few_names ⟨t, ht, ?_⟩
          cases t <;> first | rfl | skip
          rename_i x px
          simp only [notLoc, Bool.not_eq_true'] at hl
          have hl : (env.kindOf x == some NameKind.local) = false := hl
          simp [hl]
theorem noSw_nt {t : Expr} {e : Expr} {env : PySem.Env} (h : (match t with | .Tuple .. => false | .List .. => false | _ => true) = true) : swappedStores [t] e env = pure none := by
  cases t <;> first | rfl | cases h
def parOk (C : Ck) : List Nat → List Expr → Bool
  | [i, j], [.Name x px, .Name y py] => decide (C.N[i]? = some x) && decide (C.N[j]? = some y) && decide (i ≠ j) && decide (C.nm.lookup x = some .local) && decide (C.nm.lookup y = some .local) && decide (px.line = py.line) && !(x == y)
  | [i, j, l], [.Name x px, .Name y py, .Name z pz] => decide (C.N[i]? = some x) && decide (C.N[j]? = some y) && decide (C.N[l]? = some z) && decide (i ≠ j) && decide (i ≠ l) && decide (j ≠ l) &&
      decide (C.nm.lookup x = some .local) && decide (C.nm.lookup y = some .local) && decide (C.nm.lookup z = some .local) && decide (px.line = py.line) && decide (px.line = pz.line) && !(x == y) && !(x == z) && !(y == z)
  | _, _ => false
def notAll (vs : List Expr) : Bool := !vs.all (foldedForSure 8) && !vs.all (constantsAlone 8) && vs.all plainE
theorem noStar {vs : List Expr} (h : vs.all plainE = true) : (vs.any fun | .Starred .. => true | _ => false) = false := by
  induction vs with
  | nil => rfl
  | cons v vs ih =>
    simp only [List.all_cons, Bool.and_eq_true] at h
    simp only [List.any_cons, ih h.2, Bool.or_false]
    cases v <;> first | rfl | (simp [plainE] at h)
theorem beq_sw {x y : Str} (h : (x == y) = false) : (y == x) = false := by
  cases q : (y == x) with
  | false => rfl
  | true => rw [eq_of_beq q] at h; rw [beq_self_eq_true] at h; cases h
theorem sw2 {x y : Str} {px py q q2 : Pos} {k k2 : Nat} {a b : Expr} {env : PySem.Env} (hk : env.scope.kind = .function) (hx : env.scope.names.lookup x = some .local) (hy : env.scope.names.lookup y = some .local) (hl : px.line = py.line) (hne : (x == y) = false) (hn : notAll [a, b] = true) :
    swappedStores [.Tuple [.Name x px, .Name y py] k q] (.Tuple [a, b] k2 q2) env = pure (some [x, y]) := by
  have hb : env.blockKind = .function := by unfold Env.blockKind; rw [hk]; rfl
  unfold notAll at hn
  simp only [Bool.and_eq_true, Bool.not_eq_true'] at hn
  have hs := noStar hn.2
  have hne' := beq_sw hne
  unfold swappedStores
  simp only [List.any_cons, List.any_nil, Bool.or_false, Bool.or_eq_false_iff] at hs
  simp [hb, hn.1.1, hn.1.2, Env.kindOf, hx, hy, hl, Expr.pos, List.eraseDups_cons, hne, hne', List.filter]
  have hp := hn.2
  simp only [List.all_cons, List.all_nil, Bool.and_true, Bool.and_eq_true] at hp
  intro h
  exfalso
  rcases h with h | h
  · have hp := hp.1; cases a <;> first | (cases h; done) | (cases hp; done)
  · have hp := hp.2; cases b <;> first | (cases h; done) | (cases hp; done)
theorem sw3 {x y z : Str} {px py pz q q2 : Pos} {k k2 : Nat} {a b c : Expr} {env : PySem.Env} (hk : env.scope.kind = .function) (hx : env.scope.names.lookup x = some .local) (hy : env.scope.names.lookup y = some .local) (hz : env.scope.names.lookup z = some .local) (hl : px.line = py.line) (hl2 : px.line = pz.line) (hne : (x == y) = false) (hxz : (x == z) = false) (hyz : (y == z) = false) (hn : notAll [a, b, c] = true) :
    swappedStores [.Tuple [.Name x px, .Name y py, .Name z pz] k q] (.Tuple [a, b, c] k2 q2) env = pure (some [x, y, z]) := by
  have hb : env.blockKind = .function := by unfold Env.blockKind; rw [hk]; rfl
  unfold notAll at hn
  simp only [Bool.and_eq_true, Bool.not_eq_true'] at hn
  have hs := noStar hn.2
  have hne' := beq_sw hne
  have hxz' := beq_sw hxz
  have hyz' := beq_sw hyz
  unfold swappedStores
  simp only [List.any_cons, List.any_nil, Bool.or_false, Bool.or_eq_false_iff] at hs
  simp [hb, hn.1.1, hn.1.2, Env.kindOf, hx, hy, hz, ← hl, ← hl2, Expr.pos, List.eraseDups_cons, hne, hne', hxz, hxz', hyz, hyz', List.filter]
  have hp := hn.2
  simp only [List.all_cons, List.all_nil, Bool.and_true, Bool.and_eq_true] at hp
  intro h
  exfalso
  rcases h with h | h | h
  · have hp := hp.1; cases a <;> first | (cases h; done) | (cases hp; done)
  · have hp := hp.2.1; cases b <;> first | (cases h; done) | (cases hp; done)
  · have hp := hp.2.2; cases c <;> first | (cases h; done) | (cases hp; done)

structure StOk (X : Cx) (T : Tb) (W : WX) (C : Ck) : Prop where
  k : CkOk X T W C
  hp : PassesOwn (model X.prog X.w) X.A X.env X.xe
  fn : ∀ x, X.fn x = true
  ne : ∀ k, (T.EX k).isSome = false

def cSet (i : Nat) (c : E) (l : Nat → Bool) (C : Ck) : List Expr → Expr → Bool
  | [.Name x _], e => l i && decide (C.N[i]? = some x) && lcl C.nm x && chk c false C e
  | _, _ => false
def cAsg (g : Tg) (c : E) (l : Nat → Bool) (C : Ck) : List Expr → Expr → Bool
  | [.Tuple ts k q], e => g.sl.all l && chkG g C (.Tuple ts k q) && chk c false C e && noSw C.nm ts e
  | _, _ => false
def cPar (is : List Nat) (es : Es) (l : Nat → Bool) (C : Ck) : List Expr → Expr → Bool
  | [.Tuple ts _ _], .Tuple vs _ _ => is.all l && parOk C is ts && decide (vs.length = ts.length) && notAll vs && chks es 0 C vs
  | _, _ => false
def cIx (i : Nat) (a c : E) (C : Ck) : List Expr → Expr → Bool
  | [.Subscript (.Name x _) ae _], e => decide (C.N[i]? = some x) && vis C.nm x && okn x && !isSlice ae && chk a false C ae && chk c false C e
  | _, _ => false
mutual
def chkS : S → (Nat → Bool) → Ck → Stmt → Bool
  | .pass, _, _, .Pass _ => true
  | .brk, _, _, .Break _ => true
  | .cont, _, _, .Continue _ => true
  | .set i c, l, C, .Assign ts e _ => cSet i c l C ts e
  | .asg g c, l, C, .Assign ts e _ => cAsg g c l C ts e
  | .par is es, l, C, .Assign ts e _ => cPar is es l C ts e
  | .setix i a c, _, C, .Assign ts e _ => cIx i a c C ts e
  | .augv i op c, l, C, .AugAssign (.Name x _) o e _ => l i && decide (C.N[i]? = some x) && lcl C.nm x && decide (o = bop op) && chk c false C e
  | .app i c, _, C, .Expr (.Call (.Attribute (.Name x _) m ap) [e] [] s1) _ => decide (m = ("append" : Str)) && decide (C.N[i]? = some x) && vis C.nm x && okn x && plainE e && (ap.endLine == s1.line) && chk c false C e
  | .ext i c, _, C, .Expr (.Call (.Attribute (.Name x _) m ap) [e] [] s1) _ => decide (m = ("extend" : Str)) && decide (C.N[i]? = some x) && vis C.nm x && okn x && plainE e && (ap.endLine == s1.line) && chk c false C e
  | .drop c, _, C, .Expr e _ => !isComp e && chk c false C e
  | .ret c, _, C, .Return (some e) _ => chk c false C e
  | .retn, _, _, .Return none _ => true
  | .iff c a b, l, C, .If e x y _ => chk c true C e && chkSs a l C x && chkSs b l C y
  | .whl c b, l, C, .While e x [] _ => chk c true C e && chkSs b l C x
  | .forr g it b, l, C, .For t e x [] _ => g.sl.all l && chkG g C t && chkI it C t e && !isSet e && chkSs b l C x
  | .rais _ _, _, _, .Raise .. => true
  | _, _, _, _ => false
def chkSs : Ss → (Nat → Bool) → Ck → List Stmt → Bool
  | .nil, _, _, [] => true
  | .cons s ss, l, C, x :: xs => chkS s l C x && chkSs ss l C xs
  | _, _, _, _ => false
end
section
variable {T : Tb}
theorem comp_parts {own : List Nat} {tg : Tg} {it : Iter} {c : Oe} {e' : E} {C : Ck} {elt tgt iter : Expr} {ifs : List Expr} {z : Int} {scope : Scope} {p : Pos} {X : Cx} {W : WX} (h : chk (.comp own tg it c e') false C (.ListComp elt [⟨tgt, iter, ifs, z⟩] scope p) = true) (k : CkOk X T W C) :
    z = 0 ∧ PI X tgt iter (tI X.K T W it) ∧ BlkOk X.N X.env.scope scope (own.map fun i : Nat => ((C.N[i]?).getD "", i)) ∧ (∀ (s : Shared) (H : Hp) (Ca : Addr) (cl : List (Str × Addr)) (fp : List Addr), PG (X.blk s H scope (compEnvC scope cl Ca X.env) fp) tgt (gE X.K T tg)) ∧
    (∀ (s : Shared) (H : Hp) (Ca : Addr) (cl : List (Str × Addr)) (fp : List Addr), PTs (X.blk s H scope (compEnvC scope cl Ca X.env) fp) ifs (tC X.K T W0 c)) ∧
    (∀ (s : Shared) (H : Hp) (Ca : Addr) (cl : List (Str × Addr)) (fp : List Addr), PE (X.blk s H scope (compEnvC scope cl Ca X.env) fp) elt (tE X.K T W0 e')) ∧ (∀ x, foldedSetIterable iter X.env x = pure x) ∧ ∀ i ∈ tg.sl, i ∈ own := by
  simp only [chk, Bool.and_eq_true, decide_eq_true_eq, List.all_eq_true] at h
  obtain ⟨⟨⟨⟨⟨⟨⟨rfl, h1⟩, h2⟩, h3⟩, h4⟩, h5⟩, h6⟩, h7⟩ := h
  have ok := blkOk_by h3
  have kb := fun (s : Shared) (H : Hp) (Ca : Addr) (cl : List (Str × Addr)) (fp : List Addr) => k.blk (s := s) (H := H) (Ca := Ca) (cl := cl) (fp := fp) ok.kind
  exact ⟨rfl, chkI_ok it h2 k, ⟨ok.kind, ok.uniq, by rw [k.N]; exact ok.ix, by rw [k.nm]; exact ok.free, by rw [k.N]; exact ok.own⟩, fun s H Ca cl fp => chkG_ok tg h5 (kb s H Ca cl fp), fun s H Ca cl fp => chkC_ok c h6 (kb s H Ca cl fp),
    fun s H Ca cl fp => (chk_ok e' h7 (kb s H Ca cl fp)).1 rfl, notSet_fold h1, fun i hi => by simpa using h4 i hi⟩
theorem set_ok {i : Nat} {c : E} {loc : Nat → Bool} {C : Ck} {x : Str} {q pos : Pos} {e : Expr} {X : Cx} {W : WX} (hl : loc i = true) (hi : C.N[i]? = some x) (hx : lcl C.nm x = true) (h : chk c false C e = true) (k : StOk X T W C) : PS X (.Assign [.Name x q] e pos) (tS X.K T W loc (.set i c)) := by
  have gen : swapsWith e (some (.Name x q)) pos.line X.env = pure false → PS X (.Assign [.Name x q] e pos) (tS X.K T W loc (.set i c)) := fun hs =>
    ps_setS hl k.k.nd (by rw [k.k.N]; exact hi) (k.k.lcl hx) ((chk_ok c h k.k).1 rfl) hs (.inl (k.fn x))
  cases hcomp : isComp e with
  | false => exact gen (sw_not hcomp)
  | true =>
    cases e <;> first | (cases hcomp; done) | skip
    · rename_i elt gs scope p
      cases hb : swB X.env.scope.names scope p x q with
      | false => exact gen (by rw [sw_eq k.k.kd, hb])
      | true =>
        cases c <;> first | (simp [chk] at h; done) | skip
        rename_i own tg it cc ce
        match gs, h with
        | [], h => simp [chk] at h
        | _ :: _ :: _, h => simp [chk] at h
        | [⟨tgt, iter, ifs, z⟩], h =>
          obtain ⟨rfl, a1, a2, a3, a4, a5, a6, a7⟩ := comp_parts h k.k
          have hloc : X.env.scope.names.lookup x = some .local := by
            unfold swB at hb
            simp only [Bool.and_eq_true] at hb
            exact eq_of_beq hb.1.1
          have := ps_setLcS (X := X) (T := T) (W := W) (W' := W0) (py := q) (spos := pos) (pos := p) hl k.k.calm k.k.nd (by rw [k.k.N]; exact hi) hloc (by rw [sw_eq k.k.kd, hb]) a1 a2 a3 a4 a5 a6 (by rw [own_map]; exact a7)
          rw [own_map] at this
          exact this
    · cases c <;> (simp [chk] at h)
    · cases c <;> (simp [chk] at h)
theorem attr_base {x m : Str} {p : Pos} {env : PySem.Env} {w : Sem Value} : attributeBase (.Name x p) m env w = w := rfl
theorem few1 {e : Expr} {s1 : Pos} {env : PySem.Env} (h : plainE e = true) : ((backTo s1 (starEach [e] env)).all (fun x => !x.1) && (backToKw s1 (keywordEach [] env)).all (fun x => x.1.isSome) && decide (([e] : List Expr).length + ([] : List Keyword).length + (if ([] : List Keyword).isEmpty then 0 else 1) < 30)) = true := by
  rw [star_cons h]
  rfl
theorem assign_sub {o i : Expr} {p : Pos} {env : PySem.Env} (h : (!isSlice i) = true) (v : Value) : assign (.Subscript o i p) env v = (do
      let ov ← holding [v] (eval o env)
      let iv ← holding [v, ov] (eval i env)
      standAt p
      holding [v, ov, iv] (setItem ov iv v)
      release [v, ov, iv] []) := by
  cases i <;> first | rfl | cases h
mutual
theorem chkS_ok : ∀ (s : S) {loc : Nat → Bool} {C : Ck} {st : Stmt} {X : Cx} {W : WX}, chkS s loc C st = true → StOk X T W C → PS X st (tS X.K T W loc s)
  | .pass, loc, C, st, X, W, h, k => by
    cases st <;> first | (simp [chkS] at h; done) | skip
    exact ps_passS
  | .brk, loc, C, st, X, W, h, k => by
    cases st <;> first | (simp [chkS] at h; done) | skip
    exact ps_brkS
  | .cont, loc, C, st, X, W, h, k => by
    cases st <;> first | (simp [chkS] at h; done) | skip
    exact ps_contS
  | .set i c, loc, C, st, X, W, h, k => by
    cases st <;> first | (simp [chkS] at h; done) | skip
    simp only [chkS] at h
    unfold cSet at h
    split at h
    · simp only [Bool.and_eq_true, decide_eq_true_eq] at h
      exact set_ok h.1.1.1 h.1.1.2 h.1.2 h.2 k
    · cases h
  | .asg g c, loc, C, st, X, W, h, k => by
    cases st <;> first | (simp [chkS] at h; done) | skip
    simp only [chkS] at h
    unfold cAsg at h
    split at h
    · simp only [Bool.and_eq_true, List.all_eq_true] at h
      exact ps_asgS h.1.1.1 ((chk_ok c h.1.2 k.k).1 rfl) (chkG_ok g h.1.1.2 k.k) (sws_tg rfl) (noSw_ok (by rw [k.k.nm]; exact h.2)) rfl
    · cases h
  | .par is es, loc, C, st, X, W, h, k => by
    cases st <;> first | (simp [chkS] at h; done) | skip
    simp only [chkS] at h
    unfold cPar at h
    split at h
    · rename_i ts kk q vs k2 q2
      simp only [Bool.and_eq_true, decide_eq_true_eq, List.all_eq_true] at h
      obtain ⟨⟨⟨⟨h1, h2⟩, h3⟩, h4⟩, h5⟩ := h
      have ha := (chks_ok es h5 k.k).2.2.2
      unfold parOk at h2
      split at h2
      · rename_i i j x px y py
        simp only [Bool.and_eq_true, decide_eq_true_eq, Bool.not_eq_true'] at h2
        obtain ⟨⟨⟨⟨⟨⟨g1, g2⟩, g3⟩, g4⟩, g5⟩, g6⟩, g7⟩ := h2
        match vs, h3, h4, ha with
        | [a, b], _, h4, ha =>
          have l1 := g4
          have l2 := g5
          rw [← k.k.nm] at l1 l2
          exact ps_par2S h1 k.k.calm k.k.nd (by rw [k.k.N]; exact g1) (by rw [k.k.N]; exact g2) g3 l1 l2 ha (sw2 k.k.kd l1 l2 g6 g7 h4)
        | [], h3, _, _ => simp at h3
        | [_], h3, _, _ => simp at h3
        | _ :: _ :: _ :: _, h3, _, _ => simp at h3
      · rename_i i j l x px y py z pz
        simp only [Bool.and_eq_true, decide_eq_true_eq, Bool.not_eq_true'] at h2
        obtain ⟨⟨⟨⟨⟨⟨⟨⟨⟨⟨⟨⟨⟨g1, g2⟩, g3⟩, g4⟩, g5⟩, g6⟩, g7⟩, g8⟩, g9⟩, g10⟩, g11⟩, g12⟩, g13⟩, g14⟩ := h2
        match vs, h3, h4, ha with
        | [a, b, c], _, h4, ha =>
          have l1 := g7
          have l2 := g8
          have l3 := g9
          rw [← k.k.nm] at l1 l2 l3
          exact ps_par3S h1 k.k.calm k.k.nd (by rw [k.k.N]; exact g1) (by rw [k.k.N]; exact g2) (by rw [k.k.N]; exact g3) g4 g5 g6 l1 l2 l3 ha (sw3 k.k.kd l1 l2 l3 g10 g11 g12 g13 g14 h4)
        | [], h3, _, _ => simp at h3
        | [_], h3, _, _ => simp at h3
        | [_, _], h3, _, _ => simp at h3
        | _ :: _ :: _ :: _ :: _, h3, _, _ => simp at h3
      · cases h2
    · cases h
  | .setix i a c, loc, C, st, X, W, h, k => by
    cases st <;> first | (simp [chkS] at h; done) | skip
    simp only [chkS] at h
    unfold cIx at h
    split at h
    · simp only [Bool.and_eq_true, decide_eq_true_eq] at h
      obtain ⟨⟨⟨⟨⟨h1, h2⟩, h3⟩, h4⟩, h5⟩, h6⟩ := h
      exact ps_setixS (by rw [k.k.N]; exact h1) (k.k.vis h2) (okn_d h3) (okn_c h3) ((chk_ok c h6 k.k).1 rfl) ((chk_ok a h5 k.k).1 rfl) (assign_sub h4) (sws_tg rfl) (noSw_nt rfl)
    · cases h
  | .augv i op c, loc, C, st, X, W, h, k => by
    cases st <;> first | (simp [chkS] at h; done) | skip
    rename_i t o e p
    cases t <;> first | (simp [chkS] at h; done) | skip
    simp only [chkS, Bool.and_eq_true, decide_eq_true_eq] at h
    obtain ⟨⟨⟨⟨h1, h2⟩, h3⟩, rfl⟩, h5⟩ := h
    exact ps_augS' h1 k.k.nd (by rw [k.k.N]; exact h2) (k.k.lcl h3) ((chk_ok c h5 k.k).1 rfl) (.inl (k.fn _))
  | .augix i a op c, loc, C, st, X, W, h, k => by
    cases st <;> (simp [chkS] at h)
  | .app i c, loc, C, st, X, W, h, k => by
    cases st <;> first | (simp [chkS] at h; done) | skip
    rename_i e p
    cases e <;> first | (simp [chkS] at h; done) | skip
    rename_i f xs kws q
    cases f <;> first | (simp [chkS] at h; done) | skip
    rename_i o m ap
    cases o <;> first | (simp [chkS] at h; done) | skip
    match xs, kws, h with
    | [], _, h => simp [chkS] at h
    | _ :: _ :: _, _, h => simp [chkS] at h
    | [_], _ :: _, h => simp [chkS] at h
    | [e], [], h =>
      simp only [chkS, Bool.and_eq_true, decide_eq_true_eq] at h
      obtain ⟨⟨⟨⟨⟨⟨rfl, h1⟩, h2⟩, h3⟩, h4⟩, h5⟩, h6⟩ := h
      exact ps_appS (by rw [k.k.N]; exact h1) (k.k.vis h2) (okn_d h3) (okn_c h3) ((chk_ok c h6 k.k).1 rfl) attr_base (few1 h4) h5 (star_cons h4) rfl
  | .ext i c, loc, C, st, X, W, h, k => by
    cases st <;> first | (simp [chkS] at h; done) | skip
    rename_i e p
    cases e <;> first | (simp [chkS] at h; done) | skip
    rename_i f xs kws q
    cases f <;> first | (simp [chkS] at h; done) | skip
    rename_i o m ap
    cases o <;> first | (simp [chkS] at h; done) | skip
    match xs, kws, h with
    | [], _, h => simp [chkS] at h
    | _ :: _ :: _, _, h => simp [chkS] at h
    | [_], _ :: _, h => simp [chkS] at h
    | [e], [], h =>
      simp only [chkS, Bool.and_eq_true, decide_eq_true_eq] at h
      obtain ⟨⟨⟨⟨⟨⟨rfl, h1⟩, h2⟩, h3⟩, h4⟩, h5⟩, h6⟩ := h
      exact ps_extS (by rw [k.k.N]; exact h1) (k.k.vis h2) (okn_d h3) (okn_c h3) ((chk_ok c h6 k.k).1 rfl) attr_base (few1 h4) h5 (star_cons h4) rfl
  | .drop c, loc, C, st, X, W, h, k => by
    cases st <;> first | (simp [chkS] at h; done) | skip
    simp only [chkS, Bool.and_eq_true, Bool.not_eq_true'] at h
    exact ps_dropS ((chk_ok c h.2 k.k).1 rfl) (sw_not h.1)
  | .ret c, loc, C, st, X, W, h, k => by
    cases st <;> first | (simp [chkS] at h; done) | skip
    rename_i e p
    cases e with
    | none => simp [chkS] at h
    | some e =>
      simp only [chkS] at h
      exact ps_retS ((chk_ok c h k.k).1 rfl)
  | .retn, loc, C, st, X, W, h, k => by
    cases st <;> first | (simp [chkS] at h; done) | skip
    rename_i e p
    cases e with
    | none => exact ps_retnS
    | some e => simp [chkS] at h
  | .iff c a b, loc, C, st, X, W, h, k => by
    cases st <;> first | (simp [chkS] at h; done) | skip
    simp only [chkS, Bool.and_eq_true] at h
    exact ps_ifS ((chk_ok c h.1.1 k.k).2 rfl) (chkSs_ok a h.1.2 k) (chkSs_ok b h.2 k)
  | .whl c b, loc, C, st, X, W, h, k => by
    cases st <;> first | (simp [chkS] at h; done) | skip
    rename_i e x y p
    cases y <;> first | (simp [chkS] at h; done) | skip
    simp only [chkS, Bool.and_eq_true] at h
    exact ps_whileS k.hp ((chk_ok c h.1 k.k).2 rfl) (chkSs_ok b h.2 k)
  | .forr g it b, loc, C, st, X, W, h, k => by
    cases st <;> first | (simp [chkS] at h; done) | skip
    rename_i t e x y p
    cases y <;> first | (simp [chkS] at h; done) | skip
    simp only [chkS, Bool.and_eq_true, List.all_eq_true] at h
    obtain ⟨⟨⟨⟨h1, h2⟩, h3⟩, h4⟩, h5⟩ := h
    exact ps_forS h1 k.hp k.k.calm (chkI_ok it h3 k.k) (chkG_ok g h2 k.k) (chkSs_ok b h5 k) (notSet_fold h4)
  | .rais n es, loc, C, st, X, W, h, k => ps_raiseN k.ne
theorem chkSs_ok : ∀ (ss : Ss) {loc : Nat → Bool} {C : Ck} {sts : List Stmt} {X : Cx} {W : WX}, chkSs ss loc C sts = true → StOk X T W C → PSs X sts (tSs X.K T W loc ss)
  | .nil, loc, C, sts, X, W, h, k => by
    cases sts with
    | nil => exact pss_nilS
    | cons _ _ => simp [chkSs] at h
  | .cons s ss, loc, C, sts, X, W, h, k => by
    cases sts with
    | nil => simp [chkSs] at h
    | cons st sts =>
      simp only [chkSs, Bool.and_eq_true] at h
      exact pss_consS (chkS_ok s h.1 k) (chkSs_ok ss h.2 k)
end
end
end RB

set_option linter.all false
set_option maxHeartbeats 4000000
namespace RB
open PySem L2 PySem.Spec PyProof.Rows
open PySem.W (Frag)

theorem entry_get {loc : Nat → Bool} : ∀ {k : Nat} {vals : List Vl} {i : Nat}, (entry loc k vals)[i]? = (vals[i]?).map fun v => if loc (k + i) then some (.im (frz v)) else some v
  | k, [], i => by simp [entry]
  | k, v :: vs, 0 => by simp [entry]
  | k, v :: vs, i + 1 => by
    simp only [entry, List.getElem?_cons_succ]
    rw [entry_get, show k + 1 + i = k + (i + 1) by omega]
theorem entry_len {loc : Nat → Bool} : ∀ {k : Nat} {vals : List Vl}, (entry loc k vals).length = vals.length
  | _, [] => rfl
  | k, v :: vs => by simp [entry, entry_len]
section
variable {K : Frag} {T : Tb} {H : Hp} {Z : Addr → Prop} {vals : List Vl} {vs : List V} {loc : Nat → Bool} {n : Nat}
def env0 (loc : Nat → Bool) (vals : List Vl) (n : Nat) : Env := entry loc 0 vals ++ List.replicate n none
def sig0 (vs : List V) (n : Nat) : L2.St := som vs ++ List.replicate n none
theorem env0_some {i : Nat} {x : Vl} (e : (env0 loc vals n)[i]? = some (some x)) : ∃ v, vals[i]? = some v ∧ ((loc i = true ∧ x = .im (frz v)) ∨ (loc i = false ∧ x = v)) := by
  unfold env0 at e
  by_cases hi : i < vals.length
  · rw [List.getElem?_append_left (by rw [entry_len]; exact hi), entry_get] at e
    obtain ⟨v, e1, e2⟩ := Option.map_eq_some_iff.mp e
    refine ⟨v, e1, ?_⟩
    simp only [Nat.zero_add] at e2
    cases hl : loc i with
    | true => rw [hl] at e2; simp at e2; exact .inl ⟨rfl, e2.symm⟩
    | false => rw [hl] at e2; simp at e2; exact .inr ⟨rfl, e2.symm⟩
  · rw [List.getElem?_append_right (by rw [entry_len]; omega), List.getElem?_replicate] at e
    split at e <;> cases e
theorem sig0_get {i : Nat} (h : i < vs.length) : (sig0 vs n)[i]? = (som vs)[i]? := by
  unfold sig0
  rw [List.getElem?_append_left (by simpa using h)]
theorem som_get {α : Type} {l : List α} {i : Nat} {x : α} : (som l)[i]? = some (some x) ↔ l[i]? = some x := by
  simp [List.getElem?_map]
theorem start_ok (E : EnvR K T.FT H Z (som vals) (som vs)) : ∃ Z0, EnvR K T.FT H Z0 (env0 loc vals n) (sig0 vs n) ∧ Go (Own (som vals) (som vs)) H Z H Z0 ∧
    ∀ (i : Nat) xs, (env0 loc vals n)[i]? = some (some (.ow xs)) → loc i = false ∧ vals[i]? = some (.ow xs) := by
  have hlen : vals.length = vs.length := by simpa using E.len
  have ow0 : ∀ (i : Nat) xs, (env0 loc vals n)[i]? = some (some (.ow xs)) → loc i = false ∧ vals[i]? = some (.ow xs) := fun i xs e => by
    obtain ⟨v, e1, ⟨_, e2⟩ | ⟨h, e2⟩⟩ := env0_some e
    · cases e2
    · subst e2; exact ⟨h, e1⟩
  have lt : ∀ {i : Nat} {v : Vl}, vals[i]? = some v → i < vs.length := fun {i v} e => by rw [← hlen]; exact (List.getElem?_eq_some_iff.mp e).1
  have hz : ∀ a, Z a → Z a ∨ ∃ (i : Nat) (xs : List D), loc i = true ∧ vals[i]? = some (.ow xs) ∧ vs[i]? = some (.ref a) := fun a z => .inl z
  refine ⟨fun a => Z a ∨ ∃ (i : Nat) (xs : List D), loc i = true ∧ vals[i]? = some (.ow xs) ∧ vs[i]? = some (.ref a), ⟨?_, fun i d e => ?_, fun i xs e => ?_, fun i j xs ys a e1 e2 q1 q2 => ?_, fun a z => ?_⟩,
    ⟨fun _ _ e _ => e, fun _ o e => ⟨o, e⟩, hz, fun a z => ?_⟩, ow0⟩
  · unfold env0 sig0
    simp [entry_len, hlen]
  · obtain ⟨v, e1, h⟩ := env0_some e
    rw [sig0_get (lt e1)]
    rcases h with ⟨hl, e2⟩ | ⟨hl, e2⟩
    · cases v with
      | im d' =>
        cases e2
        obtain ⟨w, q, r⟩ := E.im i d' (som_get.mpr e1)
        exact ⟨w, q, r.zm hz⟩
      | ow xs =>
        cases e2
        obtain ⟨a, ws, q, h1, r, _⟩ := E.ow i xs (som_get.mpr e1)
        exact ⟨_, q, .lst h1 (.inr ⟨i, xs, hl, e1, som_get.mp q⟩) (r.zm hz)⟩
    · subst e2
      obtain ⟨w, q, r⟩ := E.im i d (som_get.mpr e1)
      exact ⟨w, q, r.zm hz⟩
  · obtain ⟨hl, e1⟩ := ow0 i xs e
    rw [sig0_get (lt e1)]
    obtain ⟨a, ws, q, h1, r, nz⟩ := E.ow i xs (som_get.mpr e1)
    refine ⟨a, ws, q, h1, r.zm hz, fun z => ?_⟩
    rcases z with z | ⟨j, ys, hj, e2, q2⟩
    · exact nz z
    · have := E.inj i j xs ys a (som_get.mpr e1) (som_get.mpr e2) q (som_get.mpr q2)
      subst this
      rw [hl] at hj; cases hj
  · obtain ⟨_, f1⟩ := ow0 i xs e1
    obtain ⟨_, f2⟩ := ow0 j ys e2
    rw [sig0_get (lt f1)] at q1
    rw [sig0_get (lt f2)] at q2
    exact E.inj i j xs ys a (som_get.mpr f1) (som_get.mpr f2) q1 q2
  · rcases z with z | ⟨i, xs, _, e, q⟩
    · exact E.zh a z
    · obtain ⟨b, ws, q', h1, _⟩ := E.ow i xs (som_get.mpr e)
      rw [som_get.mpr q] at q'; cases q'
      exact ⟨_, h1⟩
  · rcases z with z | ⟨i, xs, _, e, q⟩
    · exact .inl z
    · exact .inr (.inl ⟨i, xs, som_get.mpr e, som_get.mpr q⟩)
theorem outs_get {env : Env} {i : Nat} {x : Vl} (e : (outs loc n env)[i]? = some (some x)) : i < n ∧ loc i = false ∧ env[i]? = some (some x) := by
  unfold outs at e
  rw [List.getElem?_map] at e
  obtain ⟨j, e1, e2⟩ := Option.map_eq_some_iff.mp e
  obtain ⟨h1, h2⟩ := List.getElem?_eq_some_iff.mp e1
  simp at h2 h1
  subst h2
  cases hl : loc i with
  | true => rw [hl] at e2; simp at e2
  | false =>
    rw [hl] at e2
    simp only [Bool.false_eq_true, if_false] at e2
    refine ⟨h1, rfl, ?_⟩
    cases q : env[i]? with
    | none => rw [q] at e2; cases e2
    | some y => rw [q] at e2; simp at e2; rw [e2]
/-- a def's body, from its reading as statements to what it promises -/
theorem body_sp {W : WX} {np : Nat} {lost : List Nat} {F : Fns} {body : Ss} {Q : VK} {E : XK} (hF : T.F = F) (hW : W = fun cls d _ H => E cls d H)
    (h : spG K T np (fnOf F np (np + n) lost body) vs H Q E) : vs.length = np ∧ tSs K T W (locOf np lost) body { nx := fun _ H' => Q .non H', rt := Q } (sig0 vs n) H := by
  subst hF hW
  obtain ⟨vals, Z, h1, h2, E0, h⟩ := h
  refine ⟨h2, ?_⟩
  obtain ⟨Z0, E1, g0, ow0⟩ := start_ok (loc := locOf np lost) (n := n) E0
  unfold fnOf at h
  rw [if_pos h1, show np + n - np = n by omega] at h
  rw [wp_bind] at h
  refine ⟨_, Z0, E1, wp_mono h (fun x _ hx => ?_) fun c d q => ?_⟩
  · have own0 : ∀ p, Own (env0 (locOf np lost) vals n) (sig0 vs n) p → Own (som vals) (som vs) p := fun p ⟨i, xs, e, q⟩ => by
      obtain ⟨_, e1⟩ := ow0 i xs e
      have hi : i < vs.length := by rw [h2, ← h1]; exact (List.getElem?_eq_some_iff.mp e1).1
      rw [sig0_get hi] at q
      exact ⟨i, xs, som_get.mpr e1, q⟩
    have fin : ∀ {w : Vl} {v : V} {σ' : L2.St} {H' : Hp} {Z' : Addr → Prop}, SStep K T (locOf np lost) (sig0 vs n) H Z0 (env0 (locOf np lost) vals n) σ' H' Z' x.2 → ResS K T (locOf np lost) (sig0 vs n) H (env0 (locOf np lost) vals n) H' Z' v w →
        (∀ v H' Z', Go (Own (som vals) (som vs)) H Z H' Z' → EnvR K T.FT H' Z' (outs (locOf np lost) np x.2) (som vs) → (∀ a, Own (outs (locOf np lost) np x.2) (som vs) a → Own (som vals) (som vs) a) → ResR K T H H' Z' v w → Q v H') → Q v H' := fun {w v σ' H' Z'} s r q => by
      have kp : ∀ {i : Nat}, i < np → locOf np lost i = false → σ'[i]? = (som vs)[i]? := fun {i} hi hl => by rw [s.kp i hl, sig0_get (by rw [h2]; exact hi)]
      refine q v H' Z' (g0.trans s.go fun p o => .inl (own0 p o)) ⟨by simp [outs, h2], fun i d e => ?_, fun i xs e => ?_, fun i j xs ys a e1 e2 q1 q2 => ?_, s.en.zh⟩ (fun a ⟨i, xs, e, q⟩ => ?_) ?_
      · obtain ⟨a, b, c⟩ := outs_get e
        rw [← kp a b]
        exact s.en.im i d c
      · obtain ⟨a, b, c⟩ := outs_get e
        rw [← kp a b]
        exact s.en.ow i xs c
      · obtain ⟨a1, b1, c1⟩ := outs_get e1
        obtain ⟨a2, b2, c2⟩ := outs_get e2
        rw [← kp a1 b1] at q1
        rw [← kp a2 b2] at q2
        exact s.en.inj i j xs ys a c1 c2 q1 q2
      · obtain ⟨a1, b1, c1⟩ := outs_get e
        rcases s.ow i xs a c1 (by rw [kp a1 b1]; exact q) with ⟨ys, e1, q1⟩ | ⟨l, _⟩
        · exact own0 a ⟨i, ys, e1, q1⟩
        · rw [b1] at l; cases l
      · cases w with
        | im d => exact r
        | ow xs =>
          obtain ⟨a, ws, rfl, h3, r, nz, o⟩ := r
          rcases o with ⟨i, ys, l, e, _⟩ | o
          · rw [(ow0 i ys e).1] at l; cases l
          · exact ⟨a, ws, rfl, o, h3, r, nz⟩
    obtain ⟨k, e⟩ := x
    cases k with
    | nx => exact fun σ' H' Z' s => fin (w := .im .non) (v := .non) s .non hx
    | bk => exact hx.elim
    | ct => exact hx.elim
    | rt w => exact fun v σ' H' Z' s r => fin s r hx
  · refine ⟨q.1, fun σ' cls dd H' Z' g x => q.2 cls dd H' Z' (g0.trans g fun p o => .inl ?_) x⟩
    obtain ⟨i, xs, e, q⟩ := o
    obtain ⟨_, e1⟩ := ow0 i xs e
    have hi : i < vs.length := by rw [h2, ← h1]; exact (List.getElem?_eq_some_iff.mp e1).1
    rw [sig0_get hi] at q
    exact ⟨i, xs, som_get.mpr e1, q⟩
end
end RB

set_option linter.all false
set_option maxHeartbeats 4000000
namespace RB
open PySem L2 PySem.Spec PyProof.Rows C8
open PySem.W (Frag)

section
variable {P : Program} {w : World} {K : Frag} {mg : Str → Option Value} {base : Heap}
/-- the frame is laid, the body is run, the frame is left -/
theorem fnG_of {k : Nat} {f : Addr} {nm ql : Str} {ar : Arguments} {bd : List Stmt} {sc : Scope} {dV kV doc pm cdv ct oc : Value} {an od : Option Addr} {osl : Array (Option Value)} {N ps : List Str} {sp : Sp}
    (lk : K.lookup f = some ⟨oc, od, .func (PySem.W.fnOf nm ql ar bd sc dV kV doc pm an cdv ct), osl⟩) (hcd : PySem.W.codeIn K cdv ql = true) (S : FnScope N ps sc) (hlen : ∀ vs H Q E, sp vs H Q E → vs.length = ps.length)
    (hb : ∀ (A : Around) (outer : List PySem.Env) (s : Shared) (H : Hp) (vs : List V) (Q : VK) (E : XK), Room k (A.deeper (envOfC ql sc s.heap.objs.size f cdv)) → A.guards = some [] → A.frames = some outer → Mod K mg base → sp vs H Q E →
      ∃ t, PSs (cxOf (L2.CX P w) P w K mg base N ql sc f cdv A outer s H E) bd t ∧ t { nx := fun _ H' => Q .non H', rt := Q } (start N vs) H) :
    FnG P w K mg base (k + 1) f (PySem.W.fnOf nm ql ar bd sc dV kV doc pm an cdv ct) ps sp := by
  refine ⟨hlen, fun A outer s H args us vs Q E room gu e0 bi rel hsp => ?_⟩
  have l0 := hlen _ _ _ _ hsp
  have kin : K.In s.heap := e0.mod.kin.keeps fun b o z => (e0.bs b o z).1
  have nol : s.heap.NoLimit := e0.mod.nolimit.keeps fun b o z => (e0.bs b o z).1
  have cel : ∀ y ∈ ps.zip us, sc.names.lookup y.1 = some .local ∨ (sc.names.lookup y.1 = some .cell ∧ ((cellsFrom (s.heap.objs.size + 1) sc.names []).lookup y.1).isSome = true) := by
    rintro ⟨a, b⟩ hy
    exact (S.par a (List.of_mem_zip hy).1).imp_right fun q => ⟨q, PySem.W.cellsFrom_some _ _ _ (.inl q)⟩
  refine codeAny_call_function room.depth (kin _ _ lk) rfl S.co S.gen rfl (PySem.W.codeRec_of kin hcd) (bi _ _ _ _ ?_)
  refine wpAny_newFunctionEnv_cells S.kind cel fun env he s1 x => ?_
  cases he
  obtain ⟨t, h1, h2⟩ := hb A outer s H vs Q E (room.deeper _) gu e0.frames e0.mod hsp
  refine ⟨nol.keeps x.toInCall.keep, codeAny_func (wpAny_mono (h1.run [] s1 (start N vs) H _ (inv_start S room.hd e0 l0 rel x) h2) (fun fl s' hs => ?_) fun e s' hs => hs)⟩
  cases fl with
  | ret u => obtain ⟨v, σ', H', J, rv, q⟩ := hs; exact ⟨v, H', J.os, J.bare, J.base, J.hok, rv, q⟩
  | next => obtain ⟨σ', H', J, q⟩ := hs; exact ⟨V.non, H', J.os, J.bare, J.base, J.hok, (rfl : RelV V.non Value.none), q⟩
  | brk => obtain ⟨_, _, _, q⟩ := hs; cases q
  | cont => obtain ⟨_, _, _, q⟩ := hs; cases q
end

/-- a def of the text: its name, its statement, its slots' names, how many parameters, which of them the body stores to, what it is, its defaults -/
structure DefE where
  x : Str
  st : Stmt
  N : List Str
  np : Nat
  lost : List Nat
  body : Ss
  dfl : List D
def Fl (l : List Fn) : Fns := fun j => (l[j]?).getD fun _ => .no
noncomputable def DefE.fn (e : DefE) (acc : List Fn) : Fn := fnOf (Fl acc) e.np e.N.length e.lost e.body
noncomputable def fnl : List DefE → List Fn → List Fn
  | [], acc => acc
  | e :: r, acc => fnl r (acc ++ [e.fn acc])
def fnsOf : Nat → List DefE → List (Str × Nat × List D)
  | _, [] => []
  | k, e :: r => (e.x, k, e.dfl) :: fnsOf (k + 1) r
def ckOf (pre : List DefE) (cts : List (Str × D)) (nol : List Str) (e : DefE) : Ck := ⟨e.N, (fnScope e.st).names, fun _ => true, fnsOf 0 pre, cts, nol, pre.length⟩
def chkD (pre : List DefE) (cts : List (Str × D)) (nol : List Str) (e : DefE) : Bool :=
  decide (e.np ≤ e.N.length) && scC e.N (e.N.take e.np) (fnScope e.st) && chkSs e.body (locOf e.np e.lost) (ckOf pre cts nol e) (fnBody e.st)
def chkL : List DefE → List (Str × D) → List Str → List DefE → Bool
  | _, _, _, [] => true
  | pre, cts, nol, e :: r => chkD pre cts nol e && chkL (pre ++ [e]) cts nol r
def Tn (fs : List Addr) (acc : List Fn) : Tb := ⟨fun j => fs[j]?, Fl acc, fun _ => none⟩

/-- a def as it stands behind the top -/
structure DefF (K : Frag) (mg : Str → Option Value) (e : DefE) (f : Addr) : Prop where
  ex : ∃ (oc : Value) (od : Option Addr) (dV kV doc pm : Value) (an : Option Addr) (cdv ct : Value) (osl : Array (Option Value)),
    K.lookup f = some ⟨oc, od, .func (PySem.W.fnOf e.x e.x (fnArgs e.st) (fnBody e.st) (fnScope e.st) dV kV doc pm an cdv ct), osl⟩ ∧ PySem.W.codeIn K cdv e.x = true ∧
    ∀ k, k ≤ e.dfl.length → ∃ (dvs : List V) (dus : List Value), Binds K (PySem.W.fnOf e.x e.x (fnArgs e.st) (fnBody e.st) (fnScope e.st) dV kV doc pm an cdv ct) (e.N.take e.np) dus ∧ Vals dvs dus ∧ ∀ FT H Z, Reps K FT H Z dvs (e.dfl.drop k)
  mgf : mg e.x = some (.ref f)
  kp : PySem.W.keepIn K (.ref f) = true
/-- no default -/
theorem DefF.mk0 {K : Frag} {mg : Str → Option Value} {e : DefE} {f : Addr} {oc : Value} {od : Option Addr} {kV doc pm : Value} {an : Option Addr} {cdv ct : Value} {osl : Array (Option Value)}
    (lk : K.lookup f = some ⟨oc, od, .func (PySem.W.fnOf e.x e.x (fnArgs e.st) (fnBody e.st) (fnScope e.st) .none kV doc pm an cdv ct), osl⟩) (hcd : PySem.W.codeIn K cdv e.x = true) (m : mg e.x = some (.ref f)) (kp : PySem.W.keepIn K (.ref f) = true) (hd : e.dfl = [])
    (hb : ∀ us : List Value, us.length = (e.N.take e.np).length → bindArgs (PySem.W.fnOf e.x e.x (fnArgs e.st) (fnBody e.st) (fnScope e.st) .none kV doc pm an cdv ct) ⟨us, []⟩ = pure ((e.N.take e.np).zip us)) : DefF K mg e f :=
  ⟨⟨oc, od, .none, kV, doc, pm, an, cdv, ct, osl, lk, hcd, fun k hk => ⟨[], [], .all hb, .nil, fun FT H Z => by rw [hd]; simp; exact .nil⟩⟩, m, kp⟩

section
variable (P : Program) (w : World) (K : Frag) (mg : Str → Option Value) (base : Heap) (fs : List Addr)
structure GoodAt (acc : List Fn) (j : Nat) (e : DefE) : Prop where
  ex : ∃ (f : Addr) (fd : FuncData), fs[j]? = some f ∧ mg e.x = some (.ref f) ∧ PySem.W.keepIn K (.ref f) = true ∧ (e.N.take e.np).length = e.np ∧
    (∀ k, k ≤ e.dfl.length → ∃ (dvs : List V) (dus : List Value), Binds K fd (e.N.take e.np) dus ∧ Vals dvs dus ∧ ∀ FT H Z, Reps K FT H Z dvs (e.dfl.drop k)) ∧
    FnG P w K mg base (j + 1) f fd (e.N.take e.np) (spG K (Tn fs acc) e.np (Fl acc j)) ∧ ∀ vals, (Fl acc j vals).Wp (fun _ => True) (fun _ _ => True) → vals.length = e.np
end
section
variable {P : Program} {w : World} {K : Frag} {mg : Str → Option Value} {base : Heap} {fs : List Addr}
theorem Fl_app {acc r : List Fn} {j : Nat} (h : j < acc.length) : Fl (acc ++ r) j = Fl acc j := by
  unfold Fl
  rw [List.getElem?_append_left h]
theorem GoodAt.app {acc r : List Fn} {j : Nat} {e : DefE} (h : j < acc.length) (g : GoodAt P w K mg base fs acc j e) : GoodAt P w K mg base fs (acc ++ r) j e := by
  obtain ⟨f, fd, a, b, c, d, e1, g1, g2⟩ := g.ex
  refine ⟨f, fd, a, b, c, d, e1, ?_, ?_⟩
  · rw [Fl_app h]; exact g1
  · rw [Fl_app h]; exact g2
theorem GoodAt.at {acc : List Fn} {j : Nat} {e : DefE} {X : Cx} (g : GoodAt P w K mg base fs acc j e) (h1 : X.prog = P) (h2 : X.w = w) (h3 : X.K = K) (h4 : X.mg = mg) (h5 : X.base = base) (hr : Room (j + 1) X.A) :
    (∃ f, (Tn fs acc).FT j = some f ∧ X.mg e.x = some (.ref f)) ∧ ∀ k, k ≤ e.dfl.length → At X (Tn fs acc) j (e.dfl.drop k) := by
  subst h1 h2 h3 h4 h5
  obtain ⟨f, fd, a, b, c, d, e1, g1, g2⟩ := g.ex
  refine ⟨⟨f, a, b⟩, fun k hk => ?_⟩
  obtain ⟨dvs, dus, b1, b2, b3⟩ := e1 k hk
  exact ⟨f, fd, _, j + 1, dvs, dus, a, c, by rw [d]; exact g1, hr, b1, b2, fun H Z => b3 _ H Z, by rw [d]; exact g2⟩
theorem fnsOf_mem : ∀ {L : List DefE} {k : Nat} {x : Str} {j : Nat} {dfl : List D}, (x, j, dfl) ∈ fnsOf k L → ∃ e, k ≤ j ∧ L[j - k]? = some e ∧ e.x = x ∧ e.dfl = dfl
  | [], _, _, _, _, h => by simp [fnsOf] at h
  | e :: r, k, x, j, dfl, h => by
    simp only [fnsOf, List.mem_cons] at h
    rcases h with h | h
    · cases h
      exact ⟨e, Nat.le_refl _, by simp, rfl, rfl⟩
    · obtain ⟨e', h1, h2, h3⟩ := fnsOf_mem h
      refine ⟨e', by omega, ?_, h3⟩
      rw [show j - k = (j - (k + 1)) + 1 by omega]
      simpa using h2
theorem step_ok {cts : List (Str × D)} {nol : List Str} {pre : List DefE} {acc : List Fn} {e : DefE} {f : Addr} (hl : acc.length = pre.length) (hpre : ∀ (j : Nat) e, pre[j]? = some e → GoodAt P w K mg base fs acc j e) (hf : fs[pre.length]? = some f) (F : DefF K mg e f) (hc : chkD pre cts nol e = true)
    (hct : ∀ x d, (x, d) ∈ cts → ∃ v u, mg x = some u ∧ RelV v u ∧ ∀ H Z, Rep K (fun j => fs[j]?) H Z v d) (hno : ∀ x ∈ nol, mg x = none) :
    GoodAt P w K mg base fs (acc ++ [e.fn acc]) pre.length e := by
  unfold chkD at hc
  simp only [Bool.and_eq_true, decide_eq_true_eq] at hc
  obtain ⟨⟨c1, c2⟩, c3⟩ := hc
  obtain ⟨oc, od, dV, kV, doc, pm, an, cdv, ct, osl, lk, hcd, hb⟩ := F.ex
  have S := fnScope_by c2
  have hnp : (e.N.take e.np).length = e.np := by rw [List.length_take]; omega
  have hFl : Fl (acc ++ [e.fn acc]) pre.length = e.fn acc := by
    unfold Fl
    rw [← hl, List.getElem?_append_right (Nat.le_refl _)]
    simp
  have key : FnG P w K mg base (pre.length + 1) f (PySem.W.fnOf e.x e.x (fnArgs e.st) (fnBody e.st) (fnScope e.st) dV kV doc pm an cdv ct) (e.N.take e.np) (spG K (Tn fs acc) e.np (e.fn acc)) := by
    refine fnG_of lk hcd S (fun vs H Q E h => ?_) fun A outer s H vs Q E hr gu fr md hsp => ?_
    · obtain ⟨vals, Z, h1, h2, _⟩ := h
      rw [h2, hnp]
    · have hN : e.N.length = e.np + (e.N.length - e.np) := by omega
      have hsp' : spG K (Tn fs acc) e.np (fnOf (Fl acc) e.np (e.np + (e.N.length - e.np)) e.lost e.body) vs H Q E := by
        rw [← hN]; exact hsp
      obtain ⟨hv, ht⟩ := body_sp (T := Tn fs acc) (W := fun cls d _ H => E cls d H) rfl rfl hsp'
      refine ⟨_, chkSs_ok e.body (T := Tn fs acc) (W := fun cls d _ H => E cls d H) c3 ⟨⟨rfl, S.nd, rfl, S.kind, rfl, gu, ?_, takes_of rfl rfl rfl rfl, fun _ _ => rfl, fun x j dfl hm => ?_, hct, hno, fun j hj hs => ?_⟩, passes_of rfl, fun _ => rfl, fun _ => rfl⟩, ?_⟩
      · have := hr.un
        show (A.deeper _).units + 70 < cLine
        omega
      · obtain ⟨e', h1, h2, rfl, rfl⟩ := fnsOf_mem hm
        have hj : j < pre.length := (List.getElem?_eq_some_iff.mp h2).1
        exact (hpre j e' (by simpa using h2)).at rfl rfl rfl rfl rfl (hr.mono (by omega))
      · have hj : j < pre.length := hj
        have hg := List.getElem?_eq_getElem hj
        have := ((hpre j _ hg).at (X := cxOf (L2.CX P w) P w K mg base e.N e.x (fnScope e.st) f cdv A outer s H E) rfl rfl rfl rfl rfl (hr.mono (by omega))).2 (pre[j].dfl.length) (Nat.le_refl _)
        simpa using this
      · have : L2.start e.N vs = sig0 vs (e.N.length - e.np) := by
          unfold L2.start sig0
          rw [hv]
        rw [this]
        exact ht
  refine ⟨f, _, hf, F.mgf, F.kp, hnp, hb, ?_, fun vals hw => ?_⟩
  · rw [hFl]; exact key
  · rw [hFl] at hw
    unfold DefE.fn fnOf at hw
    split at hw
    · assumption
    · exact hw.elim
theorem tab_ok {cts : List (Str × D)} {nol : List Str} (hct : ∀ x d, (x, d) ∈ cts → ∃ v u, mg x = some u ∧ RelV v u ∧ ∀ H Z, Rep K (fun j => fs[j]?) H Z v d) (hno : ∀ x ∈ nol, mg x = none) :
    ∀ {r pre : List DefE} {acc : List Fn}, acc.length = pre.length → (∀ (j : Nat) e, pre[j]? = some e → GoodAt P w K mg base fs acc j e) → (∀ (j : Nat) e, (pre ++ r)[j]? = some e → ∃ f, fs[j]? = some f ∧ DefF K mg e f) → chkL pre cts nol r = true →
      ∀ (j : Nat) e, (pre ++ r)[j]? = some e → GoodAt P w K mg base fs (fnl r acc) j e
  | [], pre, acc, hl, hp, hF, hc => by
    simpa [fnl] using hp
  | e :: r, pre, acc, hl, hp, hF, hc => by
    simp only [chkL, Bool.and_eq_true] at hc
    obtain ⟨f, hf, F⟩ := hF pre.length e (by simp)
    have g := step_ok hl hp hf F hc.1 hct hno
    have := tab_ok hct hno (r := r) (pre := pre ++ [e]) (acc := acc ++ [e.fn acc]) (by simp [hl]) (fun j e' h => by
      by_cases hj : j < pre.length
      · rw [List.getElem?_append_left hj] at h
        exact (hp j e' h).app (by rw [hl]; exact hj)
      · rw [List.getElem?_append_right (by omega)] at h
        obtain ⟨h1, h2⟩ := List.getElem?_eq_some_iff.mp h
        simp at h1
        have : j = pre.length := by omega
        subst this
        simp at h2
        subst h2
        exact g) (by simpa using hF) hc.2
    intro j e' h
    simp only [fnl]
    exact this j e' (by simpa using h)
end
end RB

set_option linter.all false
set_option maxHeartbeats 4000000
namespace RB
open PySem L2 PySem.Spec PyProof.Rows C8
open PySem.W (Frag)

def ScrAt (K : Frag) (H : Hp) (a : Addr) (ns : List Int) : Prop := (∃ o, H a = some (.frz o (.lst (ns.map V.int)))) ∨ KLst K a (ns.map V.int)

theorem law_callG {P : Program} {w : World} {K : Frag} {mg mb : Str → Option Value} {k : Nat} {fa a : Addr} {x : Str} {sp : Sp} {s1 : Shared} {vs : List Value} {ns : List Int}
    (kin : K.In s1.heap) (gl : s1.heap.Ns mainGlobals mg) (bl : s1.heap.Ns builtinsNs mb) (bb : ∀ x : Str, x ≠ "__name__" → mb x = bootBuiltins x) (nol : s1.heap.NoLimit) (gens : s1.gens = #[])
    (hobj : s1.heap.get? a = some { cls := .type "list", data := .seq vs.toArray }) (hin : IntsAre vs ns) (few : ns.length ≤ sizeLine) (room : Room k callerA)
    (F : ∀ base : Heap, L2.Mod K mg base → ∃ fd : FuncData, FnG P w K mg base k fa fd [x] sp ∧ Binds K fd [x] [])
    (hsp : ∀ H : Hp, ScrAt K H a ns → sp [.ref a] H (fun v _ => v = .bl true) fun _ _ _ => False) :
    codeAny (model P w) callerA (.call (.ref fa) ⟨[.ref a], []⟩) (fun r s' => r = .ok (.ret (.bool true)) ∧ OldK s1.heap s'.heap ∧ s'.os = s1.os ∧ AllBare s'.gens) s1 := by
  have rel : Vals (ns.map V.int) vs := vals_ints hin
  obtain ⟨oa, hoa⟩ : ∃ oa : Obj, oa = { cls := .type "list", data := .seq vs.toArray } := ⟨_, rfl⟩
  rw [← hoa] at hobj
  -- the script is tracked unless the module holds it
  obtain ⟨H, hH⟩ : ∃ H : Hp, H = fun b => if b = a ∧ K.lookup a = none then some (.frz oa (.lst (ns.map V.int))) else none := ⟨_, rfl⟩
  have some_of : ∀ {b : Addr} {u : HO}, H b = some u → b = a ∧ K.lookup a = none ∧ u = .frz oa (.lst (ns.map V.int)) := fun {b u} z => by
    rw [hH] at z
    by_cases c : b = a ∧ K.lookup a = none
    · have z' := (if_pos c).symm.trans z
      cases z'
      exact ⟨c.1, c.2, rfl⟩
    · have z' := (if_neg c).symm.trans z
      cases z'
  have hok : HOk P w H s1.heap := fun b u z => by
    obtain ⟨rfl, _, rfl⟩ := some_of z
    exact ⟨hobj, by rw [List.length_map]; exact few, vs, _, rel, by rw [hobj, hoa]⟩
  have scr : ScrAt K H a ns := by
    cases q : K.lookup a with
    | none => exact .inl ⟨oa, by rw [hH]; exact if_pos ⟨rfl, q⟩⟩
    | some o =>
      have z := kin a o q
      rw [hobj] at z
      cases z
      refine .inr ⟨_, vs.toArray, _, q, by rw [hoa], by rw [hoa], by rw [hoa], ?_, by simpa using rel⟩
      rw [List.size_toArray, hin.length]
      exact few
  have low : ∀ {b : Addr} {o : Obj}, s1.heap.get? b = some o → (∀ u, H b ≠ some u) → (hidT s1.heap H).get? b = some o := fun {b o} e n => hidT_get e (by
    cases q : H b with
    | none => rfl
    | some u => exact absurd q (n u))
  have nsl : ∀ {b : Addr} {m : Str → Option Value}, s1.heap.Ns b m → (hidT s1.heap H).Ns b m := fun {b m} ⟨o, es, ep, e, d, r⟩ => ⟨o, es, ep, low e (fun u z => by
    obtain ⟨rfl, _, _⟩ := some_of z
    rw [hobj] at e
    cases e
    rw [hoa] at d
    cases d), d, r⟩
  have kin' : K.In (hidT s1.heap H) := fun b o e => low (kin b o e) fun u z => by
    obtain ⟨rfl, n, _⟩ := some_of z
    rw [n] at e
    cases e
  have md : L2.Mod K mg (hidT s1.heap H) := by
    refine ⟨kin', nsl gl, ⟨mb, nsl bl, bb⟩, ?_⟩
    obtain ⟨mc, c1, c2⟩ := nol
    exact ⟨mc, nsl c1, c2⟩
  obtain ⟨fd, G, bi⟩ := F _ md
  have e0 : Env0 P w K mg (hidT s1.heap H) callerA [] s1 H := by
    refine ⟨rfl, md, fun b o e => of_hidT e, Nat.le_of_eq (hidT_size _ _), trivial, fun b hb => ?_, hok, .of_eq gens⟩
    have hb : b ∈ ([] : List Addr) := hb
    simp at hb
  have hbi : BindsTo s1 fd ⟨[.ref a], []⟩ ([x].zip [.ref a]) := by
    have := bi s1 [.ref a] kin rfl
    simpa using this
  refine codeAny_mono (G.run callerA [] s1 H ⟨[.ref a], []⟩ [.ref a] [.ref a] _ _ room rfl e0 hbi (.cons rfl .nil) (hsp H scr)) fun r s' h => ?_
  match r, h with
  | .error e, h =>
    obtain ⟨_, _, _, _, _, _, _, _, _, _, _, _, z⟩ := h
    exact z.elim
  | .ok .next, h => exact False.elim h
  | .ok .brk, h => exact False.elim h
  | .ok .cont, h => exact False.elim h
  | .ok (.ret u), h =>
    obtain ⟨v, H', os, bare, un, hok', rv, q⟩ := h
    have q : v = .bl true := q
    subst q
    cases (show u = Value.bool true from rv)
    refine ⟨rfl, OldK.of_keep fun b o e => ?_, os, bare⟩
    cases q : H b with
    | none => exact un.keep b o e q (fun z => by have z : b ∈ ([] : List Addr) := z; simp at z) (by simp)
    | some u =>
      obtain ⟨_, _, rfl⟩ := some_of q
      have e1 := (hok b _ q).1
      have e2 := (hok' b _ (un.frzs b _ _ q)).1
      rw [e] at e1
      cases e1
      exact e2

/-- what the law's text comes to on a script -/
structure LawTrue (L : List DefE) (i n : Nat) : Prop where
  ok : ∀ ns : List Int, ns.length ≤ n → (Fl (fnl L []) i [.im (.scr (ns.map D.int))]).Wp (fun r => r.1 = .im (.bl true)) fun _ _ => False

theorem reps_ints {K : Frag} {FT : Nat → Option Addr} {H : Hp} {Z : Addr → Prop} : ∀ ns : List Int, Reps K FT H Z (ns.map V.int) (ns.map D.int)
  | [] => .nil
  | n :: ns => .cons (.int n) (reps_ints ns)

theorem walk_tab {l : PySem.W.OpenLaw} {n : Nat} {q : Program} {loose : List Str} {XP : (Str → Option Value) → Heap → Prop} {YP : World → Heap → Prop} {d : DefRec} {K : Params → Frag}
    (hn : l.most = some n) (hn2 : n ≤ sizeLine) (hdf : d.params.defaults = []) (hY : ∀ (w : World) (h : Heap), YP w h → (K w.params).In h)
    (L : List DefE) (cts : List (Str × D)) (nol : List Str) (i : Nat) (e : DefE) (x : Str) (hi : L[i]? = some e) (hx : e.x = d.name) (hN : e.N.take e.np = [x]) (hfl : e.dfl = []) (hr : Room (i + 1) callerA)
    (hc : chkL [] cts nol L = true)
    (F : ∀ (w : World) (mg : Str → Option Value) (h : Heap), (K w.params).In h → h.Ns mainGlobals mg →
      ∃ fs : List Addr, (∀ (j : Nat) e, L[j]? = some e → ∃ f, fs[j]? = some f ∧ DefF (K w.params) mg e f) ∧ (∀ x d, (x, d) ∈ cts → ∃ v u, mg x = some u ∧ RelV v u ∧ ∀ H Z, Rep (K w.params) (fun j => fs[j]?) H Z v d) ∧ ∀ x ∈ nol, mg x = none)
    (law : LawTrue L i n) : PySem.W.WalkO q loose XP YP l.row.toRowW d [] (fun f vs => PySem.call f vs) := by
  refine Att.attach_call hn hdf fun w s₀ s₁ mg mb fa o pm cd doc a vs ns G Y ho hd hcd hmg hobj hints hlen hg => ?_
  have KX := hY w _ Y
  obtain ⟨fs, h1, h2, h3⟩ := F w mg _ KX G.T.g
  refine law_callG (x := x) (k := i + 1) (sp := spG (K w.params) (Tn fs (fnl L [])) 1 (Fl (fnl L []) i)) KX G.T.g G.T.b G.T.builtins G.T.nolimit hg hobj hints (Nat.le_trans hlen hn2) hr (fun base md => ?_) fun H hs => ?_
  · have T := tab_ok (P := l.prog) (w := w) (base := base) h2 h3 (r := L) (pre := []) (acc := []) rfl (fun j e h => by simp at h) (by simpa using h1) hc i e (by simpa using hi)
    obtain ⟨f, fd, a1, a2, a3, a4, a5, a6, a7⟩ := T.ex
    rw [hx, hmg] at a2
    cases a2
    have hnp : e.np = 1 := by rw [← a4, hN]; rfl
    refine ⟨fd, ?_, ?_⟩
    · rw [hN, hnp] at a6
      exact a6
    · obtain ⟨dvs, dus, b1, b2, b3⟩ := a5 0 (Nat.zero_le _)
      have r := b3 (fun _ => none) (fun _ => none) (fun _ => False)
      rw [hfl] at r
      cases r
      cases b2
      rw [hN] at b1
      exact b1
  · refine ⟨[.im (.scr (ns.map D.int))], fun _ => False, rfl, rfl, ⟨rfl, fun j d' z => ?_, fun j xs z => ?_, fun j j' xs ys b z => ?_, fun b z => z.elim⟩, ?_⟩
    · match j, z with
      | 0, z =>
        simp at z
        subst z
        exact ⟨.ref a, rfl, .scr hs (reps_ints ns)⟩
      | j + 1, z => simp at z
    · match j, z with
      | 0, z => simp at z
      | j + 1, z => simp at z
    · match j, z with
      | 0, z => simp at z
      | j + 1, z => simp at z
    · refine wp_mono (law.ok ns hlen) (fun r _ hr v H' Z' _ _ _ res => ?_) fun _ _ z => z.elim
      have hr : r.1 = .im (.bl true) := hr
      rw [hr] at res
      cases (show Rep _ _ _ _ v (.bl true) from res)
      rfl
end RB

set_option linter.all false
set_option maxHeartbeats 4000000
namespace RB
open PySem L2 PySem.Spec PyProof.Rows C8
open PySem.W (Frag)
/-- every parameter is given, or the defaults at the end -/
def BindE (e : DefE) : Prop := ∀ (kV doc pm : Value) (an : Option Addr) (cdv ct : Value) (us : List Value), us.length = (e.N.take e.np).length → bindArgs (PySem.W.fnOf e.x e.x (fnArgs e.st) (fnBody e.st) (fnScope e.st) .none kV doc pm an cdv ct) ⟨us, []⟩ = pure ((e.N.take e.np).zip us)
inductive AllF (K : Frag) (mg : Str → Option Value) : List DefE → List Addr → Prop
  | nil : AllF K mg [] []
  | cons {e : DefE} {f : Addr} {L : List DefE} {fs : List Addr} : DefF K mg e f → AllF K mg L fs → AllF K mg (e :: L) (f :: fs)
inductive AllN (mg : Str → Option Value) : List Str → Prop
  | nil : AllN mg []
  | cons {x : Str} {xs : List Str} : mg x = none → AllN mg xs → AllN mg (x :: xs)
def CtF (K : Frag) (mg : Str → Option Value) (fs : List Addr) (x : Str) (d : D) : Prop := ∃ v u, mg x = some u ∧ RelV v u ∧ ∀ H Z, Rep K (fun j => fs[j]?) H Z v d
inductive AllC (K : Frag) (mg : Str → Option Value) (fs : List Addr) : List (Str × D) → Prop
  | nil : AllC K mg fs []
  | cons {x : Str} {d : D} {xs : List (Str × D)} : CtF K mg fs x d → AllC K mg fs xs → AllC K mg fs ((x, d) :: xs)
section
variable {K : Frag} {mg : Str → Option Value} {h : Heap} {fs : List Addr}
theorem AllF.get : ∀ {L : List DefE} {fs : List Addr}, AllF K mg L fs → ∀ (j : Nat) e, L[j]? = some e → ∃ f, fs[j]? = some f ∧ DefF K mg e f
  | _, _, .nil, j, e, h => by simp at h
  | _, _, .cons d r, 0, e, h => by simp at h; subst h; exact ⟨_, rfl, d⟩
  | _, _, .cons d r, j + 1, e, h => by simpa using r.get j e (by simpa using h)
theorem AllN.get : ∀ {L : List Str}, AllN mg L → ∀ x ∈ L, mg x = none
  | _, .nil, x, h => by simp at h
  | _, .cons d r, x, h => by
    rcases List.mem_cons.mp h with rfl | h
    · exact d
    · exact r.get x h
theorem AllC.get : ∀ {L : List (Str × D)}, AllC K mg fs L → ∀ x d, (x, d) ∈ L → CtF K mg fs x d
  | _, .nil, x, d, h => by simp at h
  | _, .cons c r, x, d, h => by
    rcases List.mem_cons.mp h with h | h
    · cases h; exact c
    · exact r.get x d h
theorem DefF.mkK {e : DefE} {x : Str} {st : Stmt} {f : Addr} {oc : Value} {od : Option Addr} {kV doc pm : Value} {an : Option Addr} {cdv ct : Value} {osl : Array (Option Value)} (X : K.In h) (G : h.Ns mainGlobals mg) (hx : e.x = x) (hst : e.st = st) (hd : e.dfl = []) (hb : BindE e)
    (a : PySem.W.nsIn K mainGlobals x = some (some (.ref f))) (l : K.lookup f = some ⟨oc, od, .func (PySem.W.fnOf x x (fnArgs st) (fnBody st) (fnScope st) .none kV doc pm an cdv ct), osl⟩) (c : PySem.W.codeIn K cdv x = true) (k : PySem.W.keepIn K (.ref f) = true) : DefF K mg e f := by
  subst hx hst
  exact .mk0 l c (PySem.W.mg_of X G a) k hd fun us hl => hb kV doc pm an cdv ct us hl
theorem CtF.int {x : Str} {i : Int} {t : Tok} (X : K.In h) (G : h.Ns mainGlobals mg) (a : PySem.W.nsIn K mainGlobals x = some (some (.int i t))) : CtF K mg fs x (.int i) := ⟨.int i, _, PySem.W.mg_of X G a, ⟨t, rfl⟩, fun _ _ => .int i⟩
theorem CtF.str {x : Str} {i : Str} {t : Tok} (X : K.In h) (G : h.Ns mainGlobals mg) (a : PySem.W.nsIn K mainGlobals x = some (some (.str i t))) : CtF K mg fs x (.str i) := ⟨.str i, _, PySem.W.mg_of X G a, ⟨t, rfl⟩, fun _ _ => .str i⟩
theorem AllN.mk {x : Str} {xs : List Str} (X : K.In h) (G : h.Ns mainGlobals mg) (a : PySem.W.nsIn K mainGlobals x = some none) (r : AllN mg xs) : AllN mg (x :: xs) := .cons (PySem.W.mg_none_of X G a) r
end
end RB

set_option linter.all false
namespace RB
open PySem
section
variable {F : Fns} {env : Env} {loc : Nat → Bool}
@[simp] theorem get_0 {v : Option Vl} : get (v :: env) 0 = v := by cases v <;> rfl
@[simp] theorem get_s {v : Option Vl} {i : Nat} : get (v :: env) (i + 1) = get env i := rfl
@[simp] theorem peek_im {d : D} : peek env (.im d) = some d := rfl
@[simp] theorem peek_tm {d : List D} : peek env (.tm d) = some (.lst d) := rfl
@[simp] theorem peek_sl {i : Nat} : peek env (.sl i) = (get env i).bind fun v => some (frz v) := rfl
@[simp] theorem keep_im {d : D} : keep env (.im d) = some (d, env) := rfl
@[simp] theorem keep_tm {d : List D} : keep env (.tm d) = some (.lst d, env) := rfl
@[simp] theorem keep_sl {i : Nat} : keep env (.sl i) = (get env i).bind fun v => some (frz v, env.set i (some (.im (frz v)))) := rfl
@[simp] theorem settle_im {d : D} : settle env (.im d) = some (.im d, env) := rfl
@[simp] theorem settle_tm {d : List D} : settle env (.tm d) = some (.ow d, env) := rfl
@[simp] theorem settle_sl {i : Nat} : settle env (.sl i) = (get env i).bind fun v => some (.im (frz v), env.set i (some (.im (frz v)))) := rfl
@[simp] theorem lend_im {d : D} : lend env (.im d) = some (.im d, env, none) := rfl
@[simp] theorem lend_tm {d : List D} : lend env (.tm d) = some (.ow d, env, none) := rfl
@[simp] theorem lend_sl {i : Nat} : lend env (.sl i) = (get env i).bind fun v => match v with
    | .im d => some (.im d, env, none)
    | .ow xs => some (.ow xs, env.set i none, some i) := rfl
@[simp] theorem give_im {d : D} : giveback loc env (.im d) = some (.im d, env) := rfl
@[simp] theorem give_tm {d : List D} : giveback loc env (.tm d) = some (.ow d, env) := rfl
@[simp] theorem give_sl {i : Nat} : giveback loc env (.sl i) = (get env i).bind fun v => if loc i then some (v, env.set i none) else some (.im (frz v), env.set i (some (.im (frz v)))) := rfl
@[simp] theorem frz_im {d : D} : frz (.im d) = d := rfl
@[simp] theorem frz_ow {d : List D} : frz (.ow d) = .lst d := rfl
@[simp] theorem toI_int {i : Int} : toI (.int i) = some i := rfl
@[simp] theorem getOw_e {i : Nat} : getOw env i = (get env i).bind fun v => match v with | .ow xs => some xs | _ => none := rfl
@[simp] theorem peeks_n : peeks env [] = some [] := rfl
@[simp] theorem peeks_c {r : Rf} {rs : List Rf} : peeks env (r :: rs) = (peek env r).bind fun d => (peeks env rs).bind fun ds => some (d :: ds) := rfl
@[simp] theorem lb_n {os e : Env} : lendBack [] os e = e := by cases os <;> rfl
@[simp] theorem lb_none {is : List (Option Nat)} {o : Option Vl} {os e : Env} : lendBack (none :: is) (o :: os) e = lendBack is os e := rfl
@[simp] theorem lb_some {is : List (Option Nat)} {i : Nat} {o : Option Vl} {os e : Env} : lendBack (some i :: is) (o :: os) e = lendBack is os (e.set i o) := rfl
@[simp] theorem asg_v {i : Nat} {d : D} : asgT env (.v i) d = some (env.set i (some (.im d))) := by simp only [asgT]
@[simp] theorem asg_tt {us : List Tg} {ds : List D} : asgT env (.t us) (.tup ds) = asgTs env us ds := by simp only [asgT]
@[simp] theorem asg_tl {us : List Tg} {ds : List D} : asgT env (.t us) (.lst ds) = asgTs env us ds := by simp only [asgT]
@[simp] theorem asgs_n : asgTs env [] [] = some env := by simp only [asgTs]
@[simp] theorem asgs_c {u : Tg} {us : List Tg} {d : D} {ds : List D} : asgTs env (u :: us) (d :: ds) = (asgT env u d).bind fun env => asgTs env us ds := by simp only [asgTs]
@[simp] theorem setAll_n : setAll env [] [] = some env := rfl
@[simp] theorem setAll_c {i : Nat} {is : List Nat} {v : Vl} {vs : List Vl} : setAll env (i :: is) (v :: vs) = setAll (env.set i (some v)) is vs := rfl
@[simp] theorem ev_var {i : Nat} : ev F (.var i) env = (R.of (get env i)).bind fun v => match v with
    | .im d => .ok (.im d, env)
    | .ow _ => .ok (.sl i, env) := by simp only [ev] <;> rfl
@[simp] theorem ev_lit {d : D} : ev F (.lit d) env = .ok (.im d, env) := by simp only [ev] <;> rfl
@[simp] theorem ev_glb {x : Str} {d : D} : ev F (.glb x d) env = .ok (.im d, env) := by simp only [ev] <;> rfl
@[simp] theorem ev_bin {op : BOp} {a b : E} : ev F (.bin op a b) env = (ev F a env).bind fun x => (ev F b x.2).bind fun y => (R.of (peek y.2 x.1)).bind fun da => (R.of (peek y.2 y.1)).bind fun db => (R.of (bin op da db)).bind fun r => .ok (r, y.2) := by simp only [ev] <;> rfl
@[simp] theorem ev_neg {a : E} : ev F (.neg a) env = (ev F a env).bind fun x => (R.of (peek x.2 x.1)).bind fun d => (R.of (toI d)).bind fun i => .ok (.im (.int (-i)), x.2) := by simp only [ev] <;> rfl
@[simp] theorem ev_not {a : E} : ev F (.not_ a) env = (ev F a env).bind fun x => (R.of (peek x.2 x.1)).bind fun d => (R.of (truth d)).bind fun c => .ok (.im (.bl (!c)), x.2) := by simp only [ev] <;> rfl
@[simp] theorem ev_and {a b : E} : ev F (.and_ a b) env = (ev F a env).bind fun x => (R.of (peek x.2 x.1)).bind fun d => (R.of (truth d)).bind fun c => if c = true then ev F b x.2 else .ok x := by simp only [ev] <;> rfl
@[simp] theorem ev_or {a b : E} : ev F (.or_ a b) env = (ev F a env).bind fun x => (R.of (peek x.2 x.1)).bind fun d => (R.of (truth d)).bind fun c => if c = true then .ok x else ev F b x.2 := by simp only [ev] <;> rfl
@[simp] theorem ev_cmp {op : COp} {a b : E} : ev F (.cmp op a b) env = (ev F a env).bind fun x => (ev F b x.2).bind fun y => (R.of (peek y.2 x.1)).bind fun da => (R.of (peek y.2 y.1)).bind fun db => (R.of (cmpD op da db)).bind fun c => .ok (.im (.bl c), y.2) := by simp only [ev] <;> rfl
@[simp] theorem ev_chn {op op' : COp} {a b c : E} : ev F (.chn op op' a b c) env = (ev F a env).bind fun x => (ev F b x.2).bind fun y => (R.of (peek y.2 x.1)).bind fun da => (R.of (peek y.2 y.1)).bind fun db => (R.of (cmpD op da db)).bind fun t =>
      if t = true then (ev F c y.2).bind fun z => (R.of (peek z.2 y.1)).bind fun db => (R.of (peek z.2 z.1)).bind fun dc => (R.of (cmpD op' db dc)).bind fun t => .ok (.im (.bl t), z.2) else .ok (.im (.bl false), y.2) := by simp only [ev] <;> rfl
@[simp] theorem ev_ite {c a b : E} : ev F (.ite c a b) env = (ev F c env).bind fun x => (R.of (peek x.2 x.1)).bind fun d => (R.of (truth d)).bind fun t => if t = true then ev F a x.2 else ev F b x.2 := by simp only [ev] <;> rfl
@[simp] theorem ev_tup {es : Es} : ev F (.tup es) env = (evK F es env).bind fun x => if x.1.length ≤ listLim then .ok (.im (.tup x.1), x.2) else .no := by simp only [ev] <;> rfl
@[simp] theorem ev_lst {es : Es} : ev F (.lst es) env = (evK F es env).bind fun x => if x.1.length ≤ listLim then .ok (.tm x.1, x.2) else .no := by simp only [ev] <;> rfl
@[simp] theorem ev_call {j : Nat} {es : Es} {ds : List D} : ev F (.call j es ds) env = (evA F es env).bind fun x => (F j (x.1 ++ ds.map .im)).bind fun r => .ok (ofVl r.1, lendBack x.2.2 r.2 x.2.1) := by simp only [ev] <;> rfl
@[simp] theorem ev_bi {b : Bi} {es : Es} : ev F (.bi b es) env = (evP F es env).bind fun x => (R.of (peeks x.2 x.1)).bind fun ds => (R.of (biD b ds)).bind fun r => .ok (r, x.2) := by simp only [ev] <;> rfl
@[simp] theorem ev_ix {a b : E} : ev F (.ix a b) env = (ev F a env).bind fun x => (ev F b x.2).bind fun y => (R.of (peek y.2 x.1)).bind fun da => (R.of (peek y.2 y.1)).bind fun db => (R.of (ixD da db)).bind fun d => .ok (.im d, y.2) := by simp only [ev] <;> rfl
@[simp] theorem ev_sli {a : E} {lo hi : Oe} : ev F (.sli a lo hi) env = (ev F a env).bind fun x => (evO F lo x.2).bind fun l => (evO F hi l.2).bind fun h => (R.of (peek h.2 x.1)).bind fun d => (R.of (cutD d l.1 h.1)).bind fun r => .ok (r, h.2) := by simp only [ev] <;> rfl
/-- one turn of a comprehension -/
def compF (F : Fns) (own : List Nat) (tg : Tg) (c : Oe) (e : E) (d : D) (env1 : Env) : R (Option D × Env) := (R.of (asgT env1 tg d)).bind fun env2 => (evC F c env2).bind fun t =>
          if t.1 = true then (ev F e t.2).bind fun y => (R.of (keep y.2 y.1)).bind fun z => .ok (some z.1, wipeE z.2 own) else .ok (none, wipeE t.2 own)
@[simp] theorem ev_comp {own : List Nat} {tg : Tg} {it : Iter} {c : Oe} {e : E} : ev F (.comp own tg it c e) env = (evI F it env).bind fun x => (noex (compL (compF F own tg c e) x.1 (wipeE x.2 own))).bind fun r => if r.1.length ≤ listLim then .ok (.tm r.1, backE x.2 r.2 own) else .no := by simp only [ev]; rfl
@[simp] theorem evC_n : evC F .none env = .ok (true, env) := by simp only [evC]
@[simp] theorem evC_s {c : E} : evC F (.some c) env = (ev F c env).bind fun t => (R.of (peek t.2 t.1)).bind fun td => (R.of (truth td)).bind fun b => .ok (b, t.2) := by simp only [evC]
@[simp] theorem evK_n : evK F .nil env = .ok ([], env) := by simp only [evK]
@[simp] theorem evK_c {e : E} {es : Es} : evK F (.cons e es) env = (ev F e env).bind fun x => (R.of (keep x.2 x.1)).bind fun y => (evK F es y.2).bind fun z => .ok (y.1 :: z.1, z.2) := by simp only [evK]
@[simp] theorem evP_n : evP F .nil env = .ok ([], env) := by simp only [evP]
@[simp] theorem evP_c {e : E} {es : Es} : evP F (.cons e es) env = (ev F e env).bind fun x => (evP F es x.2).bind fun z => .ok (x.1 :: z.1, z.2) := by simp only [evP]
@[simp] theorem evA_n : evA F .nil env = .ok ([], env, []) := by simp only [evA]
@[simp] theorem evA_c {e : E} {es : Es} : evA F (.cons e es) env = (ev F e env).bind fun x => (evA F es x.2).bind fun z => (R.of (lend z.2.1 x.1)).bind fun y => .ok (y.1 :: z.1, y.2.1, y.2.2 :: z.2.2) := by simp only [evA]
@[simp] theorem evO_n : evO F .none env = .ok (none, env) := by simp only [evO]
@[simp] theorem evO_s {e : E} : evO F (.some e) env = (ev F e env).bind fun x => (R.of (peek x.2 x.1)).bind fun d => (R.of (toI d)).bind fun i => .ok (some i, x.2) := by simp only [evO]
@[simp] theorem evS_n : evS F .nil env = .ok ([], env) := by simp only [evS]
@[simp] theorem evS_c {e : E} {es : Es} : evS F (.cons e es) env = (ev F e env).bind fun x => (R.of (settle x.2 x.1)).bind fun y => (evS F es y.2).bind fun z => .ok (y.1 :: z.1, z.2) := by simp only [evS]
@[simp] theorem evI_seq {e : E} : evI F (.seq e) env = (ev F e env).bind fun x => (R.of (keep x.2 x.1)).bind fun y => (R.of (items y.1)).bind fun xs => .ok (xs, y.2) := by simp only [evI]
@[simp] theorem evI_rng {es : Es} : evI F (.rng es) env = (evK F es env).bind fun x => (R.of (rngOf x.1)).bind fun xs => .ok (xs, x.2) := by simp only [evI]
@[simp] theorem evI_enum {e : E} : evI F (.enum e) env = (ev F e env).bind fun x => (R.of (keep x.2 x.1)).bind fun y => (R.of (items y.1)).bind fun xs => .ok (enumFrom 0 xs, y.2) := by simp only [evI]
@[simp] theorem ex_pass : exec F loc .pass env = .ok (.nx, env) := by simp only [exec] <;> rfl
@[simp] theorem ex_brk : exec F loc .brk env = .ok (.bk, env) := by simp only [exec] <;> rfl
@[simp] theorem ex_cont : exec F loc .cont env = .ok (.ct, env) := by simp only [exec] <;> rfl
@[simp] theorem ex_asg {tg : Tg} {e : E} : exec F loc (.asg tg e) env = (ev F e env).bind fun x => (R.of (keep x.2 x.1)).bind fun y => (R.of (asgT y.2 tg y.1)).bind fun env => .ok (.nx, env) := by simp only [exec] <;> rfl
@[simp] theorem ex_set {i : Nat} {e : E} : exec F loc (.set i e) env = (ev F e env).bind fun x => (R.of (settle x.2 x.1)).bind fun y => .ok (.nx, y.2.set i (some y.1)) := by simp only [exec] <;> rfl
@[simp] theorem ex_par {is : List Nat} {es : Es} : exec F loc (.par is es) env = (evS F es env).bind fun x => (R.of (setAll x.2 is x.1)).bind fun env => .ok (.nx, env) := by simp only [exec] <;> rfl
@[simp] theorem ex_setix {i : Nat} {a e : E} : exec F loc (.setix i a e) env = (ev F e env).bind fun x => (R.of (keep x.2 x.1)).bind fun y => (R.of (getOw y.2 i)).bind fun _ => (ev F a y.2).bind fun z => (R.of (peek z.2 z.1)).bind fun d => (R.of (toI d)).bind fun k =>
      (R.of (getOw z.2 i)).bind fun xs => (R.of (putIx xs k y.1)).bind fun ys => .ok (.nx, z.2.set i (some (.ow ys))) := by simp only [exec] <;> rfl
@[simp] theorem ex_augv {i : Nat} {op : BOp} {e : E} : exec F loc (.augv i op e) env = (R.of (get env i)).bind fun v => (ev F e env).bind fun x => (R.of (keep x.2 x.1)).bind fun y => (R.of (augV op v y.1)).bind fun r => .ok (.nx, y.2.set i (some (.im r))) := by simp only [exec] <;> rfl
@[simp] theorem ex_app {i : Nat} {e : E} : exec F loc (.app i e) env = (R.of (getOw env i)).bind fun _ => (ev F e env).bind fun x => (R.of (keep x.2 x.1)).bind fun y => (R.of (getOw y.2 i)).bind fun xs =>
      if xs.length < listLim then .ok (.nx, y.2.set i (some (.ow (xs ++ [y.1])))) else .no := by simp only [exec] <;> rfl
@[simp] theorem ex_ext {i : Nat} {e : E} : exec F loc (.ext i e) env = (R.of (getOw env i)).bind fun _ => (ev F e env).bind fun x => (R.of (peek x.2 x.1)).bind fun d => (R.of (getOw x.2 i)).bind fun xs => match d with
      | .lst ys => if xs.length + ys.length ≤ listLim then .ok (.nx, x.2.set i (some (.ow (xs ++ ys)))) else .no
      | _ => .no := by simp only [exec] <;> rfl
@[simp] theorem ex_drop {e : E} : exec F loc (.drop e) env = (ev F e env).bind fun x => .ok (.nx, x.2) := by simp only [exec] <;> rfl
@[simp] theorem ex_ret {e : E} : exec F loc (.ret e) env = (ev F e env).bind fun x => (R.of (giveback loc x.2 x.1)).bind fun y => .ok (.rt y.1, y.2) := by simp only [exec] <;> rfl
@[simp] theorem ex_retn : exec F loc .retn env = .ok (.rt (.im .non), env) := by simp only [exec] <;> rfl
@[simp] theorem ex_iff {c : E} {a b : Ss} : exec F loc (.iff c a b) env = (ev F c env).bind fun t => (R.of (peek t.2 t.1)).bind fun td => (R.of (truth td)).bind fun q => if q = true then execs F loc a t.2 else execs F loc b t.2 := by simp only [exec] <;> rfl
/-- one turn of a for -/
noncomputable def forF (F : Fns) (loc : Nat → Bool) (tg : Tg) (b : Ss) (d : D) (env : Env) : R (Ctl × Env) := (R.of (asgT env tg d)).bind fun env1 => execs F loc b env1
@[simp] theorem ex_for {tg : Tg} {it : Iter} {b : Ss} : exec F loc (.forr tg it b) env = (evI F it env).bind fun x => forL (forF F loc tg b) x.1 x.2 := by simp only [exec]; rfl
@[simp] theorem exs_n : execs F loc .nil env = .ok (.nx, env) := by simp only [execs] <;> rfl
@[simp] theorem exs_c {s : S} {ss : Ss} : execs F loc (.cons s ss) env = (exec F loc s env).bind fun r => match r.1 with
    | .nx => execs F loc ss r.2
    | c => .ok (c, r.2) := by simp only [execs] <;> rfl
@[simp] theorem truth_bl {b : Bool} : truth (.bl b) = some b := rfl
@[simp] theorem ofVl_im {d : D} : ofVl (.im d) = .im d := rfl
@[simp] theorem ofVl_ow {d : List D} : ofVl (.ow d) = .tm d := rfl
@[simp] theorem compL_n {f : D → Env → R (Option D × Env)} : compL f [] env = .ok ([], env) := rfl
@[simp] theorem forL_n {f : D → Env → R (Ctl × Env)} : forL f [] env = .ok (.nx, env) := rfl
@[simp] theorem noex_ok {α : Type} {a : α} : noex (R.ok a) = .ok a := rfl
@[simp] theorem out2 {a b : Option Vl} {r : Env} : outs (locOf 2 []) 2 (a :: b :: r) = [a, b] := by simp [outs, locOf, List.range_succ]
@[simp] theorem out1 {a : Option Vl} {r : Env} : outs (locOf 1 []) 1 (a :: r) = [a] := by simp [outs, locOf, List.range_succ]
end
end RB

set_option linter.all false
namespace RB
open PySem

def startB : Ss := (.cons (.set 1 (.lit (.int 7))) (.cons (.forr (.v 2) (.seq (.var 0)) (.cons (.set 1 (.bin .add (.bin .mod (.bi .int (.cons (.bin .add (.bin .mul (.var 1) (.lit (.int 48271))) (.var 2)) .nil)) (.lit (.int 2147483629))) (.lit (.int 1)))) .nil)) (.cons (.ret (.lst (.cons (.bi .list (.cons (.var 0) .nil)) (.cons (.lit (.int 0)) (.cons (.lit (.int 0)) (.cons (.var 1) .nil)))))) .nil)))
/-- the state that the laws draw from -/
def Wf (S : List D) : Prop := ∃ (ns : List Int) (a p s : Int), S = [.lst (ns.map D.int), .int a, .int p, .int s] ∧ 0 ≤ a ∧ 0 ≤ p

theorem pre_start {F : Fns} (ns : List Int) : ∃ S, Wf S ∧ fnOf F 1 3 [] startB [.im (.scr (ns.map D.int))] = .ok (.ow S, [some (.im (.scr (ns.map D.int)))]) := by
  have loop : ∀ (l : List Int) (s : Int) (x : Option Vl), ∃ s' x', forL (forF F (locOf 1 []) (.v 2) (.cons (.set 1 (.bin .add (.bin .mod (.bi .int (.cons (.bin .add (.bin .mul (.var 1) (.lit (.int 48271))) (.var 2)) .nil)) (.lit (.int 2147483629))) (.lit (.int 1)))) .nil))
      (l.map D.int) [some (.im (.scr (ns.map D.int))), some (.im (.int s)), x] = .ok (.nx, [some (.im (.scr (ns.map D.int))), some (.im (.int s')), x']) := by
    intro l
    induction l with
    | nil => intro s x; exact ⟨s, x, rfl⟩
    | cons n l ih =>
      intro s x
      obtain ⟨s', x', e⟩ := ih ((s * 48271 + n) % 2147483629 + 1) (some (.im (.int n)))
      refine ⟨s', x', ?_⟩
      rw [← e]
      simp [forL, forF, bin, binI, biD]
  obtain ⟨s', x', e⟩ := loop ns 7 none
  refine ⟨_, ⟨ns, 0, 0, s', rfl, by decide, by decide⟩, ?_⟩
  unfold fnOf
  simp [startB, entry, locOf, List.replicate, items, e, biD, listLim]

def drawB : Ss := (.cons (.iff (.and_ (.cmp .eq (.ix (.var 0) (.lit (.int 1))) (.lit (.int 0))) (.cmp .ge (.ix (.var 0) (.lit (.int 2))) (.bi .len (.cons (.ix (.var 0) (.lit (.int 0))) .nil)))) (.cons (.setix 0 (.lit (.int 3)) (.bin .mod (.bi .int (.cons (.bin .add (.bin .mul (.ix (.var 0) (.lit (.int 3))) (.lit (.int 48271))) (.lit (.int 69621))) .nil)) (.lit (.int 2147483629)))) (.cons (.ret (.bin .mod (.bi .int (.cons (.bin .fdiv (.ix (.var 0) (.lit (.int 3))) (.lit (.int 13))) .nil)) (.var 1))) .nil)) .nil) (.cons (.iff (.cmp .eq (.ix (.var 0) (.lit (.int 1))) (.lit (.int 0))) (.cons (.setix 0 (.lit (.int 1)) (.bi .abs (.cons (.ix (.ix (.var 0) (.lit (.int 0))) (.ix (.var 0) (.lit (.int 2)))) .nil))) (.cons (.setix 0 (.lit (.int 2)) (.bin .add (.ix (.var 0) (.lit (.int 2))) (.lit (.int 1)))) .nil)) .nil) (.cons (.set 2 (.bin .mod (.bi .int (.cons (.ix (.var 0) (.lit (.int 1))) .nil)) (.var 1))) (.cons (.setix 0 (.lit (.int 1)) (.bin .fdiv (.ix (.var 0) (.lit (.int 1))) (.var 1))) (.cons (.ret (.var 2)) .nil)))))
theorem eqD_int {i j : Int} : eqD (.int i) (.int j) = some (decide (i = j)) := by
  simp [eqD, D.py, PyData.eqv, SeqAt.shaped, PyData.canLay0, PyData.depth]
  exact Bool.beq_eq_decide_eq i j
@[simp] theorem cmp_eqI {i j : Int} : cmpD .eq (.int i) (.int j) = some (decide (i = j)) := eqD_int
@[simp] theorem cmp_neI {i j : Int} : cmpD .ne (.int i) (.int j) = some (!decide (i = j)) := by
  show ((eqD (.int i) (.int j)).bind fun c => some (!c)) = _
  rw [eqD_int]; rfl
@[simp] theorem cmp_ltI {i j : Int} : cmpD .lt (.int i) (.int j) = some (decide (i < j)) := rfl
@[simp] theorem cmp_leI {i j : Int} : cmpD .le (.int i) (.int j) = some (decide (i ≤ j)) := rfl
@[simp] theorem cmp_gtI {i j : Int} : cmpD .gt (.int i) (.int j) = some (decide (j < i)) := rfl
@[simp] theorem cmp_geI {i j : Int} : cmpD .ge (.int i) (.int j) = some (decide (j ≤ i)) := rfl
@[simp] theorem bin_addI {i j : Int} : bin .add (.int i) (.int j) = some (.im (.int (i + j))) := rfl
@[simp] theorem bin_subI {i j : Int} : bin .sub (.int i) (.int j) = some (.im (.int (i - j))) := rfl
theorem bin_mulI {i j : Int} (h : (-(2 ^ 64) < i ∧ i < 2 ^ 64) ∨ (-(2 ^ 64) < j ∧ j < 2 ^ 64)) : bin .mul (.int i) (.int j) = some (.im (.int (i * j))) := by
  have h : (-(2 ^ 64) < i ∧ i < 2 ^ 64) ∨ (-(2 ^ 64) < j ∧ j < 2 ^ 64) ∨ (wide i ∧ wide j) := h.imp_right .inl
  simp only [bin, binI]
  rw [if_pos h]; rfl
theorem bin_modI {i j : Int} (h : 0 < j) : bin .mod (.int i) (.int j) = some (.im (.int (i % j))) := by
  simp only [bin, binI]
  rw [if_pos h]; rfl
theorem bin_divI {i j : Int} (h : 0 < j) (h2 : j < 1073741824 ∨ wide j = true) : bin .fdiv (.int i) (.int j) = some (.im (.int (i / j))) := by
  simp only [bin, binI]
  rw [if_pos ⟨h, h2⟩]; rfl
@[simp] theorem bi_int {i : Int} : biD .int [.int i] = some (.im (.int i)) := rfl
@[simp] theorem bi_abs {i : Int} : biD .abs [.int i] = some (.im (.int (if i < 0 then -i else i))) := rfl
@[simp] theorem bi_lenL {xs : List D} : biD .len [.lst xs] = some (.im (.int xs.length)) := rfl
@[simp] theorem bi_lenT {xs : List D} : biD .len [.tup xs] = some (.im (.int xs.length)) := rfl
theorem atI_nat {xs : List D} {k : Nat} (h : k < xs.length) : L2.atI xs (k : Int) = some xs[k] := by
  exact L2.atI_nat (by simp [h])
theorem ix_nat {xs : List D} {k : Nat} (h : k < xs.length) : ixD (.lst xs) (.int (k : Int)) = some xs[k] := atI_nat h
theorem ixT_nat {xs : List D} {k : Nat} (h : k < xs.length) : ixD (.tup xs) (.int (k : Int)) = some xs[k] := atI_nat h
theorem put_nat {xs : List D} {k : Nat} {d : D} (h : k < xs.length) : putIx xs (k : Int) d = some (xs.set k d) := by
  unfold putIx L2.ixN
  rw [if_pos (by omega), if_pos (by omega)]
  simp
theorem pre_draw {F : Fns} {S : List D} {m : Int} (h : Wf S) (hm : 0 < m) (hw : m < 1073741824 ∨ wide m = true) : ∃ n S', 0 ≤ n ∧ n < m ∧ Wf S' ∧ fnOf F 2 3 [] drawB [.ow S, .im (.int m)] = .ok (.im (.int n), [some (.ow S'), some (.im (.int m))]) := by
  obtain ⟨ns, a, p, s, rfl, ha, hp⟩ := h
  have ix1 : ∀ {x y z w : D}, ixD (.lst [x, y, z, w]) (.int 1) = some y := fun {x y z w} => rfl
  have ix0 : ∀ {x y z w : D}, ixD (.lst [x, y, z, w]) (.int 0) = some x := fun {x y z w} => rfl
  have ix2 : ∀ {x y z w : D}, ixD (.lst [x, y, z, w]) (.int 2) = some z := fun {x y z w} => rfl
  have ix3 : ∀ {x y z w : D}, ixD (.lst [x, y, z, w]) (.int 3) = some w := fun {x y z w} => rfl
  have pt3 : ∀ {x y z w v : D}, putIx [x, y, z, w] 3 v = some [x, y, z, v] := fun {x y z w v} => rfl
  have pt2 : ∀ {x y z w v : D}, putIx [x, y, z, w] 2 v = some [x, y, v, w] := fun {x y z w v} => rfl
  have pt1 : ∀ {x y z w v : D}, putIx [x, y, z, w] 1 v = some [x, v, z, w] := fun {x y z w v} => rfl
  have m48 : bin .mul (.int s) (.int 48271) = some (.im (.int (s * 48271))) := bin_mulI (.inr (by decide))
  have md : ∀ {i : Int}, bin .mod (.int i) (.int 2147483629) = some (.im (.int (i % 2147483629))) := fun {i} => bin_modI (by decide)
  have dm : ∀ {i : Int}, bin .mod (.int i) (.int m) = some (.im (.int (i % m))) := fun {i} => bin_modI hm
  have d13 : ∀ {i : Int}, bin .fdiv (.int i) (.int 13) = some (.im (.int (i / 13))) := fun {i} => bin_divI (by decide) (.inl (by decide))
  have dv : ∀ {i : Int}, bin .fdiv (.int i) (.int m) = some (.im (.int (i / m))) := fun {i} => bin_divI hm hw
  by_cases h0 : a = 0
  · by_cases h1 : (ns.length : Int) ≤ p
    · refine ⟨((s * 48271 + 69621) % 2147483629) / 13 % m, _, Int.emod_nonneg _ (by omega), Int.emod_lt_of_pos _ hm, ⟨ns, a, p, (s * 48271 + 69621) % 2147483629, rfl, ha, hp⟩, ?_⟩
      unfold fnOf
      simp [drawB, entry, locOf, List.replicate, ix1, ix0, ix2, ix3, h0, h1, m48, md, dm, d13, pt3]
    · obtain ⟨k, rfl⟩ := Int.eq_ofNat_of_zero_le hp
      have hk : k < ns.length := by omega
      have hx : ixD (.lst (ns.map D.int)) (.int (k : Int)) = some (.int ns[k]) := by
        rw [ix_nat (by simpa using hk)]; simp
      refine ⟨(if ns[k] < 0 then -ns[k] else ns[k]) % m, _, Int.emod_nonneg _ (by omega), Int.emod_lt_of_pos _ hm, ⟨ns, (if ns[k] < 0 then -ns[k] else ns[k]) / m, (k : Int) + 1, s, rfl, Int.ediv_nonneg (by split <;> omega) (by omega), by omega⟩, ?_⟩
      unfold fnOf
      simp [drawB, entry, locOf, List.replicate, ix1, ix0, ix2, ix3, h0, h1, dm, dv, pt1, pt2, hx]
  · refine ⟨a % m, _, Int.emod_nonneg _ (by omega), Int.emod_lt_of_pos _ hm, ⟨ns, a / m, p, s, rfl, Int.ediv_nonneg ha (by omega), hp⟩, ?_⟩
    unfold fnOf
    simp [drawB, entry, locOf, List.replicate, ix1, ix0, ix2, ix3, h0, dm, dv, pt1, pt2]
end RB

set_option linter.all false
namespace RB
open PySem
mutual
/-- no text is longer -/
def D.wt : D → Nat
  | .non => 4
  | .bl _ => 5
  | .int _ => 40
  | .str s => (reprText s).length
  | .tup xs => 4 + D.wts xs
  | .lst xs => 4 + D.wts xs
  | .scr _ => 0
  | .fn _ => 0
  | .exc _ _ => 0
def D.wts : List D → Nat
  | [] => 0
  | x :: xs => D.wt x + 2 + D.wts xs
end
mutual
def D.fine : D → Bool
  | .non => true
  | .bl _ => true
  | .int i => decide (i.natAbs < 10 ^ 36)
  | .str s => PyData.canLay0 (.str s)
  | .tup xs => D.fines xs
  | .lst xs => D.fines xs
  | .scr _ => false
  | .fn _ => false
  | .exc _ _ => false
def D.fines : List D → Bool
  | [] => true
  | x :: xs => D.fine x && D.fines xs
end
mutual
def D.dep : D → Nat
  | .tup xs => D.deps xs + 1
  | .lst xs => D.deps xs + 1
  | .non => 0
  | .bl _ => 0
  | .int _ => 0
  | .str _ => 0
  | .scr _ => 0
  | .fn _ => 0
  | .exc _ _ => 0
def D.deps : List D → Nat
  | [] => 0
  | x :: xs => max (D.dep x) (D.deps xs)
end
mutual
theorem fine_lay : ∀ (d : D), d.fine = true → d.py.canLay0 = true ∧ d.py.showable = true
  | .non, _ => ⟨rfl, rfl⟩
  | .bl _, _ => ⟨rfl, rfl⟩
  | .int i, h => by
    refine ⟨rfl, ?_⟩
    simp only [D.fine, decide_eq_true_eq] at h
    simp only [D.py, PyData.showable, decide_eq_true_eq]
    by_cases h0 : i.natAbs = 0
    · rw [h0]; decide
    · rw [Nat.log2_lt h0]
      have h1 : (10 : Nat) ^ 36 < 2 ^ 120 := by decide
      have h2 : (2 : Nat) ^ 120 ≤ 2 ^ 1920 := Nat.pow_le_pow_right (by decide) (by decide)
      omega
  | .str s, h => ⟨by simpa [D.fine, D.py] using h, by simp [D.py, PyData.showable]⟩
  | .tup xs, h => by
    simp only [D.fine] at h
    have := fines_lay xs h
    simpa [D.py, PyData.canLay0, PyData.showable] using this
  | .lst xs, h => by
    simp only [D.fine] at h
    have := fines_lay xs h
    simpa [D.py, PyData.canLay0, PyData.showable] using this
  | .scr _, h => by simp [D.fine] at h
  | .fn _, h => by simp [D.fine] at h
  | .exc _ _, h => by simp [D.fine] at h
theorem fines_lay : ∀ (xs : List D), D.fines xs = true → PyData.canLayAll0 (D.pys xs) = true ∧ PyData.showableAll (D.pys xs) = true
  | [], _ => ⟨rfl, rfl⟩
  | x :: xs, h => by
    simp only [D.fines, Bool.and_eq_true] at h
    have a := fine_lay x h.1
    have b := fines_lay xs h.2
    simp [D.pys, PyData.canLayAll0, PyData.showableAll, a, b]
end
mutual
theorem dep_py : ∀ (d : D), d.fine = true → d.py.depth = d.dep
  | .non, _ => rfl
  | .bl _, _ => rfl
  | .int i, h => rfl
  | .str s, h => rfl
  | .tup xs, h => by
    simp only [D.fine] at h
    simp [D.py, PyData.depth, D.dep, deps_py xs h]
  | .lst xs, h => by
    simp only [D.fine] at h
    simp [D.py, PyData.depth, D.dep, deps_py xs h]
  | .scr _, h => by simp [D.fine] at h
  | .fn _, h => by simp [D.fine] at h
  | .exc _ _, h => by simp [D.fine] at h
theorem deps_py : ∀ (xs : List D), D.fines xs = true → PyData.depthAll (D.pys xs) = D.deps xs
  | [], _ => rfl
  | x :: xs, h => by
    simp only [D.fines, Bool.and_eq_true] at h
    simp [D.pys, PyData.depthAll, D.deps, dep_py x h.1, deps_py xs h.2]
end
theorem shown_int_le {i : Int} (h : i.natAbs < 10 ^ 36) : (PyData.int i).shown.length ≤ 40 := by
  rw [PyData.shown_int]
  by_cases h0 : 0 ≤ i
  · have := PyProof.Rows.toString_length_le h0 (k := 36) (by decide) (by omega)
    exact Nat.le_trans this (by decide)
  · have e := PyProof.Rows.len_text_negI (n := i) (by omega)
    have := PyProof.Rows.toString_length_le (v := 0 - i) (by omega) (k := 36) (by decide) (by omega)
    omega
theorem join_le (ts : List Str) : (Str.join ", " ts).length ≤ piled ts := by
  cases ts with
  | nil => simp [Str.join, piled]; decide
  | cons t r => have := join_length_add (t :: r) (by simp); omega
mutual
theorem shown_le : ∀ (d : D), d.fine = true → d.py.shown.length ≤ d.wt
  | .non, _ => by simp only [D.py, D.wt]; decide +kernel
  | .bl b, _ => by cases b <;> (simp only [D.py, D.wt]; decide +kernel)
  | .int i, h => by
    simp only [D.fine, decide_eq_true_eq] at h
    exact shown_int_le h
  | .str s, h => by
    simp only [D.py, D.wt, PyData.shown_str]
    exact Nat.le_refl _
  | .tup xs, h => by
    simp only [D.fine] at h
    have := showns_le xs h
    have j := join_le (PyData.shownAll (D.pys xs))
    simp only [D.py, D.wt, PyData.shown_tuple, strLen_append]
    have e1 : (("(" : Str)).length = 1 := by decide +kernel
    have e2 : (Str.ofString (if (D.pys xs).length == 1 then ",)" else ")")).length ≤ 2 := by split <;> decide +kernel
    omega
  | .lst xs, h => by
    simp only [D.fine] at h
    have := showns_le xs h
    have j := join_le (PyData.shownAll (D.pys xs))
    simp only [D.py, D.wt, PyData.shown_list, strLen_append]
    have e1 : (("[" : Str)).length = 1 := by decide +kernel
    have e2 : (("]" : Str)).length = 1 := by decide +kernel
    omega
  | .scr _, h => by simp [D.fine] at h
  | .fn _, h => by simp [D.fine] at h
  | .exc _ _, h => by simp [D.fine] at h
theorem showns_le : ∀ (xs : List D), D.fines xs = true → piled (PyData.shownAll (D.pys xs)) ≤ D.wts xs
  | [], _ => by simp [D.pys, PyData.shownAll, piled, D.wts]
  | x :: xs, h => by
    simp only [D.fines, Bool.and_eq_true] at h
    have a := shown_le x h.1
    have b := showns_le xs h.2
    simp only [D.pys, PyData.shownAll, piled_cons, D.wts]
    omega
end
/-- data that the laws' last test takes -/
structure Fine (d : D) : Prop where
  f : d.fine = true
  w : d.wt ≤ listLim
  e : d.dep ≤ 60
theorem Fine.repr {d : D} (h : Fine d) : reprD d = some (.str d.py.shown) := by
  unfold reprD
  rw [if_pos]
  obtain ⟨a, b⟩ := fine_lay d h.f
  exact ⟨a, b, by rw [dep_py d h.f]; exact Nat.le_trans h.e (by decide), Nat.le_trans (shown_le d h.f) h.w⟩
theorem Fine.shaped {d : D} (h : Fine d) : SeqAt.shaped d.py = true := by
  unfold SeqAt.shaped
  rw [(fine_lay d h.f).1, dep_py d h.f]
  simpa using Nat.le_trans h.e (by decide)
theorem Fine.eq {d : D} (h : Fine d) : eqD d d = some true := by
  unfold eqD
  split
  · rename_i x y e
    simp
  · rw [if_pos ⟨h.shaped, h.shaped⟩, PySem.SeqAt.eqv_refl _ (fine_lay d h.f).1]
theorem eqD_str {x y : Str} : eqD (.str x) (.str y) = some (x == y) := by simp only [eqD]
def sameB : Ss := (.cons (.ret (.and_ (.cmp .eq (.var 0) (.var 1)) (.cmp .eq (.bi .repr (.cons (.var 0) .nil)) (.bi .repr (.cons (.var 1) .nil))))) .nil)
theorem pre_same {F : Fns} {v1 v2 : Vl} {d : D} (h1 : frz v1 = d) (h2 : frz v2 = d) (hd : Fine d) : fnOf F 2 2 [] sameB [v1, v2] = .ok (.im (.bl true), [some v1, some v2]) := by
  have e1 : cmpD .eq d d = some true := hd.eq
  have e2 : biD .repr [d] = some (.im (.str d.py.shown)) := by
    show ((reprD d).bind fun x => some (Rf.im x)) = _
    rw [hd.repr]; rfl
  have e3 : cmpD .eq (.str d.py.shown) (.str d.py.shown) = some true := by
    show eqD (.str d.py.shown) (.str d.py.shown) = _
    rw [eqD_str]; simp
  unfold fnOf
  cases v1 <;> cases v2 <;> simp only [frz_im, frz_ow] at h1 h2 <;> subst h1 <;> cases h2 <;> simp [sameB, entry, locOf, e1, e2, e3]
end RB

set_option linter.all false
namespace RB
open PySem
@[simp] theorem Fl_0 {f : Fn} {l : List Fn} : Fl (f :: l) 0 = f := rfl
@[simp] theorem Fl_s {f : Fn} {l : List Fn} {j : Nat} : Fl (f :: l) (j + 1) = Fl l j := rfl
theorem fnl_cons {e : DefE} {r : List DefE} {acc : List Fn} : fnl (e :: r) acc = fnl r (acc ++ [e.fn acc]) := rfl
theorem fnl_nil {acc : List Fn} : fnl [] acc = acc := rfl
theorem DefE.fn_eq {e : DefE} {acc : List Fn} {vs : List Vl} : e.fn acc vs = fnOf (Fl acc) e.np e.N.length e.lost e.body vs := rfl

def pickB (j : Nat) : Ss := (.cons (.ret (.ix (.var 1) (.call j (.cons (.var 0) (.cons (.bi .len (.cons (.var 1) .nil)) .nil)) []))) .nil)
theorem pre_pick {F F' : Fns} {j : Nat} {S : List D} {xs : List D} {v : Vl} (hF : F j = fnOf F' 2 3 [] drawB) (h : Wf S) (hv : frz v = .lst xs) (h0 : 0 < xs.length) (h1 : xs.length < 1073741824) :
    ∃ (k : Nat) (hk : k < xs.length) (S' : List D), Wf S' ∧ fnOf F 2 2 [] (pickB j) [.ow S, v] = .ok (.im xs[k], [some (.ow S'), some v]) := by
  obtain ⟨n, S', n0, n1, wf, e⟩ := pre_draw (F := F') (m := xs.length) h (by omega) (.inl (by omega))
  obtain ⟨k, rfl⟩ := Int.eq_ofNat_of_zero_le n0
  have hk : k < xs.length := by omega
  refine ⟨k, hk, S', wf, ?_⟩
  rw [← hF] at e
  have ix := ix_nat hk
  unfold fnOf
  cases v <;> simp only [frz_im, frz_ow] at hv
  · subst hv
    simp [pickB, entry, locOf, e, ix]
  · cases hv
    simp [pickB, entry, locOf, e, ix]

/-- a comprehension whose turns leave the slots as they are -/
theorem compL_map {f : D → Env → R (Option D × Env)} {env : Env} {g : D → Option D} : ∀ {xs : List D}, (∀ x ∈ xs, f x env = .ok (g x, env)) → compL f xs env = .ok (xs.filterMap g, env)
  | [], _ => rfl
  | x :: xs, h => by
    have h1 := h x List.mem_cons_self
    have h2 := compL_map (xs := xs) fun y hy => h y (List.mem_cons_of_mem _ hy)
    simp only [compL, h1, h2, R.bind_ok]
    cases hg : g x <;> simp [List.filterMap_cons, hg]
/-- over a mapped list -/
theorem compL_on {α : Type} {f : D → Env → R (Option D × Env)} {env : Env} {d : α → D} {g : α → Option D} : ∀ {xs : List α}, (∀ x ∈ xs, f (d x) env = .ok (g x, env)) → compL f (xs.map d) env = .ok (xs.filterMap g, env)
  | [], _ => rfl
  | x :: xs, h => by
    have h1 := h x List.mem_cons_self
    have h2 := compL_on (xs := xs) fun y hy => h y (List.mem_cons_of_mem _ hy)
    simp only [List.map_cons, compL, h1, h2, R.bind_ok]
    cases hg : g x <;> simp [List.filterMap_cons, hg]
/-- a for whose turns all end as wanted -/
theorem forL_inv {f : D → Env → R (Ctl × Env)} {I : Nat → Env → Prop} : ∀ {xs : List D} {k : Nat} {env : Env}, I k env → (∀ (i : Nat) x env, xs[i]? = some x → I (k + i) env → ∃ env', f x env = .ok (.nx, env') ∧ I (k + i + 1) env') → ∃ env', forL f xs env = .ok (.nx, env') ∧ I (k + xs.length) env'
  | [], k, env, h, _ => ⟨env, rfl, h⟩
  | x :: xs, k, env, h, s => by
    obtain ⟨e1, h1, h2⟩ := s 0 x env rfl h
    obtain ⟨e2, h3, h4⟩ := forL_inv (xs := xs) (k := k + 1) (env := e1) h2 fun i y env' hy hi => by
      have := s (i + 1) y env' (by simpa using hy) (by rw [show k + (i + 1) = k + 1 + i by omega]; exact hi)
      obtain ⟨e, a, b⟩ := this
      exact ⟨e, a, by rw [show k + 1 + i + 1 = k + (i + 1) + 1 by omega]; exact b⟩
    refine ⟨e2, ?_, by rw [List.length_cons, show k + (xs.length + 1) = k + 1 + xs.length by omega]; exact h4⟩
    simp only [forL, h1, R.bind_ok]
    exact h3
theorem rngOf_1 {n : Int} : rngOf [.int n] = if -(2 ^ 62) ≤ n ∧ n < 2 ^ 62 then some ((List.range n.toNat).map fun k : Nat => .int k) else none := rfl
theorem rngOf_2 {a b : Int} : rngOf [.int a, .int b] = if -(2 ^ 62) ≤ a ∧ a < 2 ^ 62 ∧ -(2 ^ 62) ≤ b ∧ b < 2 ^ 62 then some ((List.range (b - a).toNat).map fun k : Nat => .int (a + k)) else none := rfl
theorem rng1 {n : Int} {m : Nat} (h : n = m) (hm : m < 1000000) : rngOf [.int n] = some ((List.range m).map fun k : Nat => D.int k) := by
  subst h
  rw [rngOf_1, if_pos (by omega)]
  simp
theorem rng2 {a b : Int} {m : Nat} (h : b - a = m) (ha : -1000000 ≤ a) (ha' : a < 1000000) (hm : m < 1000000) : rngOf [.int a, .int b] = some ((List.range m).map fun k : Nat => D.int (a + k)) := by
  rw [rngOf_2, if_pos (by omega), h]
  simp
theorem lim_ok {n : Nat} (h : n ≤ 100000) : n ≤ listLim := Nat.le_trans h (by unfold listLim; omega)
theorem lim_lt {n : Nat} (h : n ≤ 100000) : n < listLim := Nat.lt_of_le_of_lt h (by unfold listLim; omega)
end RB

set_option linter.all false
namespace RB
open PySem
structure Sm (d : D) (w e : Nat) : Prop where
  f : d.fine = true
  w : d.wt ≤ w
  e : d.dep ≤ e
theorem Sm.mono {d : D} {w e w' e' : Nat} (h : Sm d w e) (hw : w ≤ w') (he : e ≤ e') : Sm d w' e' := ⟨h.f, Nat.le_trans h.w hw, Nat.le_trans h.e he⟩
theorem Sm.fine {d : D} {w e : Nat} (h : Sm d w e) (hw : w ≤ 1000000 := by decide) (he : e ≤ 60 := by decide) : Fine d := ⟨h.f, Nat.le_trans h.w (Nat.le_trans hw (by unfold listLim; omega)), Nat.le_trans h.e he⟩
theorem Sm.int {i : Int} (h0 : -(10 ^ 30) ≤ i) (h1 : i ≤ 10 ^ 30) : Sm (.int i) 40 0 := by
  refine ⟨?_, by simp [D.wt], by simp [D.dep]⟩
  simp only [D.fine, decide_eq_true_eq]
  omega
theorem Sm.bl {b : Bool} : Sm (.bl b) 5 0 := ⟨rfl, by simp [D.wt], by simp [D.dep]⟩
theorem Sm.non : Sm .non 4 0 := ⟨rfl, by simp [D.wt], by simp [D.dep]⟩
theorem Sm.all {w e : Nat} : ∀ {xs : List D}, (∀ x ∈ xs, Sm x w e) → D.fines xs = true ∧ D.wts xs ≤ xs.length * (w + 2) ∧ D.deps xs ≤ e
  | [], _ => by simp [D.fines, D.wts, D.deps]
  | x :: xs, h => by
    obtain ⟨a, b, c⟩ := h x List.mem_cons_self
    obtain ⟨a', b', c'⟩ := Sm.all (xs := xs) fun y hy => h y (List.mem_cons_of_mem _ hy)
    refine ⟨by simp [D.fines, a, a'], ?_, by simp only [D.deps]; omega⟩
    simp only [D.wts, List.length_cons, Nat.add_mul, Nat.one_mul]
    omega
theorem Sm.tup {w e n : Nat} {xs : List D} (h : ∀ x ∈ xs, Sm x w e) (l : xs.length ≤ n) : Sm (.tup xs) (4 + n * (w + 2)) (e + 1) := by
  obtain ⟨a, b, c⟩ := Sm.all h
  refine ⟨by simpa [D.fine] using a, ?_, by simp only [D.dep]; omega⟩
  simp only [D.wt]
  have := Nat.mul_le_mul_right (w + 2) l
  omega
theorem Sm.lst {w e n : Nat} {xs : List D} (h : ∀ x ∈ xs, Sm x w e) (l : xs.length ≤ n) : Sm (.lst xs) (4 + n * (w + 2)) (e + 1) := by
  obtain ⟨a, b, c⟩ := Sm.all h
  refine ⟨by simpa [D.fine] using a, ?_, by simp only [D.dep]; omega⟩
  simp only [D.wt]
  have := Nat.mul_le_mul_right (w + 2) l
  omega
theorem all1 {P : D → Prop} {a : D} (ha : P a) : ∀ x ∈ [a], P x := by simp; exact ha
theorem all2 {P : D → Prop} {a b : D} (ha : P a) (hb : P b) : ∀ x ∈ [a, b], P x := by simp; exact ⟨ha, hb⟩
theorem all3 {P : D → Prop} {a b c : D} (ha : P a) (hb : P b) (hc : P c) : ∀ x ∈ [a, b, c], P x := by simp; exact ⟨ha, hb, hc⟩
theorem all4 {P : D → Prop} {a b c d : D} (ha : P a) (hb : P b) (hc : P c) (hd : P d) : ∀ x ∈ [a, b, c, d], P x := by simp; exact ⟨ha, hb, hc, hd⟩
theorem Fine.eqs {a b : D} (ha : Fine a) (hb : Fine b) : eqD a b = some ((eqD a b).getD false) := by
  unfold eqD
  split
  · rfl
  · rw [if_pos ⟨ha.shaped, hb.shaped⟩]; rfl
end RB

set_option Elab.async false
set_option maxRecDepth 100000
namespace K23
open PySem RB
def topS (i : Nat) : Stmt := PySem.Challenge.pw_rodsandbeads_k23_quarter_squares.main.body.getD i (.Pass ⟨0, 0, 0, 0⟩)
def d0 : DefE := ⟨"_law_start", topS 29, ["script", "seed", "cell"], 1, [],
  (.cons (.set 1 (.lit (.int 7))) (.cons (.forr (.v 2) (.seq (.var 0)) (.cons (.set 1 (.bin .add (.bin .mod (.bi .int (.cons (.bin .add (.bin .mul (.var 1) (.lit (.int 48271))) (.var 2)) .nil)) (.lit (.int 2147483629))) (.lit (.int 1)))) .nil)) (.cons (.ret (.lst (.cons (.bi .list (.cons (.var 0) .nil)) (.cons (.lit (.int 0)) (.cons (.lit (.int 0)) (.cons (.var 1) .nil)))))) .nil))), []⟩
def d1 : DefE := ⟨"_law_draw", topS 30, ["state", "many", "taken"], 2, [],
  (.cons (.iff (.and_ (.cmp .eq (.ix (.var 0) (.lit (.int 1))) (.lit (.int 0))) (.cmp .ge (.ix (.var 0) (.lit (.int 2))) (.bi .len (.cons (.ix (.var 0) (.lit (.int 0))) .nil)))) (.cons (.setix 0 (.lit (.int 3)) (.bin .mod (.bi .int (.cons (.bin .add (.bin .mul (.ix (.var 0) (.lit (.int 3))) (.lit (.int 48271))) (.lit (.int 69621))) .nil)) (.lit (.int 2147483629)))) (.cons (.ret (.bin .mod (.bi .int (.cons (.bin .fdiv (.ix (.var 0) (.lit (.int 3))) (.lit (.int 13))) .nil)) (.var 1))) .nil)) .nil) (.cons (.iff (.cmp .eq (.ix (.var 0) (.lit (.int 1))) (.lit (.int 0))) (.cons (.setix 0 (.lit (.int 1)) (.bi .abs (.cons (.ix (.ix (.var 0) (.lit (.int 0))) (.ix (.var 0) (.lit (.int 2)))) .nil))) (.cons (.setix 0 (.lit (.int 2)) (.bin .add (.ix (.var 0) (.lit (.int 2))) (.lit (.int 1)))) .nil)) .nil) (.cons (.set 2 (.bin .mod (.bi .int (.cons (.ix (.var 0) (.lit (.int 1))) .nil)) (.var 1))) (.cons (.setix 0 (.lit (.int 1)) (.bin .fdiv (.ix (.var 0) (.lit (.int 1))) (.var 1))) (.cons (.ret (.var 2)) .nil))))), []⟩
def d2 : DefE := ⟨"_law_same", topS 32, ["actual", "due"], 2, [],
  (.cons (.ret (.and_ (.cmp .eq (.var 0) (.var 1)) (.cmp .eq (.bi .repr (.cons (.var 0) .nil)) (.bi .repr (.cons (.var 1) .nil))))) .nil), []⟩
def d3 : DefE := ⟨"is_integer", topS 5, ["value"], 1, [],
  (.cons (.ret (.and_ (.bi (.isin 0) (.cons (.var 0) .nil)) (.not_ (.bi (.isin 1) (.cons (.var 0) .nil))))) .nil), []⟩
def d4 : DefE := ⟨"is_table", topS 12, ["value", "entry"], 1, [],
  (.cons (.iff (.or_ (.not_ (.bi (.isin 2) (.cons (.var 0) .nil))) (.not_ (.chn .le .le (.lit (.int 1)) (.bi .len (.cons (.var 0) .nil)) (.bin .add (.glb "MAX_DOWN" (.int 1000)) (.lit (.int 1)))))) (.cons (.ret (.lit (.bl false))) .nil) .nil) (.cons (.ret (.bi .all (.cons (.comp [1] (.v 1) (.seq (.var 0)) .none (.and_ (.call 3 (.cons (.var 1) .nil) []) (.cmp .ge (.var 1) (.lit (.int 0))))) .nil))) .nil)), []⟩
def d5 : DefE := ⟨"check_table", topS 13, ["rows"], 1, [],
  (.cons (.iff (.not_ (.call 4 (.cons (.var 0) .nil) [])) (.cons (.rais 0 .nil) .nil) .nil) .nil), []⟩
def d6 : DefE := ⟨"check_number", topS 9, ["number", "reason"], 2, [],
  (.cons (.iff (.or_ (.not_ (.call 3 (.cons (.var 0) .nil) [])) (.not_ (.chn .le .le (.lit (.int 0)) (.var 0) (.glb "MAX_NUMBER" (.int 1000000000000))))) (.cons (.rais 0 .nil) .nil) .nil) .nil), []⟩
def d7 : DefE := ⟨"entries", topS 14, ["first", "second"], 2, [],
  (.cons (.drop (.call 6 (.cons (.var 0) (.cons (.lit (.str "first")) .nil)) [])) (.cons (.drop (.call 6 (.cons (.var 1) (.cons (.lit (.str "second")) .nil)) [])) (.cons (.ret (.tup (.cons (.bin .add (.var 0) (.var 1)) (.cons (.bi .abs (.cons (.bin .sub (.var 0) (.var 1)) .nil)) .nil)))) .nil))), []⟩
def d8 : DefE := ⟨"accept_product", topS 23, ["rows", "first", "second", "told", "one", "other"], 4, [],
  (.cons (.drop (.call 5 (.cons (.var 0) .nil) [])) (.cons (.asg (.t [(.v 4), (.v 5)]) (.call 7 (.cons (.var 1) (.cons (.var 2) .nil)) [])) (.cons (.iff (.cmp .ge (.var 4) (.bi .len (.cons (.var 0) .nil))) (.cons (.rais 0 .nil) .nil) .nil) (.cons (.iff (.not_ (.call 3 (.cons (.var 3) .nil) [])) (.cons (.rais 0 .nil) .nil) .nil) (.cons (.iff (.cmp .ne (.ix (.var 0) (.var 4)) (.bin .fdiv (.bin .mul (.var 4) (.var 4)) (.lit (.int 4)))) (.cons (.rais 0 .nil) .nil) .nil) (.cons (.iff (.cmp .ne (.ix (.var 0) (.var 5)) (.bin .fdiv (.bin .mul (.var 5) (.var 5)) (.lit (.int 4)))) (.cons (.rais 0 .nil) .nil) .nil) (.cons (.iff (.cmp .ne (.bin .sub (.ix (.var 0) (.var 4)) (.ix (.var 0) (.var 5))) (.var 3)) (.cons (.rais 0 .nil) .nil) .nil) .nil))))))), []⟩
def d9 : DefE := ⟨"product_by", topS 15, ["rows", "first", "second", "one", "other"], 3, [],
  (.cons (.drop (.call 5 (.cons (.var 0) .nil) [])) (.cons (.asg (.t [(.v 3), (.v 4)]) (.call 7 (.cons (.var 1) (.cons (.var 2) .nil)) [])) (.cons (.ret (.ite (.cmp .lt (.var 3) (.bi .len (.cons (.var 0) .nil))) (.bin .sub (.ix (.var 0) (.var 3)) (.ix (.var 0) (.var 4))) (.lit .non))) .nil))), []⟩
def d10 : DefE := ⟨"_law_pick", topS 31, ["state", "some"], 2, [],
  (.cons (.ret (.ix (.var 1) (.call 1 (.cons (.var 0) (.cons (.bi .len (.cons (.var 1) .nil)) .nil)) []))) .nil), []⟩
def d11 : DefE := ⟨"_law_table", topS 33, ["most", "k"], 1, [],
  (.cons (.ret (.comp [1] (.v 1) (.rng (.cons (.bin .add (.var 0) (.lit (.int 1))) .nil)) .none (.bin .fdiv (.bin .mul (.var 1) (.var 1)) (.lit (.int 4))))) .nil), []⟩
def d12 : DefE := ⟨"_law_spoilt", topS 34, ["rows", "most", "found", "first", "second"], 2, [],
  (.cons (.set 2 (.lst .nil)) (.cons (.forr (.v 3) (.rng (.cons (.bin .add (.var 1) (.lit (.int 1))) .nil)) (.cons (.ext 2 (.comp [4] (.v 4) (.rng (.cons (.bin .add (.var 3) (.lit (.int 1))) .nil)) (.some (.cmp .ne (.bin .sub (.ix (.var 0) (.bin .add (.var 3) (.var 4))) (.ix (.var 0) (.bin .sub (.var 3) (.var 4)))) (.bin .mul (.var 3) (.var 4)))) (.tup (.cons (.var 3) (.cons (.var 4) .nil))))) .nil)) (.cons (.ret (.var 2)) .nil))), []⟩
def d13 : DefE := ⟨"spoilt", topS 20, ["rows", "most", "found", "first", "second"], 2, [],
  (.cons (.drop (.call 5 (.cons (.var 0) .nil) [])) (.cons (.iff (.or_ (.not_ (.call 3 (.cons (.var 1) .nil) [])) (.not_ (.chn .le .le (.lit (.int 0)) (.var 1) (.lit (.int 40))))) (.cons (.rais 0 .nil) .nil) .nil) (.cons (.iff (.cmp .ge (.bin .mul (.lit (.int 2)) (.var 1)) (.bi .len (.cons (.var 0) .nil))) (.cons (.rais 0 .nil) .nil) .nil) (.cons (.set 2 (.lst .nil)) (.cons (.forr (.v 3) (.rng (.cons (.bin .add (.var 1) (.lit (.int 1))) .nil)) (.cons (.forr (.v 4) (.rng (.cons (.bin .add (.var 3) (.lit (.int 1))) .nil)) (.cons (.iff (.cmp .ne (.bin .sub (.ix (.var 0) (.bin .add (.var 3) (.var 4))) (.ix (.var 0) (.bin .sub (.var 3) (.var 4)))) (.bin .mul (.var 3) (.var 4))) (.cons (.app 2 (.tup (.cons (.var 3) (.cons (.var 4) .nil)))) .nil) .nil) .nil)) .nil)) (.cons (.ret (.bi .tuple (.cons (.var 2) .nil))) .nil)))))), []⟩
def d14 : DefE := ⟨"looks", topS 22, ["at", "most", "found", "first", "second"], 2, [],
  (.cons (.set 2 (.lst .nil)) (.cons (.forr (.v 3) (.rng (.cons (.bin .add (.var 1) (.lit (.int 1))) .nil)) (.cons (.forr (.v 4) (.rng (.cons (.bin .add (.var 3) (.lit (.int 1))) .nil)) (.cons (.iff (.cmp .ne (.cmp .eq (.bin .add (.var 3) (.var 4)) (.var 0)) (.cmp .eq (.bin .sub (.var 3) (.var 4)) (.var 0))) (.cons (.app 2 (.tup (.cons (.var 3) (.cons (.var 4) .nil)))) .nil) .nil) .nil)) .nil)) (.cons (.ret (.var 2)) .nil))), []⟩
def d15 : DefE := ⟨"one_fault", topS 21, ["rows", "most", "wrong", "at", "looked"], 2, [],
  (.cons (.set 2 (.call 13 (.cons (.var 0) (.cons (.var 1) .nil)) [])) (.cons (.iff (.not_ (.var 2)) (.cons (.ret (.tup (.cons (.lit (.str "right")) .nil))) .nil) .nil) (.cons (.forr (.v 3) (.rng (.cons (.bin .add (.bin .mul (.lit (.int 2)) (.var 1)) (.lit (.int 1))) .nil)) (.cons (.set 4 (.call 14 (.cons (.var 3) (.cons (.var 1) .nil)) [])) (.cons (.iff (.cmp .eq (.var 4) (.bi .list (.cons (.var 2) .nil))) (.cons (.ret (.tup (.cons (.lit (.str "one")) (.cons (.var 3) .nil)))) .nil) .nil) .nil))) (.cons (.ret (.tup (.cons (.lit (.str "more")) .nil))) .nil)))), []⟩
def d16 : DefE := ⟨"table", topS 11, ["most", "found", "number"], 1, [],
  (.cons (.iff (.or_ (.not_ (.call 3 (.cons (.var 0) .nil) [])) (.not_ (.chn .le .le (.lit (.int 0)) (.var 0) (.glb "MAX_DOWN" (.int 1000))))) (.cons (.rais 0 .nil) .nil) .nil) (.cons (.set 1 (.lst (.cons (.lit (.int 0)) .nil))) (.cons (.forr (.v 2) (.rng (.cons (.lit (.int 1)) (.cons (.bin .add (.var 0) (.lit (.int 1))) .nil))) (.cons (.app 1 (.bin .add (.ix (.var 1) (.neg (.lit (.int 1)))) (.bin .fdiv (.var 2) (.lit (.int 2))))) .nil)) (.cons (.ret (.bi .tuple (.cons (.var 1) .nil))) .nil)))), []⟩
def d17 : DefE := ⟨"judge_table", topS 16, ["rows", "at", "entry"], 1, [],
  (.cons (.drop (.call 5 (.cons (.var 0) .nil) [])) (.cons (.forr (.t [(.v 1), (.v 2)]) (.enum (.var 0)) (.cons (.iff (.cmp .ne (.var 2) (.bin .fdiv (.bin .mul (.var 1) (.var 1)) (.lit (.int 4)))) (.cons (.ret (.tup (.cons (.lit (.str "wrong")) (.cons (.var 1) .nil)))) .nil) .nil) .nil)) (.cons (.ret (.tup (.cons (.lit (.str "right")) .nil))) .nil))), []⟩
def d18 : DefE := ⟨"faults", topS 17, ["rows", "at", "entry"], 1, [],
  (.cons (.drop (.call 5 (.cons (.var 0) .nil) [])) (.cons (.ret (.bi .tuple (.cons (.comp [1, 2] (.t [(.v 1), (.v 2)]) (.enum (.var 0)) (.some (.cmp .ne (.var 2) (.bin .fdiv (.bin .mul (.var 1) (.var 1)) (.lit (.int 4))))) (.tup (.cons (.var 1) (.cons (.bin .sub (.var 2) (.bin .fdiv (.bin .mul (.var 1) (.var 1)) (.lit (.int 4)))) .nil)))) .nil))) .nil)), []⟩
def d19 : DefE := ⟨"mended", topS 27, ["rows", "found", "at"], 1, [],
  (.cons (.set 1 (.call 18 (.cons (.var 0) .nil) [])) (.cons (.ret (.tup (.cons (.bi .tuple (.cons (.comp [2] (.v 2) (.rng (.cons (.bi .len (.cons (.var 0) .nil)) .nil)) .none (.bin .fdiv (.bin .mul (.var 2) (.var 2)) (.lit (.int 4)))) .nil)) (.cons (.bi .len (.cons (.var 1) .nil)) .nil)))) .nil)), []⟩
def d20 : DefE := ⟨"steps", topS 18, ["rows", "at"], 1, [],
  (.cons (.drop (.call 5 (.cons (.var 0) .nil) [])) (.cons (.ret (.bi .tuple (.cons (.comp [1] (.v 1) (.rng (.cons (.bin .sub (.bi .len (.cons (.var 0) .nil)) (.lit (.int 1))) .nil)) .none (.bin .sub (.ix (.var 0) (.bin .add (.var 1) (.lit (.int 1)))) (.ix (.var 0) (.var 1)))) .nil))) .nil)), []⟩
def d21 : DefE := ⟨"bends", topS 19, ["rows", "found", "at"], 1, [],
  (.cons (.drop (.call 5 (.cons (.var 0) .nil) [])) (.cons (.set 1 (.lst .nil)) (.cons (.forr (.v 2) (.rng (.cons (.lit (.int 1)) (.cons (.bin .sub (.bi .len (.cons (.var 0) .nil)) (.lit (.int 1))) .nil))) (.cons (.iff (.cmp .ne (.bin .add (.bin .sub (.ix (.var 0) (.bin .add (.var 2) (.lit (.int 1)))) (.bin .mul (.lit (.int 2)) (.ix (.var 0) (.var 2)))) (.ix (.var 0) (.bin .sub (.var 2) (.lit (.int 1))))) (.bin .mod (.var 2) (.lit (.int 2)))) (.cons (.app 1 (.var 2)) .nil) .nil) .nil)) (.cons (.ret (.bi .tuple (.cons (.var 1) .nil))) .nil)))), []⟩
def d22 : DefE := ⟨"_law_looks", topS 35, ["at", "most", "found", "first", "second"], 2, [],
  (.cons (.set 2 (.lst .nil)) (.cons (.forr (.v 3) (.rng (.cons (.bin .add (.var 1) (.lit (.int 1))) .nil)) (.cons (.ext 2 (.comp [4] (.v 4) (.rng (.cons (.bin .add (.var 3) (.lit (.int 1))) .nil)) (.some (.cmp .ne (.cmp .eq (.bin .add (.var 3) (.var 4)) (.var 0)) (.cmp .eq (.bin .sub (.var 3) (.var 4)) (.var 0)))) (.tup (.cons (.var 3) (.cons (.var 4) .nil))))) .nil)) (.cons (.ret (.var 2)) .nil))), []⟩
def d23 : DefE := ⟨"_law_tables_hold", topS 36, ["state", "most", "rows", "k", "at", "wrong", "due", "gaps", "bent", "first", "second", "told", "half", "pairs", "found"], 1, [],
  (.cons (.set 1 (.call 10 (.cons (.var 0) (.cons (.lst (.cons (.lit (.int 0)) (.cons (.lit (.int 1)) (.cons (.lit (.int 7)) (.cons (.lit (.int 40)) (.cons (.lit (.int 80)) .nil)))))) .nil)) [])) (.cons (.set 2 (.call 11 (.cons (.var 1) .nil) [])) (.cons (.iff (.not_ (.call 2 (.cons (.call 16 (.cons (.var 1) .nil) []) (.cons (.bi .tuple (.cons (.var 2) .nil)) .nil)) [])) (.cons (.ret (.lit (.bl false))) .nil) .nil) (.cons (.forr (.v 3) (.rng (.cons (.call 1 (.cons (.var 0) (.cons (.lit (.int 4)) .nil)) []) .nil)) (.cons (.set 4 (.call 1 (.cons (.var 0) (.cons (.bin .add (.var 1) (.lit (.int 1))) .nil)) [])) (.cons (.setix 2 (.var 4) (.bi .max (.cons (.lst (.cons (.lit (.int 0)) (.cons (.bin .add (.ix (.var 2) (.var 4)) (.call 10 (.cons (.var 0) (.cons (.lst (.cons (.lit (.int 1)) (.cons (.neg (.lit (.int 1))) (.cons (.lit (.int 7)) (.cons (.lit (.int 100)) .nil))))) .nil)) [])) .nil))) .nil))) .nil))) (.cons (.set 5 (.comp [3] (.v 3) (.rng (.cons (.bin .add (.var 1) (.lit (.int 1))) .nil)) (.some (.cmp .ne (.ix (.var 2) (.var 3)) (.bin .fdiv (.bin .mul (.var 3) (.var 3)) (.lit (.int 4))))) (.tup (.cons (.var 3) (.cons (.bin .sub (.ix (.var 2) (.var 3)) (.bin .fdiv (.bin .mul (.var 3) (.var 3)) (.lit (.int 4)))) .nil))))) (.cons (.set 6 (.ite (.var 5) (.tup (.cons (.lit (.str "wrong")) (.cons (.ix (.ix (.var 5) (.lit (.int 0))) (.lit (.int 0))) .nil))) (.tup (.cons (.lit (.str "right")) .nil)))) (.cons (.iff (.not_ (.call 2 (.cons (.lst (.cons (.call 17 (.cons (.bi .tuple (.cons (.var 2) .nil)) .nil) []) (.cons (.call 18 (.cons (.bi .tuple (.cons (.var 2) .nil)) .nil) []) (.cons (.call 19 (.cons (.bi .tuple (.cons (.var 2) .nil)) .nil) []) .nil)))) (.cons (.lst (.cons (.var 6) (.cons (.bi .tuple (.cons (.var 5) .nil)) (.cons (.tup (.cons (.bi .tuple (.cons (.call 11 (.cons (.var 1) .nil) []) .nil)) (.cons (.bi .len (.cons (.var 5) .nil)) .nil))) .nil)))) .nil)) [])) (.cons (.ret (.lit (.bl false))) .nil) .nil) (.cons (.set 7 (.comp [3] (.v 3) (.rng (.cons (.var 1) .nil)) .none (.bin .sub (.ix (.var 2) (.bin .add (.var 3) (.lit (.int 1)))) (.ix (.var 2) (.var 3))))) (.cons (.set 8 (.comp [3] (.v 3) (.rng (.cons (.lit (.int 1)) (.cons (.var 1) .nil))) (.some (.cmp .ne (.bin .sub (.ix (.var 7) (.var 3)) (.ix (.var 7) (.bin .sub (.var 3) (.lit (.int 1))))) (.bin .band (.var 3) (.lit (.int 1))))) (.var 3))) (.cons (.iff (.not_ (.call 2 (.cons (.lst (.cons (.call 20 (.cons (.bi .tuple (.cons (.var 2) .nil)) .nil) []) (.cons (.call 21 (.cons (.bi .tuple (.cons (.var 2) .nil)) .nil) []) .nil))) (.cons (.lst (.cons (.bi .tuple (.cons (.var 7) .nil)) (.cons (.bi .tuple (.cons (.var 8) .nil)) .nil))) .nil)) [])) (.cons (.ret (.lit (.bl false))) .nil) .nil) (.cons (.par [9, 10] (.cons (.call 1 (.cons (.var 0) (.cons (.bin .add (.var 1) (.lit (.int 3))) .nil)) []) (.cons (.call 1 (.cons (.var 0) (.cons (.bin .add (.var 1) (.lit (.int 3))) .nil)) []) .nil))) (.cons (.set 11 (.ite (.cmp .le (.bin .add (.var 9) (.var 10)) (.var 1)) (.bin .sub (.ix (.var 2) (.bin .add (.var 9) (.var 10))) (.ix (.var 2) (.bi .abs (.cons (.bin .sub (.var 9) (.var 10)) .nil)))) (.lit .non))) (.cons (.iff (.not_ (.call 2 (.cons (.call 9 (.cons (.bi .tuple (.cons (.var 2) .nil)) (.cons (.var 9) (.cons (.var 10) .nil))) []) (.cons (.var 11) .nil)) [])) (.cons (.ret (.lit (.bl false))) .nil) .nil) (.cons (.set 12 (.bin .fdiv (.var 1) (.lit (.int 2)))) (.cons (.set 13 (.call 12 (.cons (.var 2) (.cons (.var 12) .nil)) [])) (.cons (.iff (.not_ (.call 2 (.cons (.call 13 (.cons (.bi .tuple (.cons (.var 2) .nil)) (.cons (.var 12) .nil)) []) (.cons (.bi .tuple (.cons (.var 13) .nil)) .nil)) [])) (.cons (.ret (.lit (.bl false))) .nil) .nil) (.cons (.set 14 (.comp [3] (.v 3) (.rng (.cons (.bin .add (.bin .mul (.lit (.int 2)) (.var 12)) (.lit (.int 1))) .nil)) (.some (.and_ (.var 13) (.cmp .eq (.call 22 (.cons (.var 3) (.cons (.var 12) .nil)) []) (.var 13)))) (.var 3))) (.cons (.set 6 (.ite (.not_ (.var 13)) (.tup (.cons (.lit (.str "right")) .nil)) (.ite (.var 14) (.tup (.cons (.lit (.str "one")) (.cons (.ix (.var 14) (.lit (.int 0))) .nil))) (.tup (.cons (.lit (.str "more")) .nil))))) (.cons (.ret (.call 2 (.cons (.call 15 (.cons (.bi .tuple (.cons (.var 2) .nil)) (.cons (.var 12) .nil)) []) (.cons (.var 6) .nil)) [])) .nil))))))))))))))))))), []⟩
def d24 : DefE := ⟨"by_triangles", topS 24, ["first", "second"], 2, [],
  (.cons (.drop (.call 6 (.cons (.var 0) (.cons (.lit (.str "first")) .nil)) [])) (.cons (.drop (.call 6 (.cons (.var 1) (.cons (.lit (.str "second")) .nil)) [])) (.cons (.iff (.or_ (.cmp .lt (.var 1) (.lit (.int 1))) (.cmp .lt (.var 0) (.var 1))) (.cons (.rais 0 .nil) .nil) .nil) (.cons (.ret (.tup (.cons (.var 0) (.cons (.bin .sub (.var 1) (.lit (.int 1))) (.cons (.bin .sub (.var 0) (.var 1)) .nil))))) .nil)))), []⟩
def d25 : DefE := ⟨"quarter", topS 10, ["number"], 1, [],
  (.cons (.drop (.call 6 (.cons (.var 0) (.cons (.lit (.str "number")) .nil)) [])) (.cons (.ret (.bin .fdiv (.bin .mul (.var 0) (.var 0)) (.lit (.int 4)))) .nil)), []⟩
def d26 : DefE := ⟨"triangular", topS 25, ["number"], 1, [],
  (.cons (.drop (.call 6 (.cons (.var 0) (.cons (.lit (.str "number")) .nil)) [])) (.cons (.ret (.bin .fdiv (.bin .mul (.var 0) (.bin .add (.var 0) (.lit (.int 1)))) (.lit (.int 2)))) .nil)), []⟩
def d27 : DefE := ⟨"shortest", topS 26, ["first", "second"], 2, [],
  (.cons (.drop (.call 6 (.cons (.var 0) (.cons (.lit (.str "first")) .nil)) [])) (.cons (.drop (.call 6 (.cons (.var 1) (.cons (.lit (.str "second")) .nil)) [])) (.cons (.ret (.tup (.cons (.bin .add (.bin .add (.var 0) (.var 1)) (.lit (.int 1))) (.cons (.bin .add (.bi .max (.cons (.var 0) (.cons (.var 1) .nil))) (.lit (.int 1))) .nil)))) .nil))), []⟩
def d28 : DefE := ⟨"_law_numbers_hold", topS 37, ["state", "first", "second", "due", "low", "high", "one", "two", "three", "k"], 1, [],
  (.cons (.asg (.t [(.v 1), (.v 2)]) (.comp [9] (.v 9) (.rng (.cons (.lit (.int 2)) .nil)) .none (.call 1 (.cons (.var 0) (.cons (.call 10 (.cons (.var 0) (.cons (.lst (.cons (.lit (.int 10)) (.cons (.lit (.int 1000)) (.cons (.bin .add (.bin .pow (.lit (.int 10)) (.lit (.int 12))) (.lit (.int 1))) .nil)))) .nil)) []) .nil)) []))) (.cons (.set 3 (.lst (.cons (.bin .fdiv (.bin .mul (.var 1) (.var 1)) (.lit (.int 4))) (.cons (.bin .fdiv (.bin .mul (.var 1) (.bin .add (.var 1) (.lit (.int 1)))) (.lit (.int 2))) (.cons (.tup (.cons (.bin .add (.var 1) (.var 2)) (.cons (.bi .abs (.cons (.bin .sub (.var 1) (.var 2)) .nil)) .nil))) (.cons (.tup (.cons (.bin .add (.bin .add (.var 1) (.var 2)) (.lit (.int 1))) (.cons (.bin .add (.bi .max (.cons (.lst (.cons (.var 1) (.cons (.var 2) .nil))) .nil)) (.lit (.int 1))) .nil))) .nil)))))) (.cons (.iff (.not_ (.call 2 (.cons (.lst (.cons (.call 25 (.cons (.var 1) .nil) []) (.cons (.call 26 (.cons (.var 1) .nil) []) (.cons (.call 7 (.cons (.var 1) (.cons (.var 2) .nil)) []) (.cons (.call 27 (.cons (.var 1) (.cons (.var 2) .nil)) []) .nil))))) (.cons (.var 3) .nil)) [])) (.cons (.ret (.lit (.bl false))) .nil) .nil) (.cons (.par [4, 5] (.cons (.bin .add (.lit (.int 1)) (.bi .min (.cons (.lst (.cons (.var 1) (.cons (.var 2) .nil))) .nil))) (.cons (.bin .add (.lit (.int 1)) (.bi .max (.cons (.lst (.cons (.var 1) (.cons (.var 2) .nil))) .nil))) .nil))) (.cons (.iff (.cmp .gt (.var 5) (.bin .pow (.lit (.int 10)) (.lit (.int 12)))) (.cons (.ret (.lit (.bl true))) .nil) .nil) (.cons (.asg (.t [(.v 6), (.v 7), (.v 8)]) (.call 24 (.cons (.var 5) (.cons (.var 4) .nil)) [])) (.cons (.iff (.not_ (.call 2 (.cons (.tup (.cons (.var 6) (.cons (.var 7) (.cons (.var 8) .nil)))) (.cons (.tup (.cons (.var 5) (.cons (.bin .sub (.var 4) (.lit (.int 1))) (.cons (.bin .sub (.var 5) (.var 4)) .nil)))) .nil)) [])) (.cons (.ret (.lit (.bl false))) .nil) .nil) (.cons (.ret (.and_ (.cmp .eq (.bin .sub (.bin .add (.call 26 (.cons (.var 6) .nil) []) (.call 26 (.cons (.var 7) .nil) [])) (.call 26 (.cons (.var 8) .nil) [])) (.bin .mul (.var 5) (.var 4))) (.cmp .eq (.call 25 (.cons (.lit (.int 5)) .nil) []) (.lit (.int 6))))) .nil)))))))), []⟩
def d29 : DefE := ⟨"law", topS 38, ["script", "state", "turn", "first", "second"], 1, [],
  (.cons (.set 1 (.call 0 (.cons (.var 0) .nil) [])) (.cons (.forr (.v 2) (.rng (.cons (.lit (.int 3)) .nil)) (.cons (.iff (.or_ (.not_ (.call 23 (.cons (.var 1) .nil) [])) (.not_ (.call 28 (.cons (.var 1) .nil) []))) (.cons (.ret (.lit (.bl false))) .nil) .nil) .nil)) (.cons (.par [3, 4] (.cons (.call 1 (.cons (.var 1) (.cons (.lit (.int 30)) .nil)) []) (.cons (.call 1 (.cons (.var 1) (.cons (.lit (.int 30)) .nil)) []) .nil))) (.cons (.ret (.and_ (.cmp .is_ (.call 8 (.cons (.call 16 (.cons (.lit (.int 60)) .nil) []) (.cons (.var 3) (.cons (.var 4) (.cons (.bin .mul (.var 3) (.var 4)) .nil)))) []) (.lit .non)) (.call 2 (.cons (.call 9 (.cons (.call 16 (.cons (.lit (.int 60)) .nil) []) (.cons (.var 3) (.cons (.var 4) .nil))) []) (.cons (.bin .mul (.var 3) (.var 4)) .nil)) []))) .nil)))), []⟩
def tbl : List DefE := [d0, d1, d2, d3, d4, d5, d6, d7, d8, d9, d10, d11, d12, d13, d14, d15, d16, d17, d18, d19, d20, d21, d22, d23, d24, d25, d26, d27, d28, d29]
def cts : List (Str × D) := [("MAX_DOWN", (.int 1000)), ("MAX_NUMBER", (.int 1000000000000))]
def nol : List Str := ["abs", "all", "bool", "enumerate", "int", "isinstance", "len", "list", "max", "min", "range", "repr", "tuple"]
theorem b0 : BindE d0 := fun _ _ _ _ _ _ us hl => match us, hl with | [_], _ => rfl
theorem b1 : BindE d1 := fun _ _ _ _ _ _ us hl => match us, hl with | [_, _], _ => rfl
theorem b2 : BindE d2 := fun _ _ _ _ _ _ us hl => match us, hl with | [_, _], _ => rfl
theorem b3 : BindE d3 := fun _ _ _ _ _ _ us hl => match us, hl with | [_], _ => rfl
theorem b4 : BindE d4 := fun _ _ _ _ _ _ us hl => match us, hl with | [_], _ => rfl
theorem b5 : BindE d5 := fun _ _ _ _ _ _ us hl => match us, hl with | [_], _ => rfl
theorem b6 : BindE d6 := fun _ _ _ _ _ _ us hl => match us, hl with | [_, _], _ => rfl
theorem b7 : BindE d7 := fun _ _ _ _ _ _ us hl => match us, hl with | [_, _], _ => rfl
theorem b8 : BindE d8 := fun _ _ _ _ _ _ us hl => match us, hl with | [_, _, _, _], _ => rfl
theorem b9 : BindE d9 := fun _ _ _ _ _ _ us hl => match us, hl with | [_, _, _], _ => rfl
theorem b10 : BindE d10 := fun _ _ _ _ _ _ us hl => match us, hl with | [_, _], _ => rfl
theorem b11 : BindE d11 := fun _ _ _ _ _ _ us hl => match us, hl with | [_], _ => rfl
theorem b12 : BindE d12 := fun _ _ _ _ _ _ us hl => match us, hl with | [_, _], _ => rfl
theorem b13 : BindE d13 := fun _ _ _ _ _ _ us hl => match us, hl with | [_, _], _ => rfl
theorem b14 : BindE d14 := fun _ _ _ _ _ _ us hl => match us, hl with | [_, _], _ => rfl
theorem b15 : BindE d15 := fun _ _ _ _ _ _ us hl => match us, hl with | [_, _], _ => rfl
theorem b16 : BindE d16 := fun _ _ _ _ _ _ us hl => match us, hl with | [_], _ => rfl
theorem b17 : BindE d17 := fun _ _ _ _ _ _ us hl => match us, hl with | [_], _ => rfl
theorem b18 : BindE d18 := fun _ _ _ _ _ _ us hl => match us, hl with | [_], _ => rfl
theorem b19 : BindE d19 := fun _ _ _ _ _ _ us hl => match us, hl with | [_], _ => rfl
theorem b20 : BindE d20 := fun _ _ _ _ _ _ us hl => match us, hl with | [_], _ => rfl
theorem b21 : BindE d21 := fun _ _ _ _ _ _ us hl => match us, hl with | [_], _ => rfl
theorem b22 : BindE d22 := fun _ _ _ _ _ _ us hl => match us, hl with | [_, _], _ => rfl
theorem b23 : BindE d23 := fun _ _ _ _ _ _ us hl => match us, hl with | [_], _ => rfl
theorem b24 : BindE d24 := fun _ _ _ _ _ _ us hl => match us, hl with | [_, _], _ => rfl
theorem b25 : BindE d25 := fun _ _ _ _ _ _ us hl => match us, hl with | [_], _ => rfl
theorem b26 : BindE d26 := fun _ _ _ _ _ _ us hl => match us, hl with | [_], _ => rfl
theorem b27 : BindE d27 := fun _ _ _ _ _ _ us hl => match us, hl with | [_, _], _ => rfl
theorem b28 : BindE d28 := fun _ _ _ _ _ _ us hl => match us, hl with | [_], _ => rfl
theorem b29 : BindE d29 := fun _ _ _ _ _ _ us hl => match us, hl with | [_], _ => rfl
noncomputable def f0 : Fn := d0.fn []
noncomputable def f1 : Fn := d1.fn [f0]
noncomputable def f2 : Fn := d2.fn [f0, f1]
noncomputable def f3 : Fn := d3.fn [f0, f1, f2]
noncomputable def f4 : Fn := d4.fn [f0, f1, f2, f3]
noncomputable def f5 : Fn := d5.fn [f0, f1, f2, f3, f4]
noncomputable def f6 : Fn := d6.fn [f0, f1, f2, f3, f4, f5]
noncomputable def f7 : Fn := d7.fn [f0, f1, f2, f3, f4, f5, f6]
noncomputable def f8 : Fn := d8.fn [f0, f1, f2, f3, f4, f5, f6, f7]
noncomputable def f9 : Fn := d9.fn [f0, f1, f2, f3, f4, f5, f6, f7, f8]
noncomputable def f10 : Fn := d10.fn [f0, f1, f2, f3, f4, f5, f6, f7, f8, f9]
noncomputable def f11 : Fn := d11.fn [f0, f1, f2, f3, f4, f5, f6, f7, f8, f9, f10]
noncomputable def f12 : Fn := d12.fn [f0, f1, f2, f3, f4, f5, f6, f7, f8, f9, f10, f11]
noncomputable def f13 : Fn := d13.fn [f0, f1, f2, f3, f4, f5, f6, f7, f8, f9, f10, f11, f12]
noncomputable def f14 : Fn := d14.fn [f0, f1, f2, f3, f4, f5, f6, f7, f8, f9, f10, f11, f12, f13]
noncomputable def f15 : Fn := d15.fn [f0, f1, f2, f3, f4, f5, f6, f7, f8, f9, f10, f11, f12, f13, f14]
noncomputable def f16 : Fn := d16.fn [f0, f1, f2, f3, f4, f5, f6, f7, f8, f9, f10, f11, f12, f13, f14, f15]
noncomputable def f17 : Fn := d17.fn [f0, f1, f2, f3, f4, f5, f6, f7, f8, f9, f10, f11, f12, f13, f14, f15, f16]
noncomputable def f18 : Fn := d18.fn [f0, f1, f2, f3, f4, f5, f6, f7, f8, f9, f10, f11, f12, f13, f14, f15, f16, f17]
noncomputable def f19 : Fn := d19.fn [f0, f1, f2, f3, f4, f5, f6, f7, f8, f9, f10, f11, f12, f13, f14, f15, f16, f17, f18]
noncomputable def f20 : Fn := d20.fn [f0, f1, f2, f3, f4, f5, f6, f7, f8, f9, f10, f11, f12, f13, f14, f15, f16, f17, f18, f19]
noncomputable def f21 : Fn := d21.fn [f0, f1, f2, f3, f4, f5, f6, f7, f8, f9, f10, f11, f12, f13, f14, f15, f16, f17, f18, f19, f20]
noncomputable def f22 : Fn := d22.fn [f0, f1, f2, f3, f4, f5, f6, f7, f8, f9, f10, f11, f12, f13, f14, f15, f16, f17, f18, f19, f20, f21]
noncomputable def f23 : Fn := d23.fn [f0, f1, f2, f3, f4, f5, f6, f7, f8, f9, f10, f11, f12, f13, f14, f15, f16, f17, f18, f19, f20, f21, f22]
noncomputable def f24 : Fn := d24.fn [f0, f1, f2, f3, f4, f5, f6, f7, f8, f9, f10, f11, f12, f13, f14, f15, f16, f17, f18, f19, f20, f21, f22, f23]
noncomputable def f25 : Fn := d25.fn [f0, f1, f2, f3, f4, f5, f6, f7, f8, f9, f10, f11, f12, f13, f14, f15, f16, f17, f18, f19, f20, f21, f22, f23, f24]
noncomputable def f26 : Fn := d26.fn [f0, f1, f2, f3, f4, f5, f6, f7, f8, f9, f10, f11, f12, f13, f14, f15, f16, f17, f18, f19, f20, f21, f22, f23, f24, f25]
noncomputable def f27 : Fn := d27.fn [f0, f1, f2, f3, f4, f5, f6, f7, f8, f9, f10, f11, f12, f13, f14, f15, f16, f17, f18, f19, f20, f21, f22, f23, f24, f25, f26]
noncomputable def f28 : Fn := d28.fn [f0, f1, f2, f3, f4, f5, f6, f7, f8, f9, f10, f11, f12, f13, f14, f15, f16, f17, f18, f19, f20, f21, f22, f23, f24, f25, f26, f27]
noncomputable def f29 : Fn := d29.fn [f0, f1, f2, f3, f4, f5, f6, f7, f8, f9, f10, f11, f12, f13, f14, f15, f16, f17, f18, f19, f20, f21, f22, f23, f24, f25, f26, f27, f28]
theorem s29 : fnl [d29] [f0, f1, f2, f3, f4, f5, f6, f7, f8, f9, f10, f11, f12, f13, f14, f15, f16, f17, f18, f19, f20, f21, f22, f23, f24, f25, f26, f27, f28] = [f0, f1, f2, f3, f4, f5, f6, f7, f8, f9, f10, f11, f12, f13, f14, f15, f16, f17, f18, f19, f20, f21, f22, f23, f24, f25, f26, f27, f28, f29] := fnl_cons.trans (fnl_nil)
theorem s28 : fnl [d28, d29] [f0, f1, f2, f3, f4, f5, f6, f7, f8, f9, f10, f11, f12, f13, f14, f15, f16, f17, f18, f19, f20, f21, f22, f23, f24, f25, f26, f27] = [f0, f1, f2, f3, f4, f5, f6, f7, f8, f9, f10, f11, f12, f13, f14, f15, f16, f17, f18, f19, f20, f21, f22, f23, f24, f25, f26, f27, f28, f29] := fnl_cons.trans (s29)
theorem s27 : fnl [d27, d28, d29] [f0, f1, f2, f3, f4, f5, f6, f7, f8, f9, f10, f11, f12, f13, f14, f15, f16, f17, f18, f19, f20, f21, f22, f23, f24, f25, f26] = [f0, f1, f2, f3, f4, f5, f6, f7, f8, f9, f10, f11, f12, f13, f14, f15, f16, f17, f18, f19, f20, f21, f22, f23, f24, f25, f26, f27, f28, f29] := fnl_cons.trans (s28)
theorem s26 : fnl [d26, d27, d28, d29] [f0, f1, f2, f3, f4, f5, f6, f7, f8, f9, f10, f11, f12, f13, f14, f15, f16, f17, f18, f19, f20, f21, f22, f23, f24, f25] = [f0, f1, f2, f3, f4, f5, f6, f7, f8, f9, f10, f11, f12, f13, f14, f15, f16, f17, f18, f19, f20, f21, f22, f23, f24, f25, f26, f27, f28, f29] := fnl_cons.trans (s27)
theorem s25 : fnl [d25, d26, d27, d28, d29] [f0, f1, f2, f3, f4, f5, f6, f7, f8, f9, f10, f11, f12, f13, f14, f15, f16, f17, f18, f19, f20, f21, f22, f23, f24] = [f0, f1, f2, f3, f4, f5, f6, f7, f8, f9, f10, f11, f12, f13, f14, f15, f16, f17, f18, f19, f20, f21, f22, f23, f24, f25, f26, f27, f28, f29] := fnl_cons.trans (s26)
theorem s24 : fnl [d24, d25, d26, d27, d28, d29] [f0, f1, f2, f3, f4, f5, f6, f7, f8, f9, f10, f11, f12, f13, f14, f15, f16, f17, f18, f19, f20, f21, f22, f23] = [f0, f1, f2, f3, f4, f5, f6, f7, f8, f9, f10, f11, f12, f13, f14, f15, f16, f17, f18, f19, f20, f21, f22, f23, f24, f25, f26, f27, f28, f29] := fnl_cons.trans (s25)
theorem s23 : fnl [d23, d24, d25, d26, d27, d28, d29] [f0, f1, f2, f3, f4, f5, f6, f7, f8, f9, f10, f11, f12, f13, f14, f15, f16, f17, f18, f19, f20, f21, f22] = [f0, f1, f2, f3, f4, f5, f6, f7, f8, f9, f10, f11, f12, f13, f14, f15, f16, f17, f18, f19, f20, f21, f22, f23, f24, f25, f26, f27, f28, f29] := fnl_cons.trans (s24)
theorem s22 : fnl [d22, d23, d24, d25, d26, d27, d28, d29] [f0, f1, f2, f3, f4, f5, f6, f7, f8, f9, f10, f11, f12, f13, f14, f15, f16, f17, f18, f19, f20, f21] = [f0, f1, f2, f3, f4, f5, f6, f7, f8, f9, f10, f11, f12, f13, f14, f15, f16, f17, f18, f19, f20, f21, f22, f23, f24, f25, f26, f27, f28, f29] := fnl_cons.trans (s23)
theorem s21 : fnl [d21, d22, d23, d24, d25, d26, d27, d28, d29] [f0, f1, f2, f3, f4, f5, f6, f7, f8, f9, f10, f11, f12, f13, f14, f15, f16, f17, f18, f19, f20] = [f0, f1, f2, f3, f4, f5, f6, f7, f8, f9, f10, f11, f12, f13, f14, f15, f16, f17, f18, f19, f20, f21, f22, f23, f24, f25, f26, f27, f28, f29] := fnl_cons.trans (s22)
theorem s20 : fnl [d20, d21, d22, d23, d24, d25, d26, d27, d28, d29] [f0, f1, f2, f3, f4, f5, f6, f7, f8, f9, f10, f11, f12, f13, f14, f15, f16, f17, f18, f19] = [f0, f1, f2, f3, f4, f5, f6, f7, f8, f9, f10, f11, f12, f13, f14, f15, f16, f17, f18, f19, f20, f21, f22, f23, f24, f25, f26, f27, f28, f29] := fnl_cons.trans (s21)
theorem s19 : fnl [d19, d20, d21, d22, d23, d24, d25, d26, d27, d28, d29] [f0, f1, f2, f3, f4, f5, f6, f7, f8, f9, f10, f11, f12, f13, f14, f15, f16, f17, f18] = [f0, f1, f2, f3, f4, f5, f6, f7, f8, f9, f10, f11, f12, f13, f14, f15, f16, f17, f18, f19, f20, f21, f22, f23, f24, f25, f26, f27, f28, f29] := fnl_cons.trans (s20)
theorem s18 : fnl [d18, d19, d20, d21, d22, d23, d24, d25, d26, d27, d28, d29] [f0, f1, f2, f3, f4, f5, f6, f7, f8, f9, f10, f11, f12, f13, f14, f15, f16, f17] = [f0, f1, f2, f3, f4, f5, f6, f7, f8, f9, f10, f11, f12, f13, f14, f15, f16, f17, f18, f19, f20, f21, f22, f23, f24, f25, f26, f27, f28, f29] := fnl_cons.trans (s19)
theorem s17 : fnl [d17, d18, d19, d20, d21, d22, d23, d24, d25, d26, d27, d28, d29] [f0, f1, f2, f3, f4, f5, f6, f7, f8, f9, f10, f11, f12, f13, f14, f15, f16] = [f0, f1, f2, f3, f4, f5, f6, f7, f8, f9, f10, f11, f12, f13, f14, f15, f16, f17, f18, f19, f20, f21, f22, f23, f24, f25, f26, f27, f28, f29] := fnl_cons.trans (s18)
theorem s16 : fnl [d16, d17, d18, d19, d20, d21, d22, d23, d24, d25, d26, d27, d28, d29] [f0, f1, f2, f3, f4, f5, f6, f7, f8, f9, f10, f11, f12, f13, f14, f15] = [f0, f1, f2, f3, f4, f5, f6, f7, f8, f9, f10, f11, f12, f13, f14, f15, f16, f17, f18, f19, f20, f21, f22, f23, f24, f25, f26, f27, f28, f29] := fnl_cons.trans (s17)
theorem s15 : fnl [d15, d16, d17, d18, d19, d20, d21, d22, d23, d24, d25, d26, d27, d28, d29] [f0, f1, f2, f3, f4, f5, f6, f7, f8, f9, f10, f11, f12, f13, f14] = [f0, f1, f2, f3, f4, f5, f6, f7, f8, f9, f10, f11, f12, f13, f14, f15, f16, f17, f18, f19, f20, f21, f22, f23, f24, f25, f26, f27, f28, f29] := fnl_cons.trans (s16)
theorem s14 : fnl [d14, d15, d16, d17, d18, d19, d20, d21, d22, d23, d24, d25, d26, d27, d28, d29] [f0, f1, f2, f3, f4, f5, f6, f7, f8, f9, f10, f11, f12, f13] = [f0, f1, f2, f3, f4, f5, f6, f7, f8, f9, f10, f11, f12, f13, f14, f15, f16, f17, f18, f19, f20, f21, f22, f23, f24, f25, f26, f27, f28, f29] := fnl_cons.trans (s15)
theorem s13 : fnl [d13, d14, d15, d16, d17, d18, d19, d20, d21, d22, d23, d24, d25, d26, d27, d28, d29] [f0, f1, f2, f3, f4, f5, f6, f7, f8, f9, f10, f11, f12] = [f0, f1, f2, f3, f4, f5, f6, f7, f8, f9, f10, f11, f12, f13, f14, f15, f16, f17, f18, f19, f20, f21, f22, f23, f24, f25, f26, f27, f28, f29] := fnl_cons.trans (s14)
theorem s12 : fnl [d12, d13, d14, d15, d16, d17, d18, d19, d20, d21, d22, d23, d24, d25, d26, d27, d28, d29] [f0, f1, f2, f3, f4, f5, f6, f7, f8, f9, f10, f11] = [f0, f1, f2, f3, f4, f5, f6, f7, f8, f9, f10, f11, f12, f13, f14, f15, f16, f17, f18, f19, f20, f21, f22, f23, f24, f25, f26, f27, f28, f29] := fnl_cons.trans (s13)
theorem s11 : fnl [d11, d12, d13, d14, d15, d16, d17, d18, d19, d20, d21, d22, d23, d24, d25, d26, d27, d28, d29] [f0, f1, f2, f3, f4, f5, f6, f7, f8, f9, f10] = [f0, f1, f2, f3, f4, f5, f6, f7, f8, f9, f10, f11, f12, f13, f14, f15, f16, f17, f18, f19, f20, f21, f22, f23, f24, f25, f26, f27, f28, f29] := fnl_cons.trans (s12)
theorem s10 : fnl [d10, d11, d12, d13, d14, d15, d16, d17, d18, d19, d20, d21, d22, d23, d24, d25, d26, d27, d28, d29] [f0, f1, f2, f3, f4, f5, f6, f7, f8, f9] = [f0, f1, f2, f3, f4, f5, f6, f7, f8, f9, f10, f11, f12, f13, f14, f15, f16, f17, f18, f19, f20, f21, f22, f23, f24, f25, f26, f27, f28, f29] := fnl_cons.trans (s11)
theorem s9 : fnl [d9, d10, d11, d12, d13, d14, d15, d16, d17, d18, d19, d20, d21, d22, d23, d24, d25, d26, d27, d28, d29] [f0, f1, f2, f3, f4, f5, f6, f7, f8] = [f0, f1, f2, f3, f4, f5, f6, f7, f8, f9, f10, f11, f12, f13, f14, f15, f16, f17, f18, f19, f20, f21, f22, f23, f24, f25, f26, f27, f28, f29] := fnl_cons.trans (s10)
theorem s8 : fnl [d8, d9, d10, d11, d12, d13, d14, d15, d16, d17, d18, d19, d20, d21, d22, d23, d24, d25, d26, d27, d28, d29] [f0, f1, f2, f3, f4, f5, f6, f7] = [f0, f1, f2, f3, f4, f5, f6, f7, f8, f9, f10, f11, f12, f13, f14, f15, f16, f17, f18, f19, f20, f21, f22, f23, f24, f25, f26, f27, f28, f29] := fnl_cons.trans (s9)
theorem s7 : fnl [d7, d8, d9, d10, d11, d12, d13, d14, d15, d16, d17, d18, d19, d20, d21, d22, d23, d24, d25, d26, d27, d28, d29] [f0, f1, f2, f3, f4, f5, f6] = [f0, f1, f2, f3, f4, f5, f6, f7, f8, f9, f10, f11, f12, f13, f14, f15, f16, f17, f18, f19, f20, f21, f22, f23, f24, f25, f26, f27, f28, f29] := fnl_cons.trans (s8)
theorem s6 : fnl [d6, d7, d8, d9, d10, d11, d12, d13, d14, d15, d16, d17, d18, d19, d20, d21, d22, d23, d24, d25, d26, d27, d28, d29] [f0, f1, f2, f3, f4, f5] = [f0, f1, f2, f3, f4, f5, f6, f7, f8, f9, f10, f11, f12, f13, f14, f15, f16, f17, f18, f19, f20, f21, f22, f23, f24, f25, f26, f27, f28, f29] := fnl_cons.trans (s7)
theorem s5 : fnl [d5, d6, d7, d8, d9, d10, d11, d12, d13, d14, d15, d16, d17, d18, d19, d20, d21, d22, d23, d24, d25, d26, d27, d28, d29] [f0, f1, f2, f3, f4] = [f0, f1, f2, f3, f4, f5, f6, f7, f8, f9, f10, f11, f12, f13, f14, f15, f16, f17, f18, f19, f20, f21, f22, f23, f24, f25, f26, f27, f28, f29] := fnl_cons.trans (s6)
theorem s4 : fnl [d4, d5, d6, d7, d8, d9, d10, d11, d12, d13, d14, d15, d16, d17, d18, d19, d20, d21, d22, d23, d24, d25, d26, d27, d28, d29] [f0, f1, f2, f3] = [f0, f1, f2, f3, f4, f5, f6, f7, f8, f9, f10, f11, f12, f13, f14, f15, f16, f17, f18, f19, f20, f21, f22, f23, f24, f25, f26, f27, f28, f29] := fnl_cons.trans (s5)
theorem s3 : fnl [d3, d4, d5, d6, d7, d8, d9, d10, d11, d12, d13, d14, d15, d16, d17, d18, d19, d20, d21, d22, d23, d24, d25, d26, d27, d28, d29] [f0, f1, f2] = [f0, f1, f2, f3, f4, f5, f6, f7, f8, f9, f10, f11, f12, f13, f14, f15, f16, f17, f18, f19, f20, f21, f22, f23, f24, f25, f26, f27, f28, f29] := fnl_cons.trans (s4)
theorem s2 : fnl [d2, d3, d4, d5, d6, d7, d8, d9, d10, d11, d12, d13, d14, d15, d16, d17, d18, d19, d20, d21, d22, d23, d24, d25, d26, d27, d28, d29] [f0, f1] = [f0, f1, f2, f3, f4, f5, f6, f7, f8, f9, f10, f11, f12, f13, f14, f15, f16, f17, f18, f19, f20, f21, f22, f23, f24, f25, f26, f27, f28, f29] := fnl_cons.trans (s3)
theorem s1 : fnl [d1, d2, d3, d4, d5, d6, d7, d8, d9, d10, d11, d12, d13, d14, d15, d16, d17, d18, d19, d20, d21, d22, d23, d24, d25, d26, d27, d28, d29] [f0] = [f0, f1, f2, f3, f4, f5, f6, f7, f8, f9, f10, f11, f12, f13, f14, f15, f16, f17, f18, f19, f20, f21, f22, f23, f24, f25, f26, f27, f28, f29] := fnl_cons.trans (s2)
theorem s0 : fnl [d0, d1, d2, d3, d4, d5, d6, d7, d8, d9, d10, d11, d12, d13, d14, d15, d16, d17, d18, d19, d20, d21, d22, d23, d24, d25, d26, d27, d28, d29] [] = [f0, f1, f2, f3, f4, f5, f6, f7, f8, f9, f10, f11, f12, f13, f14, f15, f16, f17, f18, f19, f20, f21, f22, f23, f24, f25, f26, f27, f28, f29] := fnl_cons.trans (s1)
theorem fnl_eq : fnl tbl [] = [f0, f1, f2, f3, f4, f5, f6, f7, f8, f9, f10, f11, f12, f13, f14, f15, f16, f17, f18, f19, f20, f21, f22, f23, f24, f25, f26, f27, f28, f29] := s0
theorem chk : chkL [] cts nol tbl = true := by decide +kernel
end K23

set_option linter.all false
set_option maxHeartbeats 1000000
namespace K23
open PySem RB
theorem isint (n : Int) : f3 [.im (.int n)] = .ok (.im (.bl true), [some (.im (.int n))]) := by
  unfold f3 DefE.fn fnOf
  simp [d3, entry, locOf, biD, isinB]
theorem check_number {n : Int} {s : Str} (h0 : 0 ≤ n) (h1 : n ≤ 1000000000000) : f6 [.im (.int n), .im (.str s)] = .ok (.im .non, [some (.im (.int n)), some (.im (.str s))]) := by
  unfold f6 DefE.fn fnOf
  simp [d6, entry, locOf, isint, h0, h1]
theorem entries {a b : Int} (ha : 0 ≤ a) (ha1 : a ≤ 1000000000000) (hb : 0 ≤ b) (hb1 : b ≤ 1000000000000) : f7 [.im (.int a), .im (.int b)] = .ok (.im (.tup [.int (a + b), .int (if a - b < 0 then -(a - b) else a - b)]), [some (.im (.int a)), some (.im (.int b))]) := by
  unfold f7 DefE.fn fnOf
  simp [d7, entry, locOf, check_number, ha, ha1, hb, hb1, listLim]
/-- a table: ints that are not negative -/
theorem is_table {ns : List Int} (h0 : 0 < ns.length) (h1 : ns.length ≤ 1001) (hn : ∀ n ∈ ns, 0 ≤ n) : f4 [.im (.tup (ns.map D.int))] = .ok (.im (.bl true), [some (.im (.tup (ns.map D.int)))]) := by
  have hc : compL (compF (Fl [f0, f1, f2, f3]) [1] (.v 1) .none (.and_ (.call 3 (.cons (.var 1) .nil) []) (.cmp .ge (.var 1) (.lit (.int 0))))) (ns.map D.int) [some (.im (.tup (ns.map D.int))), none] = .ok ((ns.map D.int).map fun _ => .bl true, [some (.im (.tup (ns.map D.int))), none]) := by
    rw [compL_on (g := fun _ => some (.bl true))]
    · simp
    · intro n hm
      simp [compF, isint, hn n hm, wipeE]
  have hb : biD .all [.lst ((ns.map D.int).map fun _ => .bl true)] = some (.im (.bl true)) := by
    have : ∀ l : List D, allB (l.map fun _ => D.bl true) = some (l.map fun _ => true) := by
      intro l
      induction l with
      | nil => rfl
      | cons x l ih => simp [allB, ih]
    show (match allB ((ns.map D.int).map fun _ => D.bl true) with | some bs => some (Rf.im (.bl (bs.all id))) | _ => none) = _
    rw [this]
    simp
  unfold f4 DefE.fn fnOf
  have l1 : (1 : Int) ≤ ns.length := by omega
  have l2 : (ns.length : Int) ≤ 1001 := by omega
  have l3 : ns.length ≤ listLim := by unfold listLim; omega
  simp [d4, entry, locOf, biD, isinB, items, wipeE, backE, l1, l2, l3] at hc hb ⊢
  simp [hc, hb, l3]
end K23

set_option linter.all false
set_option maxHeartbeats 1000000
namespace K23
open PySem RB
def sq (k : Nat) : Int := (k : Int) * k / 4
theorem mulS {a b : Int} (h : -1000000000000000 < a ∧ a < 1000000000000000) : bin .mul (.int a) (.int b) = some (.im (.int (a * b))) := bin_mulI (.inl (by omega))
theorem div4 {a : Int} : bin .fdiv (.int a) (.int 4) = some (.im (.int (a / 4))) := bin_divI (by decide) (.inl (by decide))
def good (n : Nat) : List Int := (List.range n).map fun k => sq k
theorem good_len {n : Nat} : (good n).length = n := by simp [good]
theorem t0 {F : Fns} {n : Int} {x : Option Vl} (e : bin .mul (.int n) (.int n) = some (.im (.int (n * n)))) (e4 : bin .fdiv (.int (n * n)) (.int 4) = some (.im (.int (n * n / 4)))) : compF F [1] (.v 1) .none (.bin .fdiv (.bin .mul (.var 1) (.var 1)) (.lit (.int 4))) (.int n) [x, none] = .ok (some (.int (n * n / 4)), [x, none]) := by
  simp [compF, wipeE, e, e4]
theorem t1 {F : Fns} {x : Option Vl} {k : Nat} (hk : k < 1001) : compF F [1] (.v 1) .none (.bin .fdiv (.bin .mul (.var 1) (.var 1)) (.lit (.int 4))) (.int k) [x, none] = .ok (some (.int (sq k)), [x, none]) := t0 (mulS (by omega)) div4
theorem t2 {m : Nat} (h : m ≤ 1000) : compL (compF (Fl [f0, f1, f2, f3, f4, f5, f6, f7, f8, f9, f10]) [1] (.v 1) .none (.bin .fdiv (.bin .mul (.var 1) (.var 1)) (.lit (.int 4)))) ((List.range (m + 1)).map fun k : Nat => D.int k) [some (.im (.int m)), none] = .ok ((good (m + 1)).map D.int, [some (.im (.int m)), none]) := by
  rw [compL_on (g := fun k : Nat => some (.int (sq k)))]
  · simp [good, sq, Function.comp_def]
  · intro k hk
    have hk : k < m + 1 := by simpa using hk
    exact t1 (by omega)
theorem lt0 {m : Int} {xs ys : List D} (hr : rngOf [.int (m + 1)] = some xs) (hc : compL (compF (Fl [f0, f1, f2, f3, f4, f5, f6, f7, f8, f9, f10]) [1] (.v 1) .none (.bin .fdiv (.bin .mul (.var 1) (.var 1)) (.lit (.int 4)))) xs [some (.im (.int m)), none] = .ok (ys, [some (.im (.int m)), none])) (ll : ys.length ≤ listLim) :
    f11 [.im (.int m)] = .ok (.ow ys, [some (.im (.int m))]) := by
  unfold f11 DefE.fn fnOf
  simp [d11, entry, locOf, hr, wipeE, backE, hc, ll]
theorem law_table {m : Nat} (h : m ≤ 1000) : f11 [.im (.int m)] = .ok (.ow ((good (m + 1)).map D.int), [some (.im (.int m))]) :=
  lt0 (rng1 (by omega) (by omega)) (t2 h) (lim_ok (by rw [List.length_map, good_len]; omega))

theorem div2 {a : Int} : bin .fdiv (.int a) (.int 2) = some (.im (.int (a / 2))) := bin_divI (by decide) (.inl (by decide))
end K23

set_option linter.all false
set_option maxHeartbeats 1000000
namespace K23
open PySem RB
theorem sq_step (k : Nat) : sq (k + 1) = sq k + ((k + 1 : Nat) : Int) / 2 := by
  unfold sq
  obtain ⟨m, h⟩ : ∃ m, k = 2 * m ∨ k = 2 * m + 1 := ⟨k / 2, by omega⟩
  have e1 : ((2 * m : Nat) : Int) * ((2 * m : Nat) : Int) = 4 * ((m : Int) * m) := by grind
  have e2 : ((2 * m + 1 : Nat) : Int) * ((2 * m + 1 : Nat) : Int) = 4 * ((m : Int) * m) + 4 * m + 1 := by grind
  have e3 : ((2 * m + 1 + 1 : Nat) : Int) * ((2 * m + 1 + 1 : Nat) : Int) = 4 * ((m : Int) * m) + 8 * m + 4 := by grind
  rcases h with rfl | rfl
  · rw [e1, e2]; omega
  · rw [e2, e3]; omega
theorem good_succ (n : Nat) : good (n + 1) = good n ++ [sq n] := by simp [good, List.range_succ]
theorem ix_last {xs : List D} {d : D} : ixD (.lst (xs ++ [d])) (.int (-1)) = some d := by
  show L2.atI (xs ++ [d]) (-1) = some d
  unfold L2.atI L2.ixN
  rw [if_neg (by decide), if_pos (by simp; omega)]
  have : (-1 + ((xs ++ [d]).length : Int)).toNat = xs.length := by simp; omega
  simp only [Option.bind_some, this]
  simp
def tblB : Ss := (.cons (.app 1 (.bin .add (.ix (.var 1) (.neg (.lit (.int 1)))) (.bin .fdiv (.var 2) (.lit (.int 2))))) .nil)
theorem tb1 {F : Fns} {m n a : Int} {x : Option Vl} {xs : List D} (last : ixD (.lst xs) (.int (-1)) = some (.int a)) (ll : xs.length < listLim) (d2 : bin .fdiv (.int n) (.int 2) = some (.im (.int (n / 2)))) :
    forF F (locOf 1 []) (.v 2) tblB (.int n) [some (.im (.int m)), some (.ow xs), x] = .ok (.nx, [some (.im (.int m)), some (.ow (xs ++ [.int (a + n / 2)])), some (.im (.int n))]) := by
  simp [forF, tblB, last, ll, d2]
theorem tb0 {m : Int} {xs ys : List D} {x : Option Vl} (h0 : 0 ≤ m) (h1 : m ≤ 1000) (hi : f3 [.im (.int m)] = .ok (.im (.bl true), [some (.im (.int m))])) (hr : rngOf [.int 1, .int (m + 1)] = some xs)
    (hl : forL (forF (Fl [f0, f1, f2, f3, f4, f5, f6, f7, f8, f9, f10, f11, f12, f13, f14, f15]) (locOf 1 []) (.v 2) tblB) xs [some (.im (.int m)), some (.ow [.int 0]), none] = .ok (.nx, [some (.im (.int m)), some (.ow ys), x])) :
    f16 [.im (.int m)] = .ok (.im (.tup ys), [some (.im (.int m))]) := by
  unfold tblB at hl
  unfold f16 DefE.fn fnOf
  have l1 : 1 ≤ listLim := lim_ok (by omega)
  simp [d16, entry, locOf, hi, h0, h1, hr, l1] at hl ⊢
  simp [hl, biD]
theorem table {m : Nat} (h : m ≤ 1000) : f16 [.im (.int m)] = .ok (.im (.tup ((good (m + 1)).map D.int)), [some (.im (.int m))]) := by
  obtain ⟨env', h1, x, h2⟩ := forL_inv (f := forF (Fl [f0, f1, f2, f3, f4, f5, f6, f7, f8, f9, f10, f11, f12, f13, f14, f15]) (locOf 1 []) (.v 2) tblB) (I := fun k env => ∃ x, env = [some (.im (.int m)), some (.ow ((good (k + 1)).map D.int)), x])
    (xs := (List.range m).map fun k : Nat => D.int (1 + k)) (k := 0) (env := [some (.im (.int m)), some (.ow ((good 1).map D.int)), none]) ⟨none, rfl⟩ (by
      intro i x env hx ⟨y, he⟩
      rw [List.getElem?_map] at hx
      obtain ⟨i', hi, rfl⟩ := Option.map_eq_some_iff.mp hx
      obtain ⟨hi1, hi2⟩ := List.getElem?_eq_some_iff.mp hi
      simp at hi1 hi2
      subst hi2
      rw [Nat.zero_add] at he
      subst he
      refine ⟨_, tb1 (a := sq i) ?_ (lim_lt (by rw [List.length_map, good_len]; omega)) div2, some (.im (.int (1 + i))), ?_⟩
      · rw [good_succ, List.map_append]
        exact ix_last
      · rw [Nat.zero_add, good_succ (i + 1), List.map_append, sq_step]
        have : ((i + 1 : Nat) : Int) = 1 + i := by omega
        rw [this]
        rfl)
  subst h2
  have e : (good 1).map D.int = [.int 0] := by simp [good, sq]
  rw [e] at h1
  have := tb0 (m := (m : Int)) (by omega) (by omega) (isint m) (rng2 (m := m) (by omega) (by omega) (by omega) (by omega)) h1
  rw [List.length_map, List.length_range, Nat.zero_add] at this
  exact this
end K23

set_option linter.all false
set_option maxHeartbeats 1000000
namespace K23
open PySem RB
@[simp] theorem out3 {a b c : Option Vl} {r : RB.Env} : outs (locOf 3 []) 3 (a :: b :: c :: r) = [a, b, c] := by simp [outs, locOf, List.range_succ]
@[simp] theorem out4 {a b c d : Option Vl} {r : RB.Env} : outs (locOf 4 []) 4 (a :: b :: c :: d :: r) = [a, b, c, d] := by simp [outs, locOf, List.range_succ]
theorem pb0 {T : List D} {a b one other p q : Int} (hck : f5 [.im (.tup T)] = .ok (.im .non, [some (.im (.tup T))])) (hen : f7 [.im (.int a), .im (.int b)] = .ok (.im (.tup [.int one, .int other]), [some (.im (.int a)), some (.im (.int b))]))
    (hlt : one < T.length) (i1 : ixD (.tup T) (.int one) = some (.int p)) (i2 : ixD (.tup T) (.int other) = some (.int q)) :
    f9 [.im (.tup T), .im (.int a), .im (.int b)] = .ok (.im (.int (p - q)), [some (.im (.tup T)), some (.im (.int a)), some (.im (.int b))]) := by
  unfold f9 DefE.fn fnOf
  simp [d9, entry, locOf, hck, hen, hlt, i1, i2]
theorem ap0 {T : List D} {a b one other p q t : Int} (hck : f5 [.im (.tup T)] = .ok (.im .non, [some (.im (.tup T))])) (hen : f7 [.im (.int a), .im (.int b)] = .ok (.im (.tup [.int one, .int other]), [some (.im (.int a)), some (.im (.int b))])) (hi : f3 [.im (.int t)] = .ok (.im (.bl true), [some (.im (.int t))]))
    (hlt : ¬ (T.length : Int) ≤ one) (i1 : ixD (.tup T) (.int one) = some (.int p)) (i2 : ixD (.tup T) (.int other) = some (.int q)) (m1 : bin .mul (.int one) (.int one) = some (.im (.int (one * one)))) (m2 : bin .mul (.int other) (.int other) = some (.im (.int (other * other))))
    (v1 : bin .fdiv (.int (one * one)) (.int 4) = some (.im (.int p))) (v2 : bin .fdiv (.int (other * other)) (.int 4) = some (.im (.int q))) (e : p - q = t) :
    f8 [.im (.tup T), .im (.int a), .im (.int b), .im (.int t)] = .ok (.im .non, [some (.im (.tup T)), some (.im (.int a)), some (.im (.int b)), some (.im (.int t))]) := by
  unfold f8 DefE.fn fnOf
  simp [d8, entry, locOf, hck, hen, hi, hlt, i1, i2, m1, m2, v1, v2, e]
theorem ixI {ns : List Int} {k : Nat} (h : k < ns.length) : ixD (.tup (ns.map D.int)) (.int (k : Int)) = some (.int ns[k]) := by
  rw [ixT_nat (by simpa using h)]; simp
theorem good_ix {n k : Nat} (h : k < n) : ixD (.tup ((good n).map D.int)) (.int (k : Int)) = some (.int (sq k)) := by
  rw [ixI (by rw [good_len]; exact h)]; simp [good]
theorem sq_nn (k : Nat) : 0 ≤ sq k := Int.ediv_nonneg (Int.mul_nonneg (by omega) (by omega)) (by decide)
theorem check_good {n : Nat} (h : 0 < n) (h1 : n ≤ 1001) : f5 [.im (.tup ((good n).map D.int))] = .ok (.im .non, [some (.im (.tup ((good n).map D.int)))]) := by
  have := is_table (ns := good n) (by rw [good_len]; exact h) (by rw [good_len]; exact h1) fun m hm => by
    obtain ⟨k, _, rfl⟩ := List.mem_map.mp hm
    exact sq_nn k
  unfold f5 DefE.fn fnOf
  simp [d5, entry, locOf, this]
/-- how far apart -/
def gap (a b : Nat) : Nat := if a ≤ b then b - a else a - b
theorem gap_int {a b : Nat} : (if (a : Int) - b < 0 then -((a : Int) - b) else (a : Int) - b) = (gap a b : Int) := by
  unfold gap; split <;> split <;> omega
theorem quarter (a b : Nat) : sq (a + b) - sq (gap a b) = (a : Int) * b := by
  have key : ∀ x y : Nat, sq (x + (x + y)) - sq y = (x : Int) * (x + y : Nat) := fun x y => by
    unfold sq
    have e : ((x + (x + y) : Nat) : Int) * ((x + (x + y) : Nat) : Int) = (y : Int) * y + 4 * ((x : Int) * (x + y : Nat)) := by grind
    rw [e, Int.add_mul_ediv_left _ _ (by decide)]
    omega
  unfold gap
  split
  · obtain ⟨y, rfl⟩ := Nat.exists_eq_add_of_le (by assumption)
    rw [Nat.add_sub_cancel_left]
    exact key a y
  · obtain ⟨y, rfl⟩ := Nat.exists_eq_add_of_le (show b ≤ a by omega)
    rw [Nat.add_sub_cancel_left, Nat.add_comm (b + y) b, Int.mul_comm]
    exact key b y
theorem entriesN {a b : Nat} (ha : a ≤ 1000000000000) (hb : b ≤ 1000000000000) : f7 [.im (.int a), .im (.int b)] = .ok (.im (.tup [.int ((a + b : Nat) : Int), .int (gap a b)]), [some (.im (.int a)), some (.im (.int b))]) := by
  have := entries (a := a) (b := b) (by omega) (by omega) (by omega) (by omega)
  rw [gap_int] at this
  rw [this]
  rfl
theorem product_by {n a b : Nat} (h : a + b < n) (hn : n ≤ 1001) : f9 [.im (.tup ((good n).map D.int)), .im (.int a), .im (.int b)] = .ok (.im (.int ((a : Int) * b)), [some (.im (.tup ((good n).map D.int))), some (.im (.int a)), some (.im (.int b))]) := by
  have hg : gap a b < n := by unfold gap; split <;> omega
  rw [pb0 (check_good (by omega) hn) (entriesN (by omega) (by omega)) (by rw [List.length_map, good_len]; omega) (good_ix h) (good_ix hg), quarter]
theorem accept_product {n a b : Nat} (h : a + b < n) (hn : n ≤ 1001) : f8 [.im (.tup ((good n).map D.int)), .im (.int a), .im (.int b), .im (.int ((a : Int) * b))] = .ok (.im .non, [some (.im (.tup ((good n).map D.int))), some (.im (.int a)), some (.im (.int b)), some (.im (.int ((a : Int) * b)))]) := by
  have hg : gap a b < n := by unfold gap; split <;> omega
  exact ap0 (check_good (by omega) hn) (entriesN (by omega) (by omega)) (isint _) (by rw [List.length_map, good_len]; omega) (good_ix h) (good_ix hg) (mulS (by omega)) (mulS (by omega)) div4 div4 (quarter a b)
end K23

set_option linter.all false
set_option maxHeartbeats 1000000
namespace K23
open PySem RB
theorem qt0 {n : Int} (hc : f6 [.im (.int n), .im (.str "number")] = .ok (.im .non, [some (.im (.int n)), some (.im (.str "number"))])) (m : bin .mul (.int n) (.int n) = some (.im (.int (n * n)))) (d : bin .fdiv (.int (n * n)) (.int 4) = some (.im (.int (n * n / 4)))) :
    f25 [.im (.int n)] = .ok (.im (.int (n * n / 4)), [some (.im (.int n))]) := by
  unfold f25 DefE.fn fnOf
  simp [d25, entry, locOf, hc, m, d]
theorem quarterF {n : Int} (h0 : 0 ≤ n) (h1 : n ≤ 1000000000000) : f25 [.im (.int n)] = .ok (.im (.int (n * n / 4)), [some (.im (.int n))]) := qt0 (check_number h0 h1) (mulS (by omega)) div4
theorem tr0 {n : Int} (hc : f6 [.im (.int n), .im (.str "number")] = .ok (.im .non, [some (.im (.int n)), some (.im (.str "number"))])) (m : bin .mul (.int n) (.int (n + 1)) = some (.im (.int (n * (n + 1))))) (d : bin .fdiv (.int (n * (n + 1))) (.int 2) = some (.im (.int (n * (n + 1) / 2)))) :
    f26 [.im (.int n)] = .ok (.im (.int (n * (n + 1) / 2)), [some (.im (.int n))]) := by
  unfold f26 DefE.fn fnOf
  simp [d26, entry, locOf, hc, m, d]
theorem triangular {n : Int} (h0 : 0 ≤ n) (h1 : n ≤ 1000000000000) : f26 [.im (.int n)] = .ok (.im (.int (n * (n + 1) / 2)), [some (.im (.int n))]) := tr0 (check_number h0 h1) (mulS (by omega)) div2
theorem shortest {a b : Int} (ha : 0 ≤ a) (ha1 : a ≤ 1000000000000) (hb : 0 ≤ b) (hb1 : b ≤ 1000000000000) : f27 [.im (.int a), .im (.int b)] = .ok (.im (.tup [.int (a + b + 1), .int ((if b > a then b else a) + 1)]), [some (.im (.int a)), some (.im (.int b))]) := by
  have e1 := check_number (n := a) (s := "first") ha ha1
  have e2 := check_number (n := b) (s := "second") hb hb1
  have e3 : biD .max [.int a, .int b] = some (.im (.int (if b > a then b else a))) := rfl
  have l : 2 ≤ listLim := lim_ok (by omega)
  unfold f27 DefE.fn fnOf
  simp [d27, entry, locOf, e1, e2, e3, l]
theorem by_triangles {a b : Int} (ha : 0 ≤ a) (ha1 : a ≤ 1000000000000) (hb : 1 ≤ b) (hb1 : b ≤ a) : f24 [.im (.int a), .im (.int b)] = .ok (.im (.tup [.int a, .int (b - 1), .int (a - b)]), [some (.im (.int a)), some (.im (.int b))]) := by
  have e1 := check_number (n := a) (s := "first") ha ha1
  have e2 := check_number (n := b) (s := "second") (by omega) (by omega)
  have c1 : ¬ b < 1 := by omega
  have c2 : ¬ a < b := by omega
  have l : 3 ≤ listLim := lim_ok (by omega)
  unfold f24 DefE.fn fnOf
  simp [d24, entry, locOf, e1, e2, c1, c2, l]
theorem startF (ns : List Int) : ∃ S, Wf S ∧ f0 [.im (.scr (ns.map D.int))] = .ok (.ow S, [some (.im (.scr (ns.map D.int)))]) := pre_start ns
theorem drawF {S : List D} {m : Int} (h : Wf S) (hm : 0 < m) (hw : m < 1073741824 ∨ wide m = true) : ∃ n S', 0 ≤ n ∧ n < m ∧ Wf S' ∧ f1 [.ow S, .im (.int m)] = .ok (.im (.int n), [some (.ow S'), some (.im (.int m))]) := pre_draw h hm hw
theorem sameF {v1 v2 : Vl} {d : D} (h1 : frz v1 = d) (h2 : frz v2 = d) (hd : Fine d) : f2 [v1, v2] = .ok (.im (.bl true), [some v1, some v2]) := pre_same h1 h2 hd
theorem pickF {S xs : List D} {v : Vl} (h : Wf S) (hv : frz v = .lst xs) (h0 : 0 < xs.length) (h1 : xs.length < 1073741824) :
    ∃ (k : Nat) (hk : k < xs.length) (S' : List D), Wf S' ∧ f10 [.ow S, v] = .ok (.im xs[k], [some (.ow S'), some v]) := pre_pick (j := 1) (F := Fl [f0, f1, f2, f3, f4, f5, f6, f7, f8, f9]) (F' := Fl [f0]) rfl h hv h0 h1
theorem wide12 : wide 1000000000001 = true := by
  unfold wide lim
  rw [decide_eq_true_eq]
  exact Nat.lt_of_lt_of_le (show (1000000000001 : Int).natAbs < 2 ^ 64 by decide) (Nat.pow_le_pow_right (by decide) (by decide))
end K23

set_option linter.all false
set_option maxHeartbeats 1000000
namespace K23
open PySem RB
def drawTwo : E := (.call 1 (.cons (.var 0) (.cons (.call 10 (.cons (.var 0) (.cons (.lst (.cons (.lit (.int 10)) (.cons (.lit (.int 1000)) (.cons (.bin .add (.bin .pow (.lit (.int 10)) (.lit (.int 12))) (.lit (.int 1))) .nil)))) .nil)) []) .nil)) [])
noncomputable abbrev FF28 : Fns := Fl [f0, f1, f2, f3, f4, f5, f6, f7, f8, f9, f10, f11, f12, f13, f14, f15, f16, f17, f18, f19, f20, f21, f22, f23, f24, f25, f26, f27]
abbrev env28 (S : List D) : RB.Env := [some (.ow S), none, none, none, none, none, none, none, none, none]
theorem pw : bin .pow (.int 10) (.int 12) = some (.im (.int 1000000000000)) := by
  simp only [bin, binI]
  rw [if_pos (by decide)]
  rfl
theorem nt0 {S S1 S2 : List D} {m n k : Int} (hp : f10 [.ow S, .ow [.int 10, .int 1000, .int 1000000000001]] = .ok (.im (.int m), [some (.ow S1), some (.ow [.int 10, .int 1000, .int 1000000000001])])) (hd : f1 [.ow S1, .im (.int m)] = .ok (.im (.int n), [some (.ow S2), some (.im (.int m))])) :
    compF FF28 [9] (.v 9) .none drawTwo (.int k) (env28 S) = .ok (some (.int n), env28 S2) := by
  have l : 3 ≤ listLim := lim_ok (by omega)
  simp [compF, drawTwo, pw, hp, hd, wipeE, l]
theorem nturn {S : List D} {k : Int} (h : Wf S) : ∃ n S2, 0 ≤ n ∧ n ≤ 1000000000000 ∧ Wf S2 ∧ compF FF28 [9] (.v 9) .none drawTwo (.int k) (env28 S) = .ok (some (.int n), env28 S2) := by
  obtain ⟨j, hj, S1, w1, e1⟩ := pickF (v := .ow [.int 10, .int 1000, .int 1000000000001]) h rfl (by decide) (by decide)
  have go : ∀ m : Int, 0 < m → m ≤ 1000000000001 → (m < 1073741824 ∨ wide m = true) → f10 [.ow S, .ow [.int 10, .int 1000, .int 1000000000001]] = .ok (.im (.int m), [some (.ow S1), some (.ow [.int 10, .int 1000, .int 1000000000001])]) → ∃ n S2, 0 ≤ n ∧ n ≤ 1000000000000 ∧ Wf S2 ∧ compF FF28 [9] (.v 9) .none drawTwo (.int k) (env28 S) = .ok (some (.int n), env28 S2) := fun m m0 m1 mw e => by
    obtain ⟨n, S2, n0, n1, w2, e2⟩ := drawF w1 m0 mw
    exact ⟨n, S2, n0, by omega, w2, nt0 e e2⟩
  match j, hj, e1 with
  | 0, _, e1 => exact go 10 (by decide) (by decide) (.inl (by decide)) e1
  | 1, _, e1 => exact go 1000 (by decide) (by decide) (.inl (by decide)) e1
  | 2, _, e1 => exact go 1000000000001 (by decide) (by decide) (.inr wide12) e1
/-- small data -/
theorem fine_of {d : D} (f : d.fine = true) (w : d.wt ≤ 100000) (e : d.dep ≤ 60) : Fine d := ⟨f, lim_ok w, e⟩
theorem nhA {S S3 : List D} {a b mx mn : Int} (hc : compL (compF FF28 [9] (.v 9) .none drawTwo) [.int 0, .int 1] (env28 S) = .ok ([.int a, .int b], env28 S3))
    (hmx : biD .max [.lst [.int a, .int b]] = some (.im (.int mx))) (hmn : biD .min [.lst [.int a, .int b]] = some (.im (.int mn)))
    (m1 : bin .mul (.int a) (.int a) = some (.im (.int (a * a)))) (v1 : bin .fdiv (.int (a * a)) (.int 4) = some (.im (.int (a * a / 4)))) (m2 : bin .mul (.int a) (.int (a + 1)) = some (.im (.int (a * (a + 1))))) (v2 : bin .fdiv (.int (a * (a + 1))) (.int 2) = some (.im (.int (a * (a + 1) / 2))))
    (qf : f25 [.im (.int a)] = .ok (.im (.int (a * a / 4)), [some (.im (.int a))])) (tf : f26 [.im (.int a)] = .ok (.im (.int (a * (a + 1) / 2)), [some (.im (.int a))]))
    (en : f7 [.im (.int a), .im (.int b)] = .ok (.im (.tup [.int (a + b), .int (if a - b < 0 then -(a - b) else a - b)]), [some (.im (.int a)), some (.im (.int b))]))
    (sh : f27 [.im (.int a), .im (.int b)] = .ok (.im (.tup [.int (a + b + 1), .int (mx + 1)]), [some (.im (.int a)), some (.im (.int b))]))
    (sm : ∀ {v1 v2 : Vl}, frz v1 = .lst [.int (a * a / 4), .int (a * (a + 1) / 2), .tup [.int (a + b), .int (if a - b < 0 then -(a - b) else a - b)], .tup [.int (a + b + 1), .int (mx + 1)]] → frz v2 = .lst [.int (a * a / 4), .int (a * (a + 1) / 2), .tup [.int (a + b), .int (if a - b < 0 then -(a - b) else a - b)], .tup [.int (a + b + 1), .int (mx + 1)]] → f2 [v1, v2] = .ok (.im (.bl true), [some v1, some v2]))
    (hi : 1000000000000 < 1 + mx) : f28 [.ow S] = .ok (.im (.bl true), [some (.ow S3)]) := by
  have l : 4 ≤ listLim := lim_ok (by omega)
  have l2 : 2 ≤ listLim := lim_ok (by omega)
  have hr : rngOf [.int 2] = some [.int 0, .int 1] := rfl
  have sm' := sm (v1 := .ow [.int (a * a / 4), .int (a * (a + 1) / 2), .tup [.int (a + b), .int (if a - b < 0 then -(a - b) else a - b)], .tup [.int (a + b + 1), .int (mx + 1)]]) (v2 := .ow [.int (a * a / 4), .int (a * (a + 1) / 2), .tup [.int (a + b), .int (if a - b < 0 then -(a - b) else a - b)], .tup [.int (a + b + 1), .int (mx + 1)]]) rfl rfl
  unfold drawTwo at hc
  unfold f28 DefE.fn fnOf
  simp [d28, entry, locOf, List.replicate, hr, wipeE] at hc ⊢
  simp [hc, backE, hmx, hmn, m1, v1, m2, v2, qf, tf, en, sh, sm', pw, l, l2, hi]
end K23

set_option linter.all false
set_option maxHeartbeats 2000000
namespace K23
open PySem RB
theorem nhB {S S3 : List D} {a b mx mn : Int} (hc : compL (compF FF28 [9] (.v 9) .none drawTwo) [.int 0, .int 1] (env28 S) = .ok ([.int a, .int b], env28 S3))
    (hmx : biD .max [.lst [.int a, .int b]] = some (.im (.int mx))) (hmn : biD .min [.lst [.int a, .int b]] = some (.im (.int mn)))
    (m1 : bin .mul (.int a) (.int a) = some (.im (.int (a * a)))) (v1 : bin .fdiv (.int (a * a)) (.int 4) = some (.im (.int (a * a / 4)))) (m2 : bin .mul (.int a) (.int (a + 1)) = some (.im (.int (a * (a + 1))))) (v2 : bin .fdiv (.int (a * (a + 1))) (.int 2) = some (.im (.int (a * (a + 1) / 2))))
    (qf : f25 [.im (.int a)] = .ok (.im (.int (a * a / 4)), [some (.im (.int a))])) (tf : f26 [.im (.int a)] = .ok (.im (.int (a * (a + 1) / 2)), [some (.im (.int a))]))
    (en : f7 [.im (.int a), .im (.int b)] = .ok (.im (.tup [.int (a + b), .int (if a - b < 0 then -(a - b) else a - b)]), [some (.im (.int a)), some (.im (.int b))]))
    (sh : f27 [.im (.int a), .im (.int b)] = .ok (.im (.tup [.int (a + b + 1), .int (mx + 1)]), [some (.im (.int a)), some (.im (.int b))]))
    (sm : ∀ {v1 v2 : Vl}, frz v1 = .lst [.int (a * a / 4), .int (a * (a + 1) / 2), .tup [.int (a + b), .int (if a - b < 0 then -(a - b) else a - b)], .tup [.int (a + b + 1), .int (mx + 1)]] → frz v2 = .lst [.int (a * a / 4), .int (a * (a + 1) / 2), .tup [.int (a + b), .int (if a - b < 0 then -(a - b) else a - b)], .tup [.int (a + b + 1), .int (mx + 1)]] → f2 [v1, v2] = .ok (.im (.bl true), [some v1, some v2]))
    (hi : ¬ 1000000000000 < 1 + mx) {lo h : Int} (elo : 1 + mn = lo) (eh : 1 + mx = h)
    (bt : f24 [.im (.int h), .im (.int lo)] = .ok (.im (.tup [.int h, .int (lo - 1), .int (h - lo)]), [some (.im (.int h)), some (.im (.int lo))]))
    (sm2 : f2 [.im (.tup [.int h, .int (lo - 1), .int (h - lo)]), .im (.tup [.int h, .int (lo - 1), .int (h - lo)])] = .ok (.im (.bl true), [some (.im (.tup [.int h, .int (lo - 1), .int (h - lo)])), some (.im (.tup [.int h, .int (lo - 1), .int (h - lo)]))]))
    {t1 t2 t3 : Int} (e1 : f26 [.im (.int h)] = .ok (.im (.int t1), [some (.im (.int h))])) (e2 : f26 [.im (.int (lo - 1))] = .ok (.im (.int t2), [some (.im (.int (lo - 1)))])) (e3 : f26 [.im (.int (h - lo))] = .ok (.im (.int t3), [some (.im (.int (h - lo)))]))
    (mm : bin .mul (.int h) (.int lo) = some (.im (.int (h * lo)))) (eq : t1 + t2 - t3 = h * lo) (q5 : f25 [.im (.int 5)] = .ok (.im (.int 6), [some (.im (.int 5))])) :
    f28 [.ow S] = .ok (.im (.bl true), [some (.ow S3)]) := by
  have l : 4 ≤ listLim := lim_ok (by omega)
  have l2 : 2 ≤ listLim := lim_ok (by omega)
  have l3 : 3 ≤ listLim := lim_ok (by omega)
  have hr : rngOf [.int 2] = some [.int 0, .int 1] := rfl
  have hi : ¬ 1000000000000 < h := by rw [← eh]; exact hi
  have sm' := sm (v1 := .ow [.int (a * a / 4), .int (a * (a + 1) / 2), .tup [.int (a + b), .int (if a - b < 0 then -(a - b) else a - b)], .tup [.int (a + b + 1), .int (mx + 1)]]) (v2 := .ow [.int (a * a / 4), .int (a * (a + 1) / 2), .tup [.int (a + b), .int (if a - b < 0 then -(a - b) else a - b)], .tup [.int (a + b + 1), .int (mx + 1)]]) rfl rfl
  unfold drawTwo at hc
  unfold f28 DefE.fn fnOf
  simp [d28, entry, locOf, List.replicate, hr, wipeE] at hc ⊢
  simp [hc, backE, hmx, hmn, m1, v1, m2, v2, qf, tf, en, sh, sm', pw, l, l2, l3, elo, eh, hi, bt, sm2, e1, e2, e3, mm, eq, q5]
theorem tri (h lo : Int) : h * (h + 1) / 2 + (lo - 1) * (lo - 1 + 1) / 2 - (h - lo) * (h - lo + 1) / 2 = h * lo := by
  have ev : ∀ n : Int, 2 * (n * (n + 1) / 2) = n * (n + 1) := fun n => by
    have : n * (n + 1) % 2 = 0 := by
      have e : n * (n + 1) = n * n + n := by grind
      rcases Int.emod_two_eq n with h | h <;> rw [Int.mul_emod, Int.add_emod, h] <;> rfl
    omega
  have a := ev h
  have b := ev (lo - 1)
  have c := ev (h - lo)
  have e : h * (h + 1) + (lo - 1) * (lo - 1 + 1) - (h - lo) * (h - lo + 1) = 2 * (h * lo) := by grind
  omega
end K23

set_option linter.all false
set_option maxHeartbeats 2000000
namespace K23
open PySem RB
theorem fine_int {i : Int} (h0 : -(10 ^ 30) ≤ i) (h1 : i ≤ 10 ^ 30) : D.fine (.int i) = true := by
  simp only [D.fine, decide_eq_true_eq]
  omega
theorem sq_bd {a b : Int} (h0 : 0 ≤ a) (h1 : a ≤ 1000000000001) (h2 : 0 ≤ b) (h3 : b ≤ 1000000000001) : 0 ≤ a * b ∧ a * b ≤ 10 ^ 26 := by
  refine ⟨Int.mul_nonneg h0 h2, ?_⟩
  have := Int.mul_le_mul h1 h3 h2 (by omega)
  omega
theorem numbers_hold {S : List D} (h : Wf S) : ∃ S', Wf S' ∧ f28 [.ow S] = .ok (.im (.bl true), [some (.ow S')]) := by
  obtain ⟨a, S1, a0, a1, w1, e1⟩ := nturn (k := 0) h
  obtain ⟨b, S2, b0, b1, w2, e2⟩ := nturn (k := 1) w1
  refine ⟨S2, w2, ?_⟩
  have hc : compL (compF FF28 [9] (.v 9) .none drawTwo) [.int 0, .int 1] (env28 S) = .ok ([.int a, .int b], env28 S2) := by
    simp only [compL, e1, e2, R.bind_ok]
  have hmx : biD .max [.lst [.int a, .int b]] = some (.im (.int (max a b))) := rfl
  have hmn : biD .min [.lst [.int a, .int b]] = some (.im (.int (min a b))) := rfl
  have sh := shortest a0 a1 b0 b1
  have emx : (if b > a then b else a) = max a b := by split <;> omega
  rw [emx] at sh
  have q1 := sq_bd a0 (by omega) a0 (by omega)
  have q2 := sq_bd a0 (by omega) (show 0 ≤ a + 1 by omega) (by omega)
  have fd : Fine (.lst [.int (a * a / 4), .int (a * (a + 1) / 2), .tup [.int (a + b), .int (if a - b < 0 then -(a - b) else a - b)], .tup [.int (a + b + 1), .int (max a b + 1)]]) := by
    refine fine_of ?_ (by simp [D.wt, D.wts]) (by simp [D.dep, D.deps])
    generalize hx : a * a / 4 = x at *
    generalize hy : a * (a + 1) / 2 = y at *
    have f1 := fine_int (i := x) (by omega) (by omega)
    have f2 := fine_int (i := y) (by omega) (by omega)
    have f3 := fine_int (i := a + b) (by omega) (by omega)
    have f4 := fine_int (i := if a - b < 0 then -(a - b) else a - b) (by split <;> omega) (by split <;> omega)
    have f5 := fine_int (i := a + b + 1) (by omega) (by omega)
    have f6 := fine_int (i := max a b + 1) (by omega) (by omega)
    simp only [D.fine] at f1 f2 f3 f4 f5 f6
    simp only [D.fine, D.fines, f1, f2, f3, f4, f5, f6, Bool.and_self]
  by_cases hi : 1000000000000 < 1 + max a b
  · exact nhA hc hmx hmn (mulS (by omega)) div4 (mulS (by omega)) div2 (quarterF a0 a1) (triangular a0 a1) (entries a0 a1 b0 b1) sh (fun x y => sameF x y fd) hi
  · have fd2 : Fine (.tup [.int (1 + max a b), .int (1 + min a b - 1), .int (1 + max a b - (1 + min a b))]) := by
      refine fine_of ?_ (by simp [D.wt, D.wts]) (by simp [D.dep, D.deps])
      have f1 := fine_int (i := 1 + max a b) (by omega) (by omega)
      have f2 := fine_int (i := 1 + min a b - 1) (by omega) (by omega)
      have f3 := fine_int (i := 1 + max a b - (1 + min a b)) (by omega) (by omega)
      simp only [D.fine] at f1 f2 f3
      simp only [D.fine, D.fines, f1, f2, f3, Bool.and_self]
    exact nhB hc hmx hmn (mulS (by omega)) div4 (mulS (by omega)) div2 (quarterF a0 a1) (triangular a0 a1) (entries a0 a1 b0 b1) sh (fun x y => sameF x y fd) hi rfl rfl (by_triangles (by omega) (by omega) (by omega) (by omega)) (sameF rfl rfl fd2)
      (triangular (by omega) (by omega)) (triangular (by omega) (by omega)) (triangular (by omega) (by omega)) (mulS (by omega)) (tri _ _) (quarterF (by decide) (by decide))
end K23

set_option linter.all false
set_option maxHeartbeats 2000000
namespace K23
open PySem RB
noncomputable abbrev FF29 : Fns := Fl [f0, f1, f2, f3, f4, f5, f6, f7, f8, f9, f10, f11, f12, f13, f14, f15, f16, f17, f18, f19, f20, f21, f22, f23, f24, f25, f26, f27, f28]
def turnB : Ss := (.cons (.iff (.or_ (.not_ (.call 23 (.cons (.var 1) .nil) [])) (.not_ (.call 28 (.cons (.var 1) .nil) []))) (.cons (.ret (.lit (.bl false))) .nil) .nil) .nil)
theorem lturn {s : D} {S S1 S2 : List D} {k : Int} {x : Option Vl} (t : f23 [.ow S] = .ok (.im (.bl true), [some (.ow S1)])) (n : f28 [.ow S1] = .ok (.im (.bl true), [some (.ow S2)])) :
    forF FF29 (locOf 1 []) (.v 2) turnB (.int k) [some (.im s), some (.ow S), x, none, none] = .ok (.nx, [some (.im s), some (.ow S2), some (.im (.int k)), none, none]) := by
  simp [forF, turnB, t, n]
theorem law0 {s : D} {S S2 S3 S4 T : List D} {a b : Int} {x : Option Vl} (st : f0 [.im s] = .ok (.ow S, [some (.im s)]))
    (lp : forL (forF FF29 (locOf 1 []) (.v 2) turnB) [.int 0, .int 1, .int 2] [some (.im s), some (.ow S), none, none, none] = .ok (.nx, [some (.im s), some (.ow S2), x, none, none]))
    (da : f1 [.ow S2, .im (.int 30)] = .ok (.im (.int a), [some (.ow S3), some (.im (.int 30))])) (db : f1 [.ow S3, .im (.int 30)] = .ok (.im (.int b), [some (.ow S4), some (.im (.int 30))]))
    (tb : f16 [.im (.int 60)] = .ok (.im (.tup T), [some (.im (.int 60))])) (mm : bin .mul (.int a) (.int b) = some (.im (.int (a * b))))
    (ac : f8 [.im (.tup T), .im (.int a), .im (.int b), .im (.int (a * b))] = .ok (.im .non, [some (.im (.tup T)), some (.im (.int a)), some (.im (.int b)), some (.im (.int (a * b)))]))
    (pb : f9 [.im (.tup T), .im (.int a), .im (.int b)] = .ok (.im (.int (a * b)), [some (.im (.tup T)), some (.im (.int a)), some (.im (.int b))]))
    (sm : f2 [.im (.int (a * b)), .im (.int (a * b))] = .ok (.im (.bl true), [some (.im (.int (a * b))), some (.im (.int (a * b)))])) :
    f29 [.im s] = .ok (.im (.bl true), [some (.im s)]) := by
  have hr : rngOf [.int 3] = some [.int 0, .int 1, .int 2] := rfl
  have nn : cmpD .is_ .non .non = some true := rfl
  unfold turnB at lp
  unfold f29 DefE.fn fnOf
  simp [d29, entry, locOf, List.replicate, hr, st] at lp ⊢
  simp [lp, da, db, tb, mm, ac, pb, sm, nn]
theorem law_ok (th : ∀ S, Wf S → ∃ S', Wf S' ∧ f23 [.ow S] = .ok (.im (.bl true), [some (.ow S')])) (ns : List Int) : f29 [.im (.scr (ns.map D.int))] = .ok (.im (.bl true), [some (.im (.scr (ns.map D.int)))]) := by
  obtain ⟨S, w, st⟩ := startF ns
  have one : ∀ {S : List D} {k : Int} {x : Option Vl}, Wf S → ∃ S', Wf S' ∧ forF FF29 (locOf 1 []) (.v 2) turnB (.int k) [some (.im (.scr (ns.map D.int))), some (.ow S), x, none, none] = .ok (.nx, [some (.im (.scr (ns.map D.int))), some (.ow S'), some (.im (.int k)), none, none]) := fun {S k x} w => by
    obtain ⟨S1, w1, e1⟩ := th S w
    obtain ⟨S2, w2, e2⟩ := numbers_hold w1
    exact ⟨S2, w2, lturn e1 e2⟩
  obtain ⟨S1, w1, e1⟩ := one (k := 0) (x := none) w
  obtain ⟨S2, w2, e2⟩ := one (k := 1) (x := some (.im (.int 0))) w1
  obtain ⟨S3, w3, e3⟩ := one (k := 2) (x := some (.im (.int 1))) w2
  obtain ⟨a, S4, a0, a1, w4, da⟩ := drawF (m := 30) w3 (by decide) (.inl (by decide))
  obtain ⟨b, S5, b0, b1, w5, db⟩ := drawF (m := 30) w4 (by decide) (.inl (by decide))
  obtain ⟨a, rfl⟩ := Int.eq_ofNat_of_zero_le a0
  obtain ⟨b, rfl⟩ := Int.eq_ofNat_of_zero_le b0
  have lp : forL (forF FF29 (locOf 1 []) (.v 2) turnB) [.int 0, .int 1, .int 2] [some (.im (.scr (ns.map D.int))), some (.ow S), none, none, none] = .ok (.nx, [some (.im (.scr (ns.map D.int))), some (.ow S3), some (.im (.int 2)), none, none]) := by
    simp only [forL, e1, e2, e3, R.bind_ok]
  have q := sq_bd (a := a) (b := b) (by omega) (by omega) (by omega) (by omega)
  have fd : Fine (.int ((a : Int) * b)) := fine_of (fine_int (by omega) (by omega)) (by simp [D.wt]) (by simp [D.dep])
  exact law0 st lp da db (table (m := 60) (by decide)) (mulS (by omega)) (accept_product (n := 61) (by omega) (by decide)) (product_by (n := 61) (by omega) (by decide)) (sameF rfl rfl fd)
end K23

set_option linter.all false
set_option maxHeartbeats 2000000
namespace K23
open PySem RB
/-- the entry at k -/
def rd (r : List Int) (k : Nat) : Int := r.getD k 0
theorem rd_get {r : List Int} {k : Nat} (h : k < r.length) : r[k] = rd r k := by simp [rd, h]
theorem ixR {r : List Int} {k : Nat} (h : k < r.length) : ixD (.tup (r.map D.int)) (.int (k : Int)) = some (.int (rd r k)) := by rw [ixI h, rd_get h]
theorem ixRL {r : List Int} {k : Nat} (h : k < r.length) : ixD (.lst (r.map D.int)) (.int (k : Int)) = some (.int (rd r k)) := by
  rw [ix_nat (by simpa using h), ← rd_get h]; simp
structure Tabl (r : List Int) : Prop where
  l0 : 0 < r.length
  l1 : r.length ≤ 1001
  nn : ∀ n ∈ r, 0 ≤ n
theorem check_tab {r : List Int} (h : Tabl r) : f5 [.im (.tup (r.map D.int))] = .ok (.im .non, [some (.im (.tup (r.map D.int)))]) := by
  have := is_table h.l0 h.l1 h.nn
  unfold f5 DefE.fn fnOf
  simp [d5, entry, locOf, this]
noncomputable abbrev F20 : Fns := Fl [f0, f1, f2, f3, f4, f5, f6, f7, f8, f9, f10, f11, f12, f13, f14, f15, f16, f17, f18, f19]
def stB : E := (.bin .sub (.ix (.var 0) (.bin .add (.var 1) (.lit (.int 1)))) (.ix (.var 0) (.var 1)))
theorem st1 {F : Fns} {T : List D} {k p q : Int} (i1 : ixD (.tup T) (.int (k + 1)) = some (.int p)) (i2 : ixD (.tup T) (.int k) = some (.int q)) :
    compF F [1] (.v 1) .none stB (.int k) [some (.im (.tup T)), none] = .ok (some (.int (p - q)), [some (.im (.tup T)), none]) := by
  simp [compF, stB, i1, i2, wipeE]
theorem st0 {T xs ys : List D} (ck : f5 [.im (.tup T)] = .ok (.im .non, [some (.im (.tup T))])) (hr : rngOf [.int ((T.length : Int) - 1)] = some xs) (hc : compL (compF F20 [1] (.v 1) .none stB) xs [some (.im (.tup T)), none] = .ok (ys, [some (.im (.tup T)), none])) (l : ys.length ≤ listLim) :
    f20 [.im (.tup T)] = .ok (.im (.tup ys), [some (.im (.tup T))]) := by
  unfold stB at hc
  unfold f20 DefE.fn fnOf
  simp [d20, entry, locOf, ck, hr, wipeE, backE] at hc ⊢
  simp [hc, l, biD]
theorem steps {r : List Int} (h : Tabl r) : f20 [.im (.tup (r.map D.int))] = .ok (.im (.tup ((List.range (r.length - 1)).map fun k => .int (rd r (k + 1) - rd r k))), [some (.im (.tup (r.map D.int)))]) := by
  have l0 := h.l0
  have l1 := h.l1
  refine st0 (xs := (List.range (r.length - 1)).map fun k : Nat => D.int k) (check_tab h) (rng1 (by rw [List.length_map]; omega) (by omega)) ?_ (lim_ok (by simp; omega))
  rw [compL_on (g := fun k : Nat => some (.int (rd r (k + 1) - rd r k)))]
  · simp
  · intro k hk
    have hk : k < r.length - 1 := by simpa using hk
    exact st1 (by have := ixR (r := r) (k := k + 1) (by omega); push_cast at this; exact this) (ixR (by omega))
theorem enum_range {r : List Int} : enumFrom 0 (r.map D.int) = (List.range r.length).map fun k : Nat => D.tup [.int k, .int (rd r k)] := by
  apply List.ext_getElem?
  intro i
  by_cases hi : i < r.length
  · have h1 : i < (enumFrom 0 (r.map D.int)).length := by rw [enum_len]; simpa using hi
    obtain ⟨x, e1, e2⟩ := enum_get (List.getElem?_eq_getElem h1)
    rw [List.getElem?_eq_getElem h1, e2]
    rw [List.getElem?_map, List.getElem?_eq_getElem hi] at e1
    simp at e1
    subst e1
    simp [hi, rd]
  · rw [List.getElem?_eq_none (by rw [enum_len]; simpa using hi), List.getElem?_eq_none (by simpa using hi)]
def faB : E := (.tup (.cons (.var 1) (.cons (.bin .sub (.var 2) (.bin .fdiv (.bin .mul (.var 1) (.var 1)) (.lit (.int 4)))) .nil)))
def faC : E := (.cmp .ne (.var 2) (.bin .fdiv (.bin .mul (.var 1) (.var 1)) (.lit (.int 4))))
noncomputable abbrev F18 : Fns := Fl [f0, f1, f2, f3, f4, f5, f6, f7, f8, f9, f10, f11, f12, f13, f14, f15, f16, f17]
theorem fa1 {F : Fns} {t : D} {k e : Int} (m : bin .mul (.int k) (.int k) = some (.im (.int (k * k)))) (v : bin .fdiv (.int (k * k)) (.int 4) = some (.im (.int (k * k / 4)))) :
    compF F [1, 2] (.t [.v 1, .v 2]) (.some faC) faB (.tup [.int k, .int e]) [some (.im t), none, none] = .ok (if e = k * k / 4 then none else some (.tup [.int k, .int (e - k * k / 4)]), [some (.im t), none, none]) := by
  have l : 2 ≤ listLim := lim_ok (by omega)
  by_cases h : e = k * k / 4
  · rw [if_pos h]
    simp [compF, faB, faC, m, v, wipeE, h]
  · rw [if_neg h]
    simp [compF, faB, faC, m, v, wipeE, h, l]
end K23

set_option linter.all false
set_option maxHeartbeats 2000000
namespace K23
open PySem RB
/-- the entries that are wrong -/
def wrongs (r : List Int) : List D := (List.range r.length).filterMap fun k => if rd r k = sq k then none else some (.tup [.int k, .int (rd r k - sq k)])
theorem wrongs_len {r : List Int} : (wrongs r).length ≤ r.length := by
  have := List.length_filterMap_le (fun k => if rd r k = sq k then none else some (D.tup [.int k, .int (rd r k - sq k)])) (List.range r.length)
  rw [List.length_range] at this
  exact this
theorem fa0 {T ys : List D} (ck : f5 [.im (.tup T)] = .ok (.im .non, [some (.im (.tup T))])) (hc : compL (compF F18 [1, 2] (.t [.v 1, .v 2]) (.some faC) faB) (enumFrom 0 T) [some (.im (.tup T)), none, none] = .ok (ys, [some (.im (.tup T)), none, none])) (l : ys.length ≤ listLim) :
    f18 [.im (.tup T)] = .ok (.im (.tup ys), [some (.im (.tup T))]) := by
  unfold faB faC at hc
  unfold f18 DefE.fn fnOf
  simp [d18, entry, locOf, ck, wipeE, backE, items, List.replicate] at hc ⊢
  simp [hc, l, biD]
theorem faults {r : List Int} (h : Tabl r) : f18 [.im (.tup (r.map D.int))] = .ok (.im (.tup (wrongs r)), [some (.im (.tup (r.map D.int)))]) := by
  have l1 := h.l1
  refine fa0 (check_tab h) ?_ (lim_ok (by have := wrongs_len (r := r); omega))
  rw [enum_range, compL_on (g := fun k : Nat => if rd r k = sq k then none else some (.tup [.int k, .int (rd r k - sq k)]))]
  · rfl
  · intro k hk
    have hk : k < r.length := by simpa using hk
    exact fa1 (mulS (by omega)) div4
noncomputable abbrev F19 : Fns := Fl [f0, f1, f2, f3, f4, f5, f6, f7, f8, f9, f10, f11, f12, f13, f14, f15, f16, f17, f18]
def meB : E := (.bin .fdiv (.bin .mul (.var 2) (.var 2)) (.lit (.int 4)))
theorem me1 {F : Fns} {t u : Option Vl} {k : Int} (m : bin .mul (.int k) (.int k) = some (.im (.int (k * k)))) (v : bin .fdiv (.int (k * k)) (.int 4) = some (.im (.int (k * k / 4)))) :
    compF F [2] (.v 2) .none meB (.int k) [t, u, none] = .ok (some (.int (k * k / 4)), [t, u, none]) := by
  simp [compF, meB, m, v, wipeE]
theorem meA {T W : List D} (fa : f18 [.im (.tup T)] = .ok (.im (.tup W), [some (.im (.tup T))])) : exec F19 (locOf 1 []) (.set 1 (.call 18 (.cons (.var 0) .nil) [])) [some (.im (.tup T)), none, none] = .ok (.nx, [some (.im (.tup T)), some (.im (.tup W)), none]) := by
  have e : F19 18 = f18 := rfl
  generalize F19 = G at e
  simp [e, fa]
theorem meC {G : Fns} {T W xs ys : List D} {n : Int} (hn : biD .len [.tup T] = some (.im (.int n))) (hr : rngOf [.int n] = some xs) (hc : compL (compF G [2] (.v 2) .none meB) xs [some (.im (.tup T)), some (.im (.tup W)), none] = .ok (ys, [some (.im (.tup T)), some (.im (.tup W)), none])) (l : ys.length ≤ listLim) :
    ev G (.comp [2] (.v 2) (.rng (.cons (.bi .len (.cons (.var 0) .nil)) .nil)) .none meB) [some (.im (.tup T)), some (.im (.tup W)), none] = .ok (.tm ys, [some (.im (.tup T)), some (.im (.tup W)), none]) := by
  simp [-bi_lenT, hn, hr, wipeE, backE, hc, l]
theorem x1 {G : Fns} {T W : List D} {w : Int} (hw : biD .len [.tup W] = some (.im (.int w))) : ev G (.bi .len (.cons (.var 1) .nil)) [some (.im (.tup T)), some (.im (.tup W)), none] = .ok (.im (.int w), [some (.im (.tup T)), some (.im (.tup W)), none]) := by
  simp [-bi_lenT, hw]
theorem x2 {G : Fns} {ys : List D} {c : E} {env env' : RB.Env} (ht : biD .tuple [.lst ys] = some (.im (.tup ys))) (hc : ev G c env = .ok (.tm ys, env')) : ev G (.bi .tuple (.cons c .nil)) env = .ok (.im (.tup ys), env') := by
  simp [hc, ht]
theorem x3 {G : Fns} {p q : D} {c e : E} {env : RB.Env} (l2 : 2 ≤ listLim) (hc : ev G c env = .ok (.im p, env)) (he : ev G e env = .ok (.im q, env)) : ev G (.tup (.cons c (.cons e .nil))) env = .ok (.im (.tup [p, q]), env) := by
  simp [hc, he, l2]
theorem x4 {G : Fns} {p : D} {c : E} {env : RB.Env} {loc : Nat → Bool} (hc : ev G c env = .ok (.im p, env)) : exec G loc (.ret c) env = .ok (.rt (.im p), env) := by
  simp [hc]
theorem meD {G : Fns} {T W ys : List D} {w : Int} {c : E} (hw : biD .len [.tup W] = some (.im (.int w))) (hc : ev G c [some (.im (.tup T)), some (.im (.tup W)), none] = .ok (.tm ys, [some (.im (.tup T)), some (.im (.tup W)), none])) :
    exec G (locOf 1 []) (.ret (.tup (.cons (.bi .tuple (.cons c .nil)) (.cons (.bi .len (.cons (.var 1) .nil)) .nil)))) [some (.im (.tup T)), some (.im (.tup W)), none] = .ok (.rt (.im (.tup [.tup ys, .int w])), [some (.im (.tup T)), some (.im (.tup W)), none]) :=
  x4 (x3 (lim_ok (by omega)) (x2 rfl hc) (x1 hw))
theorem fn_rt {F : Fns} {np slots : Nat} {lost : List Nat} {body : Ss} {vs : List Vl} {v : Vl} {e0 env' o : RB.Env} (hl : vs.length = np) (he : entry (locOf np lost) 0 vs ++ List.replicate (slots - np) none = e0) (h : execs F (locOf np lost) body e0 = .ok (.rt v, env')) (ho : outs (locOf np lost) np env' = o) : fnOf F np slots lost body vs = .ok (v, o) := by
  unfold fnOf
  rw [if_pos hl, he, h, ← ho]
  rfl
theorem exs2 {F : Fns} {loc : Nat → Bool} {s1 s2 : S} {e0 e1 e2 : RB.Env} {v : Vl} (a : exec F loc s1 e0 = .ok (.nx, e1)) (b : exec F loc s2 e1 = .ok (.rt v, e2)) : execs F loc (.cons s1 (.cons s2 .nil)) e0 = .ok (.rt v, e2) := by
  rw [exs_c, a]
  simp only [R.bind_ok]
  rw [exs_c, b]
  rfl
theorem me0 {T W xs ys : List D} {n w : Int} (hn : biD .len [.tup T] = some (.im (.int n))) (hw : biD .len [.tup W] = some (.im (.int w))) (fa : f18 [.im (.tup T)] = .ok (.im (.tup W), [some (.im (.tup T))])) (hr : rngOf [.int n] = some xs) (hc : compL (compF F19 [2] (.v 2) .none meB) xs [some (.im (.tup T)), some (.im (.tup W)), none] = .ok (ys, [some (.im (.tup T)), some (.im (.tup W)), none])) (l : ys.length ≤ listLim) :
    f19 [.im (.tup T)] = .ok (.im (.tup [.tup ys, .int w]), [some (.im (.tup T))]) := by
  have c := exs2 (meA fa) (meD hw (meC hn hr hc l))
  have r := fn_rt (np := 1) (slots := 3) (lost := []) (vs := [.im (.tup T)]) (o := [some (.im (.tup T))]) rfl rfl c out1
  exact r
theorem mended {r : List Int} (h : Tabl r) : f19 [.im (.tup (r.map D.int))] = .ok (.im (.tup [.tup ((good r.length).map D.int), .int (wrongs r).length]), [some (.im (.tup (r.map D.int)))]) := by
  have l1 := h.l1
  refine me0 (xs := (List.range r.length).map fun k : Nat => D.int k) bi_lenT bi_lenT (faults h) (rng1 (m := r.length) (by rw [List.length_map]) (by omega)) ?_ (lim_ok (by simp [good_len]; omega))
  rw [compL_on (g := fun k : Nat => some (.int (sq k)))]
  · simp [good, sq, Function.comp_def]
  · intro k hk
    have hk : k < r.length := by simpa using hk
    exact me1 (mulS (by omega)) div4
noncomputable abbrev F17 : Fns := Fl [f0, f1, f2, f3, f4, f5, f6, f7, f8, f9, f10, f11, f12, f13, f14, f15, f16]
def juB : Ss := (.cons (.iff (.cmp .ne (.var 2) (.bin .fdiv (.bin .mul (.var 1) (.var 1)) (.lit (.int 4)))) (.cons (.ret (.tup (.cons (.lit (.str "wrong")) (.cons (.var 1) .nil)))) .nil) .nil) .nil)
/-- what judge_table says -/
def judged : List D → D
  | .tup [k, _] :: _ => .tup [.str "wrong", k]
  | _ => .tup [.str "right"]
theorem ju1 {F : Fns} {t : D} {x y : Option Vl} {k e : Int} (m : bin .mul (.int k) (.int k) = some (.im (.int (k * k)))) (v : bin .fdiv (.int (k * k)) (.int 4) = some (.im (.int (k * k / 4)))) :
    forF F (locOf 1 []) (.t [.v 1, .v 2]) juB (.tup [.int k, .int e]) [some (.im t), x, y] = .ok (if e = k * k / 4 then .nx else .rt (.im (.tup [.str "wrong", .int k])), [some (.im t), some (.im (.int k)), some (.im (.int e))]) := by
  have l : 2 ≤ listLim := lim_ok (by omega)
  by_cases h : e = k * k / 4
  · rw [if_pos h]
    simp [forF, juB, m, v, h]
  · rw [if_neg h]
    simp [forF, juB, m, v, h, l]
theorem juL {F : Fns} {t : D} : ∀ {ks : List (Nat × Int)} {x y : Option Vl}, (∀ k ∈ ks, k.1 < 1001) → ∃ x' y', forL (forF F (locOf 1 []) (.t [.v 1, .v 2]) juB) (ks.map fun k => D.tup [.int k.1, .int k.2]) [some (.im t), x, y] =
    .ok (match ks.filterMap (fun k => if k.2 = sq k.1 then none else some (D.tup [.int k.1, .int (k.2 - sq k.1)])) with
      | .tup [k, _] :: _ => .rt (.im (.tup [.str "wrong", k]))
      | _ => .nx, [some (.im t), x', y'])
  | [], x, y, _ => ⟨x, y, rfl⟩
  | k :: ks, x, y, h => by
    obtain ⟨x', y', e⟩ := juL (F := F) (t := t) (ks := ks) (x := some (.im (.int k.1))) (y := some (.im (.int k.2))) fun k hk => h k (List.mem_cons_of_mem _ hk)
    have hk := h k List.mem_cons_self
    have e1 := ju1 (F := F) (t := t) (x := x) (y := y) (k := k.1) (e := k.2) (mulS (by omega)) div4
    by_cases q : k.2 = sq k.1
    · refine ⟨x', y', ?_⟩
      have q' : k.2 = (k.1 : Int) * k.1 / 4 := q
      rw [if_pos q'] at e1
      simp only [List.map_cons, forL, e1, R.bind_ok, List.filterMap_cons, if_pos q]
      exact e
    · refine ⟨some (.im (.int k.1)), some (.im (.int k.2)), ?_⟩
      have q' : ¬ k.2 = (k.1 : Int) * k.1 / 4 := q
      rw [if_neg q'] at e1
      simp only [List.map_cons, forL, e1, R.bind_ok, List.filterMap_cons, if_neg q]
end K23

set_option linter.all false
set_option maxHeartbeats 2000000
namespace K23
open PySem RB
theorem exs3 {F : Fns} {loc : Nat → Bool} {s : S} {ss : Ss} {e0 e1 : RB.Env} {r : R (Ctl × RB.Env)} (a : exec F loc s e0 = .ok (.nx, e1)) (b : execs F loc ss e1 = r) : execs F loc (.cons s ss) e0 = r := by
  rw [exs_c, a]
  exact b
theorem exsR {F : Fns} {loc : Nat → Bool} {s : S} {ss : Ss} {e0 e1 : RB.Env} {v : Vl} (a : exec F loc s e0 = .ok (.rt v, e1)) : execs F loc (.cons s ss) e0 = .ok (.rt v, e1) := by
  rw [exs_c, a]
  rfl
theorem exF {F : Fns} {loc : Nat → Bool} {tg : Tg} {it : Iter} {b : Ss} {e0 e1 : RB.Env} {xs : List D} {r : R (Ctl × RB.Env)} (a : evI F it e0 = .ok (xs, e1)) (h : forL (forF F loc tg b) xs e1 = r) : exec F loc (.forr tg it b) e0 = r := by
  rw [ex_for, a]
  exact h
theorem dropC {F : Fns} {loc : Nat → Bool} {T : List D} {a b : Option Vl} (ck : F 5 [.im (.tup T)] = .ok (.im .non, [some (.im (.tup T))])) : exec F loc (.drop (.call 5 (.cons (.var 0) .nil) [])) [some (.im (.tup T)), a, b] = .ok (.nx, [some (.im (.tup T)), a, b]) := by
  simp [ck]
theorem enumV {F : Fns} {T : List D} {a b : Option Vl} : evI F (.enum (.var 0)) [some (.im (.tup T)), a, b] = .ok (enumFrom 0 T, [some (.im (.tup T)), a, b]) := by
  simp [items]
theorem retRight {F : Fns} {loc : Nat → Bool} {env : RB.Env} : exec F loc (.ret (.tup (.cons (.lit (.str "right")) .nil))) env = .ok (.rt (.im (.tup [.str "right"])), env) := by
  have l : 1 ≤ listLim := lim_ok (by omega)
  simp [l]
def pairs (r : List Int) : List (Nat × Int) := (List.range r.length).map fun k => (k, rd r k)
theorem pairs_enum {r : List Int} : enumFrom 0 (r.map D.int) = (pairs r).map fun k => D.tup [.int k.1, .int k.2] := by
  rw [enum_range]
  simp [pairs, Function.comp_def]
theorem pairs_wrong {r : List Int} : (pairs r).filterMap (fun k => if k.2 = sq k.1 then none else some (D.tup [.int k.1, .int (k.2 - sq k.1)])) = wrongs r := by
  simp [pairs, wrongs, List.filterMap_map, Function.comp_def]
theorem judge {r : List Int} (h : Tabl r) : f17 [.im (.tup (r.map D.int))] = .ok (.im (judged (wrongs r)), [some (.im (.tup (r.map D.int)))]) := by
  have l1 := h.l1
  obtain ⟨x, y, e⟩ := juL (F := F17) (t := .tup (r.map D.int)) (ks := pairs r) (x := none) (y := none) fun k hk => by
    simp [pairs] at hk
    obtain ⟨a, ha, rfl⟩ := hk
    show a < 1001
    omega
  rw [pairs_wrong, ← pairs_enum] at e
  have d := dropC (F := F17) (loc := locOf 1 []) (a := none) (b := none) (check_tab h)
  have f := exF (tg := .t [.v 1, .v 2]) (b := juB) (F := F17) (loc := locOf 1 []) (enumV (T := r.map D.int) (a := none) (b := none)) e
  have hw : wrongs r = [] ∨ ∃ k q rest, wrongs r = .tup [k, q] :: rest := by
    cases hh : wrongs r with
    | nil => exact .inl rfl
    | cons z rest =>
      have : z ∈ wrongs r := by rw [hh]; exact List.mem_cons_self
      obtain ⟨k, _, hk⟩ := List.mem_filterMap.mp this
      split at hk
      · cases hk
      · cases hk
        exact .inr ⟨_, _, _, rfl⟩
  rcases hw with hw | ⟨k, q, rest, hw⟩
  · rw [hw] at f ⊢
    have c := exs3 d (exs3 f (exsR (ss := .nil) retRight))
    exact fn_rt (np := 1) (slots := 3) (lost := []) (vs := [.im (.tup (r.map D.int))]) (o := [some (.im (.tup (r.map D.int)))]) rfl rfl c out1
  · rw [hw] at f ⊢
    have c := exs3 d (exsR (ss := .cons (.ret (.tup (.cons (.lit (.str "right")) .nil))) .nil) f)
    exact fn_rt (np := 1) (slots := 3) (lost := []) (vs := [.im (.tup (r.map D.int))]) (o := [some (.im (.tup (r.map D.int)))]) rfl rfl c out1
end K23

set_option linter.all false
set_option maxHeartbeats 2000000
namespace K23
open PySem RB
/-- a loop that only adds to a list -/
theorem forL_acc {α : Type} {f : D → RB.Env → R (Ctl × RB.Env)} {mk : List D → Option Vl → RB.Env} {d : α → D} {g : α → List D} : ∀ {xs : List α} {acc : List D} {y : Option Vl}, (acc ++ xs.flatMap g).length ≤ 100000 →
    (∀ x ∈ xs, ∀ acc y, acc.length + (g x).length ≤ 100000 → ∃ y', f (d x) (mk acc y) = .ok (.nx, mk (acc ++ g x) y')) → ∃ y', forL f (xs.map d) (mk acc y) = .ok (.nx, mk (acc ++ xs.flatMap g) y')
  | [], acc, y, _, _ => ⟨y, by simp⟩
  | x :: xs, acc, y, hl, h => by
    simp only [List.flatMap_cons, List.length_append] at hl
    obtain ⟨y1, e1⟩ := h x List.mem_cons_self acc y (by omega)
    obtain ⟨y2, e2⟩ := forL_acc (xs := xs) (acc := acc ++ g x) (y := y1) (by simp only [List.length_append]; omega) fun z hz => h z (List.mem_cons_of_mem _ hz)
    refine ⟨y2, ?_⟩
    simp only [List.map_cons, forL, e1, R.bind_ok, List.flatMap_cons]
    rw [← List.append_assoc]
    exact e2
def beB : Ss := (.cons (.iff (.cmp .ne (.bin .add (.bin .sub (.ix (.var 0) (.bin .add (.var 2) (.lit (.int 1)))) (.bin .mul (.lit (.int 2)) (.ix (.var 0) (.var 2)))) (.ix (.var 0) (.bin .sub (.var 2) (.lit (.int 1))))) (.bin .mod (.var 2) (.lit (.int 2)))) (.cons (.app 1 (.var 2)) .nil) .nil) .nil)
theorem be1 {F : Fns} {T acc : List D} {x : Option Vl} {k p q s : Int} (i1 : ixD (.tup T) (.int (k + 1)) = some (.int p)) (i2 : ixD (.tup T) (.int k) = some (.int q)) (i3 : ixD (.tup T) (.int (k - 1)) = some (.int s)) (m : bin .mul (.int 2) (.int q) = some (.im (.int (2 * q)))) (md : bin .mod (.int k) (.int 2) = some (.im (.int (k % 2)))) (l : acc.length < listLim) :
    forF F (locOf 1 []) (.v 2) beB (.int k) [some (.im (.tup T)), some (.ow acc), x] = .ok (.nx, [some (.im (.tup T)), some (.ow (acc ++ if p - 2 * q + s = k % 2 then [] else [.int k])), some (.im (.int k))]) := by
  by_cases h : p - 2 * q + s = k % 2
  · rw [if_pos h]
    simp [forF, beB, i1, i2, i3, m, md, h]
  · rw [if_neg h]
    simp [forF, beB, i1, i2, i3, m, md, h, l]
/-- where it bends otherwise -/
def bent (r : List Int) : List D := (List.range (r.length - 2)).flatMap fun k => if rd r (k + 2) - 2 * rd r (k + 1) + rd r k = ((k + 1 : Nat) : Int) % 2 then [] else [.int ((k + 1 : Nat) : Int)]
theorem rng2' {a b : Int} {m : Nat} (h : (b - a).toNat = m) (ha : -1000000 ≤ a) (ha' : a < 1000000) (hb : -1000000 ≤ b) (hb' : b < 1000000) : rngOf [.int a, .int b] = some ((List.range m).map fun k : Nat => D.int (a + k)) := by
  rw [rngOf_2, if_pos (by omega), h]
theorem flat_le {α β : Type} {g : α → List β} (h : ∀ x, (g x).length ≤ 1) : ∀ l : List α, (l.flatMap g).length ≤ l.length
  | [] => by simp
  | x :: l => by
    have a := h x
    have b := flat_le h l
    simp only [List.flatMap_cons, List.length_append, List.length_cons]
    omega
noncomputable abbrev F21 : Fns := Fl [f0, f1, f2, f3, f4, f5, f6, f7, f8, f9, f10, f11, f12, f13, f14, f15, f16, f17, f18, f19, f20]
theorem setNil {F : Fns} {loc : Nat → Bool} {a : Option Vl} {b : Option Vl} : exec F loc (.set 1 (.lst .nil)) [a, none, b] = .ok (.nx, [a, some (.ow []), b]) := by
  have l : 0 ≤ listLim := Nat.zero_le _
  simp
theorem rngV {F : Fns} {T : List D} {xs : List D} {a b : Option Vl} {n : Int} (hn : biD .len [.tup T] = some (.im (.int n))) (hr : rngOf [.int 1, .int (n - 1)] = some xs) : evI F (.rng (.cons (.lit (.int 1)) (.cons (.bin .sub (.bi .len (.cons (.var 0) .nil)) (.lit (.int 1))) .nil))) [some (.im (.tup T)), a, b] = .ok (xs, [some (.im (.tup T)), a, b]) := by
  simp [-bi_lenT, hn, hr]
theorem retTup {F : Fns} {t x : Option Vl} {ys : List D} : exec F (locOf 1 []) (.ret (.bi .tuple (.cons (.var 1) .nil))) [t, some (.ow ys), x] = .ok (.rt (.im (.tup ys)), [t, some (.ow ys), x]) := by
  have ht : biD .tuple [.lst ys] = some (.im (.tup ys)) := rfl
  simp [ht]
theorem bends {r : List Int} (h : Tabl r) (hb : ∀ n ∈ r, n ≤ 1000000000) : f21 [.im (.tup (r.map D.int))] = .ok (.im (.tup (bent r)), [some (.im (.tup (r.map D.int)))]) := by
  have l0 := h.l0
  have l1 := h.l1
  have bl : (bent r).length ≤ r.length := by
    have := flat_le (g := fun k => if rd r (k + 2) - 2 * rd r (k + 1) + rd r k = ((k + 1 : Nat) : Int) % 2 then [] else [D.int ((k + 1 : Nat) : Int)]) (fun x => by split <;> simp) (List.range (r.length - 2))
    rw [List.length_range] at this
    unfold bent
    omega
  have rb : ∀ k, k < r.length → 0 ≤ rd r k ∧ rd r k ≤ 1000000000 := fun k hk => by
    rw [← rd_get hk]
    exact ⟨h.nn _ (List.getElem_mem hk), hb _ (List.getElem_mem hk)⟩
  obtain ⟨y, e⟩ := forL_acc (f := forF F21 (locOf 1 []) (.v 2) beB) (mk := fun acc y => [some (.im (.tup (r.map D.int))), some (.ow acc), y]) (d := fun k : Nat => D.int (1 + k)) (g := fun k => if rd r (k + 2) - 2 * rd r (k + 1) + rd r k = ((k + 1 : Nat) : Int) % 2 then [] else [.int ((k + 1 : Nat) : Int)]) (xs := List.range (r.length - 2)) (acc := []) (y := none)
    (by show (bent r).length ≤ _; omega) (by
      intro k hk acc y hl
      have hk : k < r.length - 2 := by simpa using hk
      have c2 : (1 + (k : Int) + 1) = ((k + 2 : Nat) : Int) := by omega
      have c1 : (1 + (k : Int)) = ((k + 1 : Nat) : Int) := by omega
      have c0 : (1 + (k : Int) - 1) = (k : Int) := by omega
      have b1 := rb (k + 1) (by omega)
      have := be1 (F := F21) (T := r.map D.int) (acc := acc) (x := y) (k := 1 + (k : Int)) (p := rd r (k + 2)) (q := rd r (k + 1)) (s := rd r k) (by rw [c2]; exact ixR (by omega)) (by rw [c1]; exact ixR (by omega)) (by rw [c0]; exact ixR (by omega)) (mulS (by omega)) (bin_modI (by decide)) (lim_lt (by omega))
      rw [c1] at this ⊢
      exact ⟨_, this⟩)
  rw [List.nil_append] at e
  have d := dropC (F := F21) (loc := locOf 1 []) (a := none) (b := none) (check_tab h)
  have rv := rngV (F := F21) (T := r.map D.int) (a := some (.ow [])) (b := none) bi_lenT (rng2' (m := r.length - 2) (by rw [List.length_map]; omega) (by omega) (by omega) (by rw [List.length_map]; omega) (by rw [List.length_map]; omega))
  have f := exF (tg := .v 2) (b := beB) (loc := locOf 1 []) rv e
  have c := exs3 d (exs3 setNil (exs3 f (exsR (ss := .nil) retTup)))
  exact fn_rt (np := 1) (slots := 3) (lost := []) (vs := [.im (.tup (r.map D.int))]) (o := [some (.im (.tup (r.map D.int)))]) rfl rfl c out1
end K23

set_option linter.all false
set_option maxHeartbeats 2000000
namespace K23
open PySem RB
theorem pbN {T : List D} {a b one other : Int} (hck : f5 [.im (.tup T)] = .ok (.im .non, [some (.im (.tup T))])) (hen : f7 [.im (.int a), .im (.int b)] = .ok (.im (.tup [.int one, .int other]), [some (.im (.int a)), some (.im (.int b))]))
    (hlt : ¬ one < T.length) : f9 [.im (.tup T), .im (.int a), .im (.int b)] = .ok (.im .non, [some (.im (.tup T)), some (.im (.int a)), some (.im (.int b))]) := by
  unfold f9 DefE.fn fnOf
  simp [d9, entry, locOf, hck, hen, hlt]
/-- product_by on any table -/
theorem product_any {r : List Int} {a b : Nat} (h : Tabl r) (ha : a ≤ 1000) (hb : b ≤ 1000) : f9 [.im (.tup (r.map D.int)), .im (.int a), .im (.int b)] = .ok (.im (if a + b < r.length then .int (rd r (a + b) - rd r (gap a b)) else .non), [some (.im (.tup (r.map D.int))), some (.im (.int a)), some (.im (.int b))]) := by
  by_cases hl : a + b < r.length
  · rw [if_pos hl]
    have hg : gap a b < r.length := by unfold gap; split <;> omega
    exact pb0 (check_tab h) (entriesN (by omega) (by omega)) (by rw [List.length_map]; omega) (ixR hl) (ixR hg)
  · rw [if_neg hl]
    exact pbN (check_tab h) (entriesN (by omega) (by omega)) (by rw [List.length_map]; omega)
end K23

set_option linter.all false
set_option maxHeartbeats 2000000
namespace K23
open PySem RB
/-- the pairs first, second with second no more than first -/
def pairL (p : Nat → Nat → Bool) (m : Nat) : List D := (List.range (m + 1)).flatMap fun i => (List.range (i + 1)).flatMap fun j => if p i j then [.tup [.int i, .int j]] else []
theorem pairL_len {p : Nat → Nat → Bool} {m : Nat} (h : m ≤ 40) : (pairL p m).length ≤ 2000 := by
  have inner : ∀ i, ((List.range (i + 1)).flatMap fun j => if p i j then [D.tup [.int i, .int j]] else []).length ≤ i + 1 := fun i => by
    have := flat_le (g := fun j => if p i j then [D.tup [.int (i : Int), .int (j : Int)]] else []) (fun x => by split <;> simp) (List.range (i + 1))
    rwa [List.length_range] at this
  have : ∀ (l : List Nat) (b : Nat), (∀ i ∈ l, i ≤ b) → (l.flatMap fun i => (List.range (i + 1)).flatMap fun j => if p i j then [D.tup [.int i, .int j]] else []).length ≤ l.length * (b + 1) := by
    intro l b
    induction l with
    | nil => intro _; simp
    | cons i l ih =>
      intro hb
      have a := inner i
      have c := ih fun j hj => hb j (List.mem_cons_of_mem _ hj)
      have d := hb i List.mem_cons_self
      simp only [List.flatMap_cons, List.length_append, List.length_cons, Nat.add_mul, Nat.one_mul]
      omega
  have q := this (List.range (m + 1)) 40 (fun i hi => by have : i < m + 1 := by simpa using hi
                                                         omega)
  rw [List.length_range] at q
  unfold pairL
  have : (m + 1) * 41 ≤ 2000 := by omega
  exact Nat.le_trans q this
end K23

set_option linter.all false
set_option maxHeartbeats 2000000
set_option maxRecDepth 100000
namespace K23
open PySem RB
theorem bl_ne {x y : Bool} : cmpD .ne (.bl x) (.bl y) = some (x != y) := by cases x <;> cases y <;> decide +kernel
/-- a loop that only adds to a list, whatever else changes -/
theorem forL_accB {α β : Type} {f : D → RB.Env → R (Ctl × RB.Env)} {mk : List D → β → RB.Env} {d : α → D} {g : α → List D} : ∀ {xs : List α} {acc : List D} {y : β}, (acc ++ xs.flatMap g).length ≤ 100000 →
    (∀ x ∈ xs, ∀ acc y, acc.length + (g x).length ≤ 100000 → ∃ y', f (d x) (mk acc y) = .ok (.nx, mk (acc ++ g x) y')) → ∃ y', forL f (xs.map d) (mk acc y) = .ok (.nx, mk (acc ++ xs.flatMap g) y')
  | [], acc, y, _, _ => ⟨y, by simp⟩
  | x :: xs, acc, y, hl, h => by
    simp only [List.flatMap_cons, List.length_append] at hl
    obtain ⟨y1, e1⟩ := h x List.mem_cons_self acc y (by omega)
    obtain ⟨y2, e2⟩ := forL_accB (xs := xs) (acc := acc ++ g x) (y := y1) (by simp only [List.length_append]; omega) fun z hz => h z (List.mem_cons_of_mem _ hz)
    refine ⟨y2, ?_⟩
    simp only [List.map_cons, forL, e1, R.bind_ok, List.flatMap_cons]
    rw [← List.append_assoc]
    exact e2
def twoE : E := (.tup (.cons (.var 3) (.cons (.var 4) .nil)))
def loB (c : E) : Ss := (.cons (.iff c (.cons (.app 2 twoE) .nil) .nil) .nil)
def rngB (i : Nat) : Iter := (.rng (.cons (.bin .add (.var i) (.lit (.int 1))) .nil))
def loO (c : E) : Ss := (.cons (.forr (.v 4) (rngB 3) (loB c)) .nil)
def two (p : Bool) (i j : Int) : List D := if p then [.tup [.int i, .int j]] else []
theorem lo1 {F : Fns} {loc : Nat → Bool} {c : E} {t m y : Option Vl} {acc : List D} {i j : Int} {b : Bool}
    (hc : ev F c [t, m, some (.ow acc), some (.im (.int i)), some (.im (.int j))] = .ok (.im (.bl b), [t, m, some (.ow acc), some (.im (.int i)), some (.im (.int j))])) (l : acc.length < listLim) :
    forF F loc (.v 4) (loB c) (.int j) [t, m, some (.ow acc), some (.im (.int i)), y] = .ok (.nx, [t, m, some (.ow (acc ++ two b i j)), some (.im (.int i)), some (.im (.int j))]) := by
  have l2 : 2 ≤ listLim := lim_ok (by omega)
  cases b
  · simp [forF, loB, hc, two]
  · simp [forF, loB, hc, two, twoE, l, l2]
theorem rg3 {F : Fns} {t m : Option Vl} {acc : Option Vl} {i : Int} {y : Option Vl} {xs : List D} (hr : rngOf [.int (i + 1)] = some xs) : evI F (rngB 3) [t, m, acc, some (.im (.int i)), y] = .ok (xs, [t, m, acc, some (.im (.int i)), y]) := by
  simp [rngB, hr]
theorem rg1 {F : Fns} {t x : Option Vl} {acc : Option Vl} {i : Int} {y : Option Vl} {xs : List D} (hr : rngOf [.int (i + 1)] = some xs) : evI F (rngB 1) [t, some (.im (.int i)), acc, x, y] = .ok (xs, [t, some (.im (.int i)), acc, x, y]) := by
  simp [rngB, hr]
/-- the row of i -/
def rowL (p : Nat → Nat → Bool) (i : Nat) : List D := (List.range (i + 1)).flatMap fun j => two (p i j) i j
theorem pairL_row {p : Nat → Nat → Bool} {m : Nat} : pairL p m = (List.range (m + 1)).flatMap (rowL p) := rfl
theorem row_len {p : Nat → Nat → Bool} {i : Nat} : (rowL p i).length ≤ i + 1 := by
  have := flat_le (g := fun j : Nat => two (p i j) i j) (fun x => by unfold two; split <;> simp) (List.range (i + 1))
  rwa [List.length_range] at this
theorem lo2 {F : Fns} {loc : Nat → Bool} {c : E} {t m : Option Vl} {p : Nat → Nat → Bool} {i : Nat} (hi : i ≤ 40)
    (hc : ∀ j acc, j ≤ i → ev F c [t, m, some (.ow acc), some (.im (.int i)), some (.im (.int j))] = .ok (.im (.bl (p i j)), [t, m, some (.ow acc), some (.im (.int i)), some (.im (.int j))]))
    (acc : List D) (y : Option Vl) (l : acc.length + (rowL p i).length ≤ 100000) :
    ∃ y', forL (forF F loc (.v 4) (loB c)) ((List.range (i + 1)).map fun j : Nat => D.int j) [t, m, some (.ow acc), some (.im (.int i)), y] = .ok (.nx, [t, m, some (.ow (acc ++ rowL p i)), some (.im (.int i)), y']) :=
  forL_accB (f := forF F loc (.v 4) (loB c)) (mk := fun acc y => [t, m, some (.ow acc), some (.im (.int i)), y]) (d := fun j : Nat => D.int j) (g := fun j : Nat => two (p i j) i j) (xs := List.range (i + 1)) (acc := acc) (y := y)
    (by simp only [List.length_append]; exact l) fun j hj acc y hl => by
      have hj : j < i + 1 := by simpa using hj
      by_cases hp : p i j = true
      · rw [hp] at hl
        exact ⟨_, lo1 (hc j acc (by omega)) (lim_lt (by simp [two] at hl; omega))⟩
      · have hp : p i j = false := by simpa using hp
        have h1 := hc j acc (by omega)
        rw [hp] at h1 ⊢
        refine ⟨some (.im (.int j)), ?_⟩
        simp [forF, loB, h1, two]
theorem lo3a {F : Fns} {loc : Nat → Bool} {c : E} {t m x y acc : Option Vl} {i : Int} {xs : List D} {e' : RB.Env} (hr : rngOf [.int (i + 1)] = some xs) (h : forL (forF F loc (.v 4) (loB c)) xs [t, m, acc, some (.im (.int i)), y] = .ok (.nx, e')) :
    forF F loc (.v 3) (loO c) (.int i) [t, m, acc, x, y] = .ok (.nx, e') := by
  have s := exs3 (ss := .nil) (exF (tg := .v 4) (b := loB c) (F := F) (loc := loc) (rg3 (F := F) (t := t) (m := m) (acc := acc) (y := y) hr) h) exs_n
  simp only [forF, asg_v, List.set, loO, R.of, R.bind_ok]
  exact s
theorem lo3 {F : Fns} {loc : Nat → Bool} {c : E} {t m : Option Vl} {p : Nat → Nat → Bool} {i : Nat} (hi : i ≤ 40)
    (hc : ∀ j acc, j ≤ i → ev F c [t, m, some (.ow acc), some (.im (.int i)), some (.im (.int j))] = .ok (.im (.bl (p i j)), [t, m, some (.ow acc), some (.im (.int i)), some (.im (.int j))]))
    (acc : List D) (x y : Option Vl) (l : acc.length + (rowL p i).length ≤ 100000) :
    ∃ y', forF F loc (.v 3) (loO c) (.int i) [t, m, some (.ow acc), x, y] = .ok (.nx, [t, m, some (.ow (acc ++ rowL p i)), some (.im (.int i)), y']) := by
  obtain ⟨y', e⟩ := lo2 (F := F) (loc := loc) (c := c) hi hc acc y l
  exact ⟨y', lo3a (rng1 (n := (i : Int) + 1) (m := i + 1) (by omega) (by omega)) e⟩
theorem pair_room {p : Nat → Nat → Bool} {m : Nat} (hm : m ≤ 40) : ([] ++ (List.range (m + 1)).flatMap (rowL p)).length ≤ 100000 := by
  have h : (pairL p m).length ≤ 2000 := pairL_len hm
  have e : [] ++ (List.range (m + 1)).flatMap (rowL p) = pairL p m := rfl
  have h2 : (2000 : Nat) ≤ 100000 := by omega
  exact e ▸ Nat.le_trans h h2
theorem lo4 {F : Fns} {loc : Nat → Bool} {c : E} {t mm : Option Vl} {p : Nat → Nat → Bool} {m : Nat} (hm : m ≤ 40)
    (hc : ∀ i j acc, i ≤ m → j ≤ i → ev F c [t, mm, some (.ow acc), some (.im (.int i)), some (.im (.int j))] = .ok (.im (.bl (p i j)), [t, mm, some (.ow acc), some (.im (.int i)), some (.im (.int j))])) :
    ∃ x' y', forL (forF F loc (.v 3) (loO c)) ((List.range (m + 1)).map fun j : Nat => D.int j) [t, mm, some (.ow []), none, none] = .ok (.nx, [t, mm, some (.ow (pairL p m)), x', y']) := by
  have step : ∀ i ∈ List.range (m + 1), ∀ (acc : List D) (y : Option Vl × Option Vl), acc.length + (rowL p i).length ≤ 100000 → ∃ y' : Option Vl × Option Vl, forF F loc (.v 3) (loO c) (D.int (i : Nat)) ((fun acc (y : Option Vl × Option Vl) => [t, mm, some (.ow acc), y.1, y.2]) acc y) = .ok (.nx, (fun acc (y : Option Vl × Option Vl) => [t, mm, some (.ow acc), y.1, y.2]) (acc ++ rowL p i) y') := by
    intro i hi acc y hl
    have hi : i < m + 1 := List.mem_range.mp hi
    obtain ⟨y', e⟩ := lo3 (F := F) (loc := loc) (c := c) (t := t) (m := mm) (p := p) (i := i) (Nat.le_trans (Nat.le_of_lt_succ hi) hm) (fun j acc hj => hc i j acc (Nat.le_of_lt_succ hi) hj) acc y.1 y.2 hl
    exact ⟨(some (.im (.int i)), y'), e⟩
  obtain ⟨⟨x', y'⟩, e⟩ := forL_accB (f := forF F loc (.v 3) (loO c)) (mk := fun acc (y : Option Vl × Option Vl) => [t, mm, some (.ow acc), y.1, y.2]) (d := fun j : Nat => D.int j) (g := rowL p) (xs := List.range (m + 1)) (acc := []) (y := (none, none)) (pair_room hm) step
  refine ⟨x', y', ?_⟩
  rw [List.nil_append, ← pairL_row] at e
  exact e
def coB (c : E) : Ss := (.cons (.ext 2 (.comp [4] (.v 4) (rngB 3) (.some c) twoE)) .nil)
theorem fm_flat {α β : Type} {f : α → Option β} {g : α → List β} (h : ∀ x, (f x).toList = g x) : ∀ l : List α, l.filterMap f = l.flatMap g
  | [] => rfl
  | x :: l => by
    have := h x
    have ih := fm_flat h l
    rw [List.filterMap_cons, List.flatMap_cons, ← this, ← ih]
    cases f x <;> rfl
theorem co1 {F : Fns} {c : E} {t m a : Option Vl} {i j : Int} {b : Bool}
    (hc : ev F c [t, m, a, some (.im (.int i)), some (.im (.int j))] = .ok (.im (.bl b), [t, m, a, some (.im (.int i)), some (.im (.int j))])) :
    compF F [4] (.v 4) (.some c) twoE (.int j) [t, m, a, some (.im (.int i)), none] = .ok (if b then some (.tup [.int i, .int j]) else none, [t, m, a, some (.im (.int i)), none]) := by
  have l2 : 2 ≤ listLim := lim_ok (by omega)
  cases b
  · simp [compF, hc, wipeE]
  · simp [compF, hc, wipeE, twoE, l2]
theorem co2 {F : Fns} {c : E} {t m a : Option Vl} {i : Int} {xs ys : List D} (hr : rngOf [.int (i + 1)] = some xs) (hc : compL (compF F [4] (.v 4) (.some c) twoE) xs [t, m, a, some (.im (.int i)), none] = .ok (ys, [t, m, a, some (.im (.int i)), none])) (l : ys.length ≤ listLim) :
    ev F (.comp [4] (.v 4) (rngB 3) (.some c) twoE) [t, m, a, some (.im (.int i)), none] = .ok (.tm ys, [t, m, a, some (.im (.int i)), none]) := by
  rw [ev_comp, rg3 hr]
  simp [wipeE, backE, hc, l]
theorem co3 {F : Fns} {loc : Nat → Bool} {c : E} {t m x : Option Vl} {acc ys : List D} {i : Int} (h : ev F (.comp [4] (.v 4) (rngB 3) (.some c) twoE) [t, m, some (.ow acc), some (.im (.int i)), none] = .ok (.tm ys, [t, m, some (.ow acc), some (.im (.int i)), none])) (l : acc.length + ys.length ≤ listLim) :
    forF F loc (.v 3) (coB c) (.int i) [t, m, some (.ow acc), x, none] = .ok (.nx, [t, m, some (.ow (acc ++ ys)), some (.im (.int i)), none]) := by
  simp [forF, coB, h, l, -ev_comp]
theorem co4 {F : Fns} {loc : Nat → Bool} {c : E} {t mm : Option Vl} {p : Nat → Nat → Bool} {m : Nat} (hm : m ≤ 40)
    (hc : ∀ i j acc, i ≤ m → j ≤ i → ev F c [t, mm, some (.ow acc), some (.im (.int i)), some (.im (.int j))] = .ok (.im (.bl (p i j)), [t, mm, some (.ow acc), some (.im (.int i)), some (.im (.int j))])) :
    ∃ x', forL (forF F loc (.v 3) (coB c)) ((List.range (m + 1)).map fun j : Nat => D.int j) [t, mm, some (.ow []), none, none] = .ok (.nx, [t, mm, some (.ow (pairL p m)), x', none]) := by
  obtain ⟨x', e⟩ := forL_accB (f := forF F loc (.v 3) (coB c)) (mk := fun acc (y : Option Vl) => [t, mm, some (.ow acc), y, none]) (d := fun j : Nat => D.int j) (g := rowL p) (xs := List.range (m + 1)) (acc := []) (y := none)
    (pair_room hm) fun i hi acc y hl => by
      have hi : i < m + 1 := by simpa using hi
      refine ⟨some (.im (.int i)), co3 (co2 (rng1 (n := (i : Int) + 1) (m := i + 1) (by omega) (by omega)) ?_ (lim_ok (by omega))) (lim_ok hl)⟩
      rw [compL_on (g := fun j : Nat => if p i j then some (.tup [.int i, .int j]) else none)]
      · rw [fm_flat (g := fun j : Nat => two (p i j) i j)]
        · rfl
        · intro j
          unfold two
          split <;> rfl
      · intro j hj
        have hj : j < i + 1 := by simpa using hj
        exact co1 (hc i j acc (by omega) (by omega))
  exact ⟨x', e⟩
end K23

set_option linter.all false
set_option maxHeartbeats 2000000
set_option maxRecDepth 100000
namespace K23
open PySem RB
def spE : E := (.cmp .ne (.bin .sub (.ix (.var 0) (.bin .add (.var 3) (.var 4))) (.ix (.var 0) (.bin .sub (.var 3) (.var 4)))) (.bin .mul (.var 3) (.var 4)))
def lkE : E := (.cmp .ne (.cmp .eq (.bin .add (.var 3) (.var 4)) (.var 0)) (.cmp .eq (.bin .sub (.var 3) (.var 4)) (.var 0)))
theorem sp1 {F : Fns} {v : Vl} {m a : Option Vl} {T : D} {i j p q : Int} (hv : frz v = T) (i1 : ixD T (.int (i + j)) = some (.int p)) (i2 : ixD T (.int (i - j)) = some (.int q)) (mm : bin .mul (.int i) (.int j) = some (.im (.int (i * j)))) :
    ev F spE [some v, m, a, some (.im (.int i)), some (.im (.int j))] = .ok (.im (.bl (!decide (p - q = i * j))), [some v, m, a, some (.im (.int i)), some (.im (.int j))]) := by
  subst hv
  cases v <;> simp only [frz_im, frz_ow] at i1 i2 <;> simp [spE, i1, i2, mm]
theorem lk1 {F : Fns} {m a : Option Vl} {t i j : Int} :
    ev F lkE [some (.im (.int t)), m, a, some (.im (.int i)), some (.im (.int j))] = .ok (.im (.bl (decide (i + j = t) != decide (i - j = t))), [some (.im (.int t)), m, a, some (.im (.int i)), some (.im (.int j))]) := by
  simp [lkE, bl_ne]
def spP (r : List Int) (i j : Nat) : Bool := !decide (rd r (i + j) - rd r (i - j) = (i : Int) * j)
def lkP (t : Nat) (i j : Nat) : Bool := decide ((i : Int) + j = t) != decide ((i : Int) - j = t)
theorem spT {F : Fns} {v : Vl} {mm a : Option Vl} {T : D} {r : List Int} {m i j : Nat} (hv : frz v = T) (hT : ∀ k, k < r.length → ixD T (.int k) = some (.int (rd r k))) (hm : 2 * m < r.length) (h4 : m ≤ 40) (hi : i ≤ m) (hj : j ≤ i) :
    ev F spE [some v, mm, a, some (.im (.int i)), some (.im (.int j))] = .ok (.im (.bl (spP r i j)), [some v, mm, a, some (.im (.int i)), some (.im (.int j))]) := by
  have h1 := hT (i + j) (by omega)
  have h2 := hT (i - j) (by omega)
  rw [show ((i + j : Nat) : Int) = (i : Int) + j by omega] at h1
  rw [show ((i - j : Nat) : Int) = (i : Int) - j by omega] at h2
  exact sp1 hv h1 h2 (mulS (by omega))
theorem set5 {F : Fns} {loc : Nat → Bool} {a b d e : Option Vl} : exec F loc (.set 2 (.lst .nil)) [a, b, none, d, e] = .ok (.nx, [a, b, some (.ow []), d, e]) := by
  have l : 0 ≤ listLim := Nat.zero_le _
  simp
theorem retL5 {F : Fns} {a b d e : Option Vl} {ys : List D} : exec F (locOf 2 []) (.ret (.var 2)) [a, b, some (.ow ys), d, e] = .ok (.rt (.ow ys), [a, b, none, d, e]) := by
  simp [locOf]
theorem retT5 {F : Fns} {a b d e : Option Vl} {ys : List D} : exec F (locOf 2 []) (.ret (.bi .tuple (.cons (.var 2) .nil))) [a, b, some (.ow ys), d, e] = .ok (.rt (.im (.tup ys)), [a, b, some (.ow ys), d, e]) := by
  have ht : biD .tuple [.lst ys] = some (.im (.tup ys)) := rfl
  simp [ht]
noncomputable abbrev F12 : Fns := Fl [f0, f1, f2, f3, f4, f5, f6, f7, f8, f9, f10, f11]
noncomputable abbrev F13 : Fns := Fl [f0, f1, f2, f3, f4, f5, f6, f7, f8, f9, f10, f11, f12]
noncomputable abbrev F14 : Fns := Fl [f0, f1, f2, f3, f4, f5, f6, f7, f8, f9, f10, f11, f12, f13]
noncomputable abbrev F22 : Fns := Fl [f0, f1, f2, f3, f4, f5, f6, f7, f8, f9, f10, f11, f12, f13, f14, f15, f16, f17, f18, f19, f20, f21]
noncomputable abbrev F15 : Fns := Fl [f0, f1, f2, f3, f4, f5, f6, f7, f8, f9, f10, f11, f12, f13, f14]
theorem f12_eq : f12 = fnOf F12 2 5 [] d12.body := rfl
theorem f13_eq : f13 = fnOf F13 2 5 [] d13.body := rfl
theorem f14_eq : f14 = fnOf F14 2 5 [] d14.body := rfl
theorem f15_eq : f15 = fnOf F15 2 5 [] d15.body := rfl
theorem f22_eq : f22 = fnOf F22 2 5 [] d22.body := rfl
theorem looks {t m : Nat} (hm : m ≤ 40) : f14 [.im (.int t), .im (.int m)] = .ok (.ow (pairL (lkP t) m), [some (.im (.int t)), some (.im (.int m))]) := by
  obtain ⟨x, y, e⟩ := lo4 (F := F14) (loc := locOf 2 []) (c := lkE) (t := some (.im (.int t))) (mm := some (.im (.int m))) (p := lkP t) (m := m) hm fun i j acc _ _ => lk1
  have f := exF (tg := .v 3) (b := loO lkE) (loc := locOf 2 []) (rg1 (F := F14) (t := some (.im (.int t))) (acc := some (.ow [])) (x := none) (y := none) (rng1 (n := (m : Int) + 1) (m := m + 1) (by omega) (by omega))) e
  have c := exs3 set5 (exs3 f (exsR (ss := .nil) retL5))
  rw [f14_eq]; have z := fn_rt (F := F14) (np := 2) (body := d14.body) (slots := 5) (lost := []) (vs := [.im (.int t), .im (.int m)]) (o := [some (.im (.int t)), some (.im (.int m))]) rfl rfl c out2; exact z
theorem law_looks {t m : Nat} (hm : m ≤ 40) : f22 [.im (.int t), .im (.int m)] = .ok (.ow (pairL (lkP t) m), [some (.im (.int t)), some (.im (.int m))]) := by
  obtain ⟨x, e⟩ := co4 (F := F22) (loc := locOf 2 []) (c := lkE) (t := some (.im (.int t))) (mm := some (.im (.int m))) (p := lkP t) (m := m) hm fun i j acc _ _ => lk1
  have f := exF (tg := .v 3) (b := coB lkE) (loc := locOf 2 []) (rg1 (F := F22) (t := some (.im (.int t))) (acc := some (.ow [])) (x := none) (y := none) (rng1 (n := (m : Int) + 1) (m := m + 1) (by omega) (by omega))) e
  have c := exs3 set5 (exs3 f (exsR (ss := .nil) retL5))
  rw [f22_eq]; have z := fn_rt (F := F22) (np := 2) (body := d22.body) (slots := 5) (lost := []) (vs := [.im (.int t), .im (.int m)]) (o := [some (.im (.int t)), some (.im (.int m))]) rfl rfl c out2; exact z
theorem law_spoilt {r : List Int} {m : Nat} (h2 : 2 * m < r.length) (hm : m ≤ 40) : f12 [.ow (r.map D.int), .im (.int m)] = .ok (.ow (pairL (spP r) m), [some (.ow (r.map D.int)), some (.im (.int m))]) := by
  obtain ⟨x, e⟩ := co4 (F := F12) (loc := locOf 2 []) (c := spE) (t := some (.ow (r.map D.int))) (mm := some (.im (.int m))) (p := spP r) (m := m) hm fun i j acc hi hj => spT (v := .ow (r.map D.int)) rfl (fun k hk => ixRL hk) h2 hm hi hj
  have f := exF (tg := .v 3) (b := coB spE) (loc := locOf 2 []) (rg1 (F := F12) (t := some (.ow (r.map D.int))) (acc := some (.ow [])) (x := none) (y := none) (rng1 (n := (m : Int) + 1) (m := m + 1) (by omega) (by omega))) e
  have c := exs3 set5 (exs3 f (exsR (ss := .nil) retL5))
  rw [f12_eq]; have z := fn_rt (F := F12) (np := 2) (body := d12.body) (slots := 5) (lost := []) (vs := [.ow (r.map D.int), .im (.int m)]) (o := [some (.ow (r.map D.int)), some (.im (.int m))]) rfl rfl c out2; exact z
theorem drop5 {F : Fns} {loc : Nat → Bool} {T : List D} {a b c d : Option Vl} (ck : F 5 [.im (.tup T)] = .ok (.im .non, [some (.im (.tup T))])) : exec F loc (.drop (.call 5 (.cons (.var 0) .nil) [])) [some (.im (.tup T)), a, b, c, d] = .ok (.nx, [some (.im (.tup T)), a, b, c, d]) := by
  simp [ck]
theorem chk40 {F : Fns} {loc : Nat → Bool} {m : Int} {a b c d : Option Vl} {ss : Ss} (ii : F 3 [.im (.int m)] = .ok (.im (.bl true), [some (.im (.int m))])) (h0 : 0 ≤ m) (h1 : m ≤ 40) :
    exec F loc (.iff (.or_ (.not_ (.call 3 (.cons (.var 1) .nil) [])) (.not_ (.chn .le .le (.lit (.int 0)) (.var 1) (.lit (.int 40))))) ss .nil) [a, some (.im (.int m)), b, c, d] = .ok (.nx, [a, some (.im (.int m)), b, c, d]) := by
  simp [ii, h0, h1]
theorem chk2m {F : Fns} {loc : Nat → Bool} {m n : Int} {T : List D} {b c d : Option Vl} {ss : Ss} (mm : bin .mul (.int 2) (.int m) = some (.im (.int (2 * m)))) (ln : biD .len [.tup T] = some (.im (.int n))) (h : ¬ n ≤ 2 * m) :
    exec F loc (.iff (.cmp .ge (.bin .mul (.lit (.int 2)) (.var 1)) (.bi .len (.cons (.var 0) .nil))) ss .nil) [some (.im (.tup T)), some (.im (.int m)), b, c, d] = .ok (.nx, [some (.im (.tup T)), some (.im (.int m)), b, c, d]) := by
  simp [-bi_lenT, mm, ln, h]
theorem spoilt {r : List Int} {m : Nat} (h : Tabl r) (h2 : 2 * m < r.length) (hm : m ≤ 40) : f13 [.im (.tup (r.map D.int)), .im (.int m)] = .ok (.im (.tup (pairL (spP r) m)), [some (.im (.tup (r.map D.int))), some (.im (.int m))]) := by
  obtain ⟨x, y, e⟩ := lo4 (F := F13) (loc := locOf 2 []) (c := spE) (t := some (.im (.tup (r.map D.int)))) (mm := some (.im (.int m))) (p := spP r) (m := m) hm fun i j acc hi hj => spT (v := .im (.tup (r.map D.int))) rfl (fun k hk => ixR hk) h2 hm hi hj
  have f := exF (tg := .v 3) (b := loO spE) (loc := locOf 2 []) (rg1 (F := F13) (t := some (.im (.tup (r.map D.int)))) (acc := some (.ow [])) (x := none) (y := none) (rng1 (n := (m : Int) + 1) (m := m + 1) (by omega) (by omega))) e
  have c := exs3 (drop5 (check_tab h)) (exs3 (chk40 (F := F13) (ss := .cons (.rais 0 .nil) .nil) (isint m) (by omega) (by omega)) (exs3 (chk2m (ss := .cons (.rais 0 .nil) .nil) (mulS (by omega)) bi_lenT (by rw [List.length_map]; omega)) (exs3 set5 (exs3 f (exsR (ss := .nil) retT5)))))
  rw [f13_eq]; have z := fn_rt (F := F13) (np := 2) (body := d13.body) (slots := 5) (lost := []) (vs := [.im (.tup (r.map D.int)), .im (.int m)]) (o := [some (.im (.tup (r.map D.int))), some (.im (.int m))]) rfl rfl c out2; exact z
theorem pair_sm {p : Nat → Nat → Bool} {m : Nat} (hm : m ≤ 40) : ∀ x ∈ pairL p m, Sm x 88 1 := by
  intro x hx
  unfold pairL at hx
  obtain ⟨i, hi, hx⟩ := List.mem_flatMap.mp hx
  obtain ⟨j, hj, hx⟩ := List.mem_flatMap.mp hx
  have hi : i < m + 1 := by simpa using hi
  have hj : j < i + 1 := by simpa using hj
  split at hx
  · simp at hx
    subst hx
    exact (Sm.tup (n := 2) (w := 40) (e := 0) (all2 (Sm.int (by omega) (by omega)) (Sm.int (by omega) (by omega))) (by simp)).mono (by decide) (by decide)
  · simp at hx
theorem pairT {p : Nat → Nat → Bool} {m : Nat} (hm : m ≤ 40) : Fine (.tup (pairL p m)) := (Sm.tup (pair_sm hm) (pairL_len hm)).fine
theorem pairF {p : Nat → Nat → Bool} {m : Nat} (hm : m ≤ 40) : Fine (.lst (pairL p m)) := (Sm.lst (pair_sm hm) (pairL_len hm)).fine
/-- the looks of k are these pairs -/
def lkB (r : List Int) (m k : Nat) : Bool := (eqD (.lst (pairL (lkP k) m)) (.lst (pairL (spP r) m))).getD false
theorem lk_eq {r : List Int} {m k : Nat} (hm : m ≤ 40) : cmpD .eq (.lst (pairL (lkP k) m)) (.lst (pairL (spP r) m)) = some (lkB r m k) := (pairF hm).eqs (pairF hm)
/-- what one_fault says -/
def oneD (P : List D) (b : Nat → Bool) (n : Nat) : D := if P.isEmpty then .tup [.str "right"] else match (List.range n).filter b with
  | k :: _ => .tup [.str "one", .int k]
  | [] => .tup [.str "more"]
def ofB : Ss := (.cons (.set 4 (.call 14 (.cons (.var 3) (.cons (.var 1) .nil)) [])) (.cons (.iff (.cmp .eq (.var 4) (.bi .list (.cons (.var 2) .nil))) (.cons (.ret (.tup (.cons (.lit (.str "one")) (.cons (.var 3) .nil)))) .nil) .nil) .nil))
theorem of1 {F : Fns} {loc : Nat → Bool} {t x y : Option Vl} {P L : List D} {k m : Int} {b : Bool} (lk : F 14 [.im (.int k), .im (.int m)] = .ok (.ow L, [some (.im (.int k)), some (.im (.int m))])) (lt : biD .list [.tup P] = some (.tm P)) (ce : cmpD .eq (.lst L) (.lst P) = some b) :
    forF F loc (.v 3) ofB (.int k) [t, some (.im (.int m)), some (.im (.tup P)), x, y] = .ok (if b then .rt (.im (.tup [.str "one", .int k])) else .nx, [t, some (.im (.int m)), some (.im (.tup P)), some (.im (.int k)), some (.ow L)]) := by
  have l2 : 2 ≤ listLim := lim_ok (by omega)
  cases b <;> simp [forF, ofB, lk, lt, ce, l2]
theorem ofL {F : Fns} {loc : Nat → Bool} {t : Option Vl} {P : List D} {m : Int} {L : Nat → List D} {b : Nat → Bool} (lt : biD .list [.tup P] = some (.tm P)) : ∀ {xs : List Nat} {x y : Option Vl},
    (∀ k ∈ xs, F 14 [.im (.int k), .im (.int m)] = .ok (.ow (L k), [some (.im (.int k)), some (.im (.int m))]) ∧ cmpD .eq (.lst (L k)) (.lst P) = some (b k)) →
    ∃ x' y', forL (forF F loc (.v 3) ofB) (xs.map fun k : Nat => D.int k) [t, some (.im (.int m)), some (.im (.tup P)), x, y] = .ok (match xs.filter b with | k :: _ => .rt (.im (.tup [.str "one", .int k])) | [] => .nx, [t, some (.im (.int m)), some (.im (.tup P)), x', y'])
  | [], x, y, _ => ⟨x, y, rfl⟩
  | k :: xs, x, y, h => by
    obtain ⟨h1, h2⟩ := h k List.mem_cons_self
    have e1 := of1 (F := F) (loc := loc) (t := t) (x := x) (y := y) h1 lt h2
    obtain ⟨x', y', e⟩ := ofL (F := F) (loc := loc) (t := t) (m := m) (L := L) (b := b) lt (xs := xs) (x := some (.im (.int k))) (y := some (.ow (L k))) fun k hk => h k (List.mem_cons_of_mem _ hk)
    by_cases q : b k = true
    · refine ⟨some (.im (.int k)), some (.ow (L k)), ?_⟩
      rw [if_pos q] at e1
      simp only [List.map_cons, forL, e1, R.bind_ok, List.filter_cons, if_pos q]
    · refine ⟨x', y', ?_⟩
      rw [if_neg q] at e1
      simp only [List.map_cons, forL, e1, R.bind_ok, List.filter_cons, if_neg q]
      exact e
theorem of2 {F : Fns} {loc : Nat → Bool} {T P : List D} {m : Int} {a b c : Option Vl} (sp : F 13 [.im (.tup T), .im (.int m)] = .ok (.im (.tup P), [some (.im (.tup T)), some (.im (.int m))])) :
    exec F loc (.set 2 (.call 13 (.cons (.var 0) (.cons (.var 1) .nil)) [])) [some (.im (.tup T)), some (.im (.int m)), a, b, c] = .ok (.nx, [some (.im (.tup T)), some (.im (.int m)), some (.im (.tup P)), b, c]) := by
  simp [sp]
def rightS : S := (.ret (.tup (.cons (.lit (.str "right")) .nil)))
theorem of3 {F : Fns} {loc : Nat → Bool} {a b c d : Option Vl} {P : List D} (h : P.isEmpty = true) : exec F loc (.iff (.not_ (.var 2)) (.cons rightS .nil) .nil) [a, b, some (.im (.tup P)), c, d] = .ok (.rt (.im (.tup [.str "right"])), [a, b, some (.im (.tup P)), c, d]) := by
  have l : 1 ≤ listLim := lim_ok (by omega)
  have t : truth (.tup P) = some false := by show some (!P.isEmpty) = _; rw [h]; rfl
  simp [t, rightS, l]
theorem of4 {F : Fns} {loc : Nat → Bool} {a b c d : Option Vl} {P : List D} (h : P.isEmpty = false) : exec F loc (.iff (.not_ (.var 2)) (.cons rightS .nil) .nil) [a, b, some (.im (.tup P)), c, d] = .ok (.nx, [a, b, some (.im (.tup P)), c, d]) := by
  have t : truth (.tup P) = some true := by show some (!P.isEmpty) = _; rw [h]; rfl
  simp [t]
theorem of5 {F : Fns} {a b c d : Option Vl} {m : Int} {xs : List D} (mm : bin .mul (.int 2) (.int m) = some (.im (.int (2 * m)))) (hr : rngOf [.int (2 * m + 1)] = some xs) : evI F (.rng (.cons (.bin .add (.bin .mul (.lit (.int 2)) (.var 1)) (.lit (.int 1))) .nil)) [a, some (.im (.int m)), b, c, d] = .ok (xs, [a, some (.im (.int m)), b, c, d]) := by
  simp [mm, hr]
theorem retMore {F : Fns} {loc : Nat → Bool} {env : RB.Env} : exec F loc (.ret (.tup (.cons (.lit (.str "more")) .nil))) env = .ok (.rt (.im (.tup [.str "more"])), env) := by
  have l : 1 ≤ listLim := lim_ok (by omega)
  simp [l]
theorem lk15 {t m : Nat} (hm : m ≤ 40) : F15 14 [.im (.int t), .im (.int m)] = .ok (.ow (pairL (lkP t) m), [some (.im (.int t)), some (.im (.int m))]) := by
  have e : F15 14 = f14 := rfl
  rw [e]
  exact looks hm
theorem one_fault {r : List Int} {m : Nat} (h : Tabl r) (h2 : 2 * m < r.length) (hm : m ≤ 40) : f15 [.im (.tup (r.map D.int)), .im (.int m)] = .ok (.im (oneD (pairL (spP r) m) (lkB r m) (2 * m + 1)), [some (.im (.tup (r.map D.int))), some (.im (.int m))]) := by
  have s2 := of2 (F := F15) (loc := locOf 2 []) (a := none) (b := none) (c := none) (spoilt h h2 hm)
  by_cases q : (pairL (spP r) m).isEmpty = true
  · have c := exs3 s2 (exsR (ss := (.cons (.forr (.v 3) (.rng (.cons (.bin .add (.bin .mul (.lit (.int 2)) (.var 1)) (.lit (.int 1))) .nil)) ofB) (.cons (.ret (.tup (.cons (.lit (.str "more")) .nil))) .nil))) (of3 q))
    have e : oneD (pairL (spP r) m) (lkB r m) (2 * m + 1) = .tup [.str "right"] := by unfold oneD; rw [if_pos q]
    rw [e]
    rw [f15_eq]; have z := fn_rt (F := F15) (np := 2) (body := d15.body) (slots := 5) (lost := []) (vs := [.im (.tup (r.map D.int)), .im (.int m)]) (o := [some (.im (.tup (r.map D.int))), some (.im (.int m))]) rfl rfl c out2; exact z
  · have e : oneD (pairL (spP r) m) (lkB r m) (2 * m + 1) = match (List.range (2 * m + 1)).filter (lkB r m) with
        | k :: _ => .tup [.str "one", .int k]
        | [] => .tup [.str "more"] := by unfold oneD; rw [if_neg q]
    rw [e]
    obtain ⟨x, y, e⟩ := ofL (F := F15) (loc := locOf 2 []) (t := some (.im (.tup (r.map D.int)))) (P := pairL (spP r) m) (m := m) (L := fun k => pairL (lkP k) m) (b := lkB r m) rfl (xs := List.range (2 * m + 1)) (x := none) (y := none) fun k hk => ⟨lk15 hm, lk_eq hm⟩
    have f := exF (tg := .v 3) (b := ofB) (loc := locOf 2 []) (of5 (F := F15) (a := some (.im (.tup (r.map D.int)))) (b := some (.im (.tup (pairL (spP r) m)))) (c := none) (d := none) (mulS (by omega)) (rng1 (n := 2 * (m : Int) + 1) (m := 2 * m + 1) (by omega) (by omega))) e
    have q4 := of4 (F := F15) (loc := locOf 2 []) (a := some (.im (.tup (r.map D.int)))) (b := some (.im (.int m))) (c := none) (d := none) (by simpa using q)
    cases hh : (List.range (2 * m + 1)).filter (lkB r m) with
    | nil =>
      rw [hh] at f
      have c := exs3 s2 (exs3 q4 (exs3 f (exsR (ss := .nil) retMore)))
      rw [f15_eq]; have z := fn_rt (F := F15) (np := 2) (body := d15.body) (slots := 5) (lost := []) (vs := [.im (.tup (r.map D.int)), .im (.int m)]) (o := [some (.im (.tup (r.map D.int))), some (.im (.int m))]) rfl rfl c out2; exact z
    | cons k l =>
      rw [hh] at f
      have c := exs3 s2 (exs3 q4 (exsR (ss := .cons (.ret (.tup (.cons (.lit (.str "more")) .nil))) .nil) f))
      rw [f15_eq]; have z := fn_rt (F := F15) (np := 2) (body := d15.body) (slots := 5) (lost := []) (vs := [.im (.tup (r.map D.int)), .im (.int m)]) (o := [some (.im (.tup (r.map D.int))), some (.im (.int m))]) rfl rfl c out2; exact z
end K23

set_option linter.all false
set_option maxHeartbeats 2000000
set_option maxRecDepth 100000
namespace K23
open PySem RB
def noS : Ss := (.cons (.ret (.lit (.bl false))) .nil)
def sA (ss : Ss) : Ss := (.cons (.set 1 (.call 10 (.cons (.var 0) (.cons (.lst (.cons (.lit (.int 0)) (.cons (.lit (.int 1)) (.cons (.lit (.int 7)) (.cons (.lit (.int 40)) (.cons (.lit (.int 80)) .nil)))))) .nil)) [])) (.cons (.set 2 (.call 11 (.cons (.var 1) .nil) [])) (.cons (.iff (.not_ (.call 2 (.cons (.call 16 (.cons (.var 1) .nil) []) (.cons (.bi .tuple (.cons (.var 2) .nil)) .nil)) [])) noS .nil) ss)))
def muB : Ss := (.cons (.set 4 (.call 1 (.cons (.var 0) (.cons (.bin .add (.var 1) (.lit (.int 1))) .nil)) [])) (.cons (.setix 2 (.var 4) (.bi .max (.cons (.lst (.cons (.lit (.int 0)) (.cons (.bin .add (.ix (.var 2) (.var 4)) (.call 10 (.cons (.var 0) (.cons (.lst (.cons (.lit (.int 1)) (.cons (.neg (.lit (.int 1))) (.cons (.lit (.int 7)) (.cons (.lit (.int 100)) .nil))))) .nil)) [])) .nil))) .nil))) .nil))
def sB (ss : Ss) : Ss := (.cons (.forr (.v 3) (.rng (.cons (.call 1 (.cons (.var 0) (.cons (.lit (.int 4)) .nil)) []) .nil)) muB) ss)
def wrC : E := (.cmp .ne (.ix (.var 2) (.var 3)) (.bin .fdiv (.bin .mul (.var 3) (.var 3)) (.lit (.int 4))))
def wrE : E := (.tup (.cons (.var 3) (.cons (.bin .sub (.ix (.var 2) (.var 3)) (.bin .fdiv (.bin .mul (.var 3) (.var 3)) (.lit (.int 4)))) .nil)))
def sC (ss : Ss) : Ss := (.cons (.set 5 (.comp [3] (.v 3) (rngB 1) (.some wrC) wrE)) (.cons (.set 6 (.ite (.var 5) (.tup (.cons (.lit (.str "wrong")) (.cons (.ix (.ix (.var 5) (.lit (.int 0))) (.lit (.int 0))) .nil))) (.tup (.cons (.lit (.str "right")) .nil)))) ss))
def sD (ss : Ss) : Ss := (.cons (.iff (.not_ (.call 2 (.cons (.lst (.cons (.call 17 (.cons (.bi .tuple (.cons (.var 2) .nil)) .nil) []) (.cons (.call 18 (.cons (.bi .tuple (.cons (.var 2) .nil)) .nil) []) (.cons (.call 19 (.cons (.bi .tuple (.cons (.var 2) .nil)) .nil) []) .nil)))) (.cons (.lst (.cons (.var 6) (.cons (.bi .tuple (.cons (.var 5) .nil)) (.cons (.tup (.cons (.bi .tuple (.cons (.call 11 (.cons (.var 1) .nil) []) .nil)) (.cons (.bi .len (.cons (.var 5) .nil)) .nil))) .nil)))) .nil)) [])) noS .nil) ss)
def gpE : E := (.bin .sub (.ix (.var 2) (.bin .add (.var 3) (.lit (.int 1)))) (.ix (.var 2) (.var 3)))
def bnC : E := (.cmp .ne (.bin .sub (.ix (.var 7) (.var 3)) (.ix (.var 7) (.bin .sub (.var 3) (.lit (.int 1))))) (.bin .band (.var 3) (.lit (.int 1))))
def sE (ss : Ss) : Ss := (.cons (.set 7 (.comp [3] (.v 3) (.rng (.cons (.var 1) .nil)) .none gpE)) (.cons (.set 8 (.comp [3] (.v 3) (.rng (.cons (.lit (.int 1)) (.cons (.var 1) .nil))) (.some bnC) (.var 3))) (.cons (.iff (.not_ (.call 2 (.cons (.lst (.cons (.call 20 (.cons (.bi .tuple (.cons (.var 2) .nil)) .nil) []) (.cons (.call 21 (.cons (.bi .tuple (.cons (.var 2) .nil)) .nil) []) .nil))) (.cons (.lst (.cons (.bi .tuple (.cons (.var 7) .nil)) (.cons (.bi .tuple (.cons (.var 8) .nil)) .nil))) .nil)) [])) noS .nil) ss)))
def sF (ss : Ss) : Ss := (.cons (.par [9, 10] (.cons (.call 1 (.cons (.var 0) (.cons (.bin .add (.var 1) (.lit (.int 3))) .nil)) []) (.cons (.call 1 (.cons (.var 0) (.cons (.bin .add (.var 1) (.lit (.int 3))) .nil)) []) .nil))) (.cons (.set 11 (.ite (.cmp .le (.bin .add (.var 9) (.var 10)) (.var 1)) (.bin .sub (.ix (.var 2) (.bin .add (.var 9) (.var 10))) (.ix (.var 2) (.bi .abs (.cons (.bin .sub (.var 9) (.var 10)) .nil)))) (.lit .non))) (.cons (.iff (.not_ (.call 2 (.cons (.call 9 (.cons (.bi .tuple (.cons (.var 2) .nil)) (.cons (.var 9) (.cons (.var 10) .nil))) []) (.cons (.var 11) .nil)) [])) noS .nil) ss)))
def sG (ss : Ss) : Ss := (.cons (.set 12 (.bin .fdiv (.var 1) (.lit (.int 2)))) (.cons (.set 13 (.call 12 (.cons (.var 2) (.cons (.var 12) .nil)) [])) (.cons (.iff (.not_ (.call 2 (.cons (.call 13 (.cons (.bi .tuple (.cons (.var 2) .nil)) (.cons (.var 12) .nil)) []) (.cons (.bi .tuple (.cons (.var 13) .nil)) .nil)) [])) noS .nil) ss)))
def foC : E := (.and_ (.var 13) (.cmp .eq (.call 22 (.cons (.var 3) (.cons (.var 12) .nil)) []) (.var 13)))
def sH : Ss := (.cons (.set 14 (.comp [3] (.v 3) (.rng (.cons (.bin .add (.bin .mul (.lit (.int 2)) (.var 12)) (.lit (.int 1))) .nil)) (.some foC) (.var 3))) (.cons (.set 6 (.ite (.not_ (.var 13)) (.tup (.cons (.lit (.str "right")) .nil)) (.ite (.var 14) (.tup (.cons (.lit (.str "one")) (.cons (.ix (.var 14) (.lit (.int 0))) .nil))) (.tup (.cons (.lit (.str "more")) .nil))))) (.cons (.ret (.call 2 (.cons (.call 15 (.cons (.bi .tuple (.cons (.var 2) .nil)) (.cons (.var 12) .nil)) []) (.cons (.var 6) .nil)) [])) .nil)))
theorem body23 : d23.body = sA (sB (sC (sD (sE (sF (sG sH)))))) := rfl
theorem tupL {T : List D} : biD .tuple [.lst T] = some (.im (.tup T)) := rfl
section
variable {F : Fns} {loc : Nat → Bool} {ss : Ss} {S S1 S2 T P W G : List D} {m : Int} {x3 x4 : Option Vl}
theorem tgA (pk : F 10 [.ow S, .ow [.int 0, .int 1, .int 7, .int 40, .int 80]] = .ok (.im (.int m), [some (.ow S1), some (.ow [.int 0, .int 1, .int 7, .int 40, .int 80])])) (tb : F 11 [.im (.int m)] = .ok (.ow T, [some (.im (.int m))])) (t16 : F 16 [.im (.int m)] = .ok (.im (.tup T), [some (.im (.int m))])) (sm : F 2 [.im (.tup T), .im (.tup T)] = .ok (.im (.bl true), [some (.im (.tup T)), some (.im (.tup T))])) :
    execs F loc (sA ss) [some (.ow S), none, none, none, none, none, none, none, none, none, none, none, none, none, none] = execs F loc ss [some (.ow S1), some (.im (.int m)), some (.ow T), none, none, none, none, none, none, none, none, none, none, none, none] := by
  have l5 : 5 ≤ listLim := lim_ok (by omega)
  simp [sA, pk, tb, t16, sm, l5, tupL]
theorem mu1 {a p q r : Int} {d : D} {n5 n6 n7 n8 n9 n10 n11 n12 n13 n14 : Option Vl} {T' : List D} (dr : F 1 [.ow S, .im (.int (m + 1))] = .ok (.im (.int a), [some (.ow S1), some (.im (.int (m + 1)))])) (pk : F 10 [.ow S1, .ow [.int 1, .int (-1), .int 7, .int 100]] = .ok (.im (.int q), [some (.ow S2), some (.ow [.int 1, .int (-1), .int 7, .int 100])])) (ix : ixD (.lst T) (.int a) = some (.int p)) (mx : biD .max [.lst [.int 0, .int (p + q)]] = some (.im (.int r))) (pt : putIx T a (.int r) = some T') :
    forF F loc (.v 3) muB d [some (.ow S), some (.im (.int m)), some (.ow T), x3, x4, n5, n6, n7, n8, n9, n10, n11, n12, n13, n14] = .ok (.nx, [some (.ow S2), some (.im (.int m)), some (.ow T'), some (.im d), some (.im (.int a)), n5, n6, n7, n8, n9, n10, n11, n12, n13, n14]) := by
  have l4 : 4 ≤ listLim := lim_ok (by omega)
  have l2 : 2 ≤ listLim := lim_ok (by omega)
  simp [forF, muB, dr, pk, ix, mx, pt, l4, l2]
theorem tgB {c : Int} {xs : List D} {n5 n6 n7 n8 n9 n10 n11 n12 n13 n14 : Option Vl} {env : RB.Env} (dr : F 1 [.ow S, .im (.int 4)] = .ok (.im (.int c), [some (.ow S1), some (.im (.int 4))])) (hr : rngOf [.int c] = some xs)
    (lp : forL (forF F loc (.v 3) muB) xs [some (.ow S1), some (.im (.int m)), some (.ow T), x3, x4, n5, n6, n7, n8, n9, n10, n11, n12, n13, n14] = .ok (.nx, env)) :
    execs F loc (sB ss) [some (.ow S), some (.im (.int m)), some (.ow T), x3, x4, n5, n6, n7, n8, n9, n10, n11, n12, n13, n14] = execs F loc ss env := by
  simp [sB, dr, hr, lp]
theorem wr1 {k p q : Int} {t0 t1 n4 n5 n6 n7 n8 n9 n10 n11 n12 n13 n14 : Option Vl} (ix : ixD (.lst T) (.int k) = some (.int p)) (mm : bin .mul (.int k) (.int k) = some (.im (.int (k * k)))) (v : bin .fdiv (.int (k * k)) (.int 4) = some (.im (.int q))) :
    compF F [3] (.v 3) (.some wrC) wrE (.int k) [t0, t1, some (.ow T), none, n4, n5, n6, n7, n8, n9, n10, n11, n12, n13, n14] = .ok (if p = q then none else some (.tup [.int k, .int (p - q)]), [t0, t1, some (.ow T), none, n4, n5, n6, n7, n8, n9, n10, n11, n12, n13, n14]) := by
  have l2 : 2 ≤ listLim := lim_ok (by omega)
  by_cases h : p = q
  · rw [if_pos h]; simp [compF, wrC, wrE, ix, mm, v, h, wipeE]
  · rw [if_neg h]; simp [compF, wrC, wrE, ix, mm, v, h, wipeE, l2]
theorem tgC {xs : List D} {t0 n5 n6 n7 n8 n9 n10 n11 n12 n13 n14 : Option Vl} {j : D} (hr : rngOf [.int (m + 1)] = some xs) (hc : compL (compF F [3] (.v 3) (.some wrC) wrE) xs [t0, some (.im (.int m)), some (.ow T), none, x4, n5, n6, n7, n8, n9, n10, n11, n12, n13, n14] = .ok (W, [t0, some (.im (.int m)), some (.ow T), none, x4, n5, n6, n7, n8, n9, n10, n11, n12, n13, n14]))
    (l : W.length ≤ listLim) (hj : (W = [] ∧ j = .tup [.str "right"]) ∨ (∃ k q rest, W = .tup [k, q] :: rest ∧ j = .tup [.str "wrong", k])) :
    execs F loc (sC ss) [t0, some (.im (.int m)), some (.ow T), x3, x4, n5, n6, n7, n8, n9, n10, n11, n12, n13, n14] = execs F loc ss [t0, some (.im (.int m)), some (.ow T), x3, x4, some (.ow W), some (.im j), n7, n8, n9, n10, n11, n12, n13, n14] := by
  have l1 : 1 ≤ listLim := lim_ok (by omega)
  have l2 : 2 ≤ listLim := lim_ok (by omega)
  rcases hj with ⟨rfl, rfl⟩ | ⟨k, q, rest, rfl, rfl⟩
  · have t : truth (.lst []) = some false := rfl
    simp [sC, rngB, hr, wipeE, backE, hc, l, t, l1]
  · have t : truth (.lst (.tup [k, q] :: rest)) = some true := rfl
    have i1 : ixD (.lst (.tup [k, q] :: rest)) (.int 0) = some (.tup [k, q]) := ix_nat (k := 0) (by simp)
    have i2 : ixD (.tup [k, q]) (.int 0) = some k := ixT_nat (k := 0) (by simp)
    have l' : rest.length + 1 ≤ listLim := l
    simp [sC, rngB, hr, wipeE, backE, hc, l', t, i1, i2, l2]
theorem tgD {n3 n4 n7 n8 n9 n10 n11 n12 n13 n14 : Option Vl} {t0 : Option Vl} {j : D} {w : Int} (f17 : F 17 [.im (.tup T)] = .ok (.im j, [some (.im (.tup T))])) (f18 : F 18 [.im (.tup T)] = .ok (.im (.tup W), [some (.im (.tup T))])) (f19 : F 19 [.im (.tup T)] = .ok (.im (.tup [.tup G, .int w]), [some (.im (.tup T))])) (f11 : F 11 [.im (.int m)] = .ok (.ow G, [some (.im (.int m))])) (ln : biD .len [.lst W] = some (.im (.int w)))
    (sm : F 2 [.ow [j, .tup W, .tup [.tup G, .int w]], .ow [j, .tup W, .tup [.tup G, .int w]]] = .ok (.im (.bl true), [some (.ow [j, .tup W, .tup [.tup G, .int w]]), some (.ow [j, .tup W, .tup [.tup G, .int w]])])) :
    execs F loc (sD ss) [t0, some (.im (.int m)), some (.ow T), n3, n4, some (.ow W), some (.im j), n7, n8, n9, n10, n11, n12, n13, n14] = execs F loc ss [t0, some (.im (.int m)), some (.ow T), n3, n4, some (.ow W), some (.im j), n7, n8, n9, n10, n11, n12, n13, n14] := by
  have l3 : 3 ≤ listLim := lim_ok (by omega)
  have l2 : 2 ≤ listLim := lim_ok (by omega)
  simp [sD, -bi_lenL, ln, f17, f18, f19, f11, sm, l3, l2, tupL]
theorem gp1 {k p q : Int} {t0 t1 n4 n5 n6 n7 n8 n9 n10 n11 n12 n13 n14 : Option Vl} (i1 : ixD (.lst T) (.int (k + 1)) = some (.int p)) (i2 : ixD (.lst T) (.int k) = some (.int q)) :
    compF F [3] (.v 3) .none gpE (.int k) [t0, t1, some (.ow T), none, n4, n5, n6, n7, n8, n9, n10, n11, n12, n13, n14] = .ok (some (.int (p - q)), [t0, t1, some (.ow T), none, n4, n5, n6, n7, n8, n9, n10, n11, n12, n13, n14]) := by
  simp [compF, gpE, i1, i2, wipeE]
theorem bn1 {k p q o : Int} {t0 t1 t2 n4 n5 n6 n8 n9 n10 n11 n12 n13 n14 : Option Vl} (i1 : ixD (.lst G) (.int k) = some (.int p)) (i2 : ixD (.lst G) (.int (k - 1)) = some (.int q)) (b : bin .band (.int k) (.int 1) = some (.im (.int o))) :
    compF F [3] (.v 3) (.some bnC) (.var 3) (.int k) [t0, t1, t2, none, n4, n5, n6, some (.ow G), n8, n9, n10, n11, n12, n13, n14] = .ok (if p - q = o then none else some (.int k), [t0, t1, t2, none, n4, n5, n6, some (.ow G), n8, n9, n10, n11, n12, n13, n14]) := by
  by_cases h : p - q = o
  · rw [if_pos h]; simp [compF, bnC, i1, i2, b, h, wipeE]
  · rw [if_neg h]; simp [compF, bnC, i1, i2, b, h, wipeE]
theorem tgE {xs ys B : List D} {t0 n3 n4 n5 n6 n7 n8 n9 n10 n11 n12 n13 n14 : Option Vl} (hr : rngOf [.int m] = some xs) (hc : compL (compF F [3] (.v 3) .none gpE) xs [t0, some (.im (.int m)), some (.ow T), none, n4, n5, n6, n7, n8, n9, n10, n11, n12, n13, n14] = .ok (G, [t0, some (.im (.int m)), some (.ow T), none, n4, n5, n6, n7, n8, n9, n10, n11, n12, n13, n14])) (l : G.length ≤ listLim)
    (hr2 : rngOf [.int 1, .int m] = some ys) (hc2 : compL (compF F [3] (.v 3) (.some bnC) (.var 3)) ys [t0, some (.im (.int m)), some (.ow T), none, n4, n5, n6, some (.ow G), n8, n9, n10, n11, n12, n13, n14] = .ok (B, [t0, some (.im (.int m)), some (.ow T), none, n4, n5, n6, some (.ow G), n8, n9, n10, n11, n12, n13, n14])) (l' : B.length ≤ listLim)
    (f20 : F 20 [.im (.tup T)] = .ok (.im (.tup G), [some (.im (.tup T))])) (f21 : F 21 [.im (.tup T)] = .ok (.im (.tup B), [some (.im (.tup T))])) (sm : F 2 [.ow [.tup G, .tup B], .ow [.tup G, .tup B]] = .ok (.im (.bl true), [some (.ow [.tup G, .tup B]), some (.ow [.tup G, .tup B])])) :
    execs F loc (sE ss) [t0, some (.im (.int m)), some (.ow T), n3, n4, n5, n6, n7, n8, n9, n10, n11, n12, n13, n14] = execs F loc ss [t0, some (.im (.int m)), some (.ow T), n3, n4, n5, n6, some (.ow G), some (.ow B), n9, n10, n11, n12, n13, n14] := by
  have l2 : 2 ≤ listLim := lim_ok (by omega)
  simp [sE, hr, hc, hr2, hc2, l, l', wipeE, backE, f20, f21, sm, l2, tupL]
theorem tgF {a b g : Int} {told : D} {n3 n4 n5 n6 n7 n8 n9 n10 n11 n12 n13 n14 : Option Vl} (d1 : F 1 [.ow S, .im (.int (m + 3))] = .ok (.im (.int a), [some (.ow S1), some (.im (.int (m + 3)))])) (d2 : F 1 [.ow S1, .im (.int (m + 3))] = .ok (.im (.int b), [some (.ow S2), some (.im (.int (m + 3)))])) (ab : biD .abs [.int (a - b)] = some (.im (.int g)))
    (ht : (a + b ≤ m ∧ ∃ p q, ixD (.lst T) (.int (a + b)) = some (.int p) ∧ ixD (.lst T) (.int g) = some (.int q) ∧ told = .int (p - q)) ∨ (¬ a + b ≤ m ∧ told = .non)) (f9 : F 9 [.im (.tup T), .im (.int a), .im (.int b)] = .ok (.im told, [some (.im (.tup T)), some (.im (.int a)), some (.im (.int b))])) (sm : F 2 [.im told, .im told] = .ok (.im (.bl true), [some (.im told), some (.im told)])) :
    execs F loc (sF ss) [some (.ow S), some (.im (.int m)), some (.ow T), n3, n4, n5, n6, n7, n8, n9, n10, n11, n12, n13, n14] = execs F loc ss [some (.ow S2), some (.im (.int m)), some (.ow T), n3, n4, n5, n6, n7, n8, some (.im (.int a)), some (.im (.int b)), some (.im told), n12, n13, n14] := by
  rcases ht with ⟨h, p, q, i1, i2, rfl⟩ | ⟨h, rfl⟩
  · simp [sF, d1, d2, -bi_abs, ab, h, i1, i2, f9, sm, tupL]
  · simp [sF, d1, d2, -bi_abs, ab, h, f9, sm, tupL]
theorem tgG {h : Int} {t0 n3 n4 n5 n6 n7 n8 n9 n10 n11 n12 n13 n14 : Option Vl} (dv : bin .fdiv (.int m) (.int 2) = some (.im (.int h))) (f12 : F 12 [.ow T, .im (.int h)] = .ok (.ow P, [some (.ow T), some (.im (.int h))])) (f13 : F 13 [.im (.tup T), .im (.int h)] = .ok (.im (.tup P), [some (.im (.tup T)), some (.im (.int h))])) (sm : F 2 [.im (.tup P), .im (.tup P)] = .ok (.im (.bl true), [some (.im (.tup P)), some (.im (.tup P))])) :
    execs F loc (sG ss) [t0, some (.im (.int m)), some (.ow T), n3, n4, n5, n6, n7, n8, n9, n10, n11, n12, n13, n14] = execs F loc ss [t0, some (.im (.int m)), some (.ow T), n3, n4, n5, n6, n7, n8, n9, n10, n11, some (.im (.int h)), some (.ow P), n14] := by
  simp [sG, dv, f12, f13, sm, tupL]
theorem fo1 {k h : Int} {b : Bool} {L : List D} {t0 t1 t2 n4 n5 n6 n7 n8 n9 n10 n11 n14 : Option Vl} (ne : P.isEmpty = false) (lk : F 22 [.im (.int k), .im (.int h)] = .ok (.ow L, [some (.im (.int k)), some (.im (.int h))])) (ce : cmpD .eq (.lst L) (.lst P) = some b) :
    compF F [3] (.v 3) (.some foC) (.var 3) (.int k) [t0, t1, t2, none, n4, n5, n6, n7, n8, n9, n10, n11, some (.im (.int h)), some (.ow P), n14] = .ok (if b then some (.int k) else none, [t0, t1, t2, none, n4, n5, n6, n7, n8, n9, n10, n11, some (.im (.int h)), some (.ow P), n14]) := by
  have t : truth (.lst P) = some true := by show some (!P.isEmpty) = _; rw [ne]; rfl
  cases b <;> simp [compF, foC, t, lk, ce, wipeE]
theorem fo2 {k h : Int} {t0 t1 t2 n4 n5 n6 n7 n8 n9 n10 n11 n14 : Option Vl} (ne : P.isEmpty = true) :
    compF F [3] (.v 3) (.some foC) (.var 3) (.int k) [t0, t1, t2, none, n4, n5, n6, n7, n8, n9, n10, n11, some (.im (.int h)), some (.ow P), n14] = .ok (none, [t0, t1, t2, none, n4, n5, n6, n7, n8, n9, n10, n11, some (.im (.int h)), some (.ow P), n14]) := by
  have t : truth (.lst P) = some false := by show some (!P.isEmpty) = _; rw [ne]; rfl
  simp [compF, foC, t, wipeE]
theorem tgH {h : Int} {j : D} {xs K : List D} {t1 n3 n4 n5 n6 n7 n8 n9 n10 n11 n14 : Option Vl} (mm : bin .mul (.int 2) (.int h) = some (.im (.int (2 * h)))) (hr : rngOf [.int (2 * h + 1)] = some xs)
    (hc : compL (compF F [3] (.v 3) (.some foC) (.var 3)) xs [some (.ow S), t1, some (.ow T), none, n4, n5, n6, n7, n8, n9, n10, n11, some (.im (.int h)), some (.ow P), n14] = .ok (K, [some (.ow S), t1, some (.ow T), none, n4, n5, n6, n7, n8, n9, n10, n11, some (.im (.int h)), some (.ow P), n14])) (l : K.length ≤ listLim)
    (hj : (P.isEmpty = true ∧ j = .tup [.str "right"]) ∨ (P.isEmpty = false ∧ K = [] ∧ j = .tup [.str "more"]) ∨ (P.isEmpty = false ∧ ∃ k rest, K = k :: rest ∧ j = .tup [.str "one", k]))
    (f15 : F 15 [.im (.tup T), .im (.int h)] = .ok (.im j, [some (.im (.tup T)), some (.im (.int h))])) (sm : F 2 [.im j, .im j] = .ok (.im (.bl true), [some (.im j), some (.im j)])) :
    execs F loc sH [some (.ow S), t1, some (.ow T), n3, n4, n5, n6, n7, n8, n9, n10, n11, some (.im (.int h)), some (.ow P), n14] = .ok (.rt (.im (.bl true)), [some (.ow S), t1, some (.ow T), n3, n4, n5, some (.im j), n7, n8, n9, n10, n11, some (.im (.int h)), some (.ow P), some (.ow K)]) := by
  have l1 : 1 ≤ listLim := lim_ok (by omega)
  have l2 : 2 ≤ listLim := lim_ok (by omega)
  rcases hj with ⟨ne, rfl⟩ | ⟨ne, rfl, rfl⟩ | ⟨ne, k, rest, rfl, rfl⟩
  · have t : truth (.lst P) = some false := by show some (!P.isEmpty) = _; rw [ne]; rfl
    simp [sH, mm, hr, hc, l, wipeE, backE, t, l1, f15, sm, tupL]
  · have t : truth (.lst P) = some true := by show some (!P.isEmpty) = _; rw [ne]; rfl
    have t2 : truth (.lst []) = some false := rfl
    simp [sH, mm, hr, hc, l, wipeE, backE, t, t2, l1, f15, sm, tupL]
  · have t : truth (.lst P) = some true := by show some (!P.isEmpty) = _; rw [ne]; rfl
    have t2 : truth (.lst (k :: rest)) = some true := rfl
    have i1 : ixD (.lst (k :: rest)) (.int 0) = some k := ix_nat (k := 0) (by simp)
    have l' : rest.length + 1 ≤ listLim := l
    simp [sH, mm, hr, hc, l', wipeE, backE, t, t2, i1, l2, f15, sm, tupL]
end
end K23

set_option linter.all false
set_option maxHeartbeats 2000000
set_option maxRecDepth 100000
namespace K23
open PySem RB
noncomputable abbrev F23 : Fns := Fl [f0, f1, f2, f3, f4, f5, f6, f7, f8, f9, f10, f11, f12, f13, f14, f15, f16, f17, f18, f19, f20, f21, f22]
theorem pickM {S : List D} (w : Wf S) : ∃ (m : Nat) (S1 : List D), m ≤ 80 ∧ Wf S1 ∧ f10 [.ow S, .ow [.int 0, .int 1, .int 7, .int 40, .int 80]] = .ok (.im (.int m), [some (.ow S1), some (.ow [.int 0, .int 1, .int 7, .int 40, .int 80])]) := by
  obtain ⟨j, hj, S1, w1, e1⟩ := pickF (v := .ow [.int 0, .int 1, .int 7, .int 40, .int 80]) w rfl (by decide) (by decide)
  match j, hj, e1 with
  | 0, _, e1 => exact ⟨0, S1, by decide, w1, e1⟩
  | 1, _, e1 => exact ⟨1, S1, by decide, w1, e1⟩
  | 2, _, e1 => exact ⟨7, S1, by decide, w1, e1⟩
  | 3, _, e1 => exact ⟨40, S1, by decide, w1, e1⟩
  | 4, _, e1 => exact ⟨80, S1, by decide, w1, e1⟩
theorem pickQ {S : List D} (w : Wf S) : ∃ (q : Int) (S1 : List D), -1 ≤ q ∧ q ≤ 100 ∧ Wf S1 ∧ f10 [.ow S, .ow [.int 1, .int (-1), .int 7, .int 100]] = .ok (.im (.int q), [some (.ow S1), some (.ow [.int 1, .int (-1), .int 7, .int 100])]) := by
  obtain ⟨j, hj, S1, w1, e1⟩ := pickF (v := .ow [.int 1, .int (-1), .int 7, .int 100]) w rfl (by decide) (by decide)
  match j, hj, e1 with
  | 0, _, e1 => exact ⟨1, S1, by decide, by decide, w1, e1⟩
  | 1, _, e1 => exact ⟨-1, S1, by decide, by decide, w1, e1⟩
  | 2, _, e1 => exact ⟨7, S1, by decide, by decide, w1, e1⟩
  | 3, _, e1 => exact ⟨100, S1, by decide, by decide, w1, e1⟩
theorem putR {r : List Int} {k : Nat} {v : Int} (h : k < r.length) : putIx (r.map D.int) (k : Int) (.int v) = some ((r.set k v).map D.int) := by
  rw [put_nat (by simpa using h), List.map_set]
/-- entries within bounds -/
def Bd (r : List Int) (B : Int) : Prop := ∀ n ∈ r, 0 ≤ n ∧ n ≤ B
theorem Bd.rd {r : List Int} {B : Int} (h : Bd r B) {k : Nat} (hk : k < r.length) : 0 ≤ rd r k ∧ rd r k ≤ B := by
  rw [← rd_get hk]
  exact h _ (List.getElem_mem hk)
theorem muTurn {S : List D} {r : List Int} {m : Nat} {B : Int} {d : D} {x3 x4 : Option Vl} (w : Wf S) (hl : r.length = m + 1) (hm : m ≤ 80) (hb : Bd r B) (hB : 0 ≤ B) :
    ∃ S' r' y3 y4, Wf S' ∧ r'.length = m + 1 ∧ Bd r' (B + 100) ∧ forF F23 (locOf 1 []) (.v 3) muB d [some (.ow S), some (.im (.int m)), some (.ow (r.map D.int)), x3, x4, none, none, none, none, none, none, none, none, none, none] = .ok (.nx, [some (.ow S'), some (.im (.int m)), some (.ow (r'.map D.int)), y3, y4, none, none, none, none, none, none, none, none, none, none]) := by
  obtain ⟨a, S1, a0, a1, w1, e1⟩ := drawF (m := (m : Int) + 1) w (by omega) (.inl (by omega))
  obtain ⟨q, S2, q0, q1, w2, e2⟩ := pickQ w1
  obtain ⟨a, rfl⟩ := Int.eq_ofNat_of_zero_le a0
  have ha : a < r.length := by omega
  have hr := hb.rd ha
  have mx : biD .max [.lst [.int 0, .int (rd r a + q)]] = some (.im (.int (max 0 (rd r a + q)))) := rfl
  refine ⟨S2, r.set a (max 0 (rd r a + q)), _, _, w2, by simpa using hl, ?_, mu1 e1 e2 (ixRL ha) mx (putR ha)⟩
  intro n hn
  rcases List.mem_or_eq_of_mem_set hn with h | h
  · have := hb n h
    omega
  · omega
theorem muLoop : ∀ (xs : List D) {S : List D} {r : List Int} {m : Nat} {B : Int} {x3 x4 : Option Vl}, Wf S → r.length = m + 1 → m ≤ 80 → Bd r B → 0 ≤ B →
    ∃ S' r' y3 y4, Wf S' ∧ r'.length = m + 1 ∧ Bd r' (B + 100 * xs.length) ∧ forL (forF F23 (locOf 1 []) (.v 3) muB) xs [some (.ow S), some (.im (.int m)), some (.ow (r.map D.int)), x3, x4, none, none, none, none, none, none, none, none, none, none] = .ok (.nx, [some (.ow S'), some (.im (.int m)), some (.ow (r'.map D.int)), y3, y4, none, none, none, none, none, none, none, none, none, none])
  | [], S, r, m, B, x3, x4, w, hl, hm, hb, hB => ⟨S, r, x3, x4, w, hl, fun n hn => by have := hb n hn; simp; omega, rfl⟩
  | x :: xs, S, r, m, B, x3, x4, w, hl, hm, hb, hB => by
    obtain ⟨S1, r1, y3, y4, w1, l1, b1, e1⟩ := muTurn (d := x) (x3 := x3) (x4 := x4) w hl hm hb hB
    obtain ⟨S2, r2, z3, z4, w2, l2, b2, e2⟩ := muLoop xs (x3 := y3) (x4 := y4) w1 l1 hm b1 (by omega)
    refine ⟨S2, r2, z3, z4, w2, l2, fun n hn => ?_, ?_⟩
    · have := b2 n hn
      rw [List.length_cons]
      omega
    · simp only [forL, e1, R.bind_ok]
      exact e2
theorem sq_80 {k : Nat} (h : k ≤ 80) : 0 ≤ sq k ∧ sq k ≤ 1600 := by
  refine ⟨sq_nn k, ?_⟩
  unfold sq
  have := sq_bd (a := k) (b := k) (by omega) (by omega) (by omega) (by omega)
  have : (k : Int) * k ≤ 80 * 80 := Int.mul_le_mul (by omega) (by omega) (by omega) (by omega)
  omega
theorem good_bd {n : Nat} (h : n ≤ 81) : Bd (good n) 1600 := fun x hx => by
  obtain ⟨k, hk, rfl⟩ := List.mem_map.mp hx
  have hk : k < n := by simpa using hk
  exact sq_80 (by omega)
theorem ints_sm {r : List Int} {B : Int} (h : ∀ n ∈ r, -(10 ^ 30) ≤ n ∧ n ≤ 10 ^ 30) : ∀ x ∈ r.map D.int, Sm x 40 0 := fun x hx => by
  obtain ⟨n, hn, rfl⟩ := List.mem_map.mp hx
  exact Sm.int (h n hn).1 (h n hn).2
theorem good_sm {n : Nat} (h : n ≤ 81) : ∀ x ∈ (good n).map D.int, Sm x 40 0 := ints_sm (B := 0) fun x hx => by
  have := good_bd h x hx
  omega
theorem wrongs_sm {r : List Int} {B : Int} (hl : r.length ≤ 81) (hb : Bd r B) (hB : B ≤ 1000000) : ∀ x ∈ wrongs r, Sm x 88 1 := fun x hx => by
  obtain ⟨k, hk, h⟩ := List.mem_filterMap.mp hx
  have hk : k < r.length := by simpa using hk
  have a := hb.rd hk
  have b := sq_80 (k := k) (by omega)
  split at h
  · cases h
  · cases h
    exact (Sm.tup (n := 2) (w := 40) (e := 0) (all2 (Sm.int (by omega) (by omega)) (Sm.int (by omega) (by omega))) (by simp)).mono (by decide) (by decide)
theorem right_sm : Sm (.tup [.str "right"]) 100 1 := ⟨by decide +kernel, by decide +kernel, by decide +kernel⟩
theorem more_sm : Sm (.tup [.str "more"]) 100 1 := ⟨by decide +kernel, by decide +kernel, by decide +kernel⟩
theorem str_wrong : Sm (.str "wrong") 40 0 := ⟨by decide +kernel, by decide +kernel, by decide +kernel⟩
theorem str_one : Sm (.str "one") 40 0 := ⟨by decide +kernel, by decide +kernel, by decide +kernel⟩
/-- the two ways of wrongs -/
theorem wrongs_two (r : List Int) : (wrongs r = [] ∧ judged (wrongs r) = .tup [.str "right"]) ∨ (∃ (k : Nat) (q : D) (rest : List D), wrongs r = .tup [.int k, q] :: rest ∧ judged (wrongs r) = .tup [.str "wrong", .int k] ∧ k < r.length) := by
  cases hh : wrongs r with
  | nil => exact .inl ⟨rfl, rfl⟩
  | cons z rest =>
    have : z ∈ wrongs r := by rw [hh]; exact List.mem_cons_self
    obtain ⟨k, hk, h⟩ := List.mem_filterMap.mp this
    have hk : k < r.length := by simpa using hk
    split at h
    · cases h
    · cases h
      exact .inr ⟨k, _, rest, rfl, rfl, hk⟩
theorem judged_sm {r : List Int} (hl : r.length ≤ 81) : Sm (judged (wrongs r)) 100 1 := by
  rcases wrongs_two r with ⟨_, h⟩ | ⟨k, q, rest, _, h, hk⟩
  · rw [h]; exact right_sm
  · rw [h]
    exact (Sm.tup (n := 2) (w := 40) (e := 0) (all2 str_wrong (Sm.int (by omega) (by omega))) (by simp)).mono (by decide) (by decide)
/-- the steps -/
def gaps (r : List Int) : List D := (List.range (r.length - 1)).map fun k => .int (rd r (k + 1) - rd r k)
theorem band1 : ∀ k : Nat, k < 128 → bin .band (.int (k : Int)) (.int 1) = some (.im (.int ((k : Int) % 2))) := by
  have h : ∀ k : Fin 128, Builtin.bitAnd ((k.val : Nat) : Int) 1 = ((k.val : Nat) : Int) % 2 := by decide +kernel
  intro k hk
  show some (Rf.im (.int (Builtin.bitAnd (k : Int) 1))) = _
  rw [h ⟨k, hk⟩]
end K23

set_option linter.all false
set_option maxHeartbeats 2000000
set_option maxRecDepth 100000
namespace K23
open PySem RB
theorem F23_1 : F23 1 = f1 := rfl
theorem F23_2 : F23 2 = f2 := rfl
theorem F23_9 : F23 9 = f9 := rfl
theorem F23_10 : F23 10 = f10 := rfl
theorem F23_11 : F23 11 = f11 := rfl
theorem F23_12 : F23 12 = f12 := rfl
theorem F23_13 : F23 13 = f13 := rfl
theorem F23_15 : F23 15 = f15 := rfl
theorem F23_16 : F23 16 = f16 := rfl
theorem F23_17 : F23 17 = f17 := rfl
theorem F23_18 : F23 18 = f18 := rfl
theorem F23_19 : F23 19 = f19 := rfl
theorem F23_20 : F23 20 = f20 := rfl
theorem F23_21 : F23 21 = f21 := rfl
theorem F23_22 : F23 22 = f22 := rfl
theorem f23_eq : f23 = fnOf F23 1 15 [] d23.body := rfl
section
variable {loc : Nat → Bool} {ss : Ss} {S : List D} {r : List Int} {m : Nat}
/-- what stage B leaves -/
structure Gd (r : List Int) (m : Nat) : Prop where
  l : r.length = m + 1
  m : m ≤ 80
  b : Bd r 1000000
theorem Gd.tabl (h : Gd r m) : Tabl r := ⟨by have := h.l; omega, by have := h.l; have := h.m; omega, fun n hn => (h.b n hn).1⟩
theorem hA (w : Wf S) : ∃ (m : Nat) (S1 : List D), m ≤ 80 ∧ Wf S1 ∧ ∀ ss, execs F23 loc (sA ss) [some (.ow S), none, none, none, none, none, none, none, none, none, none, none, none, none, none] = execs F23 loc ss [some (.ow S1), some (.im (.int m)), some (.ow ((good (m + 1)).map D.int)), none, none, none, none, none, none, none, none, none, none, none, none] := by
  obtain ⟨m, S1, hm, w1, e1⟩ := pickM w
  have fd : Fine (.tup ((good (m + 1)).map D.int)) := (Sm.tup (n := 81) (good_sm (by omega)) (by rw [List.length_map, good_len]; omega)).fine
  exact ⟨m, S1, hm, w1, fun ss => tgA (by rw [F23_10]; exact e1) (by rw [F23_11]; exact law_table (by omega)) (by rw [F23_16]; exact table (by omega)) (by rw [F23_2]; exact sameF rfl rfl fd)⟩
theorem hB (w : Wf S) (hm : m ≤ 80) : ∃ S' r x3 x4, Wf S' ∧ Gd r m ∧ ∀ ss, execs F23 (locOf 1 []) (sB ss) [some (.ow S), some (.im (.int m)), some (.ow ((good (m + 1)).map D.int)), none, none, none, none, none, none, none, none, none, none, none, none] = execs F23 (locOf 1 []) ss [some (.ow S'), some (.im (.int m)), some (.ow (r.map D.int)), x3, x4, none, none, none, none, none, none, none, none, none, none] := by
  obtain ⟨c, S1, c0, c1, w1, e1⟩ := drawF (m := 4) w (by decide) (.inl (by decide))
  obtain ⟨c, rfl⟩ := Int.eq_ofNat_of_zero_le c0
  obtain ⟨S2, r, y3, y4, w2, l2, b2, e2⟩ := muLoop ((List.range c).map fun k : Nat => D.int k) (x3 := none) (x4 := none) w1 (good_len (n := m + 1)) hm (good_bd (by omega)) (by decide)
  refine ⟨S2, r, y3, y4, w2, ⟨l2, hm, fun n hn => ?_⟩, fun ss => tgB (by rw [F23_1]; exact e1) (rng1 (m := c) rfl (by omega)) e2⟩
  have := b2 n hn
  rw [List.length_map, List.length_range] at this
  omega
theorem hC (h : Gd r m) {t0 x3 x4 : Option Vl} : execs F23 loc (sC ss) [t0, some (.im (.int m)), some (.ow (r.map D.int)), x3, x4, none, none, none, none, none, none, none, none, none, none] = execs F23 loc ss [t0, some (.im (.int m)), some (.ow (r.map D.int)), x3, x4, some (.ow (wrongs r)), some (.im (judged (wrongs r))), none, none, none, none, none, none, none, none] := by
  have hl := h.l
  have hm := h.m
  refine tgC (rng1 (n := (m : Int) + 1) (m := m + 1) (by omega) (by omega)) ?_ (lim_ok (by have := wrongs_len (r := r); omega)) ?_
  · rw [compL_on (g := fun k : Nat => if rd r k = sq k then none else some (.tup [.int k, .int (rd r k - sq k)]))]
    · unfold wrongs; rw [hl]
    · intro k hk
      have hk : k < m + 1 := by simpa using hk
      exact wr1 (ixRL (by omega)) (mulS (by omega)) div4
  · rcases wrongs_two r with ⟨a, b⟩ | ⟨k, q, rest, a, b, _⟩
    · exact .inl ⟨a, b⟩
    · exact .inr ⟨_, _, _, a, b⟩
theorem hD (h : Gd r m) {t0 n3 n4 n7 n8 n9 n10 n11 n12 n13 n14 : Option Vl} : execs F23 loc (sD ss) [t0, some (.im (.int m)), some (.ow (r.map D.int)), n3, n4, some (.ow (wrongs r)), some (.im (judged (wrongs r))), n7, n8, n9, n10, n11, n12, n13, n14] = execs F23 loc ss [t0, some (.im (.int m)), some (.ow (r.map D.int)), n3, n4, some (.ow (wrongs r)), some (.im (judged (wrongs r))), n7, n8, n9, n10, n11, n12, n13, n14] := by
  have hl := h.l
  have hm := h.m
  have wl := wrongs_len (r := r)
  have f19 := mended h.tabl
  rw [hl] at f19
  have s2 := Sm.tup (n := 81) (wrongs_sm (r := r) (by omega) h.b (by decide)) (by omega)
  have s3 := Sm.tup (n := 2) (w := 5000) (e := 1) (all2 ((Sm.tup (n := 81) (good_sm (n := m + 1) (by omega)) (by rw [List.length_map, good_len]; omega)).mono (by decide) (by decide)) ((Sm.int (i := (wrongs r).length) (by omega) (by omega)).mono (by decide) (by decide))) (by simp)
  have fd : Fine (.lst [judged (wrongs r), .tup (wrongs r), .tup [.tup ((good (m + 1)).map D.int), .int (wrongs r).length]]) := (Sm.lst (n := 3) (w := 20000) (e := 3) (all3 ((judged_sm (by omega)).mono (by decide) (by decide)) (s2.mono (by decide) (by decide)) (s3.mono (by decide) (by decide))) (by simp)).fine
  exact tgD (by rw [F23_17]; exact judge h.tabl) (by rw [F23_18]; exact faults h.tabl) (by rw [F23_19]; exact f19) (by rw [F23_11]; exact law_table (by omega)) bi_lenL (by rw [F23_2]; exact sameF rfl rfl fd)
theorem bent_fm (hl : r.length = m + 1) : ((List.range (m - 1)).filterMap fun k => if rd r (k + 2) - rd r (k + 1) - (rd r (k + 1) - rd r k) = ((k + 1 : Nat) : Int) % 2 then none else some (D.int ((k + 1 : Nat) : Int))) = bent r := by
  unfold bent
  rw [show r.length - 2 = m - 1 by omega]
  apply fm_flat
  intro k
  by_cases h : rd r (k + 2) - 2 * rd r (k + 1) + rd r k = ((k + 1 : Nat) : Int) % 2
  · rw [if_pos h, if_pos (by omega)]; rfl
  · rw [if_neg h, if_neg (by omega)]; rfl
theorem gaps_ix (hl : r.length = m + 1) {k : Nat} (hk : k < m) : ixD (.lst (gaps r)) (.int (k : Int)) = some (.int (rd r (k + 1) - rd r k)) := by
  rw [ix_nat (by simp [gaps]; omega)]
  simp [gaps]
theorem hE (h : Gd r m) {t0 n3 n4 n5 n6 n7 n8 n9 n10 n11 n12 n13 n14 : Option Vl} : execs F23 loc (sE ss) [t0, some (.im (.int m)), some (.ow (r.map D.int)), n3, n4, n5, n6, n7, n8, n9, n10, n11, n12, n13, n14] = execs F23 loc ss [t0, some (.im (.int m)), some (.ow (r.map D.int)), n3, n4, n5, n6, some (.ow (gaps r)), some (.ow (bent r)), n9, n10, n11, n12, n13, n14] := by
  have hl := h.l
  have hm := h.m
  have gl : (gaps r).length = m := by simp [gaps, hl]
  have bl : (bent r).length ≤ m := by
    rw [← bent_fm hl]
    have := List.length_filterMap_le (fun k => if rd r (k + 2) - rd r (k + 1) - (rd r (k + 1) - rd r k) = ((k + 1 : Nat) : Int) % 2 then none else some (D.int ((k + 1 : Nat) : Int))) (List.range (m - 1))
    rw [List.length_range] at this
    omega
  have g1 : ∀ x ∈ gaps r, Sm x 40 0 := fun x hx => by
    obtain ⟨k, hk, rfl⟩ := List.mem_map.mp hx
    have hk : k < r.length - 1 := by simpa using hk
    have a := h.b.rd (k := k + 1) (by omega)
    have b := h.b.rd (k := k) (by omega)
    exact Sm.int (by omega) (by omega)
  have b1 : ∀ x ∈ bent r, Sm x 40 0 := fun x hx => by
    rw [← bent_fm hl] at hx
    obtain ⟨k, hk, hx⟩ := List.mem_filterMap.mp hx
    have hk : k < m - 1 := by simpa using hk
    split at hx
    · cases hx
    · cases hx
      exact Sm.int (by omega) (by omega)
  have fd : Fine (.lst [.tup (gaps r), .tup (bent r)]) := (Sm.lst (n := 2) (w := 5000) (e := 3) (all2 ((Sm.tup (n := 81) g1 (by omega)).mono (by decide) (by decide)) ((Sm.tup (n := 81) b1 (by omega)).mono (by decide) (by decide))) (by simp)).fine
  refine tgE (rng1 (m := m) rfl (by omega)) (G := gaps r) ?_ (lim_ok (by omega)) (rng2' (m := m - 1) (by omega) (by decide) (by decide) (by omega) (by omega)) (B := bent r) ?_ (lim_ok (by omega)) (by rw [F23_20]; exact steps h.tabl) (by rw [F23_21]; exact bends h.tabl fun n hn => by have := h.b n hn; omega) (by rw [F23_2]; exact sameF rfl rfl fd)
  · rw [compL_on (g := fun k : Nat => some (.int (rd r (k + 1) - rd r k)))]
    · simp [gaps, hl]
    · intro k hk
      have hk : k < m := by simpa using hk
      exact gp1 (by have := ixRL (r := r) (k := k + 1) (by omega); push_cast at this; exact this) (ixRL (by omega))
  · rw [compL_on (g := fun k : Nat => if rd r (k + 2) - rd r (k + 1) - (rd r (k + 1) - rd r k) = ((k + 1 : Nat) : Int) % 2 then none else some (D.int ((k + 1 : Nat) : Int)))]
    · rw [bent_fm hl]
    · intro k hk
      have hk : k < m - 1 := by simpa using hk
      have c1 : (1 + (k : Int)) = ((k + 1 : Nat) : Int) := by omega
      have c0 : (1 + (k : Int) - 1) = (k : Int) := by omega
      have := bn1 (F := F23) (G := gaps r) (k := 1 + (k : Int)) (p := rd r (k + 1 + 1) - rd r (k + 1)) (q := rd r (k + 1) - rd r k) (o := ((k + 1 : Nat) : Int) % 2) (t0 := t0) (t1 := some (.im (.int m))) (t2 := some (.ow (r.map D.int))) (n4 := n4) (n5 := n5) (n6 := n6) (n8 := n8) (n9 := n9) (n10 := n10) (n11 := n11) (n12 := n12) (n13 := n13) (n14 := n14)
        (by rw [c1]; exact gaps_ix hl (by omega)) (by rw [c0]; exact gaps_ix hl (by omega)) (by rw [c1]; exact band1 (k + 1) (by omega))
      rw [c1] at this
      rw [c1]
      exact this
theorem hF (w : Wf S) (h : Gd r m) {n3 n4 n5 n6 n7 n8 n9 n10 n11 n12 n13 n14 : Option Vl} : ∃ S' y9 y10 y11, Wf S' ∧ ∀ ss, execs F23 loc (sF ss) [some (.ow S), some (.im (.int m)), some (.ow (r.map D.int)), n3, n4, n5, n6, n7, n8, n9, n10, n11, n12, n13, n14] = execs F23 loc ss [some (.ow S'), some (.im (.int m)), some (.ow (r.map D.int)), n3, n4, n5, n6, n7, n8, y9, y10, y11, n12, n13, n14] := by
  have hl := h.l
  have hm := h.m
  obtain ⟨a, S1, a0, a1, w1, e1⟩ := drawF (m := (m : Int) + 3) w (by omega) (.inl (by omega))
  obtain ⟨b, S2, b0, b1, w2, e2⟩ := drawF (m := (m : Int) + 3) w1 (by omega) (.inl (by omega))
  obtain ⟨a, rfl⟩ := Int.eq_ofNat_of_zero_le a0
  obtain ⟨b, rfl⟩ := Int.eq_ofNat_of_zero_le b0
  have pa := product_any (a := a) (b := b) h.tabl (by omega) (by omega)
  have ab : biD .abs [.int ((a : Int) - b)] = some (.im (.int (gap a b))) := by rw [bi_abs, gap_int]
  by_cases q : a + b < r.length
  · rw [if_pos q] at pa
    have hg : gap a b < r.length := by unfold gap; split <;> omega
    have x := h.b.rd q
    have y := h.b.rd hg
    have fd : Fine (.int (rd r (a + b) - rd r (gap a b))) := (Sm.int (by omega) (by omega)).fine
    refine ⟨S2, _, _, _, w2, fun ss => tgF (by rw [F23_1]; exact e1) (by rw [F23_1]; exact e2) ab (.inl ⟨by omega, _, _, ?_, ixRL hg, rfl⟩) (by rw [F23_9]; exact pa) (by rw [F23_2]; exact sameF rfl rfl fd)⟩
    have := ixRL q
    push_cast at this
    exact this
  · rw [if_neg q] at pa
    exact ⟨S2, _, _, _, w2, fun ss => tgF (by rw [F23_1]; exact e1) (by rw [F23_1]; exact e2) ab (.inr ⟨by omega, rfl⟩) (by rw [F23_9]; exact pa) (by rw [F23_2]; exact sameF rfl rfl Sm.non.fine)⟩
theorem hG (h : Gd r m) {t0 n3 n4 n5 n6 n7 n8 n9 n10 n11 n12 n13 n14 : Option Vl} : execs F23 loc (sG ss) [t0, some (.im (.int m)), some (.ow (r.map D.int)), n3, n4, n5, n6, n7, n8, n9, n10, n11, n12, n13, n14] = execs F23 loc ss [t0, some (.im (.int m)), some (.ow (r.map D.int)), n3, n4, n5, n6, n7, n8, n9, n10, n11, some (.im (.int ((m / 2 : Nat) : Int))), some (.ow (pairL (spP r) (m / 2))), n14] := by
  have hl := h.l
  have hm := h.m
  have dv : bin .fdiv (.int (m : Int)) (.int 2) = some (.im (.int ((m / 2 : Nat) : Int))) := by
    rw [div2]; rfl
  exact tgG dv (by rw [F23_12]; exact law_spoilt (by omega) (by omega)) (by rw [F23_13]; exact spoilt h.tabl (by omega) (by omega)) (by rw [F23_2]; exact sameF rfl rfl (pairT (by omega)))
theorem one_sm {P : List D} {b : Nat → Bool} {n : Nat} (hn : n ≤ 1000) : Sm (oneD P b n) 100 1 := by
  unfold oneD
  split
  · exact right_sm
  · split
    · rename_i k l hk
      have : k ∈ (List.range n).filter b := by rw [hk]; exact List.mem_cons_self
      have : k < n := by simpa using (List.mem_filter.mp this).1
      exact (Sm.tup (n := 2) (w := 40) (e := 0) (all2 str_one (Sm.int (by omega) (by omega))) (by simp)).mono (by decide) (by decide)
    · exact more_sm
theorem fm_filter {b : Nat → Bool} : ∀ l : List Nat, l.filterMap (fun k => if b k then some (D.int (k : Int)) else none) = (l.filter b).map fun k : Nat => D.int k
  | [] => rfl
  | k :: l => by
    by_cases h : b k = true
    · rw [List.filterMap_cons, List.filter_cons, if_pos h, if_pos h, fm_filter l]; rfl
    · rw [List.filterMap_cons, List.filter_cons, if_neg h, if_neg h, fm_filter l]
theorem hH (h : Gd r m) {t1 n3 n4 n5 n6 n7 n8 n9 n10 n11 n14 : Option Vl} : ∃ x6 x14, execs F23 loc sH [some (.ow S), t1, some (.ow (r.map D.int)), n3, n4, n5, n6, n7, n8, n9, n10, n11, some (.im (.int ((m / 2 : Nat) : Int))), some (.ow (pairL (spP r) (m / 2))), n14] =
    .ok (.rt (.im (.bl true)), [some (.ow S), t1, some (.ow (r.map D.int)), n3, n4, n5, x6, n7, n8, n9, n10, n11, some (.im (.int ((m / 2 : Nat) : Int))), some (.ow (pairL (spP r) (m / 2))), x14]) := by
  have hl := h.l
  have hm := h.m
  generalize hh : m / 2 = k at *
  have h2 : 2 * k < r.length := by omega
  have h4 : k ≤ 40 := by omega
  have of := one_fault h.tabl h2 h4
  have hr := rng1 (n := 2 * (k : Int) + 1) (m := 2 * k + 1) (by omega) (by omega)
  have fd := (one_sm (P := pairL (spP r) k) (b := lkB r k) (n := 2 * k + 1) (by omega)).fine
  by_cases q : (pairL (spP r) k).isEmpty = true
  · refine ⟨_, _, tgH (mulS (by omega)) hr (K := []) ?_ (lim_ok (by simp)) (.inl ⟨q, ?_⟩) (by rw [F23_15]; exact of) (by rw [F23_2]; exact sameF rfl rfl fd)⟩
    · rw [compL_on (g := fun _ : Nat => none)]
      · rw [List.filterMap_eq_nil_iff.mpr]; intro a _; rfl
      · intro j _
        exact fo2 q
    · unfold oneD; rw [if_pos q]
  · have q' : (pairL (spP r) k).isEmpty = false := by simpa using q
    refine ⟨_, _, tgH (mulS (by omega)) hr (K := ((List.range (2 * k + 1)).filter (lkB r k)).map fun j : Nat => D.int j) ?_ (lim_ok ?_) (.inr ?_) (by rw [F23_15]; exact of) (by rw [F23_2]; exact sameF rfl rfl fd)⟩
    · rw [compL_on (g := fun j : Nat => if lkB r k j then some (D.int (j : Int)) else none), fm_filter]
      intro j _
      exact fo1 q' (by rw [F23_22]; exact law_looks h4) (lk_eq h4)
    · rw [List.length_map]
      have := List.length_filter_le (lkB r k) (List.range (2 * k + 1))
      rw [List.length_range] at this
      omega
    · unfold oneD
      rw [if_neg q]
      cases (List.range (2 * k + 1)).filter (lkB r k) with
      | nil => exact .inl ⟨q', rfl, rfl⟩
      | cons j l => exact .inr ⟨q', _, _, rfl, rfl⟩
end
theorem tables_hold {S : List D} (w : Wf S) : ∃ S', Wf S' ∧ f23 [.ow S] = .ok (.im (.bl true), [some (.ow S')]) := by
  obtain ⟨m, S1, hm, w1, e1⟩ := hA (loc := locOf 1 []) w
  obtain ⟨S2, r, x3, x4, w2, g, e2⟩ := hB w1 hm
  have e3 := fun ss => hC (loc := locOf 1 []) (ss := ss) g (t0 := some (.ow S2)) (x3 := x3) (x4 := x4)
  have e4 := fun ss => hD (loc := locOf 1 []) (ss := ss) g (t0 := some (.ow S2)) (n3 := x3) (n4 := x4) (n7 := none) (n8 := none) (n9 := none) (n10 := none) (n11 := none) (n12 := none) (n13 := none) (n14 := none)
  have e5 := fun ss => hE (loc := locOf 1 []) (ss := ss) g (t0 := some (.ow S2)) (n3 := x3) (n4 := x4) (n5 := some (.ow (wrongs r))) (n6 := some (.im (judged (wrongs r)))) (n7 := none) (n8 := none) (n9 := none) (n10 := none) (n11 := none) (n12 := none) (n13 := none) (n14 := none)
  obtain ⟨S3, y9, y10, y11, w3, e6⟩ := hF (loc := locOf 1 []) w2 g (n3 := x3) (n4 := x4) (n5 := some (.ow (wrongs r))) (n6 := some (.im (judged (wrongs r)))) (n7 := some (.ow (gaps r))) (n8 := some (.ow (bent r))) (n9 := none) (n10 := none) (n11 := none) (n12 := none) (n13 := none) (n14 := none)
  have e7 := fun ss => hG (loc := locOf 1 []) (ss := ss) g (t0 := some (.ow S3)) (n3 := x3) (n4 := x4) (n5 := some (.ow (wrongs r))) (n6 := some (.im (judged (wrongs r)))) (n7 := some (.ow (gaps r))) (n8 := some (.ow (bent r))) (n9 := y9) (n10 := y10) (n11 := y11) (n12 := none) (n13 := none) (n14 := none)
  obtain ⟨x6, x14, e8⟩ := hH (loc := locOf 1 []) g (S := S3) (t1 := some (.im (.int m))) (n3 := x3) (n4 := x4) (n5 := some (.ow (wrongs r))) (n6 := some (.im (judged (wrongs r)))) (n7 := some (.ow (gaps r))) (n8 := some (.ow (bent r))) (n9 := y9) (n10 := y10) (n11 := y11) (n14 := none)
  refine ⟨S3, w3, ?_⟩
  rw [f23_eq, body23]
  have c := (e1 _).trans ((e2 _).trans ((e3 _).trans ((e4 _).trans ((e5 _).trans ((e6 _).trans ((e7 _).trans e8))))))
  have z := fn_rt (F := F23) (np := 1) (slots := 15) (lost := []) (vs := [.ow S]) (o := [some (.ow S3)]) rfl rfl c out1
  exact z
theorem law_true : LawTrue tbl 29 63 := ⟨fun ns _ => by
  have e : Fl (fnl tbl []) 29 = f29 := by rw [fnl_eq]; rfl
  rw [e, law_ok (fun _ w => tables_hold w) ns]
  rfl⟩
end K23

open PySem PySem.W PyProof.Rows
set_option maxRecDepth 100000 in
set_option maxHeartbeats 0 in
theorem PySem.Challenge.cw_rodsandbeads_k23_quarter_squares_holds : PySem.Challenge.rw_rodsandbeads_k23_quarter_squares.Holds := by
  w_on; o_law; k_head; (case hw => w_witness2)
  k_fill
  refine RB.walk_tab (l := PySem.Challenge.rw_rodsandbeads_k23_quarter_squares) (n := 63) (x := "script") rfl (by decide) rfl (fun w h Y => PySem.W.kIn_of Y) K23.tbl K23.cts K23.nol 29 K23.d29 rfl rfl rfl rfl ⟨rfl, by decide, by decide⟩ K23.chk ?F K23.law_true
  case F =>
    intro w mg h KX G
    refine' ⟨_, RB.AllF.get (.cons (.mkK (st := K23.topS 29) (x := "_law_start") KX G rfl rfl rfl K23.b0 ?a0 ?l0 ?c0 ?k0) (.cons (.mkK (st := K23.topS 30) (x := "_law_draw") KX G rfl rfl rfl K23.b1 ?a1 ?l1 ?c1 ?k1) (.cons (.mkK (st := K23.topS 32) (x := "_law_same") KX G rfl rfl rfl K23.b2 ?a2 ?l2 ?c2 ?k2) (.cons (.mkK (st := K23.topS 5) (x := "is_integer") KX G rfl rfl rfl K23.b3 ?a3 ?l3 ?c3 ?k3) (.cons (.mkK (st := K23.topS 12) (x := "is_table") KX G rfl rfl rfl K23.b4 ?a4 ?l4 ?c4 ?k4) (.cons (.mkK (st := K23.topS 13) (x := "check_table") KX G rfl rfl rfl K23.b5 ?a5 ?l5 ?c5 ?k5) (.cons (.mkK (st := K23.topS 9) (x := "check_number") KX G rfl rfl rfl K23.b6 ?a6 ?l6 ?c6 ?k6) (.cons (.mkK (st := K23.topS 14) (x := "entries") KX G rfl rfl rfl K23.b7 ?a7 ?l7 ?c7 ?k7) (.cons (.mkK (st := K23.topS 23) (x := "accept_product") KX G rfl rfl rfl K23.b8 ?a8 ?l8 ?c8 ?k8) (.cons (.mkK (st := K23.topS 15) (x := "product_by") KX G rfl rfl rfl K23.b9 ?a9 ?l9 ?c9 ?k9) (.cons (.mkK (st := K23.topS 31) (x := "_law_pick") KX G rfl rfl rfl K23.b10 ?a10 ?l10 ?c10 ?k10) (.cons (.mkK (st := K23.topS 33) (x := "_law_table") KX G rfl rfl rfl K23.b11 ?a11 ?l11 ?c11 ?k11) (.cons (.mkK (st := K23.topS 34) (x := "_law_spoilt") KX G rfl rfl rfl K23.b12 ?a12 ?l12 ?c12 ?k12) (.cons (.mkK (st := K23.topS 20) (x := "spoilt") KX G rfl rfl rfl K23.b13 ?a13 ?l13 ?c13 ?k13) (.cons (.mkK (st := K23.topS 22) (x := "looks") KX G rfl rfl rfl K23.b14 ?a14 ?l14 ?c14 ?k14) (.cons (.mkK (st := K23.topS 21) (x := "one_fault") KX G rfl rfl rfl K23.b15 ?a15 ?l15 ?c15 ?k15) (.cons (.mkK (st := K23.topS 11) (x := "table") KX G rfl rfl rfl K23.b16 ?a16 ?l16 ?c16 ?k16) (.cons (.mkK (st := K23.topS 16) (x := "judge_table") KX G rfl rfl rfl K23.b17 ?a17 ?l17 ?c17 ?k17) (.cons (.mkK (st := K23.topS 17) (x := "faults") KX G rfl rfl rfl K23.b18 ?a18 ?l18 ?c18 ?k18) (.cons (.mkK (st := K23.topS 27) (x := "mended") KX G rfl rfl rfl K23.b19 ?a19 ?l19 ?c19 ?k19) (.cons (.mkK (st := K23.topS 18) (x := "steps") KX G rfl rfl rfl K23.b20 ?a20 ?l20 ?c20 ?k20) (.cons (.mkK (st := K23.topS 19) (x := "bends") KX G rfl rfl rfl K23.b21 ?a21 ?l21 ?c21 ?k21) (.cons (.mkK (st := K23.topS 35) (x := "_law_looks") KX G rfl rfl rfl K23.b22 ?a22 ?l22 ?c22 ?k22) (.cons (.mkK (st := K23.topS 36) (x := "_law_tables_hold") KX G rfl rfl rfl K23.b23 ?a23 ?l23 ?c23 ?k23) (.cons (.mkK (st := K23.topS 24) (x := "by_triangles") KX G rfl rfl rfl K23.b24 ?a24 ?l24 ?c24 ?k24) (.cons (.mkK (st := K23.topS 10) (x := "quarter") KX G rfl rfl rfl K23.b25 ?a25 ?l25 ?c25 ?k25) (.cons (.mkK (st := K23.topS 25) (x := "triangular") KX G rfl rfl rfl K23.b26 ?a26 ?l26 ?c26 ?k26) (.cons (.mkK (st := K23.topS 26) (x := "shortest") KX G rfl rfl rfl K23.b27 ?a27 ?l27 ?c27 ?k27) (.cons (.mkK (st := K23.topS 37) (x := "_law_numbers_hold") KX G rfl rfl rfl K23.b28 ?a28 ?l28 ?c28 ?k28) (.cons (.mkK (st := K23.topS 38) (x := "law") KX G rfl rfl rfl K23.b29 ?a29 ?l29 ?c29 ?k29) .nil)))))))))))))))))))))))))))))), RB.AllC.get (.cons (.int (x := "MAX_DOWN") KX G ?m0) (.cons (.int (x := "MAX_NUMBER") KX G ?m1) .nil)), RB.AllN.get (.mk (x := "abs") KX G ?z0 (.mk (x := "all") KX G ?z1 (.mk (x := "bool") KX G ?z2 (.mk (x := "enumerate") KX G ?z3 (.mk (x := "int") KX G ?z4 (.mk (x := "isinstance") KX G ?z5 (.mk (x := "len") KX G ?z6 (.mk (x := "list") KX G ?z7 (.mk (x := "max") KX G ?z8 (.mk (x := "min") KX G ?z9 (.mk (x := "range") KX G ?z10 (.mk (x := "repr") KX G ?z11 (.mk (x := "tuple") KX G ?z12 .nil)))))))))))))⟩
    (case a0 => k_is); (case l0 => k_is); (case c0 => k_is); (case k0 => k_is)
    (case a1 => k_is); (case l1 => k_is); (case c1 => k_is); (case k1 => k_is)
    (case a2 => k_is); (case l2 => k_is); (case c2 => k_is); (case k2 => k_is)
    (case a3 => k_is); (case l3 => k_is); (case c3 => k_is); (case k3 => k_is)
    (case a4 => k_is); (case l4 => k_is); (case c4 => k_is); (case k4 => k_is)
    (case a5 => k_is); (case l5 => k_is); (case c5 => k_is); (case k5 => k_is)
    (case a6 => k_is); (case l6 => k_is); (case c6 => k_is); (case k6 => k_is)
    (case a7 => k_is); (case l7 => k_is); (case c7 => k_is); (case k7 => k_is)
    (case a8 => k_is); (case l8 => k_is); (case c8 => k_is); (case k8 => k_is)
    (case a9 => k_is); (case l9 => k_is); (case c9 => k_is); (case k9 => k_is)
    (case a10 => k_is); (case l10 => k_is); (case c10 => k_is); (case k10 => k_is)
    (case a11 => k_is); (case l11 => k_is); (case c11 => k_is); (case k11 => k_is)
    (case a12 => k_is); (case l12 => k_is); (case c12 => k_is); (case k12 => k_is)
    (case a13 => k_is); (case l13 => k_is); (case c13 => k_is); (case k13 => k_is)
    (case a14 => k_is); (case l14 => k_is); (case c14 => k_is); (case k14 => k_is)
    (case a15 => k_is); (case l15 => k_is); (case c15 => k_is); (case k15 => k_is)
    (case a16 => k_is); (case l16 => k_is); (case c16 => k_is); (case k16 => k_is)
    (case a17 => k_is); (case l17 => k_is); (case c17 => k_is); (case k17 => k_is)
    (case a18 => k_is); (case l18 => k_is); (case c18 => k_is); (case k18 => k_is)
    (case a19 => k_is); (case l19 => k_is); (case c19 => k_is); (case k19 => k_is)
    (case a20 => k_is); (case l20 => k_is); (case c20 => k_is); (case k20 => k_is)
    (case a21 => k_is); (case l21 => k_is); (case c21 => k_is); (case k21 => k_is)
    (case a22 => k_is); (case l22 => k_is); (case c22 => k_is); (case k22 => k_is)
    (case a23 => k_is); (case l23 => k_is); (case c23 => k_is); (case k23 => k_is)
    (case a24 => k_is); (case l24 => k_is); (case c24 => k_is); (case k24 => k_is)
    (case a25 => k_is); (case l25 => k_is); (case c25 => k_is); (case k25 => k_is)
    (case a26 => k_is); (case l26 => k_is); (case c26 => k_is); (case k26 => k_is)
    (case a27 => k_is); (case l27 => k_is); (case c27 => k_is); (case k27 => k_is)
    (case a28 => k_is); (case l28 => k_is); (case c28 => k_is); (case k28 => k_is)
    (case a29 => k_is); (case l29 => k_is); (case c29 => k_is); (case k29 => k_is)
    (case m0 => k_is)
    (case m1 => k_is)
    (case z0 => k_is)
    (case z1 => k_is)
    (case z2 => k_is)
    (case z3 => k_is)
    (case z4 => k_is)
    (case z5 => k_is)
    (case z6 => k_is)
    (case z7 => k_is)
    (case z8 => k_is)
    (case z9 => k_is)
    (case z10 => k_is)
    (case z11 => k_is)
    (case z12 => k_is)
