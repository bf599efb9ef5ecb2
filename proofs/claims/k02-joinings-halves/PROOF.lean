import PyProof.Rows.All
import Wide.All
import OpenK.AllK
import Wide.FinOn
import HandS.ForMost
import HandS.IsInst
import HandS.Wide
import HandS.SortInts
import HandS.Conv
import HandS.TupAny
import HandS.Deep
import HandS.TupLe
import HandS.Zip
import HandS.Flow
import HandS.CallLocal
import HandS.Exc
import HandS.TryOnly
import HandS.ExcOwn
import HandS.WordsExc
import KE.GoesMore
import KE.GoesEnum
import HandS.Small
import HandS.Style
import HandS.Defaults
import HandS.HeadEnd
import HandS.EndBits
import HandS.Codes
import HandS.Head0
import HandS.Head1
import HandS.Head2
import HandS.HeadHook1
import HandS.HeadHook2
import PySem.Challenge.RW_archesjoined_k02_whole_joinings_and_halv
section
set_option Elab.async false
set_option autoImplicit false
set_option linter.all false
set_option maxRecDepth 100000
namespace PF
open PySem PySem.Spec PyProof.Rows L2

/-- a value without addresses -/
inductive U where
  | non | bl (b : Bool) | int (i : Int) | str (s : Str)
  | tup (xs : List U) | lst (xs : List U)
  | dic (ks : List (Key × U))
  | fn (i : Nat)
  | scr (xs : List U)

/-- what a name's place holds: nothing, a value that nobody changes, a container that this name alone holds (pin: handed in by a caller), a loan of the name i -/
inductive Slot where
  | emp | val (u : U) | own (u : U) (pin : Bool) | bor (i : Nat)

abbrev En := List Slot

structure Exn where
  cls : Nat
  arg : List U

inductive Res (α : Type) where
  | ok (a : α) | exc (x : Exn) (env : En) | bad

def Res.bind {α β : Type} (r : Res α) (f : α → Res β) : Res β := match r with
  | .ok a => f a
  | .exc x e => .exc x e
  | .bad => .bad
@[simp] theorem Res.bind_ok {α β : Type} (a : α) (f : α → Res β) : (Res.ok a).bind f = f a := rfl
@[simp] theorem Res.bind_exc {α β : Type} (x : Exn) (e : En) (f : α → Res β) : (Res.exc x e : Res α).bind f = .exc x e := rfl
@[simp] theorem Res.bind_bad {α β : Type} (f : α → Res β) : (Res.bad : Res α).bind f = .bad := rfl
def Res.of {α : Type} : Option α → Res α
  | some a => .ok a
  | none => .bad
@[simp] theorem Res.of_some {α : Type} (a : α) : Res.of (some a) = .ok a := rfl
@[simp] theorem Res.of_none {α : Type} : Res.of (none : Option α) = .bad := rfl

/-- the defs: by number, from the places of the parameters to the answer and the places behind the call -/
abbrev Den := Nat → List Slot → Res (Slot × List Slot)

structure Gx where
  modes : Nat → Option (List Bool)
  cst : List U
  den : Den

inductive BOp where | add | sub | mul | fdiv | mod | pow
inductive COp where | eq | ne | lt | le | gt | ge | is | isnot | isin | notin
inductive Blt where | len | abs | max2 | min2 | sum | all | any | int | list | tuple | sorted | str
inductive ItK where | plain | rng1 | rng2 | rng3 | enum | zip

mutual
def U.eq : U → U → Bool
  | .non, .non => true
  | .bl a, .bl b => a == b
  | .bl a, .int j => (if a then 1 else 0) == j
  | .int i, .bl b => i == (if b then 1 else 0)
  | .int i, .int j => i == j
  | .str x, .str y => x == y
  | .lst xs, .lst ys => U.eqs xs ys
  | .tup xs, .tup ys => U.eqs xs ys
  | _, _ => false
def U.eqs : List U → List U → Bool
  | [], [] => true
  | x :: xs, y :: ys => U.eq x y && U.eqs xs ys
  | _, _ => false
end
mutual
/-- how deep data are; 1000 for what is none -/
def U.dep : U → Nat
  | .non | .bl _ | .int _ => 0
  | .str x => if PyData.strOk x then 0 else 1000
  | .lst xs | .tup xs => U.deps xs + 1
  | .dic _ | .fn _ | .scr _ => 1000
def U.deps : List U → Nat
  | [] => 0
  | x :: xs => max (U.dep x) (U.deps xs)
end
def U.data (u : U) : Bool := decide (u.dep ≤ 64)
def U.flat : U → Bool
  | .non | .bl _ | .int _ | .str _ => true
  | _ => false
def U.ints : List U → Option (List Int)
  | [] => some []
  | .int i :: r => (U.ints r).map (i :: ·)
  | _ :: _ => none
def U.bls : List U → Option (List Bool)
  | [] => some []
  | .bl i :: r => (U.bls r).map (i :: ·)
  | _ :: _ => none
/-- truth -/
def U.tru : U → Option Bool
  | .non => some false
  | .bl b => some b
  | .int i => some (i != 0)
  | .str s => if s.length ≤ sizeLine then some ((s.length : Int) != 0) else none
  | .lst xs => some (!xs.isEmpty)
  | .tup xs => some (!xs.isEmpty)
  | .dic ks => some (!ks.isEmpty)
  | _ => none

def mulOk (i j : Int) : Bool := (decide (-(2 ^ 64) < j) && decide (j < 2 ^ 64)) || (decide (-(2 ^ 64) < i) && decide (i < 2 ^ 64)) || decide (i.natAbs.log2 + j.natAbs.log2 < 1000000)
def divOk (j : Int) : Bool := decide (0 < j) && (decide (j < 1073741824) || decide (j.natAbs.log2 < 9000))
def opF : BOp → U → U → Option Slot
  | .add, .int i, .int j => some (.val (.int (i + j)))
  | .add, .str x, .str y => if x.length + y.length ≤ sizeLine then some (.val (.str (x ++ y))) else none
  | .add, .lst x, .lst y => if x.length + y.length ≤ sizeLine then some (.own (.lst (x ++ y)) false) else none
  | .add, .tup x, .tup y => if x.length + y.length ≤ sizeLine then some (.val (.tup (x ++ y))) else none
  | .sub, .int i, .int j => some (.val (.int (i - j)))
  | .mul, .int i, .int j => if mulOk i j then some (.val (.int (i * j))) else none
  | .mul, .lst x, .int j => if -(2 ^ 63) ≤ j ∧ j < 2 ^ 63 ∧ x.length * j.toNat ≤ sizeLine then some (.own (.lst (List.replicate j.toNat x).flatten) false) else none
  | .fdiv, .int i, .int j => if divOk j then some (.val (.int (i / j))) else none
  | .mod, .int i, .int j => if 0 < j then some (.val (.int (i % j))) else none
  | .pow, .int i, .int j => if 0 ≤ j ∧ j ≤ 1000000 ∧ i.natAbs < 2 ^ 64 then some (.val (.int (i ^ j.toNat))) else none
  | _, _, _ => none

def inF (x : U) (ys : List U) : Option Bool := if x.flat && ys.all U.flat then some (ys.any fun y => U.eq y x) else none
def keyF : U → Option Key
  | .int i => some (.inl i)
  | .str s => some (.inr s)
  | _ => none
def valU (ks : List (Key × U)) (k : Key) : Option U := (ks.find? fun kv => decide (kv.1 = k)).map (·.2)
def putU (ks : List (Key × U)) (k : Key) (v : U) : List (Key × U) := if (ks.any fun kv => decide (kv.1 = k)) = true then ks.map (fun kv => if kv.1 = k then (kv.1, v) else kv) else ks ++ [(k, v)]
def cmpF : COp → U → U → Option Bool
  | .eq, a, b => if a.data && b.data then some (U.eq a b) else none
  | .ne, a, b => if a.data && b.data then some (!U.eq a b) else none
  | .lt, .int i, .int j => some (decide (i < j))
  | .le, .int i, .int j => some (decide (i ≤ j))
  | .gt, .int i, .int j => some (decide (j < i))
  | .ge, .int i, .int j => some (decide (j ≤ i))
  | .is, a, .non => (match a with | .non => some true | _ => some false)
  | .isnot, a, .non => (match a with | .non => some false | _ => some true)
  | .isin, x, .lst ys => inF x ys
  | .isin, x, .tup ys => inF x ys
  | .notin, x, .lst ys => (inF x ys).map (!·)
  | .notin, x, .tup ys => (inF x ys).map (!·)
  | .isin, k, .dic ks => (keyF k).map fun k => (valU ks k).isSome
  | .notin, k, .dic ks => (keyF k).map fun k => !(valU ks k).isSome
  | _, _, _ => none

def atU (xs : List U) (i : Int) : Option U := L2.atI xs i
def idxF : U → U → Option U
  | .lst xs, .int i => atU xs i
  | .tup xs, .int i => atU xs i
  | .str s, .int i => if s.length ≤ sizeLine then (L2.atI s.cps.toList i).map fun c => .str ⟨#[c]⟩ else none
  | .dic ks, k => (keyF k).bind fun k => valU ks k
  | _, _ => none
def cutU (xs : List U) (lo hi : Option Int) : List U := (xs.drop (HT.sIx xs.length 0 lo)).take (HT.sIx xs.length xs.length hi - HT.sIx xs.length 0 lo)
def slcF : U → Option Int → Option Int → Option Slot
  | .lst xs, lo, hi => some (.own (.lst (cutU xs lo hi)) false)
  | .tup xs, lo, hi => some (.val (.tup (cutU xs lo hi)))
  | _, _, _ => none

def bltF : Blt → List U → Option Slot
  | .len, [.lst xs] => some (.val (.int xs.length))
  | .len, [.tup xs] => some (.val (.int xs.length))
  | .len, [.str s] => if s.length ≤ sizeLine then some (.val (.int s.length)) else none
  | .abs, [.int i] => some (.val (.int (if i < 0 then -i else i)))
  | .max2, [.int i, .int j] => some (.val (.int (if j > i then j else i)))
  | .min2, [.int i, .int j] => some (.val (.int (if j < i then j else i)))
  | .sum, [.lst xs] => (U.ints xs).map fun ns => .val (.int ns.sum)
  | .all, [.lst xs] => (U.bls xs).map fun ns => .val (.bl (ns.all id))
  | .any, [.lst xs] => (U.bls xs).map fun ns => .val (.bl (ns.any id))
  | .int, [.int i] => some (.val (.int i))
  | .int, [.bl b] => some (.val (.int (if b then 1 else 0)))
  | .list, [.lst xs] => some (.own (.lst xs) false)
  | .list, [.tup xs] => some (.own (.lst xs) false)
  | .list, [.scr xs] => some (.own (.lst xs) false)
  | .tuple, [.lst xs] => some (.val (.tup xs))
  | .tuple, [.tup xs] => some (.val (.tup xs))
  | .sorted, [.lst xs] => (U.ints xs).map fun ns => .own (.lst ((ns.mergeSort (fun a b => decide (a ≤ b))).map U.int)) false
  | .str, [.int i] => if i.natAbs.log2 < 1920 then some (.val (.str (Str.ofString (toString i)))) else none
  | _, _ => none

/-- the built-in types that isinstance asks -/
inductive TyN where | int | bool | str | tuple | list
def istF : TyN → U → Option Bool
  | _, .fn _ => none
  | _, .dic _ => none
  | _, .scr _ => none
  | .int, .int _ => some true
  | .int, .bl _ => some true
  | .bool, .bl _ => some true
  | .str, .str _ => some true
  | .tuple, .tup _ => some true
  | .list, .lst _ => some true
  | _, _ => some false

/-- expressions; nil and cons make argument lists -/
inductive E where
  | nil | cons (a r : E)
  | var (i : Nat) | bor (i : Nat) | mov (i : Nat)
  | con (u : U) | glc (k : Nat) | fnr (i : Nat)
  | tup (es : E) | lst (es : E) | dic0
  | bin (op : BOp) (a b : E) | neg (a : E) | not (a : E)
  | cmp (op : COp) (a b : E) | chn (op op' : COp) (a b c : E)
  | and (a b : E) | or (a b : E) | ite (c a b : E)
  | call (f : Nat) (es : E) | cvar (i : Nat) (es : E)
  | blt (b : Blt) (es : E) | ist (t : TyN) (a : E)
  | idx (a b : E) | slc (a lo hi : E)
  | lrg (k : ItK) (es : E) | trg (k : ItK) (es : E)
  | itr (k : ItK) (es : E)
  | cmp1 (own : List Nat) (tg : E) (it c elt : E)
  | tnm (i : Nat) | ttp (es : E)

inductive S where
  | nil | seq (a r : S)
  | pas | brk | cnt
  | set (i : Nat) (e : E) | own (i : Nat) (e : E) | unp (tg e : E)
  | par (ts es : E)
  | par2 (i : Nat) (k : E) (j : Nat) (l a b : E)
  | sub (i : Nat) (ix e : E) | app (i : Nat) (e : E)
  | exp (e : E) | ret (e : E) | retn
  | iff (c : E) (a b : S)
  | for_ (tg it : E) (b : S)
  | whl (c : E) (b : S)

def frz : Slot → Option U
  | .val u => some u
  | .own u false => some u
  | _ => none
/-- what an operand is worth now -/
def look (env : En) : Slot → Option U
  | .val u => some u
  | .own u _ => some u
  | .bor i => (match env[i]? with
    | some (.val u) => some u
    | some (.own u _) => some u
    | _ => none)
  | .emp => none
def looks (env : En) : List Slot → Option (List U)
  | [] => some []
  | s :: r => (look env s).bind fun u => (looks env r).map (u :: ·)
def frzs : List Slot → Option (List U)
  | [] => some []
  | s :: r => (frz s).bind fun u => (frzs r).map (u :: ·)
/-- a value into a name's place; a place that a caller lent stays -/
def put (env : En) (i : Nat) (s : Slot) : Option En := match env[i]? with
  | some (.own _ true) => none
  | some _ => some (env.set i s)
  | none => none
/-- the places of a call's arguments: md tells which are lent -/
def argsF (env : En) : List Bool → List Slot → Option (List Slot)
  | [], [] => some []
  | false :: md, s :: r => (frz s).bind fun u => (argsF env md r).map (.val u :: ·)
  | true :: md, .bor i :: r => (match env[i]? with
    | some (.own u _) => (argsF env md r).map (.own u true :: ·)
    | _ => none)
  | _, _ => none
/-- the lent ones come back -/
def backF (env : En) : List Slot → List Slot → Option En
  | [], [] => some env
  | .bor i :: r, .own u true :: os => (match env[i]? with
    | some (.own _ p) => backF (env.set i (.own u p)) r os
    | _ => none)
  | .bor _ :: _, _ => none
  | _ :: r, _ :: os => backF env r os
  | _, _ => none
def borrows : List Slot → List Nat
  | [] => []
  | .bor i :: r => i :: borrows r
  | _ :: r => borrows r
def storeU : E → U → En → Option En
  | .tnm i, u, env => put env i (.val u)
  | .ttp es, .tup us, env => storeU es (.lst us) env
  | .nil, .lst [], env => some env
  | .cons t r, .lst (u :: us), env => (storeU t u env).bind fun env => storeU r (.lst us) env
  | _, _, _ => none
def upU (i j : Int) : List U := (List.range (j - i).toNat).map fun (k : Nat) => .int (i + (k : Int))
def downU (i j : Int) : List U := (List.range (i - j).toNat).map fun (k : Nat) => .int (i + (k : Int) * (-1))
def enumU (n : Nat) : List U → List U
  | [] => []
  | x :: r => .tup [.int n, x] :: enumU (n + 1) r
def zipU : List U → List U → List U
  | x :: xs, y :: ys => .tup [x, y] :: zipU xs ys
  | _, _ => []
def near (i : Int) : Bool := decide (-(2 ^ 62) ≤ i) && decide (i < 2 ^ 62)
def itF : ItK → List U → Option (List U)
  | .plain, [.lst xs] => some xs
  | .plain, [.tup xs] => some xs
  | .rng1, [.int j] => if near j then some (upU 0 j) else none
  | .rng2, [.int i, .int j] => if near i && near j then some (upU i j) else none
  | .rng3, [.int i, .int j, .int c] => if near i && near j && (c == -1) then some (downU i j) else none
  | .enum, [.lst xs] => some (enumU 0 xs)
  | .enum, [.tup xs] => some (enumU 0 xs)
  | .zip, [.lst xs, .lst ys] => some (zipU xs ys)
  | .zip, [.tup xs, .tup ys] => some (zipU xs ys)
  | _, _ => none
def wipeE (env : En) : List Nat → En
  | [] => env
  | v :: vs => (wipeE env vs).set v .emp
/-- the places of own names as they were -/
def unwipe (old env : En) : List Nat → En
  | [] => env
  | v :: vs => (unwipe old env vs).set v (old.getD v .emp)

/-- a part of a slice -/
def partF (e : E) (run : En → Res (Slot × En)) (env : En) : Res (Option Int × En) := match e with
  | .nil => .ok (none, env)
  | _ => (run env).bind fun (p, env) => match look env p with
    | some (.int i) => .ok (some i, env)
    | _ => .bad
/-- a comprehension's test -/
def condF (e : E) (run : En → Res (Slot × En)) (env : En) : Res (Bool × En) := match e with
  | .nil => .ok (true, env)
  | _ => (run env).bind fun (p, env) => (Res.of (look env p)).bind fun u => (Res.of u.tru).bind fun k => .ok (k, env)
section
variable (G : Gx)
def callD (f : Nat) (ws : List Slot) (env : En) : Res (Slot × En) :=
  (Res.of (G.modes f)).bind fun md =>
  (Res.of (argsF env md ws)).bind fun as =>
  if (borrows ws).Nodup then
    match G.den f as with
    | .ok (.val u, os) => (Res.of (backF env ws os)).bind fun env => .ok (.val u, env)
    | .ok (.own u false, os) => (Res.of (backF env ws os)).bind fun env => .ok (.own u false, env)
    | .ok _ => .bad
    | .exc x os => (match backF env ws os with
      | some env => .exc x env
      | none => .bad)
    | .bad => .bad
  else .bad
/-- a comprehension's turns -/
def compGo (turn : U → En → Res (Option U × En)) : List U → En → Res (List U × En)
  | [], env => .ok ([], env)
  | x :: r, env => (turn x env).bind fun (o, env) => (compGo turn r env).bind fun (us, env) => .ok (match o with
    | some u => (u :: us, env)
    | none => (us, env))
def turnC (vs : List Nat) (tg c : E) (rc re : En → Res (Slot × En)) (x : U) (e : En) : Res (Option U × En) :=
  (Res.of (storeU tg x e)).bind fun e => (condF c rc e).bind fun (k, e) =>
  if k then (re e).bind fun (w, e) => (Res.of (frz w)).bind fun u => .ok (some u, wipeE e vs) else .ok (none, wipeE e vs)
/-- a place that a comprehension's name may take -/
def okS (env : En) (v : Nat) : Bool := match env[v]? with
  | some .emp => true
  | some (.val _) => true
  | _ => false
def noExc {α : Type} : Res α → Res α
  | .exc _ _ => .bad
  | r => r
mutual
def evE : E → En → Res (Slot × En)
  | .var i, env => (match env[i]? with
    | some (.val u) => .ok (.val u, env)
    | some (.own u false) => .ok (.val u, env.set i (.val u))
    | _ => .bad)
  | .bor i, env => (match env[i]? with
    | some (.val _) => .ok (.bor i, env)
    | some (.own _ _) => .ok (.bor i, env)
    | _ => .bad)
  | .mov i, env => (match env[i]? with
    | some (.val u) => .ok (.val u, env)
    | some (.own u false) => .ok (.own u false, env.set i .emp)
    | _ => .bad)
  | .con u, env => .ok (.val u, env)
  | .glc k, env => (Res.of G.cst[k]?).bind fun u => .ok (.val u, env)
  | .fnr i, env => .ok (.val (.fn i), env)
  | .tup es, env => (evL es env).bind fun (ws, env) => (Res.of (frzs ws)).bind fun us => if us.length ≤ sizeLine then .ok (.val (.tup us), env) else .bad
  | .lst es, env => (evL es env).bind fun (ws, env) => (Res.of (frzs ws)).bind fun us => if us.length ≤ sizeLine then .ok (.own (.lst us) false, env) else .bad
  | .dic0, env => .ok (.own (.dic []) false, env)
  | .bin op a b, env => (evE a env).bind fun (p, env) => (evE b env).bind fun (q, env) =>
    (Res.of (look env p)).bind fun u => (Res.of (look env q)).bind fun v => (Res.of (opF op u v)).bind fun w => .ok (w, env)
  | .neg a, env => (evE a env).bind fun (p, env) => (match look env p with
    | some (.int i) => .ok (.val (.int (-i)), env)
    | _ => .bad)
  | .not a, env => (evE a env).bind fun (p, env) => (Res.of (look env p)).bind fun u => (Res.of u.tru).bind fun b => .ok (.val (.bl (!b)), env)
  | .cmp op a b, env => (evE a env).bind fun (p, env) => (evE b env).bind fun (q, env) =>
    (Res.of (look env p)).bind fun u => (Res.of (look env q)).bind fun v => (Res.of (cmpF op u v)).bind fun w => .ok (.val (.bl w), env)
  | .chn op op' a b c, env => (evE a env).bind fun (p, env) => (evE b env).bind fun (q, env) =>
    (Res.of (look env p)).bind fun u => (Res.of (look env q)).bind fun v => (Res.of (cmpF op u v)).bind fun w =>
    if w then (evE c env).bind fun (r, env) => (Res.of (look env q)).bind fun v => (Res.of (look env r)).bind fun x => (Res.of (cmpF op' v x)).bind fun w => .ok (.val (.bl w), env)
    else .ok (.val (.bl false), env)
  | .and a b, env => (evE a env).bind fun (p, env) => (Res.of (frz p)).bind fun u => (Res.of u.tru).bind fun k => if k then evE b env else .ok (.val u, env)
  | .or a b, env => (evE a env).bind fun (p, env) => (Res.of (frz p)).bind fun u => (Res.of u.tru).bind fun k => if k then .ok (.val u, env) else evE b env
  | .ite c a b, env => (evE c env).bind fun (p, env) => (Res.of (look env p)).bind fun u => (Res.of u.tru).bind fun k => if k then evE a env else evE b env
  | .call f es, env => (evL es env).bind fun (ws, env) => callD G f ws env
  | .cvar i es, env => (match env[i]? with
    | some (.val (.fn f)) => (evL es env).bind fun (ws, env) => callD G f ws env
    | _ => .bad)
  | .blt b es, env => (evL es env).bind fun (ws, env) => (Res.of (looks env ws)).bind fun us => (Res.of (bltF b us)).bind fun w => .ok (w, env)
  | .ist t a, env => (evE a env).bind fun (p, env) => (Res.of (look env p)).bind fun u => (Res.of (istF t u)).bind fun b => .ok (.val (.bl b), env)
  | .idx a b, env => (evE a env).bind fun (p, env) => (evE b env).bind fun (q, env) =>
    (Res.of (look env p)).bind fun u => (Res.of (look env q)).bind fun v => (Res.of (idxF u v)).bind fun w => .ok (.val w, env)
  | .slc a lo hi, env => (evE a env).bind fun (p, env) => (partF lo (evE lo) env).bind fun (l, env) => (partF hi (evE hi) env).bind fun (h, env) =>
    (Res.of (look env p)).bind fun u => (Res.of (slcF u l h)).bind fun w => .ok (w, env)
  | .lrg k es, env => (evL es env).bind fun (ws, env) => (Res.of (looks env ws)).bind fun us => (Res.of (itF k us)).bind fun xs => if xs.length ≤ sizeLine then .ok (.own (.lst xs) false, env) else .bad
  | .trg k es, env => (evL es env).bind fun (ws, env) => (Res.of (looks env ws)).bind fun us => (Res.of (itF k us)).bind fun xs => if xs.length ≤ sizeLine then .ok (.val (.tup xs), env) else .bad
  | .cmp1 vs tg it c elt, env => (evI it env).bind fun (xs, env) =>
    if vs.all (okS env) then
      (noExc (compGo (turnC vs tg c (evE c) (evE elt)) xs (wipeE env vs))).bind fun (us, e) =>
      if us.length ≤ sizeLine then .ok (.own (.lst us) false, unwipe env e vs) else .bad
    else .bad
  | _, _ => .bad
/-- argument lists -/
def evL : E → En → Res (List Slot × En)
  | .nil, env => .ok ([], env)
  | .cons a r, env => (evE a env).bind fun (w, env) => (evL r env).bind fun (ws, env) => .ok (w :: ws, env)
  | _, _ => .bad
/-- what is walked -/
def evI : E → En → Res (List U × En)
  | .itr k es, env => (evL es env).bind fun (ws, env) => (Res.of (frzs ws)).bind fun us => (Res.of (itF k us)).bind fun xs => .ok (xs, env)
  | _, _ => .bad

end
inductive Fl where | nx | bk | ct | rt (w : Slot)
def forGo (turn : U → En → Res (Fl × En)) : List U → En → Res (Fl × En)
  | [], env => .ok (.nx, env)
  | x :: r, env => (turn x env).bind fun (f, env) => match f with
    | .nx => forGo turn r env
    | .ct => forGo turn r env
    | .bk => .ok (.nx, env)
    | .rt w => .ok (.rt w, env)
def whlGo (test : En → Res (Bool × En)) (body : En → Res (Fl × En)) : Nat → En → Res (Fl × En)
  | 0, _ => .bad
  | n + 1, env => (test env).bind fun (k, env) => if k then (body env).bind fun (f, env) => (match f with
      | .nx => whlGo test body n env
      | .ct => whlGo test body n env
      | .bk => .ok (.nx, env)
      | .rt w => .ok (.rt w, env))
    else .ok (.nx, env)
/-- a fresh container stays its name's own -/
def keepF (env : En) (i : Nat) : Slot → Option En
  | .own u false => put env i (.own u false)
  | _ => none
/-- t1, t2 = .. : the targets one by one; own places keep what is fresh -/
def parF : E → List Slot → En → Option En
  | .nil, [], env => some env
  | .cons (.tnm i) r, s :: ws, env => (frz s).bind fun u => (put env i (.val u)).bind fun env => parF r ws env
  | .cons (.mov i) r, s :: ws, env => (keepF env i s).bind fun env => parF r ws env
  | _, _, _ => none
/-- x[k] = v -/
def subF : U → U → U → Option U
  | .lst xs, .int k, v => (L2.ixN xs.length k).map fun j => .lst (xs.set j v)
  | .dic ks, k, v => (keyF k).bind fun k => if ks.length < sizeLine then some (.dic (putU ks k v)) else none
  | _, _, _ => none
def subE (env : En) (i : Nat) (k v : U) : Option En := match env[i]? with
  | some (.own u p) => (subF u k v).map fun u => env.set i (.own u p)
  | _ => none
def appE (env : En) (i : Nat) (v : U) : Option En := match env[i]? with
  | some (.own (.lst xs) p) => if xs.length < sizeLine then some (env.set i (.own (.lst (xs ++ [v])) p)) else none
  | _ => none
def ownB (env : En) (i : Nat) : Bool := match env[i]? with
  | some (.own _ _) => true
  | _ => false
def ownL (env : En) (i : Nat) : Bool := match env[i]? with
  | some (.own (.lst _) _) => true
  | _ => false
def fuel : Nat := 1000000000
def exS : S → En → Res (Fl × En)
  | .nil, env => .ok (.nx, env)
  | .seq a r, env => (exS a env).bind fun (f, env) => (match f with
    | .nx => exS r env
    | f => .ok (f, env))
  | .pas, env => .ok (.nx, env)
  | .brk, env => .ok (.bk, env)
  | .cnt, env => .ok (.ct, env)
  | .set i e, env => (evE G e env).bind fun (w, env) => (Res.of (frz w)).bind fun u => (Res.of (put env i (.val u))).bind fun env => .ok (.nx, env)
  | .own i e, env => (evE G e env).bind fun (w, env) => (Res.of (keepF env i w)).bind fun env => .ok (.nx, env)
  | .unp tg e, env => (evE G e env).bind fun (w, env) => (Res.of (frz w)).bind fun u => (Res.of (storeU tg u env)).bind fun env => .ok (.nx, env)
  | .par ts es, env => (evL G es env).bind fun (ws, env) => (Res.of (parF ts ws env)).bind fun env => .ok (.nx, env)
  | .par2 i k j l a b, env => (evL G (.cons a (.cons b .nil)) env).bind fun (ws, env) => (Res.of (frzs ws)).bind fun us => match us with
    | [u, v] => if ownB env i then
        (evE G k env).bind fun (r, env) => (Res.of (look env r)).bind fun x => (Res.of (subE env i x u)).bind fun env =>
        if ownB env j then (evE G l env).bind fun (r, env) => (Res.of (look env r)).bind fun x => (Res.of (subE env j x v)).bind fun env => .ok (.nx, env)
        else .bad
      else .bad
    | _ => .bad
  | .sub i k e, env => (evE G e env).bind fun (w, env) => (Res.of (frz w)).bind fun u => if ownB env i then (evE G k env).bind fun (r, env) => (Res.of (look env r)).bind fun x =>
    (Res.of (subE env i x u)).bind fun env => .ok (.nx, env) else .bad
  | .app i e, env => if ownL env i then (evE G e env).bind fun (w, env) => (Res.of (frz w)).bind fun u => (Res.of (appE env i u)).bind fun env => .ok (.nx, env) else .bad
  | .exp e, env => (evE G e env).bind fun (_, env) => .ok (.nx, env)
  | .ret e, env => (evE G e env).bind fun (w, env) => (match w with
    | .bor _ => .bad
    | w => .ok (.rt w, env))
  | .retn, env => .ok (.rt (.val .non), env)
  | .iff c a b, env => (condF c (evE G c) env).bind fun (k, env) => if k then exS a env else exS b env
  | .for_ tg it b, env => (evI G it env).bind fun (xs, env) => forGo (fun x env => (Res.of (storeU tg x env)).bind fun env => exS b env) xs env
  | .whl c b, env => whlGo (condF c (evE G c)) (exS b) fuel env

/-- a def: how many places, which parameters are lent, its body -/
structure Fn where
  n : Nat
  md : List Bool
  body : S
end
def outsF : List Bool → En → List Slot → List Slot
  | true :: md, s :: env, _ :: as => s :: outsF md env as
  | false :: md, _ :: env, a :: as => a :: outsF md env as
  | _, _, _ => []
/-- a def's run -/
def runFn (G : Gx) (f : Fn) (as : List Slot) : Res (Slot × List Slot) :=
  match exS G f.body (as ++ List.replicate (f.n - as.length) .emp) with
  | .ok (.rt (.val u), env) => .ok (.val u, outsF f.md env as)
  | .ok (.rt (.own u false), env) => .ok (.own u false, outsF f.md env as)
  | .ok (.nx, env) => .ok (.val .non, outsF f.md env as)
  | .ok _ => .bad
  | .exc x env => .exc x (outsF f.md env as)
  | .bad => .bad
structure Prg where
  fns : List Fn
  cst : List U
def Prg.modes (P : Prg) (i : Nat) : Option (List Bool) := P.fns[i]?.map (·.md)
/-- the defs to a depth -/
def Prg.den (P : Prg) : Nat → Den
  | 0, _, _ => .bad
  | k + 1, i, as => match P.fns[i]? with
    | some f => runFn ⟨P.modes, P.cst, P.den k⟩ f as
    | none => .bad
end PF
end
section
set_option Elab.async false
set_option autoImplicit false
set_option linter.all false
set_option maxRecDepth 100000
namespace PF
open PySem PySem.Spec PyProof.Rows L2

def Sub (F H : Hp) : Prop := ∀ a o, F a = some o → H a = some o
theorem Sub.refl (F : Hp) : Sub F F := fun _ _ h => h
theorem Sub.trans {F G H : Hp} (x : Sub F G) (y : Sub G H) : Sub F H := fun a o h => y a o (x a o h)
theorem Rd.sub {F H : Hp} {a : Addr} {o : HO} (s : Sub F H) (h : Rd F a o) : Rd H a o := h.elim (fun e => .inl (s _ _ e)) fun ⟨ob, e⟩ => .inr ⟨ob, s _ _ e⟩
theorem SqL.sub {K : PySem.W.Frag} {F H : Hp} {a : Addr} {xs : List V} (s : Sub F H) (h : SqL K F a xs) : SqL K H a xs := h.elim (fun e => .inl (Rd.sub s e)) .inr
theorem SqT.sub {K : PySem.W.Frag} {F H : Hp} {a : Addr} {xs : List V} (s : Sub F H) (h : SqT K F a xs) : SqT K H a xs := h.elim (fun e => .inl (Rd.sub s e)) .inr

/-- the defs' addresses -/
abbrev FA := Nat → Option Addr

mutual
inductive Rep (K : PySem.W.Frag) (fa : FA) (F : Hp) : V → U → Prop
  | non : Rep K fa F .non .non
  | bl (b : Bool) : Rep K fa F (.bl b) (.bl b)
  | int (i : Int) : Rep K fa F (.int i) (.int i)
  | str (x : Str) : Rep K fa F (.str x) (.str x)
  | lst {a : Addr} {xs : List V} {us : List U} : F a = some (.lst xs) → RepAll K fa F xs us → Rep K fa F (.ref a) (.lst us)
  | scr {a : Addr} {xs : List V} {us : List U} : SqL K F a xs → RepAll K fa F xs us → Rep K fa F (.ref a) (.scr us)
  | tup {a : Addr} {xs : List V} {us : List U} : SqT K F a xs → RepAll K fa F xs us → Rep K fa F (.ref a) (.tup us)
  | dic {a : Addr} {xs : List (Key × V)} {us : List (Key × U)} : F a = some (.dK xs) → RepKV K fa F xs us → Rep K fa F (.ref a) (.dic us)
  | fn {a : Addr} {i : Nat} : fa i = some a → Rep K fa F (.ref a) (.fn i)
inductive RepAll (K : PySem.W.Frag) (fa : FA) (F : Hp) : List V → List U → Prop
  | nil : RepAll K fa F [] []
  | cons {v : V} {vs : List V} {u : U} {us : List U} : Rep K fa F v u → RepAll K fa F vs us → RepAll K fa F (v :: vs) (u :: us)
inductive RepKV (K : PySem.W.Frag) (fa : FA) (F : Hp) : List (Key × V) → List (Key × U) → Prop
  | nil : RepKV K fa F [] []
  | cons {k : Key} {v : V} {vs : List (Key × V)} {u : U} {us : List (Key × U)} : Rep K fa F v u → RepKV K fa F vs us → RepKV K fa F ((k, v) :: vs) ((k, u) :: us)
end
section
variable {K : PySem.W.Frag} {fa : FA} {F F' H H' : Hp}
mutual
theorem Rep.sub (s : Sub F F') : ∀ {v : V} {u : U}, Rep K fa F v u → Rep K fa F' v u
  | _, _, .non => .non
  | _, _, .bl b => .bl b
  | _, _, .int i => .int i
  | _, _, .str x => .str x
  | _, _, .lst h r => .lst (s _ _ h) (RepAll.sub s r)
  | _, _, .scr h r => .scr (SqL.sub s h) (RepAll.sub s r)
  | _, _, .tup h r => .tup (SqT.sub s h) (RepAll.sub s r)
  | _, _, .dic h r => .dic (s _ _ h) (RepKV.sub s r)
  | _, _, .fn h => .fn h
theorem RepAll.sub (s : Sub F F') : ∀ {v : List V} {u : List U}, RepAll K fa F v u → RepAll K fa F' v u
  | _, _, .nil => .nil
  | _, _, .cons h r => .cons (Rep.sub s h) (RepAll.sub s r)
theorem RepKV.sub (s : Sub F F') : ∀ {v : List (Key × V)} {u : List (Key × U)}, RepKV K fa F v u → RepKV K fa F' v u
  | _, _, .nil => .nil
  | _, _, .cons h r => .cons (Rep.sub s h) (RepKV.sub s r)
end
theorem RepAll.length : ∀ {v : List V} {u : List U}, RepAll K fa F v u → v.length = u.length
  | _, _, .nil => rfl
  | _, _, .cons _ r => congrArg (· + 1) (RepAll.length r)
theorem RepAll.get : ∀ {vs : List V} {us : List U} {i : Nat} {u : U}, RepAll K fa F vs us → us[i]? = some u → ∃ v, vs[i]? = some v ∧ Rep K fa F v u
  | _, _, _, _, .nil, e => by simp at e
  | _, _, 0, _, .cons r _, e => by simp at e; subst e; exact ⟨_, rfl, r⟩
  | _, _, i + 1, u, .cons _ t, e => by
    obtain ⟨v, h1, h2⟩ := RepAll.get (i := i) (u := u) t (by simpa using e)
    exact ⟨v, by simpa using h1, h2⟩
theorem RepAll.app : ∀ {xs ys : List V} {us ws : List U}, RepAll K fa F xs us → RepAll K fa F ys ws → RepAll K fa F (xs ++ ys) (us ++ ws)
  | _, _, _, _, .nil, s => s
  | _, _, _, _, .cons r t, s => .cons r (RepAll.app t s)
theorem RepAll.take : ∀ {xs : List V} {us : List U} (n : Nat), RepAll K fa F xs us → RepAll K fa F (xs.take n) (us.take n)
  | _, _, 0, _ => .nil
  | _, _, _ + 1, .nil => .nil
  | _, _, n + 1, .cons r t => .cons r (RepAll.take n t)
theorem RepAll.drop : ∀ {xs : List V} {us : List U} (n : Nat), RepAll K fa F xs us → RepAll K fa F (xs.drop n) (us.drop n)
  | _, _, 0, r => r
  | _, _, _ + 1, .nil => .nil
  | _, _, n + 1, .cons _ t => RepAll.drop n t
theorem RepAll.set {v : V} {u : U} (r : Rep K fa F v u) : ∀ {xs : List V} {us : List U} (i : Nat), RepAll K fa F xs us → RepAll K fa F (xs.set i v) (us.set i u)
  | _, _, _, .nil => .nil
  | _, _, 0, .cons _ t => .cons r t
  | _, _, i + 1, .cons q t => .cons q (RepAll.set r i t)
theorem RepAll.rep {xs : List V} {us : List U} (h : RepAll K fa F xs us) : ∀ k : Nat, RepAll K fa F (List.replicate k xs).flatten (List.replicate k us).flatten
  | 0 => .nil
  | k + 1 => by simp only [List.replicate_succ, List.flatten_cons]; exact h.app (RepAll.rep h k)
theorem RepAll.ints : ∀ {xs : List V} {us : List U} {ns : List Int}, RepAll K fa F xs us → U.ints us = some ns → xs = ns.map V.int
  | _, _, ns, .nil, e => by simp [U.ints] at e; subst e; rfl
  | _, _, ns, .cons (u := u) (us := us) r t, e => by
    cases r <;> try (simp [U.ints] at e; done)
    rename_i i
    simp only [U.ints] at e
    cases q : U.ints us with
    | none => rw [q] at e; cases e
    | some ms =>
      rw [q] at e
      cases e
      rw [RepAll.ints t q]
      rfl
theorem RepAll.of_ints : ∀ ns : List Int, RepAll K fa F (ns.map V.int) (ns.map U.int)
  | [] => .nil
  | n :: r => .cons (.int n) (RepAll.of_ints r)
theorem RepAll.bls : ∀ {xs : List V} {us : List U} {ns : List Bool}, RepAll K fa F xs us → U.bls us = some ns → xs = ns.map V.bl
  | _, _, ns, .nil, e => by simp [U.bls] at e; subst e; rfl
  | _, _, ns, .cons (u := u) (us := us) r t, e => by
    cases r <;> try (simp [U.bls] at e; done)
    rename_i i
    simp only [U.bls] at e
    cases q : U.bls us with
    | none => rw [q] at e; cases e
    | some ms =>
      rw [q] at e
      cases e
      rw [RepAll.bls t q]
      rfl

/-- a container's object and what it holds -/
inductive Hold (K : PySem.W.Frag) (fa : FA) (F : Hp) : HO → U → Prop
  | lst {xs : List V} {us : List U} : RepAll K fa F xs us → Hold K fa F (.lst xs) (.lst us)
  | dic {xs : List (Key × V)} {us : List (Key × U)} : RepKV K fa F xs us → Hold K fa F (.dK xs) (.dic us)
theorem Hold.sub (s : Sub F F') {o : HO} {u : U} (h : Hold K fa F o u) : Hold K fa F' o u := by
  cases h with
  | lst r => exact .lst (r.sub s)
  | dic r => exact .dic (r.sub s)
theorem Hold.rep {a : Addr} {o : HO} {u : U} (h : Hold K fa F o u) (e : F a = some o) : Rep K fa F (.ref a) u := by
  cases h with
  | lst r => exact .lst e r
  | dic r => exact .dic e r
/-- readable now -/
def BRep (K : PySem.W.Frag) (fa : FA) (F H : Hp) (v : V) (u : U) : Prop := Rep K fa F v u ∨ ∃ a o, v = .ref a ∧ H a = some o ∧ Hold K fa F o u

def SlotOk (K : PySem.W.Frag) (fa : FA) (n : Nat) (F H : Hp) (σ : L2.St) (env : En) (i : Nat) : Slot → Prop
  | .emp => True
  | .val u => ∃ v, σ[i]? = some (some v) ∧ Rep K fa F v u
  | .own u _ => ∃ a o, σ[i]? = some (some (.ref a)) ∧ H a = some o ∧ Hold K fa F o u ∧ F a = none
  | .bor j => (j < n ∧ n ≤ i) ∧ ∃ v, σ[i]? = some (some v) ∧ σ[j]? = some (some v)

def Own (σ : L2.St) (env : En) (a : Addr) : Prop := ∃ (i : Nat) (u : U) (p : Bool), env[i]? = some (.own u p) ∧ σ[i]? = some (some (.ref a))

structure Sim (K : PySem.W.Frag) (fa : FA) (n : Nat) (F H : Hp) (σ : L2.St) (env : En) : Prop where
  len : σ.length = env.length
  fr : Sub F H
  slot : ∀ (i : Nat) (s : Slot), env[i]? = some s → SlotOk K fa n F H σ env i s
  inj : ∀ (i j : Nat) (a : Addr) (u u' : U) (p p' : Bool), env[i]? = some (.own u p) → env[j]? = some (.own u' p') → σ[i]? = some (some (.ref a)) → σ[j]? = some (some (.ref a)) → i = j

structure Stp (F H : Hp) (σ : L2.St) (env : En) (F' H' : Hp) (σ' : L2.St) (env' : En) : Prop where
  ext : Sub F F'
  keep : ∀ a o, H a = some o → ¬ Own σ env a → H' a = some o
  sub : ∀ a, Own σ' env' a → Own σ env a ∨ H a = none
  new : ∀ a o, F' a = some o → F a = some o ∨ Own σ env a ∨ H a = none
  pin : ∀ (i : Nat) (u : U), env[i]? = some (.own u true) → σ'[i]? = σ[i]? ∧ ∃ u', env'[i]? = some (.own u' true)

theorem Stp.refl (F H : Hp) (σ : L2.St) (env : En) : Stp F H σ env F H σ env :=
  ⟨.refl _, fun _ _ h _ => h, fun _ h => .inl h, fun _ _ h => .inl h, fun _ u h => ⟨rfl, u, h⟩⟩
theorem Stp.trans {F0 H0 F1 H1 F2 H2 : Hp} {σ0 σ1 σ2 : L2.St} {e0 e1 e2 : En} (a : Stp F0 H0 σ0 e0 F1 H1 σ1 e1) (b : Stp F1 H1 σ1 e1 F2 H2 σ2 e2) : Stp F0 H0 σ0 e0 F2 H2 σ2 e2 where
  ext := a.ext.trans b.ext
  keep := fun x o h n => b.keep x o (a.keep x o h n) fun q => by
    rcases a.sub x q with z | z
    · exact n z
    · rw [h] at z; cases z
  sub := fun x q => by
    rcases b.sub x q with z | z
    · exact a.sub x z
    · cases h : H0 x with
      | none => exact .inr rfl
      | some o =>
        by_cases n : Own σ0 e0 x
        · exact .inl n
        · rw [a.keep x o h n] at z; cases z
  new := fun x o q => by
    rcases b.new x o q with z | z | z
    · exact a.new x o z
    · rcases a.sub x z with y | y
      · exact .inr (.inl y)
      · exact .inr (.inr y)
    · cases h : H0 x with
      | none => exact .inr (.inr rfl)
      | some o =>
        by_cases n : Own σ0 e0 x
        · exact .inr (.inl n)
        · rw [a.keep x o h n] at z; cases z
  pin := fun i u h => by
    obtain ⟨h1, u1, h2⟩ := a.pin i u h
    obtain ⟨h3, u3, h4⟩ := b.pin i u1 h2
    exact ⟨h3.trans h1, u3, h4⟩
/-- the same places, seen longer -/
theorem Own.left {σ τ : L2.St} {env ws : En} {a : Addr} (hl : σ.length = env.length) (h : Own σ env a) : Own (σ ++ τ) (env ++ ws) a := by
  obtain ⟨i, u, p, h1, h2⟩ := h
  have hi : i < env.length := (List.getElem?_eq_some_iff.mp h1).1
  exact ⟨i, u, p, by rw [List.getElem?_append_left hi]; exact h1, by rw [List.getElem?_append_left (by omega)]; exact h2⟩
theorem Own.split {σ τ : L2.St} {env ws : En} {a : Addr} (hl : σ.length = env.length) (h : Own (σ ++ τ) (env ++ ws) a) : Own σ env a ∨ Own τ ws a := by
  obtain ⟨i, u, p, h1, h2⟩ := h
  by_cases hi : i < env.length
  · rw [List.getElem?_append_left hi] at h1
    rw [List.getElem?_append_left (by omega)] at h2
    exact .inl ⟨i, u, p, h1, h2⟩
  · rw [List.getElem?_append_right (by omega)] at h1
    rw [List.getElem?_append_right (by omega), hl] at h2
    exact .inr ⟨i - env.length, u, p, h1, h2⟩
theorem Own.right {σ τ : L2.St} {env ws : En} {a : Addr} (hl : σ.length = env.length) (h : Own τ ws a) : Own (σ ++ τ) (env ++ ws) a := by
  obtain ⟨i, u, p, h1, h2⟩ := h
  exact ⟨env.length + i, u, p, by rw [List.getElem?_append_right (by omega)]; simpa using h1, by rw [List.getElem?_append_right (by omega), hl]; simpa using h2⟩

variable {n : Nat} {σ σ' τ τ' : L2.St} {env env' ws ws' : En}
theorem getL {α : Type} {xs ys : List α} {i : Nat} (h : i < xs.length) : (xs ++ ys)[i]? = xs[i]? := List.getElem?_append_left h
theorem getR {α : Type} {xs ys : List α} {i : Nat} (h : xs.length ≤ i) : (xs ++ ys)[i]? = ys[i - xs.length]? := List.getElem?_append_right h
theorem ltOf {α : Type} {xs : List α} {i : Nat} {x : α} (h : xs[i]? = some x) : i < xs.length := (List.getElem?_eq_some_iff.mp h).1
/-- a place's word is about the values at it -/
theorem SlotOk.move {F F' H H' : Hp} {i i' : Nat} {s : Slot} (h : SlotOk K fa n F H σ env i s) (hf : Sub F F') (hi : σ'[i']? = σ[i]?)
    (hb : ∀ j, s = .bor j → σ'[j]? = σ[j]?) (ho : ∀ u p a o, s = .own u p → σ[i]? = some (some (.ref a)) → H a = some o → F a = none → H' a = some o ∧ F' a = none) (hii : n ≤ i → n ≤ i' := by omega) : SlotOk K fa n F' H' σ' env' i' s := by
  cases s with
  | emp => exact h
  | val u =>
    obtain ⟨v, h1, h2⟩ := h
    exact ⟨v, hi.trans h1, h2.sub hf⟩
  | own u p =>
    obtain ⟨a, o, h1, h2, h3, h4⟩ := h
    obtain ⟨q1, q2⟩ := ho u p a o rfl h1 h2 h4
    exact ⟨a, o, hi.trans h1, q1, h3.sub hf, q2⟩
  | bor j =>
    obtain ⟨hj, v, h1, h2⟩ := h
    exact ⟨⟨hj.1, hii hj.2⟩, v, hi.trans h1, (hb j rfl).trans h2⟩
/-- .. a loan being among more places -/
theorem SlotOk.up {n' : Nat} {F F' H H' : Hp} {i i' : Nat} {s : Slot} (h : SlotOk K fa n F H σ env i s) (hn : n ≤ n') (hii : n ≤ i → n' ≤ i') (hf : Sub F F') (hi : σ'[i']? = σ[i]?)
    (hb : ∀ j, s = .bor j → σ'[j]? = σ[j]?) (ho : ∀ u p a o, s = .own u p → σ[i]? = some (some (.ref a)) → H a = some o → F a = none → H' a = some o ∧ F' a = none) : SlotOk K fa n' F' H' σ' env' i' s := by
  have q : SlotOk K fa n F' H' σ' env' i' s := h.move hf hi hb ho (fun z => Nat.le_trans hn (hii z))
  cases s with
  | bor j => exact ⟨⟨Nat.lt_of_lt_of_le q.1.1 hn, hii h.1.2⟩, q.2⟩
  | emp => exact q
  | val u => exact q
  | own u p => exact q
/-- the first places alone -/
theorem Sim.head (h : Sim K fa n F H (σ ++ τ) (env ++ ws)) (hl : σ.length = env.length) (hn : n ≤ σ.length) : Sim K fa n F H σ env where
  len := hl
  fr := h.fr
  slot := fun i s e => by
    have hi := ltOf e
    exact (h.slot i s ((getL hi).trans e)).move (.refl _) (getL (by omega)).symm (fun j e2 => by
      subst e2
      obtain ⟨hj, _⟩ := h.slot i (.bor j) ((getL hi).trans e)
      exact (getL (by omega)).symm) fun _ _ _ _ _ _ a b => ⟨a, b⟩
  inj := fun i j a u u' p p' h1 h2 h3 h4 => by
    have hi := ltOf h1
    have hj := ltOf h2
    exact h.inj i j a u u' p p' ((getL hi).trans h1) ((getL hj).trans h2) ((getL (by omega)).trans h3) ((getL (by omega)).trans h4)
theorem Stp.head (h : Stp F H σ env F' H' (σ' ++ τ') (env' ++ ws')) (hl : σ'.length = env'.length) (hp : env.length ≤ env'.length) : Stp F H σ env F' H' σ' env' :=
  ⟨h.ext, h.keep, fun a q => h.sub a (q.left hl), h.new, fun i u q => by
    have hi := ltOf q
    obtain ⟨h1, u', h2⟩ := h.pin i u q
    rw [getL (by omega)] at h1
    rw [getL (by omega)] at h2
    exact ⟨h1, u', h2⟩⟩
/-- what was held on the side stays -/
theorem frame {F1 H1 F2 H2 : Hp} {τ2 : L2.St} {ws2 : En} (S1 : Sim K fa n F1 H1 (σ ++ τ) (env ++ ws)) (hn : σ.length = n) (he : env.length = n) (he' : env'.length = n)
    (S2 : Sim K fa n F2 H2 (σ ++ τ2) (env' ++ ws2)) (St : Stp F1 H1 σ env F2 H2 (σ ++ τ2) (env' ++ ws2)) :
    Sim K fa n F2 H2 (σ ++ (τ ++ τ2)) (env' ++ (ws ++ ws2)) ∧ Stp F1 H1 (σ ++ τ) (env ++ ws) F2 H2 (σ ++ (τ ++ τ2)) (env' ++ (ws ++ ws2)) := by
  have hτ : τ.length = ws.length := by have := S1.len; simp only [List.length_append] at this; omega
  have hτ2 : τ2.length = ws2.length := by have := S2.len; simp only [List.length_append] at this; omega
  -- an own one on the side is none of the def's, nor of the step's end
  have side : ∀ (i : Nat) (u : U) (p : Bool) (a : Addr), ws[i]? = some (.own u p) → τ[i]? = some (some (.ref a)) → ¬ Own σ env a := fun i u p a h1 h2 ⟨j, u', p', h3, h4⟩ => by
    have hj := ltOf h3
    have q := S1.inj (n + i) j a u u' p p' (by rw [getR (by omega), he, Nat.add_sub_cancel_left]; exact h1) (by rw [getL hj]; exact h3) (by rw [getR (by omega), hn, Nat.add_sub_cancel_left]; exact h2) (by rw [getL (by omega)]; exact h4)
    omega
  have sideO : ∀ (i : Nat) (u : U) (p : Bool), ws[i]? = some (.own u p) → ∃ a o, τ[i]? = some (some (.ref a)) ∧ H1 a = some o ∧ Hold K fa F1 o u ∧ F1 a = none := fun i u p h => by
    obtain ⟨a, o, h1, h2, h3, h4⟩ := S1.slot (n + i) (.own u p) (by rw [getR (by omega), he, Nat.add_sub_cancel_left]; exact h)
    rw [getR (by omega), hn, Nat.add_sub_cancel_left] at h1
    exact ⟨a, o, h1, h2, h3, h4⟩
  have side2 : ∀ (i : Nat) (u : U) (p : Bool) (a : Addr), ws[i]? = some (.own u p) → τ[i]? = some (some (.ref a)) → H2 a = H1 a ∧ F2 a = none ∧ ¬ Own (σ ++ τ2) (env' ++ ws2) a := fun i u p a h1 h2 => by
    obtain ⟨a', o, q1, q2, q3, q4⟩ := sideO i u p h1
    rw [h2] at q1
    cases q1
    have no := side i u p a h1 h2
    refine ⟨(St.keep a o q2 no).trans q2.symm, ?_, fun z => ?_⟩
    · cases e : F2 a with
      | none => rfl
      | some o' =>
        rcases St.new a o' e with z | z | z
        · rw [q4] at z; cases z
        · exact absurd z no
        · rw [q2] at z; cases z
    · rcases St.sub a z with z | z
      · exact no z
      · rw [q2] at z; cases z
  have own3 : ∀ (i : Nat) (u : U) (p : Bool) (a : Addr), (env' ++ (ws ++ ws2))[i]? = some (.own u p) → (σ ++ (τ ++ τ2))[i]? = some (some (.ref a)) →
      (i < n ∧ (env' ++ ws2)[i]? = some (.own u p) ∧ (σ ++ τ2)[i]? = some (some (.ref a))) ∨ (n ≤ i ∧ i < n + ws.length ∧ ws[i - n]? = some (.own u p) ∧ τ[i - n]? = some (some (.ref a))) ∨
        (n + ws.length ≤ i ∧ (env' ++ ws2)[i - ws.length]? = some (.own u p) ∧ (σ ++ τ2)[i - ws.length]? = some (some (.ref a))) := fun i u p a h1 h2 => by
    by_cases c1 : i < n
    · rw [getL (by omega)] at h1 h2
      exact .inl ⟨c1, by rw [getL (by omega)]; exact h1, by rw [getL (by omega)]; exact h2⟩
    · by_cases c2 : i < n + ws.length
      · rw [getR (by omega), getL (by omega), he'] at h1
        rw [getR (by omega), getL (by omega), hn] at h2
        exact .inr (.inl ⟨by omega, c2, h1, h2⟩)
      · rw [getR (by omega), getR (by omega), he'] at h1
        rw [getR (by omega), getR (by omega), hn, hτ] at h2
        refine .inr (.inr ⟨by omega, ?_, ?_⟩)
        · rw [getR (by omega), he', show i - ws.length - n = i - n - ws.length by omega]; exact h1
        · rw [getR (by omega), hn, show i - ws.length - n = i - n - ws.length by omega]; exact h2
  refine ⟨⟨by simp only [List.length_append]; omega, S2.fr, fun i s e => ?_, fun i j a u u' p p' h1 h2 h3 h4 => ?_⟩, ⟨St.ext, fun a o h no => St.keep a o h fun z => no (z.left (by omega)), fun a z => ?_, fun a o h => ?_, fun i u h => ?_⟩⟩
  · by_cases c1 : i < n
    · rw [getL (by omega)] at e
      refine (S2.slot i s (by rw [getL (by omega)]; exact e)).move (.refl _) (by rw [getL (by omega), getL (by omega)]) (fun j e2 => ?_) fun _ _ _ _ _ _ a b => ⟨a, b⟩
      subst e2
      obtain ⟨hj, _⟩ := S2.slot i (.bor j) (by rw [getL (by omega)]; exact e)
      rw [getL (by omega), getL (by omega)]
    · by_cases c2 : i < n + ws.length
      · rw [getR (by omega), getL (by omega), he'] at e
        refine (S1.slot i s (by rw [getR (by omega), he]; exact e)).move St.ext (by rw [getR (by omega), getL (by omega), getR (by omega)]) (fun j e2 => ?_) fun u p a o e2 h1 h2 h3 => ?_
        · subst e2
          obtain ⟨hj, _⟩ := S1.slot i (.bor j) (by rw [getR (by omega), he]; exact e)
          rw [getL (by omega), getL (by omega)]
        · subst e2
          rw [getR (by omega), hn] at h1
          obtain ⟨q1, q2, _⟩ := side2 _ u p a e h1
          exact ⟨q1.trans h2, q2⟩
      · rw [getR (by omega), getR (by omega), he'] at e
        refine (S2.slot (i - ws.length) s (by rw [getR (by omega), he', show i - ws.length - n = i - n - ws.length by omega]; exact e)).move (.refl _) (by rw [getR (by omega), getR (by omega), getR (by omega), hτ, show i - σ.length - ws.length = i - ws.length - σ.length by omega]) (fun j e2 => ?_) fun _ _ _ _ _ _ a b => ⟨a, b⟩
        subst e2
        obtain ⟨hj, _⟩ := S2.slot (i - ws.length) (.bor j) (by rw [getR (by omega), he', show i - ws.length - n = i - n - ws.length by omega]; exact e)
        rw [getL (by omega), getL (by omega)]
  · rcases own3 i u p a h1 h3 with ⟨x1, x2, x3⟩ | ⟨x1, x1', x2, x3⟩ | ⟨x1, x2, x3⟩
    · rcases own3 j u' p' a h2 h4 with ⟨y1, y2, y3⟩ | ⟨y1, y1', y2, y3⟩ | ⟨y1, y2, y3⟩
      · exact S2.inj i j a u u' p p' x2 y2 x3 y3
      · exact absurd ⟨i, u, p, x2, x3⟩ (side2 _ _ _ _ y2 y3).2.2
      · have := S2.inj i _ a u u' p p' x2 y2 x3 y3
        omega
    · rcases own3 j u' p' a h2 h4 with ⟨y1, y2, y3⟩ | ⟨y1, y1', y2, y3⟩ | ⟨y1, y2, y3⟩
      · exact absurd ⟨j, u', p', y2, y3⟩ (side2 _ _ _ _ x2 x3).2.2
      · have := S1.inj i j a u u' p p' (by rw [getR (by omega), he]; exact x2) (by rw [getR (by omega), he]; exact y2) (by rw [getR (by omega), hn]; exact x3) (by rw [getR (by omega), hn]; exact y3)
        exact this
      · exact absurd ⟨_, u', p', y2, y3⟩ (side2 _ _ _ _ x2 x3).2.2
    · rcases own3 j u' p' a h2 h4 with ⟨y1, y2, y3⟩ | ⟨y1, y1', y2, y3⟩ | ⟨y1, y2, y3⟩
      · have := S2.inj _ j a u u' p p' x2 y2 x3 y3
        omega
      · exact absurd ⟨_, u, p, x2, x3⟩ (side2 _ _ _ _ y2 y3).2.2
      · have := S2.inj _ _ a u u' p p' x2 y2 x3 y3
        omega
  · obtain ⟨i, u, p, h1, h2⟩ := z
    rcases own3 i u p a h1 h2 with ⟨x1, x2, x3⟩ | ⟨x1, x1', x2, x3⟩ | ⟨x1, x2, x3⟩
    · exact (St.sub a ⟨i, u, p, x2, x3⟩).imp (fun z => z.left (by omega)) id
    · exact .inl ⟨i, u, p, by rw [getR (by omega), he]; exact x2, by rw [getR (by omega), hn]; exact x3⟩
    · exact (St.sub a ⟨_, u, p, x2, x3⟩).imp (fun z => z.left (by omega)) id
  · exact (St.new a o h).imp id fun z => z.imp (fun z => z.left (by omega)) id
  · by_cases c1 : i < n
    · rw [getL (by omega)] at h
      obtain ⟨q1, u', q2⟩ := St.pin i u h
      rw [getL (by omega)] at q1 q2
      exact ⟨by rw [getL (by omega), getL (by omega)], u', by rw [getL (by omega)]; exact q2⟩
    · have hi := ltOf h
      rw [List.length_append] at hi
      rw [getR (by omega), he] at h
      refine ⟨by rw [getR (by omega), getL (by omega), getR (by omega)], u, ?_⟩
      rw [getR (by omega), getL (by omega), he']
      exact h
/-- one place's own container is changed by nobody from now on -/
theorem Sim.freeze {i : Nat} {u : U} (S : Sim K fa n F H σ env) (h : env[i]? = some (.own u false)) : ∃ F', Sim K fa n F' H σ (env.set i (.val u)) ∧ Stp F H σ env F' H σ (env.set i (.val u)) := by
  obtain ⟨a, o, h1, h2, h3, h4⟩ := S.slot i _ h
  have hs : Sub F (upd F a o) := fun b ob e => by rw [upd_ne (fun z => by subst z; rw [h4] at e; cases e)]; exact e
  have hi := ltOf h
  have own : ∀ b, Own σ (env.set i (.val u)) b → Own σ env b ∧ b ≠ a := fun b ⟨j, u', p', q1, q2⟩ => by
    by_cases c : i = j
    · subst c; rw [List.getElem?_set_self hi] at q1; cases q1
    · rw [List.getElem?_set_ne c] at q1
      exact ⟨⟨j, u', p', q1, q2⟩, fun z => c (by subst z; exact S.inj i j b u u' false p' h q1 h1 q2)⟩
  refine ⟨upd F a o, ⟨by rw [List.length_set]; exact S.len, fun b ob e => ?_, fun j s e => ?_, fun j k b u1 u2 p1 p2 q1 q2 q3 q4 => ?_⟩, ⟨hs, fun _ _ q _ => q, fun b q => .inl (own b q).1, fun b ob e => ?_, fun j u' e => ?_⟩⟩
  · by_cases c : b = a
    · subst c; rw [upd_same] at e; rw [h2]; exact e
    · rw [upd_ne c] at e; exact S.fr b ob e
  · by_cases c : i = j
    · subst c
      rw [List.getElem?_set_self hi] at e
      cases e
      exact ⟨.ref a, h1, (h3.sub hs).rep upd_same⟩
    · rw [List.getElem?_set_ne c] at e
      refine (S.slot j s e).move hs rfl (fun _ _ => rfl) fun u' p' b ob e2 q1 q2 q3 => ⟨q2, ?_⟩
      subst e2
      rw [upd_ne (fun z => c (by subst z; exact S.inj i j b u u' false p' h e h1 q1))]
      exact q3
  · by_cases c : i = j
    · subst c; rw [List.getElem?_set_self hi] at q1; cases q1
    · by_cases d : i = k
      · subst d; rw [List.getElem?_set_self hi] at q2; cases q2
      · rw [List.getElem?_set_ne c] at q1
        rw [List.getElem?_set_ne d] at q2
        exact S.inj j k b u1 u2 p1 p2 q1 q2 q3 q4
  · by_cases c : b = a
    · subst c; exact .inr (.inl ⟨i, u, false, h, h1⟩)
    · rw [upd_ne c] at e; exact .inl e
  · have c : i ≠ j := fun z => by subst z; rw [h] at e; cases e
    exact ⟨rfl, u', by rw [List.getElem?_set_ne c]; exact e⟩
end
end PF
end
section
set_option Elab.async false
set_option autoImplicit false
set_option linter.all false
set_option maxRecDepth 100000
namespace PF
open PySem PySem.Spec PyProof.Rows L2

section
variable {K : PySem.W.Frag} {fa : FA} {n : Nat} {F F' H H' : Hp} {σ : L2.St} {env : En} {v : V} {w : Slot}
/-- what an operation leaves: its answer, new objects -/
structure OpPost (K : PySem.W.Frag) (fa : FA) (F H : Hp) (w : Slot) (v : V) (F' H' : Hp) : Prop where
  ext : Sub F F'
  fr : Sub F' H'
  keep : Sub H H'
  new : ∀ a o, F' a = some o → F a = some o ∨ H a = none
  rep : match w with
    | .val u => Rep K fa F' v u
    | .own u false => ∃ a o, v = .ref a ∧ H' a = some o ∧ Hold K fa F' o u ∧ F' a = none ∧ H a = none
    | _ => False
theorem OpPost.val {u : U} (hf : Sub F H) (r : Rep K fa F v u) : OpPost K fa F H (.val u) v F H := ⟨.refl _, hf, .refl _, fun _ _ e => .inl e, r⟩
theorem none_of (hf : Sub F H) {p : Addr} (h : H p = none) : F p = none := by
  cases e : F p with
  | none => rfl
  | some o => rw [hf p o e] at h; cases h
theorem sub_new {o : HO} {p : Addr} (h : H p = none) : Sub H (upd H p o) := fun b ob e => by rw [upd_ne (ne_of_none e h)]; exact e
theorem OpPost.own {u : U} {o : HO} {p : Addr} (hf : Sub F H) (h : H p = none) (r : Hold K fa F o u) : OpPost K fa F H (.own u false) (.ref p) F (upd H p o) :=
  ⟨.refl _, hf.trans (sub_new h), sub_new h, fun _ _ e => .inl e, p, o, rfl, upd_same, r, none_of hf h, h⟩
theorem OpPost.tup {us : List U} {xs : List V} {p : Addr} (hf : Sub F H) (h : H p = none) (r : RepAll K fa F xs us) : OpPost K fa F H (.val (.tup us)) (.ref p) (upd F p (.tup xs)) (upd H p (.tup xs)) := by
  have s : Sub F (upd F p (.tup xs)) := sub_new (none_of hf h)
  refine ⟨s, fun b o e => ?_, sub_new h, fun b o e => ?_, .tup (.inl (.inl upd_same)) (r.sub s)⟩
  · by_cases c : b = p
    · subst c; rw [upd_same] at e ⊢; exact e
    · rw [upd_ne c] at e ⊢; exact hf b o e
  · by_cases c : b = p
    · subst c; exact .inr h
    · rw [upd_ne c] at e; exact .inl e
/-- the answer on the side of the places -/
theorem OpPost.sim (P : OpPost K fa F H w v F' H') (S : Sim K fa n F H σ env) : Sim K fa n F' H' (σ ++ [some v]) (env ++ [w]) ∧ Stp F H σ env F' H' (σ ++ [some v]) (env ++ [w]) := by
  have hl := S.len
  have h1 : ∀ {α : Type} {x : α} {i : Nat} {y : α}, [x][i]? = some y → i = 0 ∧ y = x := fun {α x i y} e => by
    cases i with
    | zero => simp at e; exact ⟨rfl, e.symm⟩
    | succ i => simp at e
  have old : ∀ a, Own σ env a → ∃ o, H a = some o ∧ F a = none := fun a ⟨i, u, p, q1, q2⟩ => by
    obtain ⟨b, o, r1, r2, _, r4⟩ := S.slot i _ q1
    rw [q2] at r1
    cases r1
    exact ⟨o, r2, r4⟩
  have fresh : ∀ (u : U) (p : Bool) (a : Addr), w = .own u p → v = .ref a → H a = none := fun u p a e1 e2 => by
    have r := P.rep
    subst e1
    cases p with
    | true => exact r.elim
    | false =>
      obtain ⟨b, o, q1, _, _, _, q5⟩ := r
      rw [e2] at q1
      cases q1
      exact q5
  refine ⟨⟨by simp only [List.length_append, hl]; rfl, P.fr, fun i s e => ?_, fun i j a u u' p p' e1 e2 e3 e4 => ?_⟩, ⟨P.ext, fun a o e _ => P.keep a o e, fun a z => ?_, fun a o e => (P.new a o e).imp id .inr, fun i u e => ?_⟩⟩
  · by_cases c : i < env.length
    · rw [getL c] at e
      refine (S.slot i s e).move P.ext (getL (by omega)) (fun j e2 => ?_) fun u p a o e2 q1 q2 q3 => ⟨P.keep a o q2, ?_⟩
      · subst e2
        obtain ⟨_, y, q1, q2⟩ := S.slot i _ e
        exact getL (ltOf q2)
      · cases f : F' a with
        | none => rfl
        | some ob =>
          rcases P.new a ob f with z | z
          · rw [q3] at z; cases z
          · rw [q2] at z; cases z
    · rw [getR (by omega)] at e
      obtain ⟨ei, es⟩ := h1 e
      have ei' : i = σ.length := by omega
      subst es ei'
      have ev : (σ ++ [some v])[σ.length]? = some (some v) := by rw [getR (Nat.le_refl _)]; simp
      have r := P.rep
      cases s with
      | emp => exact r.elim
      | bor j => exact r.elim
      | val u => exact ⟨v, ev, r⟩
      | own u p =>
        cases p with
        | true => exact r.elim
        | false =>
          obtain ⟨a, o, q1, q2, q3, q4, _⟩ := r
          exact ⟨a, o, by rw [ev, q1], q2, q3, q4⟩
  · by_cases c : i < env.length
    · rw [getL c] at e1
      rw [getL (by omega)] at e3
      by_cases d : j < env.length
      · rw [getL d] at e2
        rw [getL (by omega)] at e4
        exact S.inj i j a u u' p p' e1 e2 e3 e4
      · rw [getR (by omega)] at e2 e4
        obtain ⟨o, q1, _⟩ := old a ⟨i, u, p, e1, e3⟩
        rw [fresh u' p' a (h1 e2).2.symm (Option.some.inj (h1 e4).2).symm] at q1
        cases q1
    · rw [getR (by omega)] at e1 e3
      by_cases d : j < env.length
      · rw [getL d] at e2
        rw [getL (by omega)] at e4
        obtain ⟨o, q1, _⟩ := old a ⟨j, u', p', e2, e4⟩
        rw [fresh u p a (h1 e1).2.symm (Option.some.inj (h1 e3).2).symm] at q1
        cases q1
      · rw [getR (by omega)] at e2
        have a1 := (h1 e1).1
        have a2 := (h1 e2).1
        omega
  · rcases Own.split hl z with z | ⟨i, u, p, q1, q2⟩
    · exact .inl z
    · exact .inr (fresh u p a (h1 q1).2.symm (Option.some.inj (h1 q2).2).symm)
  · have hi := ltOf e
    exact ⟨getL (by omega), u, (getL hi).trans e⟩

theorem BRep.lst {us : List U} (hf : Sub F H) (h : BRep K fa F H v (.lst us)) : ∃ a xs, v = .ref a ∧ H a = some (.lst xs) ∧ RepAll K fa F xs us := by
  rcases h with h | ⟨a, o, rfl, h2, h3⟩
  · cases h with
    | lst e r => exact ⟨_, _, rfl, hf _ _ e, r⟩
  · cases h3 with
    | lst r => exact ⟨a, _, rfl, h2, r⟩
theorem BRep.dic {us : List (Key × U)} (hf : Sub F H) (h : BRep K fa F H v (.dic us)) : ∃ a xs, v = .ref a ∧ H a = some (.dK xs) ∧ RepKV K fa F xs us := by
  rcases h with h | ⟨a, o, rfl, h2, h3⟩
  · cases h with
    | dic e r => exact ⟨_, _, rfl, hf _ _ e, r⟩
  · cases h3 with
    | dic r => exact ⟨a, _, rfl, h2, r⟩
theorem BRep.tup {us : List U} (hf : Sub F H) (h : BRep K fa F H v (.tup us)) : ∃ a xs, v = .ref a ∧ SqT K H a xs ∧ RepAll K fa F xs us ∧ Rep K fa F v (.tup us) := by
  rcases h with h | ⟨a, o, rfl, h2, h3⟩
  · cases h with
    | tup e r => exact ⟨_, _, rfl, SqT.sub hf e, r, .tup e r⟩
  · cases h3
theorem BRep.scr {us : List U} (hf : Sub F H) (h : BRep K fa F H v (.scr us)) : ∃ a xs, v = .ref a ∧ SqL K H a xs ∧ RepAll K fa F xs us := by
  rcases h with h | ⟨a, o, rfl, h2, h3⟩
  · cases h with
    | scr e r => exact ⟨_, _, rfl, SqL.sub hf e, r⟩
  · cases h3
theorem BRep.int {i : Int} (h : BRep K fa F H v (.int i)) : v = .int i := by
  rcases h with h | ⟨a, o, rfl, h2, h3⟩
  · cases h; rfl
  · cases h3
theorem BRep.bl {i : Bool} (h : BRep K fa F H v (.bl i)) : v = .bl i := by
  rcases h with h | ⟨a, o, rfl, h2, h3⟩
  · cases h; rfl
  · cases h3
theorem BRep.str {i : Str} (h : BRep K fa F H v (.str i)) : v = .str i := by
  rcases h with h | ⟨a, o, rfl, h2, h3⟩
  · cases h; rfl
  · cases h3
theorem BRep.non (h : BRep K fa F H v .non) : v = .non := by
  rcases h with h | ⟨a, o, rfl, h2, h3⟩
  · cases h; rfl
  · cases h3
theorem BRep.sub {u : U} (hf : Sub F F') (hh : Sub H H') (h : BRep K fa F H v u) : BRep K fa F' H' v u := by
  rcases h with h | ⟨a, o, e, h2, h3⟩
  · exact .inl (h.sub hf)
  · exact .inr ⟨a, o, e, hh _ _ h2, h3.sub hf⟩
end

section
variable {X : Cx} {fa : FA}
/-- an operation by values, as PF has it -/
def rOp (K : PySem.W.Frag) (fa : FA) (g : U → U → Option Slot) : R2 := fun x y H Q => ∃ F u1 u2 w, Sub F H ∧ BRep K fa F H x u1 ∧ BRep K fa F H y u2 ∧ g u1 u2 = some w ∧ ∀ v F' H', OpPost K fa F H w v F' H' → Q v H'

theorem mulOk_ok {i j : Int} (h : mulOk i j = true) : IntMulOk i j := by
  unfold mulOk at h
  simp only [Bool.or_eq_true, Bool.and_eq_true, decide_eq_true_eq] at h
  rcases h with (h | h) | h
  · exact CMul.ok (.inr h)
  · exact CMul.ok (.inl h)
  · exact CMulW.ok h
theorem divOk_ok {i j : Int} (h : divOk j = true) : 0 < j ∧ (CDiv i j ∨ CDivW i j) := by
  unfold divOk at h
  simp only [Bool.or_eq_true, Bool.and_eq_true, decide_eq_true_eq] at h
  obtain ⟨h0, h | h⟩ := h
  · exact ⟨h0, .inl ⟨h0, h⟩⟩
  · exact ⟨h0, .inr ⟨h0, h⟩⟩
def opOf : BOp → Operator
  | .add => .Add | .sub => .Sub | .mul => .Mult | .fdiv => .FloorDiv | .mod => .Mod | .pow => .Pow
theorem op_ok (op : BOp) : OpR X (binaryOp (opOf op)) (rOp X.K fa (opF op)) := by
  intro pins s σ H x y v u Q I rx ry ⟨F, u1, u2, w, hf, b1, b2, e, q⟩
  unfold opF at e
  split at e
  · cases e
    cases b1.int; cases b2.int
    exact op_add pins s σ H _ _ _ _ Q I rx ry ⟨_, _, rfl, rfl, q _ _ _ (.val hf (.int _))⟩
  · split at e
    · cases e
      cases b1.str; cases b2.str
      exact op_add_str pins s σ H _ _ _ _ Q I rx ry ⟨_, _, rfl, rfl, by assumption, q _ _ _ (.val hf (.str _))⟩
    · cases e
  · split at e
    · cases e
      obtain ⟨a, xs, rfl, h1, r1⟩ := b1.lst hf
      obtain ⟨b, ys, rfl, h2, r2⟩ := b2.lst hf
      exact op_cat pins s σ H _ _ _ _ Q I rx ry ⟨a, b, xs, ys, rfl, rfl, h1, h2, by rw [r1.length, r2.length]; assumption, fun p hp => q _ _ _ (.own hf hp (.lst (r1.app r2)))⟩
    · cases e
  · split at e
    · cases e
      obtain ⟨a, xs, rfl, h1, r1, p1⟩ := b1.tup hf
      obtain ⟨b, ys, rfl, h2, r2, p2⟩ := b2.tup hf
      refine op_catA pins s σ H _ _ _ _ Q I rx ry ⟨a, b, xs, ys, rfl, rfl, h1, h2, by rw [r1.length, r2.length]; assumption, ?_⟩
      refine ⟨fun z => ?_, fun z1 z2 => ?_, fun z1 z2 p hp => q _ _ _ (.tup hf hp (r1.app r2))⟩
      · subst z
        cases r1
        exact q _ _ _ (.val hf p2)
      · subst z2
        cases r2
        rw [List.append_nil] at q
        exact q _ _ _ (.val hf p1)
    · cases e
  · cases e
    cases b1.int; cases b2.int
    exact op_sub pins s σ H _ _ _ _ Q I rx ry ⟨_, _, rfl, rfl, q _ _ _ (.val hf (.int _))⟩
  · split at e
    · cases e
      cases b1.int; cases b2.int
      obtain ⟨t, rfl⟩ := rx
      obtain ⟨t', rfl⟩ := ry
      exact mul_int ⟨.int _, H, I.tok _, ⟨_, rfl⟩, q _ _ _ (.val hf (.int _))⟩ (mulOk_ok (by assumption))
    · cases e
  · split at e
    · rename_i hc
      cases e
      cases b2.int
      obtain ⟨a, xs, rfl, h1, r1⟩ := b1.lst hf
      exact op_rep pins s σ H _ _ _ _ Q I rx ry ⟨a, _, xs, rfl, rfl, h1, hc.1, hc.2.1, by rw [r1.length]; exact hc.2.2, fun p hp => q _ _ _ (.own hf hp (.lst (r1.rep _)))⟩
    · cases e
  · split at e
    · rename_i hc
      cases e
      cases b1.int; cases b2.int
      rcases (divOk_ok hc).2 with h | h
      · exact op_fdiv pins s σ H _ _ _ _ Q I rx ry ⟨_, _, rfl, rfl, h, q _ _ _ (.val hf (.int _))⟩
      · exact op_fdivW pins s σ H _ _ _ _ Q I rx ry ⟨_, _, rfl, rfl, h, q _ _ _ (.val hf (.int _))⟩
    · cases e
  · split at e
    · cases e
      cases b1.int; cases b2.int
      exact op_mod pins s σ H _ _ _ _ Q I rx ry ⟨_, _, rfl, rfl, by assumption, q _ _ _ (.val hf (.int _))⟩
    · cases e
  · split at e
    · cases e
      cases b1.int; cases b2.int
      exact op_pow pins s σ H _ _ _ _ Q I rx ry ⟨_, _, rfl, rfl, by assumption, q _ _ _ (.val hf (.int _))⟩
    · cases e
  · cases e

mutual
def U.toD : U → PyData
  | .non => .none
  | .bl b => .bool b
  | .int i => .int i
  | .str x => .str x
  | .lst xs => .list (U.toDs xs)
  | .tup xs => .tuple (U.toDs xs)
  | .dic _ | .fn _ | .scr _ => .none
def U.toDs : List U → List PyData
  | [] => []
  | x :: r => U.toD x :: U.toDs r
end
mutual
theorem U.lay : ∀ u : U, u.dep ≤ 64 → u.toD.canLay0 = true ∧ u.toD.depth ≤ u.dep
  | .non, _ => by simp [U.toD, PyData.canLay0, PyData.depth]
  | .bl b, _ => by simp [U.toD, PyData.canLay0, PyData.depth]
  | .int i, _ => by simp [U.toD, PyData.canLay0, PyData.depth]
  | .str x, h => by
    simp only [U.dep] at h
    split at h
    · simp [U.toD, PyData.canLay0, PyData.depth, *]
    · omega
  | .lst xs, h => by
    simp only [U.dep] at h
    obtain ⟨h1, h2⟩ := U.lays xs (by omega)
    simp only [U.toD, PyData.canLay0, PyData.depth, U.dep]
    exact ⟨h1, by omega⟩
  | .tup xs, h => by
    simp only [U.dep] at h
    obtain ⟨h1, h2⟩ := U.lays xs (by omega)
    simp only [U.toD, PyData.canLay0, PyData.depth, U.dep]
    exact ⟨h1, by omega⟩
  | .dic _, h => by simp [U.dep] at h
  | .fn _, h => by simp [U.dep] at h
  | .scr _, h => by simp [U.dep] at h
theorem U.lays : ∀ us : List U, U.deps us ≤ 64 → PyData.canLayAll0 (U.toDs us) = true ∧ PyData.depthAll (U.toDs us) ≤ U.deps us
  | [], _ => by simp [U.toDs, PyData.canLayAll0, PyData.depthAll]
  | x :: r, h => by
    simp only [U.deps] at h ⊢
    obtain ⟨h1, h2⟩ := U.lay x (by omega)
    obtain ⟨h3, h4⟩ := U.lays r (by omega)
    simp only [U.toDs, PyData.canLayAll0, PyData.depthAll, h1, h3, Bool.and_self, true_and]
    omega
end
mutual
theorem U.eqv : ∀ a b : U, a.dep ≤ 64 → b.dep ≤ 64 → PyData.eqv a.toD b.toD = U.eq a b
  | .lst xs, .lst ys, h, k => by
    simp only [U.dep] at h k
    simp only [U.toD, PyData.eqv, U.eq]
    exact U.eqvs xs ys (by omega) (by omega)
  | .tup xs, .tup ys, h, k => by
    simp only [U.dep] at h k
    simp only [U.toD, PyData.eqv, U.eq]
    exact U.eqvs xs ys (by omega) (by omega)
  | .dic _, _, h, _ => by simp [U.dep] at h
  | .fn _, _, h, _ => by simp [U.dep] at h
  | .scr _, _, h, _ => by simp [U.dep] at h
  | _, .dic _, _, h => by simp [U.dep] at h
  | _, .fn _, _, h => by simp [U.dep] at h
  | _, .scr _, _, h => by simp [U.dep] at h
  | .non, .non, _, _ => by simp [U.toD, PyData.eqv, U.eq]
  | .non, .bl _, _, _ => by simp [U.toD, PyData.eqv, U.eq]
  | .non, .int _, _, _ => by simp [U.toD, PyData.eqv, U.eq]
  | .non, .str _, _, _ => by simp [U.toD, PyData.eqv, U.eq]
  | .non, .lst _, _, _ => by simp [U.toD, PyData.eqv, U.eq]
  | .non, .tup _, _, _ => by simp [U.toD, PyData.eqv, U.eq]
  | .bl _, .non, _, _ => by simp [U.toD, PyData.eqv, U.eq]
  | .bl _, .bl _, _, _ => by simp [U.toD, PyData.eqv, U.eq]
  | .bl _, .int _, _, _ => by simp [U.toD, PyData.eqv, U.eq]
  | .bl _, .str _, _, _ => by simp [U.toD, PyData.eqv, U.eq]
  | .bl _, .lst _, _, _ => by simp [U.toD, PyData.eqv, U.eq]
  | .bl _, .tup _, _, _ => by simp [U.toD, PyData.eqv, U.eq]
  | .int _, .non, _, _ => by simp [U.toD, PyData.eqv, U.eq]
  | .int _, .bl _, _, _ => by simp [U.toD, PyData.eqv, U.eq]
  | .int _, .int _, _, _ => by simp [U.toD, PyData.eqv, U.eq]
  | .int _, .str _, _, _ => by simp [U.toD, PyData.eqv, U.eq]
  | .int _, .lst _, _, _ => by simp [U.toD, PyData.eqv, U.eq]
  | .int _, .tup _, _, _ => by simp [U.toD, PyData.eqv, U.eq]
  | .str _, .non, _, _ => by simp [U.toD, PyData.eqv, U.eq]
  | .str _, .bl _, _, _ => by simp [U.toD, PyData.eqv, U.eq]
  | .str _, .int _, _, _ => by simp [U.toD, PyData.eqv, U.eq]
  | .str _, .str _, _, _ => by simp [U.toD, PyData.eqv, U.eq]
  | .str _, .lst _, _, _ => by simp [U.toD, PyData.eqv, U.eq]
  | .str _, .tup _, _, _ => by simp [U.toD, PyData.eqv, U.eq]
  | .lst _, .non, _, _ => by simp [U.toD, PyData.eqv, U.eq]
  | .lst _, .bl _, _, _ => by simp [U.toD, PyData.eqv, U.eq]
  | .lst _, .int _, _, _ => by simp [U.toD, PyData.eqv, U.eq]
  | .lst _, .str _, _, _ => by simp [U.toD, PyData.eqv, U.eq]
  | .lst _, .tup _, _, _ => by simp [U.toD, PyData.eqv, U.eq]
  | .tup _, .non, _, _ => by simp [U.toD, PyData.eqv, U.eq]
  | .tup _, .bl _, _, _ => by simp [U.toD, PyData.eqv, U.eq]
  | .tup _, .int _, _, _ => by simp [U.toD, PyData.eqv, U.eq]
  | .tup _, .str _, _, _ => by simp [U.toD, PyData.eqv, U.eq]
  | .tup _, .lst _, _, _ => by simp [U.toD, PyData.eqv, U.eq]
theorem U.eqvs : ∀ a b : List U, U.deps a ≤ 64 → U.deps b ≤ 64 → PyData.eqvAll (U.toDs a) (U.toDs b) = U.eqs a b
  | [], [], _, _ => by simp [U.toDs, PyData.eqvAll, U.eqs]
  | [], _ :: _, _, _ => by simp [U.toDs, PyData.eqvAll, U.eqs]
  | _ :: _, [], _, _ => by simp [U.toDs, PyData.eqvAll, U.eqs]
  | x :: xs, y :: ys, h, k => by
    simp only [U.deps] at h k
    simp only [U.toDs, PyData.eqvAll, U.eqs, U.eqv x y (by omega) (by omega), U.eqvs xs ys (by omega) (by omega)]
end
theorem U.shaped {u : U} (h : u.data = true) : SeqAt.shaped u.toD = true := by
  have h : u.dep ≤ 64 := of_decide_eq_true h
  obtain ⟨h1, h2⟩ := U.lay u h
  unfold SeqAt.shaped
  rw [h1, Bool.true_and, decide_eq_true_eq]
  omega
mutual
theorem Rep.dp {K : PySem.W.Frag} {F H : Hp} (hf : Sub F H) : ∀ {u : U} {v : V}, u.dep ≤ 64 → Rep K fa F v u → Dp K H v u.toD
  | .non, _, _, r => by cases r; exact .non
  | .bl _, _, _, r => by cases r; exact .bl _
  | .int _, _, _, r => by cases r; exact .int _
  | .str _, _, _, r => by cases r; exact .str _
  | .lst us, _, h, r => by
    simp only [U.dep] at h
    cases r with
    | lst e t => simp only [U.toD]; exact .lst (.inl (.inl (hf _ _ e))) (RepAll.dp hf (by omega) t)
  | .tup us, _, h, r => by
    simp only [U.dep] at h
    cases r with
    | tup e t => simp only [U.toD]; exact .tup (SqT.sub hf e) (RepAll.dp hf (by omega) t)
  | .dic _, _, h, _ => by simp [U.dep] at h
  | .fn _, _, h, _ => by simp [U.dep] at h
  | .scr _, _, h, _ => by simp [U.dep] at h
theorem RepAll.dp {K : PySem.W.Frag} {F H : Hp} (hf : Sub F H) : ∀ {u : List U} {v : List V}, U.deps u ≤ 64 → RepAll K fa F v u → DpAll K H v (U.toDs u)
  | [], _, _, r => by cases r; exact .nil
  | x :: us, _, h, r => by
    simp only [U.deps] at h
    cases r with
    | cons a t => exact .cons (Rep.dp hf (by omega) a) (RepAll.dp hf (by omega) t)
end
theorem BRep.dp {K : PySem.W.Frag} {F H : Hp} {v : V} {u : U} (hf : Sub F H) (h : u.data = true) (b : BRep K fa F H v u) : Dp K H v u.toD := by
  have h : u.dep ≤ 64 := of_decide_eq_true h
  rcases b with r | ⟨a, o, rfl, e, k⟩
  · exact r.dp hf h
  · cases k with
    | lst t =>
      simp only [U.dep] at h
      simp only [U.toD]
      exact .lst (.inl (.inl e)) (RepAll.dp hf (by omega) t)
    | dic t => simp [U.dep] at h

def cOf : COp → CmpOp
  | .eq => .Eq | .ne => .NotEq | .lt => .Lt | .le => .LtE | .gt => .Gt | .ge => .GtE | .is => .Is | .isnot => .IsNot | .isin => .In | .notin => .NotIn
/-- a comparison by values, as PF has it -/
def rCm (K : PySem.W.Frag) (fa : FA) (g : U → U → Option Bool) : R2 := fun x y H Q => ∃ F u1 u2 b, Sub F H ∧ BRep K fa F H x u1 ∧ BRep K fa F H y u2 ∧ g u1 u2 = some b ∧ Q (.bl b) H
theorem flat_rep {K : PySem.W.Frag} {F : Hp} {v : V} {u : U} (r : Rep K fa F v u) (h : u.flat = true) : flatV v = true := by
  cases r <;> first | rfl | cases h
theorem flat_brep {K : PySem.W.Frag} {F H : Hp} {v : V} {u : U} (r : BRep K fa F H v u) (h : u.flat = true) : Rep K fa F v u := by
  rcases r with r | ⟨a, o, _, _, k⟩
  · exact r
  · cases k <;> cases h
theorem flat_all {K : PySem.W.Frag} {F : Hp} : ∀ {vs : List V} {us : List U}, RepAll K fa F vs us → us.all U.flat = true → vs.all flatV = true
  | _, _, .nil, _ => rfl
  | _, _, .cons r t, h => by
    simp only [List.all_cons, Bool.and_eq_true] at h ⊢
    exact ⟨flat_rep r h.1, flat_all t h.2⟩
theorem eqV_eq {K : PySem.W.Frag} {F : Hp} {v v' : V} {u u' : U} (r : Rep K fa F v u) (r' : Rep K fa F v' u') (h : u.flat = true) (h' : u'.flat = true) : eqV v v' = U.eq u u' := by
  cases r <;> first | (cases h; done) | skip
  all_goals (cases r' <;> first | (cases h'; done) | simp [eqV, U.eq])
theorem inV_eq {K : PySem.W.Frag} {F : Hp} {v : V} {u : U} (r : Rep K fa F v u) (h : u.flat = true) : ∀ {vs : List V} {us : List U}, RepAll K fa F vs us → us.all U.flat = true → inV v vs = us.any fun y => U.eq y u
  | _, _, .nil, _ => rfl
  | _, _, .cons a t, k => by
    simp only [List.all_cons, Bool.and_eq_true] at k
    unfold inV
    simp only [List.any_cons]
    rw [eqV_eq a r k.1 h]
    exact congrArg _ (inV_eq r h t k.2)
theorem keyF_rep {K : PySem.W.Frag} {F H : Hp} {v : V} {u : U} {k : Key} (b : BRep K fa F H v u) (h : keyF u = some k) : v = kV k := by
  unfold keyF at h
  split at h
  · cases h; exact b.int
  · cases h; exact b.str
  · cases h
theorem val_kv {K : PySem.W.Frag} {F : Hp} (k : Key) : ∀ {xs : List (Key × V)} {us : List (Key × U)}, RepKV K fa F xs us → (valV xs k = none ∧ valU us k = none) ∨ ∃ v u, valV xs k = some v ∧ valU us k = some u ∧ Rep K fa F v u
  | _, _, .nil => .inl ⟨rfl, rfl⟩
  | _, _, .cons (k := k') (v := v) (u := u) (vs := vs) (us := us) r t => by
    by_cases h : k' = k
    · exact .inr ⟨v, u, valV_pos h, by simp [valU, List.find?_cons, h], r⟩
    · have e1 : valV ((k', v) :: vs) k = valV vs k := valV_neg h
      have e2 : valU ((k', u) :: us) k = valU us k := by simp [valU, List.find?_cons, h]
      rw [e1, e2]
      exact val_kv k t
theorem any_kv {K : PySem.W.Frag} {F : Hp} (k : Key) : ∀ {xs : List (Key × V)} {us : List (Key × U)}, RepKV K fa F xs us → (xs.any fun kv => decide (kv.1 = k)) = us.any fun kv => decide (kv.1 = k)
  | _, _, .nil => rfl
  | _, _, .cons r t => by simp only [List.any_cons]; rw [any_kv k t]
theorem kv_length {K : PySem.W.Frag} {F : Hp} : ∀ {xs : List (Key × V)} {us : List (Key × U)}, RepKV K fa F xs us → xs.length = us.length
  | _, _, .nil => rfl
  | _, _, .cons r t => congrArg (· + 1) (kv_length t)
theorem map_kv {K : PySem.W.Frag} {F : Hp} {v : V} {u : U} (r : Rep K fa F v u) (k : Key) : ∀ {xs : List (Key × V)} {us : List (Key × U)}, RepKV K fa F xs us →
    RepKV K fa F (xs.map fun kv => if kv.1 = k then (kv.1, v) else kv) (us.map fun kv => if kv.1 = k then (kv.1, u) else kv)
  | _, _, .nil => .nil
  | _, _, .cons (k := k') a t => by
    simp only [List.map_cons]
    by_cases h : k' = k
    · simp only [h, if_true]; exact .cons r (map_kv r k t)
    · simp only [h, if_false]; exact .cons a (map_kv r k t)
theorem app_kv {K : PySem.W.Frag} {F : Hp} {v : V} {u : U} (r : Rep K fa F v u) (k : Key) : ∀ {xs : List (Key × V)} {us : List (Key × U)}, RepKV K fa F xs us → RepKV K fa F (xs ++ [(k, v)]) (us ++ [(k, u)])
  | _, _, .nil => .cons r .nil
  | _, _, .cons a t => .cons a (app_kv r k t)
theorem put_kv {K : PySem.W.Frag} {F : Hp} {v : V} {u : U} (r : Rep K fa F v u) (k : Key) {xs : List (Key × V)} {us : List (Key × U)} (h : RepKV K fa F xs us) : RepKV K fa F (putK xs k v) (putU us k u) := by
  unfold putK putU
  rw [any_kv k h]
  split
  · exact map_kv r k h
  · exact app_kv r k h
theorem cmp_ok (hu : X.A.units + 65 < cLine) (op : COp) : OpR X (compareOp (cOf op)) (rCm X.K fa (cmpF op)) := by
  intro pins s σ H x y v u Q I rx ry ⟨F, u1, u2, c, hf, b1, b2, e, q⟩
  have opt : ∀ {f : Bool → Bool} {o : Option Bool}, o.map f = some c → ∃ d, o = some d ∧ f d = c := fun {f o} h => Option.map_eq_some_iff.mp h
  have isin : ∀ (ys : List U) (b : Bool), inF u1 ys = some b → u1.flat = true ∧ ys.all U.flat = true ∧ b = ys.any fun y => U.eq y u1 := fun ys b h => by
    unfold inF at h
    split at h
    · rename_i hc
      simp only [Bool.and_eq_true] at hc
      exact ⟨hc.1, hc.2, (Option.some.inj h).symm⟩
    · cases h
  unfold cmpF at e
  split at e
  · split at e
    · rename_i hd
      simp only [Bool.and_eq_true] at hd
      cases e
      refine op_eqD (by omega) pins s σ H x y v u Q I rx ry ⟨_, _, b1.dp hf hd.1, b2.dp hf hd.2, U.shaped hd.1, U.shaped hd.2, ?_⟩
      rw [U.eqv _ _ (of_decide_eq_true hd.1) (of_decide_eq_true hd.2)]
      exact q
    · cases e
  · split at e
    · rename_i hd
      simp only [Bool.and_eq_true] at hd
      cases e
      refine op_neD (by omega) pins s σ H x y v u Q I rx ry ⟨_, _, b1.dp hf hd.1, b2.dp hf hd.2, U.shaped hd.1, U.shaped hd.2, ?_⟩
      rw [U.eqv _ _ (of_decide_eq_true hd.1) (of_decide_eq_true hd.2)]
      exact q
    · cases e
  · cases e; cases b1.int; cases b2.int
    exact op_lt pins s σ H _ _ _ _ Q I rx ry ⟨_, _, rfl, rfl, q⟩
  · cases e; cases b1.int; cases b2.int
    exact op_le pins s σ H _ _ _ _ Q I rx ry ⟨_, _, rfl, rfl, q⟩
  · cases e; cases b1.int; cases b2.int
    exact op_gt pins s σ H _ _ _ _ Q I rx ry ⟨_, _, rfl, rfl, q⟩
  · cases e; cases b1.int; cases b2.int
    exact op_ge pins s σ H _ _ _ _ Q I rx ry ⟨_, _, rfl, rfl, q⟩
  · cases b2.non
    refine op_isN pins s σ H _ _ _ _ Q I rx ry ⟨rfl, ?_⟩
    have hx : decide (x = V.non) = c := by
      split at e
      · cases e; cases b1.non; rfl
      · rename_i hn
        cases e
        refine decide_eq_false fun z => ?_
        subst z
        rcases b1 with r | ⟨_, _, z, _, _⟩
        · cases r; exact hn rfl
        · cases z
    rw [hx]
    exact q
  · cases b2.non
    refine op_notN pins s σ H _ _ _ _ Q I rx ry ⟨rfl, ?_⟩
    have hx : (!decide (x = V.non)) = c := by
      split at e
      · cases e; cases b1.non; rfl
      · rename_i hn
        cases e
        rw [decide_eq_false]
        · rfl
        intro z
        subst z
        rcases b1 with r | ⟨_, _, z, _, _⟩
        · cases r; exact hn rfl
        · cases z
    rw [hx]
    exact q
  · obtain ⟨f1, f2, e3⟩ := isin _ _ e
    obtain ⟨a, xs, rfl, h2, r2⟩ := b2.lst hf
    refine op_in_seq pins s σ H _ _ _ _ Q I rx ry ⟨a, xs, rfl, .inl (.inl (.inl h2)), flat_rep (flat_brep b1 f1) f1, flat_all r2 f2, ?_⟩
    simp only [Bool.false_eq_true, if_false]
    rw [inV_eq (flat_brep b1 f1) f1 r2 f2, ← e3]
    exact q
  · obtain ⟨f1, f2, e3⟩ := isin _ _ e
    obtain ⟨a, xs, rfl, h2, r2, _⟩ := b2.tup hf
    refine op_in_seq pins s σ H _ _ _ _ Q I rx ry ⟨a, xs, rfl, .inr h2, flat_rep (flat_brep b1 f1) f1, flat_all r2 f2, ?_⟩
    simp only [Bool.false_eq_true, if_false]
    rw [inV_eq (flat_brep b1 f1) f1 r2 f2, ← e3]
    exact q
  · obtain ⟨d, e', rfl⟩ := opt e
    obtain ⟨f1, f2, e3⟩ := isin _ _ e'
    obtain ⟨a, xs, rfl, h2, r2⟩ := b2.lst hf
    refine op_notIn_seq pins s σ H _ _ _ _ Q I rx ry ⟨a, xs, rfl, .inl (.inl (.inl h2)), flat_rep (flat_brep b1 f1) f1, flat_all r2 f2, ?_⟩
    simp only [if_true]
    rw [inV_eq (flat_brep b1 f1) f1 r2 f2, ← e3]
    exact q
  · obtain ⟨d, e', rfl⟩ := opt e
    obtain ⟨f1, f2, e3⟩ := isin _ _ e'
    obtain ⟨a, xs, rfl, h2, r2, _⟩ := b2.tup hf
    refine op_notIn_seq pins s σ H _ _ _ _ Q I rx ry ⟨a, xs, rfl, .inr h2, flat_rep (flat_brep b1 f1) f1, flat_all r2 f2, ?_⟩
    simp only [if_true]
    rw [inV_eq (flat_brep b1 f1) f1 r2 f2, ← e3]
    exact q
  · obtain ⟨k, e', rfl⟩ := Option.map_eq_some_iff.mp e
    obtain ⟨a, xs, rfl, h2, r2⟩ := b2.dic hf
    obtain rfl := keyF_rep b1 e'
    cases (show u = Value.ref a from ry)
    refine d_in (by omega) I (DGet.k h2) rx fun s' I' => ⟨.bl _, H, I', rfl, ?_⟩
    rcases val_kv k r2 with ⟨h3, h4⟩ | ⟨w, u', h3, h4, _⟩ <;> (rw [h3]; rw [h4] at q; exact q)
  · obtain ⟨k, e', rfl⟩ := Option.map_eq_some_iff.mp e
    obtain ⟨a, xs, rfl, h2, r2⟩ := b2.dic hf
    obtain rfl := keyF_rep b1 e'
    cases (show u = Value.ref a from ry)
    refine d_notIn (by omega) I (DGet.k h2) rx fun s' I' => ⟨.bl _, H, I', rfl, ?_⟩
    rcases val_kv k r2 with ⟨h3, h4⟩ | ⟨w, u', h3, h4, _⟩ <;> (rw [h3]; rw [h4] at q; exact q)
  · cases e

theorem atI_rep {K : PySem.W.Frag} {F : Hp} {xs : List V} {us : List U} {i : Int} {u : U} (r : RepAll K fa F xs us) (h : atU us i = some u) : ∃ v, atI xs i = some v ∧ Rep K fa F v u := by
  unfold atU atI at h
  unfold atI
  rw [r.length]
  cases e : ixN us.length i with
  | none => rw [e] at h; cases h
  | some j => rw [e] at h; exact r.get h
/-- a subscript by values, as PF has it -/
def rIxU (K : PySem.W.Frag) (fa : FA) : R2 := fun x y H Q => ∃ F u1 u2 w, Sub F H ∧ BRep K fa F H x u1 ∧ BRep K fa F H y u2 ∧ idxF u1 u2 = some w ∧ ∀ v, Rep K fa F v w → Q v H
theorem ix_ok (hu : X.A.units + 65 < cLine) : IxR X (rIxU X.K fa) := by
  intro value slice pins s σ H x y v u Q I rx ry ⟨F, u1, u2, w, hf, b1, b2, e, q⟩ hs
  unfold idxF at e
  split at e
  · obtain ⟨a, xs, rfl, h1, r1⟩ := b1.lst hf
    cases b2.int
    obtain ⟨z, h2, r2⟩ := atI_rep r1 e
    exact ix_list value slice pins s σ H _ _ _ _ Q I rx ry ⟨a, xs, _, z, rfl, rfl, .inl (.inl h1), h2, q _ r2⟩ hs
  · obtain ⟨a, xs, rfl, h1, r1, _⟩ := b1.tup hf
    cases b2.int
    obtain ⟨z, h2, r2⟩ := atI_rep r1 e
    exact ix_tup value slice pins s σ H _ _ _ _ Q I rx ry ⟨a, xs, _, z, rfl, rfl, h1, h2, q _ r2⟩ hs
  · split at e
    · obtain ⟨c, h2, rfl⟩ := Option.map_eq_some_iff.mp e
      cases b1.str; cases b2.int
      exact ix_str value slice pins s σ H _ _ _ _ Q I rx ry ⟨_, _, c, rfl, rfl, by assumption, h2, q _ (.str _)⟩ hs
    · cases e
  · obtain ⟨k, h2, h3⟩ := Option.bind_eq_some_iff.mp e
    obtain ⟨a, xs, rfl, h1, r1⟩ := b1.dic hf
    obtain rfl := keyF_rep b2 h2
    cases (show v = Value.ref a from rx)
    rcases val_kv k r1 with ⟨_, h4⟩ | ⟨z, u', h4, h5, r2⟩
    · rw [h4] at h3; cases h3
    · rw [h5] at h3
      cases h3
      have g : DGet H a (kV k) (some z) := by rw [← h4]; exact DGet.k h1
      exact tail_any (dict_typeIs I g) PySem.F.slot_dict_getitem.lookup (d_getItem (by omega) I g ry fun w' s' I' rw' => ⟨z, H, I', rw', q _ r2⟩) hs
  · cases e
theorem cut_rep {K : PySem.W.Frag} {F : Hp} {xs : List V} {us : List U} (r : RepAll K fa F xs us) (lo hi : Option Int) : RepAll K fa F (cutV xs lo hi) (cutU us lo hi) := by
  unfold cutV cutU
  rw [r.length]
  exact (r.drop _).take _
theorem cut_all {us : List U} {lo hi : Option Int} (h : HT.sIx us.length 0 lo = 0 ∧ HT.sIx us.length us.length hi = us.length) : cutU us lo hi = us := by
  unfold cutU
  rw [h.1, h.2, List.drop_zero, Nat.sub_zero, List.take_length]
/-- a slice by values, as PF has it -/
def rSlU (K : PySem.W.Frag) (fa : FA) : V → Option Int → Option Int → Hp → VK → Prop := fun x lo hi H Q => ∃ F u w, Sub F H ∧ BRep K fa F H x u ∧ slcF u lo hi = some w ∧ ∀ v F' H', OpPost K fa F H w v F' H' → Q v H'
theorem sl_ok : SlR X (rSlU X.K fa) := by
  intro pins s σ H x v vl vu lo hi sl Q I rx hs pl pu ⟨F, u, w, hf, b, e, q⟩
  unfold slcF at e
  split at e
  · cases e
    obtain ⟨a, xs, rfl, h1, r1⟩ := b.lst hf
    exact sl_list pins s σ H _ v vl vu _ _ sl Q I rx hs pl pu ⟨a, xs, rfl, .inl (.inl h1), fun p hp => q _ _ _ (.own hf hp (.lst (cut_rep r1 _ _)))⟩
  · cases e
    obtain ⟨a, xs, rfl, h1, r1, r0⟩ := b.tup hf
    refine sl_tupA pins s σ H _ v vl vu _ _ sl Q I rx hs pl pu ⟨a, xs, rfl, h1, fun z => ?_, fun _ p hp => q _ _ _ (.tup hf hp (cut_rep r1 _ _))⟩
    rw [r1.length] at z
    rw [cut_all z] at q
    exact q _ _ _ (.val hf r0)
  · cases e

def bltV : Blt → Value
  | .len => .builtin "len" | .abs => .builtin "abs" | .max2 => .builtin "max" | .min2 => .builtin "min" | .sum => .builtin "sum" | .all => .builtin "all" | .any => .builtin "any"
  | .int => .type "int" | .list => .type "list" | .tuple => .type "tuple" | .sorted => .builtin "sorted" | .str => .type "str"
def bltN : Blt → Str
  | .len => "len" | .abs => "abs" | .max2 => "max" | .min2 => "min" | .sum => "sum" | .all => "all" | .any => "any"
  | .int => "int" | .list => "list" | .tuple => "tuple" | .sorted => "sorted" | .str => "str"
theorem blt_boot : ∀ b : Blt, bootBuiltins (bltN b) = some (bltV b)
  | .len => by decide +kernel
  | .abs => by decide +kernel
  | .max2 => by decide +kernel
  | .min2 => by decide +kernel
  | .sum => by decide +kernel
  | .all => by decide +kernel
  | .any => by decide +kernel
  | .int => by decide +kernel
  | .list => by decide +kernel
  | .tuple => by decide +kernel
  | .sorted => by decide +kernel
  | .str => by decide +kernel
inductive BReps (K : PySem.W.Frag) (fa : FA) (F H : Hp) : List V → List U → Prop
  | nil : BReps K fa F H [] []
  | cons {v : V} {vs : List V} {u : U} {us : List U} : BRep K fa F H v u → BReps K fa F H vs us → BReps K fa F H (v :: vs) (u :: us)
theorem BReps.one {K : PySem.W.Frag} {F H : Hp} {vs : List V} {u : U} (h : BReps K fa F H vs [u]) : ∃ v, vs = [v] ∧ BRep K fa F H v u := by
  cases h with
  | cons a t => cases t; exact ⟨_, rfl, a⟩
theorem BReps.two {K : PySem.W.Frag} {F H : Hp} {vs : List V} {u u' : U} (h : BReps K fa F H vs [u, u']) : ∃ v v', vs = [v, v'] ∧ BRep K fa F H v u ∧ BRep K fa F H v' u' := by
  cases h with
  | cons a t =>
    obtain ⟨v', rfl, b⟩ := t.one
    exact ⟨_, _, rfl, a, b⟩
theorem BReps.three {K : PySem.W.Frag} {F H : Hp} {vs : List V} {u u' u'' : U} (h : BReps K fa F H vs [u, u', u'']) : ∃ v v' v'', vs = [v, v', v''] ∧ BRep K fa F H v u ∧ BRep K fa F H v' u' ∧ BRep K fa F H v'' u'' := by
  cases h with
  | cons a t =>
    obtain ⟨v', v'', rfl, b, c⟩ := t.two
    exact ⟨_, _, _, rfl, a, b, c⟩
def rBl (K : PySem.W.Frag) (fa : FA) (g : List U → Option Slot) : List V → Hp → VK → Prop := fun xs H Q => ∃ F us w, Sub F H ∧ BReps K fa F H xs us ∧ g us = some w ∧ ∀ v F' H', OpPost K fa F H w v F' H' → Q v H'
theorem blt_ok (hc : X.calm = true) (b : Blt) : CallR X (bltV b) (rBl X.K fa (bltF b)) := by
  intro pins s σ H xs us Q I r ⟨F, as, w, hf, bs, e, q⟩
  unfold bltF at e
  split at e
  · cases e
    obtain ⟨v, rfl, b1⟩ := bs.one
    obtain ⟨a, ys, rfl, h1, r1⟩ := b1.lst hf
    exact call_len pins s σ H _ us Q I r ⟨_, _, rfl, .inl ⟨ys, .inl (.inl h1), rfl⟩, by rw [r1.length]; exact q _ _ _ (.val hf (.int _))⟩
  · cases e
    obtain ⟨v, rfl, b1⟩ := bs.one
    obtain ⟨a, ys, rfl, h1, r1, _⟩ := b1.tup hf
    exact call_len pins s σ H _ us Q I r ⟨_, _, rfl, .inr ⟨ys, h1, rfl⟩, by rw [r1.length]; exact q _ _ _ (.val hf (.int _))⟩
  · split at e
    · cases e
      obtain ⟨v, rfl, b1⟩ := bs.one
      cases b1.str
      exact call_len pins s σ H _ us Q I r ⟨_, _, rfl, ⟨by assumption, rfl⟩, q _ _ _ (.val hf (.int _))⟩
    · cases e
  · cases e
    obtain ⟨v, rfl, b1⟩ := bs.one
    cases b1.int
    exact call_abs pins s σ H _ us Q I r ⟨_, rfl, q _ _ _ (.val hf (.int _))⟩
  · cases e
    obtain ⟨v, v', rfl, b1, b2⟩ := bs.two
    cases b1.int; cases b2.int
    exact call_max2 hc pins s σ H _ us Q I r ⟨_, _, rfl, q _ _ _ (.val hf (.int _))⟩
  · cases e
    obtain ⟨v, v', rfl, b1, b2⟩ := bs.two
    cases b1.int; cases b2.int
    exact call_min2 hc pins s σ H _ us Q I r ⟨_, _, rfl, q _ _ _ (.val hf (.int _))⟩
  · obtain ⟨ns, e1, rfl⟩ := Option.map_eq_some_iff.mp e
    obtain ⟨v, rfl, b1⟩ := bs.one
    obtain ⟨a, ys, rfl, h1, r1⟩ := b1.lst hf
    exact cr_sum hc pins s σ H _ us Q I r ⟨a, ns, rfl, by rw [← r1.ints e1]; exact .inl (.inl h1), q _ _ _ (.val hf (.int _))⟩
  · obtain ⟨ns, e1, rfl⟩ := Option.map_eq_some_iff.mp e
    obtain ⟨v, rfl, b1⟩ := bs.one
    obtain ⟨a, ys, rfl, h1, r1⟩ := b1.lst hf
    exact cr_all hc pins s σ H _ us Q I r ⟨a, ns, rfl, by rw [← r1.bls e1]; exact .inl (.inl h1), q _ _ _ (.val hf (.bl _))⟩
  · obtain ⟨ns, e1, rfl⟩ := Option.map_eq_some_iff.mp e
    obtain ⟨v, rfl, b1⟩ := bs.one
    obtain ⟨a, ys, rfl, h1, r1⟩ := b1.lst hf
    exact cr_any hc pins s σ H _ us Q I r ⟨a, ns, rfl, by rw [← r1.bls e1]; exact .inl (.inl h1), q _ _ _ (.val hf (.bl _))⟩
  · cases e
    obtain ⟨v, rfl, b1⟩ := bs.one
    cases b1.int
    exact call_int1 pins s σ H _ us Q I r (.inl ⟨_, rfl, q _ _ _ (.val hf (.int _))⟩)
  · cases e
    obtain ⟨v, rfl, b1⟩ := bs.one
    cases b1.bl
    exact call_int1 pins s σ H _ us Q I r (.inr ⟨_, rfl, q _ _ _ (.val hf (.int _))⟩)
  · cases e
    obtain ⟨v, rfl, b1⟩ := bs.one
    obtain ⟨a, ys, rfl, h1, r1⟩ := b1.lst hf
    exact call_list_of pins s σ H _ us Q I r ⟨a, ys, rfl, .inl (.inl (.inl h1)), fun p hp => q _ _ _ (.own hf hp (.lst r1))⟩
  · cases e
    obtain ⟨v, rfl, b1⟩ := bs.one
    obtain ⟨a, ys, rfl, h1, r1, _⟩ := b1.tup hf
    exact call_list_of pins s σ H _ us Q I r ⟨a, ys, rfl, .inr h1, fun p hp => q _ _ _ (.own hf hp (.lst r1))⟩
  · cases e
    obtain ⟨v, rfl, b1⟩ := bs.one
    obtain ⟨a, ys, rfl, h1, r1⟩ := b1.scr hf
    exact call_list_of pins s σ H _ us Q I r ⟨a, ys, rfl, .inl h1, fun p hp => q _ _ _ (.own hf hp (.lst r1))⟩
  · cases e
    obtain ⟨v, rfl, b1⟩ := bs.one
    obtain ⟨a, ys, rfl, h1, r1⟩ := b1.lst hf
    exact call_tuple_of pins s σ H _ us Q I r ⟨a, ys, rfl, .inl ⟨.inl (.inl h1), fun p hp => q _ _ _ (.tup hf hp r1)⟩⟩
  · cases e
    obtain ⟨v, rfl, b1⟩ := bs.one
    obtain ⟨a, ys, rfl, h1, r1, r0⟩ := b1.tup hf
    exact call_tuple_of pins s σ H _ us Q I r ⟨a, ys, rfl, .inr ⟨h1, q _ _ _ (.val hf r0)⟩⟩
  · obtain ⟨ns, e1, rfl⟩ := Option.map_eq_some_iff.mp e
    obtain ⟨v, rfl, b1⟩ := bs.one
    obtain ⟨a, ys, rfl, h1, r1⟩ := b1.lst hf
    refine cr_sortedI pins s σ H _ us Q I r ⟨a, ns, rfl, by rw [← r1.ints e1]; exact .inl (.inl h1), fun ns' p h2 h3 hp => ?_⟩
    have h4 : (ns.mergeSort fun a b => decide (a ≤ b)).Pairwise (· ≤ ·) := by
      have := List.pairwise_mergeSort (le := fun a b : Int => decide (a ≤ b)) (fun a b c h h' => by simp only [decide_eq_true_eq] at *; omega) (fun a b => by simp only [Bool.or_eq_true, decide_eq_true_eq]; omega) ns
      exact this.imp fun h => of_decide_eq_true h
    have h5 : ns' = ns.mergeSort fun a b => decide (a ≤ b) := PySem.W.ksm_same (h2.trans (List.mergeSort_perm ns _).symm) h3 h4
    subst h5
    exact q _ _ _ (.own hf hp (.lst (RepAll.of_ints _)))
  · split at e
    · cases e
      obtain ⟨v, rfl, b1⟩ := bs.one
      cases b1.int
      exact call_str_int pins s σ H _ us Q I r ⟨_, rfl, by assumption, q _ _ _ (.val hf (.str _))⟩
    · cases e
  · cases e

def tyS : TyN → String
  | .int => "int" | .bool => "bool" | .str => "str" | .tuple => "tuple" | .list => "list"
theorem ty_boot : ∀ t : TyN, bootBuiltins (tyS t) = some (.type (tyS t))
  | .int => by decide +kernel
  | .bool => by decide +kernel
  | .str => by decide +kernel
  | .tuple => by decide +kernel
  | .list => by decide +kernel
theorem kit_int (t : TyN) : kitB "int" (tyS t) = some (match t with | .int => true | _ => false) := by cases t <;> decide +kernel
theorem kit_bl (t : TyN) : kitB "bool" (tyS t) = some (match t with | .int => true | .bool => true | _ => false) := by cases t <;> decide +kernel
theorem kit_str (t : TyN) : kitB "str" (tyS t) = some (match t with | .str => true | _ => false) := by cases t <;> decide +kernel
theorem kit_tup (t : TyN) : kitB "tuple" (tyS t) = some (match t with | .tuple => true | _ => false) := by cases t <;> decide +kernel
theorem kit_lst (t : TyN) : kitB "list" (tyS t) = some (match t with | .list => true | _ => false) := by cases t <;> decide +kernel
theorem kit_non (t : TyN) : kitB "NoneType" (tyS t) = some false := by cases t <;> decide +kernel
theorem tyT {K : PySem.W.Frag} {H : Hp} {a : Addr} {xs : List V} (h : SqT K H a xs) : TyX K H (.ref a) (.type "tuple") := by
  rcases h with (h | ⟨o, h⟩) | ⟨o, its, n, h1, h2, _⟩
  · exact .base (.tup h)
  · exact .fTuple h
  · exact .kTuple h1 h2
def rIs (K : PySem.W.Frag) (fa : FA) (t : TyN) : List V → Hp → VK → Prop := fun xs H Q => ∃ F x u b, xs = [x, .ty (tyS t)] ∧ Sub F H ∧ BRep K fa F H x u ∧ istF t u = some b ∧ Q (.bl b) H
theorem ist_ok (t : TyN) : CallR X (.builtin "isinstance") (rIs X.K fa t) := by
  intro pins s σ H xs us Q I r ⟨F, x, u, b, e1, hf, b1, e, q⟩
  subst e1
  suffices h : ∃ ty : String, TyX X.K H x (.type ty) ∧ kitB ty (tyS t) = some b by
    obtain ⟨ty, h1, h2⟩ := h
    exact call_isi pins s σ H _ us Q I r ⟨x, _, _, _, b, rfl, .ty _, h1, kit_ty h2, q⟩
  cases u with
  | non => cases b1.non; refine ⟨"NoneType", .base .non, ?_⟩; rw [kit_non]; cases t <;> (cases e; rfl)
  | bl k => cases b1.bl; refine ⟨"bool", .base (.bl _), ?_⟩; rw [kit_bl]; cases t <;> (cases e; rfl)
  | int k => cases b1.int; refine ⟨"int", .base (.int _), ?_⟩; rw [kit_int]; cases t <;> (cases e; rfl)
  | str k => cases b1.str; refine ⟨"str", .base (.str _), ?_⟩; rw [kit_str]; cases t <;> (cases e; rfl)
  | tup k =>
    obtain ⟨a, ys, rfl, h1, _⟩ := b1.tup hf
    refine ⟨"tuple", tyT h1, ?_⟩
    rw [kit_tup]; cases t <;> (cases e; rfl)
  | lst k =>
    obtain ⟨a, ys, rfl, h1, _⟩ := b1.lst hf
    refine ⟨"list", .base (.lst h1), ?_⟩
    rw [kit_lst]; cases t <;> (cases e; rfl)
  | dic k => cases t <;> cases e
  | fn k => cases t <;> cases e
  | scr k => cases t <;> cases e

theorem tru_rep {K : PySem.W.Frag} {F H : Hp} {v : V} {u : U} {k : Bool} (hf : Sub F H) (b : BRep K fa F H v u) (e : u.tru = some k) : TruV K v H k := by
  cases u with
  | non => cases b.non; cases e; rfl
  | bl b' => cases b.bl; cases e; rfl
  | int i => cases b.int; cases e; rfl
  | str y =>
    cases b.str
    simp only [U.tru] at e
    split at e
    · cases e; exact ⟨by assumption, rfl⟩
    · cases e
  | tup us =>
    obtain ⟨a, xs, rfl, h1, r1, _⟩ := b.tup hf
    cases e
    refine .inr (.inl ⟨xs, h1, ?_⟩)
    cases r1 <;> rfl
  | lst us =>
    obtain ⟨a, xs, rfl, h1, r1⟩ := b.lst hf
    cases e
    refine .inl ⟨xs, .inl (.inl h1), ?_⟩
    cases r1 <;> rfl
  | dic us =>
    obtain ⟨a, xs, rfl, h1, r1⟩ := b.dic hf
    cases e
    refine .inr (.inr ⟨xs, h1, ?_⟩)
    cases r1 <;> rfl
  | fn _ => cases e
  | scr _ => cases e
end
end PF
end
section
set_option Elab.async false
set_option autoImplicit false
set_option linter.all false
set_option maxRecDepth 100000
namespace PF
open PySem PySem.Spec PyProof.Rows L2

abbrev XRt := Hp → Hp → Exn → Value → Option Addr → Prop
section
variable {α β : Type} {K : PySem.W.Frag} {fa : FA} {XR : XRt} {W : WX} {n : Nat} {F F1 H H1 : Hp} {σ τ : L2.St} {env env1 : En}
def Out (K : PySem.W.Frag) (fa : FA) (XR : XRt) (W : WX) (n : Nat) (sh : α → List Slot) (F H : Hp) (σ : L2.St) (env : En) (r : Res (α × En)) (Q : α → List V → Hp → Prop) : Prop := match r with
  | .ok (a, env') => ∀ vs F' H', Sim K fa n F' H' (σ ++ vs.map some) (env' ++ sh a) → Stp F H σ env F' H' (σ ++ vs.map some) (env' ++ sh a) → env'.length = n → Q a vs H'
  | .exc x env' => ∀ F' H' cls d, Sim K fa n F' H' σ env' → Stp F H σ env F' H' σ env' → XR F' H' x cls d → W cls d σ H'
  | .bad => False
theorem Out.pre {sh : α → List Slot} {r : Res (α × En)} {Q : α → List V → Hp → Prop} (h : Out K fa XR W n sh F H σ env r Q) (st : Stp F H σ env F1 H1 σ env1) : Out K fa XR W n sh F1 H1 σ env1 r Q := by
  cases r with
  | ok z => exact fun vs F' H' S St hl => h vs F' H' S (st.trans St) hl
  | exc x e => exact fun F' H' cls d S St hx => h F' H' cls d S (st.trans St) hx
  | bad => exact h
theorem Out.imp {sh : α → List Slot} {r : Res (α × En)} {Q Q' : α → List V → Hp → Prop} (h : Out K fa XR W n sh F H σ env r Q) (i : ∀ a vs H', Q a vs H' → Q' a vs H') : Out K fa XR W n sh F H σ env r Q' := by
  cases r with
  | ok z => exact fun vs F' H' S St hl => i _ _ _ (h vs F' H' S St hl)
  | exc x e => exact h
  | bad => exact h
/-- a run within a run -/
theorem Out.sub {sh : α → List Slot} {sh' : β → List Slot} {r : Res (α × En)} {k : α × En → Res (β × En)} {Q : β → List V → Hp → Prop} (h : Out K fa XR W n sh' F H σ env (r.bind k) Q) (st : Stp F H σ env F1 H1 σ env1) :
    Out K fa XR W n sh F1 H1 σ env1 r (fun a vs H' => ∃ F' env', r = .ok (a, env') ∧ Sim K fa n F' H' (σ ++ vs.map some) (env' ++ sh a) ∧ Stp F1 H1 σ env1 F' H' (σ ++ vs.map some) (env' ++ sh a) ∧ env'.length = n) := by
  cases r with
  | ok z => exact fun vs F' H' S' St hl => ⟨F', z.2, rfl, S', St, hl⟩
  | exc x e => exact fun F' H' cls d S St hx => h F' H' cls d S (st.trans St) hx
  | bad => exact h
theorem Out.of {sh' : β → List Slot} {o : Option α} {k : α → Res (β × En)} {Q : β → List V → Hp → Prop} (h : Out K fa XR W n sh' F H σ env ((Res.of o).bind k) Q) : ∃ a, o = some a ∧ Out K fa XR W n sh' F H σ env (k a) Q := by
  cases o with
  | none => exact h.elim
  | some a => exact ⟨a, rfl, h⟩
/-- an answer by an operation -/
theorem Out.post {w : Slot} {v : V} {F' H' : Hp} {Q : Slot → List V → Hp → Prop} (S : Sim K fa n F1 H1 σ env1) (st : Stp F H σ env F1 H1 σ env1) (hl : env1.length = n) (h : Out K fa XR W n (fun w => [w]) F H σ env (.ok (w, env1)) Q) (P : OpPost K fa F1 H1 w v F' H') : Q w [v] H' := by
  obtain ⟨S1, St⟩ := P.sim S
  exact h [v] F' H' S1 (st.trans St) hl
end

section
variable {K : PySem.W.Frag} {fa : FA} {n : Nat} {F H : Hp} {σ : L2.St} {env : En}
/-- a place's value, looked at -/
theorem look_rep {τ : L2.St} {ws : En} (S : Sim K fa n F H (σ ++ τ) (env ++ ws)) (hl : σ.length = env.length) (hn : n ≤ σ.length) {j : Nat} {s : Slot} {u : U} {v : V} (h1 : ws[j]? = some s) (h2 : τ[j]? = some (some v)) (h : look env s = some u) : BRep K fa F H v u := by
  have e1 : (env ++ ws)[env.length + j]? = some s := by rw [getR (by omega), Nat.add_sub_cancel_left]; exact h1
  have e2 : (σ ++ τ)[env.length + j]? = some (some v) := by rw [getR (by omega), hl, Nat.add_sub_cancel_left]; exact h2
  have q := S.slot _ _ e1
  cases s with
  | emp => cases h
  | val u' =>
    cases h
    obtain ⟨v', q1, q2⟩ := q
    rw [e2] at q1
    cases q1
    exact .inl q2
  | own u' p =>
    cases h
    obtain ⟨a, o, q1, q2, q3, _⟩ := q
    rw [e2] at q1
    cases q1
    exact .inr ⟨a, o, rfl, q2, q3⟩
  | bor i =>
    obtain ⟨hi, v', q1, q2⟩ := q
    rw [e2] at q1
    cases q1
    have hi' : i < env.length := by omega
    cases e : env[i]? with
    | none =>
      have := List.getElem?_eq_none_iff.mp e
      omega
    | some t =>
      have r := S.slot i t (by rw [getL hi']; exact e)
      cases t with
      | emp => simp [look, e] at h
      | bor k => simp [look, e] at h
      | val u' =>
        simp only [look, e] at h
        cases h
        obtain ⟨v', r1, r2⟩ := r
        rw [q2] at r1
        cases r1
        exact .inl r2
      | own u' p =>
        simp only [look, e] at h
        cases h
        obtain ⟨a, o, r1, r2, r3, _⟩ := r
        rw [q2] at r1
        cases r1
        exact .inr ⟨a, o, rfl, r2, r3⟩
theorem looks_rep : ∀ {ws ws0 : En} {vs vs0 : List V} {us : List U}, Sim K fa n F H (σ ++ (vs0 ++ vs).map some) (env ++ (ws0 ++ ws)) → σ.length = env.length → n ≤ σ.length → vs0.length = ws0.length → vs.length = ws.length → looks env ws = some us → BReps K fa F H vs us
  | [], _, [], _, us, _, _, _, _, _, h => by cases h; exact .nil
  | [], _, _ :: _, _, _, _, _, _, _, h, _ => by simp at h
  | _ :: _, _, [], _, _, _, _, _, _, h, _ => by simp at h
  | s :: ws, ws0, v :: vs, vs0, us, S, hl, hn, h0, hv, h => by
    unfold looks at h
    obtain ⟨u, e1, h⟩ := Option.bind_eq_some_iff.mp h
    obtain ⟨us', e2, e3⟩ := Option.map_eq_some_iff.mp h
    subst e3
    refine .cons (look_rep (j := ws0.length) S hl hn (by simp) (by simp [← h0]) e1) ?_
    refine looks_rep (ws0 := ws0 ++ [s]) (vs0 := vs0 ++ [v]) (ws := ws) (vs := vs) ?_ hl hn (by simp [h0]) (by simpa using hv) e2
    simpa using S
theorem set_same {α : Type} {xs : List α} {i : Nat} {x : α} (h : xs[i]? = some x) : xs.set i x = xs := by
  apply List.ext_getElem?
  intro j
  by_cases c : i = j
  · subst c; rw [List.getElem?_set_self (ltOf h), h]
  · rw [List.getElem?_set_ne c]
/-- what is held on the side is changed by nobody from now on -/
theorem frz_one {s : Slot} {u : U} {i : Nat} (S : Sim K fa n F H σ env) (h : env[i]? = some s) (e : frz s = some u) : ∃ F', Sim K fa n F' H σ (env.set i (.val u)) ∧ Stp F H σ env F' H σ (env.set i (.val u)) := by
  cases s with
  | emp => cases e
  | bor _ => cases e
  | val u' =>
    cases e
    have : env.set i (.val u) = env := set_same h
    rw [this]
    exact ⟨F, S, .refl _ _ _ _⟩
  | own u' p =>
    cases p with
    | true => cases e
    | false => cases e; exact S.freeze h
theorem frzs_all : ∀ {F : Hp} {ws ws0 : En} {us : List U}, Sim K fa n F H σ (ws0 ++ ws) → frzs ws = some us → ∃ F', Sim K fa n F' H σ (ws0 ++ us.map .val) ∧ Stp F H σ (ws0 ++ ws) F' H σ (ws0 ++ us.map .val)
  | F, [], ws0, us, S, h => by cases h; exact ⟨F, by simpa using S, by simpa using Stp.refl _ _ _ _⟩
  | F, s :: ws, ws0, us, S, h => by
    unfold frzs at h
    obtain ⟨u, e1, h⟩ := Option.bind_eq_some_iff.mp h
    obtain ⟨us', e2, e3⟩ := Option.map_eq_some_iff.mp h
    subst e3
    obtain ⟨F1, S1, St1⟩ := frz_one (i := ws0.length) S (by simp) e1
    have es : (ws0 ++ s :: ws).set ws0.length (.val u) = (ws0 ++ [.val u]) ++ ws := by simp
    rw [es] at S1 St1
    obtain ⟨F2, S2, St2⟩ := frzs_all S1 e2
    refine ⟨F2, ?_, ?_⟩
    · simpa using S2
    · simpa using St1.trans St2
/-- what stands on the side as values -/
theorem vals_rep : ∀ {us : List U} {ws0 : En} {vs : List V} {τ : L2.St}, Sim K fa n F H (τ ++ vs.map some) (ws0 ++ us.map .val) → τ.length = ws0.length → vs.length = us.length → RepAll K fa F vs us
  | [], _, [], _, _, _, _ => .nil
  | [], _, _ :: _, _, _, _, h => by simp at h
  | _ :: _, _, [], _, _, _, h => by simp at h
  | u :: us, ws0, v :: vs, τ, S, h1, h2 => by
    refine .cons ?_ (vals_rep (ws0 := ws0 ++ [.val u]) (τ := τ ++ [some v]) (by simpa using S) (by simp [h1]) (by simpa using h2))
    obtain ⟨v', q1, q2⟩ := S.slot ws0.length (.val u) (by simp)
    rw [← h1] at q1
    simp at q1
    subst q1
    exact q2
theorem frzs_length : ∀ {ws : En} {us : List U}, frzs ws = some us → ws.length = us.length
  | [], us, h => by cases h; rfl
  | s :: ws, us, h => by
    unfold frzs at h
    obtain ⟨u, e1, h⟩ := Option.bind_eq_some_iff.mp h
    obtain ⟨us', e2, e3⟩ := Option.map_eq_some_iff.mp h
    subst e3
    simp [frzs_length e2]
/-- a new value and no other on the side -/
theorem Sim.swap {τ : L2.St} {ws : En} {w : Slot} {v : V} {F' H' : Hp} (S : Sim K fa n F H (σ ++ τ) (env ++ ws)) (hl : σ.length = env.length) (hn : n ≤ σ.length) (P : OpPost K fa F H w v F' H') :
    Sim K fa n F' H' (σ ++ [some v]) (env ++ [w]) ∧ Stp F H σ env F' H' (σ ++ [some v]) (env ++ [w]) := P.sim (S.head hl hn)
end

structure Tbl where
  fns : List Str
  cst : List Str
  free : List Str
def visB (sc : Scope) (x : Str) : Bool := match sc.names.lookup x with
  | some .local => true
  | some .cell => true
  | some .free => true
  | _ => false
def gloB (sc : Scope) (x : Str) : Bool := decide (sc.names.lookup x = some .globalImplicit)
def nameB (N : List Str) (sc : Scope) (i : Nat) (x : Str) : Bool := decide (N[i]? = some x) && visB sc x && !(x == ("__debug__" : Str)) && !(x == ("__classdict__" : Str))
/-- a name of the module or of the built-ins -/
def globB (sc : Scope) (x y : Str) : Bool := decide (x = y) && gloB sc x && !(x == ("__debug__" : Str)) && !decide (x = "__name__")
def plainB : Expr → Bool
  | .Starred .. => false
  | .Slice .. => false
  | .Set .. => false
  | _ => true
def conB : U → Const → Bool
  | .non, .none => true
  | .bl b, .bool c => b == c
  | .int i, .int j => decide (i = j)
  | .str x, .str y => decide (x = y)
  | _, _ => false
def tupB : Expr → Bool
  | .Tuple .. => true
  | _ => false
/-- a name that a block stores -/
def locB (sc : Scope) (x : Str) : Bool := match sc.names.lookup x with
  | some .local => true
  | some .cell => true
  | _ => false
mutual
/-- targets -/
def chkG (N : List Str) (sc : Scope) : E → Expr → Bool
  | .tnm i, .Name x _ => decide (N[i]? = some x) && locB sc x
  | .ttp es, .Tuple xs _ _ => chkGs N sc es xs
  | _, _ => false
def chkGs (N : List Str) (sc : Scope) : E → List Expr → Bool
  | .nil, [] => true
  | .cons a r, x :: xs => chkG N sc a x && plainB x && chkGs N sc r xs
  | _, _ => false
end
def E.tgs : E → List Nat
  | .tnm i => [i]
  | .ttp es => es.tgs
  | .cons a r => a.tgs ++ r.tgs
  | _ => []
def itB (T : Tbl) : ItK → Scope → Expr → Str → List Expr → Bool
  | .rng1, sc, _, x, [_] => globB sc x "range" && T.free.contains x
  | .rng2, sc, _, x, [_, _] => globB sc x "range" && T.free.contains x
  | .rng3, sc, _, x, [_, _, _] => globB sc x "range" && T.free.contains x
  | .enum, sc, tg, x, [_] => tupB tg && globB sc x "enumerate" && T.free.contains x
  | .zip, sc, tg, x, [_, _] => tupB tg && globB sc x "zip" && T.free.contains x
  | _, _, _, _, _ => false
def rngB : ItK → Bool
  | .rng1 => true
  | .rng2 => true
  | .rng3 => true
  | _ => false
def ownOf (N : List Str) (vs : List Nat) : List (Str × Nat) := vs.map fun i => ((N[i]?).getD ⟨#[]⟩, i)
/-- a comprehension's test -/
def cndB (c : E) (ifs : List Expr) (r : Expr → Bool) : Bool := match ifs with
  | [] => (match c with | .nil => true | _ => false)
  | [c'] => (match c with | .nil => false | _ => r c')
  | _ => false
/-- the scope within a comprehension: its targets and names -/
def compB (N : List Str) (vs : List Nat) (tg : E) (sc scope : Scope) (tg' it' : Expr) : Bool :=
  plainB it' && blkC N sc scope (ownOf N vs) && chkG N scope tg tg' && tg.tgs.all fun i => vs.contains i
section
variable (T : Tbl) (N : List Str)
mutual
def chkE : E → Scope → Expr → Bool
  | .var i, sc, .Name x _ => nameB N sc i x
  | .bor i, sc, .Name x _ => nameB N sc i x
  | .mov i, sc, .Name x _ => nameB N sc i x
  | .con u, _, .Constant c _ _ => conB u c
  | .glc k, sc, .Name x _ => (match T.cst[k]? with
    | some y => globB sc x y
    | none => false)
  | .fnr i, sc, .Name x _ => (match T.fns[i]? with
    | some y => globB sc x y
    | none => false)
  | .tup es, sc, .Tuple xs _ _ => chkL es sc xs
  | .lst es, sc, .List xs _ => chkL es sc xs
  | .dic0, _, .Dict [] [] _ => true
  | .bin op a b, sc, .BinOp x o y _ => decide (o = opOf op) && chkE a sc x && chkE b sc y
  | .neg a, sc, .UnaryOp .USub x _ => chkE a sc x
  | .not a, sc, .UnaryOp .Not x _ => chkE a sc x
  | .cmp op a b, sc, .Compare x [o] [y] _ => decide (o = cOf op) && chkE a sc x && chkE b sc y && plainB y
  | .chn op op' a b c, sc, .Compare x [o, o'] [y, z] _ => decide (o = cOf op) && decide (o' = cOf op') && chkE a sc x && chkE b sc y && chkE c sc z && plainB y && plainB z
  | .and a b, sc, .BoolOp .And (x :: y :: r) p => chkE a sc x && (match r with
    | [] => chkE b sc y
    | _ => chkE b sc (.BoolOp .And (y :: r) p))
  | .or a b, sc, .BoolOp .Or (x :: y :: r) p => chkE a sc x && (match r with
    | [] => chkE b sc y
    | _ => chkE b sc (.BoolOp .Or (y :: r) p))
  | .ite c a b, sc, .IfExp z x y _ => chkE c sc z && chkE a sc x && chkE b sc y
  | .call f es, sc, .Call (.Name x _) args [] _ => (match T.fns[f]? with
    | some y => globB sc x y
    | none => false) && chkL es sc args
  | .cvar i es, sc, .Call (.Name x _) args [] _ => nameB N sc i x && chkL es sc args
  | .blt b es, sc, .Call (.Name x _) args [] _ => globB sc x (bltN b) && T.free.contains x && chkL es sc args && !args.isEmpty
  | .ist t a, sc, .Call (.Name x _) [y, .Name z _] [] _ => globB sc x "isinstance" && T.free.contains x && globB sc z (tyS t) && T.free.contains z && chkE a sc y && plainB y
  | .idx a b, sc, .Subscript x y _ => chkE a sc x && chkE b sc y && plainB y
  | .slc a lo hi, sc, .Subscript x (.Slice l h none _) _ => chkE a sc x && (match l with
    | none => (match lo with | .nil => true | _ => false)
    | some l => (match lo with | .nil => false | _ => chkE lo sc l)) && (match h with
    | none => (match hi with | .nil => true | _ => false)
    | some h => (match hi with | .nil => false | _ => chkE hi sc h))
  | .lrg kk es, sc, .Call (.Name x _) [.Call (.Name y _) args [] _] [] _ => globB sc x "list" && T.free.contains x && rngB kk && itB T kk sc (.Name x default) y args && chkL es sc args
  | .trg kk es, sc, .Call (.Name x _) [.Call (.Name y _) args [] _] [] _ => globB sc x "tuple" && T.free.contains x && rngB kk && itB T kk sc (.Name x default) y args && chkL es sc args
  | .cmp1 vs tg it c elt, sc, .ListComp elt' [⟨tg', it', ifs, as⟩] scope _ => decide (as = 0) && compB N vs tg sc scope tg' it' && chkI it sc tg' it' && chkE elt (relS scope sc) elt' && cndB c ifs (chkE c (relS scope sc))
  | _, _, _ => false
def chkL : E → Scope → List Expr → Bool
  | .nil, _, [] => true
  | .cons a r, sc, x :: xs => chkE a sc x && plainB x && chkL r sc xs
  | _, _, _ => false
def chkI : E → Scope → Expr → Expr → Bool
  | .itr .plain (.cons e .nil), sc, _, ex => chkE e sc ex
  | .itr kk es, sc, tg, .Call (.Name x _) args [] _ => itB T kk sc tg x args && chkL es sc args
  | _, _, _, _ => false
end
end

/-- a def's promise: what PF's run of it gives -/
def spF (K : PySem.W.Frag) (fa : FA) (XR : XRt) (D : Den) (i : Nat) (md : List Bool) : Sp := fun vs H Q E => ∃ (F : Hp) (as : List Slot), as.length = md.length ∧ vs.length = md.length ∧
  (∀ j : Nat, (md[j]? = some false → ∃ u, as[j]? = some (.val u)) ∧ (md[j]? = some true → ∃ u, as[j]? = some (.own u true))) ∧ Sim K fa 0 F H (vs.map some) as ∧
  (match D i as with
  | .ok (w, os) => ∀ v F' H', Sim K fa 0 F' H' (vs.map some ++ [some v]) (os ++ [w]) → Stp F H (vs.map some) as F' H' (vs.map some ++ [some v]) (os ++ [w]) → os.length = as.length → Q v H'
  | .exc x os => ∀ F' H' cls d, Sim K fa 0 F' H' (vs.map some) os → Stp F H (vs.map some) as F' H' (vs.map some) os → XR F' H' x cls d → E cls d H'
  | .bad => False)
structure Amb (T : Tbl) (G : Gx) (fa : FA) (XR : XRt) (k : Nat) (W : WX) (X : Cx) : Prop where
  calm : X.calm = true
  nd : X.N.Nodup
  room : Room k X.A
  takes : Takes X W
  free : ∀ x, T.free.contains x = true → X.mg x = none
  cst : ∀ (i : Nat) (x : Str), T.cst[i]? = some x → ∃ u val v, G.cst[i]? = some u ∧ X.mg x = some val ∧ RelV v val ∧ ∀ F, Rep X.K fa F v u
  fns : ∀ (i : Nat) (x : Str), T.fns[i]? = some x → ∃ f md, fa i = some f ∧ X.mg x = some (.ref f) ∧ G.modes i = some md
  md : ∀ (i : Nat) (f : Addr), fa i = some f → ∃ md, G.modes i = some md
  ok : ∀ (i : Nat) (f : Addr), fa i = some f → ∀ md, G.modes i = some md → ∃ fd ps, PySem.W.keepIn X.K (.ref f) = true ∧ Binds X.K fd ps [] ∧ FnOk X.prog X.w X.K X.mg X.base (L2.CX X.prog X.w) k f fd ps (spF X.K fa XR G.den i md)

section
variable (T : Tbl) (G : Gx) (fa : FA) (XR : XRt) (k : Nat)
def tEv (W : WX) (X : Cx) (e : E) : TE := fun σ H Q => ∃ F env, σ.length = X.N.length ∧ Sim X.K fa X.N.length F H σ env ∧ Out X.K fa XR W X.N.length (fun w => [w]) F H σ env (evE G e env) (fun _ vs H' => ∃ v, vs = [v] ∧ Q v H')
def tEvL (W : WX) (X : Cx) (e : E) : TA := fun σ H Q => ∃ F env, σ.length = X.N.length ∧ Sim X.K fa X.N.length F H σ env ∧ Out X.K fa XR W X.N.length (fun ws => ws) F H σ env (evL G e env) (fun _ vs H' => Q vs H')
def evT (e : E) (env : En) : Res (Bool × En) := (evE G e env).bind fun (p, env) => (Res.of (look env p)).bind fun u => (Res.of u.tru).bind fun k => .ok (k, env)
def tEvT (W : WX) (X : Cx) (e : E) : TT := fun σ H Q => ∃ F env, σ.length = X.N.length ∧ Sim X.K fa X.N.length F H σ env ∧ Out X.K fa XR W X.N.length (fun _ => []) F H σ env (evT G e env) (fun b _ H' => Q b H')
def OkE (e : E) : Prop := ∀ (X : Cx) (W : WX), Amb T G fa XR k W X → ∀ ex, chkE T X.N e X.env.scope ex = true → PE X ex (tEv G fa XR W X e)
def OkT (e : E) : Prop := ∀ (X : Cx) (W : WX), Amb T G fa XR k W X → ∀ ex, chkE T X.N e X.env.scope ex = true → PT X ex (tEvT G fa XR W X e)
def OkW (e : E) : Prop := ∀ (X : Cx) (W : WX), Amb T G fa XR k W X → ∀ op xs p, chkE T X.N e X.env.scope (.BoolOp op xs p) = true → PW X (.BoolOp op xs p) (tEvT G fa XR W X e)
def OkL (e : E) : Prop := ∀ (X : Cx) (W : WX), Amb T G fa XR k W X → ∀ exs, chkL T X.N e X.env.scope exs = true → PA X exs (tEvL G fa XR W X e)
end
theorem PE.imp {X : Cx} {e : Expr} {t t' : TE} (h : PE X e t) (i : ∀ σ H Q, t' σ H Q → t σ H Q) : PE X e t' := ⟨fun pins s σ H Q I q => h.run pins s σ H Q I (i σ H Q q)⟩
theorem PT.imp {X : Cx} {e : Expr} {t t' : TT} (h : PT X e t) (i : ∀ σ H Q, t' σ H Q → t σ H Q) : PT X e t' := ⟨fun pins s σ H Q I q => h.run pins s σ H Q I (i σ H Q q)⟩
theorem PW.imp {X : Cx} {e : Expr} {t t' : TT} (h : PW X e t) (i : ∀ σ H Q, t' σ H Q → t σ H Q) : PW X e t' := ⟨fun wh pins s σ H Q I q => h.run wh pins s σ H Q I (i σ H Q q)⟩
theorem PA.imp {X : Cx} {e : List Expr} {t t' : TA} (h : PA X e t) (i : ∀ σ H Q, t' σ H Q → t σ H Q) : PA X e t' := ⟨fun pos pins s σ H Q I q => h.run pos pins s σ H Q I (i σ H Q q)⟩
section
variable {T : Tbl} {G : Gx} {fa : FA} {XR : XRt} {k : Nat} {W : WX} {X : Cx} {σ : L2.St} {H : Hp} {F : Hp} {env : En}
/-- one operand, then the rest -/
theorem ev1 {β : Type} {a : E} {F0 H0 : Hp} {env0 : En} {sh' : β → List Slot} {kk : Slot × En → Res (β × En)} {Q : β → List V → Hp → Prop} (hn : σ.length = X.N.length) (S : Sim X.K fa X.N.length F H σ env) (st : Stp F0 H0 σ env0 F H σ env)
    (h : Out X.K fa XR W X.N.length sh' F0 H0 σ env0 ((evE G a env).bind kk) Q) : tEv G fa XR W X a σ H fun x H1 => ∃ F1 env1 p, evE G a env = .ok (p, env1) ∧ Sim X.K fa X.N.length F1 H1 (σ ++ [some x]) (env1 ++ [p]) ∧
      Stp F H σ env F1 H1 (σ ++ [some x]) (env1 ++ [p]) ∧ env1.length = X.N.length := by
  refine ⟨F, env, hn, S, (Out.sub (sh := fun w => [w]) h st).imp fun p vs H1 ⟨F1, env1, e1, S1, st1, hl⟩ => ?_⟩
  have e := S1.len
  simp only [List.length_append, List.length_map, List.length_singleton] at e
  obtain ⟨v, rfl⟩ : ∃ v, vs = [v] := List.length_eq_one_iff.mp (by omega)
  exact ⟨v, rfl, F1, env1, p, e1, S1, st1, hl⟩
/-- two operands, then the rest -/
theorem ev2 {β : Type} {a b : E} {F0 H0 : Hp} {env0 : En} {sh' : β → List Slot} {k1 : Slot × En → Res (β × En)} {Q : β → List V → Hp → Prop} (hn : σ.length = X.N.length) (S : Sim X.K fa X.N.length F H σ env) (st : Stp F0 H0 σ env0 F H σ env)
    (h : Out X.K fa XR W X.N.length sh' F0 H0 σ env0 ((evE G a env).bind k1) Q) (hk : ∀ z, ∃ kk : Slot × En → Res (β × En), k1 z = (evE G b z.2).bind kk) : tEv G fa XR W X a σ H fun x H1 => tEv G fa XR W X b σ H1 fun y H2 => ∃ F2 env1 env2 p q, evE G a env = .ok (p, env1) ∧ evE G b env1 = .ok (q, env2) ∧
      Sim X.K fa X.N.length F2 H2 (σ ++ [some x, some y]) (env2 ++ [p, q]) ∧ env2.length = X.N.length ∧ Stp F H σ env F2 H2 (σ ++ [some x, some y]) (env2 ++ [p, q]) := by
  obtain ⟨F0', env0', h0, S0, o⟩ := ev1 hn S st h
  refine ⟨F0', env0', h0, S0, o.imp fun _ vs H1 ⟨x, e, F1, env1, p, e1, S1, st1, l1⟩ => ⟨x, e, ?_⟩⟩
  rw [e1, Res.bind_ok] at h
  obtain ⟨kk, hk⟩ := hk (p, env1)
  rw [hk] at h
  obtain ⟨F0'', env0'', h0', S0', o'⟩ := ev1 (a := b) hn (S1.head (by omega) (by omega)) (st.trans (st1.head (by omega) (by have := S.len; omega))) h
  refine ⟨F0'', env0'', h0', S0', o'.imp fun _ ws H2 ⟨y, e', F2, env2, q, e2, S2, st2, l2⟩ => ⟨y, e', F2, env1, env2, p, q, e1, e2, ?_⟩⟩
  obtain ⟨S3, st3⟩ := frame (τ := [some x]) (ws := [p]) S1 hn l1 l2 S2 st2
  exact ⟨S3, l2, st1.trans st3⟩
end
end PF
end
section
set_option Elab.async false
set_option autoImplicit false
set_option linter.all false
set_option maxRecDepth 100000
namespace PF
open PySem PySem.Spec PyProof.Rows L2

section
variable {T : Tbl} {N : List Str} {sc : Scope}
theorem nameB_of {i : Nat} {x : Str} (h : nameB N sc i x = true) : N[i]? = some x ∧ Vis sc x ∧ (x == ("__debug__" : Str)) = false ∧ (x == ("__classdict__" : Str)) = false := by
  unfold nameB at h
  simp only [Bool.and_eq_true, decide_eq_true_eq, Bool.not_eq_true'] at h
  obtain ⟨⟨⟨h1, h2⟩, h3⟩, h4⟩ := h
  refine ⟨h1, ?_, h3, h4⟩
  unfold visB at h2
  split at h2
  · exact .inl (by assumption)
  · exact .inr (.inl (by assumption))
  · exact .inr (.inr (by assumption))
  · cases h2
theorem globB_of {x y : Str} (h : globB sc x y = true) : x = y ∧ sc.names.lookup x = some .globalImplicit ∧ (x == ("__debug__" : Str)) = false ∧ x ≠ "__name__" := by
  unfold globB gloB at h
  simp only [Bool.and_eq_true, decide_eq_true_eq, Bool.not_eq_true', decide_eq_false_iff_not] at h
  obtain ⟨⟨⟨h1, h2⟩, h3⟩, h4⟩ := h
  exact ⟨h1, h2, h3, h4⟩
theorem star_cons {x : Expr} {xs : List Expr} {env : Env} (h : plainB x = true) : starEach (x :: xs) env = (false, eval x env) :: starEach xs env := by
  cases x <;> first | rfl | cases h
theorem plain_ix {x : Expr} (h : plainB x = true) : PlainIx x := by
  cases x <;> first | (intro o i; rfl) | cases h
theorem plain_mark {x : Expr} (op : CmpOp) (h : plainB x = true) : behindInMarks op x = false := by
  cases x <;> first | rfl | cases h
/-- the elements of the argument list are plain -/
theorem chkL_plain : ∀ (e : E) {xs : List Expr} {env : Env} {pos : Pos}, chkL T N e sc xs = true → (backTo pos (starEach xs env)).any (·.1) = false := by
  intro e
  induction e with
  | nil =>
    intro xs env pos h
    cases xs with
    | nil => rfl
    | cons x xs => simp [chkL] at h
  | cons a r iha ihr =>
    intro xs env pos h
    cases xs with
    | nil => simp [chkL] at h
    | cons x xs =>
      simp only [chkL, Bool.and_eq_true] at h
      rw [star_cons h.1.2]
      have := ihr (env := env) (pos := pos) h.2
      simpa [backTo] using this
  | _ => intro xs env pos h; cases xs <;> simp [chkL] at h
end

section
variable {K : PySem.W.Frag} {fa : FA} {n : Nat} {F H : Hp} {σ : L2.St} {env : En} {i : Nat} {s : Slot} {u : U} {v : V}
theorem one_at {α : Type} {x y : α} {i : Nat} (e : [x][i]? = some y) : i = 0 ∧ y = x := by
  cases i with
  | zero => simp at e; exact ⟨rfl, e.symm⟩
  | succ i => simp at e
theorem Sim.bor (S : Sim K fa n F H σ env) (hne : n ≤ env.length) (hn : i < n) (h : σ[i]? = some (some v)) : Sim K fa n F H (σ ++ [some v]) (env ++ [.bor i]) ∧ Stp F H σ env F H (σ ++ [some v]) (env ++ [.bor i]) := by
  have hl := S.len
  have no : ∀ (j : Nat) (u : U) (p : Bool), (env ++ [Slot.bor i])[j]? = some (.own u p) → env[j]? = some (.own u p) ∧ j < env.length := fun j u p e => by
    by_cases c : j < env.length
    · rw [getL c] at e; exact ⟨e, c⟩
    · rw [getR (by omega)] at e
      cases (one_at e).2
  refine ⟨⟨by simp [hl], S.fr, fun j s e => ?_, fun j k a u u' p p' e1 e2 e3 e4 => ?_⟩, ⟨.refl _, fun _ _ e _ => e, fun a ⟨j, u, p, e1, e2⟩ => ?_, fun _ _ e => .inl e, fun j u e => ?_⟩⟩
  · by_cases c : j < env.length
    · rw [getL c] at e
      refine (S.slot j s e).move (.refl _) (getL (by omega)) (fun k e2 => ?_) fun _ _ _ _ _ _ a b => ⟨a, b⟩
      subst e2
      obtain ⟨_, y, q1, q2⟩ := S.slot j _ e
      exact getL (ltOf q2)
    · rw [getR (by omega)] at e
      obtain ⟨h0, rfl⟩ := one_at e
      refine ⟨⟨hn, by omega⟩, v, ?_, (getL (ltOf h)).trans h⟩
      have : j = σ.length := by omega
      subst this
      rw [getR (Nat.le_refl _)]
      simp
  · obtain ⟨q1, c1⟩ := no j u p e1
    obtain ⟨q2, c2⟩ := no k u' p' e2
    rw [getL (by omega)] at e3
    rw [getL (by omega)] at e4
    exact S.inj j k a u u' p p' q1 q2 e3 e4
  · obtain ⟨q1, c1⟩ := no j u p e1
    rw [getL (by omega)] at e2
    exact .inl ⟨j, u, p, q1, e2⟩
  · have c := ltOf e
    exact ⟨getL (by omega), u, (getL c).trans e⟩
theorem Sim.mov {a : Addr} (S : Sim K fa n F H σ env) (h : env[i]? = some (.own u false)) (h2 : σ[i]? = some (some (.ref a))) : Sim K fa n F H (σ ++ [some (.ref a)]) (env.set i .emp ++ [.own u false]) ∧ Stp F H σ env F H (σ ++ [some (.ref a)]) (env.set i .emp ++ [.own u false]) := by
  have hl := S.len
  have hi := ltOf h
  -- every own place is an old one, and unlike places are of unlike old ones
  have old : ∀ (j : Nat) (u' : U) (p : Bool) (b : Addr), (env.set i .emp ++ [Slot.own u false])[j]? = some (.own u' p) → (σ ++ [some (V.ref a)])[j]? = some (some (.ref b)) →
      ∃ j', env[j']? = some (.own u' p) ∧ σ[j']? = some (some (.ref b)) ∧ ((j < env.length ∧ j' = j ∧ j ≠ i) ∨ (j = env.length ∧ j' = i)) := fun j u' p b e1 e2 => by
    by_cases c : j < env.length
    · rw [getL (by rw [List.length_set]; exact c)] at e1
      rw [getL (by omega)] at e2
      by_cases d : i = j
      · subst d; rw [List.getElem?_set_self hi] at e1; cases e1
      · rw [List.getElem?_set_ne d] at e1
        exact ⟨j, e1, e2, .inl ⟨c, rfl, fun z => d z.symm⟩⟩
    · rw [getR (by rw [List.length_set]; omega), List.length_set] at e1
      obtain ⟨h0, q⟩ := one_at e1
      cases q
      rw [getR (by omega)] at e2
      obtain ⟨_, q⟩ := one_at e2
      cases q
      exact ⟨i, h, h2, .inr ⟨by omega, rfl⟩⟩
  refine ⟨⟨by simp [hl], S.fr, fun j s e => ?_, fun j k b u1 u2 p p' e1 e2 e3 e4 => ?_⟩, ⟨.refl _, fun _ _ e _ => e, fun b ⟨j, u', p, e1, e2⟩ => ?_, fun _ _ e => .inl e, fun j u' e => ?_⟩⟩
  · by_cases c : j < env.length
    · rw [getL (by rw [List.length_set]; exact c)] at e
      by_cases d : i = j
      · subst d; rw [List.getElem?_set_self hi] at e; cases e; exact True.intro
      · rw [List.getElem?_set_ne d] at e
        refine (S.slot j s e).move (.refl _) (getL (by omega)) (fun k e2 => ?_) fun _ _ _ _ _ _ a b => ⟨a, b⟩
        subst e2
        obtain ⟨_, y, q1, q2⟩ := S.slot j _ e
        exact getL (ltOf q2)
    · rw [getR (by rw [List.length_set]; omega), List.length_set] at e
      obtain ⟨h0, rfl⟩ := one_at e
      have hj : j = σ.length := by omega
      subst hj
      obtain ⟨b, o, q1, q2, q3, q4⟩ := S.slot i _ h
      rw [h2] at q1
      cases q1
      exact ⟨a, o, by rw [getR (Nat.le_refl _)]; simp, q2, q3, q4⟩
  · obtain ⟨j', x1, x2, x3⟩ := old j u1 p b e1 e3
    obtain ⟨k', y1, y2, y3⟩ := old k u2 p' b e2 e4
    have := S.inj j' k' b u1 u2 p p' x1 y1 x2 y2
    omega
  · obtain ⟨j', x1, x2, _⟩ := old j u' p b e1 e2
    exact .inl ⟨j', u', p, x1, x2⟩
  · have c := ltOf e
    refine ⟨getL (by omega), u', ?_⟩
    rw [getL (by rw [List.length_set]; exact c), List.getElem?_set_ne (fun z => by subst z; rw [h] at e; cases e)]
    exact e
end

section
variable {T : Tbl} {G : Gx} {fa : FA} {XR : XRt} {k : Nat}
theorem chk_var {N : List Str} {sc : Scope} {i : Nat} {ex : Expr} (h : chkE T N (.var i) sc ex = true) : ∃ x p, ex = .Name x p ∧ nameB N sc i x = true := by
  cases ex <;> first | exact ⟨_, _, rfl, by simpa [chkE] using h⟩ | (simp [chkE] at h)
theorem chk_bor {N : List Str} {sc : Scope} {i : Nat} {ex : Expr} (h : chkE T N (.bor i) sc ex = true) : ∃ x p, ex = .Name x p ∧ nameB N sc i x = true := by
  cases ex <;> first | exact ⟨_, _, rfl, by simpa [chkE] using h⟩ | (simp [chkE] at h)
theorem chk_mov {N : List Str} {sc : Scope} {i : Nat} {ex : Expr} (h : chkE T N (.mov i) sc ex = true) : ∃ x p, ex = .Name x p ∧ nameB N sc i x = true := by
  cases ex <;> first | exact ⟨_, _, rfl, by simpa [chkE] using h⟩ | (simp [chkE] at h)
theorem ok_var (i : Nat) : OkE T G fa XR k (.var i) := fun X W A ex h => by
  obtain ⟨x, p, rfl, h⟩ := chk_var h
  obtain ⟨h1, h2, h3, h4⟩ := nameB_of h
  refine PE.imp (pe_var h1 h2 h3 h4) fun σ H Q ⟨F, env, hn, S, o⟩ => ?_
  simp only [evE] at o
  cases e : env[i]? with
  | none => rw [e] at o; exact o.elim
  | some s =>
    rw [e] at o
    cases s with
    | emp => exact o.elim
    | bor _ => exact o.elim
    | val u =>
      obtain ⟨v, q1, q2⟩ := S.slot i _ e
      refine ⟨v, q1, ?_⟩
      obtain ⟨v', e', q⟩ := Out.post S (.refl _ _ _ _) (S.len.symm.trans hn) o (.val S.fr q2)
      cases e'
      exact q
    | own u p =>
      cases p with
      | true => exact o.elim
      | false =>
        obtain ⟨F', S', St'⟩ := S.freeze e
        obtain ⟨v, q1, q2⟩ := S'.slot i (.val u) (List.getElem?_set_self (ltOf e))
        refine ⟨v, q1, ?_⟩
        obtain ⟨v', e', q⟩ := Out.post S' St' (by rw [List.length_set]; exact S.len.symm.trans hn) o (.val S'.fr q2)
        cases e'
        exact q
theorem ok_bor (i : Nat) : OkE T G fa XR k (.bor i) := fun X W A ex h => by
  obtain ⟨x, p, rfl, h⟩ := chk_bor h
  obtain ⟨h1, h2, h3, h4⟩ := nameB_of h
  refine PE.imp (pe_var h1 h2 h3 h4) fun σ H Q ⟨F, env, hn, S, o⟩ => ?_
  have hi : i < X.N.length := ltOf h1
  simp only [evE] at o
  have fin : ∀ v, σ[i]? = some (some v) → Out X.K fa XR W X.N.length (fun w => [w]) F H σ env (.ok (.bor i, env)) (fun _ vs H' => ∃ v, vs = [v] ∧ Q v H') → Q v H := fun v q o => by
    obtain ⟨S1, st1⟩ := S.bor (by have := S.len; omega) hi q
    obtain ⟨v', e', q⟩ := o [v] F H S1 st1 (S.len.symm.trans hn)
    cases e'
    exact q
  cases e : env[i]? with
  | none => rw [e] at o; exact o.elim
  | some s =>
    rw [e] at o
    cases s with
    | emp => exact o.elim
    | bor _ => exact o.elim
    | val u =>
      obtain ⟨v, q1, q2⟩ := S.slot i _ e
      exact ⟨v, q1, fin v q1 o⟩
    | own u p =>
      obtain ⟨a, ob, q1, q2⟩ := S.slot i _ e
      exact ⟨_, q1, fin _ q1 o⟩
theorem ok_mov (i : Nat) : OkE T G fa XR k (.mov i) := fun X W A ex h => by
  obtain ⟨x, p, rfl, h⟩ := chk_mov h
  obtain ⟨h1, h2, h3, h4⟩ := nameB_of h
  refine PE.imp (pe_var h1 h2 h3 h4) fun σ H Q ⟨F, env, hn, S, o⟩ => ?_
  simp only [evE] at o
  cases e : env[i]? with
  | none => rw [e] at o; exact o.elim
  | some s =>
    rw [e] at o
    cases s with
    | emp => exact o.elim
    | bor _ => exact o.elim
    | val u =>
      obtain ⟨v, q1, q2⟩ := S.slot i _ e
      refine ⟨v, q1, ?_⟩
      obtain ⟨v', e', q⟩ := Out.post S (.refl _ _ _ _) (S.len.symm.trans hn) o (.val S.fr q2)
      cases e'
      exact q
    | own u p =>
      cases p with
      | true => exact o.elim
      | false =>
        obtain ⟨a, ob, q1, _⟩ := S.slot i _ e
        obtain ⟨S1, st1⟩ := S.mov e q1
        obtain ⟨v', e', q⟩ := o [.ref a] F H S1 st1 (by rw [List.length_set]; exact S.len.symm.trans hn)
        cases e'
        exact ⟨_, q1, q⟩
theorem conB_of {u : U} {c : Const} (h : conB u c = true) : (u = .non ∧ c = .none) ∨ (∃ b, u = .bl b ∧ c = .bool b) ∨ (∃ i, u = .int i ∧ c = .int i) ∨ ∃ x, u = .str x ∧ c = .str x := by
  cases u <;> cases c <;> first | (simp [conB] at h; done) | skip
  · exact .inl ⟨rfl, rfl⟩
  · simp only [conB, beq_iff_eq] at h; subst h; exact .inr (.inl ⟨_, rfl, rfl⟩)
  · simp only [conB, decide_eq_true_eq] at h; subst h; exact .inr (.inr (.inl ⟨_, rfl, rfl⟩))
  · simp only [conB, decide_eq_true_eq] at h; subst h; exact .inr (.inr (.inr ⟨_, rfl, rfl⟩))
/-- a value that needs no run -/
theorem const_ok {X : Cx} {W : WX} {ex : Expr} {e : E} {u : U} {v : V} (h : PE X ex (tC v)) (he : ∀ env, evE G e env = .ok (.val u, env)) (r : ∀ F, Rep X.K fa F v u) : PE X ex (tEv G fa XR W X e) := by
  refine PE.imp h fun σ H Q ⟨F, env, hn, S, o⟩ => ?_
  rw [he] at o
  obtain ⟨v', e', q⟩ := Out.post S (.refl _ _ _ _) (S.len.symm.trans hn) o (.val S.fr (r F))
  cases e'
  exact q
theorem ok_con (u : U) : OkE T G fa XR k (.con u) := fun X W A ex h => by
  cases ex <;> first | (simp [chkE] at h; done) | skip
  rename_i c j p
  simp only [chkE] at h
  rcases conB_of h with ⟨rfl, rfl⟩ | ⟨b, rfl, rfl⟩ | ⟨b, rfl, rfl⟩ | ⟨b, rfl, rfl⟩
  · exact const_ok pe_non (fun _ => rfl) fun _ => .non
  · exact const_ok pe_bl (fun _ => rfl) fun _ => .bl _
  · exact const_ok pe_int (fun _ => rfl) fun _ => .int _
  · exact const_ok pe_str (fun _ => rfl) fun _ => .str _
theorem ok_glc (i : Nat) : OkE T G fa XR k (.glc i) := fun X W A ex h => by
  cases ex <;> first | (simp [chkE] at h; done) | skip
  rename_i x p
  simp only [chkE] at h
  split at h
  · rename_i y hy
    obtain ⟨rfl, h2, h3, h4⟩ := globB_of h
    obtain ⟨u, val, v, q1, q2, q3, q4⟩ := A.cst i _ hy
    exact const_ok (pe_glob h2 q2 q3 h3) (fun env => by simp only [evE, q1, Res.of_some, Res.bind_ok]) q4
  · cases h
theorem ok_fnr (i : Nat) : OkE T G fa XR k (.fnr i) := fun X W A ex h => by
  cases ex <;> first | (simp [chkE] at h; done) | skip
  rename_i x p
  simp only [chkE] at h
  split at h
  · rename_i y hy
    obtain ⟨rfl, h2, h3, h4⟩ := globB_of h
    obtain ⟨f, _, q1, q2, _⟩ := A.fns i _ hy
    exact const_ok (v := .ref f) (pe_glob h2 q2 rfl h3) (fun env => rfl) fun _ => .fn q1
  · cases h

theorem ok_nilL : OkL T G fa XR k .nil := fun X W A exs h => by
  cases exs with
  | cons x xs => simp [chkL] at h
  | nil =>
    refine PA.imp pa_nil fun σ H Q ⟨F, env, hn, S, o⟩ => ?_
    exact o [] F H (by simpa using S) (by simpa using Stp.refl _ _ _ _) (S.len.symm.trans hn)
theorem ok_consL {a r : E} (ha : OkE T G fa XR k a) (hr : OkL T G fa XR k r) : OkL T G fa XR k (.cons a r) := fun X W A exs h => by
  cases exs with
  | nil => simp [chkL] at h
  | cons x xs =>
    simp only [chkL, Bool.and_eq_true] at h
    refine PA.imp (pa_cons (ha X W A x h.1.1) (hr X W A xs h.2) (star_cons h.1.2)) fun σ H Q ⟨F, env, hn, S, o⟩ => ?_
    simp only [evL] at o
    obtain ⟨F0, env0, h0, S0, o0⟩ := ev1 hn S (.refl _ _ _ _) o
    refine ⟨F0, env0, h0, S0, o0.imp fun _ vs H1 ⟨v, e, F1, env1, p, e1, S1, st1, l1⟩ => ⟨v, e, F1, env1, hn, S1.head (by omega) (by omega), ?_⟩⟩
    rw [e1, Res.bind_ok] at o
    refine (Out.sub (sh := fun ws => ws) o (st1.head (by omega) (by have := S.len; omega))).imp fun ws us H2 ⟨F2, env2, e2, S2, st2, l2⟩ => ?_
    obtain ⟨S3, st3⟩ := frame (τ := [some v]) (ws := [p]) S1 hn l1 l2 S2 st2
    simp only [e2, Res.bind_ok] at o
    exact o (v :: us) F2 H2 (by simpa using S3) (st1.trans (by simpa using st3)) l2
end
end PF
end
section
set_option Elab.async false
set_option autoImplicit false
set_option linter.all false
set_option maxRecDepth 100000
namespace PF
open PySem PySem.Spec PyProof.Rows L2

section
variable {T : Tbl} {G : Gx} {fa : FA} {XR : XRt} {k : Nat} {W : WX} {X : Cx} {σ : L2.St} {H : Hp} {F : Hp} {env : En}
/-- an argument list, then the rest -/
theorem evl {β : Type} {a : E} {F0 H0 : Hp} {env0 : En} {sh' : β → List Slot} {kk : List Slot × En → Res (β × En)} {Q : β → List V → Hp → Prop} (hn : σ.length = X.N.length) (S : Sim X.K fa X.N.length F H σ env) (st : Stp F0 H0 σ env0 F H σ env)
    (h : Out X.K fa XR W X.N.length sh' F0 H0 σ env0 ((evL G a env).bind kk) Q) : tEvL G fa XR W X a σ H fun vs H1 => ∃ F1 env1 ws, evL G a env = .ok (ws, env1) ∧ Sim X.K fa X.N.length F1 H1 (σ ++ vs.map some) (env1 ++ ws) ∧
      Stp F H σ env F1 H1 (σ ++ vs.map some) (env1 ++ ws) ∧ env1.length = X.N.length :=
  ⟨F, env, hn, S, (Out.sub (sh := fun w => w) h st).imp fun p vs H1 ⟨F1, env1, e1, S1, st1, hl⟩ => ⟨F1, env1, p, e1, S1, st1, hl⟩⟩
theorem len_side {K : PySem.W.Frag} {n : Nat} {vs : List V} {ws : En} (S : Sim K fa n F H (σ ++ vs.map some) (env ++ ws)) (hl : σ.length = env.length) : vs.length = ws.length := by
  have := S.len
  simp only [List.length_append, List.length_map] at this
  omega
/-- the values on the side frozen; the def's own places stay -/
theorem freeze_side {K : PySem.W.Frag} {n : Nat} {vs : List V} {ws : En} {us : List U} (S : Sim K fa n F H (σ ++ vs.map some) (env ++ ws)) (hl : σ.length = env.length) (h : frzs ws = some us) :
    ∃ F', Sim K fa n F' H (σ ++ vs.map some) (env ++ us.map .val) ∧ Stp F H (σ ++ vs.map some) (env ++ ws) F' H (σ ++ vs.map some) (env ++ us.map .val) ∧ RepAll K fa F' vs us := by
  obtain ⟨F', S', st⟩ := frzs_all S h
  exact ⟨F', S', st, vals_rep S' hl ((len_side S hl).trans (frzs_length h))⟩

theorem ok_tup {es : E} (h : OkL T G fa XR k es) : OkE T G fa XR k (.tup es) := fun X W A ex hc => by
  cases ex <;> first | (simp [chkE] at hc; done) | skip
  rename_i xs j p
  simp only [chkE] at hc
  refine PE.imp (pe_tup (h X W A xs hc)) fun σ H Q ⟨F, env, hn, S, o⟩ => ?_
  simp only [evE] at o
  obtain ⟨F0, env0, h0, S0, o0⟩ := evl hn S (.refl _ _ _ _) o
  refine ⟨F0, env0, h0, S0, o0.imp fun _ vs H1 ⟨F1, env1, ws, e1, S1, st1, l1⟩ => ?_⟩
  simp only [e1, Res.bind_ok] at o
  obtain ⟨us, e2, o⟩ := Out.of o
  obtain ⟨F2, S2, st2, r⟩ := freeze_side S1 (by omega) e2
  have hl := r.length
  have hln := S.len
  by_cases c : us.length ≤ sizeLine
  · simp only [c, if_true] at o
    refine ⟨by omega, fun p' hp => ?_⟩
    have S3 := S2.head (by omega) (by omega)
    obtain ⟨v', e', q⟩ := Out.post S3 ((st1.trans st2).head (by omega) (by omega)) l1 o (.tup S3.fr hp r)
    cases e'
    exact q
  · simp only [c, if_false] at o
    exact o.elim
theorem ok_lst {es : E} (h : OkL T G fa XR k es) : OkE T G fa XR k (.lst es) := fun X W A ex hc => by
  cases ex <;> first | (simp [chkE] at hc; done) | skip
  rename_i xs p
  simp only [chkE] at hc
  refine PE.imp (pe_lst (h X W A xs hc)) fun σ H Q ⟨F, env, hn, S, o⟩ => ?_
  simp only [evE] at o
  obtain ⟨F0, env0, h0, S0, o0⟩ := evl hn S (.refl _ _ _ _) o
  refine ⟨F0, env0, h0, S0, o0.imp fun _ vs H1 ⟨F1, env1, ws, e1, S1, st1, l1⟩ => ?_⟩
  simp only [e1, Res.bind_ok] at o
  obtain ⟨us, e2, o⟩ := Out.of o
  obtain ⟨F2, S2, st2, r⟩ := freeze_side S1 (by omega) e2
  have hl := r.length
  have hln := S.len
  by_cases c : us.length ≤ sizeLine
  · simp only [c, if_true] at o
    refine ⟨by omega, fun p' hp => ?_⟩
    have S3 := S2.head (by omega) (by omega)
    obtain ⟨v', e', q⟩ := Out.post S3 ((st1.trans st2).head (by omega) (by omega)) l1 o (.own S3.fr hp (.lst r))
    cases e'
    exact q
  · simp only [c, if_false] at o
    exact o.elim
theorem ok_dic0 : OkE T G fa XR k .dic0 := fun X W A ex hc => by
  cases ex <;> first | (simp [chkE] at hc; done) | skip
  rename_i ks vs p
  cases ks <;> cases vs <;> first | (simp [chkE] at hc; done) | skip
  refine PE.imp pe_dnewK fun σ H Q ⟨F, env, hn, S, o⟩ => ?_
  intro p' hp
  obtain ⟨v', e', q⟩ := Out.post S (.refl _ _ _ _) (S.len.symm.trans hn) o (.own S.fr hp (.dic .nil))
  cases e'
  exact q

theorem ok_bin {op : BOp} {a b : E} (ha : OkE T G fa XR k a) (hb : OkE T G fa XR k b) : OkE T G fa XR k (.bin op a b) := fun X W A ex hc => by
  cases ex <;> first | (simp [chkE] at hc; done) | skip
  rename_i x o y p
  simp only [chkE, Bool.and_eq_true, decide_eq_true_eq] at hc
  obtain ⟨⟨rfl, h1⟩, h2⟩ := hc
  refine PE.imp (pe_op (op_ok (fa := fa) op) (ha X W A x h1) (hb X W A y h2)) fun σ H Q ⟨F, env, hn, S, o⟩ => ?_
  simp only [evE] at o
  obtain ⟨F0, env0, h0, S0, o0⟩ := ev2 (a := a) (b := b) hn S (.refl _ _ _ _) o fun _ => ⟨_, rfl⟩
  refine ⟨F0, env0, h0, S0, o0.imp fun _ _ _ ⟨u, e, F3, env3, h3, S3, o3⟩ => ⟨u, e, F3, env3, h3, S3, o3.imp fun _ _ H2 ⟨v, e', F2, env1, env2, p, q, e1, e2, S2, l2, st2⟩ => ⟨v, e', ?_⟩⟩⟩
  simp only [e1, e2, Res.bind_ok] at o
  obtain ⟨u1, k1, o⟩ := Out.of o
  obtain ⟨u2, k2, o⟩ := Out.of o
  obtain ⟨w, k3, o⟩ := Out.of o
  have hln := S.len
  refine ⟨F2, u1, u2, w, S2.fr, look_rep (j := 0) S2 (by omega) (by omega) rfl rfl k1, look_rep (j := 1) S2 (by omega) (by omega) rfl rfl k2, k3, fun v' F' H' P => ?_⟩
  obtain ⟨v'', e'', q⟩ := Out.post (S2.head (by omega) (by omega)) (st2.head (by omega) (by omega)) l2 o P
  cases e''
  exact q
theorem ok_neg {a : E} (ha : OkE T G fa XR k a) : OkE T G fa XR k (.neg a) := fun X W A ex hc => by
  cases ex <;> first | (simp [chkE] at hc; done) | skip
  rename_i o x p
  cases o <;> first | (simp [chkE] at hc; done) | skip
  simp only [chkE] at hc
  refine PE.imp (pe_un un_neg (ha X W A x hc)) fun σ H Q ⟨F, env, hn, S, o⟩ => ?_
  simp only [evE] at o
  obtain ⟨F0, env0, h0, S0, o0⟩ := ev1 (a := a) hn S (.refl _ _ _ _) o
  refine ⟨F0, env0, h0, S0, o0.imp fun _ _ H1 ⟨v, e, F1, env1, p, e1, S1, st1, l1⟩ => ⟨v, e, ?_⟩⟩
  have hln := S.len
  simp only [e1, Res.bind_ok] at o
  split at o
  · rename_i i k1
    have b := look_rep (j := 0) S1 (by omega) (by omega) rfl rfl k1
    cases b.int
    refine ⟨i, rfl, ?_⟩
    have S2 := S1.head (by omega) (by omega)
    obtain ⟨v', e', q⟩ := Out.post S2 (st1.head (by omega) (by omega)) l1 o (.val S2.fr (.int _))
    cases e'
    exact q
  · exact o.elim
theorem ok_not {a : E} (ha : OkE T G fa XR k a) : OkE T G fa XR k (.not a) := fun X W A ex hc => by
  cases ex <;> first | (simp [chkE] at hc; done) | skip
  rename_i o x p
  cases o <;> first | (simp [chkE] at hc; done) | skip
  simp only [chkE] at hc
  refine PE.imp (pe_notT (ha X W A x hc)) fun σ H Q ⟨F, env, hn, S, o⟩ => ?_
  simp only [evE] at o
  obtain ⟨F0, env0, h0, S0, o0⟩ := ev1 (a := a) hn S (.refl _ _ _ _) o
  refine ⟨F0, env0, h0, S0, o0.imp fun _ _ H1 ⟨v, e, F1, env1, p, e1, S1, st1, l1⟩ => ⟨v, e, ?_⟩⟩
  have hln := S.len
  simp only [e1, Res.bind_ok] at o
  obtain ⟨u, k1, o⟩ := Out.of o
  obtain ⟨b, k2, o⟩ := Out.of o
  refine ⟨b, tru_rep S1.fr (look_rep (j := 0) S1 (by omega) (by omega) rfl rfl k1) k2, ?_⟩
  have S2 := S1.head (by omega) (by omega)
  obtain ⟨v', e', q⟩ := Out.post S2 (st1.head (by omega) (by omega)) l1 o (.val S2.fr (.bl _))
  cases e'
  exact q
theorem ok_cmp {op : COp} {a b : E} (ha : OkE T G fa XR k a) (hb : OkE T G fa XR k b) : OkE T G fa XR k (.cmp op a b) := fun X W A ex hc => by
  cases ex <;> first | (simp [chkE] at hc; done) | skip
  rename_i x os ys p
  rcases os with _ | ⟨o, _ | ⟨_, _⟩⟩ <;> rcases ys with _ | ⟨y, _ | ⟨_, _⟩⟩ <;> first | (simp [chkE] at hc; done) | skip
  simp only [chkE, Bool.and_eq_true, decide_eq_true_eq] at hc
  obtain ⟨⟨⟨rfl, h1⟩, h2⟩, h3⟩ := hc
  have hu : X.A.units + 65 < cLine := by have := A.room.un; omega
  refine PE.imp (pe_cmpR (cmp_ok (fa := fa) hu op) (ha X W A x h1) (hb X W A y h2) (plain_mark _ h3)) fun σ H Q ⟨F, env, hn, S, o⟩ => ?_
  simp only [evE] at o
  obtain ⟨F0, env0, h0, S0, o0⟩ := ev2 (a := a) (b := b) hn S (.refl _ _ _ _) o fun _ => ⟨_, rfl⟩
  refine ⟨F0, env0, h0, S0, o0.imp fun _ _ _ ⟨u, e, F3, env3, h3, S3, o3⟩ => ⟨u, e, F3, env3, h3, S3, o3.imp fun _ _ H2 ⟨v, e', F2, env1, env2, p, q, e1, e2, S2, l2, st2⟩ => ⟨v, e', ?_⟩⟩⟩
  simp only [e1, e2, Res.bind_ok] at o
  obtain ⟨u1, k1, o⟩ := Out.of o
  obtain ⟨u2, k2, o⟩ := Out.of o
  obtain ⟨w, k3, o⟩ := Out.of o
  have hln := S.len
  refine ⟨F2, u1, u2, w, S2.fr, look_rep (j := 0) S2 (by omega) (by omega) rfl rfl k1, look_rep (j := 1) S2 (by omega) (by omega) rfl rfl k2, k3, ?_⟩
  have S2' := S2.head (by omega) (by omega)
  obtain ⟨v'', e'', q⟩ := Out.post S2' (st2.head (by omega) (by omega)) l2 o (.val S2'.fr (.bl _))
  cases e''
  exact q
theorem ok_chn {op op' : COp} {a b c : E} (ha : OkE T G fa XR k a) (hb : OkE T G fa XR k b) (hc' : OkE T G fa XR k c) : OkE T G fa XR k (.chn op op' a b c) := fun X W A ex hc => by
  cases ex <;> first | (simp [chkE] at hc; done) | skip
  rename_i x os ys p
  rcases os with _ | ⟨o1, _ | ⟨o2, _ | ⟨_, _⟩⟩⟩ <;> first | (simp [chkE] at hc; done) | skip
  rcases ys with _ | ⟨y, _ | ⟨z, _ | ⟨_, _⟩⟩⟩ <;> first | (simp [chkE] at hc; done) | skip
  simp only [chkE, Bool.and_eq_true, decide_eq_true_eq] at hc
  obtain ⟨⟨⟨⟨⟨⟨rfl, rfl⟩, h1⟩, h2⟩, h3⟩, h4⟩, h5⟩ := hc
  have hu : X.A.units + 65 < cLine := by have := A.room.un; omega
  refine PE.imp (pe_chain (cmp_ok (fa := fa) hu op) (cmp_ok (fa := fa) hu op') (ha X W A x h1) (hb X W A y h2) (hc' X W A z h3) (plain_mark (cOf op') h5)) fun σ H Q ⟨F, env, hn, S, o⟩ => ?_
  simp only [evE] at o
  obtain ⟨F0, env0, h0, S0, o0⟩ := ev2 (a := a) (b := b) hn S (.refl _ _ _ _) o fun _ => ⟨_, rfl⟩
  refine ⟨F0, env0, h0, S0, o0.imp fun _ _ _ ⟨u, e, F3, env3, h3, S3, o3⟩ => ⟨u, e, F3, env3, h3, S3, o3.imp fun _ _ H2 ⟨v, e', F2, env1, env2, p, q, e1, e2, S2, l2, st2⟩ => ⟨v, e', ?_⟩⟩⟩
  simp only [e1, e2, Res.bind_ok] at o
  obtain ⟨u1, k1, o⟩ := Out.of o
  obtain ⟨u2, k2, o⟩ := Out.of o
  obtain ⟨w, k3, o⟩ := Out.of o
  have hln := S.len
  have S2' := S2.head (by omega) (by omega)
  refine ⟨F2, u1, u2, w, S2.fr, look_rep (j := 0) S2 (by omega) (by omega) rfl rfl k1, look_rep (j := 1) S2 (by omega) (by omega) rfl rfl k2, k3, w, rfl, ?_⟩
  cases w with
  | false =>
    simp only [Bool.false_eq_true, if_false] at o ⊢
    obtain ⟨v'', e'', q⟩ := Out.post S2' (st2.head (by omega) (by omega)) l2 o (.val S2'.fr (.bl _))
    cases e''
    exact q
  | true =>
    simp only [if_true] at o ⊢
    obtain ⟨F4, env4, h4, S4, o4⟩ := ev1 (a := c) hn S2' (st2.head (by omega) (by omega)) o
    refine ⟨F4, env4, h4, S4, o4.imp fun _ _ H3 ⟨t, e', F5, env5, r, e3, S5, st5, l5⟩ => ⟨t, e', ?_⟩⟩
    obtain ⟨S6, st6⟩ := frame (τ := [some u, some v]) (ws := [p, q]) S2 hn l2 l5 S5 st5
    simp only [e3, Res.bind_ok] at o
    obtain ⟨v2, k4, o⟩ := Out.of o
    obtain ⟨x2, k5, o⟩ := Out.of o
    obtain ⟨w2, k6, o⟩ := Out.of o
    refine ⟨F5, v2, x2, w2, S5.fr, look_rep (τ := [some u, some v, some t]) (ws := [p, q, r]) (j := 1) S6 (by omega) (by omega) rfl rfl k4, look_rep (τ := [some u, some v, some t]) (ws := [p, q, r]) (j := 2) S6 (by omega) (by omega) rfl rfl k5, k6, ?_⟩
    have S7 := S6.head (by omega) (by omega)
    obtain ⟨v'', e'', q⟩ := Out.post S7 ((st2.trans st6).head (by omega) (by omega)) l5 o (.val S7.fr (.bl _))
    cases e''
    exact q

theorem out_end {F1 H1 : Hp} {env1 : En} {u : U} {p : Slot} {v : V} {Q : VK} (hn : σ.length = X.N.length) (S1 : Sim X.K fa X.N.length F1 H1 (σ ++ [some v]) (env1 ++ [p])) (st1 : Stp F H σ env F1 H1 (σ ++ [some v]) (env1 ++ [p])) (l1 : env1.length = X.N.length) (k1 : frz p = some u)
    (o : Out X.K fa XR W X.N.length (fun w => [w]) F H σ env (.ok (.val u, env1)) (fun _ vs H' => ∃ v, vs = [v] ∧ Q v H')) : Q v H1 := by
  obtain ⟨F2, S2, st2, r⟩ := freeze_side (vs := [v]) (us := [u]) S1 (by omega) (by simp [frzs, k1])
  obtain ⟨v', e', q⟩ := o [v] F2 H1 (by simpa using S2) (st1.trans (by simpa using st2)) l1
  cases e'
  exact q
theorem look_frz {p : Slot} {u : U} (h : frz p = some u) : look env p = some u := by
  cases p with
  | emp => cases h
  | val u' => exact h
  | bor _ => cases h
  | own u' pn =>
    cases pn with
    | true => cases h
    | false => exact h
theorem ok_and {a b : E} (ha : OkE T G fa XR k a) (hb : OkE T G fa XR k b) : OkE T G fa XR k (.and a b) := fun X W A ex hc => by
  cases ex <;> first | (simp [chkE] at hc; done) | skip
  rename_i op xs p
  cases op <;> rcases xs with _ | ⟨x, _ | ⟨y, r⟩⟩ <;> first | (simp [chkE] at hc; done) | skip
  simp only [chkE, Bool.and_eq_true] at hc
  have hb2 : PE X (.BoolOp .And (y :: r) p) (tEv G fa XR W X b) := by
    cases r with
    | nil => exact pe_one (hb X W A y hc.2)
    | cons z r => exact hb X W A _ hc.2
  refine PE.imp (pe_andT (ha X W A x hc.1) hb2) fun σ H Q ⟨F, env, hn, S, o⟩ => ?_
  simp only [evE] at o
  obtain ⟨F0, env0, h0, S0, o0⟩ := ev1 (a := a) hn S (.refl _ _ _ _) o
  refine ⟨F0, env0, h0, S0, o0.imp fun _ _ H1 ⟨v, e, F1, env1, p, e1, S1, st1, l1⟩ => ⟨v, e, ?_⟩⟩
  have hln := S.len
  simp only [e1, Res.bind_ok] at o
  obtain ⟨u, k1, o⟩ := Out.of o
  obtain ⟨c, k2, o⟩ := Out.of o
  refine ⟨c, tru_rep S1.fr (look_rep (j := 0) S1 (by omega) (by omega) rfl rfl (look_frz k1)) k2, ?_⟩
  cases c with
  | true =>
    simp only [if_true] at o ⊢
    exact ⟨F1, env1, hn, S1.head (by omega) (by omega), o.pre (st1.head (by omega) (by omega))⟩
  | false =>
    simp only [Bool.false_eq_true, if_false] at o ⊢
    exact out_end hn S1 st1 l1 k1 o
theorem ok_or {a b : E} (ha : OkE T G fa XR k a) (hb : OkE T G fa XR k b) : OkE T G fa XR k (.or a b) := fun X W A ex hc => by
  cases ex <;> first | (simp [chkE] at hc; done) | skip
  rename_i op xs p
  cases op <;> rcases xs with _ | ⟨x, _ | ⟨y, r⟩⟩ <;> first | (simp [chkE] at hc; done) | skip
  simp only [chkE, Bool.and_eq_true] at hc
  have hb2 : PE X (.BoolOp .Or (y :: r) p) (tEv G fa XR W X b) := by
    cases r with
    | nil => exact pe_one (hb X W A y hc.2)
    | cons z r => exact hb X W A _ hc.2
  refine PE.imp (pe_orT (ha X W A x hc.1) hb2) fun σ H Q ⟨F, env, hn, S, o⟩ => ?_
  simp only [evE] at o
  obtain ⟨F0, env0, h0, S0, o0⟩ := ev1 (a := a) hn S (.refl _ _ _ _) o
  refine ⟨F0, env0, h0, S0, o0.imp fun _ _ H1 ⟨v, e, F1, env1, p, e1, S1, st1, l1⟩ => ⟨v, e, ?_⟩⟩
  have hln := S.len
  simp only [e1, Res.bind_ok] at o
  obtain ⟨u, k1, o⟩ := Out.of o
  obtain ⟨c, k2, o⟩ := Out.of o
  refine ⟨c, tru_rep S1.fr (look_rep (j := 0) S1 (by omega) (by omega) rfl rfl (look_frz k1)) k2, ?_⟩
  cases c with
  | false =>
    simp only [Bool.false_eq_true, if_false] at o ⊢
    exact ⟨F1, env1, hn, S1.head (by omega) (by omega), o.pre (st1.head (by omega) (by omega))⟩
  | true =>
    simp only [if_true] at o ⊢
    exact out_end hn S1 st1 l1 k1 o
theorem ok_ite {c a b : E} (hc' : OkT T G fa XR k c) (ha : OkE T G fa XR k a) (hb : OkE T G fa XR k b) : OkE T G fa XR k (.ite c a b) := fun X W A ex hc => by
  cases ex <;> first | (simp [chkE] at hc; done) | skip
  rename_i z x y p
  simp only [chkE, Bool.and_eq_true] at hc
  refine PE.imp (pe_ifExp (hc' X W A z hc.1.1) (ha X W A x hc.1.2) (hb X W A y hc.2)) fun σ H Q ⟨F, env, hn, S, o⟩ => ?_
  have hln := S.len
  have e0 : evE G (.ite c a b) env = (evT G c env).bind fun (k, env) => if k = true then evE G a env else evE G b env := by
    simp only [evE, evT]
    cases evE G c env with
    | ok z =>
      simp only [Res.bind_ok]
      cases look z.2 z.1 with
      | none => rfl
      | some u => simp only [Res.of_some, Res.bind_ok]; cases u.tru <;> rfl
    | exc _ _ => rfl
    | bad => rfl
  rw [e0] at o
  refine ⟨F, env, hn, S, (Out.sub (sh := fun _ => []) o (.refl _ _ _ _)).imp fun bl vs H1 ⟨F1, env1, e1, S1, st1, l1⟩ => ?_⟩
  rw [e1, Res.bind_ok] at o
  have hv : vs = [] := by
    have := S1.len
    simp only [List.length_append, List.length_map, List.length_nil] at this
    exact List.eq_nil_of_length_eq_zero (by omega)
  subst hv
  simp only [List.map_nil, List.append_nil] at S1 st1
  cases bl with
  | true =>
    simp only [if_true] at o ⊢
    exact ⟨F1, env1, hn, S1, o.pre st1⟩
  | false =>
    simp only [Bool.false_eq_true, if_false] at o ⊢
    exact ⟨F1, env1, hn, S1, o.pre st1⟩
end
end PF
end
section
set_option Elab.async false
set_option autoImplicit false
set_option linter.all false
set_option maxRecDepth 100000
namespace PF
open PySem PySem.Spec PyProof.Rows L2

section
variable {T : Tbl} {G : Gx} {fa : FA} {XR : XRt} {k : Nat} {W : WX} {X : Cx} {σ : L2.St} {H : Hp} {F : Hp} {env : En}
theorem looks_side {K : PySem.W.Frag} {n : Nat} {vs : List V} {ws : En} {us : List U} (S : Sim K fa n F H (σ ++ vs.map some) (env ++ ws)) (hl : σ.length = env.length) (hn : n ≤ σ.length) (h : looks env ws = some us) : BReps K fa F H vs us :=
  looks_rep (ws0 := []) (vs0 := []) (by simpa using S) hl hn rfl (len_side S hl) h

theorem blt_ty (b : Blt) : (∃ id, bltV b = .builtin id) ∨ ∃ id, bltV b = .type id := by cases b <;> first | exact .inl ⟨_, rfl⟩ | exact .inr ⟨_, rfl⟩
theorem ok_blt {b : Blt} {es : E} (h : OkL T G fa XR k es) : OkE T G fa XR k (.blt b es) := fun X W A ex hc => by
  cases ex <;> first | (simp [chkE] at hc; done) | skip
  rename_i f xs ks p
  cases f <;> first | (simp [chkE] at hc; done) | skip
  rename_i x q
  cases ks <;> first | (simp [chkE] at hc; done) | skip
  simp only [chkE, Bool.and_eq_true, Bool.not_eq_true'] at hc
  obtain ⟨⟨⟨h1, h2⟩, h3⟩, h4⟩ := hc
  obtain ⟨rfl, g1, g2, g3⟩ := globB_of h1
  have hm := A.free _ h2
  cases xs with
  | nil => cases h4
  | cons y ys =>
    have hp : plainB y = true := by
      cases es <;> first | (simp [chkL] at h3; done) | (simp only [chkL, Bool.and_eq_true] at h3; exact h3.1.2)
    have hpl : (backTo p (starEach ys X.env)).any (·.1) = false := by
      have := chkL_plain es (env := X.env) (pos := p) h3
      rw [star_cons hp] at this
      simpa [backTo] using this
    have pe : PE X (.Call (.Name (bltN b) q) (y :: ys) [] p) (tCB (rBl X.K fa (bltF b)) (tEvL G fa XR W X es)) := by
      have hv := blt_boot b
      have hr := blt_ok (fa := fa) A.calm b
      rcases blt_ty b with ⟨id, e⟩ | ⟨id, e⟩
      · rw [e] at hv hr
        exact pe_callB hr g1 hm hv (h X W A _ h3) g3 g2 (star_cons hp) hpl
      · rw [e] at hv hr
        exact pe_callTy hr g1 hm hv (h X W A _ h3) g3 g2 (star_cons hp) hpl
    refine PE.imp pe fun σ H Q ⟨F, env, hn, S, o⟩ => ?_
    simp only [evE] at o
    obtain ⟨F0, env0, h0, S0, o0⟩ := evl hn S (.refl _ _ _ _) o
    refine ⟨F0, env0, h0, S0, o0.imp fun _ vs H1 ⟨F1, env1, ws, e1, S1, st1, l1⟩ => ?_⟩
    have hln := S.len
    simp only [e1, Res.bind_ok] at o
    obtain ⟨us, e2, o⟩ := Out.of o
    obtain ⟨w, e3, o⟩ := Out.of o
    refine ⟨F1, us, w, S1.fr, looks_side S1 (by omega) (by omega) e2, e3, fun v F' H' P => ?_⟩
    obtain ⟨v', e', q⟩ := Out.post (S1.head (by omega) (by omega)) (st1.head (by omega) (by omega)) l1 o P
    cases e'
    exact q
theorem ok_ist {t : TyN} {a : E} (ha : OkE T G fa XR k a) : OkE T G fa XR k (.ist t a) := fun X W A ex hc => by
  cases ex <;> first | (simp [chkE] at hc; done) | skip
  rename_i f xs ks p
  cases f <;> first | (simp [chkE] at hc; done) | skip
  rename_i x q
  cases ks <;> rcases xs with _ | ⟨y, _ | ⟨z, _ | ⟨_, _⟩⟩⟩ <;> first | (simp [chkE] at hc; done) | skip
  cases z <;> first | (simp [chkE] at hc; done) | skip
  rename_i z r
  simp only [chkE, Bool.and_eq_true] at hc
  obtain ⟨⟨⟨⟨⟨h1, h2⟩, h3⟩, h4⟩, h5⟩, h6⟩ := hc
  obtain ⟨rfl, g1, g2, g3⟩ := globB_of h1
  obtain ⟨rfl, i1, i2, i3⟩ := globB_of h3
  refine PE.imp (pe_callB (ist_ok (fa := fa) t) g1 (A.free _ h2) (by decide +kernel) (pa_cons (ha X W A y h5) (pa_cons (pe_bltn (v := .ty (tyS t)) i1 (A.free _ h4) (ty_boot t) rfl i3 i2) pa_nil) (star_cons h6)) g3 g2 (star_cons h6) rfl) fun σ H Q ⟨F, env, hn, S, o⟩ => ?_
  simp only [evE] at o
  obtain ⟨F0, env0, h0, S0, o0⟩ := ev1 (a := a) hn S (.refl _ _ _ _) o
  refine ⟨F0, env0, h0, S0, o0.imp fun _ _ H1 ⟨v, e, F1, env1, p, e1, S1, st1, l1⟩ => ⟨v, e, ?_⟩⟩
  have hln := S.len
  simp only [e1, Res.bind_ok] at o
  obtain ⟨u, k1, o⟩ := Out.of o
  obtain ⟨b, k2, o⟩ := Out.of o
  refine ⟨F1, v, u, b, rfl, S1.fr, look_rep (j := 0) S1 (by omega) (by omega) rfl rfl k1, k2, ?_⟩
  have S2 := S1.head (by omega) (by omega)
  obtain ⟨v', e', q⟩ := Out.post S2 (st1.head (by omega) (by omega)) l1 o (.val S2.fr (.bl _))
  cases e'
  exact q

theorem chk_idx {N : List Str} {sc : Scope} {a b : E} {ex : Expr} (h : chkE T N (.idx a b) sc ex = true) : ∃ x y p, ex = .Subscript x y p ∧ chkE T N a sc x = true ∧ chkE T N b sc y = true ∧ plainB y = true := by
  cases ex <;> first | (simp [chkE] at h; done) | skip
  rename_i x y p
  simp only [chkE, Bool.and_eq_true] at h
  exact ⟨x, y, p, rfl, h.1.1, h.1.2, h.2⟩
theorem ok_idx {a b : E} (ha : OkE T G fa XR k a) (hb : OkE T G fa XR k b) : OkE T G fa XR k (.idx a b) := fun X W A ex hc => by
  obtain ⟨x, y, p, rfl, h1, h2, h3⟩ := chk_idx hc
  have hu : X.A.units + 65 < cLine := by have := A.room.un; omega
  refine PE.imp (pe_ix (ix_ok (fa := fa) hu) (ha X W A x h1) (hb X W A y h2) (plain_ix h3)) fun σ H Q ⟨F, env, hn, S, o⟩ => ?_
  simp only [evE] at o
  obtain ⟨F0, env0, h0, S0, o0⟩ := ev2 (a := a) (b := b) hn S (.refl _ _ _ _) o fun _ => ⟨_, rfl⟩
  refine ⟨F0, env0, h0, S0, o0.imp fun _ _ _ ⟨u, e, F3, env3, h3, S3, o3⟩ => ⟨u, e, F3, env3, h3, S3, o3.imp fun _ _ H2 ⟨v, e', F2, env1, env2, p, q, e1, e2, S2, l2, st2⟩ => ⟨v, e', ?_⟩⟩⟩
  simp only [e1, e2, Res.bind_ok] at o
  obtain ⟨u1, k1, o⟩ := Out.of o
  obtain ⟨u2, k2, o⟩ := Out.of o
  obtain ⟨w, k3, o⟩ := Out.of o
  have hln := S.len
  refine ⟨F2, u1, u2, w, S2.fr, look_rep (j := 0) S2 (by omega) (by omega) rfl rfl k1, look_rep (j := 1) S2 (by omega) (by omega) rfl rfl k2, k3, fun v' r => ?_⟩
  have S2' := S2.head (by omega) (by omega)
  obtain ⟨v'', e'', q⟩ := Out.post S2' (st2.head (by omega) (by omega)) l2 o (.val S2'.fr r)
  cases e''
  exact q
/-- a part of a slice -/
def chkP (T : Tbl) (N : List Str) (e : E) (sc : Scope) : Option Expr → Bool
  | none => (match e with | .nil => true | _ => false)
  | some l => (match e with | .nil => false | _ => chkE T N e sc l)
theorem part_ok {e : E} (he : OkE T G fa XR k e) {X : Cx} {W : WX} (A : Amb T G fa XR k W X) {l : Option Expr} (hc : chkP T X.N e X.env.scope l = true) :
    ∃ t, PO X l t ∧ ∀ {β : Type} {sh' : β → List Slot} {kk : Option Int × En → Res (β × En)} {Q : β → List V → Hp → Prop} {F0 H0 F H : Hp} {env0 env : En} {σ : L2.St} {Q' : Option Int → Hp → Prop}, σ.length = X.N.length → Sim X.K fa X.N.length F H σ env → Stp F0 H0 σ env0 F H σ env →
      Out X.K fa XR W X.N.length sh' F0 H0 σ env0 ((partF e (evE G e) env).bind kk) Q →
      (∀ i F1 H1 env1, partF e (evE G e) env = .ok (i, env1) → Sim X.K fa X.N.length F1 H1 σ env1 → Stp F H σ env F1 H1 σ env1 → env1.length = X.N.length → Q' i H1) → t σ H Q' := by
  cases l with
  | none =>
    refine ⟨_, po_none, fun {β sh' kk Q F0 H0 F H env0 env σ Q'} hn S st o q => ?_⟩
    have e0 : e = .nil := by cases e <;> first | rfl | cases hc
    subst e0
    exact q none F H env rfl S (.refl _ _ _ _) (S.len.symm.trans hn)
  | some l =>
    have hc : chkE T X.N e X.env.scope l = true ∧ e ≠ .nil := by
      unfold chkP at hc
      cases e <;> first | (cases hc; done) | exact ⟨hc, fun z => by cases z⟩
    refine ⟨_, po_some (he X W A l hc.1), fun {β sh' kk Q F0 H0 F H env0 env σ Q'} hn S st o q => ?_⟩
    have e0 : partF e (evE G e) env = (evE G e env).bind fun (p, env) => match look env p with | some (.int i) => .ok (some i, env) | _ => .bad := by
      unfold partF
      cases e <;> first | rfl | exact absurd rfl hc.2
    rw [e0] at o q
    have o2 : Out X.K fa XR W X.N.length sh' F0 H0 σ env0 ((evE G e env).bind fun z => (match look z.2 z.1 with | some (.int i) => Res.ok (some i, z.2) | _ => .bad).bind kk) Q := by
      cases h : evE G e env with
      | ok z => rw [h] at o; exact o
      | exc _ _ => rw [h] at o; exact o
      | bad => rw [h] at o; exact o
    obtain ⟨F0', env0', h0, S0, o3⟩ := ev1 (a := e) hn S st o2
    refine ⟨F0', env0', h0, S0, o3.imp fun _ _ H1 ⟨v, e', F1, env1, p, e1, S1, st1, l1⟩ => ⟨v, e', ?_⟩⟩
    have hln := S.len
    rw [e1] at o2 q
    simp only [Res.bind_ok] at o2 q
    split at o2
    · rename_i i k1
      cases (look_rep (j := 0) S1 (by omega) (by omega) rfl rfl k1).int
      refine ⟨i, rfl, q _ F1 H1 env1 ?_ (S1.head (by omega) (by omega)) (st1.head (by omega) (by omega)) l1⟩
      rw [k1]
    · exact o2.elim
theorem ok_slc {a lo hi : E} (ha : OkE T G fa XR k a) (hlo : OkE T G fa XR k lo) (hhi : OkE T G fa XR k hi) : OkE T G fa XR k (.slc a lo hi) := fun X W A ex hc => by
  cases ex <;> first | (simp [chkE] at hc; done) | skip
  rename_i x y p
  cases y <;> first | (simp [chkE] at hc; done) | skip
  rename_i l h s q
  cases s <;> first | (simp [chkE] at hc; done) | skip
  simp only [chkE, Bool.and_eq_true] at hc
  obtain ⟨⟨h1, h2⟩, h3⟩ := hc
  obtain ⟨tl, pl, ql⟩ := part_ok hlo A (l := l) (by unfold chkP; exact h2)
  obtain ⟨th, ph, qh⟩ := part_ok hhi A (l := h) (by unfold chkP; exact h3)
  refine PE.imp (pe_slice (sl_ok (fa := fa)) (ha X W A x h1) pl ph) fun σ H Q ⟨F, env, hn, S, o⟩ => ?_
  simp only [evE] at o
  obtain ⟨F0, env0, h0, S0, o0⟩ := ev1 (a := a) hn S (.refl _ _ _ _) o
  refine ⟨F0, env0, h0, S0, o0.imp fun _ _ H1 ⟨v, e, F1, env1, p, e1, S1, st1, l1⟩ => ⟨v, e, ?_⟩⟩
  have hln := S.len
  simp only [e1, Res.bind_ok] at o
  refine ql hn (S1.head (by omega) (by omega)) (st1.head (by omega) (by omega)) o fun i F2 H2 env2 e2 S2 st2 l2 => ?_
  obtain ⟨S3, st3⟩ := frame (τ := [some v]) (ws := [p]) (τ2 := []) (ws2 := []) S1 hn l1 l2 (by simpa using S2) (by simpa using st2)
  simp only [e2, Res.bind_ok] at o
  refine qh hn S2 ((st1.trans st3).head (by omega) (by omega)) o fun j F4 H4 env4 e4 S4 st4 l4 => ?_
  obtain ⟨S5, st5⟩ := frame (τ := [some v]) (ws := [p]) (τ2 := []) (ws2 := []) (by simpa using S3) hn l2 l4 (by simpa using S4) (by simpa using st4)
  simp only [e4, Res.bind_ok] at o
  obtain ⟨u, k1, o⟩ := Out.of o
  obtain ⟨w, k2, o⟩ := Out.of o
  have hk : Stp F H σ env F4 H4 (σ ++ [some v]) (env4 ++ [p]) := (st1.trans (by simpa using st3)).trans (by simpa using st5)
  refine ⟨F4, u, w, S4.fr, look_rep (τ := [some v]) (ws := [p]) (j := 0) (by simpa using S5) (by omega) (by omega) rfl rfl k1, k2, fun v' F' H' P => ?_⟩
  obtain ⟨v'', e'', q⟩ := Out.post S4 (hk.head (by omega) (by omega)) l4 o P
  cases e''
  exact q

def plainT : Expr → Bool
  | .UnaryOp .Not _ _ => false | .BoolOp .. => false | .IfExp .. => false | .Compare .. => false | _ => true
theorem test_plain {ex : Expr} (h : plainT ex = true) (env : Env) (whole : Sem Value) :
    isTrue ex env whole = (do let v ← whole; standAt ex.pos; holding [v] (truthy v)) := by
  cases ex <;> first | rfl | (cases h; done) | skip
  rename_i o x p
  cases o <;> first | rfl | (cases h; done)
/-- any expression whose test is its value's truth -/
theorem test_val {e : E} {X : Cx} {W : WX} {ex : Expr} (h : PE X ex (tEv G fa XR W X e)) (hp : ∀ whole, isTrue ex X.env whole = (do let v ← whole; standAt ex.pos; holding [v] (truthy v))) : PT X ex (tEvT G fa XR W X e) := by
  refine PT.imp (pt_truth h hp) fun σ H Q ⟨F, env, hn, S, o⟩ => ?_
  unfold evT at o
  obtain ⟨F0, env0, h0, S0, o0⟩ := ev1 (a := e) hn S (.refl _ _ _ _) o
  refine ⟨F0, env0, h0, S0, o0.imp fun _ _ H1 ⟨v, e', F1, env1, p, e1, S1, st1, l1⟩ => ⟨v, e', ?_⟩⟩
  have hln := S.len
  simp only [e1, Res.bind_ok] at o
  obtain ⟨u, k1, o⟩ := Out.of o
  obtain ⟨b, k2, o⟩ := Out.of o
  refine ⟨b, tru_rep S1.fr (look_rep (j := 0) S1 (by omega) (by omega) rfl rfl k1) k2, ?_⟩
  exact o [] F1 H1 (by simpa using S1.head (by omega) (by omega)) (by simpa using st1.head (by omega) (by omega)) l1
/-- a comparison as a test -/
theorem test_cmp {e : E} {X : Cx} {W : WX} {ex : Expr} {t : TE} (h : PT X ex (tTest t)) (ht : ∀ σ H Q, tEv G fa XR W X e σ H Q → t σ H Q) (hb : ∀ env p env1, evE G e env = .ok (p, env1) → ∃ b, p = .val (.bl b)) : PT X ex (tEvT G fa XR W X e) := by
  refine PT.imp h fun σ H Q ⟨F, env, hn, S, o⟩ => ?_
  unfold evT at o
  refine ht _ _ _ ?_
  obtain ⟨F0, env0, h0, S0, o0⟩ := ev1 (a := e) hn S (.refl _ _ _ _) o
  refine ⟨F0, env0, h0, S0, o0.imp fun _ _ H1 ⟨v, e', F1, env1, p, e1, S1, st1, l1⟩ => ⟨v, e', ?_⟩⟩
  have hln := S.len
  simp only [e1, Res.bind_ok] at o
  obtain ⟨u, k1, o⟩ := Out.of o
  obtain ⟨b, k2, o⟩ := Out.of o
  obtain ⟨b', rfl⟩ := hb _ _ _ e1
  cases k1
  cases k2
  cases (look_rep (j := 0) S1 (by omega) (by omega) rfl rfl (show look env1 (.val (.bl b)) = some (.bl b) from rfl)).bl
  exact ⟨b, rfl, o [] F1 H1 (by simpa using S1.head (by omega) (by omega)) (by simpa using st1.head (by omega) (by omega)) l1⟩
end
end PF
end
section
set_option Elab.async false
set_option autoImplicit false
set_option linter.all false
set_option maxRecDepth 100000
namespace PF
open PySem PySem.Spec PyProof.Rows L2

section
variable {T : Tbl} {G : Gx} {fa : FA} {XR : XRt} {k : Nat} {W : WX} {X : Cx} {σ : L2.St} {H : Hp} {F : Hp} {env : En}
def E.tst : E → Bool
  | .not _ | .and _ _ | .or _ _ | .ite _ _ _ | .cmp _ _ _ | .chn _ _ _ _ _ => true
  | _ => false
theorem tst_of {N : List Str} {sc : Scope} {e : E} {ex : Expr} (h : chkE T N e sc ex = true) (ht : e.tst = false) : plainT ex = true := by
  cases ex with
  | BoolOp op xs p => cases e <;> first | (cases ht; done) | (simp [chkE] at h)
  | IfExp a b c p => cases e <;> first | (cases ht; done) | (simp [chkE] at h)
  | Compare a b c p => cases e <;> first | (cases ht; done) | (simp [chkE] at h)
  | UnaryOp o x p => cases o <;> first | rfl | (cases e <;> first | (cases ht; done) | (simp [chkE] at h))
  | _ => rfl
theorem okT_val {e : E} (h : OkE T G fa XR k e) (ht : e.tst = false) : OkT T G fa XR k e := fun X W A ex hc => test_val (h X W A ex hc) fun _ => test_plain (tst_of hc ht) _ _
theorem Res.inv {α β : Type} {r : Res α} {f : α → Res β} {y : β} (h : r.bind f = .ok y) : ∃ a, r = .ok a ∧ f a = .ok y := by
  cases r with
  | ok a => exact ⟨a, rfl, h⟩
  | exc _ _ => cases h
  | bad => cases h
theorem cmp_val {op : COp} {a b : E} {env : En} {p : Slot} {env1 : En} (h : evE G (.cmp op a b) env = .ok (p, env1)) : ∃ c, p = .val (.bl c) := by
  simp only [evE] at h
  obtain ⟨_, _, h⟩ := Res.inv h
  obtain ⟨_, _, h⟩ := Res.inv h
  obtain ⟨_, _, h⟩ := Res.inv h
  obtain ⟨_, _, h⟩ := Res.inv h
  obtain ⟨c, _, h⟩ := Res.inv h
  cases h
  exact ⟨c, rfl⟩
theorem okT_cmp {op : COp} {a b : E} (ha : OkE T G fa XR k a) (hb : OkE T G fa XR k b) : OkT T G fa XR k (.cmp op a b) := fun X W A ex hc => by
  have hc0 := hc
  cases ex <;> first | (simp [chkE] at hc; done) | skip
  rename_i x os ys p
  rcases os with _ | ⟨o, _ | ⟨_, _⟩⟩ <;> rcases ys with _ | ⟨y, _ | ⟨_, _⟩⟩ <;> first | (simp [chkE] at hc; done) | skip
  simp only [chkE, Bool.and_eq_true, decide_eq_true_eq] at hc
  obtain ⟨⟨⟨rfl, h1⟩, h2⟩, h3⟩ := hc
  have hu : X.A.units + 65 < cLine := by have := A.room.un; omega
  refine test_cmp (pt_cmpR (cmp_ok (fa := fa) hu op) (ha X W A x h1) (hb X W A y h2) (plain_mark _ h3)) (fun σ H Q ⟨F, env, hn, S, o⟩ => ?_) fun _ _ _ => cmp_val
  simp only [evE] at o
  obtain ⟨F0, env0, h0, S0, o0⟩ := ev2 (a := a) (b := b) hn S (.refl _ _ _ _) o fun _ => ⟨_, rfl⟩
  refine ⟨F0, env0, h0, S0, o0.imp fun _ _ _ ⟨u, e, F3, env3, h3, S3, o3⟩ => ⟨u, e, F3, env3, h3, S3, o3.imp fun _ _ H2 ⟨v, e', F2, env1, env2, p, q, e1, e2, S2, l2, st2⟩ => ⟨v, e', ?_⟩⟩⟩
  simp only [e1, e2, Res.bind_ok] at o
  obtain ⟨u1, k1, o⟩ := Out.of o
  obtain ⟨u2, k2, o⟩ := Out.of o
  obtain ⟨w, k3, o⟩ := Out.of o
  have hln := S.len
  refine ⟨F2, u1, u2, w, S2.fr, look_rep (j := 0) S2 (by omega) (by omega) rfl rfl k1, look_rep (j := 1) S2 (by omega) (by omega) rfl rfl k2, k3, ?_⟩
  have S2' := S2.head (by omega) (by omega)
  obtain ⟨v'', e'', q⟩ := Out.post S2' (st2.head (by omega) (by omega)) l2 o (.val S2'.fr (.bl _))
  cases e''
  exact q
theorem chn_val {op op' : COp} {a b c : E} {env : En} {p : Slot} {env1 : En} (h : evE G (.chn op op' a b c) env = .ok (p, env1)) : ∃ c, p = .val (.bl c) := by
  simp only [evE] at h
  obtain ⟨_, _, h⟩ := Res.inv h
  obtain ⟨_, _, h⟩ := Res.inv h
  obtain ⟨_, _, h⟩ := Res.inv h
  obtain ⟨_, _, h⟩ := Res.inv h
  obtain ⟨_, _, h⟩ := Res.inv h
  split at h
  · obtain ⟨_, _, h⟩ := Res.inv h
    obtain ⟨_, _, h⟩ := Res.inv h
    obtain ⟨_, _, h⟩ := Res.inv h
    obtain ⟨d, _, h⟩ := Res.inv h
    cases h
    exact ⟨d, rfl⟩
  · cases h
    exact ⟨_, rfl⟩
theorem chn_read {op op' : COp} {a b c : E} {X : Cx} {W : WX} {σ : L2.St} {H : Hp} {Q : VK} (q0 : tEv G fa XR W X (.chn op op' a b c) σ H Q) :
    tChain (rCm X.K fa (cmpF op)) (rCm X.K fa (cmpF op')) (tEv G fa XR W X a) (tEv G fa XR W X b) (tEv G fa XR W X c) σ H Q := by
  obtain ⟨F, env, hn, S, o⟩ := q0
  simp only [evE] at o
  obtain ⟨F0, env0, h0, S0, o0⟩ := ev2 (a := a) (b := b) hn S (.refl _ _ _ _) o fun _ => ⟨_, rfl⟩
  refine ⟨F0, env0, h0, S0, o0.imp fun _ _ _ ⟨u, e, F3, env3, h3, S3, o3⟩ => ⟨u, e, F3, env3, h3, S3, o3.imp fun _ _ H2 ⟨v, e', F2, env1, env2, p, q, e1, e2, S2, l2, st2⟩ => ⟨v, e', ?_⟩⟩⟩
  simp only [e1, e2, Res.bind_ok] at o
  obtain ⟨u1, k1, o⟩ := Out.of o
  obtain ⟨u2, k2, o⟩ := Out.of o
  obtain ⟨w, k3, o⟩ := Out.of o
  have hln := S.len
  have S2' := S2.head (by omega) (by omega)
  refine ⟨F2, u1, u2, w, S2.fr, look_rep (j := 0) S2 (by omega) (by omega) rfl rfl k1, look_rep (j := 1) S2 (by omega) (by omega) rfl rfl k2, k3, w, rfl, ?_⟩
  cases w with
  | false =>
    simp only [Bool.false_eq_true, if_false] at o ⊢
    obtain ⟨v'', e'', q⟩ := Out.post S2' (st2.head (by omega) (by omega)) l2 o (.val S2'.fr (.bl _))
    cases e''
    exact q
  | true =>
    simp only [if_true] at o ⊢
    obtain ⟨F4, env4, h4, S4, o4⟩ := ev1 (a := c) hn S2' (st2.head (by omega) (by omega)) o
    refine ⟨F4, env4, h4, S4, o4.imp fun _ _ H3 ⟨t, e', F5, env5, r, e3, S5, st5, l5⟩ => ⟨t, e', ?_⟩⟩
    obtain ⟨S6, st6⟩ := frame (τ := [some u, some v]) (ws := [p, q]) S2 hn l2 l5 S5 st5
    simp only [e3, Res.bind_ok] at o
    obtain ⟨v2, k4, o⟩ := Out.of o
    obtain ⟨x2, k5, o⟩ := Out.of o
    obtain ⟨w2, k6, o⟩ := Out.of o
    refine ⟨F5, v2, x2, w2, S5.fr, look_rep (τ := [some u, some v, some t]) (ws := [p, q, r]) (j := 1) S6 (by omega) (by omega) rfl rfl k4, look_rep (τ := [some u, some v, some t]) (ws := [p, q, r]) (j := 2) S6 (by omega) (by omega) rfl rfl k5, k6, ?_⟩
    have S7 := S6.head (by omega) (by omega)
    obtain ⟨v'', e'', q⟩ := Out.post S7 ((st2.trans st6).head (by omega) (by omega)) l5 o (.val S7.fr (.bl _))
    cases e''
    exact q

theorem okT_chn {op op' : COp} {a b c : E} (ha : OkE T G fa XR k a) (hb : OkE T G fa XR k b) (hc' : OkE T G fa XR k c) : OkT T G fa XR k (.chn op op' a b c) := fun X W A ex hc => by
  cases ex <;> first | (simp [chkE] at hc; done) | skip
  rename_i x os ys p
  rcases os with _ | ⟨o1, _ | ⟨o2, _ | ⟨_, _⟩⟩⟩ <;> first | (simp [chkE] at hc; done) | skip
  rcases ys with _ | ⟨y, _ | ⟨z, _ | ⟨_, _⟩⟩⟩ <;> first | (simp [chkE] at hc; done) | skip
  simp only [chkE, Bool.and_eq_true, decide_eq_true_eq] at hc
  obtain ⟨⟨⟨⟨⟨⟨rfl, rfl⟩, h1⟩, h2⟩, h3⟩, h4⟩, h5⟩ := hc
  have hu : X.A.units + 65 < cLine := by have := A.room.un; omega
  exact test_cmp (pt_chain (cmp_ok (fa := fa) hu op) (cmp_ok (fa := fa) hu op') (ha X W A x h1) (hb X W A y h2) (hc' X W A z h3) (plain_mark (cOf op') h5)) (fun σ H Q q => chn_read (a := a) (b := b) (c := c) q) fun _ _ _ => chn_val

theorem okT_not {a : E} (ha : OkT T G fa XR k a) : OkT T G fa XR k (.not a) := fun X W A ex hc => by
  cases ex <;> first | (simp [chkE] at hc; done) | skip
  rename_i o x p
  cases o <;> first | (simp [chkE] at hc; done) | skip
  simp only [chkE] at hc
  refine PT.imp (pt_not (ha X W A x hc)) fun σ H Q ⟨F, env, hn, S, o⟩ => ?_
  have e0 : evT G (.not a) env = (evT G a env).bind fun (b, env) => .ok (!b, env) := by
    simp only [evT, evE]
    cases evE G a env with
    | ok z =>
      simp only [Res.bind_ok]
      cases look z.2 z.1 with
      | none => rfl
      | some u => simp only [Res.of_some, Res.bind_ok]; cases u.tru <;> rfl
    | exc _ _ => rfl
    | bad => rfl
  rw [e0] at o
  refine ⟨F, env, hn, S, (Out.sub (sh := fun _ => []) o (.refl _ _ _ _)).imp fun bl vs H1 ⟨F1, env1, e1, S1, st1, l1⟩ => ?_⟩
  rw [e1, Res.bind_ok] at o
  exact o vs F1 H1 S1 st1 l1
theorem out_and {a b : E} {n : Nat} {K : PySem.W.Frag} {Q : Bool → List V → Hp → Prop} (h : Out K fa XR W n (fun _ => []) F H σ env (evT G (.and a b) env) Q) :
    Out K fa XR W n (fun _ => []) F H σ env ((evT G a env).bind fun z => if z.1 = true then evT G b z.2 else .ok (false, z.2)) Q := by
  simp only [evT, evE] at h ⊢
  cases e : evE G a env with
  | ok z =>
    rw [e] at h
    simp only [Res.bind_ok] at h ⊢
    cases e1 : frz z.1 with
    | none => rw [e1] at h; exact h.elim
    | some u =>
      rw [e1] at h
      rw [look_frz e1]
      simp only [Res.of_some, Res.bind_ok] at h ⊢
      cases e2 : u.tru with
      | none => rw [e2] at h; exact h.elim
      | some c =>
        rw [e2] at h
        simp only [Res.of_some, Res.bind_ok] at h ⊢
        cases c with
        | true => exact h
        | false => simpa [look, e2] using h
  | exc _ _ => rw [e] at h; exact h
  | bad => rw [e] at h; exact h
theorem out_or {a b : E} {n : Nat} {K : PySem.W.Frag} {Q : Bool → List V → Hp → Prop} (h : Out K fa XR W n (fun _ => []) F H σ env (evT G (.or a b) env) Q) :
    Out K fa XR W n (fun _ => []) F H σ env ((evT G a env).bind fun z => if z.1 = true then .ok (true, z.2) else evT G b z.2) Q := by
  simp only [evT, evE] at h ⊢
  cases e : evE G a env with
  | ok z =>
    rw [e] at h
    simp only [Res.bind_ok] at h ⊢
    cases e1 : frz z.1 with
    | none => rw [e1] at h; exact h.elim
    | some u =>
      rw [e1] at h
      rw [look_frz e1]
      simp only [Res.of_some, Res.bind_ok] at h ⊢
      cases e2 : u.tru with
      | none => rw [e2] at h; exact h.elim
      | some c =>
        rw [e2] at h
        simp only [Res.of_some, Res.bind_ok] at h ⊢
        cases c with
        | false => exact h
        | true => simpa [look, e2] using h
  | exc _ _ => rw [e] at h; exact h
  | bad => rw [e] at h; exact h
theorem bare {K : PySem.W.Frag} {n : Nat} {vs : List V} (S : Sim K fa n F H (σ ++ vs.map some) (env ++ [])) (hl : σ.length = env.length) : vs = [] := by
  have := S.len
  simp only [List.length_append, List.length_map, List.length_nil] at this
  exact List.eq_nil_of_length_eq_zero (by omega)
theorem okW_and {a b : E} (ha : OkT T G fa XR k a) (hb : OkT T G fa XR k b) (hw : OkW T G fa XR k b) : OkW T G fa XR k (.and a b) := fun X W A op xs p hc => by
  cases op <;> rcases xs with _ | ⟨x, _ | ⟨y, r⟩⟩ <;> first | (simp [chkE] at hc; done) | skip
  simp only [chkE, Bool.and_eq_true] at hc
  have hb2 : PW X (.BoolOp .And (y :: r) p) (tEvT G fa XR W X b) := by
    cases r with
    | nil => exact pw_and1 (hb X W A y hc.2)
    | cons z r => exact hw X W A _ _ _ hc.2
  refine PW.imp (pw_and (ha X W A x hc.1) hb2) fun σ H Q ⟨F, env, hn, S, o⟩ => ?_
  have o := out_and o
  refine ⟨F, env, hn, S, (Out.sub (sh := fun _ => []) o (.refl _ _ _ _)).imp fun bl vs H1 ⟨F1, env1, e1, S1, st1, l1⟩ => ?_⟩
  rw [e1, Res.bind_ok] at o
  cases bare S1 (by omega)
  simp only [List.map_nil, List.append_nil] at S1 st1
  cases bl with
  | true =>
    simp only [if_true] at o ⊢
    exact ⟨F1, env1, hn, S1, o.pre st1⟩
  | false =>
    simp only [Bool.false_eq_true, if_false] at o ⊢
    exact o [] F1 H1 (by simpa using S1) (by simpa using st1) l1
theorem okW_or {a b : E} (ha : OkT T G fa XR k a) (hb : OkT T G fa XR k b) (hw : OkW T G fa XR k b) : OkW T G fa XR k (.or a b) := fun X W A op xs p hc => by
  cases op <;> rcases xs with _ | ⟨x, _ | ⟨y, r⟩⟩ <;> first | (simp [chkE] at hc; done) | skip
  simp only [chkE, Bool.and_eq_true] at hc
  have hb2 : PW X (.BoolOp .Or (y :: r) p) (tEvT G fa XR W X b) := by
    cases r with
    | nil => exact pw_or1 (hb X W A y hc.2)
    | cons z r => exact hw X W A _ _ _ hc.2
  refine PW.imp (pw_or (ha X W A x hc.1) hb2) fun σ H Q ⟨F, env, hn, S, o⟩ => ?_
  have o := out_or o
  refine ⟨F, env, hn, S, (Out.sub (sh := fun _ => []) o (.refl _ _ _ _)).imp fun bl vs H1 ⟨F1, env1, e1, S1, st1, l1⟩ => ?_⟩
  rw [e1, Res.bind_ok] at o
  cases bare S1 (by omega)
  simp only [List.map_nil, List.append_nil] at S1 st1
  cases bl with
  | false =>
    simp only [Bool.false_eq_true, if_false] at o ⊢
    exact ⟨F1, env1, hn, S1, o.pre st1⟩
  | true =>
    simp only [if_true] at o ⊢
    exact o [] F1 H1 (by simpa using S1) (by simpa using st1) l1
theorem okT_and {a b : E} (hw : OkW T G fa XR k (.and a b)) : OkT T G fa XR k (.and a b) := fun X W A ex hc => by
  cases ex <;> first | (simp [chkE] at hc; done) | skip
  exact (hw X W A _ _ _ hc).pt
theorem okT_or {a b : E} (hw : OkW T G fa XR k (.or a b)) : OkT T G fa XR k (.or a b) := fun X W A ex hc => by
  cases ex <;> first | (simp [chkE] at hc; done) | skip
  exact (hw X W A _ _ _ hc).pt
theorem pt_ifExp {X : Cx} {c a b : Expr} {p : Pos} {tA ta tb : TT} (hc : PT X c tA) (ha : PT X a ta) (hb : PT X b tb) : PT X (.IfExp c a b p) (fun σ H Q => tA σ H fun c H1 => if c = true then ta σ H1 Q else tb σ H1 Q) := by
  refine ⟨fun pins s σ H Q I h => ?_⟩
  refine isTrue_IfExp (thn (hc.run pins s σ H _ I h) fun d s1 ⟨H1, I1, q1⟩ => ?_)
  cases d with
  | true => exact ha.run pins s1 σ H1 Q I1 q1
  | false => exact hb.run pins s1 σ H1 Q I1 q1
theorem okT_ite {c a b : E} (hc' : OkT T G fa XR k c) (ha : OkT T G fa XR k a) (hb : OkT T G fa XR k b) : OkT T G fa XR k (.ite c a b) := fun X W A ex hc => by
  cases ex <;> first | (simp [chkE] at hc; done) | skip
  rename_i z x y p
  simp only [chkE, Bool.and_eq_true] at hc
  refine PT.imp (pt_ifExp (hc' X W A z hc.1.1) (ha X W A x hc.1.2) (hb X W A y hc.2)) fun σ H Q ⟨F, env, hn, S, o⟩ => ?_
  have e0 : evT G (.ite c a b) env = (evT G c env).bind fun (k, env) => if k = true then evT G a env else evT G b env := by
    simp only [evE, evT]
    cases evE G c env with
    | ok z =>
      simp only [Res.bind_ok]
      cases look z.2 z.1 with
      | none => rfl
      | some u =>
        simp only [Res.of_some, Res.bind_ok]
        cases u.tru with
        | none => rfl
        | some b => cases b <;> rfl
    | exc _ _ => rfl
    | bad => rfl
  rw [e0] at o
  refine ⟨F, env, hn, S, (Out.sub (sh := fun _ => []) o (.refl _ _ _ _)).imp fun bl vs H1 ⟨F1, env1, e1, S1, st1, l1⟩ => ?_⟩
  rw [e1, Res.bind_ok] at o
  cases bare S1 (by omega)
  simp only [List.map_nil, List.append_nil] at S1 st1
  cases bl with
  | true =>
    simp only [if_true] at o ⊢
    exact ⟨F1, env1, hn, S1, o.pre st1⟩
  | false =>
    simp only [Bool.false_eq_true, if_false] at o ⊢
    exact ⟨F1, env1, hn, S1, o.pre st1⟩
end
end PF
end
section
set_option Elab.async false
set_option autoImplicit false
set_option linter.all false
set_option maxRecDepth 100000
namespace PF
open PySem PySem.Spec PyProof.Rows L2

/-- the arguments' places, lent ones as loans -/
def mix : List Slot → List Slot → List Slot
  | .bor i :: ws, _ :: as => .bor i :: mix ws as
  | _ :: ws, a :: as => a :: mix ws as
  | _, _ => []
theorem args_at {env : En} : ∀ {md : List Bool} {ws as : List Slot}, argsF env md ws = some as → as.length = md.length ∧ ws.length = md.length ∧
    ∀ (j : Nat) (s : Slot), as[j]? = some s → (∃ (u : U) (w : Slot), s = .val u ∧ ws[j]? = some w ∧ frz w = some u ∧ md[j]? = some false ∧ (mix ws as)[j]? = some (.val u)) ∨
      ∃ (u : U) (i : Nat) (p : Bool), s = .own u true ∧ ws[j]? = some (.bor i) ∧ env[i]? = some (.own u p) ∧ md[j]? = some true ∧ (mix ws as)[j]? = some (.bor i)
  | [], [], as, h => by cases h; exact ⟨rfl, rfl, fun j s e => by simp at e⟩
  | [], _ :: _, as, h => by simp [argsF] at h
  | false :: md, [], as, h => by simp [argsF] at h
  | true :: md, [], as, h => by simp [argsF] at h
  | false :: md, w :: ws, as, h => by
    simp only [argsF] at h
    obtain ⟨u, h1, h⟩ := Option.bind_eq_some_iff.mp h
    obtain ⟨as', h2, rfl⟩ := Option.map_eq_some_iff.mp h
    obtain ⟨l1, l2, q⟩ := args_at h2
    have hm : mix (w :: ws) (.val u :: as') = .val u :: mix ws as' := by cases w <;> first | rfl | cases h1
    refine ⟨by simp [l1], by simp [l2], fun j s e => ?_⟩
    rw [hm]
    cases j with
    | zero => simp at e; subst e; exact .inl ⟨u, w, rfl, rfl, h1, rfl, rfl⟩
    | succ j => simpa using q j s (by simpa using e)
  | true :: md, w :: ws, as, h => by
    cases w with
    | bor i =>
      simp only [argsF] at h
      cases e0 : env[i]? with
      | none => rw [e0] at h; cases h
      | some t =>
        cases t with
        | own u p =>
          simp only [e0] at h
          obtain ⟨as', h2, rfl⟩ := Option.map_eq_some_iff.mp h
          obtain ⟨l1, l2, q⟩ := args_at h2
          refine ⟨by simp [l1], by simp [l2], fun j s e => ?_⟩
          cases j with
          | zero => simp at e; subst e; exact .inr ⟨u, i, p, rfl, rfl, e0, rfl, rfl⟩
          | succ j => simpa [mix] using q j s (by simpa using e)
        | emp => simp [e0] at h
        | val u => simp [e0] at h
        | bor u => simp [e0] at h
    | emp => simp [argsF] at h
    | val u => simp [argsF] at h
    | own u p => simp [argsF] at h
section
variable {K : PySem.W.Frag} {fa : FA} {n : Nat} {H : Hp} {σ : L2.St} {env : En}
theorem args_freeze : ∀ {F : Hp} {md : List Bool} {ws ws0 as : List Slot}, Sim K fa n F H σ (ws0 ++ ws) → argsF env md ws = some as → ∃ F', Sim K fa n F' H σ (ws0 ++ mix ws as) ∧ Stp F H σ (ws0 ++ ws) F' H σ (ws0 ++ mix ws as)
  | F, [], [], ws0, as, S, h => by cases h; exact ⟨F, by simpa [mix] using S, by simpa [mix] using Stp.refl _ _ _ _⟩
  | F, [], _ :: _, ws0, as, S, h => by simp [argsF] at h
  | F, false :: md, [], ws0, as, S, h => by simp [argsF] at h
  | F, true :: md, [], ws0, as, S, h => by simp [argsF] at h
  | F, false :: md, w :: ws, ws0, as, S, h => by
    simp only [argsF] at h
    obtain ⟨u, h1, h⟩ := Option.bind_eq_some_iff.mp h
    obtain ⟨as', h2, rfl⟩ := Option.map_eq_some_iff.mp h
    have hm : mix (w :: ws) (.val u :: as') = .val u :: mix ws as' := by cases w <;> first | rfl | cases h1
    obtain ⟨F1, S1, st1⟩ := frz_one (i := ws0.length) S (by simp) h1
    have es : (ws0 ++ w :: ws).set ws0.length (.val u) = (ws0 ++ [.val u]) ++ ws := by simp
    rw [es] at S1 st1
    obtain ⟨F2, S2, st2⟩ := args_freeze S1 h2
    rw [hm]
    exact ⟨F2, by simpa using S2, by simpa using st1.trans st2⟩
  | F, true :: md, w :: ws, ws0, as, S, h => by
    cases w with
    | bor i =>
      simp only [argsF] at h
      split at h
      · obtain ⟨as', h2, rfl⟩ := Option.map_eq_some_iff.mp h
        obtain ⟨F2, S2, st2⟩ := args_freeze (ws0 := ws0 ++ [.bor i]) (ws := ws) (by simpa using S) h2
        exact ⟨F2, by simpa [mix] using S2, by simpa [mix] using st2⟩
      · cases h
    | emp => simp [argsF] at h
    | val u => simp [argsF] at h
    | own u p => simp [argsF] at h
end
theorem mem_borrows : ∀ {ws : List Slot} {i : Nat}, i ∈ borrows ws ↔ ∃ j : Nat, ws[j]? = some (.bor i)
  | [], i => by simp [borrows]
  | w :: ws, i => by
    have ih := mem_borrows (ws := ws) (i := i)
    constructor
    · intro h
      cases w with
      | bor k =>
        simp only [borrows, List.mem_cons] at h
        rcases h with rfl | h
        · exact ⟨0, rfl⟩
        · obtain ⟨j, q⟩ := ih.mp h; exact ⟨j + 1, by simpa using q⟩
      | emp => obtain ⟨j, q⟩ := ih.mp h; exact ⟨j + 1, by simpa using q⟩
      | val u => obtain ⟨j, q⟩ := ih.mp h; exact ⟨j + 1, by simpa using q⟩
      | own u p => obtain ⟨j, q⟩ := ih.mp h; exact ⟨j + 1, by simpa using q⟩
    · rintro ⟨j, q⟩
      cases j with
      | zero => simp at q; subst q; simp [borrows]
      | succ j =>
        have := ih.mpr ⟨j, by simpa using q⟩
        cases w <;> simp [borrows, this]
theorem nodup_bor : ∀ {ws : List Slot}, (borrows ws).Nodup → ∀ (j j' i : Nat), ws[j]? = some (.bor i) → ws[j']? = some (.bor i) → j = j'
  | [], _, j, j', i, h, _ => by simp at h
  | w :: ws, nd, j, j', i, h, h' => by
    have nd' : (borrows ws).Nodup := by cases w <;> first | exact nd | exact (List.nodup_cons.mp nd).2
    cases j with
    | zero =>
      cases j' with
      | zero => rfl
      | succ j' =>
        simp at h; subst h
        exact absurd (mem_borrows.mpr ⟨j', by simpa using h'⟩) (List.nodup_cons.mp nd).1
    | succ j =>
      cases j' with
      | zero =>
        simp at h'; subst h'
        exact absurd (mem_borrows.mpr ⟨j, by simpa using h⟩) (List.nodup_cons.mp nd).1
      | succ j' => rw [nodup_bor nd' j j' i (by simpa using h) (by simpa using h')]
theorem back_at : ∀ {ws os : List Slot} {env env2 : En}, backF env ws os = some env2 → (borrows ws).Nodup → env2.length = env.length ∧ os.length = ws.length ∧ ∀ (i : Nat), (i ∉ borrows ws → env2[i]? = env[i]?) ∧
    ∀ (j : Nat), ws[j]? = some (.bor i) → ∃ (u u0 : U) (p : Bool), os[j]? = some (.own u true) ∧ env[i]? = some (.own u0 p) ∧ env2[i]? = some (.own u p)
  | [], [], env, env2, h, _ => by cases h; exact ⟨rfl, rfl, fun i => ⟨fun _ => rfl, fun j e => by simp at e⟩⟩
  | [], _ :: _, env, env2, h, _ => by simp [backF] at h
  | w :: ws, [], env, env2, h, _ => by cases w <;> simp [backF] at h
  | w :: ws, o :: os, env, env2, h, nd => by
    have plain : ∀ (hw : ∀ i, w ≠ .bor i), backF env ws os = some env2 → borrows (w :: ws) = borrows ws → env2.length = env.length ∧ (o :: os).length = (w :: ws).length ∧ ∀ (i : Nat), (i ∉ borrows (w :: ws) → env2[i]? = env[i]?) ∧
        ∀ (j : Nat), (w :: ws)[j]? = some (.bor i) → ∃ (u u0 : U) (p : Bool), (o :: os)[j]? = some (.own u true) ∧ env[i]? = some (.own u0 p) ∧ env2[i]? = some (.own u p) := fun hw h eb => by
      obtain ⟨l1, l2, q⟩ := back_at h (by rw [← eb]; exact nd)
      refine ⟨l1, by simp [l2], fun i => ⟨fun hi => (q i).1 (by rw [← eb]; exact hi), fun j e => ?_⟩⟩
      cases j with
      | zero => simp at e; exact absurd e (hw i)
      | succ j => simpa using (q i).2 j (by simpa using e)
    cases w with
    | emp => exact plain (fun i z => by cases z) (by simpa [backF] using h) rfl
    | val u => exact plain (fun i z => by cases z) (by simpa [backF] using h) rfl
    | own u p => exact plain (fun i z => by cases z) (by simpa [backF] using h) rfl
    | bor i0 =>
      cases o with
      | own u pn =>
        cases pn with
        | true =>
          simp only [backF] at h
          cases e0 : env[i0]? with
          | none => rw [e0] at h; cases h
          | some t =>
            cases t with
            | own u0 p =>
              simp only [e0] at h
              have nd1 := List.nodup_cons.mp nd
              obtain ⟨l1, l2, q⟩ := back_at h nd1.2
              rw [List.length_set] at l1
              refine ⟨l1, by simp [l2], fun i => ⟨fun hi => ?_, fun j e => ?_⟩⟩
              · simp only [borrows, List.mem_cons, not_or] at hi
                rw [(q i).1 hi.2, List.getElem?_set_ne (fun z => hi.1 z.symm)]
              · cases j with
                | zero =>
                  simp at e
                  subst e
                  exact ⟨u, u0, p, rfl, e0, by rw [(q i0).1 nd1.1, List.getElem?_set_self (ltOf e0)]⟩
                | succ j =>
                  have e' : ws[j]? = some (.bor i) := by simpa using e
                  have ne : i0 ≠ i := fun z => by subst z; exact nd1.1 (mem_borrows.mpr ⟨j, e'⟩)
                  obtain ⟨u1, u2, p1, r1, r2, r3⟩ := (q i).2 j e'
                  exact ⟨u1, u2, p1, by simpa using r1, by rw [List.getElem?_set_ne ne] at r2; exact r2, r3⟩
            | emp => simp [e0] at h
            | val u => simp [e0] at h
            | bor u => simp [e0] at h
        | false => simp [backF] at h
      | emp => simp [backF] at h
      | val u => simp [backF] at h
      | bor u => simp [backF] at h
section
variable {K : PySem.W.Frag} {fa : FA} {n : Nat} {F1 H1 : Hp} {σ : L2.St} {env1 : En}
/-- what a call does to the caller's places -/
theorem call_core {vs : List V} {ws as : List Slot} {md : List Bool} (S1 : Sim K fa n F1 H1 (σ ++ vs.map some) (env1 ++ ws)) (hn : σ.length = n) (he : env1.length = n) (ha : argsF env1 md ws = some as) (nd : (borrows ws).Nodup) :
    ∃ F', Sim K fa n F' H1 σ env1 ∧ Stp F1 H1 (σ ++ vs.map some) (env1 ++ ws) F' H1 (σ ++ vs.map some) (env1 ++ mix ws as) ∧ as.length = md.length ∧ vs.length = md.length ∧
      (∀ j : Nat, (md[j]? = some false → ∃ u, as[j]? = some (.val u)) ∧ (md[j]? = some true → ∃ u, as[j]? = some (.own u true))) ∧ Sim K fa 0 F' H1 (vs.map some) as ∧
      ∀ (os : List Slot) (env2 : En) (F2 H2 : Hp) (τ : L2.St) (ws2 : En), backF env1 ws os = some env2 → Sim K fa 0 F2 H2 (vs.map some ++ τ) (os ++ ws2) → Stp F' H1 (vs.map some) as F2 H2 (vs.map some ++ τ) (os ++ ws2) → τ.length = ws2.length →
        Sim K fa n F2 H2 (σ ++ τ) (env2 ++ ws2) ∧ Stp F' H1 σ env1 F2 H2 (σ ++ τ) (env2 ++ ws2) ∧ env2.length = n := by
  obtain ⟨F', S2, st2⟩ := args_freeze S1 ha
  obtain ⟨la, lw, hat⟩ := args_at ha
  have lv : vs.length = ws.length := len_side S1 (by omega)
  have S' := S2.head (by omega) (by omega)
  -- the places of the call, one by one
  have atv : ∀ (j : Nat) (s : Slot), as[j]? = some s → (∃ u v, s = .val u ∧ vs[j]? = some v ∧ Rep K fa F' v u) ∨
      ∃ u i p a o, s = .own u true ∧ ws[j]? = some (.bor i) ∧ env1[i]? = some (.own u p) ∧ vs[j]? = some (.ref a) ∧ σ[i]? = some (some (.ref a)) ∧ H1 a = some o ∧ Hold K fa F' o u ∧ F' a = none := fun j s e => by
    rcases hat j s e with ⟨u, w, rfl, _, _, _, h5⟩ | ⟨u, i, p, rfl, h2, h3, _, h5⟩
    · obtain ⟨v, q1, q2⟩ := S2.slot (n + j) (.val u) (by rw [getR (by omega), he, Nat.add_sub_cancel_left]; exact h5)
      rw [getR (by omega), hn, Nat.add_sub_cancel_left] at q1
      refine .inl ⟨u, v, rfl, ?_, q2⟩
      simpa using q1
    · obtain ⟨hi, v, q1, q2⟩ := S2.slot (n + j) (.bor i) (by rw [getR (by omega), he, Nat.add_sub_cancel_left]; exact h5)
      rw [getR (by omega), hn, Nat.add_sub_cancel_left] at q1
      rw [getL (by omega)] at q2
      obtain ⟨a, o, r1, r2, r3, r4⟩ := S'.slot i _ h3
      rw [q2] at r1
      cases r1
      exact .inr ⟨u, i, p, a, o, rfl, h2, h3, by simpa using q1, q2, r2, r3, r4⟩
  have ownv : ∀ a, Own (vs.map some) as a → ∃ (j i : Nat) (u : U) (p : Bool), ws[j]? = some (.bor i) ∧ env1[i]? = some (.own u p) ∧ σ[i]? = some (some (.ref a)) ∧ vs[j]? = some (.ref a) ∧ as[j]? = some (.own u true) := fun a ⟨j, u, p, e1, e2⟩ => by
    have e2 : vs[j]? = some (.ref a) := by simpa using e2
    rcases atv j _ e1 with ⟨u', v, z, _⟩ | ⟨u', i, p', a', o, z, h2, h3, h4, h5, _⟩
    · cases z
    · cases z
      rw [e2] at h4
      cases h4
      exact ⟨j, i, u, p', h2, h3, h5, e2, e1⟩
  have own1 : ∀ a, Own (vs.map some) as a → Own σ env1 a := fun a h => by
    obtain ⟨j, i, u, p, _, h2, h3, _⟩ := ownv a h
    exact ⟨i, u, p, h2, h3⟩
  refine ⟨F', S', st2, la, by omega, fun j => ⟨fun e => ?_, fun e => ?_⟩, ⟨by simp; omega, S'.fr, fun j s e => ?_, fun j j' a u u' p p' e1 e2 e3 e4 => ?_⟩, fun os env2 F2 H2 τ ws2 hb S3 st3 hτ => ?_⟩
  · have hj : j < as.length := by have := ltOf e; omega
    rcases hat j as[j] (List.getElem?_eq_getElem hj) with ⟨u, w, z, _⟩ | ⟨u, i, p, z, _, _, h4, _⟩
    · exact ⟨u, by rw [List.getElem?_eq_getElem hj, z]⟩
    · rw [e] at h4; cases h4
  · have hj : j < as.length := by have := ltOf e; omega
    rcases hat j as[j] (List.getElem?_eq_getElem hj) with ⟨u, w, z, _, _, h4, _⟩ | ⟨u, i, p, z, _⟩
    · rw [e] at h4; cases h4
    · exact ⟨u, by rw [List.getElem?_eq_getElem hj, z]⟩
  · rcases atv j s e with ⟨u, v, rfl, h2, h3⟩ | ⟨u, i, p, a, o, rfl, h2, h3, h4, h5, h6, h7, h8⟩
    · exact ⟨v, by simpa using h2, h3⟩
    · exact ⟨a, o, by simpa using h4, h6, h7, h8⟩
  · have e3 : vs[j]? = some (.ref a) := by simpa using e3
    have e4 : vs[j']? = some (.ref a) := by simpa using e4
    rcases atv j _ e1 with ⟨u', v, z, _⟩ | ⟨u', i, q, b, o, z, h2, h3, h4, h5, _⟩
    · cases z
    · rcases atv j' _ e2 with ⟨u', v, z, _⟩ | ⟨u'', i', q', b', o', z, k2, k3, k4, k5, _⟩
      · cases z
      · rw [e3] at h4
        rw [e4] at k4
        cases h4
        cases k4
        have := S'.inj i i' a _ _ _ _ h3 k3 h5 k5
        subst this
        exact nodup_bor nd j j' i h2 k2
  · obtain ⟨l2, lo, bk⟩ := back_at hb nd
    have l2n : env2.length = n := by omega
    have lvo : vs.length = os.length := by omega
    -- an own place behind the call was one ahead of it
    have old : ∀ (i : Nat) (u : U) (p : Bool), env2[i]? = some (.own u p) → ∃ u0, env1[i]? = some (.own u0 p) := fun i u p e => by
      by_cases hi : i ∈ borrows ws
      · obtain ⟨j, hj⟩ := mem_borrows.mp hi
        obtain ⟨u1, u0, p1, _, q2, q3⟩ := (bk i).2 j hj
        rw [q3] at e
        cases e
        exact ⟨u0, q2⟩
      · rw [(bk i).1 hi] at e; exact ⟨u, e⟩
    have oself : ∀ (i : Nat) (u : U) (p : Bool) (a : Addr), env1[i]? = some (.own u p) → σ[i]? = some (some (.ref a)) → i ∉ borrows ws → ¬ Own (vs.map some) as a := fun i u p a h1 h2 hi z => by
      obtain ⟨j, i', u', p', k1, k2, k3, _⟩ := ownv a z
      have := S'.inj i i' a _ _ _ _ h1 k2 h2 k3
      subst this
      exact hi (mem_borrows.mpr ⟨j, k1⟩)
    have two : ∀ (i : Nat) (u : U) (p : Bool) (a : Addr), (env2 ++ ws2)[i]? = some (.own u p) → (σ ++ τ)[i]? = some (some (.ref a)) →
        (i < n ∧ (∃ u0, env1[i]? = some (.own u0 p)) ∧ σ[i]? = some (some (.ref a))) ∨ (n ≤ i ∧ (os ++ ws2)[os.length + (i - n)]? = some (.own u p) ∧ (vs.map some ++ τ)[os.length + (i - n)]? = some (some (.ref a))) := fun i u p a e1 e2 => by
      by_cases c : i < n
      · rw [getL (by omega)] at e1 e2
        exact .inl ⟨c, old i u p e1, e2⟩
      · rw [getR (by omega), l2n] at e1
        rw [getR (by omega), hn] at e2
        exact .inr ⟨by omega, by rw [getR (by omega), Nat.add_sub_cancel_left]; exact e1, by rw [getR (by simp; omega), List.length_map, lvo, Nat.add_sub_cancel_left]; exact e2⟩
    have last : ∀ (m : Nat) (u : U) (p : Bool) (a : Addr), (os ++ ws2)[os.length + m]? = some (.own u p) → (vs.map some ++ τ)[os.length + m]? = some (some (.ref a)) → H1 a = none := fun m u p a e1 e2 => by
      rcases st3.sub a ⟨_, u, p, e1, e2⟩ with z | z
      · obtain ⟨j, i', u', p', k1, k2, k3, k4, k5⟩ := ownv a z
        obtain ⟨q1, u'', q2⟩ := st3.pin j u' k5
        have hj : j < os.length := by have := ltOf k5; omega
        have := S3.inj _ j a _ _ _ _ e1 q2 e2 (by rw [q1]; simpa using k4)
        omega
      · exact z
    refine ⟨⟨by simp only [List.length_append]; omega, S3.fr, fun i s e => ?_, fun i j a u u' p p' e1 e2 e3 e4 => ?_⟩, ⟨st3.ext, fun a o e no => st3.keep a o e fun z => no (own1 a z), fun a ⟨i, u, p, e1, e2⟩ => ?_, fun a o e => (st3.new a o e).imp id fun z => z.imp (own1 a) id, fun i u e => ?_⟩, l2n⟩
    · by_cases c : i < n
      · rw [getL (by omega)] at e
        by_cases hi : i ∈ borrows ws
        · obtain ⟨j, hj⟩ := mem_borrows.mp hi
          obtain ⟨u1, u0, p1, q1, q2, q3⟩ := (bk i).2 j hj
          rw [q3] at e
          cases e
          have hjo : j < os.length := ltOf q1
          obtain ⟨a, o, r1, r2, r3, r4⟩ := S3.slot j (.own u1 true) (by rw [getL hjo]; exact q1)
          rw [getL (by simp; omega)] at r1
          have hja : j < as.length := by omega
          have r1' : vs[j]? = some (.ref a) := by simpa using r1
          rcases atv j as[j] (List.getElem?_eq_getElem hja) with ⟨u, v, z, _⟩ | ⟨u, i', p, b, o', z, h2, h3, h4, h5, _⟩
          · rcases hat j as[j] (List.getElem?_eq_getElem hja) with ⟨_, w, _, h2, h3, _⟩ | ⟨_, _, _, z', _⟩
            · rw [hj] at h2; cases h2; cases h3
            · rw [z] at z'; cases z'
          · rw [hj] at h2
            cases h2
            rw [r1'] at h4
            cases h4
            exact ⟨a, o, by rw [getL (by omega)]; exact h5, r2, r3, r4⟩
        · rw [(bk i).1 hi] at e
          refine (S'.slot i s e).move st3.ext (getL (by omega)) (fun j e2 => ?_) fun u p a o e2 q1 q2 q3 => ?_
          · subst e2
            obtain ⟨hj, _⟩ := S'.slot i (.bor j) e
            exact getL (by omega)
          · subst e2
            have no := oself i u p a e q1 hi
            refine ⟨st3.keep a o q2 no, ?_⟩
            cases f : F2 a with
            | none => rfl
            | some ob =>
              rcases st3.new a ob f with z | z | z
              · rw [q3] at z; cases z
              · exact absurd z no
              · rw [q2] at z; cases z
      · rw [getR (by omega), l2n] at e
        refine (S3.slot (os.length + (i - n)) s (by rw [getR (by omega), Nat.add_sub_cancel_left]; exact e)).up (Nat.zero_le n) (fun _ => by omega) (.refl _) (by rw [getR (by omega), hn, getR (by simp; omega), List.length_map, lvo, Nat.add_sub_cancel_left]) (fun j e2 => ?_) fun _ _ _ _ _ _ a b => ⟨a, b⟩
        subst e2
        obtain ⟨hj, _⟩ := S3.slot (os.length + (i - n)) (.bor j) (by rw [getR (by omega), Nat.add_sub_cancel_left]; exact e)
        exact absurd hj.1 (Nat.not_lt_zero _)
    · rcases two i u p a e1 e3 with ⟨c1, ⟨u0, x1⟩, x2⟩ | ⟨c1, x1, x2⟩
      · rcases two j u' p' a e2 e4 with ⟨c2, ⟨u0', y1⟩, y2⟩ | ⟨c2, y1, y2⟩
        · exact S'.inj i j a _ _ _ _ x1 y1 x2 y2
        · obtain ⟨b, o, r1, r2, _⟩ := S'.slot i _ x1
          rw [x2] at r1
          cases r1
          rw [last _ _ _ _ y1 y2] at r2
          cases r2
      · rcases two j u' p' a e2 e4 with ⟨c2, ⟨u0', y1⟩, y2⟩ | ⟨c2, y1, y2⟩
        · obtain ⟨b, o, r1, r2, _⟩ := S'.slot j _ y1
          rw [y2] at r1
          cases r1
          rw [last _ _ _ _ x1 x2] at r2
          cases r2
        · have := S3.inj _ _ a _ _ _ _ x1 y1 x2 y2
          omega
    · rcases two i u p a e1 e2 with ⟨c1, ⟨u0, x1⟩, x2⟩ | ⟨c1, x1, x2⟩
      · exact .inl ⟨i, u0, p, x1, x2⟩
      · exact .inr (last _ _ _ _ x1 x2)
    · have hi : i < env1.length := ltOf e
      refine ⟨getL (by omega), ?_⟩
      rw [getL (by omega)]
      by_cases hb : i ∈ borrows ws
      · obtain ⟨j, hj⟩ := mem_borrows.mp hb
        obtain ⟨u1, u0, p1, q1, q2, q3⟩ := (bk i).2 j hj
        rw [e] at q2
        cases q2
        exact ⟨u1, q3⟩
      · exact ⟨u, by rw [(bk i).1 hb]; exact e⟩
end
section
variable {T : Tbl} {G : Gx} {fa : FA} {XR : XRt} {k : Nat}
/-- a call's run, from the arguments on the side -/
theorem call_out {X : Cx} {W : WX} {σ : L2.St} {F H F1 H1 : Hp} {env env1 : En} {ws : List Slot} {vs : List V} {f : Nat} {md : List Bool} {Q : VK} (hn : σ.length = X.N.length) (hmd : G.modes f = some md) (S1 : Sim X.K fa X.N.length F1 H1 (σ ++ vs.map some) (env1 ++ ws))
    (st1 : Stp F H σ env F1 H1 (σ ++ vs.map some) (env1 ++ ws)) (l0 : env.length = X.N.length) (l1 : env1.length = X.N.length) (o : Out X.K fa XR W X.N.length (fun w => [w]) F H σ env (callD G f ws env1) (fun _ vs H' => ∃ v, vs = [v] ∧ Q v H')) :
    spF X.K fa XR G.den f md vs H1 Q (WE W σ) := by
  unfold callD at o
  rw [hmd] at o
  simp only [Res.of_some, Res.bind_ok] at o
  obtain ⟨as, ha, o⟩ := Out.of o
  by_cases nd : (borrows ws).Nodup
  · rw [if_pos nd] at o
    obtain ⟨F', S', st', la, lv, hm, S0, fin⟩ := call_core S1 hn l1 ha nd
    have hst : Stp F H σ env F' H1 σ env1 := (st1.trans st').head (by omega) (by omega)
    refine ⟨F', as, la, lv, hm, S0, ?_⟩
    cases e : G.den f as with
    | bad => rw [e] at o; exact o.elim
    | exc x os =>
      rw [e] at o
      simp only at o
      intro F2 H2 cls d S2 st2 hx
      cases e2 : backF env1 ws os with
      | none => rw [e2] at o; exact o.elim
      | some env2 =>
        rw [e2] at o
        obtain ⟨S3, st3, l3⟩ := fin os env2 F2 H2 [] [] e2 (by simpa using S2) (by simpa using st2) rfl
        exact o F2 H2 cls d (by simpa using S3) (hst.trans (by simpa using st3)) hx
    | ok z =>
      obtain ⟨w, os⟩ := z
      rw [e] at o
      have main : ∀ (hw : Out X.K fa XR W X.N.length (fun w => [w]) F H σ env ((Res.of (backF env1 ws os)).bind fun env => .ok (w, env)) (fun _ vs H' => ∃ v, vs = [v] ∧ Q v H')) (v : V) (F2 H2 : Hp),
          Sim X.K fa 0 F2 H2 (vs.map some ++ [some v]) (os ++ [w]) → Stp F' H1 (vs.map some) as F2 H2 (vs.map some ++ [some v]) (os ++ [w]) → Q v H2 := fun hw v F2 H2 S2 st2 => by
        obtain ⟨env2, e2, hw⟩ := Out.of hw
        obtain ⟨S3, st3, l3⟩ := fin os env2 F2 H2 [some v] [w] e2 S2 st2 rfl
        obtain ⟨v', e', q⟩ := hw [v] F2 H2 S3 (hst.trans st3) l3
        cases e'
        exact q
      intro v F2 H2 S2 st2 _
      cases w with
      | val u => exact main o v F2 H2 S2 st2
      | own u p =>
        cases p with
        | false => exact main o v F2 H2 S2 st2
        | true => exact o.elim
      | emp => exact o.elim
      | bor _ => exact o.elim
  · rw [if_neg nd] at o
    exact o.elim
theorem pe_callS0 {X : Cx} {CX : CXT} {f : Addr} {fd : FuncData} {ps : List Str} {sp : Sp} {E : L2.St → XK} {x : Str} {p pos : Pos} (F : FnOk X.prog X.w X.K X.mg X.base CX k f fd ps sp) (hr : Room k X.A) (hg : Gl X x) (hm : X.mg x = some (.ref f)) (hk : PySem.W.keepIn X.K (.ref f) = true) (hb : Binds X.K fd ps []) (hx : ∀ σ, PassesAt CX X σ (E σ))
    (hdb : (x == ("__debug__" : Str)) = false) : PE X (.Call (.Name x p) [] [] pos) (tCallS sp E tNil) := by
  refine ⟨fun pins s σ H Q I h => ?_⟩
  refine wpAny_Call_Name_kw (ld_glob I hg hm ?_ hdb)
  exact PySem.W.callWith_K0 I.kIn hk (run_fnS (us := []) F hr hb (hx σ) I .nil h)
theorem ok_call {f : Nat} {es : E} (h : OkL T G fa XR k es) : OkE T G fa XR k (.call f es) := fun X W A ex hc => by
  cases ex <;> first | (simp [chkE] at hc; done) | skip
  rename_i g xs ks p
  cases g <;> first | (simp [chkE] at hc; done) | skip
  rename_i x q
  cases ks <;> first | (simp [chkE] at hc; done) | skip
  simp only [chkE, Bool.and_eq_true] at hc
  obtain ⟨h1, h3⟩ := hc
  split at h1
  · rename_i y hy
    obtain ⟨rfl, g1, g2, g3⟩ := globB_of h1
    obtain ⟨fad, md, q1, q2, q3⟩ := A.fns f _ hy
    obtain ⟨fd, ps, hk, hb, hF⟩ := A.ok f fad q1 md q3
    have fin : ∀ (t : TA), PE X (.Call (.Name x q) xs [] p) (tCallS (spF X.K fa XR G.den f md) (WE W) t) → (∀ σ H Q, tEvL G fa XR W X es σ H Q → t σ H Q) → PE X (.Call (.Name x q) xs [] p) (tEv G fa XR W X (.call f es)) := fun t pe ht => by
      refine PE.imp pe fun σ H Q ⟨F, env, hn, S, o⟩ => ?_
      simp only [evE] at o
      refine ht _ _ _ ?_
      obtain ⟨F0, env0, h0, S0, o0⟩ := evl hn S (.refl _ _ _ _) o
      refine ⟨F0, env0, h0, S0, o0.imp fun _ vs H1 ⟨F1, env1, ws, e1, S1, st1, l1⟩ => ?_⟩
      simp only [e1, Res.bind_ok] at o
      exact call_out hn q3 S1 st1 (S.len.symm.trans hn) l1 o
    cases xs with
    | nil =>
      have hes : es = .nil := by cases es <;> first | rfl | (simp [chkL] at h3)
      subst hes
      refine fin _ (pe_callS0 hF A.room g1 q2 hk hb (fun σ => passAt A.takes σ) g2) fun σ H Q ⟨F, env, hn, S, o⟩ => ?_
      exact o [] F H (by simpa using S) (by simpa using Stp.refl _ _ _ _) (S.len.symm.trans hn)
    | cons z zs =>
      have hp : plainB z = true := by
        cases es <;> first | (simp [chkL] at h3; done) | (simp only [chkL, Bool.and_eq_true] at h3; exact h3.1.2)
      have hpl : (backTo p (starEach zs X.env)).any (·.1) = false := by
        have := chkL_plain es (env := X.env) (pos := p) h3
        rw [star_cons hp] at this
        simpa [backTo] using this
      exact fin _ (pe_callS hF A.room g1 q2 hk hb (fun σ => passAt A.takes σ) (h X W A _ h3) g2 (star_cons hp) hpl) fun _ _ _ q => q
  · cases h1

def tCV (X : Cx) (W : WX) (k i : Nat) (t : TA) : TE := fun σ H Q => ∃ f fd ps sp, FnOk X.prog X.w X.K X.mg X.base (L2.CX X.prog X.w) k f fd ps sp ∧ PySem.W.keepIn X.K (.ref f) = true ∧ Binds X.K fd ps [] ∧ σ[i]? = some (some (.ref f)) ∧ t σ H fun vs H1 => sp vs H1 Q (WE W σ)
theorem pe_cv {X : Cx} {W : WX} {i : Nat} {x : Str} {p pos : Pos} {e : Expr} {es : List Expr} {t : TA} (hr : Room k X.A) (tk : Takes X W) (hN : X.N[i]? = some x) (hv : Vis X.env.scope x) (ha : PA X (e :: es) t) (hdb : (x == ("__debug__" : Str)) = false) (hcd : (x == ("__classdict__" : Str)) = false)
    (he : starEach (e :: es) X.env = (false, eval e X.env) :: starEach es X.env) (hpl : (backTo pos (starEach es X.env)).any (·.1) = false) : PE X (.Call (.Name x p) (e :: es) [] pos) (tCV X W k i t) := by
  refine ⟨fun pins s σ H Q I h => ?_⟩
  obtain ⟨f, fd, ps, sp, F, hk, hb, hs, ht⟩ := h
  refine wpAny_Call_Name_kw (thn ((pe_var (pos := p) hN hv hdb hcd).run pins s σ H (fun v H1 => v = .ref f ∧ H1 = H) I ⟨.ref f, hs, rfl, rfl⟩) fun u s1 ⟨v, H1, I1, r1, q1⟩ => ?_)
  obtain ⟨rfl, rfl⟩ := q1
  cases r1
  refine PySem.W.callWith_K (h₀ := X.base) I.ok.mod.kin hk (thn (ha.run pos pins s1 σ _ _ I1 ht) fun us s2 ⟨vs, H2, I2, r, q⟩ => ⟨I2.kIn, ?_⟩) he hpl
  exact run_fnS F hr hb (passAt tk σ) I2 r q
theorem pe_cv0 {X : Cx} {W : WX} {i : Nat} {x : Str} {p pos : Pos} (hr : Room k X.A) (tk : Takes X W) (hN : X.N[i]? = some x) (hv : Vis X.env.scope x) (hdb : (x == ("__debug__" : Str)) = false) (hcd : (x == ("__classdict__" : Str)) = false) :
    PE X (.Call (.Name x p) [] [] pos) (tCV X W k i tNil) := by
  refine ⟨fun pins s σ H Q I h => ?_⟩
  obtain ⟨f, fd, ps, sp, F, hk, hb, hs, ht⟩ := h
  refine wpAny_Call_Name_kw (thn ((pe_var (pos := p) hN hv hdb hcd).run pins s σ H (fun v H1 => v = .ref f ∧ H1 = H) I ⟨.ref f, hs, rfl, rfl⟩) fun u s1 ⟨v, H1, I1, r1, q1⟩ => ?_)
  obtain ⟨rfl, rfl⟩ := q1
  cases r1
  exact PySem.W.callWith_K0 I1.kIn hk (run_fnS (us := []) F hr hb (passAt tk σ) I1 .nil ht)
theorem ok_cvar {i : Nat} {es : E} (h : OkL T G fa XR k es) : OkE T G fa XR k (.cvar i es) := fun X W A ex hc => by
  cases ex <;> first | (simp [chkE] at hc; done) | skip
  rename_i g xs ks p
  cases g <;> first | (simp [chkE] at hc; done) | skip
  rename_i x q
  cases ks <;> first | (simp [chkE] at hc; done) | skip
  simp only [chkE, Bool.and_eq_true] at hc
  obtain ⟨h1, h3⟩ := hc
  obtain ⟨g1, g2, g3, g4⟩ := nameB_of h1
  have fin : ∀ (t : TA), PE X (.Call (.Name x q) xs [] p) (tCV X W k i t) → (∀ σ H Q, tEvL G fa XR W X es σ H Q → t σ H Q) → PE X (.Call (.Name x q) xs [] p) (tEv G fa XR W X (.cvar i es)) := fun t pe ht => by
    refine PE.imp pe fun σ H Q ⟨F, env, hn, S, o⟩ => ?_
    simp only [evE] at o
    split at o
    · rename_i f e0
      obtain ⟨v, r1, r2⟩ := S.slot i _ e0
      cases r2
      rename_i fad hfa
      obtain ⟨md, hmd⟩ := A.md f fad hfa
      · obtain ⟨fd, ps, hk, hb, hF⟩ := A.ok f fad hfa md hmd
        refine ⟨fad, fd, ps, _, hF, hk, hb, r1, ht _ _ _ ?_⟩
        obtain ⟨F0, env0, h0, S0, o0⟩ := evl hn S (.refl _ _ _ _) o
        refine ⟨F0, env0, h0, S0, o0.imp fun _ vs H1 ⟨F1, env1, ws, e1, S1, st1, l1⟩ => ?_⟩
        simp only [e1, Res.bind_ok] at o
        exact call_out hn hmd S1 st1 (S.len.symm.trans hn) l1 o
    · exact o.elim
  cases xs with
  | nil =>
    have hes : es = .nil := by cases es <;> first | rfl | (simp [chkL] at h3)
    subst hes
    refine fin _ (pe_cv0 A.room A.takes g1 g2 g3 g4) fun σ H Q ⟨F, env, hn, S, o⟩ => ?_
    exact o [] F H (by simpa using S) (by simpa using Stp.refl _ _ _ _) (S.len.symm.trans hn)
  | cons z zs =>
    have hp : plainB z = true := by
      cases es <;> first | (simp [chkL] at h3; done) | (simp only [chkL, Bool.and_eq_true] at h3; exact h3.1.2)
    have hpl : (backTo p (starEach zs X.env)).any (·.1) = false := by
      have := chkL_plain es (env := X.env) (pos := p) h3
      rw [star_cons hp] at this
      simpa [backTo] using this
    exact fin _ (pe_cv A.room A.takes g1 g2 (h X W A _ h3) g3 g4 (star_cons hp) hpl) fun _ _ _ q => q
end
end PF
end
section
set_option Elab.async false
set_option autoImplicit false
set_option linter.all false
set_option maxRecDepth 100000
namespace PF
open PySem PySem.Spec PyProof.Rows L2

set_option maxHeartbeats 1000000 in
theorem meets_enumerate_new1 {v : Value} {o : Obj} {H : Heap → Prop} (B : Begins v o H) :
    Meets (Builtin.«enumerate.__new__» ⟨[.type "enumerate", v], []⟩) (fun _ R s => H s.heap ∧
      R (.ok (.ret (.ref (s.heap.push o).objs.size))) { s with heap := (s.heap.push o).push { cls := .type "enumerate", data := .fields #[.none, .bool false, .ref s.heap.objs.size, rawInt 0, .none, .none] } }) :=
  .of_wp fun prog w A R s h => by
    obtain ⟨hp, g, d, tk, os⟩ := s; obtain ⟨h1, h⟩ := h
    have hsub := sub_enumerate
    have q1 : ∀ {A' : Around} {E : Value → Shared → Prop} {Q : Value → Shared → Prop}, Q (.ref hp.objs.size) ⟨hp.push o, g, d, tk, os⟩ → wpAny (model prog w) A' (pyIter v) Q E ⟨hp, g, d, tk, os⟩ :=
      fun q => B.iter prog w _ _ ⟨hp, g, d, tk, os⟩ _ h1 q
    wp_walk using q1
    refine wpAny_stack_any fun st => wpAny_pure ?_
    split
    · rename_i c _ _ _ _ _
      cases (c == Value.type "enumerate")
      · wp_walk using q1
        exact ⟨_, rfl, h⟩
      · wp_walk using q1
        exact ⟨_, rfl, h⟩
    · wp_walk using q1
      exact ⟨_, rfl, h⟩
section
variable {prog : Program} {w : World} {A : Around} {E : Value → Shared → Prop} {s : Shared}
theorem enum_begins1 {v : Value} {o : Obj} {H : Heap → Prop} {Q : Value → Shared → Prop} (B : Begins v o H) (h1 : H s.heap)
    (h : ∀ h', IsEnum h' (s.heap.objs.size + 1) s.heap.objs.size 0 .none → h'.get? s.heap.objs.size = some o → h'.objs.size = s.heap.objs.size + 2 →
      (∀ b o, s.heap.get? b = some o → h'.get? b = some o) → Q (.ref (s.heap.objs.size + 1)) { s with heap := h' }) :
    wpAny (model prog w) A (call (.type "enumerate") [v]) Q E s := by
  refine callType_new F.called_enumerate (by decide) (F.typeCall_enumerate_1 _) (F.newCall_enumerate_1 _) (fun obj => F.args_object_init_2 obj _) F.entry_enumerate_new
    (meets_enumerate_new1 B) ⟨h1, ?_⟩
  have hz : (s.heap.push o).objs.size = s.heap.objs.size + 1 := Heap.size_push ..
  show _ ∧ _
  rw [hz]
  have he : IsEnum ((s.heap.push o).push { cls := .type "enumerate", data := .fields #[.none, .bool false, .ref s.heap.objs.size, rawInt 0, .none, .none] }) (s.heap.objs.size + 1) s.heap.objs.size 0 .none := by
    have := Heap.get?_push_size (s.heap.push o) (o := { cls := .type "enumerate", data := .fields #[.none, .bool false, .ref s.heap.objs.size, rawInt 0, .none, .none] }) rfl
    rw [hz] at this; exact this
  refine ⟨⟨_, he, rfl⟩, h _ he (Heap.get?_push_of_some _ (Heap.get?_push_size _ B.free)) (by rw [Heap.size_push, hz]) fun b o x => Heap.get?_push_of_some _ (Heap.get?_push_of_some _ x)⟩
end

section
variable {prog : Program} {w : World} {A : Around} {E : Value → Shared → Prop} {s : Shared}
theorem enum_endT {e it t : Addr} {items : Array Value} {n : Nat} {i : Int} {old : Value} {Q : Option Value → Shared → Prop}
    (hh : A.handled = none) (he : IsEnum s.heap e it i old) (hit : s.heap.IsTupleIter it t n) (ht : s.heap.IsTuple t items) (hn : items[n]? = none)
    (hQ : ∀ h', Heap.ExtBut it s.heap h' → Q none { s with heap := h' }) : wpAny (model prog w) A (pyNext (.ref e)) Q E s := by
  have hT : s.TypeIs (.ref e) "enumerate" := ⟨_, he, rfl⟩
  unfold pyNext
  refine wpAny_bind (wpAny_attempt (wpAny_callSpecial?_slot (name := Str.ofString "__next__") hT F.slot_enumerate_next
    (wpAny_call_entry F.slot_enumerate_next hT F.entry_enumerate_next ?_ (F.args_enumerate_next_1 _))))
  show wpAny _ _ (field (.ref e) 2 >>= _) _ _ _
  refine wpAny_bind (wpAny_field he rfl (x := .ref it) rfl ?_)
  refine wpAny_bind (wpAny_nextOf_tuple_end hh hit ht hn fun h' x he' hx' => ?_)
  obtain ⟨o, ho, hc⟩ := hx'
  refine wpAny_bind (wpAny_isInstance (T := "StopIteration") (b := true) ⟨o, ho, hc⟩ isSubtype_stop ?_)
  exact wpAny_pure (hQ _ he')
end
/-- the tuple at a, each item in a new pair -/
def IteT (K : PySem.W.Frag) (a : Addr) : It :=
  ⟨fun i H => ∃ (xs : List V) (x : V), SqT K H a xs ∧ xs[i]? = some x, fun i H v H' => ∃ T x, v = .ref T ∧ H T = none ∧ H' = upd H T (.tup [.int (i : Nat), x]) ∧ ∀ xs, SqT K H a xs → xs[i]? = some x, fun i H => ∃ xs : List V, SqT K H a xs ∧ xs.length ≤ i⟩
theorem turn_enumT {P : Program} {w : World} {K : PySem.W.Frag} {elts : List Expr} {kk : Nat} {tpos : Pos} (a e it : Addr) :
    Turn P w K (.Tuple elts kk tpos) (IteT K a) [e, it] e (fun i h => (∃ old, IsEnum h e it ((i : Nat) : Int) old) ∧ h.IsTupleIter it a i ∧ e ≠ it ∧ a ≠ it ∧ a ≠ e) where
  mem := by simp
  obj := fun i h st b hb => by
    obtain ⟨⟨old, he⟩, ⟨o, ho, hc, hd⟩, _⟩ := st
    have e' : b = e ∨ b = it := by simpa using hb
    rcases e' with z | z
    · rw [z]; exact ⟨_, he, fun v q => nomatch q⟩
    · rw [z]; exact ⟨o, ho, fun v q => by rw [hd] at q; cases q⟩
  keep := fun i h h' st k => let ⟨⟨old, he⟩, hi, hne⟩ := st; ⟨⟨old, k e (by simp) _ he⟩, hi.at fun o q => k it (by simp) o q, hne⟩
  item := by
    intro X hP hw hK hc i pins s σ H E I hf st hg
    subst hP hw hK
    obtain ⟨⟨old, he⟩, hit, hne, hai, hae⟩ := st
    obtain ⟨xs, x, hq, hx⟩ := hg
    obtain ⟨its, rv, p, hz⟩ := I.tuple hq
    obtain ⟨u, hu, ru⟩ := rv.get hx
    have hel : e < s.heap.objs.size := Heap.lt_size he
    have hil : it < s.heap.objs.size := by obtain ⟨_, q, _⟩ := hit; exact Heap.lt_size q
    refine wpAny_pyNext_enum_itemD (Draws.tuple (by exact (I.ok.hd hc)) it a hai its.toArray) he ⟨hit, show s.heap.IsTuple a its.toArray from p⟩ (i := i) (by have := ltOf hx; have := rv.length; simp; omega) hne (by simp [hne, Ne.symm hae]) fun x' h' tk hx' ho hst' hT hsz hk => ?_
    have ex : x' = u := by
      have q : its.toArray[i]? = some u := by simpa using hu
      rw [q] at hx'
      exact (Option.some.inj hx').symm
    subst ex
    refine ⟨_, rfl, wpAny_letOwnedTupleGo_enum (s := { s with heap := h', toks := tk + 1 }) ho fun h'' he' sb => ?_⟩
    have hT2 : h''.get? s.heap.objs.size = some { cls := .type "tuple", data := .seq #[.int i tk, x'] } := (sb.2 _ (Nat.ne_of_gt hel)).trans hT
    have new : ObjOk X.prog X.w (upd H s.heap.objs.size (.tup [.int (i : Nat), x])) h'' s.heap.objs.size (.tup [.int (i : Nat), x]) :=
      ⟨by show 2 ≤ sizeLine; decide, [.int i tk, x'], .cons ⟨_, rfl⟩ (.cons ru .nil), ⟨_, hT2, rfl, _, rfl⟩⟩
    have I1 : Inv X pins σ (upd H s.heap.objs.size (.tup [.int (i : Nat), x])) { s with heap := h'', toks := tk + 1 } :=
      I.turnedNew (ch := [e, it]) (fun b ob hb q => (sb.2 b (fun z => hb (by simp [z]))).trans (hk b ob (fun z => hb (by simp [z])) (fun z => hb (by simp [z])) q)) hf (Nat.le_refl _) new
    refine ⟨.ref s.heap.objs.size, _, I1, rfl, ⟨_, x, rfl, I.hok.fresh (Nat.le_refl _), rfl, fun ys hy => by rw [I.tuple_inj hy hq]; exact hx⟩, ⟨⟨x', ?_⟩, hst'.1.at fun o q => (sb.2 it (Ne.symm hne)).trans q, hne, hai, hae⟩, fun b hb => ?_⟩
    · have e1 : ((i + 1 : Nat) : Int) = (i : Int) + 1 := by omega
      rw [e1]; exact he'
    · have hb' : b < s.heap.objs.size := by
        have e' : b = e ∨ b = it := by simpa using hb
        rcases e' with z | z
        · rw [z]; exact hel
        · rw [z]; exact hil
      rw [upd_ne (Nat.ne_of_lt hb')]
      exact (hf b hb).1
  done := by
    intro X hP hw hK hc i pins s σ H E I hf st hg
    subst hP hw hK
    obtain ⟨⟨old, he⟩, hit, hne, hai, hae⟩ := st
    obtain ⟨xs, hq, hx⟩ := hg
    obtain ⟨its, rv, p, hz⟩ := I.tuple hq
    obtain ⟨f0, f1, f2, f3, f4, f5⟩ := hf it (by simp)
    have hl := rv.length
    have hp := Heap.lt_size he
    -- at the end: the iterator is spent
    refine enum_endT (I.ok.hd hc) he hit (show s.heap.IsTuple a its.toArray from p) (by simp; omega) fun h' eb => ⟨rfl, I.turned (t' := s.toks) (fun b o hb q => eb b o hb q) f0 f1 f3 f4 f5⟩
  self := fun A i s Q E st h => let ⟨⟨_, he⟩, _⟩ := st; wpAny_pyIter_enum he h
def iEnumA (K : PySem.W.Frag) (ta : TA) : TI := fun σ H R => ta σ H fun vs H1 => ∃ a xs, vs = [.ref a] ∧ ((SqL K H1 a xs ∧ R (Ite K a) H1) ∨ (SqT K H1 a xs ∧ R (IteT K a) H1))
theorem pi_enumA {X : Cx} {e : Expr} {ta : TA} {p pos tpos : Pos} {elts : List Expr} {kk : Nat} (hg : Gl X "enumerate") (hm : X.mg "enumerate" = none) (ha : PA X [e] ta) (hs : starEach [e] X.env = [(false, eval e X.env)] := by rfl) :
    PI X (.Tuple elts kk tpos) (.Call (.Name "enumerate" p) [e] [] pos) (iEnumA X.K ta) := by
  refine ⟨fun pins s σ H R I h => ?_⟩
  refine Call_ (ld_blt I hg hm boot_enumerate (PyProof.Rows.callWith_type1 (thn (ha.run pos pins s σ H _ I h) fun us s1 ⟨vs, H1, I1, r1, q1⟩ => ?_) hs rfl))
  obtain ⟨a, xs, ex, q1⟩ := q1
  subst ex
  cases r1 with
  | cons r rr =>
    cases rr
    cases r
    have fresh2 : ∀ b ∈ [s1.heap.objs.size + 1, s1.heap.objs.size], FpOk X pins H1 b := fun b hb => by
      have hle : s1.heap.objs.size ≤ b := by
        have e' : b = s1.heap.objs.size + 1 ∨ b = s1.heap.objs.size := by simpa using hb
        rcases e' with z | z
        · rw [z]; exact Nat.le_add_right _ _
        · rw [z]; exact Nat.le_refl _
      exact I1.fpOk hle (I1.hok.fresh hle)
    rcases q1 with ⟨hq, q⟩ | ⟨hq, q⟩
    · obtain ⟨its, rv, p', hz⟩ := I1.list hq
      refine call_enumerate_list p'.isList fun h' he hit hsz hk => wpAny_pyIter_enum he ?_
      have I2 : Inv X pins σ H1 { s1 with heap := h' } := I1.kept (t' := s1.toks) hk
      exact ⟨s1.heap.objs.size + 1, [s1.heap.objs.size + 1, s1.heap.objs.size], _, _, H1, rfl, I2, turn_enum a (s1.heap.objs.size + 1) s1.heap.objs.size, ⟨⟨.none, he⟩, hit, Nat.succ_ne_self _⟩, fresh2, q⟩
    · obtain ⟨its, rv, p', hz⟩ := I1.tuple hq
      have ht : s1.heap.IsTuple a its.toArray := p'
      have hal : a < s1.heap.objs.size := by obtain ⟨_, q, _⟩ := p'; exact Heap.lt_size q
      refine enum_begins1 (begins_tuple a its.toArray) ht fun h' he hit hsz hk => wpAny_pyIter_enum he ?_
      have I2 : Inv X pins σ H1 { s1 with heap := h' } := I1.kept (t' := s1.toks) hk
      exact ⟨s1.heap.objs.size + 1, [s1.heap.objs.size + 1, s1.heap.objs.size], _, _, H1, rfl, I2, turn_enumT a (s1.heap.objs.size + 1) s1.heap.objs.size, ⟨⟨.none, he⟩, ⟨_, hit, rfl, rfl⟩, Nat.succ_ne_self _, Nat.ne_of_lt hal, Nat.ne_of_lt (Nat.lt_succ_of_lt hal)⟩, fresh2, q⟩
end PF
end
section
set_option Elab.async false
set_option autoImplicit false
set_option linter.all false
set_option maxRecDepth 100000
namespace PF
open PySem PySem.Spec PyProof.Rows L2

/-- what an iterator yields, turn by turn, while what is frozen stays -/
def ItOk (K : PySem.W.Frag) (fa : FA) (J : It) (us : List U) (F : Hp) : Prop := ∀ (i : Nat) (F1 H1 : Hp), Sub F F1 → Sub F1 H1 →
  (∀ u, us[i]? = some u → J.go i H1 ∧ ∀ x H', J.yld i H1 x H' → ∃ F', OpPost K fa F1 H1 (.val u) x F' H') ∧ (us.length ≤ i → J.stop i H1)
section
variable {K : PySem.W.Frag} {fa : FA} {F : Hp}
theorem it_list {a : Addr} {vs : List V} {us : List U} (h : F a = some (.lst vs)) (r : RepAll K fa F vs us) : ItOk K fa (Itl K a) us F := fun i F1 H1 s1 s2 => by
  have q : SqL K H1 a vs := .of (s2 _ _ (s1 _ _ h))
  refine ⟨fun u hu => ?_, fun hi => ⟨vs, q, by have := r.length; omega⟩⟩
  obtain ⟨v, h1, h2⟩ := r.get hu
  refine ⟨⟨vs, v, q, h1⟩, fun x H' ⟨e, y⟩ => ?_⟩
  subst e
  have := y vs q
  rw [h1] at this
  cases this
  exact ⟨F1, .val s2 (h2.sub s1)⟩
theorem it_tup {a : Addr} {vs : List V} {us : List U} (h : SqT K F a vs) (r : RepAll K fa F vs us) : ItOk K fa (Itt K a) us F := fun i F1 H1 s1 s2 => by
  have q : SqT K H1 a vs := SqT.sub (s1.trans s2) h
  refine ⟨fun u hu => ?_, fun hi => ⟨vs, q, by have := r.length; omega⟩⟩
  obtain ⟨v, h1, h2⟩ := r.get hu
  refine ⟨⟨vs, v, q, h1⟩, fun x H' ⟨e, y⟩ => ?_⟩
  subst e
  have := y vs q
  rw [h1] at this
  cases this
  exact ⟨F1, .val s2 (h2.sub s1)⟩
theorem it_rng {i j : Int} : ItOk K fa (Itr i (j - i).toNat) (upU i j) F := fun k F1 H1 s1 s2 => by
  refine ⟨fun u hu => ?_, fun hi => by simp only [upU, List.length_map, List.length_range] at hi; exact hi⟩
  have hk := ltOf hu
  have hk' : k < (j - i).toNat := by simpa [upU] using hk
  simp only [upU, List.getElem?_map, List.getElem?_range hk', Option.map_some, Option.some.injEq] at hu
  subst hu
  refine ⟨hk', fun x H' ⟨e, y⟩ => ?_⟩
  subst e y
  exact ⟨F1, .val s2 (.int _)⟩
theorem it_rngC {i j : Int} : ItOk K fa (Itc i (-1) (i - j).toNat) (downU i j) F := fun k F1 H1 s1 s2 => by
  refine ⟨fun u hu => ?_, fun hi => by simp only [downU, List.length_map, List.length_range] at hi; exact hi⟩
  have hk := ltOf hu
  have hk' : k < (i - j).toNat := by simpa [downU] using hk
  simp only [downU, List.getElem?_map, List.getElem?_range hk', Option.map_some, Option.some.injEq] at hu
  subst hu
  refine ⟨hk', fun x H' ⟨e, y⟩ => ?_⟩
  subst e y
  exact ⟨F1, .val s2 (.int _)⟩
theorem enumU_get : ∀ {us : List U} {n i : Nat} {u : U}, (enumU n us)[i]? = some u → ∃ w, us[i]? = some w ∧ u = .tup [.int ((n + i : Nat) : Int), w]
  | [], n, i, u, h => by simp [enumU] at h
  | x :: r, n, 0, u, h => by simp [enumU] at h; subst h; exact ⟨x, rfl, rfl⟩
  | x :: r, n, i + 1, u, h => by
    obtain ⟨w, h1, h2⟩ := enumU_get (us := r) (n := n + 1) (i := i) (u := u) (by simpa [enumU] using h)
    exact ⟨w, by simpa using h1, by rw [h2, show n + 1 + i = n + (i + 1) by omega]⟩
theorem enumU_length : ∀ {us : List U} {n : Nat}, (enumU n us).length = us.length
  | [], _ => rfl
  | _ :: r, n => by simp [enumU, enumU_length (us := r)]
theorem it_enum {a : Addr} {vs : List V} {us : List U} (h : F a = some (.lst vs)) (r : RepAll K fa F vs us) : ItOk K fa (Ite K a) (enumU 0 us) F := fun i F1 H1 s1 s2 => by
  have q : SqL K H1 a vs := .of (s2 _ _ (s1 _ _ h))
  refine ⟨fun u hu => ?_, fun hi => ⟨vs, q, by have := r.length; rw [enumU_length] at hi; omega⟩⟩
  obtain ⟨w, hw, rfl⟩ := enumU_get hu
  obtain ⟨v, h1, h2⟩ := r.get hw
  refine ⟨⟨vs, v, q, h1⟩, fun x H' ⟨T, y, e1, e2, e3, e4⟩ => ?_⟩
  have := e4 vs q
  rw [h1] at this
  cases this
  subst e1 e3
  rw [Nat.zero_add]
  exact ⟨_, .tup s2 e2 (.cons (.int _) (.cons (h2.sub s1) .nil))⟩
theorem it_enumT {a : Addr} {vs : List V} {us : List U} (h : SqT K F a vs) (r : RepAll K fa F vs us) : ItOk K fa (IteT K a) (enumU 0 us) F := fun i F1 H1 s1 s2 => by
  have q : SqT K H1 a vs := SqT.sub (s1.trans s2) h
  refine ⟨fun u hu => ?_, fun hi => ⟨vs, q, by have := r.length; rw [enumU_length] at hi; omega⟩⟩
  obtain ⟨w, hw, rfl⟩ := enumU_get hu
  obtain ⟨v, h1, h2⟩ := r.get hw
  refine ⟨⟨vs, v, q, h1⟩, fun x H' ⟨T, y, e1, e2, e3, e4⟩ => ?_⟩
  have := e4 vs q
  rw [h1] at this
  cases this
  subst e1 e3
  rw [Nat.zero_add]
  exact ⟨_, .tup s2 e2 (.cons (.int _) (.cons (h2.sub s1) .nil))⟩
theorem zipU_get : ∀ {us ws : List U} {i : Nat} {u : U}, (zipU us ws)[i]? = some u → ∃ x y, us[i]? = some x ∧ ws[i]? = some y ∧ u = .tup [x, y]
  | [], _, i, u, h => by simp [zipU] at h
  | _ :: _, [], i, u, h => by simp [zipU] at h
  | x :: r, y :: t, 0, u, h => by simp [zipU] at h; subst h; exact ⟨x, y, rfl, rfl, rfl⟩
  | x :: r, y :: t, i + 1, u, h => by
    obtain ⟨a, b, h1, h2, h3⟩ := zipU_get (us := r) (ws := t) (i := i) (u := u) (by simpa [zipU] using h)
    exact ⟨a, b, by simpa using h1, by simpa using h2, h3⟩
theorem zipU_length : ∀ {us ws : List U}, (zipU us ws).length = min us.length ws.length
  | [], ws => by simp [zipU]
  | _ :: _, [] => by simp [zipU]
  | _ :: r, _ :: t => by simp [zipU, zipU_length (us := r) (ws := t)]
theorem it_zip {a b : Addr} {vs ys : List V} {us ws : List U} (h : F a = some (.lst vs)) (r : RepAll K fa F vs us) (h' : F b = some (.lst ys)) (r' : RepAll K fa F ys ws) : ItOk K fa (Itz K a b) (zipU us ws) F := fun i F1 H1 s1 s2 => by
  have q : SqL K H1 a vs := .of (s2 _ _ (s1 _ _ h))
  have q' : SqL K H1 b ys := .of (s2 _ _ (s1 _ _ h'))
  refine ⟨fun u hu => ?_, fun hi => ⟨vs, ys, q, q', by have := r.length; have := r'.length; rw [zipU_length] at hi; omega⟩⟩
  obtain ⟨w, w', hw, hw', rfl⟩ := zipU_get hu
  obtain ⟨v, h1, h2⟩ := r.get hw
  obtain ⟨v', h3, h4⟩ := r'.get hw'
  refine ⟨⟨vs, ys, v, v', q, q', h1, h3⟩, fun x H' ⟨T, y, y', e1, e2, e3, e4, e5⟩ => ?_⟩
  have z := e4 vs q
  rw [h1] at z
  cases z
  have z := e5 ys q'
  rw [h3] at z
  cases z
  subst e1 e3
  exact ⟨_, .tup s2 e2 (.cons (h2.sub s1) (.cons (h4.sub s1) .nil))⟩
theorem it_zipT {a b : Addr} {vs ys : List V} {us ws : List U} (h : SqT K F a vs) (r : RepAll K fa F vs us) (h' : SqT K F b ys) (r' : RepAll K fa F ys ws) : ItOk K fa (RZ.ItzT K a b) (zipU us ws) F := fun i F1 H1 s1 s2 => by
  have q : SqT K H1 a vs := SqT.sub (s1.trans s2) h
  have q' : SqT K H1 b ys := SqT.sub (s1.trans s2) h'
  refine ⟨fun u hu => ?_, fun hi => ⟨vs, ys, q, q', by have := r.length; have := r'.length; rw [zipU_length] at hi; omega⟩⟩
  obtain ⟨w, w', hw, hw', rfl⟩ := zipU_get hu
  obtain ⟨v, h1, h2⟩ := r.get hw
  obtain ⟨v', h3, h4⟩ := r'.get hw'
  refine ⟨⟨vs, ys, v, v', q, q', h1, h3⟩, fun x H' ⟨T, y, y', e1, e2, e3, e4, e5⟩ => ?_⟩
  have z := e4 vs q
  rw [h1] at z
  cases z
  have z := e5 ys q'
  rw [h3] at z
  cases z
  subst e1 e3
  exact ⟨_, .tup s2 e2 (.cons (h2.sub s1) (.cons (h4.sub s1) .nil))⟩
end

section
variable {K : PySem.W.Frag} {fa : FA} {XR : XRt} {W : WX} {n : Nat} {F F1 H H1 : Hp} {σ τ : L2.St} {env env1 : En}
def OutI (K : PySem.W.Frag) (fa : FA) (XR : XRt) (W : WX) (n : Nat) (F H : Hp) (σ : L2.St) (env : En) (r : Res (List U × En)) (R : It → Hp → Prop) : Prop := match r with
  | .ok (us, env') => ∀ J F' H', Sim K fa n F' H' σ env' → Stp F H σ env F' H' σ env' → env'.length = n → ItOk K fa J us F' → R J H'
  | .exc x env' => ∀ F' H' cls d, Sim K fa n F' H' σ env' → Stp F H σ env F' H' σ env' → XR F' H' x cls d → W cls d σ H'
  | .bad => False
theorem OutI.sub {α : Type} {sh : α → List Slot} {r : Res (α × En)} {k : α × En → Res (List U × En)} {R : It → Hp → Prop} (h : OutI K fa XR W n F H σ env (r.bind k) R) (st : Stp F H σ env F1 H1 σ env1) :
    Out K fa XR W n sh F1 H1 σ env1 r (fun a vs H' => ∃ F' env', r = .ok (a, env') ∧ Sim K fa n F' H' (σ ++ vs.map some) (env' ++ sh a) ∧ Stp F1 H1 σ env1 F' H' (σ ++ vs.map some) (env' ++ sh a) ∧ env'.length = n) := by
  cases r with
  | ok z => exact fun vs F' H' S' St hl => ⟨F', z.2, rfl, S', St, hl⟩
  | exc x e => exact fun F' H' cls d S St hx => h F' H' cls d S (st.trans St) hx
  | bad => exact h
theorem OutI.of {α : Type} {o : Option α} {k : α → Res (List U × En)} {R : It → Hp → Prop} (h : OutI K fa XR W n F H σ env ((Res.of o).bind k) R) : ∃ a, o = some a ∧ OutI K fa XR W n F H σ env (k a) R := by
  cases o with
  | none => exact h.elim
  | some a => exact ⟨a, rfl, h⟩
end
def tEvI (G : Gx) (fa : FA) (XR : XRt) (W : WX) (X : Cx) (e : E) : TI := fun σ H R => ∃ F env, σ.length = X.N.length ∧ Sim X.K fa X.N.length F H σ env ∧ OutI X.K fa XR W X.N.length F H σ env (evI G e env) R
def OkI (T : Tbl) (G : Gx) (fa : FA) (XR : XRt) (k : Nat) (e : E) : Prop := ∀ (X : Cx) (W : WX), Amb T G fa XR k W X → ∀ tg ex, chkI T X.N e X.env.scope tg ex = true → PI X tg ex (tEvI G fa XR W X e)
theorem PI.imp {X : Cx} {tg e : Expr} {t t' : TI} (h : PI X tg e t) (i : ∀ σ H R, t' σ H R → t σ H R) : PI X tg e t' := ⟨fun pins s σ H R I q => h.run pins s σ H R I (i σ H R q)⟩
def iSeq (K : PySem.W.Frag) (tl : TE) : TI := fun σ H R => tl σ H fun x H1 => ∃ a xs, x = .ref a ∧ ((SqL K H1 a xs ∧ R (Itl K a) H1) ∨ (SqT K H1 a xs ∧ R (Itt K a) H1))
theorem pi_seq {X : Cx} {tg l : Expr} {tl : TE} (hl : PE X l tl) : PI X tg l (iSeq X.K tl) := by
  refine ⟨fun pins s σ H R I h => ?_⟩
  refine thn (hl.run pins s σ H _ I h) fun v s1 ⟨x, H1, I1, r1, q1⟩ => ?_
  obtain ⟨a, xs, e, q⟩ := q1
  subst e
  cases r1
  rcases q with ⟨hq, q⟩ | ⟨hq, q⟩
  · obtain ⟨its, rv, p, hz⟩ := I1.list hq
    refine wpAny_pyIter_list p.isList ?_
    exact pi_one (tk := s1.toks) I1 _ (turn_list a _) ⟨_, Heap.get?_push_size _ rfl, rfl, rfl⟩ q
  · obtain ⟨its, rv, p, hz⟩ := I1.tuple hq
    refine wpAny_pyIter_tuple (show s1.heap.IsTuple a its.toArray from p) ?_
    exact pi_one (tk := s1.toks) I1 _ (turn_tuple a _) ⟨_, Heap.get?_push_size _ rfl, rfl, rfl⟩ q
section
variable {T : Tbl} {G : Gx} {fa : FA} {XR : XRt} {k : Nat} {W : WX} {X : Cx} {σ : L2.St} {H : Hp} {F : Hp} {env : En}
/-- the arguments, then what is walked -/
theorem evi {kk : ItK} {es : E} {R : It → Hp → Prop} (hn : σ.length = X.N.length) (S : Sim X.K fa X.N.length F H σ env) (o : OutI X.K fa XR W X.N.length F H σ env (evI G (.itr kk es) env) R) :
    tEvL G fa XR W X es σ H fun vs H1 => ∃ F2 us ys, RepAll X.K fa F2 vs us ∧ Sub F2 H1 ∧ itF kk us = some ys ∧ ∀ J, ItOk X.K fa J ys F2 → R J H1 := by
  simp only [evI] at o
  refine ⟨F, env, hn, S, (OutI.sub (sh := fun ws => ws) o (.refl _ _ _ _)).imp fun ws vs H1 ⟨F1, env1, e1, S1, st1, l1⟩ => ?_⟩
  rw [e1, Res.bind_ok] at o
  obtain ⟨us, e2, o⟩ := OutI.of o
  obtain ⟨ys, e3, o⟩ := OutI.of o
  obtain ⟨F2, S2, st2, r⟩ := freeze_side S1 (by omega) e2
  have hln := S.len
  exact ⟨F2, us, ys, r, S2.fr, e3, fun J hJ => o J F2 H1 (S2.head (by omega) (by omega)) ((st1.trans st2).head (by omega) (by omega)) l1 hJ⟩
theorem RepAll.one {K : PySem.W.Frag} {vs : List V} {u : U} (h : RepAll K fa F vs [u]) : ∃ v, vs = [v] ∧ Rep K fa F v u := by
  cases h with | cons r t => cases t; exact ⟨_, rfl, r⟩
theorem RepAll.two {K : PySem.W.Frag} {vs : List V} {u w : U} (h : RepAll K fa F vs [u, w]) : ∃ v v', vs = [v, v'] ∧ Rep K fa F v u ∧ Rep K fa F v' w := by
  cases h with | cons r t => obtain ⟨v', rfl, r'⟩ := RepAll.one t; exact ⟨_, _, rfl, r, r'⟩
theorem near_of {i : Int} (h : near i = true) : -(2 ^ 62) ≤ i ∧ i < 2 ^ 62 := by simpa [near] using h
theorem itF_plain {us ys : List U} (h : itF .plain us = some ys) : us = [.lst ys] ∨ us = [.tup ys] := by
  rcases us with _ | ⟨u, _ | ⟨_, _⟩⟩ <;> first | (simp [itF] at h; done) | skip
  cases u <;> simp [itF] at h <;> simp [h]
  all_goals (cases u <;> simp [itF] at h)
theorem itF_rng1 {us ys : List U} (h : itF .rng1 us = some ys) : ∃ j, us = [.int j] ∧ near j = true ∧ ys = upU 0 j := by
  rcases us with _ | ⟨u, _ | ⟨_, _⟩⟩ <;> first | (simp [itF] at h; done) | skip
  · cases u <;> first | (simp [itF] at h; done) | skip
    simp only [itF, Option.ite_none_right_eq_some, Option.some.injEq] at h
    exact ⟨_, rfl, h.1, h.2.symm⟩
theorem itF_rng2 {us ys : List U} (h : itF .rng2 us = some ys) : ∃ i j, us = [.int i, .int j] ∧ near i = true ∧ near j = true ∧ ys = upU i j := by
  rcases us with _ | ⟨u, _ | ⟨w, _ | ⟨_, _⟩⟩⟩ <;> first | (simp [itF] at h; done) | (cases u <;> simp [itF] at h; done) | skip
  · cases u <;> cases w <;> first | (simp [itF] at h; done) | skip
    simp only [itF, Option.ite_none_right_eq_some, Option.some.injEq, Bool.and_eq_true] at h
    exact ⟨_, _, rfl, h.1.1, h.1.2, h.2.symm⟩
theorem itF_rng3 {us ys : List U} (h : itF .rng3 us = some ys) : ∃ i j, us = [.int i, .int j, .int (-1)] ∧ near i = true ∧ near j = true ∧ ys = downU i j := by
  rcases us with _ | ⟨u, _ | ⟨w, _ | ⟨z, _ | ⟨_, _⟩⟩⟩⟩ <;> first | (simp [itF] at h; done) | (cases u <;> simp [itF] at h; done) | (cases u <;> cases w <;> simp [itF] at h; done) | skip
  · cases u <;> cases w <;> cases z <;> first | (simp [itF] at h; done) | skip
    simp only [itF, Option.ite_none_right_eq_some, Option.some.injEq, Bool.and_eq_true, beq_iff_eq] at h
    obtain ⟨⟨⟨h1, h2⟩, h3⟩, h4⟩ := h
    subst h3
    exact ⟨_, _, rfl, h1, h2, h4.symm⟩
theorem itF_enum {us ys : List U} (h : itF .enum us = some ys) : ∃ xs, (us = [.lst xs] ∨ us = [.tup xs]) ∧ ys = enumU 0 xs := by
  rcases us with _ | ⟨u, _ | ⟨_, _⟩⟩ <;> first | (simp [itF] at h; done) | skip
  · cases u <;> simp [itF] at h <;> exact ⟨_, by simp, h.symm⟩
theorem itF_zip {us ys : List U} (h : itF .zip us = some ys) : ∃ xs zs, (us = [.lst xs, .lst zs] ∨ us = [.tup xs, .tup zs]) ∧ ys = zipU xs zs := by
  rcases us with _ | ⟨u, _ | ⟨w, _ | ⟨_, _⟩⟩⟩ <;> first | (simp [itF] at h; done) | (cases u <;> simp [itF] at h; done) | skip
  · cases u <;> cases w <;> simp [itF] at h <;> exact ⟨_, _, by simp, h.symm⟩
theorem tupB_of {tg : Expr} (h : tupB tg = true) : ∃ a b c, tg = .Tuple a b c := by cases tg <;> first | exact ⟨_, _, _, rfl⟩ | cases h
theorem chkL_head {N : List Str} {es : E} {sc : Scope} {x : Expr} {xs : List Expr} (h : chkL T N es sc (x :: xs) = true) : plainB x = true ∧ ∃ r, chkL T N r sc xs = true := by
  cases es <;> first | (simp [chkL] at h; done) | skip
  simp only [chkL, Bool.and_eq_true] at h
  exact ⟨h.1.2, _, h.2⟩
theorem ok_itr_plain {e : E} (he : OkE T G fa XR k e) : OkI T G fa XR k (.itr .plain (.cons e .nil)) := fun X W A tg ex hc => by
  simp only [chkI] at hc
  refine PI.imp (pi_seq (he X W A ex hc)) fun σ H R ⟨F, env, hn, S, o⟩ => ?_
  simp only [evI, evL] at o
  cases e1 : evE G e env with
  | bad => rw [e1] at o; exact o.elim
  | exc x en =>
    rw [e1] at o
    exact ⟨F, env, hn, S, by rw [e1]; exact o⟩
  | ok z =>
    rw [e1] at o
    simp only [Res.bind_ok] at o
    obtain ⟨us, e2, o⟩ := OutI.of o
    obtain ⟨ys, e3, o⟩ := OutI.of o
    refine ⟨F, env, hn, S, ?_⟩
    rw [e1]
    intro vs F1 H1 S1 st1 l1
    obtain ⟨F2, S2, st2, r⟩ := freeze_side S1 (by omega) e2
    have hln := S.len
    have fin : ∀ J, ItOk X.K fa J ys F2 → R J H1 := fun J hJ => o J F2 H1 (S2.head (by omega) (by omega)) ((st1.trans st2).head (by omega) (by omega)) l1 hJ
    rcases itF_plain e3 with rfl | rfl
    · obtain ⟨v, rfl, r1⟩ := RepAll.one r
      cases r1 with
      | lst h1 h2 => exact ⟨_, rfl, _, _, rfl, .inl ⟨.of (S2.fr _ _ h1), fin _ (it_list h1 h2)⟩⟩
    · obtain ⟨v, rfl, r1⟩ := RepAll.one r
      cases r1 with
      | tup h1 h2 => exact ⟨_, rfl, _, _, rfl, .inr ⟨SqT.sub S2.fr h1, fin _ (it_tup h1 h2)⟩⟩
theorem glo {X : Cx} {x : Str} (h : X.env.scope.names.lookup x = some .globalImplicit) : Gl X x := h
/-- a call that makes an iterator: its kind and shape -/
theorem itr_shape {N : List Str} {sc : Scope} {tg ex : Expr} {kk : ItK} {es : E} (h : chkI T N (.itr kk es) sc tg ex = true) (hk : kk ≠ .plain) : ∃ x p args pos, ex = .Call (.Name x p) args [] pos ∧ itB T kk sc tg x args = true ∧ chkL T N es sc args = true := by
  cases ex <;> cases kk <;> first | exact (hk rfl).elim | (simp [chkI] at h; done) | skip
  all_goals
    rename_i f xs ks p
    cases f <;> cases ks <;> first | (simp [chkI] at h; done) | skip
    rename_i x q
    exact ⟨x, q, xs, p, rfl, by simpa only [chkI, Bool.and_eq_true] using h⟩
theorem itr_plain {N : List Str} {sc : Scope} {tg ex : Expr} {es : E} (h : chkI T N (.itr .plain es) sc tg ex = true) : ∃ e, es = .cons e .nil := by
  unfold chkI at h
  split at h
  · rename_i z; cases z; exact ⟨_, rfl⟩
  · rename_i z; cases z; simp [itB] at h
  · cases h
theorem itB_rng {sc : Scope} {tg : Expr} {x : Str} {args : List Expr} {kk : ItK} (hr : rngB kk = true) (h : itB T kk sc tg x args = true) : globB sc x "range" = true ∧ T.free.contains x = true ∧
    ((kk = .rng1 ∧ ∃ a, args = [a]) ∨ (kk = .rng2 ∧ ∃ a b, args = [a, b]) ∨ (kk = .rng3 ∧ ∃ a b c, args = [a, b, c])) := by
  cases kk <;> first | (cases hr; done) | skip
  all_goals
    rcases args with _ | ⟨a, _ | ⟨b, _ | ⟨c, _ | ⟨_, _⟩⟩⟩⟩ <;> first | (simp [itB] at h; done) | skip
    simp only [itB, Bool.and_eq_true] at h
    refine ⟨h.1, h.2, ?_⟩
    simp
theorem itB_pair {sc : Scope} {tg : Expr} {x : Str} {args : List Expr} {kk : ItK} (hr : rngB kk = false) (h : itB T kk sc tg x args = true) : (∃ a b c, tg = .Tuple a b c) ∧ T.free.contains x = true ∧
    ((kk = .enum ∧ globB sc x "enumerate" = true ∧ ∃ a, args = [a]) ∨ (kk = .zip ∧ globB sc x "zip" = true ∧ ∃ a b, args = [a, b])) := by
  cases kk <;> first | (cases hr; done) | (simp [itB] at h; done) | skip
  all_goals
    rcases args with _ | ⟨a, _ | ⟨b, _ | ⟨c, _⟩⟩⟩ <;> first | (simp [itB] at h; done) | skip
    simp only [itB, Bool.and_eq_true] at h
    refine ⟨tupB_of h.1.1, h.2, ?_⟩
    simp [h.1.2]
theorem ok_itr {kk : ItK} {es : E} (he : OkL T G fa XR k es) (hk : kk ≠ .plain) : OkI T G fa XR k (.itr kk es) := fun X W A tg ex hc => by
  obtain ⟨x, q, args, p, rfl, hi, h3⟩ := itr_shape hc hk
  cases hr : rngB kk with
  | true =>
    obtain ⟨h1, h2, h⟩ := itB_rng hr hi
    obtain ⟨rfl, g1, g2, g3⟩ := globB_of h1
    rcases h with ⟨rfl, a, rfl⟩ | ⟨rfl, a, b, rfl⟩ | ⟨rfl, a, b, c, rfl⟩
    · obtain ⟨p1, _⟩ := chkL_head h3
      refine PI.imp (pi_range1 (glo g1) (A.free _ h2) (he X W A _ h3) (by rw [star_cons p1]; rfl)) fun σ H R ⟨F, env, hn, S, o⟩ => ?_
      obtain ⟨F', env', q1, q2, q⟩ := evi hn S o
      refine ⟨F', env', q1, q2, q.imp fun _ vs H1 ⟨F2, us, ys, r, s, e, fin⟩ => ?_⟩
      obtain ⟨j, rfl, hj, rfl⟩ := itF_rng1 e
      obtain ⟨v, rfl, r1⟩ := RepAll.one r
      cases r1
      have := near_of hj
      exact ⟨j, rfl, this.1, this.2, fin _ (by have := it_rng (K := X.K) (fa := fa) (F := F2) (i := 0) (j := j); rwa [Int.sub_zero] at this)⟩
    · obtain ⟨p1, _, h4⟩ := chkL_head h3
      obtain ⟨p2, _⟩ := chkL_head h4
      refine PI.imp (pi_range2 (glo g1) (A.free _ h2) (he X W A _ h3) (by rw [star_cons p1, star_cons p2]; rfl) (by rw [star_cons p2]; rfl)) fun σ H R ⟨F, env, hn, S, o⟩ => ?_
      obtain ⟨F', env', q1, q2, q⟩ := evi hn S o
      refine ⟨F', env', q1, q2, q.imp fun _ vs H1 ⟨F2, us, ys, r, s, e, fin⟩ => ?_⟩
      obtain ⟨i, j, rfl, hi, hj, rfl⟩ := itF_rng2 e
      obtain ⟨v, v', rfl, r1, r2⟩ := RepAll.two r
      cases r1
      cases r2
      have n1 := near_of hi
      have n2 := near_of hj
      exact ⟨i, j, rfl, ⟨n1.1, n1.2, n2.1, n2.2⟩, fin _ it_rng⟩
    · obtain ⟨p1, _, h4⟩ := chkL_head h3
      have hpl := chkL_plain (pos := p) _ (env := X.env) h4
      refine PI.imp (pi_range3 (glo g1) (A.free _ h2) (he X W A _ h3) (star_cons p1) hpl) fun σ H R ⟨F, env, hn, S, o⟩ => ?_
      obtain ⟨F', env', q1, q2, q⟩ := evi hn S o
      refine ⟨F', env', q1, q2, q.imp fun _ vs H1 ⟨F2, us, ys, r, s, e, fin⟩ => ?_⟩
      obtain ⟨i, j, rfl, hi, hj, rfl⟩ := itF_rng3 e
      cases r with
      | cons r1 t =>
        obtain ⟨v, v', rfl, r2, r3⟩ := RepAll.two t
        cases r1
        cases r2
        cases r3
        have n1 := near_of hi
        have n2 := near_of hj
        exact ⟨i, j, -1, _, rfl, RgC.neg n1.1 n1.2 n2.1 n2.2, fin _ it_rngC⟩
  | false =>
    obtain ⟨⟨_, _, _, rfl⟩, h2, h⟩ := itB_pair hr hi
    rcases h with ⟨rfl, h1, a, rfl⟩ | ⟨rfl, h1, a, b, rfl⟩
    · obtain ⟨rfl, g1, g2, g3⟩ := globB_of h1
      obtain ⟨p1, _⟩ := chkL_head h3
      refine PI.imp (pi_enumA (glo g1) (A.free _ h2) (he X W A _ h3) (by rw [star_cons p1]; rfl)) fun σ H R ⟨F, env, hn, S, o⟩ => ?_
      obtain ⟨F', env', q1, q2, q⟩ := evi hn S o
      refine ⟨F', env', q1, q2, q.imp fun _ vs H1 ⟨F2, us, ys, r, s, e, fin⟩ => ?_⟩
      obtain ⟨xs, hu, rfl⟩ := itF_enum e
      rcases hu with rfl | rfl
      · obtain ⟨v, rfl, r1⟩ := RepAll.one r
        cases r1 with
        | lst h1 h2 => exact ⟨_, _, rfl, .inl ⟨.of (s _ _ h1), fin _ (it_enum h1 h2)⟩⟩
      · obtain ⟨v, rfl, r1⟩ := RepAll.one r
        cases r1 with
        | tup h1 h2 => exact ⟨_, _, rfl, .inr ⟨SqT.sub s h1, fin _ (it_enumT h1 h2)⟩⟩
    · obtain ⟨rfl, g1, g2, g3⟩ := globB_of h1
      obtain ⟨p1, _, h4⟩ := chkL_head h3
      have hpl := chkL_plain (pos := p) _ (env := X.env) h4
      refine PI.imp (RZ.pi_zipA (glo g1) (A.free _ h2) (he X W A _ h3) (star_cons p1) hpl) fun σ H R ⟨F, env, hn, S, o⟩ => ?_
      obtain ⟨F', env', q1, q2, q⟩ := evi hn S o
      refine ⟨F', env', q1, q2, q.imp fun _ vs H1 ⟨F2, us, ys, r, s, e, fin⟩ => ?_⟩
      obtain ⟨xs, zs, hu, rfl⟩ := itF_zip e
      rcases hu with rfl | rfl
      · obtain ⟨v, v', rfl, r1, r2⟩ := RepAll.two r
        cases r1 with
        | lst h1 h2 =>
          cases r2 with
          | lst h3 h4 => exact ⟨_, _, _, _, rfl, .inl ⟨.of (s _ _ h1), .of (s _ _ h3), fin _ (it_zip h1 h2 h3 h4)⟩⟩
      · obtain ⟨v, v', rfl, r1, r2⟩ := RepAll.two r
        cases r1 with
        | tup h1 h2 =>
          cases r2 with
          | tup h3 h4 => exact ⟨_, _, _, _, rfl, .inr ⟨SqT.sub s h1, SqT.sub s h3, fin _ (it_zipT h1 h2 h3 h4)⟩⟩
end
end PF
end
section
set_option Elab.async false
set_option autoImplicit false
set_option linter.all false
set_option maxRecDepth 100000
namespace PF
open PySem PySem.Spec PyProof.Rows L2

section
variable {X : Cx}
/-- an expression that makes a range -/
def PRgC (X : Cx) (e : Expr) (t : L2.St → Hp → (Int → Int → Int → Hp → Prop) → Prop) : Prop :=
  ∀ (pins : List (Addr × Obj)) (s : Shared) (σ : L2.St) (H : Hp) (Q : Int → Int → Int → Hp → Prop), Inv X pins σ H s → t σ H Q →
    wpAny (model X.prog X.w) X.A (eval e X.env) (fun x s' => ∃ r a b c t u v H', x = .ref r ∧ IsRange s'.heap r a b c t u v ∧ Inv X pins σ H' s' ∧ Q a b c H') X.xe s
def tRgA1 (ta : TA) : L2.St → Hp → (Int → Int → Int → Hp → Prop) → Prop := fun σ H Q => ta σ H fun vs H1 => ∃ j : Int, vs = [.int j] ∧ Q 0 j 1 H1
def tRgA2 (ta : TA) : L2.St → Hp → (Int → Int → Int → Hp → Prop) → Prop := fun σ H Q => ta σ H fun vs H1 => ∃ i j : Int, vs = [.int i, .int j] ∧ Q i j 1 H1
def tRgA3 (ta : TA) : L2.St → Hp → (Int → Int → Int → Hp → Prop) → Prop := fun σ H Q => ta σ H fun vs H1 => ∃ i j c : Int, vs = [.int i, .int j, .int c] ∧ c ≠ 0 ∧ c.natAbs < 1073741824 ∧ Q i j c H1
theorem prgC1 {a : Expr} {ta : TA} {p pos : Pos} (hg : Gl X "range") (hm : X.mg "range" = none) (ha : PA X [a] ta) (hs : starEach [a] X.env = [(false, eval a X.env)]) : PRgC X (.Call (.Name "range" p) [a] [] pos) (tRgA1 ta) := by
  intro pins s σ H R I h
  refine Call_ (ld_blt I hg hm boot_range (PyProof.Rows.callWith_type1 (thn (ha.run pos pins s σ H _ I h) fun us s1 ⟨vs, H1, I1, r1, q1⟩ => ?_) hs rfl))
  obtain ⟨j, e, q⟩ := q1
  subst e
  cases r1 with
  | cons r rr =>
    cases rr
    obtain ⟨t, rfl⟩ := r
    exact call_range_1 ⟨_, 0, j, 1, _, _, _, H1, rfl, IsRange.new _ _ _ _ _ _ _, I1.kept fun b u e => Heap.get?_push_of_some _ e, q⟩
theorem prgC2 {a b : Expr} {ta : TA} {p pos : Pos} (hg : Gl X "range") (hm : X.mg "range" = none) (ha : PA X [a, b] ta) (hs : starEach [a, b] X.env = (false, eval a X.env) :: starEach [b] X.env) (hpl : (backTo pos (starEach [b] X.env)).any (·.1) = false) :
    PRgC X (.Call (.Name "range" p) [a, b] [] pos) (tRgA2 ta) := by
  intro pins s σ H R I h
  refine Call_ (ld_blt I hg hm boot_range (PyProof.Rows.callWith_type1 (thn (ha.run pos pins s σ H _ I h) fun us s1 ⟨vs, H1, I1, r1, q1⟩ => ?_) hs hpl))
  obtain ⟨i, j, e, q⟩ := q1
  subst e
  cases r1 with
  | cons r rr =>
    cases rr with
    | cons r' rr =>
      cases rr
      obtain ⟨t, rfl⟩ := r
      obtain ⟨t', rfl⟩ := r'
      exact call_range_2 ⟨_, i, j, 1, _, _, _, H1, rfl, IsRange.new _ _ _ _ _ _ _, I1.kept fun b u e => Heap.get?_push_of_some _ e, q⟩
theorem prgC3 {a b c : Expr} {ta : TA} {p pos : Pos} (hg : Gl X "range") (hm : X.mg "range" = none) (ha : PA X [a, b, c] ta) (hs : starEach [a, b, c] X.env = (false, eval a X.env) :: starEach [b, c] X.env) (hpl : (backTo pos (starEach [b, c] X.env)).any (·.1) = false) :
    PRgC X (.Call (.Name "range" p) [a, b, c] [] pos) (tRgA3 ta) := by
  intro pins s σ H R I h
  refine Call_ (ld_blt I hg hm boot_range (PyProof.Rows.callWith_type1 (thn (ha.run pos pins s σ H _ I h) fun us s1 ⟨vs, H1, I1, r1, q1⟩ => ?_) hs hpl))
  obtain ⟨i, j, k, e, c0, c1, q⟩ := q1
  subst e
  cases r1 with
  | cons r rr =>
    cases rr with
    | cons r' rr =>
      cases rr with
      | cons r'' rr =>
        cases rr
        obtain ⟨t, rfl⟩ := r
        obtain ⟨t', rfl⟩ := r'
        obtain ⟨t'', rfl⟩ := r''
        refine call_range_3 c0 ?_ (.inl (PyProof.noPylong_small c1))
        exact ⟨_, i, j, k, _, _, _, H1, rfl, IsRange.new _ _ _ _ _ _ _, I1.kept (t' := s1.toks) fun b o e => Heap.get?_push_of_some _ e, q⟩
def rgC (i c : Int) (n : Nat) : List V := (List.range n).map fun k => V.int (i + (k : Nat) * c)
def tLstC (te : L2.St → Hp → (Int → Int → Int → Hp → Prop) → Prop) : TE := fun σ H Q => te σ H fun i j c H1 => ∃ n, RgC i j c n ∧ n ≤ sizeLine ∧ ∀ q, H1 q = none → Q (.ref q) (upd H1 q (.lst (rgC i c n)))
theorem pe_listC {e : Expr} {te : L2.St → Hp → (Int → Int → Int → Hp → Prop) → Prop} {p pos : Pos} (hc : X.calm = true) (hg : Gl X "list") (hm : X.mg "list" = none) (he : PRgC X e te) (na : starEach [e] X.env = (false, eval e X.env) :: starEach [] X.env) : PE X (.Call (.Name "list" p) [e] [] pos) (tLstC te) := by
  refine ⟨fun pins s σ H Q I h => ?_⟩
  refine Call_ (ld_blt I hg hm boot_list (PyProof.Rows.callWith_type1 (args_cons (thn (he pins s σ H _ I h) fun x s1 ⟨r, a, b, c, t, u, v, H1, ex, hr, I1, n, ok, hn, q⟩ => args_nil ?_) na) na))
  subst ex
  obtain ⟨_, _, b4, b5⟩ := ok
  refine call_list_range (n := n) (I1.ok.hd hc) hr b4 b5 (by rw [sizeLine_eq] at hn; omega) fun h' tk acc c' hk e' hi => ?_
  have hv : Vals (rgC a c n) acc.toList := by
    have e : acc.toList.length = n := by rw [Array.length_toList]; exact hi.1
    unfold rgC
    rw [← e]
    exact vals_of_get acc.toList _ fun j u hj => hi.2 j u (by rw [← hj, Array.getElem?_toList])
  refine ⟨.ref s1.heap.objs.size, upd H1 s1.heap.objs.size (.lst (rgC a c n)), I1.laid hk (Nat.le_refl _) (show ObjOk X.prog X.w _ _ _ (.lst (rgC a c n)) from ⟨?_, acc.toList, c', hv, ?_⟩), rfl, q _ (I1.hok.fresh (Nat.le_refl _))⟩
  · unfold rgC; rw [List.length_map, List.length_range]; exact hn
  · rw [Array.toArray_toList]; exact e'
def tTupC (te : L2.St → Hp → (Int → Int → Int → Hp → Prop) → Prop) : TE := fun σ H Q => te σ H fun i j c H1 => ∃ n, RgC i j c n ∧ n ≤ sizeLine ∧ ∀ q, H1 q = none → Q (.ref q) (upd H1 q (.tup (rgC i c n)))
theorem pe_tupC {e : Expr} {te : L2.St → Hp → (Int → Int → Int → Hp → Prop) → Prop} {p pos : Pos} (hc : X.calm = true) (hg : Gl X "tuple") (hm : X.mg "tuple" = none) (he : PRgC X e te) (na : starEach [e] X.env = (false, eval e X.env) :: starEach [] X.env) : PE X (.Call (.Name "tuple" p) [e] [] pos) (tTupC te) := by
  refine ⟨fun pins s σ H Q I h => ?_⟩
  refine Call_ (ld_blt I hg hm boot_tuple (PyProof.Rows.callWith_type1 (args_cons (thn (he pins s σ H _ I h) fun x s1 ⟨r, a, b, c, t, u, v, H1, ex, hr, I1, n, ok, hn, q⟩ => args_nil ?_) na) na))
  subst ex
  obtain ⟨_, _, b4, b5⟩ := ok
  refine call_tuple_range (n := n) (I1.ok.hd hc) hr b4 b5 (by rw [sizeLine_eq] at hn; omega) fun h' tk acc hk hi => ?_
  have hv : Vals (rgC a c n) acc.toList := by
    have e : acc.toList.length = n := by rw [Array.length_toList]; exact hi.1
    unfold rgC
    rw [← e]
    exact vals_of_get acc.toList _ fun j u hj => hi.2 j u (by rw [← hj, Array.getElem?_toList])
  have I2 : Inv X pins σ H1 { s1 with heap := h', toks := tk } := I1.kept hk
  refine ⟨.ref h'.objs.size, upd H1 h'.objs.size (.tup (rgC a c n)), I2.laid (t' := tk) (fun c o e => Heap.get?_push_of_some _ e) (Nat.le_refl _) (show ObjOk X.prog X.w _ _ _ (.tup (rgC a c n)) from ⟨?_, acc.toList, hv, ?_⟩), rfl, q _ (I2.hok.fresh (Nat.le_refl _))⟩
  · show (rgC a c n).length ≤ sizeLine; unfold rgC; rw [List.length_map, List.length_range]; exact hn
  · rw [Array.toArray_toList]; exact IsTup.new _ _
end
section
variable {T : Tbl} {G : Gx} {fa : FA} {XR : XRt} {k : Nat} {W : WX} {X : Cx} {σ : L2.St} {H : Hp} {F : Hp} {env : En}
theorem RepAll.of_rg {K : PySem.W.Frag} {i c : Int} : ∀ {n : Nat}, RepAll K fa F (rgC i c n) ((List.range n).map fun (k : Nat) => U.int (i + (k : Int) * c)) := fun {n} => by
  unfold rgC
  generalize List.range n = l
  induction l with
  | nil => exact .nil
  | cons x r ih => exact .cons (.int _) ih
theorem upU_eq (i j : Int) : upU i j = (List.range (j - i).toNat).map fun (k : Nat) => U.int (i + (k : Int) * 1) := by simp [upU]
theorem RgC.one {i j : Int} (ha : near i = true) (hb : near j = true) : RgC i j 1 (j - i).toNat := by
  have n1 := near_of ha
  have n2 := near_of hb
  exact ⟨by decide, by decide, small_one n1.1 n1.2 n2.1 n2.2, rangeSize_nat i j⟩
/-- the arguments of range, then the list -/
theorem evr {kk : ItK} {es : E} {Q : VK} (hn : σ.length = X.N.length) (S : Sim X.K fa X.N.length F H σ env) (o : Out X.K fa XR W X.N.length (fun w => [w]) F H σ env (evE G (.lrg kk es) env) (fun _ vs H' => ∃ v, vs = [v] ∧ Q v H')) :
    tEvL G fa XR W X es σ H fun vs H1 => ∃ F1 us ys, Sub F1 H1 ∧ BReps X.K fa F1 H1 vs us ∧ itF kk us = some ys ∧ ys.length ≤ sizeLine ∧ ∀ xs q, (∀ F, RepAll X.K fa F xs ys) → H1 q = none → Q (.ref q) (upd H1 q (.lst xs)) := by
  simp only [evE] at o
  obtain ⟨F0, env0, h0, S0, o0⟩ := evl hn S (.refl _ _ _ _) o
  refine ⟨F0, env0, h0, S0, o0.imp fun _ vs H1 ⟨F1, env1, ws, e1, S1, st1, l1⟩ => ?_⟩
  have hln := S.len
  simp only [e1, Res.bind_ok] at o
  obtain ⟨us, e2, o⟩ := Out.of o
  obtain ⟨ys, e3, o⟩ := Out.of o
  split at o
  · rename_i hz
    refine ⟨F1, us, ys, S1.fr, looks_side S1 (by omega) (by omega) e2, e3, hz, fun xs q hr hq => ?_⟩
    have S2 := S1.head (by omega) (by omega)
    obtain ⟨v', e', r⟩ := Out.post S2 (st1.head (by omega) (by omega)) l1 o (.own S2.fr hq (.lst (hr _)))
    cases e'
    exact r
  · exact o.elim
theorem ok_lrg {kk : ItK} {es : E} (he : OkL T G fa XR k es) : OkE T G fa XR k (.lrg kk es) := fun X W A ex hc => by
  cases ex <;> first | (simp [chkE] at hc; done) | skip
  rename_i f xs ks p
  cases f <;> first | (simp [chkE] at hc; done) | skip
  cases ks <;> rcases xs with _ | ⟨y, _ | ⟨_, _⟩⟩ <;> first | (simp [chkE] at hc; done) | skip
  cases y <;> first | (simp [chkE] at hc; done) | skip
  rename_i f' args ks' p'
  cases f' <;> first | (simp [chkE] at hc; done) | skip
  cases ks' <;> first | (simp [chkE] at hc; done) | skip
  simp only [chkE, Bool.and_eq_true] at hc
  obtain ⟨⟨⟨⟨h1, h2⟩, hr⟩, hi⟩, h3⟩ := hc
  obtain ⟨rfl, g1, g2, g3⟩ := globB_of h1
  obtain ⟨i1, i2, h⟩ := itB_rng hr hi
  obtain ⟨rfl, j1, j2, j3⟩ := globB_of i1
  rcases h with ⟨rfl, a, rfl⟩ | ⟨rfl, a, b, rfl⟩ | ⟨rfl, a, b, c, rfl⟩
  · obtain ⟨p1, _⟩ := chkL_head h3
    refine PE.imp (pe_listC A.calm (glo g1) (A.free _ h2) (prgC1 (glo j1) (A.free _ i2) (he X W A _ h3) (by rw [star_cons p1]; rfl)) rfl) fun σ H Q ⟨F, env, hn, S, o⟩ => ?_
    obtain ⟨F', env', q1, q2, q⟩ := evr hn S o
    refine ⟨F', env', q1, q2, q.imp fun _ vs H1 ⟨F1, us, ys, s, r, e, hz, fin⟩ => ?_⟩
    obtain ⟨j, rfl, hj, rfl⟩ := itF_rng1 e
    obtain ⟨v, rfl, r1⟩ := BReps.one r
    have r1 := r1.int
    subst r1
    have h0 : near 0 = true := rfl
    rw [upU_eq] at fin hz
    exact ⟨j, rfl, _, RgC.one h0 hj, by simpa using hz, fun q hq => fin _ q (fun F => RepAll.of_rg) hq⟩
  · obtain ⟨p1, _, h4⟩ := chkL_head h3
    have hpl := chkL_plain (pos := p') _ (env := X.env) h4
    refine PE.imp (pe_listC A.calm (glo g1) (A.free _ h2) (prgC2 (glo j1) (A.free _ i2) (he X W A _ h3) (star_cons p1) hpl) rfl) fun σ H Q ⟨F, env, hn, S, o⟩ => ?_
    obtain ⟨F', env', q1, q2, q⟩ := evr hn S o
    refine ⟨F', env', q1, q2, q.imp fun _ vs H1 ⟨F1, us, ys, s, r, e, hz, fin⟩ => ?_⟩
    obtain ⟨i, j, rfl, hi, hj, rfl⟩ := itF_rng2 e
    obtain ⟨v, v', rfl, r1, r2⟩ := BReps.two r
    have r1 := r1.int
    have r2 := r2.int
    subst r1 r2
    rw [upU_eq] at fin hz
    exact ⟨i, j, rfl, _, RgC.one hi hj, by simpa using hz, fun q hq => fin _ q (fun F => RepAll.of_rg) hq⟩
  · obtain ⟨p1, _, h4⟩ := chkL_head h3
    have hpl := chkL_plain (pos := p') _ (env := X.env) h4
    refine PE.imp (pe_listC A.calm (glo g1) (A.free _ h2) (prgC3 (glo j1) (A.free _ i2) (he X W A _ h3) (star_cons p1) hpl) rfl) fun σ H Q ⟨F, env, hn, S, o⟩ => ?_
    obtain ⟨F', env', q1, q2, q⟩ := evr hn S o
    refine ⟨F', env', q1, q2, q.imp fun _ vs H1 ⟨F1, us, ys, s, r, e, hz, fin⟩ => ?_⟩
    obtain ⟨i, j, rfl, hi, hj, rfl⟩ := itF_rng3 e
    obtain ⟨v, v', v'', rfl, r1, r2, r3⟩ := BReps.three r
    have r1 := r1.int
    have r2 := r2.int
    have r3 := r3.int
    subst r1 r2 r3
    have n1 := near_of hi
    have n2 := near_of hj
    exact ⟨i, j, -1, rfl, by decide, by decide, _, RgC.neg n1.1 n1.2 n2.1 n2.2, by simpa [downU] using hz, fun q hq => fin _ q (fun F => RepAll.of_rg) hq⟩
/-- .. the tuple -/
theorem evr' {kk : ItK} {es : E} {Q : VK} (hn : σ.length = X.N.length) (S : Sim X.K fa X.N.length F H σ env) (o : Out X.K fa XR W X.N.length (fun w => [w]) F H σ env (evE G (.trg kk es) env) (fun _ vs H' => ∃ v, vs = [v] ∧ Q v H')) :
    tEvL G fa XR W X es σ H fun vs H1 => ∃ F1 us ys, Sub F1 H1 ∧ BReps X.K fa F1 H1 vs us ∧ itF kk us = some ys ∧ ys.length ≤ sizeLine ∧ ∀ xs q, (∀ F, RepAll X.K fa F xs ys) → H1 q = none → Q (.ref q) (upd H1 q (.tup xs)) := by
  simp only [evE] at o
  obtain ⟨F0, env0, h0, S0, o0⟩ := evl hn S (.refl _ _ _ _) o
  refine ⟨F0, env0, h0, S0, o0.imp fun _ vs H1 ⟨F1, env1, ws, e1, S1, st1, l1⟩ => ?_⟩
  have hln := S.len
  simp only [e1, Res.bind_ok] at o
  obtain ⟨us, e2, o⟩ := Out.of o
  obtain ⟨ys, e3, o⟩ := Out.of o
  split at o
  · rename_i hz
    refine ⟨F1, us, ys, S1.fr, looks_side S1 (by omega) (by omega) e2, e3, hz, fun xs q hr hq => ?_⟩
    have S2 := S1.head (by omega) (by omega)
    obtain ⟨v', e', r⟩ := Out.post S2 (st1.head (by omega) (by omega)) l1 o (.tup S2.fr hq (hr _))
    cases e'
    exact r
  · exact o.elim
theorem ok_trg {kk : ItK} {es : E} (he : OkL T G fa XR k es) : OkE T G fa XR k (.trg kk es) := fun X W A ex hc => by
  cases ex <;> first | (simp [chkE] at hc; done) | skip
  rename_i f xs ks p
  cases f <;> first | (simp [chkE] at hc; done) | skip
  cases ks <;> rcases xs with _ | ⟨y, _ | ⟨_, _⟩⟩ <;> first | (simp [chkE] at hc; done) | skip
  cases y <;> first | (simp [chkE] at hc; done) | skip
  rename_i f' args ks' p'
  cases f' <;> first | (simp [chkE] at hc; done) | skip
  cases ks' <;> first | (simp [chkE] at hc; done) | skip
  simp only [chkE, Bool.and_eq_true] at hc
  obtain ⟨⟨⟨⟨h1, h2⟩, hr⟩, hi⟩, h3⟩ := hc
  obtain ⟨rfl, g1, g2, g3⟩ := globB_of h1
  obtain ⟨i1, i2, h⟩ := itB_rng hr hi
  obtain ⟨rfl, j1, j2, j3⟩ := globB_of i1
  rcases h with ⟨rfl, a, rfl⟩ | ⟨rfl, a, b, rfl⟩ | ⟨rfl, a, b, c, rfl⟩
  · obtain ⟨p1, _⟩ := chkL_head h3
    refine PE.imp (pe_tupC A.calm (glo g1) (A.free _ h2) (prgC1 (glo j1) (A.free _ i2) (he X W A _ h3) (by rw [star_cons p1]; rfl)) rfl) fun σ H Q ⟨F, env, hn, S, o⟩ => ?_
    obtain ⟨F', env', q1, q2, q⟩ := evr' hn S o
    refine ⟨F', env', q1, q2, q.imp fun _ vs H1 ⟨F1, us, ys, s, r, e, hz, fin⟩ => ?_⟩
    obtain ⟨j, rfl, hj, rfl⟩ := itF_rng1 e
    obtain ⟨v, rfl, r1⟩ := BReps.one r
    have r1 := r1.int
    subst r1
    have h0 : near 0 = true := rfl
    rw [upU_eq] at fin hz
    exact ⟨j, rfl, _, RgC.one h0 hj, by simpa using hz, fun q hq => fin _ q (fun F => RepAll.of_rg) hq⟩
  · obtain ⟨p1, _, h4⟩ := chkL_head h3
    have hpl := chkL_plain (pos := p') _ (env := X.env) h4
    refine PE.imp (pe_tupC A.calm (glo g1) (A.free _ h2) (prgC2 (glo j1) (A.free _ i2) (he X W A _ h3) (star_cons p1) hpl) rfl) fun σ H Q ⟨F, env, hn, S, o⟩ => ?_
    obtain ⟨F', env', q1, q2, q⟩ := evr' hn S o
    refine ⟨F', env', q1, q2, q.imp fun _ vs H1 ⟨F1, us, ys, s, r, e, hz, fin⟩ => ?_⟩
    obtain ⟨i, j, rfl, hi, hj, rfl⟩ := itF_rng2 e
    obtain ⟨v, v', rfl, r1, r2⟩ := BReps.two r
    have r1 := r1.int
    have r2 := r2.int
    subst r1 r2
    rw [upU_eq] at fin hz
    exact ⟨i, j, rfl, _, RgC.one hi hj, by simpa using hz, fun q hq => fin _ q (fun F => RepAll.of_rg) hq⟩
  · obtain ⟨p1, _, h4⟩ := chkL_head h3
    have hpl := chkL_plain (pos := p') _ (env := X.env) h4
    refine PE.imp (pe_tupC A.calm (glo g1) (A.free _ h2) (prgC3 (glo j1) (A.free _ i2) (he X W A _ h3) (star_cons p1) hpl) rfl) fun σ H Q ⟨F, env, hn, S, o⟩ => ?_
    obtain ⟨F', env', q1, q2, q⟩ := evr' hn S o
    refine ⟨F', env', q1, q2, q.imp fun _ vs H1 ⟨F1, us, ys, s, r, e, hz, fin⟩ => ?_⟩
    obtain ⟨i, j, rfl, hi, hj, rfl⟩ := itF_rng3 e
    obtain ⟨v, v', v'', rfl, r1, r2, r3⟩ := BReps.three r
    have r1 := r1.int
    have r2 := r2.int
    have r3 := r3.int
    subst r1 r2 r3
    have n1 := near_of hi
    have n2 := near_of hj
    exact ⟨i, j, -1, rfl, by decide, by decide, _, RgC.neg n1.1 n1.2 n2.1 n2.2, by simpa [downU] using hz, fun q hq => fin _ q (fun F => RepAll.of_rg) hq⟩
end
end PF
end
section
set_option Elab.async false
set_option autoImplicit false
set_option linter.all false
set_option maxRecDepth 100000
namespace PF
open PySem PySem.Spec PyProof.Rows L2

section
variable {K : PySem.W.Frag} {fa : FA} {n : Nat} {F H : Hp} {σ τ : L2.St} {env env' ws : En} {i : Nat} {s : Slot} {v : V}
theorem put_inv (h : put env i s = some env') : ∃ s0, env[i]? = some s0 ∧ (∀ u, s0 ≠ .own u true) ∧ env' = env.set i s := by
  unfold put at h
  split at h
  · cases h
  · rename_i s0 q e
    cases h
    exact ⟨s0, e, fun u z => q u z, rfl⟩
  · cases h
/-- what stands at the end goes into the place i -/
theorem Sim.put (S : Sim K fa n F H (σ ++ [some v]) (env ++ [s])) (hl : σ.length = env.length) (hs : (∃ u, s = .val u) ∨ ∃ u, s = .own u false) (h : PF.put env i s = some env') (nb : ∀ (j : Nat), env[j]? ≠ some (Slot.bor i)) :
    Sim K fa n F H (σ.set i (some v)) env' ∧ Stp F H (σ ++ [some v]) (env ++ [s]) F H (σ.set i (some v)) env' := by
  obtain ⟨s0, e0, np, rfl⟩ := put_inv h
  have hi := ltOf e0
  have last : (env ++ [s])[env.length]? = some s := by simp
  have lastσ : (σ ++ [some v])[env.length]? = some (some v) := by rw [← hl]; simp
  -- an own place behind the store was one ahead of it
  have old : ∀ (j : Nat) (u : U) (p : Bool) (a : Addr), (env.set i s)[j]? = some (.own u p) → (σ.set i (some v))[j]? = some (some (.ref a)) →
      ∃ j', (env ++ [s])[j']? = some (.own u p) ∧ (σ ++ [some v])[j']? = some (some (.ref a)) ∧ ((j = i ∧ j' = env.length) ∨ (j ≠ i ∧ j < env.length ∧ j' = j)) := fun j u p a h1 h2 => by
    by_cases c : i = j
    · subst c
      rw [List.getElem?_set_self hi] at h1
      rw [List.getElem?_set_self (by omega)] at h2
      exact ⟨env.length, by rw [last]; exact h1, by rw [lastσ]; exact h2, .inl ⟨rfl, rfl⟩⟩
    · rw [List.getElem?_set_ne c] at h1 h2
      have hj := ltOf h1
      exact ⟨j, by rw [getL hj]; exact h1, by rw [getL (by omega)]; exact h2, .inr ⟨fun z => c z.symm, hj, rfl⟩⟩
  refine ⟨⟨by simp [hl], S.fr, fun j t e => ?_, fun j k a u u' p p' h1 h2 h3 h4 => ?_⟩, ⟨.refl _, fun _ _ q _ => q, fun a ⟨j, u, p, h1, h2⟩ => ?_, fun _ _ q => .inl q, fun j u e => ?_⟩⟩
  · by_cases c : i = j
    · subst c
      rw [List.getElem?_set_self hi] at e
      cases e
      have q := S.slot env.length s last
      rcases hs with ⟨u, rfl⟩ | ⟨u, rfl⟩
      · obtain ⟨v', q1, q2⟩ := q
        rw [lastσ] at q1
        exact ⟨v', by rw [List.getElem?_set_self (by omega)]; exact q1, q2⟩
      · obtain ⟨a, o, q1, q2⟩ := q
        rw [lastσ] at q1
        exact ⟨a, o, by rw [List.getElem?_set_self (by omega)]; exact q1, q2⟩
    · rw [List.getElem?_set_ne c] at e
      have hj := ltOf e
      refine (S.slot j t (by rw [getL hj]; exact e)).move (.refl _) (by rw [List.getElem?_set_ne c, getL (by omega)]) (fun k e2 => ?_) (fun _ _ _ _ _ _ a b => ⟨a, b⟩) id
      subst e2
      have ck : i ≠ k := fun z => nb j (by rw [z]; exact e)
      rw [List.getElem?_set_ne ck]
      obtain ⟨⟨h1, h2⟩, _⟩ := S.slot j (.bor k) (by rw [getL hj]; exact e)
      exact (getL (by omega)).symm
  · obtain ⟨j', x1, x2, x3⟩ := old j u p a h1 h3
    obtain ⟨k', y1, y2, y3⟩ := old k u' p' a h2 h4
    have := S.inj j' k' a u u' p p' x1 y1 x2 y2
    omega
  · obtain ⟨j', x1, x2, _⟩ := old j u p a h1 h2
    exact .inl ⟨j', u, p, x1, x2⟩
  · by_cases hj : j < env.length
    · rw [getL hj] at e
      have c : i ≠ j := fun z => by subst z; rw [e0] at e; cases e; exact np u rfl
      exact ⟨by rw [List.getElem?_set_ne c, getL (by omega)], u, by rw [List.getElem?_set_ne c]; exact e⟩
    · rw [getR (by omega)] at e
      obtain ⟨_, e⟩ := one_at e
      subst e
      rcases hs with ⟨u', z⟩ | ⟨u', z⟩ <;> cases z
/-- a value that is there already, with more on the side -/
theorem Sim.putV {u : U} (S : Sim K fa n F H (σ ++ τ) (env ++ ws)) (hl : σ.length = env.length) (r : Rep K fa F v u) (h : PF.put env i (.val u) = some env') (nb : ∀ (j : Nat), (env ++ ws)[j]? ≠ some (Slot.bor i)) :
    Sim K fa n F H (σ.set i (some v) ++ τ) (env' ++ ws) ∧ Stp F H (σ ++ τ) (env ++ ws) F H (σ.set i (some v) ++ τ) (env' ++ ws) := by
  obtain ⟨s0, e0, np, rfl⟩ := put_inv h
  have hi := ltOf e0
  obtain ⟨S1, st1⟩ := (OpPost.val S.fr r).sim S
  have h' : PF.put (env ++ ws) i (.val u) = some ((env ++ ws).set i (.val u)) := by
    unfold PF.put
    rw [getL hi, e0]
    split
    · rename_i z; cases z; exact (np _ rfl).elim
    · rfl
    · rename_i z; cases z
  obtain ⟨S2, st2⟩ := S1.put S.len (.inl ⟨u, rfl⟩) h' nb
  have e1 : (env ++ ws).set i (.val u) = env.set i (.val u) ++ ws := by rw [List.set_append]; simp [hi]
  have e2 : (σ ++ τ).set i (some v) = σ.set i (some v) ++ τ := by rw [List.set_append]; simp [hl, hi]
  rw [e1, e2] at S2 st2
  exact ⟨S2, st1.trans st2⟩
/-- no loan on the side -/
def NoBor (ws : En) : Prop := ∀ s ∈ ws, ∀ j, s ≠ .bor j
theorem nb_of (S : Sim K fa n F H (σ ++ τ) (env ++ ws)) (he : env.length = n) (hw : NoBor ws) (j : Nat) : (env ++ ws)[j]? ≠ some (Slot.bor i) := fun e => by
  by_cases c : j < env.length
  · obtain ⟨⟨_, q⟩, _⟩ := S.slot j (.bor i) e
    omega
  · rw [getR (by omega)] at e
    exact hw _ (List.mem_of_getElem? e) i rfl
end

def tSto (fa : FA) (X : Cx) (tg : E) : TG := fun v σ H Q => ∃ F env τ ws u env', σ.length = X.N.length ∧ env.length = X.N.length ∧ Sim X.K fa X.N.length F H (σ ++ τ) (env ++ ws) ∧ NoBor ws ∧ Rep X.K fa F v u ∧ storeU tg u env = some env' ∧
  ∀ σ', Sim X.K fa X.N.length F H (σ' ++ τ) (env' ++ ws) → Stp F H (σ ++ τ) (env ++ ws) F H (σ' ++ τ) (env' ++ ws) → σ'.length = X.N.length → env'.length = X.N.length → (∀ j, j ∉ tg.tgs → σ'[j]? = σ[j]?) → Q σ' H
def tStos (fa : FA) (X : Cx) (tg : E) : TGs := fun vs σ H Q => ∃ F env τ ws us env', σ.length = X.N.length ∧ env.length = X.N.length ∧ Sim X.K fa X.N.length F H (σ ++ τ) (env ++ ws) ∧ NoBor ws ∧ RepAll X.K fa F vs us ∧ storeU tg (.lst us) env = some env' ∧
  ∀ σ', Sim X.K fa X.N.length F H (σ' ++ τ) (env' ++ ws) → Stp F H (σ ++ τ) (env ++ ws) F H (σ' ++ τ) (env' ++ ws) → σ'.length = X.N.length → env'.length = X.N.length → (∀ j, j ∉ tg.tgs → σ'[j]? = σ[j]?) → Q σ' H
theorem PG.imp {X : Cx} {e : Expr} {t t' : TG} (h : PG X e t) (i : ∀ v σ H Q, t' v σ H Q → t v σ H Q) : PG X e t' := ⟨fun pins s σ H v u Q I r q => h.run pins s σ H v u Q I r (i v σ H Q q)⟩
theorem PGs.imp {X : Cx} {e : List Expr} {t t' : TGs} (h : PGs X e t) (i : ∀ v σ H Q, t' v σ H Q → t v σ H Q) : PGs X e t' := ⟨fun pins s σ H v u Q I r q => h.run pins s σ H v u Q I r (i v σ H Q q)⟩
theorem locB_of {sc : Scope} {x : Str} (h : locB sc x = true) : sc.names.lookup x = some .local ∨ sc.names.lookup x = some .cell := by
  unfold locB at h
  split at h
  · exact .inl (by assumption)
  · exact .inr (by assumption)
  · cases h
theorem ae_cons {x : Expr} {xs : List Expr} {env : Env} (h : plainB x = true) : assignEach (x :: xs) env = (false, assign x env) :: assignEach xs env := by
  cases x <;> first | rfl | cases h
theorem chkGs_cons {N : List Str} {sc : Scope} {es : E} {x : Expr} {xs : List Expr} (h : chkGs N sc es (x :: xs) = true) : ∃ a r, es = .cons a r ∧ chkG N sc a x = true ∧ plainB x = true ∧ chkGs N sc r xs = true := by
  cases es <;> first | (simp [chkGs] at h; done) | skip
  simp only [chkGs, Bool.and_eq_true] at h
  exact ⟨_, _, rfl, h.1.1, h.1.2, h.2⟩
theorem chkGs_nil {N : List Str} {sc : Scope} {es : E} (h : chkGs N sc es [] = true) : es = .nil := by
  cases es <;> first | rfl | (simp [chkGs] at h; done)
theorem chkGs_shape {N : List Str} {sc : Scope} {xs : List Expr} : ∀ {es : E} {env : Env}, chkGs N sc es xs = true → (assignEach xs env).findIdx? (·.1) = none ∧ (assignEach xs env).length = xs.length := by
  induction xs with
  | nil => intro es env h; exact ⟨rfl, rfl⟩
  | cons x xs ih =>
    intro es env h
    obtain ⟨a, r, rfl, h1, h2, h3⟩ := chkGs_cons h
    obtain ⟨q1, q2⟩ := ih (env := env) h3
    rw [ae_cons h2]
    refine ⟨?_, by simp [q2]⟩
    rw [List.findIdx?_cons]
    simp [q1]
theorem chkGs_len {N : List Str} {sc : Scope} {xs : List Expr} : ∀ {es : E} {us : List U} {env env' : En}, chkGs N sc es xs = true → storeU es (.lst us) env = some env' → us.length = xs.length := by
  induction xs with
  | nil =>
    intro es us env env' h h'
    cases chkGs_nil h
    cases us with
    | nil => rfl
    | cons _ _ => simp [storeU] at h'
  | cons x xs ih =>
    intro es us env env' h h'
    obtain ⟨a, r, rfl, h1, h2, h3⟩ := chkGs_cons h
    cases us with
    | nil => simp [storeU] at h'
    | cons u us =>
      simp only [storeU] at h'
      obtain ⟨env1, _, h'⟩ := Option.bind_eq_some_iff.mp h'
      simp [ih h3 h']
mutual
theorem pg_of {fa : FA} {X : Cx} (hc : X.calm = true) (hN : X.N.Nodup) {sc : Scope} (hf : ∀ x, locB sc x = true → Loc X.env.scope x ∧ (X.fn x = true ∨ X.env.scope.names.lookup x = some .local)) : ∀ (tg : E) {ex : Expr}, chkG X.N sc tg ex = true → PG X ex (tSto fa X tg)
  | .tnm i, ex, h => by
    cases ex <;> first | (simp [chkG] at h; done) | skip
    rename_i x p
    simp only [chkG, Bool.and_eq_true, decide_eq_true_eq] at h
    have hl := hf _ h.2
    refine PG.imp (pg_name hN h.1 hl.1 hl.2) fun v σ H Q ⟨F, env, τ, ws, u, env', hn, he, S, hb, r, e, fin⟩ => ?_
    simp only [storeU] at e
    obtain ⟨S1, st1⟩ := S.putV (by omega) r e (nb_of S he hb)
    refine fin _ S1 st1 (by simp [hn]) ?_ fun j hj => ?_
    · obtain ⟨_, _, _, rfl⟩ := put_inv e; simp [he]
    · rw [List.getElem?_set_ne (fun z => hj (by simp [E.tgs, z]))]
  | .ttp es, ex, h => by
    cases ex <;> first | (simp [chkG] at h; done) | skip
    rename_i xs kk p
    simp only [chkG] at h
    obtain ⟨q1, q2⟩ := chkGs_shape (env := X.env) h
    refine PG.imp (pg_tup hc (pgs_of (fa := fa) hc hN hf es h) q2 q1) fun v σ H Q ⟨F, env, τ, ws, u, env', hn, he, S, hb, r, e, fin⟩ => ?_
    cases u <;> first | (simp [storeU] at e; done) | skip
    rename_i us
    simp only [storeU] at e
    cases r with
    | tup r1 r2 => exact ⟨_, _, rfl, SqT.sub S.fr r1, by rw [r2.length, chkGs_len h e], F, env, τ, ws, us, env', hn, he, S, hb, r2, e, fin⟩
  | .nil, ex, h => by cases ex <;> simp [chkG] at h
  | .cons _ _, ex, h => by cases ex <;> simp [chkG] at h
  | .var _, ex, h => by cases ex <;> simp [chkG] at h
  | .bor _, ex, h => by cases ex <;> simp [chkG] at h
  | .mov _, ex, h => by cases ex <;> simp [chkG] at h
  | .con _, ex, h => by cases ex <;> simp [chkG] at h
  | .glc _, ex, h => by cases ex <;> simp [chkG] at h
  | .fnr _, ex, h => by cases ex <;> simp [chkG] at h
  | .tup _, ex, h => by cases ex <;> simp [chkG] at h
  | .lst _, ex, h => by cases ex <;> simp [chkG] at h
  | .dic0, ex, h => by cases ex <;> simp [chkG] at h
  | .bin _ _ _, ex, h => by cases ex <;> simp [chkG] at h
  | .neg _, ex, h => by cases ex <;> simp [chkG] at h
  | .not _, ex, h => by cases ex <;> simp [chkG] at h
  | .cmp _ _ _, ex, h => by cases ex <;> simp [chkG] at h
  | .chn _ _ _ _ _, ex, h => by cases ex <;> simp [chkG] at h
  | .and _ _, ex, h => by cases ex <;> simp [chkG] at h
  | .or _ _, ex, h => by cases ex <;> simp [chkG] at h
  | .ite _ _ _, ex, h => by cases ex <;> simp [chkG] at h
  | .call _ _, ex, h => by cases ex <;> simp [chkG] at h
  | .cvar _ _, ex, h => by cases ex <;> simp [chkG] at h
  | .blt _ _, ex, h => by cases ex <;> simp [chkG] at h
  | .ist _ _, ex, h => by cases ex <;> simp [chkG] at h
  | .idx _ _, ex, h => by cases ex <;> simp [chkG] at h
  | .slc _ _ _, ex, h => by cases ex <;> simp [chkG] at h
  | .lrg _ _, ex, h => by cases ex <;> simp [chkG] at h
  | .trg _ _, ex, h => by cases ex <;> simp [chkG] at h
  | .itr _ _, ex, h => by cases ex <;> simp [chkG] at h
  | .cmp1 _ _ _ _ _, ex, h => by cases ex <;> simp [chkG] at h
theorem pgs_of {fa : FA} {X : Cx} (hc : X.calm = true) (hN : X.N.Nodup) {sc : Scope} (hf : ∀ x, locB sc x = true → Loc X.env.scope x ∧ (X.fn x = true ∨ X.env.scope.names.lookup x = some .local)) : ∀ (tg : E) {exs : List Expr}, chkGs X.N sc tg exs = true → PGs X exs (tStos fa X tg)
  | .nil, [], h => by
    refine PGs.imp pgs_nil fun vs σ H Q ⟨F, env, τ, ws, us, env', hn, he, S, hb, r, e, fin⟩ => ?_
    cases r with
    | nil =>
      simp only [storeU, Option.some.injEq] at e
      subst e
      exact ⟨rfl, fin σ S (.refl _ _ _ _) hn he fun _ _ => rfl⟩
    | cons _ _ => simp [storeU] at e
  | .cons a r, x :: xs, h => by
    simp only [chkGs, Bool.and_eq_true] at h
    have h0 : (assignEach (x :: xs) X.env).map (·.2) = assign x X.env :: (assignEach xs X.env).map (·.2) := by rw [ae_cons h.1.2]; rfl
    refine PGs.imp (pgs_cons (pg_of (fa := fa) hc hN hf a h.1.1) (pgs_of (fa := fa) hc hN hf r h.2) h0) fun vs σ H Q ⟨F, env, τ, ws, us, env', hn, he, S, hb, rr, e, fin⟩ => ?_
    cases rr with
    | nil => simp [storeU] at e
    | cons r1 r2 =>
      simp only [storeU] at e
      obtain ⟨env1, e1, e2⟩ := Option.bind_eq_some_iff.mp e
      refine ⟨_, _, rfl, F, env, τ, ws, _, env1, hn, he, S, hb, r1, e1, fun σ1 S1 st1 hn1 he1 k1 => ?_⟩
      refine ⟨F, env1, τ, ws, _, env', hn1, he1, S1, hb, r2, e2, fun σ2 S2 st2 hn2 he2 k2 => ?_⟩
      exact fin σ2 S2 (st1.trans st2) hn2 he2 fun j hj => by
        simp only [E.tgs, List.mem_append, not_or] at hj
        rw [k2 j hj.2, k1 j hj.1]
  | .nil, _ :: _, h => by simp [chkGs] at h
  | .cons _ _, [], h => by simp [chkGs] at h
  | .tnm _, exs, h => by cases exs <;> simp [chkGs] at h
  | .ttp _, exs, h => by cases exs <;> simp [chkGs] at h
  | .var _, exs, h => by cases exs <;> simp [chkGs] at h
  | .bor _, exs, h => by cases exs <;> simp [chkGs] at h
  | .mov _, exs, h => by cases exs <;> simp [chkGs] at h
  | .con _, exs, h => by cases exs <;> simp [chkGs] at h
  | .glc _, exs, h => by cases exs <;> simp [chkGs] at h
  | .fnr _, exs, h => by cases exs <;> simp [chkGs] at h
  | .tup _, exs, h => by cases exs <;> simp [chkGs] at h
  | .lst _, exs, h => by cases exs <;> simp [chkGs] at h
  | .dic0, exs, h => by cases exs <;> simp [chkGs] at h
  | .bin _ _ _, exs, h => by cases exs <;> simp [chkGs] at h
  | .neg _, exs, h => by cases exs <;> simp [chkGs] at h
  | .not _, exs, h => by cases exs <;> simp [chkGs] at h
  | .cmp _ _ _, exs, h => by cases exs <;> simp [chkGs] at h
  | .chn _ _ _ _ _, exs, h => by cases exs <;> simp [chkGs] at h
  | .and _ _, exs, h => by cases exs <;> simp [chkGs] at h
  | .or _ _, exs, h => by cases exs <;> simp [chkGs] at h
  | .ite _ _ _, exs, h => by cases exs <;> simp [chkGs] at h
  | .call _ _, exs, h => by cases exs <;> simp [chkGs] at h
  | .cvar _ _, exs, h => by cases exs <;> simp [chkGs] at h
  | .blt _ _, exs, h => by cases exs <;> simp [chkGs] at h
  | .ist _ _, exs, h => by cases exs <;> simp [chkGs] at h
  | .idx _ _, exs, h => by cases exs <;> simp [chkGs] at h
  | .slc _ _ _, exs, h => by cases exs <;> simp [chkGs] at h
  | .lrg _ _, exs, h => by cases exs <;> simp [chkGs] at h
  | .trg _ _, exs, h => by cases exs <;> simp [chkGs] at h
  | .itr _ _, exs, h => by cases exs <;> simp [chkGs] at h
  | .cmp1 _ _ _ _ _, exs, h => by cases exs <;> simp [chkGs] at h
end
end PF
end
section
set_option Elab.async false
set_option autoImplicit false
set_option linter.all false
set_option maxRecDepth 100000
namespace PF
open PySem PySem.Spec PyProof.Rows L2

theorem wipe_get {σ : L2.St} {vs : List Nat} (j : Nat) : (wipe σ vs)[j]? = if j ∈ vs then (σ[j]?).map (fun _ => none) else σ[j]? := by
  induction vs with
  | nil => simp [wipe]
  | cons v vs ih =>
    unfold wipe
    by_cases c : v = j
    · subst c
      by_cases d : v < (wipe σ vs).length
      · rw [List.getElem?_set_self d]
        rw [wipe_length] at d
        simp [List.getElem?_eq_getElem d]
      · have d' : σ.length ≤ v := by rw [wipe_length] at d; omega
        rw [List.getElem?_eq_none (by rw [List.length_set, wipe_length]; exact d')]
        simp [List.getElem?_eq_none d']
    · rw [List.getElem?_set_ne c, ih]
      have : ¬ j = v := fun z => c z.symm
      simp [this]
theorem wipeE_length {env : En} : ∀ {vs : List Nat}, (wipeE env vs).length = env.length
  | [] => rfl
  | v :: vs => by unfold wipeE; rw [List.length_set, wipeE_length]
theorem wipeE_get {env : En} {vs : List Nat} (j : Nat) : (wipeE env vs)[j]? = if j ∈ vs then (env[j]?).map (fun _ => .emp) else env[j]? := by
  induction vs with
  | nil => simp [wipeE]
  | cons v vs ih =>
    unfold wipeE
    by_cases c : v = j
    · subst c
      by_cases d : v < (wipeE env vs).length
      · rw [List.getElem?_set_self d]
        rw [wipeE_length] at d
        simp [List.getElem?_eq_getElem d]
      · have d' : env.length ≤ v := by rw [wipeE_length] at d; omega
        rw [List.getElem?_eq_none (by rw [List.length_set, wipeE_length]; exact d')]
        simp [List.getElem?_eq_none d']
    · rw [List.getElem?_set_ne c, ih]
      have : ¬ j = v := fun z => c z.symm
      simp [this]
theorem unwipe_length {old env : En} : ∀ {vs : List Nat}, (unwipe old env vs).length = env.length
  | [] => rfl
  | v :: vs => by unfold unwipe; rw [List.length_set, unwipe_length]
theorem unwipe_get {old env : En} (hl : old.length = env.length) {vs : List Nat} (j : Nat) : (unwipe old env vs)[j]? = if j ∈ vs then old[j]? else env[j]? := by
  induction vs with
  | nil => simp [unwipe]
  | cons v vs ih =>
    unfold unwipe
    by_cases c : v = j
    · subst c
      by_cases d : v < (unwipe old env vs).length
      · rw [List.getElem?_set_self d]
        rw [unwipe_length] at d
        simp [List.getD, List.getElem?_eq_getElem (show v < old.length by omega)]
      · have d' : env.length ≤ v := by rw [unwipe_length] at d; omega
        rw [List.getElem?_eq_none (by rw [List.length_set, unwipe_length]; exact d')]
        simp [List.getElem?_eq_none (show old.length ≤ v by omega)]
    · rw [List.getElem?_set_ne c, ih]
      have : ¬ j = v := fun z => c z.symm
      simp [this]
theorem wipe_app {σ τ : L2.St} {vs : List Nat} (h : ∀ v ∈ vs, v < σ.length) : wipe (σ ++ τ) vs = wipe σ vs ++ τ := by
  apply List.ext_getElem?
  intro j
  by_cases c : j < σ.length
  · rw [getL (by rw [wipe_length]; exact c), wipe_get, wipe_get, getL c]
  · rw [getR (by rw [wipe_length]; omega), wipe_get, wipe_length, if_neg (fun z => c (h j z)), getR (by omega)]
theorem wipeE_app {env ws : En} {vs : List Nat} (h : ∀ v ∈ vs, v < env.length) : wipeE (env ++ ws) vs = wipeE env vs ++ ws := by
  apply List.ext_getElem?
  intro j
  by_cases c : j < env.length
  · rw [getL (by rw [wipeE_length]; exact c), wipeE_get, wipeE_get, getL c]
  · rw [getR (by rw [wipeE_length]; omega), wipeE_get, wipeE_length, if_neg (fun z => c (h j z)), getR (by omega)]
section
variable {K : PySem.W.Frag} {fa : FA} {n : Nat} {F F' H H' : Hp} {σ τ σ' : L2.St} {env ws env' : En} {vs : List Nat}
theorem own_wipe {a : Addr} (h : Own (wipe σ vs) (wipeE env vs) a) : Own σ env a := by
  obtain ⟨i, u, p, h1, h2⟩ := h
  rw [wipeE_get] at h1
  rw [wipe_get] at h2
  split at h1
  · cases e : env[i]? <;> rw [e] at h1 <;> cases h1
  · rename_i c
    rw [if_neg c] at h2
    exact ⟨i, u, p, h1, h2⟩
theorem Sim.wipe (S : Sim K fa n F H σ env) (hv : ∀ v ∈ vs, v < n) (nb : ∀ (j k : Nat), k < n → env[j]? ≠ some (.bor k)) : Sim K fa n F H (L2.wipe σ vs) (wipeE env vs) where
  len := by rw [wipe_length, wipeE_length]; exact S.len
  fr := S.fr
  slot := fun i s e => by
    rw [wipeE_get] at e
    split at e
    · cases q : env[i]? <;> rw [q] at e <;> cases e
      exact True.intro
    · rename_i c
      refine (S.slot i s e).move (.refl _) (by rw [wipe_get, if_neg c]) (fun k e2 => ?_) (fun _ _ _ _ _ _ a b => ⟨a, b⟩) id
      subst e2
      obtain ⟨⟨q, _⟩, _⟩ := S.slot i _ e
      exact (nb i k q e).elim
  inj := fun i j a u u' p p' h1 h2 h3 h4 => by
    rw [wipeE_get] at h1 h2
    rw [wipe_get] at h3 h4
    split at h1
    · cases e : env[i]? <;> rw [e] at h1 <;> cases h1
    · rename_i c
      split at h2
      · cases e : env[j]? <;> rw [e] at h2 <;> cases h2
      · rename_i d
        rw [if_neg c] at h3
        rw [if_neg d] at h4
        exact S.inj i j a u u' p p' h1 h2 h3 h4
theorem Stp.wipe (st : Stp F H σ env F' H' σ' env') (h : ∀ (v : Nat) (u : U), v ∈ vs → env[v]? ≠ some (.own u true)) : Stp F H σ env F' H' (L2.wipe σ' vs) (wipeE env' vs) :=
  ⟨st.ext, st.keep, fun a q => st.sub a (own_wipe q), st.new, fun i u e => by
    obtain ⟨h1, u', h2⟩ := st.pin i u e
    have c : i ∉ vs := fun z => h i u z e
    exact ⟨by rw [wipe_get, if_neg c]; exact h1, u', by rw [wipeE_get, if_neg c]; exact h2⟩⟩
/-- a comprehension begins -/
theorem Sim.blk (S : Sim K fa n F H σ env) (he : env.length = n) (hv : ∀ v ∈ vs, v < n) (ok : vs.all (okS env) = true) : Sim K fa n F H (L2.wipe σ vs) (wipeE env vs) ∧ Stp F H σ env F H (L2.wipe σ vs) (wipeE env vs) := by
  have hk : ∀ (v : Nat), v ∈ vs → env[v]? = some .emp ∨ ∃ u, env[v]? = some (.val u) := fun v hvv => by
    have := List.all_eq_true.mp ok v hvv
    unfold okS at this
    split at this
    · exact .inl (by assumption)
    · exact .inr ⟨_, by assumption⟩
    · cases this
  refine ⟨S.wipe hv fun j k hk e => ?_, (Stp.refl _ _ _ _).wipe fun v u hvv e => ?_⟩
  · obtain ⟨⟨_, q⟩, _⟩ := S.slot j _ e
    have := ltOf e
    omega
  · rcases hk v hvv with q | ⟨_, q⟩ <;> rw [q] at e <;> cases e
/-- .. and ends -/
theorem unwipe_ok {F1 H1 F2 H2 : Hp} (S : Sim K fa n F1 H1 σ env) (he : env.length = n) (hσ : σ.length = n) (hv : ∀ v ∈ vs, v < n) (ok : vs.all (okS env) = true) (S2 : Sim K fa n F2 H2 (L2.wipe σ vs ++ τ) (env' ++ ws)) (he' : env'.length = n) (hw : NoBor ws)
    (st : Stp F1 H1 (L2.wipe σ vs) (wipeE env vs) F2 H2 (L2.wipe σ vs ++ τ) (env' ++ ws)) : Sim K fa n F2 H2 (σ ++ τ) (unwipe env env' vs ++ ws) ∧ Stp F1 H1 σ env F2 H2 (σ ++ τ) (unwipe env env' vs ++ ws) := by
  have hk : ∀ (v : Nat), v ∈ vs → env[v]? = some .emp ∨ ∃ u, env[v]? = some (.val u) := fun v hvv => by
    have := List.all_eq_true.mp ok v hvv
    unfold okS at this
    split at this
    · exact .inl (by assumption)
    · exact .inr ⟨_, by assumption⟩
    · cases this
  have hlE : (unwipe env env' vs).length = n := by rw [unwipe_length]; exact he'
  have hlW : (L2.wipe σ vs).length = n := by rw [wipe_length]; exact hσ
  have ug : ∀ j, (unwipe env env' vs)[j]? = if j ∈ vs then env[j]? else env'[j]? := fun j => unwipe_get (by omega) j
  -- an own place is one of the block's
  have old : ∀ (j : Nat) (u : U) (p : Bool) (a : Addr), (unwipe env env' vs ++ ws)[j]? = some (.own u p) → (σ ++ τ)[j]? = some (some (.ref a)) → (env' ++ ws)[j]? = some (.own u p) ∧ (L2.wipe σ vs ++ τ)[j]? = some (some (.ref a)) := fun j u p a h1 h2 => by
    by_cases c : j < n
    · rw [getL (by omega), ug] at h1
      rw [getL (by omega)] at h2
      rw [getL (by omega), getL (by omega), wipe_get]
      split at h1
      · rename_i d
        rcases hk j d with q | ⟨_, q⟩ <;> rw [q] at h1 <;> cases h1
      · rename_i d
        rw [if_neg d]
        exact ⟨h1, h2⟩
    · rw [getR (by omega), hlE] at h1
      rw [getR (by omega), hσ] at h2
      rw [getR (by omega), getR (by omega), he', hlW]
      exact ⟨h1, h2⟩
  refine ⟨⟨by have := S2.len; simp only [List.length_append, wipe_length] at this ⊢; rw [unwipe_length]; exact this, S2.fr, fun i s e => ?_, fun i j a u u' p p' h1 h2 h3 h4 => ?_⟩, ⟨st.ext, fun a o h no => st.keep a o h fun z => no (own_wipe z), fun a ⟨j, u, p, h1, h2⟩ => ?_, fun a o h => ?_, fun i u e => ?_⟩⟩
  · by_cases c : i < n
    · rw [getL (by omega), ug] at e
      split at e
      · rename_i d
        refine (S.slot i s e).move st.ext (getL (by omega)) (fun k e2 => ?_) (fun u p a o e2 h1 h2 h3 => ?_) id
        · subst e2; rcases hk i d with q | ⟨_, q⟩ <;> rw [q] at e <;> cases e
        · subst e2; rcases hk i d with q | ⟨_, q⟩ <;> rw [q] at e <;> cases e
      · rename_i d
        refine (S2.slot i s (by rw [getL (by omega)]; exact e)).move (.refl _) (by rw [getL (by omega), getL (by omega), wipe_get, if_neg d]) (fun k e2 => ?_) (fun _ _ _ _ _ _ a b => ⟨a, b⟩) id
        subst e2
        obtain ⟨⟨_, q⟩, _⟩ := S2.slot i (.bor k) (by rw [getL (by omega)]; exact e)
        omega
    · rw [getR (by omega), hlE] at e
      refine (S2.slot i s (by rw [getR (by omega), he']; exact e)).move (.refl _) (by rw [getR (by omega), getR (by omega), hlW, hσ]) (fun k e2 => ?_) (fun _ _ _ _ _ _ a b => ⟨a, b⟩) id
      subst e2
      exact (hw _ (List.mem_of_getElem? e) k rfl).elim
  · obtain ⟨x1, x2⟩ := old i u p a h1 h3
    obtain ⟨y1, y2⟩ := old j u' p' a h2 h4
    exact S2.inj i j a u u' p p' x1 y1 x2 y2
  · obtain ⟨x1, x2⟩ := old j u p a h1 h2
    exact (st.sub a ⟨j, u, p, x1, x2⟩).imp own_wipe id
  · exact (st.new a o h).imp id fun z => z.imp own_wipe id
  · have c : i ∉ vs := fun z => by rcases hk i z with q | ⟨_, q⟩ <;> rw [q] at e <;> cases e
    have hi := ltOf e
    obtain ⟨h1, u', h2⟩ := st.pin i u (by rw [wipeE_get, if_neg c]; exact e)
    rw [getL (by omega), wipe_get, if_neg c] at h1
    rw [getL (by omega)] at h2
    exact ⟨getL (by omega), u', by rw [getL (by omega), ug, if_neg c]; exact h2⟩
/-- the container at an own place, changed -/
theorem Sim.mut {i : Nat} {u u' : U} {p : Bool} {a : Addr} {o : HO} (S : Sim K fa n F H σ env) (h : env[i]? = some (.own u p)) (h2 : σ[i]? = some (some (.ref a))) (r : Hold K fa F o u') :
    Sim K fa n F (upd H a o) σ (env.set i (.own u' p)) ∧ Stp F H σ env F (upd H a o) σ (env.set i (.own u' p)) := by
  obtain ⟨b, ob, q1, q2, q3, q4⟩ := S.slot i _ h
  rw [h2] at q1
  cases q1
  have hi := ltOf h
  have old : ∀ (j : Nat) (w : U) (q : Bool) (b : Addr), (env.set i (.own u' p))[j]? = some (.own w q) → σ[j]? = some (some (.ref b)) → ∃ w', env[j]? = some (.own w' q) ∧ (b = a → j = i) := fun j w q b e1 e2 => by
    by_cases c : i = j
    · subst c
      rw [List.getElem?_set_self hi] at e1
      cases e1
      exact ⟨u, h, fun _ => rfl⟩
    · rw [List.getElem?_set_ne c] at e1
      exact ⟨w, e1, fun z => by subst z; exact S.inj j i b _ _ _ _ e1 h e2 h2⟩
  refine ⟨⟨by rw [List.length_set]; exact S.len, fun b ob e => ?_, fun j s e => ?_, fun j k b w w' q q' e1 e2 e3 e4 => ?_⟩, ⟨.refl _, fun b ob e no => ?_, fun b ⟨j, w, q, e1, e2⟩ => ?_, fun _ _ e => .inl e, fun j w e => ⟨rfl, ?_⟩⟩⟩
  · rw [upd_ne (fun z => by subst z; rw [q4] at e; cases e)]
    exact S.fr b ob e
  · by_cases c : i = j
    · subst c
      rw [List.getElem?_set_self hi] at e
      cases e
      exact ⟨a, o, h2, upd_same, r, q4⟩
    · rw [List.getElem?_set_ne c] at e
      refine (S.slot j s e).move (.refl _) rfl (fun _ _ => rfl) (fun w q b ob e2 e3 e4 e5 => ⟨?_, e5⟩) id
      subst e2
      rw [upd_ne (fun z => c (by subst z; exact S.inj i j b _ _ _ _ h e h2 e3))]
      exact e4
  · obtain ⟨_, x1, _⟩ := old j w q b e1 e3
    obtain ⟨_, y1, _⟩ := old k w' q' b e2 e4
    exact S.inj j k b _ _ _ _ x1 y1 e3 e4
  · rw [upd_ne (fun z => no ⟨i, u, p, h, by rw [z]; exact h2⟩)]
    exact e
  · obtain ⟨_, x1, _⟩ := old j w q b e1 e2
    exact .inl ⟨j, _, q, x1, e2⟩
  · by_cases c : i = j
    · subst c
      rw [h] at e
      cases e
      exact ⟨u', List.getElem?_set_self hi⟩
    · exact ⟨w, by rw [List.getElem?_set_ne c]; exact e⟩
end
end PF
end
section
set_option Elab.async false
set_option autoImplicit false
set_option linter.all false
set_option maxRecDepth 100000
namespace PF
open PySem PySem.Spec PyProof.Rows L2

def W0 : WX := fun _ _ _ _ => False
section
variable {T : Tbl} {G : Gx} {fa : FA} {XR : XRt} {k : Nat} {W : WX} {X : Cx} {σ : L2.St} {H : Hp} {F : Hp} {env : En}
def tCnd (G : Gx) (fa : FA) (XR : XRt) (X : Cx) (c : E) : TT := match c with
  | .nil => tYes
  | c => tEvT G fa XR W0 X c
theorem evT_cond {c : E} {env env1 : En} {b : Bool} (h : c ≠ .nil) (e : condF c (evE G c) env = .ok (b, env1)) : evT G c env = .ok (b, env1) := by
  unfold condF at e
  split at e
  · exact (h rfl).elim
  · exact e
theorem tCnd_of {c : E} {env1 : En} {b : Bool} {Q : Bool → Hp → Prop} (hn : σ.length = X.N.length) (hl : env.length = X.N.length) (S : Sim X.K fa X.N.length F H σ env) (e : condF c (evE G c) env = .ok (b, env1))
    (q : ∀ F1 H1, Sim X.K fa X.N.length F1 H1 σ env1 → Stp F H σ env F1 H1 σ env1 → env1.length = X.N.length → Q b H1) : tCnd G fa XR X c σ H Q := by
  unfold tCnd
  split
  · simp only [condF] at e
    cases e
    exact q F H S (.refl _ _ _ _) hl
  · rename_i hc
    refine ⟨F, env, hn, S, ?_⟩
    rw [evT_cond (fun z => hc z) e]
    intro vs F1 H1 S1 st1 l1
    cases bare S1 (by omega)
    simp only [List.map_nil, List.append_nil] at S1 st1
    exact q F1 H1 S1 st1 l1
theorem Res.of_inv {α : Type} {o : Option α} {a : α} (h : Res.of o = .ok a) : o = some a := by
  cases o with
  | none => cases h
  | some b => cases h; rfl
theorem noExc_inv {α : Type} {r : Res α} {a : α} (h : noExc r = .ok a) : r = .ok a := by
  cases r <;> first | exact h | cases h
theorem nb_one {u : U} {p : Bool} : NoBor [Slot.own u p] := fun s hs j z => by
  simp at hs; subst hs; cases z
theorem cmp_read {vs : List Nat} {tg it c elt : E} {Q : VK} (hv : ∀ v ∈ vs, v < X.N.length) (ht : ∀ v ∈ tg.tgs, v ∈ vs) (q0 : tEv G fa XR W X (.cmp1 vs tg it c elt) σ H Q) :
    tLc (tEvI G fa XR W X it) (tSto fa X tg) (tCnd G fa XR X c) (tEv G fa XR W0 X elt) vs σ H Q := by
  obtain ⟨F, env, hn, S, o⟩ := q0
  simp only [evE] at o
  refine ⟨F, env, hn, S, ?_⟩
  cases ei : evI G it env with
  | bad => rw [ei] at o; exact o.elim
  | exc x e => rw [ei] at o; exact o
  | ok z =>
    obtain ⟨xs, env1⟩ := z
    rw [ei] at o
    simp only [Res.bind_ok] at o
    intro J F1 H1 S1 st1 l1 hJ
    split at o
    · rename_i ok
      cases er : noExc (compGo (turnC vs tg c (evE G c) (evE G elt)) xs (wipeE env1 vs)) with
      | bad => rw [er] at o; exact o.elim
      | exc x e =>
        exfalso
        cases hx : compGo (turnC vs tg c (evE G c) (evE G elt)) xs (wipeE env1 vs) <;> rw [hx] at er <;> cases er
      | ok z =>
        obtain ⟨us, eF⟩ := z
        rw [er] at o
        have er := noExc_inv er
        simp only [Res.bind_ok] at o
        split at o
        · rename_i hz
          intro D hD
          obtain ⟨S0, st0⟩ := S1.blk l1 hv ok
          have hlW : (wipe σ vs).length = X.N.length := by rw [wipe_length]; exact hn
          have hlE : (wipeE env1 vs).length = X.N.length := by rw [wipeE_length]; exact l1
          obtain ⟨Sd, std⟩ := (OpPost.own S1.fr hD (.lst (K := X.K) (fa := fa) .nil)).sim S0
          have npin : ∀ (v : Nat) (u : U), v ∈ vs → (wipeE env1 vs)[v]? ≠ some (.own u true) := fun v u hvv e => by
            rw [wipeE_get, if_pos hvv] at e
            cases q : env1[v]? <;> rw [q] at e <;> cases e
          refine ⟨fun i m H => m = xs.length - i ∧ i ≤ xs.length ∧ ∃ F2 e acc us', Sim X.K fa X.N.length F2 H (wipe σ vs ++ [some (.ref D)]) (e ++ [.own (.lst acc) false]) ∧
            Stp F1 H1 (wipe σ vs) (wipeE env1 vs) F2 H (wipe σ vs ++ [some (.ref D)]) (e ++ [.own (.lst acc) false]) ∧ e.length = X.N.length ∧ compGo (turnC vs tg c (evE G c) (evE G elt)) (xs.drop i) e = .ok (us', eF) ∧ acc ++ us' = us,
            ⟨xs.length, by simp, Nat.zero_le _, F1, wipeE env1 vs, [], us, Sd, std, hlE, er, rfl⟩, ?_⟩
          rintro i m H ⟨rfl, hi, F2, e, acc, us', S2, st2, l2, run, eu⟩
          have hs := hJ i F2 H st2.ext S2.fr
          by_cases hlt : i < xs.length
          · obtain ⟨go, yl⟩ := hs.1 xs[i] (List.getElem?_eq_getElem hlt)
            refine .inr ⟨go, fun H => i + 1 ≤ xs.length ∧ ∃ F2 e acc us', Sim X.K fa X.N.length F2 H (wipe σ vs ++ [some (.ref D)]) (e ++ [.own (.lst acc) false]) ∧
              Stp F1 H1 (wipe σ vs) (wipeE env1 vs) F2 H (wipe σ vs ++ [some (.ref D)]) (e ++ [.own (.lst acc) false]) ∧ e.length = X.N.length ∧ compGo (turnC vs tg c (evE G c) (evE G elt)) (xs.drop (i + 1)) e = .ok (us', eF) ∧ acc ++ us' = us,
              fun H' p => ⟨xs.length - (i + 1), by omega, rfl, p⟩, fun xv H' y => ?_⟩
            obtain ⟨F3, P⟩ := yl xv H' y
            rw [List.drop_eq_getElem_cons hlt] at run
            simp only [compGo] at run
            obtain ⟨⟨o1, e1⟩, t1, run⟩ := Res.inv run
            obtain ⟨⟨us2, e2⟩, t2, run⟩ := Res.inv run
            unfold turnC at t1
            obtain ⟨ea, k1, t1⟩ := Res.inv t1
            obtain ⟨⟨b, eb⟩, k2, t1⟩ := Res.inv t1
            have k1 := Res.of_inv k1
            obtain ⟨S3, st3⟩ := P.sim S2
            have S3' := S3.head S2.len (by simp; omega)
            have st3' := st3.head S2.len (Nat.le_refl _)
            refine ⟨F3, e, [some (.ref D)], [.own (.lst acc) false], xs[i], ea, hlW, l2, S3', nb_one, P.rep, k1, fun σ4 S4 st4 hn4 he4 kp4 => ⟨?_, ?_⟩⟩
            · apply List.ext_getElem?
              intro j
              rw [wipe_get, wipe_get]
              split
              · rename_i hj
                have := hv j hj
                rw [List.getElem?_eq_getElem (by omega), List.getElem?_eq_getElem (by omega)]
                rfl
              · rename_i hj
                rw [kp4 j (fun z => hj (ht j z)), wipe_get, if_neg hj]
            · have wσ : wipe σ4 vs = wipe σ vs := by
                apply List.ext_getElem?
                intro j
                rw [wipe_get, wipe_get]
                split
                · rename_i hj
                  have := hv j hj
                  rw [List.getElem?_eq_getElem (by omega), List.getElem?_eq_getElem (by omega)]
                  rfl
                · rename_i hj
                  rw [kp4 j (fun z => hj (ht j z)), wipe_get, if_neg hj]
              have st04 : Stp F1 H1 (wipe σ vs) (wipeE env1 vs) F3 H' (σ4 ++ [some (.ref D)]) (ea ++ [.own (.lst acc) false]) := (st2.trans st3').trans st4
              -- what a turn leaves, its names forgotten
              have fin : ∀ {F5 H5 : Hp} {en : En} {ac : List U}, en.length = X.N.length → Sim X.K fa X.N.length F5 H5 (σ4 ++ [some (.ref D)]) (en ++ [.own (.lst ac) false]) → Stp F1 H1 (wipe σ vs) (wipeE env1 vs) F5 H5 (σ4 ++ [some (.ref D)]) (en ++ [.own (.lst ac) false]) →
                  Sim X.K fa X.N.length F5 H5 (wipe σ vs ++ [some (.ref D)]) (wipeE en vs ++ [.own (.lst ac) false]) ∧ Stp F1 H1 (wipe σ vs) (wipeE env1 vs) F5 H5 (wipe σ vs ++ [some (.ref D)]) (wipeE en vs ++ [.own (.lst ac) false]) := fun {F5 H5 en ac} hen S5 st5 => by
                have A1 := S5.wipe hv (fun j kk hk z => by
                  by_cases c : j < en.length
                  · obtain ⟨⟨_, q⟩, _⟩ := S5.slot j _ z
                    omega
                  · rw [getR (by omega)] at z
                    have := (one_at z).2
                    cases this)
                have A2 := st5.wipe (vs := vs) npin
                rw [wipe_app (fun v hvv => by have := hv v hvv; omega), wipeE_app (fun v hvv => by have := hv v hvv; omega), wσ] at A1 A2
                exact ⟨A1, A2⟩
              refine tCnd_of hn4 he4 (S4.head (by omega) (by omega)) k2 fun F5 H5 S5 st5 l5 => ?_
              obtain ⟨S6, st6⟩ := frame (τ := [some (.ref D)]) (ws := [.own (.lst acc) false]) (τ2 := []) (ws2 := []) S4 hn4 he4 l5 (by simpa using S5) (by simpa using st5)
              simp only [List.append_nil] at S6 st6
              cases b with
              | false =>
                simp only [Bool.false_eq_true, if_false] at t1 ⊢
                cases t1
                cases run
                obtain ⟨A1, A2⟩ := fin l5 S6 (st04.trans st6)
                exact ⟨hlt, F5, wipeE eb vs, acc, us2, A1, A2, by rw [wipeE_length]; exact l5, t2, eu⟩
              | true =>
                simp only [if_true] at t1 ⊢
                obtain ⟨⟨w, ec⟩, k3, t1⟩ := Res.inv t1
                obtain ⟨u, k4, t1⟩ := Res.inv t1
                have k4 := Res.of_inv k4
                cases t1
                cases run
                refine ⟨F5, eb, hn4, S5, ?_⟩
                rw [k3]
                intro ys F6 H6 S7 st7 l7
                have hy : ys.length = 1 := len_side S7 (by omega)
                obtain ⟨v, rfl⟩ := List.length_eq_one_iff.mp hy
                refine ⟨v, rfl, ?_⟩
                obtain ⟨S8, st8⟩ := frame (τ := [some (.ref D)]) (ws := [.own (.lst acc) false]) S6 hn4 l5 l7 S7 st7
                simp only [List.map_cons, List.map_nil, List.singleton_append] at S8 st8
                obtain ⟨F9, S9, st9⟩ := frz_one (i := ec.length + 1) S8 (by rw [getR (by omega)]; simp) k4
                have es : (ec ++ [.own (.lst acc) false, w]).set (ec.length + 1) (.val u) = ec ++ [.own (.lst acc) false, .val u] := by rw [List.set_append, if_neg (by omega)]; simp
                rw [es] at S9 st9
                have atD : (σ4 ++ [some (V.ref D), some v])[ec.length]? = some (some (.ref D)) := by rw [l7, ← hn4, getR (Nat.le_refl _)]; simp
                have atv : (σ4 ++ [some (V.ref D), some v])[ec.length + 1]? = some (some v) := by rw [l7, ← hn4, getR (by omega)]; simp
                obtain ⟨a, ob, q1, q2, q3, q4⟩ := S9.slot ec.length (.own (.lst acc) false) (by rw [getR (Nat.le_refl _)]; simp)
                rw [atD] at q1
                cases q1
                cases q3 with
                | lst r3 =>
                  rename_i accV
                  obtain ⟨v', q5, q6⟩ := S9.slot (ec.length + 1) (.val u) (by rw [getR (by omega)]; simp)
                  rw [atv] at q5
                  cases q5
                  have hlen : acc.length < sizeLine := by
                    have : us.length = acc.length + (us2.length + 1) := by rw [← eu]; simp
                    omega
                  refine ⟨accV, q2, by have := r3.length; omega, ?_⟩
                  obtain ⟨S10, st10⟩ := S9.mut (u := .lst acc) (p := false) (u' := .lst (acc ++ [u])) (o := .lst (accV ++ [v])) (i := ec.length) (by rw [getR (Nat.le_refl _)]; simp) atD (.lst (r3.app (.cons q6 .nil)))
                  have es : (ec ++ [Slot.own (.lst acc) false, .val u]).set ec.length (.own (.lst (acc ++ [u])) false) = (ec ++ [.own (.lst (acc ++ [u])) false]) ++ [.val u] := by rw [List.set_append]; simp
                  have es2 : σ4 ++ [some (V.ref D), some v] = (σ4 ++ [some (V.ref D)]) ++ [some v] := by simp
                  rw [es] at S10 st10
                  have B1 := st8.trans (st9.trans st10)
                  rw [es2] at S10 B1
                  have hz1 : (σ4 ++ [some (V.ref D)]).length = (ec ++ [Slot.own (.lst (acc ++ [u])) false]).length := by simp; omega
                  have S11 := S10.head hz1 (by simp; omega)
                  have B2 := B1.head hz1 (by simp; omega)
                  obtain ⟨A1, A2⟩ := fin l7 S11 (st04.trans (st6.trans B2))
                  exact ⟨hlt, F9, wipeE ec vs, acc ++ [u], us2, A1, A2, by rw [wipeE_length]; exact l7, t2, by rw [← eu]; simp⟩
          · have hi' : i = xs.length := by omega
            subst hi'
            rw [List.drop_length] at run
            simp only [compGo] at run
            cases run
            rw [List.append_nil] at eu
            subst eu
            refine .inl ⟨hs.2 (Nat.le_refl _), ?_⟩
            obtain ⟨S3, st3⟩ := unwipe_ok S1 l1 hn hv ok S2 l2 nb_one st2
            obtain ⟨v, e', q⟩ := o [.ref D] F2 H S3 (st1.trans st3) (by rw [unwipe_length]; exact l2)
            cases e'
            exact q
        · exact o.elim
    · exact o.elim
theorem relS_lookup {scope sc : Scope} {x : Str} {kd : NameKind} (h : scope.names.lookup x = some kd) (hk : (kd == .free) = false) : (relS scope sc).names.lookup x = some kd := by
  unfold relS
  show (scope.names.map _).lookup x = some kd
  revert h
  generalize scope.names = l
  intro h
  induction l with
  | nil => cases h
  | cons y r ih =>
    obtain ⟨m, k0⟩ := y
    simp only [List.map_cons]
    by_cases c : x == m
    · have c' : x = m := by simpa using c
      subst c'
      rw [List.lookup_cons_self] at h
      cases h
      rw [show (kd == NameKind.free && sc.kind == ScopeKind.function && List.lookup x sc.names == some NameKind.cell) = false by rw [hk]; rfl]
      simp
    · rw [List.lookup_cons, show (x == m) = false by simpa using c] at h
      have := ih h
      split
      · rw [List.lookup_cons, show (x == m) = false by simpa using c]; exact this
      · rw [List.lookup_cons, show (x == m) = false by simpa using c]; exact this
theorem Amb.blk (A : Amb T G fa XR k W X) {s : Shared} {H : Hp} {scope : Scope} {C : Addr} {cl : List (Str × Addr)} {fp : List Addr} : Amb T G fa XR k W0 (X.blk s H scope (compEnvC scope cl C X.env) fp) where
  calm := A.calm
  nd := A.nd
  room := A.room
  takes := fun u s' ⟨_, _, _, _, _, _, _, _, _, _, _, _, _, _, _, _, w⟩ => w.elim
  free := A.free
  cst := A.cst
  fns := A.fns
  md := A.md
  ok := A.ok
theorem fold_plain {x : Expr} {env : Env} (h : plainB x = true) : ∀ v, foldedSetIterable x env v = pure v := by
  cases x <;> first | (intro v; rfl) | cases h
theorem own_map {N : List Str} {vs : List Nat} : (ownOf N vs).map (·.2) = vs := by
  unfold ownOf
  rw [List.map_map]
  exact List.map_id _
/-- what a comprehension's parts are -/
structure CompOk (T : Tbl) (G : Gx) (fa : FA) (XR : XRt) (X : Cx) (vs : List Nat) (tg it c elt : E) (scope : Scope) (elt' tg' it' : Expr) (ifs : List Expr) (W : WX) : Prop where
  blk : BlkOk X.N X.env.scope scope (ownOf X.N vs)
  lt : ∀ v ∈ vs, v < X.N.length
  ts : ∀ v ∈ tg.tgs, v ∈ vs
  it : PI X tg' it' (tEvI G fa XR W X it)
  g : ∀ (s : Shared) (H : Hp) (C : Addr) (cl : List (Str × Addr)) (fp : List Addr), PG (X.blk s H scope (compEnvC scope cl C X.env) fp) tg' (tSto fa X tg)
  t : ∀ (s : Shared) (H : Hp) (C : Addr) (cl : List (Str × Addr)) (fp : List Addr), PTs (X.blk s H scope (compEnvC scope cl C X.env) fp) ifs (tCnd G fa XR X c)
  e : ∀ (s : Shared) (H : Hp) (C : Addr) (cl : List (Str × Addr)) (fp : List Addr), PE (X.blk s H scope (compEnvC scope cl C X.env) fp) elt' (tEv G fa XR W0 X elt)
  s : ∀ x, foldedSetIterable it' X.env x = pure x
theorem chk_cmp {N : List Str} {sc scope : Scope} {vs : List Nat} {tg it c elt : E} {elt' tg' it' : Expr} {ifs : List Expr} {as : Int} {p : Pos} (h : chkE T N (.cmp1 vs tg it c elt) sc (.ListComp elt' [⟨tg', it', ifs, as⟩] scope p) = true) :
    (decide (as = 0) && compB N vs tg sc scope tg' it' && chkI T N it sc tg' it' && chkE T N elt (relS scope sc) elt' && cndB c ifs (chkE T N c (relS scope sc))) = true := h
theorem comp_ok {vs : List Nat} {tg it c elt : E} {elt' : Expr} {gs : List Comprehension} {scope : Scope} {p : Pos} (A : Amb T G fa XR k W X) (hi : OkI T G fa XR k it) (hc : OkT T G fa XR k c) (he : OkE T G fa XR k elt)
    (h : chkE T X.N (.cmp1 vs tg it c elt) X.env.scope (.ListComp elt' gs scope p) = true) : ∃ tg' it' ifs, gs = [⟨tg', it', ifs, 0⟩] ∧ CompOk T G fa XR X vs tg it c elt scope elt' tg' it' ifs W := by
  rcases gs with _ | ⟨⟨tg', it', ifs, as⟩, _ | ⟨_, _⟩⟩ <;> first | (simp [chkE] at h; done) | skip
  have h := chk_cmp h
  simp only [compB, Bool.and_eq_true, List.all_eq_true, decide_eq_true_eq] at h
  obtain ⟨⟨⟨⟨h0, ⟨⟨h1, h2⟩, h3⟩, h4⟩, h5⟩, h6⟩, h7⟩ := h
  subst h0
  refine ⟨tg', it', ifs, rfl, ?_⟩
  have hb := blkOk_by h2
  refine ⟨hb, fun v hv => ?_, fun v hv => by simpa using h4 v hv, hi X W A tg' it' h5, fun s H C cl fp => ?_, fun s H C cl fp => ?_, fun s H C cl fp => ?_, fold_plain h1⟩
  · have := hb.ix ((X.N[v]?).getD ⟨#[]⟩, v) (by unfold ownOf; exact List.mem_map.mpr ⟨v, hv, rfl⟩)
    exact ltOf this
  · refine pg_of (fa := fa) (X := X.blk s H scope (compEnvC scope cl C X.env) fp) A.calm A.nd (sc := scope) (fun x hx => ?_) tg h3
    show Loc (relS scope X.env.scope) x ∧ ((scope.names.lookup x == some .cell) = true ∨ (relS scope X.env.scope).names.lookup x = some .local)
    rcases locB_of hx with q | q
    · have := relS_lookup (sc := X.env.scope) q rfl
      exact ⟨.inl this, .inr this⟩
    · have := relS_lookup (sc := X.env.scope) q rfl
      exact ⟨.inr this, .inl (by rw [q]; rfl)⟩
  · have AB := A.blk (s := s) (H := H) (scope := scope) (C := C) (cl := cl) (fp := fp)
    rcases ifs with _ | ⟨c', _ | ⟨_, _⟩⟩
    · cases c <;> first | (simp [cndB] at h7; done) | exact pts_nil
    · have hcn : tCnd G fa XR X c = tEvT G fa XR W0 X c := by cases c <;> first | rfl | (simp [cndB] at h7; done)
      rw [hcn]
      refine pts_one (hc _ W0 AB c' ?_)
      cases c <;> first | (simp [cndB] at h7; done) | exact h7
    · simp [cndB] at h7
  · exact he _ W0 (A.blk (s := s) (H := H) (scope := scope) (C := C) (cl := cl) (fp := fp)) elt' h6
theorem ok_cmp1 {vs : List Nat} {tg it c elt : E} (hi : OkI T G fa XR k it) (hc : OkT T G fa XR k c) (he : OkE T G fa XR k elt) : OkE T G fa XR k (.cmp1 vs tg it c elt) := fun X W A ex h => by
  cases ex <;> first | (simp [chkE] at h; done) | skip
  obtain ⟨tg', it', ifs, rfl, P⟩ := comp_ok A hi hc he h
  have q := pe_lc A.calm A.nd P.it P.blk P.g P.t P.e P.s (pos := by assumption)
  rw [own_map] at q
  exact PE.imp q fun σ H Q q0 => cmp_read P.lt P.ts q0
end
end PF
end
section
set_option Elab.async false
set_option autoImplicit false
set_option linter.all false
set_option maxRecDepth 100000
namespace PF
open PySem PySem.Spec PyProof.Rows L2

section
variable {T : Tbl} {G : Gx} {fa : FA} {XR : XRt} {k : Nat}
structure OkAll (T : Tbl) (G : Gx) (fa : FA) (XR : XRt) (k : Nat) (x : E) : Prop where
  e : OkE T G fa XR k x
  t : OkT T G fa XR k x
  l : OkL T G fa XR k x
  i : OkI T G fa XR k x
  w : OkW T G fa XR k x
  h : ∀ a r, x = .cons a r → OkE T G fa XR k a
/-- an expression that is neither a test, nor a list, nor an iterator -/
theorem all_plain {e : E} (he : OkE T G fa XR k e) (ht : e.tst = false) (hl : ∀ N sc xs, chkL T N e sc xs = false) (hi : ∀ N sc tg ex, chkI T N e sc tg ex = false) (hw : ∀ N sc op xs p, chkE T N e sc (.BoolOp op xs p) = false) (hh : ∀ a r, e ≠ .cons a r) : OkAll T G fa XR k e :=
  ⟨he, okT_val he ht, fun X W A xs h => (by rw [hl] at h; cases h), fun X W A tg ex h => (by rw [hi] at h; cases h), fun X W A op xs p h => (by rw [hw] at h; cases h), fun a r z => (hh a r z).elim⟩
theorem all_tst {e : E} (he : OkE T G fa XR k e) (ht : OkT T G fa XR k e) (hw : OkW T G fa XR k e) (hl : ∀ N sc xs, chkL T N e sc xs = false) (hi : ∀ N sc tg ex, chkI T N e sc tg ex = false) (hh : ∀ a r, e ≠ .cons a r) : OkAll T G fa XR k e :=
  ⟨he, ht, fun X W A xs h => (by rw [hl] at h; cases h), fun X W A tg ex h => (by rw [hi] at h; cases h), hw, fun a r z => (hh a r z).elim⟩
theorem noE {e : E} (h : ∀ N sc ex, chkE T N e sc ex = false) : OkE T G fa XR k e := fun X W A ex c => by rw [h] at c; cases c
theorem noW {e : E} (h : ∀ N sc op xs p, chkE T N e sc (.BoolOp op xs p) = false) : OkW T G fa XR k e := fun X W A op xs p c => by rw [h] at c; cases c
theorem ok_all : ∀ e : E, OkAll T G fa XR k e := by
  intro e
  induction e with
  | nil => exact ⟨noE fun N sc ex => by cases ex <;> simp [chkE], okT_val (noE fun N sc ex => by cases ex <;> simp [chkE]) rfl, ok_nilL, fun X W A tg ex h => (by simp [chkI] at h), noW fun N sc op xs p => by simp [chkE], fun a r z => by cases z⟩
  | cons a r iha ihr => exact ⟨noE fun N sc ex => by cases ex <;> simp [chkE], okT_val (noE fun N sc ex => by cases ex <;> simp [chkE]) rfl, ok_consL iha.e ihr.l, fun X W A tg ex h => (by simp [chkI] at h), noW fun N sc op xs p => by simp [chkE], fun a' r' z => by cases z; exact iha.e⟩
  | var i => exact all_plain (ok_var i) rfl (fun N sc xs => by cases xs <;> simp [chkL]) (fun N sc tg ex => by simp [chkI]) (fun N sc op xs p => by simp [chkE]) (fun a r z => by cases z)
  | bor i => exact all_plain (ok_bor i) rfl (fun N sc xs => by cases xs <;> simp [chkL]) (fun N sc tg ex => by simp [chkI]) (fun N sc op xs p => by simp [chkE]) (fun a r z => by cases z)
  | mov i => exact all_plain (ok_mov i) rfl (fun N sc xs => by cases xs <;> simp [chkL]) (fun N sc tg ex => by simp [chkI]) (fun N sc op xs p => by simp [chkE]) (fun a r z => by cases z)
  | con u => exact all_plain (ok_con u) rfl (fun N sc xs => by cases xs <;> simp [chkL]) (fun N sc tg ex => by simp [chkI]) (fun N sc op xs p => by simp [chkE]) (fun a r z => by cases z)
  | glc i => exact all_plain (ok_glc i) rfl (fun N sc xs => by cases xs <;> simp [chkL]) (fun N sc tg ex => by simp [chkI]) (fun N sc op xs p => by simp [chkE]) (fun a r z => by cases z)
  | fnr i => exact all_plain (ok_fnr i) rfl (fun N sc xs => by cases xs <;> simp [chkL]) (fun N sc tg ex => by simp [chkI]) (fun N sc op xs p => by simp [chkE]) (fun a r z => by cases z)
  | tup es ih => exact all_plain (ok_tup ih.l) rfl (fun N sc xs => by cases xs <;> simp [chkL]) (fun N sc tg ex => by simp [chkI]) (fun N sc op xs p => by simp [chkE]) (fun a r z => by cases z)
  | lst es ih => exact all_plain (ok_lst ih.l) rfl (fun N sc xs => by cases xs <;> simp [chkL]) (fun N sc tg ex => by simp [chkI]) (fun N sc op xs p => by simp [chkE]) (fun a r z => by cases z)
  | dic0 => exact all_plain ok_dic0 rfl (fun N sc xs => by cases xs <;> simp [chkL]) (fun N sc tg ex => by simp [chkI]) (fun N sc op xs p => by simp [chkE]) (fun a r z => by cases z)
  | bin op a b iha ihb => exact all_plain (ok_bin iha.e ihb.e) rfl (fun N sc xs => by cases xs <;> simp [chkL]) (fun N sc tg ex => by simp [chkI]) (fun N sc op xs p => by simp [chkE]) (fun a r z => by cases z)
  | neg a iha => exact all_plain (ok_neg iha.e) rfl (fun N sc xs => by cases xs <;> simp [chkL]) (fun N sc tg ex => by simp [chkI]) (fun N sc op xs p => by simp [chkE]) (fun a r z => by cases z)
  | not a iha => exact all_tst (ok_not iha.e) (okT_not iha.t) (noW fun N sc op xs p => by simp [chkE]) (fun N sc xs => by cases xs <;> simp [chkL]) (fun N sc tg ex => by simp [chkI]) (fun a r z => by cases z)
  | cmp op a b iha ihb => exact all_tst (ok_cmp iha.e ihb.e) (okT_cmp iha.e ihb.e) (noW fun N sc op xs p => by simp [chkE]) (fun N sc xs => by cases xs <;> simp [chkL]) (fun N sc tg ex => by simp [chkI]) (fun a r z => by cases z)
  | chn op op' a b c iha ihb ihc => exact all_tst (ok_chn iha.e ihb.e ihc.e) (okT_chn iha.e ihb.e ihc.e) (noW fun N sc op xs p => by simp [chkE]) (fun N sc xs => by cases xs <;> simp [chkL]) (fun N sc tg ex => by simp [chkI]) (fun a r z => by cases z)
  | and a b iha ihb => exact all_tst (ok_and iha.e ihb.e) (okT_and (okW_and iha.t ihb.t ihb.w)) (okW_and iha.t ihb.t ihb.w) (fun N sc xs => by cases xs <;> simp [chkL]) (fun N sc tg ex => by simp [chkI]) (fun a r z => by cases z)
  | or a b iha ihb => exact all_tst (ok_or iha.e ihb.e) (okT_or (okW_or iha.t ihb.t ihb.w)) (okW_or iha.t ihb.t ihb.w) (fun N sc xs => by cases xs <;> simp [chkL]) (fun N sc tg ex => by simp [chkI]) (fun a r z => by cases z)
  | ite c a b ihc iha ihb => exact all_tst (ok_ite ihc.t iha.e ihb.e) (okT_ite ihc.t iha.t ihb.t) (noW fun N sc op xs p => by simp [chkE]) (fun N sc xs => by cases xs <;> simp [chkL]) (fun N sc tg ex => by simp [chkI]) (fun a r z => by cases z)
  | call f es ih => exact all_plain (ok_call ih.l) rfl (fun N sc xs => by cases xs <;> simp [chkL]) (fun N sc tg ex => by simp [chkI]) (fun N sc op xs p => by simp [chkE]) (fun a r z => by cases z)
  | cvar i es ih => exact all_plain (ok_cvar ih.l) rfl (fun N sc xs => by cases xs <;> simp [chkL]) (fun N sc tg ex => by simp [chkI]) (fun N sc op xs p => by simp [chkE]) (fun a r z => by cases z)
  | blt b es ih => exact all_plain (ok_blt ih.l) rfl (fun N sc xs => by cases xs <;> simp [chkL]) (fun N sc tg ex => by simp [chkI]) (fun N sc op xs p => by simp [chkE]) (fun a r z => by cases z)
  | ist t a iha => exact all_plain (ok_ist iha.e) rfl (fun N sc xs => by cases xs <;> simp [chkL]) (fun N sc tg ex => by simp [chkI]) (fun N sc op xs p => by simp [chkE]) (fun a r z => by cases z)
  | idx a b iha ihb => exact all_plain (ok_idx iha.e ihb.e) rfl (fun N sc xs => by cases xs <;> simp [chkL]) (fun N sc tg ex => by simp [chkI]) (fun N sc op xs p => by simp [chkE]) (fun a r z => by cases z)
  | slc a lo hi iha ihl ihh => exact all_plain (ok_slc iha.e ihl.e ihh.e) rfl (fun N sc xs => by cases xs <;> simp [chkL]) (fun N sc tg ex => by simp [chkI]) (fun N sc op xs p => by simp [chkE]) (fun a r z => by cases z)
  | lrg kk es ih => exact all_plain (ok_lrg ih.l) rfl (fun N sc xs => by cases xs <;> simp [chkL]) (fun N sc tg ex => by simp [chkI]) (fun N sc op xs p => by simp [chkE]) (fun a r z => by cases z)
  | trg kk es ih => exact all_plain (ok_trg ih.l) rfl (fun N sc xs => by cases xs <;> simp [chkL]) (fun N sc tg ex => by simp [chkI]) (fun N sc op xs p => by simp [chkE]) (fun a r z => by cases z)
  | itr kk es ih =>
    refine ⟨noE fun N sc ex => by cases ex <;> simp [chkE], okT_val (noE fun N sc ex => by cases ex <;> simp [chkE]) rfl, fun X W A xs h => (by cases xs <;> simp [chkL] at h), fun X W A tg ex h => ?_, noW fun N sc op xs p => by simp [chkE], fun a r z => by cases z⟩
    by_cases hk : kk = .plain
    · subst hk
      obtain ⟨e, rfl⟩ := itr_plain h
      exact ok_itr_plain (ih.h e .nil rfl) X W A tg ex h
    · exact ok_itr ih.l hk X W A tg ex h
  | cmp1 vs tg it c elt _ ihi ihc ihe => exact all_plain (ok_cmp1 ihi.i ihc.t ihe.e) rfl (fun N sc xs => by cases xs <;> simp [chkL]) (fun N sc tg ex => by simp [chkI]) (fun N sc op xs p => by simp [chkE]) (fun a r z => by cases z)
  | tnm i => exact all_plain (noE fun N sc ex => by cases ex <;> simp [chkE]) rfl (fun N sc xs => by cases xs <;> simp [chkL]) (fun N sc tg ex => by simp [chkI]) (fun N sc op xs p => by simp [chkE]) (fun a r z => by cases z)
  | ttp es ih => exact all_plain (noE fun N sc ex => by cases ex <;> simp [chkE]) rfl (fun N sc xs => by cases xs <;> simp [chkL]) (fun N sc tg ex => by simp [chkI]) (fun N sc op xs p => by simp [chkE]) (fun a r z => by cases z)
end
end PF
end
section
set_option Elab.async false
set_option autoImplicit false
set_option linter.all false
set_option maxRecDepth 100000
namespace PF
open PySem PySem.Spec PyProof.Rows L2

def namesB (sc : Scope) (ts : List Expr) : List Str := ts.filterMap fun
    | .Name id pos => if sc.names.lookup id == some .local && pos.line == (ts.head?.map (·.pos.line)).getD 0 then some id else none
    | _ => none
/-- the stores of [ts] = (vs), swapped or not -/
def swB (sc : Scope) (ts vs : List Expr) : Option (Option (List Str)) :=
    if !(ts.length == 2 || ts.length == 3) || vs.length != ts.length then some none else
    if (vs.any fun | .Starred .. => true | _ => false) then some none else
    if (namesB sc ts).length != ts.length || (namesB sc ts).eraseDups.length != (namesB sc ts).length then some none else
    if vs.all (foldedForSure 8) then some none else
    if vs.all (constantsAlone 8) then none else some (some (namesB sc ts))
theorem sw_tup {env : Env} {ts vs : List Expr} {k k' : Nat} {p p' : Pos} {r : Option (List Str)} (hk : env.scope.kind = .function) (h : swB env.scope ts vs = some r) : swappedStores [.Tuple ts k p] (.Tuple vs k' p') env = pure r := by
  have hb : env.blockKind = .function := by unfold Env.blockKind; rw [hk]; rfl
  have e : swappedStores [.Tuple ts k p] (.Tuple vs k' p') env = (
    if !(ts.length == 2 || ts.length == 3) || vs.length != ts.length || env.blockKind != .function then pure none else
    if (vs.any fun | .Starred .. => true | _ => false) then pure none else
    if (namesB env.scope ts).length != ts.length || (namesB env.scope ts).eraseDups.length != (namesB env.scope ts).length then pure none else
    if vs.all (foldedForSure 8) then pure none else
    if vs.all (constantsAlone 8) then (unsupported "assign.tuple-of-constant-expressions:order-of-the-stores" >>= fun _ => pure (some (namesB env.scope ts))) else pure (some (namesB env.scope ts))) := rfl
  rw [e, hb]
  unfold swB at h
  rw [show ((ScopeKind.function != ScopeKind.function) = false) from rfl, Bool.or_false]
  split at h
  · rename_i c; rw [if_pos c]; cases h; rfl
  · rename_i c
    rw [if_neg c]
    split at h
    · rename_i c; rw [if_pos c]; cases h; rfl
    · rename_i c
      rw [if_neg c]
      split at h
      · rename_i c; rw [if_pos c]; cases h; rfl
      · rename_i c
        rw [if_neg c]
        split at h
        · rename_i c; rw [if_pos c]; cases h; rfl
        · rename_i c
          rw [if_neg c]
          split at h
          · cases h
          · rename_i c; rw [if_neg c]; cases h; rfl
def tupE : Expr → Bool
  | .Tuple .. => true
  | _ => false
theorem sw_val {env : Env} {ts : List Expr} {v : Expr} (h : tupE v = false) : swappedStores ts v env = pure none := by
  cases v <;> first | (cases h; done) | skip
  all_goals rcases ts with _ | ⟨t, _ | ⟨_, _⟩⟩ <;> first | rfl | (cases t <;> rfl)
theorem sw_sub {env : Env} {o i v : Expr} {p : Pos} : swappedStores [.Subscript o i p] v env = pure none := by
  cases v <;> rfl
/-- a comprehension right into a name of this block -/
def asgB (sc : Scope) (y : Str) (py : Pos) : Expr → Option Bool
  | .ListComp _ _ scope pos => some (sc.names.lookup y == some .local && py.line == pos.line && !(scope.names.any fun (n, k) => n == y && (k == .local || k == .cell)))
  | .SetComp .. => none
  | .DictComp .. => none
  | _ => some false
theorem asg_ok {env : Env} {y : Str} {py : Pos} {v : Expr} {l : Nat} {b : Bool} (hk : env.scope.kind = .function) (h : asgB env.scope y py v = some b) : swapsWith v (some (.Name y py)) l env = pure b := by
  have hb : env.blockKind = .function := by unfold Env.blockKind; rw [hk]; rfl
  cases v <;> first | (cases h; done) | (cases h; rfl) | skip
  rename_i elt gs scope pos
  cases h
  have e : swapsWith (.ListComp elt gs scope pos) (some (.Name y py)) l env = pure (env.blockKind == .function && env.kindOf y == some .local && py.line == pos.line && !(scope.names.any fun (n, k) => n == y && (k == .local || k == .cell))) := rfl
  rw [e, hb]
  rfl
theorem sw_tg {t v : Expr} {l : Nat} {env : Env} (h : (match t with | .Name .. => false | _ => true) = true) : swapsWith v (some t) l env = pure false := by
  cases v <;> cases t <;> first | rfl | cases h
def noComp : Expr → Bool
  | .ListComp .. => false
  | .SetComp .. => false
  | .DictComp .. => false
  | _ => true
theorem sw_drop {v : Expr} {l : Nat} {env : Env} (h : noComp v = true) : swapsWith v none l env = pure false := by
  cases v <;> first | rfl | cases h
end PF
end
section
set_option Elab.async false
set_option autoImplicit false
set_option linter.all false
set_option maxRecDepth 100000
namespace PF
open PySem PySem.Spec PyProof.Rows L2

section
variable {K : PySem.W.Frag} {fa : FA} {n : Nat} {F H : Hp} {σ τ : L2.St} {env env' ws : En} {i : Nat} {s : Slot} {v : V}
theorem nb0 (S : Sim K fa n F H σ env) (he : env.length = n) (j : Nat) : env[j]? ≠ some (Slot.bor i) := fun e => by
  obtain ⟨⟨_, q⟩, _⟩ := S.slot j (.bor i) e
  have := ltOf e
  omega
/-- the first on the side goes into the place i -/
theorem Sim.putM (S : Sim K fa n F H (σ ++ some v :: τ) (env ++ s :: ws)) (hl : σ.length = n) (he : env.length = n) (hs : (∃ u, s = .val u) ∨ ∃ u, s = .own u false) (h : PF.put env i s = some env') (hw : NoBor ws) (hp : ∀ u, Slot.own u true ∉ ws) :
    Sim K fa n F H (σ.set i (some v) ++ τ) (env' ++ ws) ∧ Stp F H (σ ++ some v :: τ) (env ++ s :: ws) F H (σ.set i (some v) ++ τ) (env' ++ ws) := by
  obtain ⟨s0, e0, np, rfl⟩ := put_inv h
  have hi := ltOf e0
  have at0 : (env ++ s :: ws)[n]? = some s := by rw [getR (by omega), he]; simp
  have atσ : (σ ++ some v :: τ)[n]? = some (some v) := by rw [getR (by omega), hl]; simp
  have hz : (env.set i s).length = n := by simp [he]
  have hzσ : (σ.set i (some v)).length = n := by simp [hl]
  -- the place j behind the store is the place ρ j ahead of it
  have ρ : ∀ j : Nat, ∃ j', (∀ t, (env.set i s ++ ws)[j]? = some t → (env ++ s :: ws)[j']? = some t ∧ (σ.set i (some v) ++ τ)[j]? = (σ ++ some v :: τ)[j']?) ∧ ((j = i ∧ j' = n) ∨ (j ≠ i ∧ j < n ∧ j' = j) ∨ (n ≤ j ∧ j' = j + 1)) := fun j => by
    by_cases c : j = i
    · subst c
      refine ⟨n, fun t e => ?_, .inl ⟨rfl, rfl⟩⟩
      rw [getL (by omega), List.getElem?_set_self hi] at e
      rw [at0, atσ, getL (by omega), List.getElem?_set_self (by omega)]
      exact ⟨e, rfl⟩
    · by_cases d : j < n
      · refine ⟨j, fun t e => ?_, .inr (.inl ⟨c, d, rfl⟩)⟩
        rw [getL (by omega), List.getElem?_set_ne (fun z => c z.symm)] at e
        rw [getL (by omega), getL (by omega), getL (by omega), List.getElem?_set_ne (fun z => c z.symm)]
        exact ⟨e, rfl⟩
      · refine ⟨j + 1, fun t e => ?_, .inr (.inr ⟨by omega, rfl⟩)⟩
        rw [getR (by omega), hz] at e
        rw [getR (by omega), getR (by omega), getR (by omega), hzσ, hl, he, show j + 1 - n = (j - n) + 1 by omega]
        simp only [List.getElem?_cons_succ]
        exact ⟨e, True.intro⟩
  have old : ∀ (j : Nat) (u : U) (p : Bool) (a : Addr), (env.set i s ++ ws)[j]? = some (.own u p) → (σ.set i (some v) ++ τ)[j]? = some (some (.ref a)) →
      ∃ j', (env ++ s :: ws)[j']? = some (.own u p) ∧ (σ ++ some v :: τ)[j']? = some (some (.ref a)) ∧ ((j = i ∧ j' = n) ∨ (j ≠ i ∧ j < n ∧ j' = j) ∨ (n ≤ j ∧ j' = j + 1)) := fun j u p a h1 h2 => by
    obtain ⟨j', q1, q2⟩ := ρ j
    obtain ⟨x1, x2⟩ := q1 _ h1
    exact ⟨j', x1, by rw [← x2]; exact h2, q2⟩
  refine ⟨⟨by have := S.len; simp only [List.length_append, List.length_cons, List.length_set] at this ⊢; omega, S.fr, fun j t e => ?_, fun j k a u u' p p' h1 h2 h3 h4 => ?_⟩, ⟨.refl _, fun _ _ q _ => q, fun a ⟨j, u, p, h1, h2⟩ => ?_, fun _ _ q => .inl q, fun j u e => ?_⟩⟩
  · obtain ⟨j', q1, q2⟩ := ρ j
    obtain ⟨x1, x2⟩ := q1 t e
    have q := S.slot j' t x1
    cases t with
    | emp => exact True.intro
    | val u => obtain ⟨w, y1, y2⟩ := q; exact ⟨w, x2.trans y1, y2⟩
    | own u p => obtain ⟨a, o, y1, y2⟩ := q; exact ⟨a, o, x2.trans y1, y2⟩
    | bor k =>
      exfalso
      by_cases c : j < n
      · rcases q2 with ⟨c1, c2⟩ | ⟨_, _, c2⟩ | ⟨c1, _⟩
        · subst c1 c2
          rw [at0] at x1
          cases x1
          rcases hs with ⟨_, z⟩ | ⟨_, z⟩ <;> cases z
        · subst c2
          obtain ⟨⟨_, q⟩, _⟩ := q
          omega
        · omega
      · rw [getR (by omega)] at e
        exact hw _ (List.mem_of_getElem? e) k rfl
  · obtain ⟨j', x1, x2, x3⟩ := old j u p a h1 h3
    obtain ⟨k', y1, y2, y3⟩ := old k u' p' a h2 h4
    have := S.inj j' k' a u u' p p' x1 y1 x2 y2
    omega
  · obtain ⟨j', x1, x2, _⟩ := old j u p a h1 h2
    exact .inl ⟨j', u, p, x1, x2⟩
  · by_cases hj : j < n
    · rw [getL (by omega)] at e
      have c : i ≠ j := fun z => by subst z; rw [e0] at e; cases e; exact np u rfl
      exact ⟨by rw [getL (by omega), getL (by omega), List.getElem?_set_ne c], u, by rw [getL (by omega), List.getElem?_set_ne c]; exact e⟩
    · exfalso
      rw [getR (by omega), he] at e
      by_cases c : j = n
      · subst c
        simp at e
        rcases hs with ⟨_, z⟩ | ⟨_, z⟩ <;> rw [z] at e <;> cases e
      · rw [show j - n = (j - n - 1) + 1 by omega, List.getElem?_cons_succ] at e
        exact hp u (List.mem_of_getElem? e)
theorem parF_free : ∀ {ts : E} {ws : List Slot} {env env' : En}, parF ts ws env = some env' → NoBor ws ∧ ∀ u, Slot.own u true ∉ ws := by
  intro ts ws
  induction ws generalizing ts with
  | nil => intro env env' h; exact ⟨fun s hs => (by cases hs), fun u hu => (by cases hu)⟩
  | cons s r ih =>
    intro env env' h
    cases ts <;> first | (simp [parF] at h; done) | skip
    rename_i t q
    cases t <;> first | (simp [parF] at h; done) | skip
    · rename_i j
      simp only [parF] at h
      unfold keepF at h
      split at h
      · obtain ⟨e1, _, h⟩ := Option.bind_eq_some_iff.mp h
        obtain ⟨h1, h2⟩ := ih h
        exact ⟨fun t ht k z => by
          rcases List.mem_cons.mp ht with rfl | ht
          · cases z
          · exact h1 t ht k z, fun u hu => by
          rcases List.mem_cons.mp hu with z | hu
          · cases z
          · exact h2 u hu⟩
      · cases h
    · rename_i j
      simp only [parF] at h
      obtain ⟨u0, e0, h⟩ := Option.bind_eq_some_iff.mp h
      obtain ⟨e1, _, h⟩ := Option.bind_eq_some_iff.mp h
      obtain ⟨h1, h2⟩ := ih h
      exact ⟨fun t ht k z => by
        rcases List.mem_cons.mp ht with rfl | ht
        · subst z; cases e0
        · exact h1 t ht k z, fun u hu => by
        rcases List.mem_cons.mp hu with z | hu
        · subst z; cases e0
        · exact h2 u hu⟩
def parI : E → Option Nat
  | .tnm i => some i
  | .mov i => some i
  | _ => none
/-- one of several stores -/
theorem par_one {t r : E} {s : Slot} {ws : List Slot} {env env' : En} {vs : List V} {F : Hp} (h : parF (.cons t r) (s :: ws) env = some env') (S : Sim K fa n F H (σ ++ (v :: vs).map some) (env ++ s :: ws)) (hl : σ.length = n) (he : env.length = n) :
    ∃ i F' env1, parI t = some i ∧ parF r ws env1 = some env' ∧ Sim K fa n F' H (σ.set i (some v) ++ vs.map some) (env1 ++ ws) ∧ Stp F H (σ ++ (v :: vs).map some) (env ++ s :: ws) F' H (σ.set i (some v) ++ vs.map some) (env1 ++ ws) ∧ env1.length = n := by
  obtain ⟨f1, f2⟩ := parF_free h
  have g1 : NoBor ws := fun t ht => f1 t (List.mem_cons_of_mem _ ht)
  have g2 : ∀ u, Slot.own u true ∉ ws := fun u hu => f2 u (List.mem_cons_of_mem _ hu)
  cases t <;> first | (simp [parF] at h; done) | skip
  · rename_i i
    simp only [parF] at h
    obtain ⟨env1, e1, hh⟩ := Option.bind_eq_some_iff.mp h
    unfold keepF at e1
    split at e1
    · obtain ⟨S1, st1⟩ := Sim.putM (by simpa using S) hl he (.inr ⟨_, rfl⟩) e1 g1 g2
      refine ⟨i, F, env1, rfl, hh, S1, by simpa using st1, ?_⟩
      obtain ⟨_, _, _, rfl⟩ := put_inv e1
      simp [he]
    · cases e1
  · rename_i i
    simp only [parF] at h
    obtain ⟨u, e0, h⟩ := Option.bind_eq_some_iff.mp h
    obtain ⟨env1, e1, h⟩ := Option.bind_eq_some_iff.mp h
    obtain ⟨F1, S1, st1⟩ := frz_one (i := env.length) S (by simp) e0
    have es : (env ++ s :: ws).set env.length (.val u) = env ++ .val u :: ws := by simp
    rw [es] at S1 st1
    obtain ⟨S2, st2⟩ := Sim.putM (by simpa using S1) hl he (.inl ⟨_, rfl⟩) e1 g1 g2
    refine ⟨i, F1, env1, rfl, h, S2, st1.trans (by simpa using st2), ?_⟩
    obtain ⟨_, _, _, rfl⟩ := put_inv e1
    simp [he]
end

section
variable {K : PySem.W.Frag} {fa : FA} {XR : XRt} {W : WX} {n : Nat} {F F1 H H1 : Hp} {σ σ1 τ : L2.St} {env env1 : En}
def OutS (K : PySem.W.Frag) (fa : FA) (XR : XRt) (W : WX) (n : Nat) (F H : Hp) (σ : L2.St) (env : En) (r : Res (Fl × En)) (D : Ends) : Prop := match r with
  | .ok (.nx, e) => ∀ σ' F' H', Sim K fa n F' H' σ' e → Stp F H σ env F' H' σ' e → e.length = n → D.nx σ' H'
  | .ok (.bk, e) => ∀ σ' F' H', Sim K fa n F' H' σ' e → Stp F H σ env F' H' σ' e → e.length = n → D.bk σ' H'
  | .ok (.ct, e) => ∀ σ' F' H', Sim K fa n F' H' σ' e → Stp F H σ env F' H' σ' e → e.length = n → D.ct σ' H'
  | .ok (.rt w, e) => ∀ σ' v F' H', Sim K fa n F' H' (σ' ++ [some v]) (e ++ [w]) → Stp F H σ env F' H' (σ' ++ [some v]) (e ++ [w]) → e.length = n → D.rt v H'
  | .exc x e => ∀ σ' F' H' cls d, Sim K fa n F' H' σ' e → Stp F H σ env F' H' σ' e → XR F' H' x cls d → e.length = n → W cls d σ' H'
  | .bad => False
theorem OutS.pre {r : Res (Fl × En)} {D : Ends} (h : OutS K fa XR W n F H σ env r D) (st : Stp F H σ env F1 H1 σ1 env1) : OutS K fa XR W n F1 H1 σ1 env1 r D := by
  cases r with
  | ok z =>
    obtain ⟨f, e⟩ := z
    cases f with
    | nx => exact fun σ' F' H' S s l => h σ' F' H' S (st.trans s) l
    | bk => exact fun σ' F' H' S s l => h σ' F' H' S (st.trans s) l
    | ct => exact fun σ' F' H' S s l => h σ' F' H' S (st.trans s) l
    | rt w => exact fun σ' v F' H' S s l => h σ' v F' H' S (st.trans s) l
  | exc x e => exact fun σ' F' H' cls d S s hx l => h σ' F' H' cls d S (st.trans s) hx l
  | bad => exact h
theorem OutS.of {α : Type} {o : Option α} {k : α → Res (Fl × En)} {D : Ends} (h : OutS K fa XR W n F H σ env ((Res.of o).bind k) D) : ∃ a, o = some a ∧ OutS K fa XR W n F H σ env (k a) D := by
  cases o with
  | none => exact h.elim
  | some a => exact ⟨a, rfl, h⟩
theorem OutS.sub {α : Type} {sh : α → List Slot} {r : Res (α × En)} {k : α × En → Res (Fl × En)} {D : Ends} (h : OutS K fa XR W n F H σ env (r.bind k) D) (st : Stp F H σ env F1 H1 σ1 env1) (hn : σ1.length = n) :
    Out K fa XR W n sh F1 H1 σ1 env1 r (fun a vs H' => ∃ F' env', r = .ok (a, env') ∧ Sim K fa n F' H' (σ1 ++ vs.map some) (env' ++ sh a) ∧ Stp F1 H1 σ1 env1 F' H' (σ1 ++ vs.map some) (env' ++ sh a) ∧ env'.length = n) := by
  cases r with
  | ok z => exact fun vs F' H' S' St hl => ⟨F', z.2, rfl, S', St, hl⟩
  | exc x e => exact fun F' H' cls d S s hx => h σ1 F' H' cls d S (st.trans s) hx (S.len.symm.trans hn)
  | bad => exact h
/-- .. of a block's run, then more -/
theorem OutS.seq {r : Res (Fl × En)} {k : Fl × En → Res (Fl × En)} {D D' : Ends} (h : OutS K fa XR W n F H σ env (r.bind k) D)
    (h1 : ∀ e, r = .ok (.nx, e) → ∀ σ' F' H', Sim K fa n F' H' σ' e → Stp F H σ env F' H' σ' e → e.length = n → OutS K fa XR W n F' H' σ' e (k (.nx, e)) D → D'.nx σ' H')
    (h2 : ∀ e, r = .ok (.bk, e) → ∀ σ' F' H', Sim K fa n F' H' σ' e → Stp F H σ env F' H' σ' e → e.length = n → OutS K fa XR W n F' H' σ' e (k (.bk, e)) D → D'.bk σ' H')
    (h3 : ∀ e, r = .ok (.ct, e) → ∀ σ' F' H', Sim K fa n F' H' σ' e → Stp F H σ env F' H' σ' e → e.length = n → OutS K fa XR W n F' H' σ' e (k (.ct, e)) D → D'.ct σ' H')
    (h4 : ∀ w e, k (.rt w, e) = .ok (.rt w, e)) (h5 : D'.rt = D.rt) : OutS K fa XR W n F H σ env r D' := by
  cases r with
  | ok z =>
    obtain ⟨f, e⟩ := z
    cases f with
    | nx => exact fun σ' F' H' S s l => h1 e rfl σ' F' H' S s l (h.pre s)
    | bk => exact fun σ' F' H' S s l => h2 e rfl σ' F' H' S s l (h.pre s)
    | ct => exact fun σ' F' H' S s l => h3 e rfl σ' F' H' S s l (h.pre s)
    | rt w =>
      rw [Res.bind_ok, h4] at h
      intro σ' v F' H' S s l
      rw [h5]
      exact h σ' v F' H' S s l
  | exc x e => exact h
  | bad => exact h
end
def tExS (G : Gx) (fa : FA) (XR : XRt) (W : WX) (X : Cx) (s : S) : TS := fun D σ H => ∃ F env, σ.length = X.N.length ∧ Sim X.K fa X.N.length F H σ env ∧ OutS X.K fa XR W X.N.length F H σ env (exS G s env) D
structure AmbS (T : Tbl) (G : Gx) (fa : FA) (XR : XRt) (k : Nat) (W : WX) (X : Cx) : Prop extends Amb T G fa XR k W X where
  kind : X.env.scope.kind = .function
  fnc : ∀ x, X.env.scope.names.lookup x = some .cell → X.fn x = true
  pass : PassesOwn (model X.prog X.w) X.A X.env X.xe

def parIs : E → Option (List Nat)
  | .nil => some []
  | .cons t r => (parI t).bind fun i => (parIs r).map (i :: ·)
  | _ => none
def parB (N : List Str) (sc : Scope) : List Nat → List Expr → Bool
  | [], [] => true
  | i :: r, .Name x _ :: xs => decide (N[i]? = some x) && decide (sc.names.lookup x = some .local) && !(r.contains i) && parB N sc r xs
  | _, _ => false
def namesOf : List Expr → List Str
  | .Name x _ :: r => x :: namesOf r
  | _ => []
def few : List Nat → Bool
  | [_, _] => true
  | [_, _, _] => true
  | _ => false
/-- the parts of statements -/
def stA : Stmt → Option (Expr × Expr)
  | .Assign [t] v _ => some (t, v)
  | _ => none
def stX : Stmt → Option (Expr × Nat)
  | .Expr v p => some (v, p.line)
  | _ => none
def stR : Stmt → Option (Option Expr)
  | .Return v _ => some v
  | _ => none
def stI : Stmt → Option (Expr × List Stmt × List Stmt)
  | .If c a b _ => some (c, a, b)
  | _ => none
def stF : Stmt → Option (Expr × Expr × List Stmt)
  | .For t i b [] _ => some (t, i, b)
  | _ => none
def stW : Stmt → Option (Expr × List Stmt)
  | .While c b [] _ => some (c, b)
  | _ => none
def stP : Stmt → Bool
  | .Pass _ => true
  | _ => false
def stB : Stmt → Bool
  | .Break _ => true
  | _ => false
def stC : Stmt → Bool
  | .Continue _ => true
  | _ => false
def exN : Expr → Option (Str × Pos)
  | .Name x p => some (x, p)
  | _ => none
def exT : Expr → Option (List Expr)
  | .Tuple xs _ _ => some xs
  | _ => none
/-- x[y] -/
def exS1 : Expr → Option (Str × Expr)
  | .Subscript (.Name x _) y _ => some (x, y)
  | _ => none
def exS2 : List Expr → Option (Expr × Expr)
  | [a, b] => some (a, b)
  | _ => none
/-- x.append(v) -/
def exA : Expr → Option (Str × Expr)
  | .Call (.Attribute (.Name x _) m ap) [v] [] cp => if decide (m = "append") && (ap.endLine == cp.line) then some (x, v) else none
  | _ => none
def onO {α : Type} (o : Option α) (f : α → Bool) : Bool := match o with
  | some a => f a
  | none => false
theorem onO_of {α : Type} {o : Option α} {f : α → Bool} (h : onO o f = true) : ∃ a, o = some a ∧ f a = true := by
  cases o with
  | none => cases h
  | some a => exact ⟨a, rfl, h⟩
theorem stA_of {st : Stmt} {t v : Expr} (h : stA st = some (t, v)) : ∃ p, st = .Assign [t] v p := by
  unfold stA at h; split at h <;> cases h; exact ⟨_, rfl⟩
theorem stX_of {st : Stmt} {v : Expr} {l : Nat} (h : stX st = some (v, l)) : ∃ p, st = .Expr v p := by
  unfold stX at h; split at h <;> cases h; exact ⟨_, rfl⟩
theorem stR_of {st : Stmt} {v : Option Expr} (h : stR st = some v) : ∃ p, st = .Return v p := by
  unfold stR at h; split at h <;> cases h; exact ⟨_, rfl⟩
theorem stI_of {st : Stmt} {c : Expr} {a b : List Stmt} (h : stI st = some (c, a, b)) : ∃ p, st = .If c a b p := by
  unfold stI at h; split at h <;> cases h; exact ⟨_, rfl⟩
theorem stF_of {st : Stmt} {t i : Expr} {b : List Stmt} (h : stF st = some (t, i, b)) : ∃ p, st = .For t i b [] p := by
  unfold stF at h; split at h <;> cases h; exact ⟨_, rfl⟩
theorem stW_of {st : Stmt} {c : Expr} {b : List Stmt} (h : stW st = some (c, b)) : ∃ p, st = .While c b [] p := by
  unfold stW at h; split at h <;> cases h; exact ⟨_, rfl⟩
theorem stP_of {st : Stmt} (h : stP st = true) : ∃ p, st = .Pass p := by
  unfold stP at h; split at h <;> cases h; exact ⟨_, rfl⟩
theorem stB_of {st : Stmt} (h : stB st = true) : ∃ p, st = .Break p := by
  unfold stB at h; split at h <;> cases h; exact ⟨_, rfl⟩
theorem stC_of {st : Stmt} (h : stC st = true) : ∃ p, st = .Continue p := by
  unfold stC at h; split at h <;> cases h; exact ⟨_, rfl⟩
theorem exN_of {e : Expr} {x : Str} {p : Pos} (h : exN e = some (x, p)) : e = .Name x p := by
  unfold exN at h; split at h <;> cases h; rfl
theorem exT_of {e : Expr} {xs : List Expr} (h : exT e = some xs) : ∃ k p, e = .Tuple xs k p := by
  unfold exT at h; split at h <;> cases h; exact ⟨_, _, rfl⟩
theorem exS1_of {e : Expr} {x : Str} {y : Expr} (h : exS1 e = some (x, y)) : ∃ q p, e = .Subscript (.Name x q) y p := by
  unfold exS1 at h; split at h <;> cases h; exact ⟨_, _, rfl⟩
theorem exS2_of {l : List Expr} {a b : Expr} (h : exS2 l = some (a, b)) : l = [a, b] := by
  unfold exS2 at h; split at h <;> cases h; rfl
theorem exA_of {e v : Expr} {x : Str} (h : exA e = some (x, v)) : ∃ q ap cp, e = .Call (.Attribute (.Name x q) "append" ap) [v] [] cp ∧ (ap.endLine == cp.line) = true := by
  unfold exA at h
  split at h
  · split at h
    · rename_i c
      simp only [Bool.and_eq_true, decide_eq_true_eq] at c
      cases h
      obtain ⟨rfl, c⟩ := c
      exact ⟨_, _, _, rfl, c⟩
    · cases h
  · cases h
section
variable (T : Tbl) (N : List Str)
mutual
def chkS : S → Scope → Stmt → Bool
  | .pas, _, st => stP st
  | .brk, _, st => stB st
  | .cnt, _, st => stC st
  | .set i e, sc, st => onO (stA st) fun (t, v) => onO (exN t) fun (x, p) => decide (N[i]? = some x) && locB sc x && (asgB sc x p v).isSome && chkE T N e sc v
  | .own i e, sc, st => onO (stA st) fun (t, v) => onO (exN t) fun (x, p) => decide (N[i]? = some x) && locB sc x && (asgB sc x p v).isSome && chkE T N e sc v
  | .unp tg e, sc, st => onO (stA st) fun (t, v) => onO (exT t) fun ts => chkG N sc tg t && chkE T N e sc v && (match exT v with
    | some vs => decide (swB sc ts vs = some none)
    | none => true)
  | .par ts es, sc, st => onO (stA st) fun (t, v) => onO (exT t) fun xs => onO (exT v) fun vs => onO (parIs ts) fun is =>
    few is && parB N sc is xs && decide (swB sc xs vs = some (some (namesOf xs))) && chkL T N es sc vs
  | .par2 i k j l a b, sc, st => onO (stA st) fun (t, v) => onO (exT t) fun xs => onO (exT v) fun vs => onO (exS2 xs) fun (s1, s2) => onO (exS1 s1) fun (x, y) => onO (exS1 s2) fun (x', y') =>
    nameB N sc i x && nameB N sc j x' && chkE T N k sc y && plainB y && chkE T N l sc y' && plainB y' && decide (swB sc xs vs = some none) && chkL T N (.cons a (.cons b .nil)) sc vs
  | .sub i k e, sc, st => onO (stA st) fun (t, v) => onO (exS1 t) fun (x, y) => nameB N sc i x && chkE T N k sc y && plainB y && chkE T N e sc v
  | .app i e, sc, st => onO (stX st) fun (v, _) => onO (exA v) fun (x, a) => nameB N sc i x && chkE T N e sc a && plainB a
  | .exp e, sc, st => onO (stX st) fun (v, _) => noComp v && chkE T N e sc v
  | .ret e, sc, st => onO (stR st) fun v => onO v fun v => chkE T N e sc v
  | .retn, _, st => onO (stR st) fun v => v.isNone
  | .iff c a b, sc, st => onO (stI st) fun (c', a', b') => chkE T N c sc c' && chkB a sc a' && chkB b sc b'
  | .for_ tg it b, sc, st => onO (stF st) fun (tg', it', b') => chkG N sc tg tg' && chkI T N it sc tg' it' && plainB it' && chkB b sc b'
  | .whl c b, sc, st => onO (stW st) fun (c', b') => chkE T N c sc c' && chkB b sc b'
  | .nil, _, _ => false
  | .seq _ _, _, _ => false
def chkB : S → Scope → List Stmt → Bool
  | .nil, _, [] => true
  | .seq a r, sc, st :: sts => chkS a sc st && chkB r sc sts
  | _, _, _ => false
end
end
end PF
end
section
set_option Elab.async false
set_option autoImplicit false
set_option linter.all false
set_option maxRecDepth 100000
namespace PF
open PySem PySem.Spec PyProof.Rows L2

theorem PS.imp {X : Cx} {e : Stmt} {t t' : TS} (h : PS X e t) (i : ∀ D σ H, t' D σ H → t D σ H) : PS X e t' := ⟨fun pins s σ H D I q => h.run pins s σ H D I (i D σ H q)⟩
theorem PSs.imp {X : Cx} {e : List Stmt} {t t' : TS} (h : PSs X e t) (i : ∀ D σ H, t' D σ H → t D σ H) : PSs X e t' := ⟨fun pins s σ H D I q => h.run pins s σ H D I (i D σ H q)⟩
section
variable {T : Tbl} {G : Gx} {fa : FA} {XR : XRt} {k : Nat} {W : WX} {X : Cx} {σ : L2.St} {H : Hp} {F : Hp} {env : En} {D : Ends}
def OkS (T : Tbl) (G : Gx) (fa : FA) (XR : XRt) (k : Nat) (s : S) : Prop := ∀ (X : Cx) (W : WX), AmbS T G fa XR k W X → ∀ st, chkS T X.N s X.env.scope st = true → PS X st (tExS G fa XR W X s)
def OkB (T : Tbl) (G : Gx) (fa : FA) (XR : XRt) (k : Nat) (s : S) : Prop := ∀ (X : Cx) (W : WX), AmbS T G fa XR k W X → ∀ sts, chkB T X.N s X.env.scope sts = true → PSs X sts (tExS G fa XR W X s)
theorem evs {a : E} {kk : Slot × En → Res (Fl × En)} (hn : σ.length = X.N.length) (S : Sim X.K fa X.N.length F H σ env) (h : OutS X.K fa XR W X.N.length F H σ env ((evE G a env).bind kk) D) :
    tEv G fa XR W X a σ H fun x H1 => ∃ F1 env1 p, evE G a env = .ok (p, env1) ∧ Sim X.K fa X.N.length F1 H1 (σ ++ [some x]) (env1 ++ [p]) ∧ Stp F H σ env F1 H1 (σ ++ [some x]) (env1 ++ [p]) ∧ env1.length = X.N.length := by
  refine ⟨F, env, hn, S, (OutS.sub (sh := fun w => [w]) h (.refl _ _ _ _) hn).imp fun p vs H1 ⟨F1, env1, e1, S1, st1, hl⟩ => ?_⟩
  have e := S1.len
  have := S.len
  simp only [List.length_append, List.length_map, List.length_singleton] at e
  obtain ⟨v, rfl⟩ : ∃ v, vs = [v] := List.length_eq_one_iff.mp (by omega)
  exact ⟨v, rfl, F1, env1, p, e1, S1, st1, hl⟩
theorem freeze1 {F1 H1 : Hp} {env1 : En} {v : V} {p : Slot} {u : U} {n : Nat} {K : PySem.W.Frag} (S : Sim K fa n F1 H1 (σ ++ [some v]) (env1 ++ [p])) (hl : σ.length = env1.length) (h : frz p = some u) :
    ∃ F2, Sim K fa n F2 H1 (σ ++ [some v]) (env1 ++ [.val u]) ∧ Stp F1 H1 (σ ++ [some v]) (env1 ++ [p]) F2 H1 (σ ++ [some v]) (env1 ++ [.val u]) ∧ Rep K fa F2 v u := by
  obtain ⟨F2, S2, st2, r⟩ := freeze_side (vs := [v]) (us := [u]) (by simpa using S) hl (by simp [frzs, h])
  cases r with
  | cons r _ => exact ⟨F2, by simpa using S2, by simpa using st2, r⟩
theorem names_hf (A : AmbS T G fa XR k W X) {x : Str} (h : locB X.env.scope x = true) : Loc X.env.scope x ∧ (X.fn x = true ∨ X.env.scope.names.lookup x = some .local) := by
  have hl := locB_of h
  exact ⟨hl, hl.elim .inr fun z => .inl (A.fnc _ z)⟩
/-- name = e -/
theorem ps_name (A : AmbS T G fa XR k W X) {i : Nat} {x : Str} {p pos : Pos} {v : Expr} {e : E} (hN : X.N[i]? = some x) (hl : locB X.env.scope x = true) (hb : (asgB X.env.scope x p v).isSome = true) (hc : chkE T X.N e X.env.scope v = true) :
    PS X (.Assign [.Name x p] v pos) (tAsg (tEv G fa XR W X e) (gName i)) := by
  obtain ⟨b, hb⟩ := Option.isSome_iff_exists.mp hb
  obtain ⟨l1, l2⟩ := names_hf A hl
  cases b with
  | false => exact ps_set A.nd hN l1 ((ok_all e).e X W A.toAmb v hc) (asg_ok A.kind hb) l2
  | true =>
    cases v <;> first | (cases hb; done) | skip
    rename_i elt gs scope vp
    have hy : X.env.scope.names.lookup x = some .local := by
      simp only [asgB, Option.some.injEq, Bool.and_eq_true, beq_iff_eq] at hb
      exact hb.1.1
    cases e <;> first | (simp [chkE] at hc; done) | skip
    rename_i vs tg it c el
    obtain ⟨tg', it', ifs, rfl, P⟩ := comp_ok A.toAmb (ok_all it).i (ok_all c).t (ok_all el).e hc
    have q := ps_setLc (i := i) (y := x) (py := p) (spos := pos) A.calm A.nd hN hy (asg_ok A.kind hb) P.it P.blk P.g P.t P.e P.s
    rw [own_map] at q
    exact PS.imp q fun D σ H q0 => cmp_read P.lt P.ts q0
theorem okS_set {i : Nat} {e : E} : OkS T G fa XR k (.set i e) := fun X W A st hc => by
  rw [chkS] at hc
  replace hc := onO_of hc
  obtain ⟨⟨t, v⟩, q1, hc⟩ := hc
  obtain ⟨pos, rfl⟩ := stA_of q1
  replace hc := onO_of hc
  obtain ⟨⟨x, p⟩, q2, hc⟩ := hc
  cases exN_of q2
  simp only [Bool.and_eq_true, decide_eq_true_eq] at hc
  obtain ⟨⟨⟨h1, h2⟩, h3⟩, h4⟩ := hc
  refine PS.imp (ps_name A h1 h2 h3 h4) fun D σ H ⟨F, env, hn, S, o⟩ => ?_
  simp only [exS] at o
  obtain ⟨F0, env0, h0, S0, o0⟩ := evs hn S o
  refine ⟨F0, env0, h0, S0, o0.imp fun _ vs H1 ⟨v, ev, F1, env1, p, e1, S1, st1, l1⟩ => ⟨v, ev, ?_⟩⟩
  rw [e1, Res.bind_ok] at o
  obtain ⟨u, e2, o⟩ := OutS.of o
  obtain ⟨env2, e3, o⟩ := OutS.of o
  obtain ⟨F2, S2, st2, r⟩ := freeze1 S1 (by omega) e2
  have hln := S.len
  obtain ⟨S3, st3⟩ := S2.put (by omega) (.inl ⟨u, rfl⟩) e3 (nb0 (S2.head (by omega) (by omega)) l1)
  obtain ⟨_, _, _, rfl⟩ := put_inv e3
  exact o _ _ _ S3 (st1.trans (st2.trans st3)) (by simp [l1])
theorem keepF_of {env env' : En} {i : Nat} {s : Slot} (h : keepF env i s = some env') : ∃ u, s = .own u false ∧ PF.put env i s = some env' := by
  unfold keepF at h
  split at h
  · exact ⟨_, rfl, h⟩
  · cases h
theorem okS_own {i : Nat} {e : E} : OkS T G fa XR k (.own i e) := fun X W A st hc => by
  rw [chkS] at hc
  replace hc := onO_of hc
  obtain ⟨⟨t, v⟩, q1, hc⟩ := hc
  obtain ⟨pos, rfl⟩ := stA_of q1
  replace hc := onO_of hc
  obtain ⟨⟨x, p⟩, q2, hc⟩ := hc
  cases exN_of q2
  simp only [Bool.and_eq_true, decide_eq_true_eq] at hc
  obtain ⟨⟨⟨h1, h2⟩, h3⟩, h4⟩ := hc
  refine PS.imp (ps_name A h1 h2 h3 h4) fun D σ H ⟨F, env, hn, S, o⟩ => ?_
  simp only [exS] at o
  obtain ⟨F0, env0, h0, S0, o0⟩ := evs hn S o
  refine ⟨F0, env0, h0, S0, o0.imp fun _ vs H1 ⟨v, ev, F1, env1, p, e1, S1, st1, l1⟩ => ⟨v, ev, ?_⟩⟩
  rw [e1, Res.bind_ok] at o
  obtain ⟨env2, e3, o⟩ := OutS.of o
  have hln := S.len
  obtain ⟨u, rfl, e4⟩ := keepF_of e3
  obtain ⟨S3, st3⟩ := S1.put (by omega) (.inr ⟨_, rfl⟩) e4 (nb0 (S1.head (by omega) (by omega)) l1)
  obtain ⟨_, _, _, rfl⟩ := put_inv e4
  exact o _ _ _ S3 (st1.trans st3) (by simp [l1])
theorem okS_unp {tg e : E} : OkS T G fa XR k (.unp tg e) := fun X W A st hc => by
  rw [chkS] at hc
  replace hc := onO_of hc
  obtain ⟨⟨t, v⟩, q1, hc⟩ := hc
  obtain ⟨pos, rfl⟩ := stA_of q1
  replace hc := onO_of hc
  obtain ⟨xs, q2, hc⟩ := hc
  obtain ⟨kk, tp, rfl⟩ := exT_of q2
  simp only [Bool.and_eq_true] at hc
  obtain ⟨⟨h2, h3⟩, h4⟩ := hc
  have hw : swappedStores [.Tuple xs kk tp] v X.env = pure none := by
    cases e : exT v with
    | none => exact sw_val (by cases v <;> first | rfl | (cases e))
    | some vs =>
      rw [e] at h4
      obtain ⟨k2, p2, rfl⟩ := exT_of e
      simp only [decide_eq_true_eq] at h4
      exact sw_tup A.kind h4
  refine PS.imp (ps_asg ((ok_all e).e X W A.toAmb v h3) (pg_of (fa := fa) A.calm A.nd (fun x hx => names_hf A hx) tg h2) (sw_tg (t := .Tuple xs kk tp) (v := v) (l := pos.line) (env := X.env) rfl) hw rfl) fun D σ H ⟨F, env, hn, S, o⟩ => ?_
  simp only [exS] at o
  obtain ⟨F0, env0, h0, S0, o0⟩ := evs hn S o
  refine ⟨F0, env0, h0, S0, o0.imp fun _ vs H1 ⟨v, ev, F1, env1, p, e1, S1, st1, l1⟩ => ⟨v, ev, ?_⟩⟩
  rw [e1, Res.bind_ok] at o
  obtain ⟨u, e2, o⟩ := OutS.of o
  obtain ⟨env2, e3, o⟩ := OutS.of o
  obtain ⟨F2, S2, st2, r⟩ := freeze1 S1 (by omega) e2
  have hln := S.len
  refine ⟨F2, env1, [], [], u, env2, hn, l1, by simpa using S2.head (by omega) (by omega), fun s hs => (by cases hs), r, e3, fun σ' S3 st3 hn3 he3 _ => ?_⟩
  simp only [List.append_nil] at S3 st3
  exact o _ _ _ S3 (((st1.trans st2).head (by omega) (by omega)).trans st3) he3
theorem okS_exp {e : E} : OkS T G fa XR k (.exp e) := fun X W A st hc => by
  rw [chkS] at hc
  replace hc := onO_of hc
  obtain ⟨⟨v, ln⟩, q1, hc⟩ := hc
  obtain ⟨pos, rfl⟩ := stX_of q1
  simp only [Bool.and_eq_true] at hc
  refine PS.imp (ps_expr ((ok_all e).e X W A.toAmb v hc.2) (sw_drop hc.1)) fun D σ H ⟨F, env, hn, S, o⟩ => ?_
  simp only [exS] at o
  obtain ⟨F0, env0, h0, S0, o0⟩ := evs hn S o
  refine ⟨F0, env0, h0, S0, o0.imp fun _ vs H1 ⟨v, ev, F1, env1, p, e1, S1, st1, l1⟩ => ⟨v, ev, ?_⟩⟩
  rw [e1, Res.bind_ok] at o
  have hln := S.len
  exact o _ _ _ (S1.head (by omega) (by omega)) (st1.head (by omega) (by omega)) l1
theorem okS_ret {e : E} : OkS T G fa XR k (.ret e) := fun X W A st hc => by
  rw [chkS] at hc
  replace hc := onO_of hc
  obtain ⟨v, q1, hc⟩ := hc
  obtain ⟨pos, rfl⟩ := stR_of q1
  replace hc := onO_of hc
  obtain ⟨v, rfl, hc⟩ := hc
  refine PS.imp (ps_ret ((ok_all e).e X W A.toAmb _ hc)) fun D σ H ⟨F, env, hn, S, o⟩ => ?_
  simp only [exS] at o
  obtain ⟨F0, env0, h0, S0, o0⟩ := evs hn S o
  refine ⟨F0, env0, h0, S0, o0.imp fun _ vs H1 ⟨v, ev, F1, env1, p, e1, S1, st1, l1⟩ => ⟨v, ev, ?_⟩⟩
  rw [e1, Res.bind_ok] at o
  cases p <;> first | exact o.elim | exact o _ _ _ _ S1 st1 l1
theorem okS_retn : OkS T G fa XR k .retn := fun X W A st hc => by
  rw [chkS] at hc
  replace hc := onO_of hc
  obtain ⟨v, q1, hc⟩ := hc
  obtain ⟨pos, rfl⟩ := stR_of q1
  cases v <;> first | (cases hc; done) | skip
  refine PS.imp ps_retN fun D σ H ⟨F, env, hn, S, o⟩ => ?_
  simp only [exS] at o
  obtain ⟨S1, st1⟩ := (OpPost.val S.fr (Rep.non (K := X.K) (fa := fa))).sim S
  have := S.len
  exact o _ _ _ _ S1 st1 (by omega)
theorem okS_pas : OkS T G fa XR k .pas := fun X W A st hc => by
  rw [chkS] at hc
  obtain ⟨pos, rfl⟩ := stP_of hc
  refine PS.imp ps_pass fun D σ H ⟨F, env, hn, S, o⟩ => ?_
  have := S.len
  exact o _ _ _ S (.refl _ _ _ _) (by omega)
theorem okS_brk : OkS T G fa XR k .brk := fun X W A st hc => by
  rw [chkS] at hc
  obtain ⟨pos, rfl⟩ := stB_of hc
  refine PS.imp ps_break fun D σ H ⟨F, env, hn, S, o⟩ => ?_
  have := S.len
  exact o _ _ _ S (.refl _ _ _ _) (by omega)
theorem okS_cnt : OkS T G fa XR k .cnt := fun X W A st hc => by
  rw [chkS] at hc
  obtain ⟨pos, rfl⟩ := stC_of hc
  refine PS.imp ps_continue fun D σ H ⟨F, env, hn, S, o⟩ => ?_
  have := S.len
  exact o _ _ _ S (.refl _ _ _ _) (by omega)
/-- a test, then more -/
theorem evts {c : E} {kk : Bool × En → Res (Fl × En)} (hn : σ.length = X.N.length) (S : Sim X.K fa X.N.length F H σ env) (h : OutS X.K fa XR W X.N.length F H σ env ((evT G c env).bind kk) D) :
    tEvT G fa XR W X c σ H fun b H1 => ∃ F1 env1, evT G c env = .ok (b, env1) ∧ Sim X.K fa X.N.length F1 H1 σ env1 ∧ Stp F H σ env F1 H1 σ env1 ∧ env1.length = X.N.length := by
  refine ⟨F, env, hn, S, (OutS.sub (sh := fun _ => []) h (.refl _ _ _ _) hn).imp fun b vs H1 ⟨F1, env1, e1, S1, st1, hl⟩ => ?_⟩
  cases bare S1 (by omega)
  simp only [List.map_nil, List.append_nil] at S1 st1
  exact ⟨F1, env1, e1, S1, st1, hl⟩
theorem cond_evT {c : E} {N : List Str} {sc : Scope} {ex : Expr} (h : chkE T N c sc ex = true) : condF c (evE G c) = evT G c := by
  funext env
  cases c <;> first | rfl | (cases ex <;> simp [chkE] at h)
theorem okS_iff {c : E} {a b : S} (ha : OkB T G fa XR k a) (hb : OkB T G fa XR k b) : OkS T G fa XR k (.iff c a b) := fun X W A st hc => by
  rw [chkS] at hc
  replace hc := onO_of hc
  obtain ⟨⟨c', a', b'⟩, q1, hc⟩ := hc
  obtain ⟨pos, rfl⟩ := stI_of q1
  simp only [Bool.and_eq_true] at hc
  refine PS.imp (ps_if ((ok_all c).t X W A.toAmb _ hc.1.1) (ha X W A _ hc.1.2) (hb X W A _ hc.2)) fun D σ H ⟨F, env, hn, S, o⟩ => ?_
  simp only [exS, cond_evT hc.1.1] at o
  obtain ⟨F0, env0, h0, S0, o0⟩ := evts hn S o
  refine ⟨F0, env0, h0, S0, o0.imp fun b _ H1 ⟨F1, env1, e1, S1, st1, l1⟩ => ?_⟩
  rw [e1, Res.bind_ok] at o
  cases b with
  | true => exact ⟨F1, env1, hn, S1, OutS.pre (by simpa using o) st1⟩
  | false => exact ⟨F1, env1, hn, S1, OutS.pre (by simpa using o) st1⟩
theorem okB_nil : OkB T G fa XR k .nil := fun X W A sts hc => by
  cases sts with
  | cons _ _ => simp [chkB] at hc
  | nil =>
    refine PSs.imp pss_nil fun D σ H ⟨F, env, hn, S, o⟩ => ?_
    have := S.len
    exact o _ _ _ S (.refl _ _ _ _) (by omega)
theorem okB_seq {a r : S} (ha : OkS T G fa XR k a) (hr : OkB T G fa XR k r) : OkB T G fa XR k (.seq a r) := fun X W A sts hc => by
  cases sts with
  | nil => simp [chkB] at hc
  | cons st sts =>
    simp only [chkB, Bool.and_eq_true] at hc
    refine PSs.imp (pss_cons (ha X W A st hc.1) (hr X W A sts hc.2)) fun D σ H ⟨F, env, hn, S, o⟩ => ?_
    simp only [exS] at o
    refine ⟨F, env, hn, S, OutS.seq o (fun e _ σ' F' H' S' st' l' o' => ?_) (fun e _ σ' F' H' S' st' l' o' => o' σ' F' H' S' (.refl _ _ _ _) l') (fun e _ σ' F' H' S' st' l' o' => o' σ' F' H' S' (.refl _ _ _ _) l') (fun _ _ => rfl) rfl⟩
    have := S'.len
    exact ⟨F', e, by omega, S', o'⟩
theorem okS_whl {c : E} {b : S} (hb : OkB T G fa XR k b) : OkS T G fa XR k (.whl c b) := fun X W A st hc => by
  rw [chkS] at hc
  replace hc := onO_of hc
  obtain ⟨⟨c', b'⟩, q1, hc⟩ := hc
  obtain ⟨pos, rfl⟩ := stW_of q1
  simp only [Bool.and_eq_true] at hc
  refine PS.imp (ps_while A.pass ((ok_all c).t X W A.toAmb _ hc.1) (hb X W A _ hc.2)) fun D σ H ⟨F, env, hn, S, o⟩ => ?_
  simp only [exS, cond_evT hc.1] at o
  refine ⟨fun m σ H => ∃ F env, σ.length = X.N.length ∧ Sim X.K fa X.N.length F H σ env ∧ OutS X.K fa XR W X.N.length F H σ env (whlGo (evT G c) (exS G b) m env) D, ⟨fuel, F, env, hn, S, o⟩, ?_⟩
  rintro m σ H ⟨F, env, hn, S, o⟩
  cases m with
  | zero => exact o.elim
  | succ m =>
    simp only [whlGo] at o
    obtain ⟨F0, env0, h0, S0, o0⟩ := evts hn S o
    refine ⟨F0, env0, h0, S0, o0.imp fun b _ H1 ⟨F1, env1, e1, S1, st1, l1⟩ => ?_⟩
    rw [e1, Res.bind_ok] at o
    cases b with
    | false =>
      simp only [Bool.false_eq_true, if_false] at o ⊢
      exact o _ _ _ S1 st1 l1
    | true =>
      simp only [if_true] at o ⊢
      refine ⟨fun σ H => ∃ F env, σ.length = X.N.length ∧ Sim X.K fa X.N.length F H σ env ∧ OutS X.K fa XR W X.N.length F H σ env (whlGo (evT G c) (exS G b) m env) D, fun σ' H' q => ⟨m, Nat.lt_succ_self m, q⟩, F1, env1, hn, S1, ?_⟩
      refine OutS.seq (OutS.pre o st1) (fun e _ σ' F' H' S' st' l' o' => ?_) (fun e _ σ' F' H' S' st' l' o' => o' σ' F' H' S' (.refl _ _ _ _) l') (fun e _ σ' F' H' S' st' l' o' => ?_) (fun _ _ => rfl) rfl
      · have := S'.len
        exact ⟨F', e, by omega, S', o'⟩
      · have := S'.len
        exact ⟨F', e, by omega, S', o'⟩
theorem okS_for {tg it : E} {b : S} (hb : OkB T G fa XR k b) : OkS T G fa XR k (.for_ tg it b) := fun X W A st hc => by
  rw [chkS] at hc
  replace hc := onO_of hc
  obtain ⟨⟨tg', it', b'⟩, q1, hc⟩ := hc
  obtain ⟨pos, rfl⟩ := stF_of q1
  simp only [Bool.and_eq_true] at hc
  obtain ⟨⟨⟨h1, h2⟩, h3⟩, h4⟩ := hc
  refine PS.imp (ps_for A.pass A.calm ((ok_all it).i X W A.toAmb tg' it' h2) (pg_of (fa := fa) A.calm A.nd (fun x hx => names_hf A hx) tg h1) (hb X W A _ h4) (fold_plain h3)) fun D σ H ⟨F, env, hn, S, o⟩ => ?_
  simp only [exS] at o
  refine ⟨F, env, hn, S, ?_⟩
  cases ei : evI G it env with
  | bad => rw [ei] at o; exact o.elim
  | exc x e => rw [ei] at o; exact fun F' H' cls d S st hx => o σ F' H' cls d S st hx (S.len.symm.trans hn)
  | ok z =>
    obtain ⟨xs, env1⟩ := z
    rw [ei, Res.bind_ok] at o
    intro J F1 H1 S1 st1 l1 hJ
    have o1 := OutS.pre o st1
    refine ⟨fun i m σ H => m = xs.length - i ∧ i ≤ xs.length ∧ ∃ F2 env, σ.length = X.N.length ∧ env.length = X.N.length ∧ Sim X.K fa X.N.length F2 H σ env ∧ Sub F1 F2 ∧
      OutS X.K fa XR W X.N.length F2 H σ env (forGo (fun x env => (Res.of (storeU tg x env)).bind fun env => exS G b env) (xs.drop i) env) D, ⟨xs.length, by simp, Nat.zero_le _, F1, env1, hn, l1, S1, .refl _, o1⟩, ?_⟩
    rintro i m σ H ⟨rfl, hi, F2, env, hn, hl, S2, sub, o⟩
    have hs := hJ i F2 H sub S2.fr
    by_cases hlt : i < xs.length
    · obtain ⟨go, yl⟩ := hs.1 xs[i] (List.getElem?_eq_getElem hlt)
      refine .inr ⟨go, fun σ H => i + 1 ≤ xs.length ∧ ∃ F2 env, σ.length = X.N.length ∧ env.length = X.N.length ∧ Sim X.K fa X.N.length F2 H σ env ∧ Sub F1 F2 ∧
        OutS X.K fa XR W X.N.length F2 H σ env (forGo (fun x env => (Res.of (storeU tg x env)).bind fun env => exS G b env) (xs.drop (i + 1)) env) D, fun σ' H' p => ⟨xs.length - (i + 1), by omega, rfl, p⟩, fun xv H' y => ?_⟩
      obtain ⟨F3, P⟩ := yl xv H' y
      rw [List.drop_eq_getElem_cons hlt] at o
      simp only [forGo] at o
      obtain ⟨S3, st3⟩ := P.sim S2
      have hln := S2.len
      have S3' := S3.head (by omega) (by omega)
      have st3' := st3.head (by omega) (Nat.le_refl _)
      cases es : storeU tg xs[i] env with
      | none => rw [es] at o; exact o.elim
      | some env2 =>
        rw [es] at o
        simp only [Res.of_some, Res.bind_ok] at o
        refine ⟨F3, env, [], [], xs[i], env2, hn, hl, by simpa using S3', fun s hs => (by cases hs), P.rep, es, fun σ4 S4 st4 hn4 he4 _ => ?_⟩
        simp only [List.append_nil] at S4 st4
        refine ⟨F3, env2, hn4, S4, ?_⟩
        refine OutS.seq (OutS.pre o (st3'.trans st4)) (fun e _ σ' F' H' S' st' l' o' => ?_) (fun e _ σ' F' H' S' st' l' o' => o' σ' F' H' S' (.refl _ _ _ _) l') (fun e _ σ' F' H' S' st' l' o' => ?_) (fun _ _ => rfl) rfl
        · have := S'.len
          exact ⟨hlt, F', e, by omega, l', S', (sub.trans P.ext).trans st'.ext, o'⟩
        · have := S'.len
          exact ⟨hlt, F', e, by omega, l', S', (sub.trans P.ext).trans st'.ext, o'⟩
    · have hi' : i = xs.length := by omega
      subst hi'
      rw [List.drop_length] at o
      simp only [forGo] at o
      exact .inl ⟨hs.2 (Nat.le_refl _), o _ _ _ S2 (.refl _ _ _ _) hl⟩
end
end PF
end
section
set_option Elab.async false
set_option autoImplicit false
set_option linter.all false
set_option maxRecDepth 100000
namespace PF
open PySem PySem.Spec PyProof.Rows L2

section
variable {T : Tbl} {G : Gx} {fa : FA} {XR : XRt} {k : Nat} {W : WX} {X : Cx} {σ : L2.St} {H : Hp} {F : Hp} {env : En} {D : Ends}
def rSetU (K : PySem.W.Frag) (fa : FA) : TSet := fun o i v H Q => ∃ F a ob u u' x w, o = .ref a ∧ H a = some ob ∧ Hold K fa F ob u ∧ BRep K fa F H i x ∧ Rep K fa F v w ∧ subF u x w = some u' ∧ ∀ ob', Hold K fa F ob' u' → Q (upd H a ob')
theorem set_ok (hu : X.A.units + 1 < cLine) : PSet X (rSetU X.K fa) := by
  intro pins s σ H o i v ov iv u Q I ro ri rv ⟨F, a, ob, uu, u', x, w, eo, ha, hh, bi, rw', es, q⟩
  cases hh with
  | lst r =>
    rename_i xs us
    cases x <;> first | (simp [subF] at es; done) | skip
    rename_i kk
    simp only [subF] at es
    obtain ⟨j, e1, e2⟩ := Option.map_eq_some_iff.mp es
    subst e2
    have := bi.int
    subst this
    exact set_list pins s σ H o _ v ov iv u Q I ro ri rv ⟨a, xs, kk, j, eo, rfl, ha, by rw [r.length]; exact e1, q _ (.lst (r.set rw' j))⟩
  | dic r =>
    rename_i xs us
    simp only [subF] at es
    obtain ⟨ky, e1, e2⟩ := Option.bind_eq_some_iff.mp es
    split at e2
    · rename_i hz
      cases e2
      have := keyF_rep bi e1
      subst this
      exact set_dict hu pins s σ H o _ v ov iv u Q I ro ri rv ⟨a, _, eo, .k ha (by have := kv_length r; omega), q _ (.dic (put_kv rw' ky r))⟩
    · cases e2
theorem ownB_of {i : Nat} (h : ownB env i = true) : ∃ u p, env[i]? = some (.own u p) := by
  unfold ownB at h
  split at h
  · exact ⟨_, _, by assumption⟩
  · cases h
theorem ownL_of {i : Nat} (h : ownL env i = true) : ∃ u p, env[i]? = some (.own (.lst u) p) := by
  unfold ownL at h
  split at h
  · exact ⟨_, _, by assumption⟩
  · cases h
theorem subE_of {env' : En} {i : Nat} {x w : U} (h : subE env i x w = some env') : ∃ u p u', env[i]? = some (.own u p) ∧ subF u x w = some u' ∧ env' = env.set i (.own u' p) := by
  unfold subE at h
  split at h
  · obtain ⟨u', e1, e2⟩ := Option.map_eq_some_iff.mp h
    exact ⟨_, _, u', by assumption, e1, e2.symm⟩
  · cases h
theorem appE_of {env' : En} {i : Nat} {w : U} (h : appE env i w = some env') : ∃ us p, env[i]? = some (.own (.lst us) p) ∧ us.length < sizeLine ∧ env' = env.set i (.own (.lst (us ++ [w])) p) := by
  unfold appE at h
  split at h
  · split at h
    · cases h
      exact ⟨_, _, by assumption, by assumption, rfl⟩
    · cases h
  · cases h
theorem asg_sub {x y : Expr} {p : Pos} {e : Env} (h : plainB y = true) : ∀ v, assign (.Subscript x y p) e v = (do
      let ov ← holding [v] (eval x e)
      let iv ← holding [v, ov] (eval y e)
      standAt p
      holding [v, ov, iv] (setItem ov iv v)
      release [v, ov, iv] []) := by
  cases y <;> first | (intro v; rfl) | cases h
/-- x[k] = v, v being there -/
theorem sub_read {i : Nat} {ke : E} {v : V} {u : U} {F1 H1 : Hp} {env1 : En} {kk : En → Res (Fl × En)} (hn : σ.length = X.N.length) (l1 : env1.length = X.N.length) (S1 : Sim X.K fa X.N.length F1 H1 σ env1) (r : Rep X.K fa F1 v u) (ow : ownB env1 i = true)
    (o : OutS X.K fa XR W X.N.length F1 H1 σ env1 ((evE G ke env1).bind fun (r, env) => (Res.of (look env r)).bind fun x => (Res.of (subE env i x u)).bind kk) D) (Q : L2.St → Hp → Prop)
    (q : ∀ F3 H3 env3, Sim X.K fa X.N.length F3 H3 σ env3 → Stp F1 H1 σ env1 F3 H3 σ env3 → env3.length = X.N.length → OutS X.K fa XR W X.N.length F3 H3 σ env3 (kk env3) D → Q σ H3) : gSub (tVar i) (tEv G fa XR W X ke) (rSetU X.K fa) v σ H1 Q := by
  obtain ⟨u0, p0, ei⟩ := ownB_of ow
  obtain ⟨a, ob, q1, q2, q3, q4⟩ := S1.slot i _ ei
  refine ⟨.ref a, q1, ?_⟩
  obtain ⟨F0, env0, h0, S0, o0⟩ := evs hn S1 o
  refine ⟨F0, env0, h0, S0, o0.imp fun _ ys H2 ⟨y, ey, F2, env2, p, e1, S2, st2, l2⟩ => ⟨y, ey, ?_⟩⟩
  rw [e1, Res.bind_ok] at o
  obtain ⟨x, e2, o⟩ := OutS.of o
  obtain ⟨env3, e3, o⟩ := OutS.of o
  obtain ⟨uu, p', u', x1, x2, rfl⟩ := subE_of e3
  have hl2 := S2.len
  simp only [List.length_append, List.length_singleton] at hl2
  have b2 := look_rep (j := 0) S2 (by omega) (by omega) rfl rfl e2
  have S2h := S2.head (by omega) (by omega)
  obtain ⟨a', ob', y1, y2, y3, y4⟩ := S2h.slot i _ x1
  rw [q1] at y1
  cases y1
  refine ⟨F2, a, ob', uu, u', x, u, rfl, y2, y3, b2, r.sub st2.ext, x2, fun ob2 hh => ?_⟩
  obtain ⟨S4, st4⟩ := S2h.mut x1 q1 hh
  have st24 := (st2.head (by omega) (by omega)).trans st4
  exact q _ _ _ S4 st24 (by simp [l2]) (OutS.pre o st24)
theorem okS_sub {i : Nat} {ke e : E} : OkS T G fa XR k (.sub i ke e) := fun X W A st hc => by
  rw [chkS] at hc
  replace hc := onO_of hc
  obtain ⟨⟨t, v⟩, q1, hc⟩ := hc
  obtain ⟨pos, rfl⟩ := stA_of q1
  replace hc := onO_of hc
  obtain ⟨⟨x, y⟩, q2, hc⟩ := hc
  obtain ⟨q, p, rfl⟩ := exS1_of q2
  simp only [Bool.and_eq_true] at hc
  obtain ⟨⟨⟨h1, h2⟩, h3⟩, h4⟩ := hc
  obtain ⟨n1, n2, n3, n4⟩ := nameB_of h1
  have hu : X.A.units + 1 < cLine := by have := A.room.un; omega
  refine PS.imp (ps_asg ((ok_all e).e X W A.toAmb v h4) (pg_sub (pe_var n1 n2 n3 n4) ((ok_all ke).e X W A.toAmb y h2) (set_ok (fa := fa) hu) (asg_sub h3)) (sw_tg (t := .Subscript (.Name x q) y p) (v := v) (l := pos.line) (env := X.env) rfl) sw_sub rfl) fun D σ H ⟨F, env, hn, S, o⟩ => ?_
  simp only [exS] at o
  obtain ⟨F0, env0, h0, S0, o0⟩ := evs hn S o
  refine ⟨F0, env0, h0, S0, o0.imp fun _ vs H1 ⟨v, ev, F1, env1, p, e1, S1, st1, l1⟩ => ⟨v, ev, ?_⟩⟩
  rw [e1, Res.bind_ok] at o
  obtain ⟨u, e2, o⟩ := OutS.of o
  split at o
  · rename_i ow
    obtain ⟨F2, S2, st2, r⟩ := freeze1 S1 (by omega) e2
    have hln := S.len
    have st12 := (st1.trans st2).head (σ' := σ) (env' := env1) (by omega) (by omega)
    exact sub_read hn l1 (S2.head (by omega) (by omega)) r ow (OutS.pre o st12) _ fun F3 H3 env3 S3 st3 l3 o3 => o3 _ _ _ S3 (.refl _ _ _ _) l3
  · exact o.elim
theorem okS_par2 {i j : Nat} {ke le a b : E} : OkS T G fa XR k (.par2 i ke j le a b) := fun X W A st hc => by
  rw [chkS] at hc
  replace hc := onO_of hc
  obtain ⟨⟨t, v⟩, q1, hc⟩ := hc
  obtain ⟨pos, rfl⟩ := stA_of q1
  replace hc := onO_of hc
  obtain ⟨xs, q2, hc⟩ := hc
  obtain ⟨kk, tp, rfl⟩ := exT_of q2
  replace hc := onO_of hc
  obtain ⟨vs, q3, hc⟩ := hc
  obtain ⟨kv, vp, rfl⟩ := exT_of q3
  replace hc := onO_of hc
  obtain ⟨⟨s1, s2⟩, q4, hc⟩ := hc
  cases exS2_of q4
  replace hc := onO_of hc
  obtain ⟨⟨x, y⟩, q5, hc⟩ := hc
  obtain ⟨nx, px, rfl⟩ := exS1_of q5
  replace hc := onO_of hc
  obtain ⟨⟨x', y'⟩, q6, hc⟩ := hc
  obtain ⟨nx', px', rfl⟩ := exS1_of q6
  simp only [Bool.and_eq_true, decide_eq_true_eq] at hc
  obtain ⟨⟨⟨⟨⟨⟨⟨h1, h2⟩, h3⟩, h4⟩, h5⟩, h6⟩, h7⟩, h8⟩ := hc
  obtain ⟨n1, n2, n3, n4⟩ := nameB_of h1
  obtain ⟨m1, m2, m3, m4⟩ := nameB_of h2
  have hu : X.A.units + 1 < cLine := by have := A.room.un; omega
  refine PS.imp (ps_asg (pe_tup ((ok_all (.cons a (.cons b .nil))).l X W A.toAmb vs h8))
    (pg_tup A.calm (pgs_cons (pg_sub (pe_var n1 n2 n3 n4) ((ok_all ke).e X W A.toAmb y h3) (set_ok (fa := fa) hu) (asg_sub h4)) (pgs_cons (pg_sub (pe_var m1 m2 m3 m4) ((ok_all le).e X W A.toAmb y' h5) (set_ok (fa := fa) hu) (asg_sub h6)) pgs_nil rfl) rfl) (n := 2) rfl rfl)
    (sw_tg (t := .Tuple [.Subscript (.Name x nx) y px, .Subscript (.Name x' nx') y' px'] kk tp) (v := .Tuple vs kv vp) (l := pos.line) (env := X.env) rfl) (sw_tup A.kind h7) rfl) fun D σ H ⟨F, env, hn, S, o⟩ => ?_
  simp only [exS] at o
  refine ⟨F, env, hn, S, (OutS.sub (sh := fun w => w) o (.refl _ _ _ _) hn).imp fun ws vs H1 ⟨F1, env1, e1, S1, st1, l1⟩ => ?_⟩
  rw [e1, Res.bind_ok] at o
  obtain ⟨us, e2, o⟩ := OutS.of o
  obtain ⟨F2, S2, st2, r⟩ := freeze_side S1 (by omega) e2
  have hln := S.len
  rcases us with _ | ⟨u, _ | ⟨w, _ | ⟨_, _⟩⟩⟩ <;> first | exact o.elim | skip
  simp only at o
  split at o
  · rename_i ow
    obtain ⟨v1, v2, rfl, r1, r2⟩ := RepAll.two r
    refine ⟨by show 2 ≤ sizeLine; decide, fun T hT => ?_⟩
    have S2h := S2.head (σ := σ) (env := env1) (by omega) (by omega)
    have st12 := (st1.trans st2).head (σ' := σ) (env' := env1) (by omega) (by omega)
    have P := OpPost.tup S2.fr hT r
    obtain ⟨S3, st3⟩ := P.sim S2h
    have S3h := S3.head (σ := σ) (env := env1) (by omega) (by omega)
    have st3h := st3.head (σ' := σ) (env' := env1) (by omega) (Nat.le_refl _)
    refine ⟨T, _, rfl, .inl (.inl upd_same), rfl, v1, _, rfl, ?_⟩
    refine sub_read hn l1 S3h (r1.sub P.ext) ow (OutS.pre o (st12.trans st3h)) _ fun F4 H4 env4 S4 st4 l4 o4 => ?_
    split at o4
    · rename_i ow2
      refine ⟨v2, _, rfl, ?_⟩
      refine sub_read hn l4 S4 (r2.sub (P.ext.trans st4.ext)) ow2 o4 _ fun F5 H5 env5 S5 st5 l5 o5 => ⟨rfl, ?_⟩
      exact o5 _ _ _ S5 (.refl _ _ _ _) l5
    · exact o4.elim
  · exact o.elim
theorem okS_app {i : Nat} {e : E} : OkS T G fa XR k (.app i e) := fun X W A st hc => by
  rw [chkS] at hc
  replace hc := onO_of hc
  obtain ⟨⟨v, ln⟩, q1, hc⟩ := hc
  obtain ⟨pos, rfl⟩ := stX_of q1
  replace hc := onO_of hc
  obtain ⟨⟨x, a⟩, q2, hc⟩ := hc
  obtain ⟨q, ap, cp, rfl, hline⟩ := exA_of q2
  simp only [Bool.and_eq_true] at hc
  obtain ⟨⟨h1, h2⟩, h3⟩ := hc
  obtain ⟨n1, n2, n3, n4⟩ := nameB_of h1
  have hs : starEach [a] X.env = (false, eval a X.env) :: starEach [] X.env := star_cons h3
  have hfew : ((backTo cp (starEach [a] X.env)).all (fun x => !x.1) && (backToKw cp (keywordEach [] X.env)).all (fun x => x.1.isSome)
      && decide (([a] : List Expr).length + ([] : List Keyword).length + (if ([] : List Keyword).isEmpty then 0 else 1) < 30)) = true := by rw [hs]; rfl
  refine PS.imp (ps_expr (pe_bm PySem.F.plainAttrs_list PySem.F.slot_list_append PySem.F.type_list_append mt_append (pe_var n1 n2 n3 n4) (pa_cons ((ok_all e).e X W A.toAmb a h2) pa_nil hs) rfl hfew hline hs rfl) rfl) fun D σ H ⟨F, env, hn, S, o⟩ => ?_
  simp only [exS] at o
  split at o
  · rename_i ow
    obtain ⟨us0, p0, ei⟩ := ownL_of ow
    obtain ⟨ad, ob, x1, x2, x3, x4⟩ := S.slot i _ ei
    refine ⟨.ref ad, x1, ?_, ?_⟩
    · cases x3 with
      | lst r => exact .inl ⟨rfl, _, .of x2⟩
    · obtain ⟨F0, env0, h0, S0, o0⟩ := evs hn S o
      refine ⟨F0, env0, h0, S0, o0.imp fun _ vs H1 ⟨v, ev, F1, env1, p, e1, S1, st1, l1⟩ => ⟨v, ev, ?_⟩⟩
      rw [e1, Res.bind_ok] at o
      obtain ⟨u, e2, o⟩ := OutS.of o
      obtain ⟨env2, e3, o⟩ := OutS.of o
      obtain ⟨F2, S2, st2, r⟩ := freeze1 S1 (by omega) e2
      obtain ⟨us, pp, y1, y2, rfl⟩ := appE_of e3
      have hln := S.len
      have S2h := S2.head (σ := σ) (env := env1) (by omega) (by omega)
      obtain ⟨ad', ob', z1, z2, z3, z4⟩ := S2h.slot i _ y1
      rw [x1] at z1
      cases z1
      cases z3 with
      | lst rr =>
        rename_i xs
        refine ⟨ad, xs, v, rfl, rfl, z2, by have := rr.length; omega, ?_⟩
        obtain ⟨S3, st3⟩ := S2h.mut y1 x1 (.lst (rr.app (.cons r .nil)))
        exact o _ _ _ S3 (((st1.trans st2).head (by omega) (by omega)).trans st3) (by simp [l1])
  · exact o.elim
theorem parB_len {N : List Str} {sc : Scope} : ∀ {is : List Nat} {xs : List Expr}, parB N sc is xs = true → xs.length = is.length
  | [], [], _ => rfl
  | [], _ :: _, h => by simp [parB] at h
  | _ :: _, [], h => by simp [parB] at h
  | i :: r, x :: xs, h => by
    cases x <;> first | (simp [parB] at h; done) | skip
    simp only [parB, Bool.and_eq_true] at h
    simp [parB_len h.2]
theorem parB_cons {N : List Str} {sc : Scope} {i : Nat} {r : List Nat} {xs : List Expr} (h : parB N sc (i :: r) xs = true) : ∃ x p ys, xs = .Name x p :: ys ∧ N[i]? = some x ∧ sc.names.lookup x = some .local ∧ i ∉ r ∧ parB N sc r ys = true := by
  cases xs with
  | nil => simp [parB] at h
  | cons x xs =>
    cases x <;> first | (simp [parB] at h; done) | skip
    simp only [parB, Bool.and_eq_true, decide_eq_true_eq, Bool.not_eq_true', List.contains_eq_mem, decide_eq_false_iff_not] at h
    exact ⟨_, _, _, rfl, h.1.1.1, h.1.1.2, h.1.2, h.2⟩
theorem parIs_cons {ts : E} {i : Nat} {r : List Nat} (h : parIs ts = some (i :: r)) : ∃ t q, ts = .cons t q ∧ parI t = some i ∧ parIs q = some r := by
  cases ts <;> first | (simp [parIs] at h; done) | skip
  simp only [parIs] at h
  obtain ⟨j, e1, e2⟩ := Option.bind_eq_some_iff.mp h
  obtain ⟨r', e3, e4⟩ := Option.map_eq_some_iff.mp e2
  cases e4
  exact ⟨_, _, rfl, e1, e3⟩
theorem parIs_nil {ts : E} (h : parIs ts = some []) : ts = .nil := by
  cases ts <;> first | rfl | (simp [parIs] at h; done) | skip
  simp only [parIs] at h
  obtain ⟨j, e1, e2⟩ := Option.bind_eq_some_iff.mp h
  obtain ⟨r', e3, e4⟩ := Option.map_eq_some_iff.mp e2
  cases e4
theorem parF_len : ∀ {ws : List Slot} {ts : E} {is : List Nat} {env env' : En}, parIs ts = some is → parF ts ws env = some env' → ws.length = is.length := by
  intro ws
  induction ws with
  | nil =>
    intro ts is env env' h1 h2
    cases ts <;> first | (simp [parF] at h2; done) | skip
    simp [parIs] at h1
    subst h1
    rfl
  | cons s r ih =>
    intro ts is env env' h1 h2
    cases ts <;> first | (simp [parF] at h2; done) | skip
    rename_i t q
    simp only [parIs] at h1
    obtain ⟨j, e1, e2⟩ := Option.bind_eq_some_iff.mp h1
    obtain ⟨r', e3, e4⟩ := Option.map_eq_some_iff.mp e2
    subst e4
    cases t <;> first | (simp [parF] at h2; done) | skip
    · simp only [parF] at h2
      obtain ⟨e5, _, h2⟩ := Option.bind_eq_some_iff.mp h2
      simp [ih e3 h2]
    · simp only [parF] at h2
      obtain ⟨e5, _, h2⟩ := Option.bind_eq_some_iff.mp h2
      obtain ⟨e6, _, h2⟩ := Option.bind_eq_some_iff.mp h2
      simp [ih e3 h2]
theorem okS_par {ts es : E} : OkS T G fa XR k (.par ts es) := fun X W A st hc => by
  rw [chkS] at hc
  replace hc := onO_of hc
  obtain ⟨⟨t, v⟩, q1, hc⟩ := hc
  obtain ⟨pos, rfl⟩ := stA_of q1
  replace hc := onO_of hc
  obtain ⟨xs, q2, hc⟩ := hc
  obtain ⟨kk, tp, rfl⟩ := exT_of q2
  replace hc := onO_of hc
  obtain ⟨vs, q3, hc⟩ := hc
  obtain ⟨kv, vp, rfl⟩ := exT_of q3
  replace hc := onO_of hc
  obtain ⟨is, q4, hc⟩ := hc
  simp only [Bool.and_eq_true, decide_eq_true_eq] at hc
  obtain ⟨⟨⟨h1, h2⟩, h3⟩, h4⟩ := hc
  have hw := sw_tup (k := kk) (p := tp) (k' := kv) (p' := vp) A.kind h3
  have hlv : vs.length = xs.length := by
    unfold swB at h3
    split at h3
    · cases h3
    · rename_i c
      simp only [Bool.or_eq_true, bne_iff_ne, not_or, ne_eq, Decidable.not_not] at c
      exact c.2
  have hL := (ok_all es).l X W A.toAmb vs h4
  rcases is with _ | ⟨i, _ | ⟨j, _ | ⟨l, _ | ⟨_, _⟩⟩⟩⟩ <;> first | (simp [few] at h1; done) | skip
  · obtain ⟨t1, r1, rfl, i1, q5⟩ := parIs_cons q4
    obtain ⟨t2, r2, rfl, i2, q6⟩ := parIs_cons q5
    cases parIs_nil q6
    obtain ⟨x, px, ys, rfl, n1, n2, n3, h5⟩ := parB_cons h2
    obtain ⟨y, py, zs, rfl, m1, m2, m3, h6⟩ := parB_cons h5
    have := parB_len h6
    cases zs <;> first | (cases this; done) | skip
    rcases vs with _ | ⟨a, _ | ⟨b, _ | ⟨_, _⟩⟩⟩ <;> first | (cases hlv; done) | skip
    have hij : i ≠ j := fun z => n3 (by simp [z])
    refine PS.imp (ps_par A.calm A.nd n1 m1 hij n2 m2 hL hw rfl) fun D σ H ⟨F, env, hn, S, o⟩ => ?_
    simp only [exS] at o
    refine ⟨F, env, hn, S, (OutS.sub (sh := fun w => w) o (.refl _ _ _ _) hn).imp fun ws us H1 ⟨F1, env1, e1, S1, st1, l1⟩ => ?_⟩
    rw [e1, Res.bind_ok] at o
    obtain ⟨env2, e2, o⟩ := OutS.of o
    have hlw := parF_len q4 e2
    have hln := S.len
    have hlu : us.length = ws.length := len_side S1 (by omega)
    rcases ws with _ | ⟨s1, _ | ⟨s2, _ | ⟨_, _⟩⟩⟩ <;> first | (cases hlw; done) | skip
    rcases us with _ | ⟨v1, _ | ⟨v2, _ | ⟨_, _⟩⟩⟩ <;> first | (cases hlu; done) | skip
    refine ⟨v1, v2, rfl, ?_⟩
    obtain ⟨i', F3, env3, p1, p2, S3, st3, l3⟩ := par_one e2 S1 hn l1
    rw [i1] at p1
    cases p1
    obtain ⟨j', F4, env4, p3, p4, S4, st4, l4⟩ := par_one p2 S3 (by simp [hn]) l3
    rw [i2] at p3
    cases p3
    simp only [parF, Option.some.injEq] at p4
    subst p4
    simp only [List.map_nil, List.append_nil] at S4 st4
    exact o _ _ _ S4 (st1.trans (st3.trans st4)) l4
  · obtain ⟨t1, r1, rfl, i1, q5⟩ := parIs_cons q4
    obtain ⟨t2, r2, rfl, i2, q6⟩ := parIs_cons q5
    obtain ⟨t3, r3, rfl, i3, q7⟩ := parIs_cons q6
    cases parIs_nil q7
    obtain ⟨x, px, ys, rfl, n1, n2, n3, h5⟩ := parB_cons h2
    obtain ⟨y, py, zs, rfl, m1, m2, m3, h6⟩ := parB_cons h5
    obtain ⟨z, pz, ws, rfl, k1, k2, k3, h7⟩ := parB_cons h6
    have := parB_len h7
    cases ws <;> first | (cases this; done) | skip
    rcases vs with _ | ⟨a, _ | ⟨b, _ | ⟨c, _ | ⟨_, _⟩⟩⟩⟩ <;> first | (cases hlv; done) | skip
    have hij : i ≠ j := fun z => n3 (by simp [z])
    have hil : i ≠ l := fun z => n3 (by simp [z])
    have hjl : j ≠ l := fun z => m3 (by simp [z])
    refine PS.imp (ps_par3 A.calm A.nd n1 m1 k1 hij hil hjl n2 m2 k2 hL hw rfl) fun D σ H ⟨F, env, hn, S, o⟩ => ?_
    simp only [exS] at o
    refine ⟨F, env, hn, S, (OutS.sub (sh := fun w => w) o (.refl _ _ _ _) hn).imp fun ws us H1 ⟨F1, env1, e1, S1, st1, l1⟩ => ?_⟩
    rw [e1, Res.bind_ok] at o
    obtain ⟨env2, e2, o⟩ := OutS.of o
    have hlw := parF_len q4 e2
    have hln := S.len
    have hlu : us.length = ws.length := len_side S1 (by omega)
    rcases ws with _ | ⟨s1, _ | ⟨s2, _ | ⟨s3, _ | ⟨_, _⟩⟩⟩⟩ <;> first | (cases hlw; done) | skip
    rcases us with _ | ⟨v1, _ | ⟨v2, _ | ⟨v3, _ | ⟨_, _⟩⟩⟩⟩ <;> first | (cases hlu; done) | skip
    refine ⟨v1, v2, v3, rfl, ?_⟩
    obtain ⟨i', F3, env3, p1, p2, S3, st3, l3⟩ := par_one e2 S1 hn l1
    rw [i1] at p1
    cases p1
    obtain ⟨j', F4, env4, p3, p4, S4, st4, l4⟩ := par_one p2 S3 (by simp [hn]) l3
    rw [i2] at p3
    cases p3
    obtain ⟨l', F5, env5, p5, p6, S5, st5, l5⟩ := par_one p4 S4 (by simp [hn]) l4
    rw [i3] at p5
    cases p5
    simp only [parF, Option.some.injEq] at p6
    subst p6
    simp only [List.map_nil, List.append_nil] at S5 st5
    exact o _ _ _ S5 (st1.trans (st3.trans (st4.trans st5))) l5
/-- every statement -/
theorem okS_all : ∀ s : S, OkS T G fa XR k s ∧ OkB T G fa XR k s := by
  have nb : ∀ {s : S}, (∀ N sc sts, chkB T N s sc sts = false) → OkB T G fa XR k s := fun h X W A sts c => by rw [h] at c; cases c
  have ns : ∀ {s : S}, (∀ N sc st, chkS T N s sc st = false) → OkS T G fa XR k s := fun h X W A st c => by rw [h] at c; cases c
  intro s
  induction s with
  | nil => exact ⟨ns fun N sc st => by rw [chkS], okB_nil⟩
  | seq a r iha ihr => exact ⟨ns fun N sc st => by rw [chkS], okB_seq iha.1 ihr.2⟩
  | pas => exact ⟨okS_pas, nb fun N sc sts => by cases sts <;> rw [chkB] <;> simp⟩
  | brk => exact ⟨okS_brk, nb fun N sc sts => by cases sts <;> rw [chkB] <;> simp⟩
  | cnt => exact ⟨okS_cnt, nb fun N sc sts => by cases sts <;> rw [chkB] <;> simp⟩
  | set i e => exact ⟨okS_set, nb fun N sc sts => by cases sts <;> rw [chkB] <;> simp⟩
  | own i e => exact ⟨okS_own, nb fun N sc sts => by cases sts <;> rw [chkB] <;> simp⟩
  | unp tg e => exact ⟨okS_unp, nb fun N sc sts => by cases sts <;> rw [chkB] <;> simp⟩
  | par ts es => exact ⟨okS_par, nb fun N sc sts => by cases sts <;> rw [chkB] <;> simp⟩
  | par2 i ke j le a b => exact ⟨okS_par2, nb fun N sc sts => by cases sts <;> rw [chkB] <;> simp⟩
  | sub i ke e => exact ⟨okS_sub, nb fun N sc sts => by cases sts <;> rw [chkB] <;> simp⟩
  | app i e => exact ⟨okS_app, nb fun N sc sts => by cases sts <;> rw [chkB] <;> simp⟩
  | exp e => exact ⟨okS_exp, nb fun N sc sts => by cases sts <;> rw [chkB] <;> simp⟩
  | ret e => exact ⟨okS_ret, nb fun N sc sts => by cases sts <;> rw [chkB] <;> simp⟩
  | retn => exact ⟨okS_retn, nb fun N sc sts => by cases sts <;> rw [chkB] <;> simp⟩
  | iff c a b iha ihb => exact ⟨okS_iff iha.2 ihb.2, nb fun N sc sts => by cases sts <;> rw [chkB] <;> simp⟩
  | for_ tg it b ihb => exact ⟨okS_for ihb.2, nb fun N sc sts => by cases sts <;> rw [chkB] <;> simp⟩
  | whl c b ihb => exact ⟨okS_whl ihb.2, nb fun N sc sts => by cases sts <;> rw [chkB] <;> simp⟩
end
end PF
end
section
set_option Elab.async false
set_option autoImplicit false
set_option linter.all false
set_option maxRecDepth 100000
namespace PF
open PySem PySem.Spec PyProof.Rows L2

theorem outsF_get : ∀ {md : List Bool} {e as : List Slot}, md.length = as.length → as.length ≤ e.length → (outsF md e as).length = as.length ∧ ∀ j : Nat, (md[j]? = some true → (outsF md e as)[j]? = e[j]?) ∧ (md[j]? = some false → (outsF md e as)[j]? = as[j]?)
  | [], e, [], _, _ => ⟨by cases e <;> rfl, fun j => ⟨fun h => by simp at h, fun h => by simp at h⟩⟩
  | [], _, _ :: _, h, _ => by simp at h
  | _ :: _, _, [], h, _ => by simp at h
  | _ :: _, [], _ :: _, _, h => by simp at h
  | b :: md, s :: e, a :: as, h1, h2 => by
    obtain ⟨q1, q2⟩ := outsF_get (md := md) (e := e) (as := as) (by simpa using h1) (by simpa using h2)
    cases b with
    | true =>
      refine ⟨by simp [outsF, q1], fun j => ?_⟩
      cases j with
      | zero => exact ⟨fun _ => by simp [outsF], fun h => by simp at h⟩
      | succ j => simpa [outsF] using q2 j
    | false =>
      refine ⟨by simp [outsF, q1], fun j => ?_⟩
      cases j with
      | zero => exact ⟨fun h => by simp at h, fun _ => by simp [outsF]⟩
      | succ j => simpa [outsF] using q2 j
section
variable {K : PySem.W.Frag} {fa : FA} {n : Nat} {F F' H H' : Hp}
/-- what a call's places are -/
def ArgOk (md : List Bool) (as : List Slot) : Prop := ∀ j : Nat, (md[j]? = some false → ∃ u, as[j]? = some (.val u)) ∧ (md[j]? = some true → ∃ u, as[j]? = some (.own u true))
theorem ArgOk.at {md : List Bool} {as : List Slot} (h : ArgOk md as) (hl : as.length = md.length) {j : Nat} {s : Slot} (e : as[j]? = some s) : (md[j]? = some false ∧ ∃ u, s = .val u) ∨ (md[j]? = some true ∧ ∃ u, s = .own u true) := by
  have hj := ltOf e
  cases q : md[j]? with
  | none => have := List.getElem?_eq_none_iff.mp q; omega
  | some b =>
    cases b with
    | false =>
      obtain ⟨u, z⟩ := (h j).1 q
      rw [z] at e
      cases e
      exact .inl ⟨rfl, u, rfl⟩
    | true =>
      obtain ⟨u, z⟩ := (h j).2 q
      rw [z] at e
      cases e
      exact .inr ⟨rfl, u, rfl⟩
/-- a def begins -/
theorem Sim.enter {N : List Str} {vs : List V} {md : List Bool} {as : List Slot} (S : Sim K fa 0 F H (vs.map some) as) (ha : ArgOk md as) (hl : as.length = md.length) (hv : vs.length = as.length) (hN : as.length ≤ N.length) :
    Sim K fa N.length F H (start N vs) (as ++ List.replicate (N.length - as.length) .emp) := by
  have hs : start N vs = vs.map some ++ List.replicate (N.length - vs.length) none := rfl
  have old : ∀ (j : Nat) (u : U) (p : Bool) (a : Addr), (as ++ List.replicate (N.length - as.length) Slot.emp)[j]? = some (.own u p) → (start N vs)[j]? = some (some (.ref a)) → as[j]? = some (.own u p) ∧ (vs.map some)[j]? = some (some (.ref a)) := fun j u p a h1 h2 => by
    by_cases c : j < as.length
    · rw [getL c] at h1
      rw [hs, getL (by simp; omega)] at h2
      exact ⟨h1, h2⟩
    · rw [getR (by omega)] at h1
      have := List.mem_replicate.mp (List.mem_of_getElem? h1)
      cases this.2
  refine ⟨by rw [hs]; simp; omega, S.fr, fun j s e => ?_, fun i j a u u' p p' h1 h2 h3 h4 => ?_⟩
  · by_cases c : j < as.length
    · rw [getL c] at e
      have q := S.slot j s e
      have e2 : (start N vs)[j]? = (vs.map some)[j]? := by rw [hs, getL (by simp; omega)]
      rcases ha.at hl e with ⟨_, u, rfl⟩ | ⟨_, u, rfl⟩
      · obtain ⟨v, q1, q2⟩ := q; exact ⟨v, e2.trans q1, q2⟩
      · obtain ⟨a, o, q1, q2⟩ := q; exact ⟨a, o, e2.trans q1, q2⟩
    · rw [getR (by omega)] at e
      have := List.mem_replicate.mp (List.mem_of_getElem? e)
      rw [this.2]
      exact True.intro
  · obtain ⟨x1, x2⟩ := old i u p a h1 h3
    obtain ⟨y1, y2⟩ := old j u' p' a h2 h4
    exact S.inj i j a u u' p p' x1 y1 x2 y2
theorem own_enter {N : List Str} {vs : List V} {as : List Slot} (hv : vs.length = as.length) {a : Addr} (h : Own (start N vs) (as ++ List.replicate (N.length - as.length) .emp) a) : Own (vs.map some) as a := by
  obtain ⟨j, u, p, h1, h2⟩ := h
  by_cases c : j < as.length
  · rw [getL c] at h1
    have hs : start N vs = vs.map some ++ List.replicate (N.length - vs.length) none := rfl
    rw [hs, getL (by simp; omega)] at h2
    exact ⟨j, u, p, h1, h2⟩
  · rw [getR (by omega)] at h1
    have := List.mem_replicate.mp (List.mem_of_getElem? h1)
    cases this.2
/-- .. and is left -/
theorem leave {N : List Str} {vs : List V} {md : List Bool} {as : List Slot} {σ' τ : L2.St} {e ws : En} (S : Sim K fa 0 F H (vs.map some) as) (ha : ArgOk md as) (hl : as.length = md.length) (hv : vs.length = as.length) (hN : as.length ≤ N.length)
    (S' : Sim K fa N.length F' H' (σ' ++ τ) (e ++ ws)) (he : e.length = N.length) (hσ : σ'.length = N.length) (hw : NoBor ws) (st : Stp F H (start N vs) (as ++ List.replicate (N.length - as.length) .emp) F' H' (σ' ++ τ) (e ++ ws)) :
    Sim K fa 0 F' H' (vs.map some ++ τ) (outsF md e as ++ ws) ∧ Stp F H (vs.map some) as F' H' (vs.map some ++ τ) (outsF md e as ++ ws) ∧ (outsF md e as).length = as.length := by
  obtain ⟨lo, og⟩ := outsF_get (md := md) (e := e) (as := as) hl.symm (by omega)
  have hs : start N vs = vs.map some ++ List.replicate (N.length - vs.length) none := rfl
  -- the lent places
  have pin : ∀ (j : Nat), md[j]? = some true → ∃ u', e[j]? = some (.own u' true) ∧ σ'[j]? = (vs.map some)[j]? := fun j hm => by
    obtain ⟨u, eu⟩ := (ha j).2 hm
    have hj := ltOf eu
    obtain ⟨q1, u', q2⟩ := st.pin j u (by rw [getL hj]; exact eu)
    rw [getL (by omega)] at q1 q2
    rw [hs, getL (by simp; omega)] at q1
    exact ⟨u', q2, q1⟩
  -- places behind the call: where they stood
  have at1 : ∀ (j : Nat) (s : Slot), (outsF md e as ++ ws)[j]? = some s → (∃ u, s = .val u ∧ as[j]? = some (.val u) ∧ j < as.length) ∨ (∃ u, s = .own u true ∧ e[j]? = some (.own u true) ∧ σ'[j]? = (vs.map some)[j]? ∧ j < as.length) ∨ (as.length ≤ j ∧ ws[j - as.length]? = some s) := fun j s q => by
    by_cases c : j < as.length
    · rw [getL (by omega)] at q
      rcases ha.at hl (List.getElem?_eq_getElem c) with ⟨hm, u, eu⟩ | ⟨hm, u, eu⟩
      · rw [(og j).2 hm, List.getElem?_eq_getElem c, eu] at q
        cases q
        exact .inl ⟨u, rfl, by rw [List.getElem?_eq_getElem c, eu], c⟩
      · rw [(og j).1 hm] at q
        obtain ⟨u', q1, q2⟩ := pin j hm
        rw [q1] at q
        cases q
        exact .inr (.inl ⟨u', rfl, q1, q2, c⟩)
    · rw [getR (by omega), lo] at q
      exact .inr (.inr ⟨by omega, q⟩)
  have two : ∀ (j : Nat) (u : U) (p : Bool) (a : Addr), (outsF md e as ++ ws)[j]? = some (.own u p) → (vs.map some ++ τ)[j]? = some (some (.ref a)) →
      ∃ j', (e ++ ws)[j']? = some (.own u p) ∧ (σ' ++ τ)[j']? = some (some (.ref a)) ∧ ((j < as.length ∧ j' = j) ∨ (as.length ≤ j ∧ j' = N.length + (j - as.length))) := fun j u p a h1 h2 => by
    rcases at1 j _ h1 with ⟨_, z, _⟩ | ⟨u', z, q1, q2, c⟩ | ⟨c, q⟩
    · cases z
    · cases z
      rw [getL (by simp; omega)] at h2
      exact ⟨j, by rw [getL (by omega)]; exact q1, by rw [getL (by omega), q2]; exact h2, .inl ⟨c, rfl⟩⟩
    · rw [getR (by simp; omega), List.length_map, hv] at h2
      exact ⟨N.length + (j - as.length), by rw [getR (by omega), he, Nat.add_sub_cancel_left]; exact q, by rw [getR (by omega), hσ, Nat.add_sub_cancel_left]; exact h2, .inr ⟨c, rfl⟩⟩
  have hτ : τ.length = ws.length := by have := S'.len; simp only [List.length_append] at this; omega
  refine ⟨⟨by simp; omega, S'.fr, fun j s q => ?_, fun i j a u u' p p' h1 h2 h3 h4 => ?_⟩, ⟨st.ext, fun a o h no => st.keep a o h fun z => no (own_enter hv z), fun a ⟨j, u, p, h1, h2⟩ => ?_, fun a o h => ?_, fun j u q => ?_⟩, lo⟩
  · rcases at1 j s q with ⟨u, rfl, q1, c⟩ | ⟨u', rfl, q1, q2, c⟩ | ⟨c, q1⟩
    · obtain ⟨v, x1, x2⟩ := S.slot j _ q1
      exact ⟨v, by rw [getL (by simp; omega)]; exact x1, x2.sub st.ext⟩
    · obtain ⟨a, o, x1, x2⟩ := S'.slot j (.own u' true) (by rw [getL (by omega)]; exact q1)
      rw [getL (by omega), q2] at x1
      exact ⟨a, o, by rw [getL (by simp; omega)]; exact x1, x2⟩
    · have x := S'.slot (N.length + (j - as.length)) s (by rw [getR (by omega), he, Nat.add_sub_cancel_left]; exact q1)
      have e2 : (vs.map some ++ τ)[j]? = (σ' ++ τ)[N.length + (j - as.length)]? := by rw [getR (by simp; omega), getR (by omega), List.length_map, hv, hσ, Nat.add_sub_cancel_left]
      cases s with
      | emp => exact True.intro
      | val u => obtain ⟨v, x1, x2⟩ := x; exact ⟨v, e2.trans x1, x2⟩
      | own u p => obtain ⟨a, o, x1, x2⟩ := x; exact ⟨a, o, e2.trans x1, x2⟩
      | bor k => exact (hw _ (List.mem_of_getElem? q1) k rfl).elim
  · obtain ⟨i', x1, x2, x3⟩ := two i u p a h1 h3
    obtain ⟨j', y1, y2, y3⟩ := two j u' p' a h2 h4
    have := S'.inj i' j' a u u' p p' x1 y1 x2 y2
    omega
  · obtain ⟨j', x1, x2, _⟩ := two j u p a h1 h2
    exact (st.sub a ⟨j', u, p, x1, x2⟩).imp (own_enter hv) id
  · exact (st.new a o h).imp id fun z => z.imp (own_enter hv) id
  · rcases ha.at hl q with ⟨_, _, z⟩ | ⟨hm, _, z⟩
    · cases z
    · obtain ⟨u', q1, q2⟩ := pin j hm
      have hj := ltOf q
      exact ⟨getL (by simp; omega), u', by rw [getL (by omega), (og j).1 hm]; exact q1⟩
end

structure DefOk (P : Prg) (T : Tbl) (K : PySem.W.Frag) (i : Nat) (f : Addr) (fn : Fn) (x qual : Str) (params : Arguments) (body : List Stmt) (scope : Scope) (fd : FuncData) (N ps : List Str) : Prop where
  at_ : P.fns[i]? = some fn
  fun_ : FunD K x qual params body scope [] [] f fd
  bind : Binds K fd ps []
  sc : FnScope N ps scope
  n : fn.n = N.length
  md : fn.md.length = ps.length
  chk : chkB T N fn.body scope body = true
section
variable {P : Prg} {T : Tbl} {prog : Program} {w : World} {K : PySem.W.Frag} {mg : Str → Option Value} {base : Heap} {fa : FA} {XR : XRt}
/-- what a program's facts are -/
structure PrgOk (P : Prg) (T : Tbl) (K : PySem.W.Frag) (mg : Str → Option Value) (fa : FA) : Prop where
  free : ∀ x, T.free.contains x = true → mg x = none
  cst : ∀ (i : Nat) (x : Str), T.cst[i]? = some x → ∃ u val v, P.cst[i]? = some u ∧ mg x = some val ∧ RelV v val ∧ ∀ F, Rep K fa F v u
  fns : ∀ (i : Nat) (x : Str), T.fns[i]? = some x → ∃ f, fa i = some f ∧ mg x = some (.ref f)
  defs : ∀ (i : Nat) (f : Addr), fa i = some f → ∃ fn x qual params body scope fd N ps, DefOk P T K i f fn x qual params body scope fd N ps
theorem PrgOk.mode (h : PrgOk P T K mg fa) {i : Nat} {f : Addr} (e : fa i = some f) : ∃ md, P.modes i = some md := by
  obtain ⟨fn, x, qual, params, body, scope, fd, N, ps, D⟩ := h.defs i f e
  exact ⟨fn.md, by unfold Prg.modes; rw [D.at_]; rfl⟩
theorem def_ok (h : PrgOk P T K mg fa) {k : Nat} (ih : ∀ (i : Nat) (f : Addr), fa i = some f → ∀ md, P.modes i = some md → ∃ fd ps, PySem.W.keepIn K (.ref f) = true ∧ Binds K fd ps [] ∧ FnOk prog w K mg base (L2.CX prog w) k f fd ps (spF K fa XR (P.den k) i md))
    {i : Nat} {f : Addr} {fn : Fn} {x qual : Str} {params : Arguments} {body : List Stmt} {scope : Scope} {fd : FuncData} {N ps : List Str} (D : DefOk P T K i f fn x qual params body scope fd N ps) :
    FnOk prog w K mg base (L2.CX prog w) (k + 1) f fd ps (spF K fa XR (P.den (k + 1)) i fn.md) := by
  have hpl : ps.length ≤ N.length := by have := congrArg List.length D.sc.pre; rw [List.length_take] at this; omega
  refine D.fun_.ok D.sc (fun vs H Q E ⟨F, as, l1, l2, _⟩ => by rw [l2]; exact D.md) fun cdv A outer s H vs Q E hr ⟨F, as, l1, l2, ha, S, q⟩ => ?_
  generalize hX : cxOf (L2.CX prog w) prog w K mg base N qual scope f cdv A outer s H E = X
  have hXe : X = cxOf (L2.CX prog w) prog w K mg base N qual scope f cdv A outer s H E := hX.symm
  have AS : AmbS T ⟨P.modes, P.cst, P.den k⟩ fa XR k (fun cls d _ H => E cls d H) X := by
    subst hXe
    exact { calm := rfl
            nd := D.sc.nd
            room := hr
            takes := takes_of rfl rfl rfl rfl
            free := h.free
            cst := h.cst
            fns := fun j y e => by
              obtain ⟨g, e1, e2⟩ := h.fns j y e
              obtain ⟨md, e3⟩ := h.mode e1
              exact ⟨g, md, e1, e2, e3⟩
            md := fun j g e => h.mode e
            ok := ih
            kind := D.sc.kind
            fnc := fun _ _ => rfl
            pass := passes_of rfl }
  have hb : PSs X body (tExS ⟨P.modes, P.cst, P.den k⟩ fa XR (fun cls d _ H => E cls d H) X fn.body) := (okS_all fn.body).2 X _ AS body (by subst hXe; exact D.chk)
  refine ⟨_, hb, F, as ++ List.replicate (N.length - as.length) .emp, ?_⟩
  have hXN : X.N = N := by subst hXe; rfl
  have hXK : X.K = K := by subst hXe; rfl
  rw [hXN, hXK]
  have hv : vs.length = as.length := by omega
  have hN : as.length ≤ N.length := by rw [l1, D.md]; exact hpl
  have S1 := S.enter (N := N) ha l1 hv hN
  refine ⟨by unfold L2.start; simp; omega, S1, ?_⟩
  simp only [Prg.den, D.at_] at q
  unfold runFn at q
  rw [D.n] at q
  -- every end, by the run's
  cases er : exS ⟨P.modes, P.cst, P.den k⟩ fn.body (as ++ List.replicate (N.length - as.length) .emp) with
  | bad => rw [er] at q; exact q.elim
  | exc y e =>
    rw [er] at q
    intro σ' F' H' cls d S' st' hx hlen
    have hl := S'.len
    obtain ⟨A1, A2, A3⟩ := leave (τ := []) (ws := []) S ha l1 hv hN (by simpa using S') hlen (by omega) (fun s hs => by cases hs) (by simpa using st')
    exact q F' H' cls d (by simpa using A1) (by simpa using A2) hx
  | ok z =>
    obtain ⟨fl, e⟩ := z
    rw [er] at q
    cases fl with
    | bk => exact q.elim
    | ct => exact q.elim
    | nx =>
      intro σ' F' H' S' st' hlen
      have hl := S'.len
      obtain ⟨A1, A2, A3⟩ := leave (τ := []) (ws := []) S ha l1 hv hN (by simpa using S') hlen (by omega) (fun s hs => by cases hs) (by simpa using st')
      simp only [List.append_nil] at A1 A2
      obtain ⟨B1, B2⟩ := (OpPost.val A1.fr (Rep.non (K := K) (fa := fa))).sim A1
      exact q .non F' H' B1 (A2.trans B2) A3
    | rt ww =>
      intro σ' v F' H' S' st' hlen
      have hl := S'.len
      simp only [List.length_append, List.length_singleton] at hl
      have go : ∀ {w' : Slot}, ww = w' → NoBor [w'] → (∀ v F' H', Sim K fa 0 F' H' (vs.map some ++ [some v]) (outsF fn.md e as ++ [w']) → Stp F H (vs.map some) as F' H' (vs.map some ++ [some v]) (outsF fn.md e as ++ [w']) → (outsF fn.md e as).length = as.length → Q v H') → Q v H' := fun {w'} z hw q => by
        subst z
        obtain ⟨A1, A2, A3⟩ := leave (τ := [some v]) (ws := [ww]) S ha l1 hv hN S' hlen (by omega) hw st'
        exact q v F' H' A1 A2 A3
      cases ww with
      | val u => exact go rfl (fun s hs j z => by simp at hs; subst hs; cases z) q
      | own u p =>
        cases p with
        | true => exact q.elim
        | false => exact go rfl nb_one q
      | emp => exact q.elim
      | bor _ => exact q.elim
theorem defs_ok (h : PrgOk P T K mg fa) : ∀ (k i : Nat) (f : Addr), fa i = some f → ∀ md, P.modes i = some md → ∃ fd ps, PySem.W.keepIn K (.ref f) = true ∧ Binds K fd ps [] ∧ FnOk prog w K mg base (L2.CX prog w) k f fd ps (spF K fa XR (P.den k) i md)
  | 0, i, f, e, md, em => by
    obtain ⟨fn, x, qual, params, body, scope, fd, N, ps, D⟩ := h.defs i f e
    exact ⟨fd, ps, D.fun_.kp, D.bind, fun vs H Q E ⟨F, as, l1, l2, ha, S, q⟩ => q.elim, fun A outer s H args us vs Q E _ _ _ _ ⟨F, as, l1, l2, ha, S, q⟩ => q.elim⟩
  | k + 1, i, f, e, md, em => by
    obtain ⟨fn, x, qual, params, body, scope, fd, N, ps, D⟩ := h.defs i f e
    have : md = fn.md := by
      unfold Prg.modes at em
      rw [D.at_] at em
      exact (Option.some.inj em).symm
    subst this
    exact ⟨fd, ps, D.fun_.kp, D.bind, def_ok h (defs_ok h k) D⟩
end
end PF
end
section
set_option Elab.async false
set_option autoImplicit false
set_option linter.all false
set_option maxRecDepth 100000
namespace PF
open PySem PySem.Spec PyProof.Rows L2

/-- no exception of PF's own is let out -/
def XR0 : XRt := fun _ _ _ _ _ => False
/-- a run that answers True keeps the promise -/
theorem law_sp {K : PySem.W.Frag} {fa : FA} {D : Den} {i : Nat} {H : Hp} {a : Addr} {ns : List Int} {os : List Slot} (hS : SqL K H a (ns.map V.int)) (hD : D i [.val (.scr (ns.map U.int))] = .ok (.val (.bl true), os)) :
    spF K fa XR0 D i [false] [.ref a] H (fun v _ => v = .bl true) fun _ _ _ => False := by
  refine ⟨H, [.val (.scr (ns.map U.int))], rfl, rfl, fun j => ⟨fun h => ?_, fun h => ?_⟩, ⟨rfl, .refl _, fun j s e => ?_, fun i j a u u' p p' h1 h2 h3 h4 => ?_⟩, ?_⟩
  · match j, h with
    | 0, _ => exact ⟨_, rfl⟩
    | j + 1, h => simp at h
  · match j, h with
    | 0, h => cases h
    | j + 1, h => simp at h
  · match j, e with
    | 0, e => cases e; exact ⟨.ref a, rfl, .scr hS (RepAll.of_ints ns)⟩
    | j + 1, e => simp at e
  · match i, h1 with
    | 0, h1 => cases h1
    | i + 1, h1 => simp at h1
  · rw [hD]
    intro v F' H' S _ hl
    obtain ⟨v', q1, q2⟩ := S.slot 1 (.val (.bl true)) (by
      have : os.length = 1 := hl
      rw [getR (by omega), this]; rfl)
    cases q1
    cases q2
    rfl
theorem walk_ofW {l : PySem.W.OpenLaw} {n k : Nat} {q : Program} {loose : List Str} {XP : (Str → Option Value) → Heap → Prop} {YP : World → Heap → Prop} {d : DefRec} {CX : World → CXT} {x : Str}
    (hn : l.most = some n) (hn2 : n ≤ sizeLine) (hdf : d.params.defaults = []) (hr : Room k callerA)
    (F : ∀ (w : World) (mg : Str → Option Value) (fa : Addr) (h : Heap), YP w h → h.Ns mainGlobals mg → mg d.name = some (.ref fa) →
      ∃ (K : PySem.W.Frag) (fd : FuncData) (sp : Sp), K.In h ∧ (∀ (s : Shared) (u : Value), BindsTo s fd ⟨[u], []⟩ [(x, u)]) ∧
        (∀ (H : Hp) (a : Addr) (ns : List Int), ns.length ≤ n → (∀ z ∈ ns, Builtin.Int.intBits z ≤ 1048576) → Only H → SqL K H a (ns.map V.int) → sp [.ref a] H (fun v _ => v = .bl true) fun _ _ _ => False) ∧
        ∀ base : Heap, K.In base → base.Ns mainGlobals mg → FnOk l.prog w K mg base (CX w) k fa fd [x] sp)
    (hCX : ∀ (w : World) (H : Hp) (s : Shared) (e : Value) (s' : Shared), CX w [] H s (fun _ _ _ => False) e s' → False) :
    PySem.W.WalkO q loose XP YP l.row.toRowW d [] (fun f vs => PySem.call f vs) := by
  refine Att.attach_callB hn hdf fun w s₀ s₁ mg mb fa o pm cd doc a vs ns G Y ho hd hcd hmg hobj hints hlen hbits hg => ?_
  obtain ⟨K, fd, sp, KX, hb, hsp, hF⟩ := F w mg fa _ Y G.T.g hmg
  exact law_call KX G.T.g G.T.b G.T.builtins G.T.nolimit hg hobj hints (Nat.le_trans hlen hn2) hr hF hb (fun H hO hS => hsp H a ns hlen hbits hO hS) fun H e s' => hCX w H s₁ e s'
/-- the law's def, its promise by PF's run -/
theorem law_end {P : Prg} {T : Tbl} {prog : Program} {w : World} {K : PySem.W.Frag} {mg : Str → Option Value} {fa : FA} {i : Nat} {f : Addr} {fn : Fn} {x qual : Str} {params : Arguments} {body : List Stmt} {scope : Scope} {fd : FuncData} {N ps : List Str} {k : Nat}
    (h : PrgOk P T K mg fa) (D : DefOk P T K i f fn x qual params body scope fd N ps) (base : Heap) : FnOk prog w K mg base (L2.CX prog w) (k + 1) f fd ps (spF K fa XR0 (P.den (k + 1)) i fn.md) :=
  def_ok h (defs_ok h k) D
theorem cx_false {prog : Program} {w : World} {H : Hp} {s : Shared} {e : Value} {s' : Shared} (h : L2.CX prog w [] H s (fun _ _ _ => False) e s') : False := by
  unfold L2.CX at h
  obtain ⟨_, _, _, _, _, _, _, _, _, _, _, _, z⟩ := h
  exact z
end PF
end
section
set_option Elab.async false
set_option autoImplicit false
set_option linter.all false
set_option maxRecDepth 100000
namespace PF
open PySem PySem.Spec PyProof.Rows L2

theorem Res.bind_first {α β : Type} {r r' : Res α} {f : α → Res β} (h : r = r') : r.bind f = r'.bind f := by rw [h]
theorem forGo_first {t : U → En → Res (Fl × En)} {xs xs' : List U} {e e' : En} (h : xs = xs') (h' : e = e') : forGo t xs e = forGo t xs' e' := by rw [h, h']
theorem compGo_first {t : U → En → Res (Option U × En)} {xs xs' : List U} {e e' : En} (h : xs = xs') (h' : e = e') : compGo t xs e = compGo t xs' e' := by rw [h, h']
theorem Option.bind_first {α β : Type} {r r' : Option α} {f : α → Option β} (h : r = r') : r.bind f = r'.bind f := by rw [h]
theorem Res.of_first {α : Type} {r r' : Option α} (h : r = r') : Res.of r = Res.of r' := by rw [h]
section
variable {r : En → Res (Slot × En)} {env : En}
@[simp] theorem condF_cmp {o : COp} {a b : E} : condF (.cmp o a b) r env = (r env).bind fun (p, env) => (Res.of (look env p)).bind fun u => (Res.of u.tru).bind fun k => .ok (k, env) := rfl
@[simp] theorem condF_chn {o o' : COp} {a b c : E} : condF (.chn o o' a b c) r env = (r env).bind fun (p, env) => (Res.of (look env p)).bind fun u => (Res.of u.tru).bind fun k => .ok (k, env) := rfl
@[simp] theorem condF_not {a : E} : condF (.not a) r env = (r env).bind fun (p, env) => (Res.of (look env p)).bind fun u => (Res.of u.tru).bind fun k => .ok (k, env) := rfl
@[simp] theorem condF_and {a b : E} : condF (.and a b) r env = (r env).bind fun (p, env) => (Res.of (look env p)).bind fun u => (Res.of u.tru).bind fun k => .ok (k, env) := rfl
@[simp] theorem condF_or {a b : E} : condF (.or a b) r env = (r env).bind fun (p, env) => (Res.of (look env p)).bind fun u => (Res.of u.tru).bind fun k => .ok (k, env) := rfl
@[simp] theorem condF_call {f : Nat} {es : E} : condF (.call f es) r env = (r env).bind fun (p, env) => (Res.of (look env p)).bind fun u => (Res.of u.tru).bind fun k => .ok (k, env) := rfl
@[simp] theorem condF_ist {t : TyN} {a : E} : condF (.ist t a) r env = (r env).bind fun (p, env) => (Res.of (look env p)).bind fun u => (Res.of u.tru).bind fun k => .ok (k, env) := rfl
@[simp] theorem condF_var {i : Nat} : condF (.var i) r env = (r env).bind fun (p, env) => (Res.of (look env p)).bind fun u => (Res.of u.tru).bind fun k => .ok (k, env) := rfl
@[simp] theorem condF_bor {i : Nat} : condF (.bor i) r env = (r env).bind fun (p, env) => (Res.of (look env p)).bind fun u => (Res.of u.tru).bind fun k => .ok (k, env) := rfl
@[simp] theorem condF_nil : condF .nil r env = .ok (true, env) := rfl
@[simp] theorem partF_nil : partF .nil r env = .ok (none, env) := rfl
@[simp] theorem partF_neg {a : E} : partF (.neg a) r env = (r env).bind fun (p, env) => match look env p with
    | some (.int i) => .ok (some i, env)
    | _ => .bad := rfl
@[simp] theorem partF_var {i : Nat} : partF (.var i) r env = (r env).bind fun (p, env) => match look env p with
    | some (.int i) => .ok (some i, env)
    | _ => .bad := rfl
@[simp] theorem partF_con {u : U} : partF (.con u) r env = (r env).bind fun (p, env) => match look env p with
    | some (.int i) => .ok (some i, env)
    | _ => .bad := rfl
@[simp] theorem partF_bin {o : BOp} {a b : E} : partF (.bin o a b) r env = (r env).bind fun (p, env) => match look env p with
    | some (.int i) => .ok (some i, env)
    | _ => .bad := rfl
end
section
variable {G : Gx} {env : En}
@[simp] theorem evE_var {i : Nat} : evE G (.var i) env = (match env[i]? with
    | some (.val u) => .ok (.val u, env)
    | some (.own u false) => .ok (.val u, env.set i (.val u))
    | _ => .bad) := rfl
@[simp] theorem evE_bor {i : Nat} : evE G (.bor i) env = (match env[i]? with
    | some (.val _) => .ok (.bor i, env)
    | some (.own _ _) => .ok (.bor i, env)
    | _ => .bad) := rfl
@[simp] theorem evE_mov {i : Nat} : evE G (.mov i) env = (match env[i]? with
    | some (.val u) => .ok (.val u, env)
    | some (.own u false) => .ok (.own u false, env.set i .emp)
    | _ => .bad) := rfl
@[simp] theorem evE_con {u : U} : evE G (.con u) env = .ok (.val u, env) := rfl
@[simp] theorem evE_glc {k : Nat} : evE G (.glc k) env = (Res.of G.cst[k]?).bind fun u => .ok (.val u, env) := rfl
@[simp] theorem evE_fnr {i : Nat} : evE G (.fnr i) env = .ok (.val (.fn i), env) := rfl
@[simp] theorem evE_tup {es : E} : evE G (.tup es) env = (evL G es env).bind fun (ws, env) => (Res.of (frzs ws)).bind fun us => if us.length ≤ sizeLine then .ok (.val (.tup us), env) else .bad := rfl
@[simp] theorem evE_lst {es : E} : evE G (.lst es) env = (evL G es env).bind fun (ws, env) => (Res.of (frzs ws)).bind fun us => if us.length ≤ sizeLine then .ok (.own (.lst us) false, env) else .bad := rfl
@[simp] theorem evE_dic0  : evE G (.dic0) env = .ok (.own (.dic []) false, env) := rfl
@[simp] theorem evE_bin {op : BOp} {a b : E} : evE G (.bin op a b) env = (evE G a env).bind fun (p, env) => (evE G b env).bind fun (q, env) =>
    (Res.of (look env p)).bind fun u => (Res.of (look env q)).bind fun v => (Res.of (opF op u v)).bind fun w => .ok (w, env) := rfl
@[simp] theorem evE_neg {a : E} : evE G (.neg a) env = (evE G a env).bind fun (p, env) => (match look env p with
    | some (.int i) => .ok (.val (.int (-i)), env)
    | _ => .bad) := rfl
@[simp] theorem evE_not {a : E} : evE G (.not a) env = (evE G a env).bind fun (p, env) => (Res.of (look env p)).bind fun u => (Res.of u.tru).bind fun b => .ok (.val (.bl (!b)), env) := rfl
@[simp] theorem evE_cmp {op : COp} {a b : E} : evE G (.cmp op a b) env = (evE G a env).bind fun (p, env) => (evE G b env).bind fun (q, env) =>
    (Res.of (look env p)).bind fun u => (Res.of (look env q)).bind fun v => (Res.of (cmpF op u v)).bind fun w => .ok (.val (.bl w), env) := rfl
@[simp] theorem evE_chn {op op' : COp} {a b c : E} : evE G (.chn op op' a b c) env = (evE G a env).bind fun (p, env) => (evE G b env).bind fun (q, env) =>
    (Res.of (look env p)).bind fun u => (Res.of (look env q)).bind fun v => (Res.of (cmpF op u v)).bind fun w =>
    if w then (evE G c env).bind fun (r, env) => (Res.of (look env q)).bind fun v => (Res.of (look env r)).bind fun x => (Res.of (cmpF op' v x)).bind fun w => .ok (.val (.bl w), env)
    else .ok (.val (.bl false), env) := rfl
@[simp] theorem evE_and {a b : E} : evE G (.and a b) env = (evE G a env).bind fun (p, env) => (Res.of (frz p)).bind fun u => (Res.of u.tru).bind fun k => if k then evE G b env else .ok (.val u, env) := rfl
@[simp] theorem evE_or {a b : E} : evE G (.or a b) env = (evE G a env).bind fun (p, env) => (Res.of (frz p)).bind fun u => (Res.of u.tru).bind fun k => if k then .ok (.val u, env) else evE G b env := rfl
@[simp] theorem evE_ite {c a b : E} : evE G (.ite c a b) env = (evE G c env).bind fun (p, env) => (Res.of (look env p)).bind fun u => (Res.of u.tru).bind fun k => if k then evE G a env else evE G b env := rfl
@[simp] theorem evE_call {f : Nat} {es : E} : evE G (.call f es) env = (evL G es env).bind fun (ws, env) => callD G f ws env := rfl
@[simp] theorem evE_cvar {i : Nat} {es : E} : evE G (.cvar i es) env = (match env[i]? with
    | some (.val (.fn f)) => (evL G es env).bind fun (ws, env) => callD G f ws env
    | _ => .bad) := rfl
@[simp] theorem evE_blt {b : Blt} {es : E} : evE G (.blt b es) env = (evL G es env).bind fun (ws, env) => (Res.of (looks env ws)).bind fun us => (Res.of (bltF b us)).bind fun w => .ok (w, env) := rfl
@[simp] theorem evE_ist {t : TyN} {a : E} : evE G (.ist t a) env = (evE G a env).bind fun (p, env) => (Res.of (look env p)).bind fun u => (Res.of (istF t u)).bind fun b => .ok (.val (.bl b), env) := rfl
@[simp] theorem evE_idx {a b : E} : evE G (.idx a b) env = (evE G a env).bind fun (p, env) => (evE G b env).bind fun (q, env) =>
    (Res.of (look env p)).bind fun u => (Res.of (look env q)).bind fun v => (Res.of (idxF u v)).bind fun w => .ok (.val w, env) := rfl
@[simp] theorem evE_slc {a lo hi : E} : evE G (.slc a lo hi) env = (evE G a env).bind fun (p, env) => (partF lo (evE G lo) env).bind fun (l, env) => (partF hi (evE G hi) env).bind fun (h, env) =>
    (Res.of (look env p)).bind fun u => (Res.of (slcF u l h)).bind fun w => .ok (w, env) := rfl
@[simp] theorem evE_lrg {k : ItK} {es : E} : evE G (.lrg k es) env = (evL G es env).bind fun (ws, env) => (Res.of (looks env ws)).bind fun us => (Res.of (itF k us)).bind fun xs => if xs.length ≤ sizeLine then .ok (.own (.lst xs) false, env) else .bad := rfl
@[simp] theorem evE_trg {k : ItK} {es : E} : evE G (.trg k es) env = (evL G es env).bind fun (ws, env) => (Res.of (looks env ws)).bind fun us => (Res.of (itF k us)).bind fun xs => if xs.length ≤ sizeLine then .ok (.val (.tup xs), env) else .bad := rfl
theorem evE_cmp1 {vs : List Nat} {tg it c elt : E} : evE G (.cmp1 vs tg it c elt) env = (evI G it env).bind fun (xs, env) =>
    if vs.all (okS env) then
      (noExc (compGo (turnC vs tg c (evE G c) (evE G elt)) xs (wipeE env vs))).bind fun (us, e) =>
      if us.length ≤ sizeLine then .ok (.own (.lst us) false, unwipe env e vs) else .bad
    else .bad := rfl
@[simp] theorem exS_nil  : exS G (.nil) env = .ok (.nx, env) := rfl
@[simp] theorem exS_seq {a r : S} : exS G (.seq a r) env = (exS G a env).bind fun (f, env) => (match f with
    | .nx => exS G r env
    | f => .ok (f, env)) := rfl
@[simp] theorem exS_pas  : exS G (.pas) env = .ok (.nx, env) := rfl
@[simp] theorem exS_brk  : exS G (.brk) env = .ok (.bk, env) := rfl
@[simp] theorem exS_cnt  : exS G (.cnt) env = .ok (.ct, env) := rfl
@[simp] theorem exS_set {i : Nat} {e : E} : exS G (.set i e) env = (evE G e env).bind fun (w, env) => (Res.of (frz w)).bind fun u => (Res.of (put env i (.val u))).bind fun env => .ok (.nx, env) := rfl
@[simp] theorem exS_own {i : Nat} {e : E} : exS G (.own i e) env = (evE G e env).bind fun (w, env) => (Res.of (keepF env i w)).bind fun env => .ok (.nx, env) := rfl
@[simp] theorem exS_unp {tg e : E} : exS G (.unp tg e) env = (evE G e env).bind fun (w, env) => (Res.of (frz w)).bind fun u => (Res.of (storeU tg u env)).bind fun env => .ok (.nx, env) := rfl
@[simp] theorem exS_par {ts es : E} : exS G (.par ts es) env = (evL G es env).bind fun (ws, env) => (Res.of (parF ts ws env)).bind fun env => .ok (.nx, env) := rfl
@[simp] theorem exS_par2 {i j : Nat} {k l a b : E} : exS G (.par2 i k j l a b) env = (evL G (.cons a (.cons b .nil)) env).bind fun (ws, env) => (Res.of (frzs ws)).bind fun us => match us with
    | [u, v] => if ownB env i then
        (evE G k env).bind fun (r, env) => (Res.of (look env r)).bind fun x => (Res.of (subE env i x u)).bind fun env =>
        if ownB env j then (evE G l env).bind fun (r, env) => (Res.of (look env r)).bind fun x => (Res.of (subE env j x v)).bind fun env => .ok (.nx, env)
        else .bad
      else .bad
    | _ => .bad := rfl
@[simp] theorem exS_sub {i : Nat} {k e : E} : exS G (.sub i k e) env = (evE G e env).bind fun (w, env) => (Res.of (frz w)).bind fun u => if ownB env i then (evE G k env).bind fun (r, env) => (Res.of (look env r)).bind fun x =>
    (Res.of (subE env i x u)).bind fun env => .ok (.nx, env) else .bad := rfl
@[simp] theorem exS_app {i : Nat} {e : E} : exS G (.app i e) env = if ownL env i then (evE G e env).bind fun (w, env) => (Res.of (frz w)).bind fun u => (Res.of (appE env i u)).bind fun env => .ok (.nx, env) else .bad := rfl
@[simp] theorem exS_exp {e : E} : exS G (.exp e) env = (evE G e env).bind fun (_, env) => .ok (.nx, env) := rfl
@[simp] theorem exS_ret {e : E} : exS G (.ret e) env = (evE G e env).bind fun (w, env) => (match w with
    | .bor _ => .bad
    | w => .ok (.rt w, env)) := rfl
@[simp] theorem exS_retn  : exS G (.retn) env = .ok (.rt (.val .non), env) := rfl
@[simp] theorem exS_iff {c : E} {a b : S} : exS G (.iff c a b) env = (condF c (evE G c) env).bind fun (k, env) => if k then exS G a env else exS G b env := rfl
theorem exS_for_ {tg it : E} {b : S} : exS G (.for_ tg it b) env = (evI G it env).bind fun (xs, env) => forGo (fun x env => (Res.of (storeU tg x env)).bind fun env => exS G b env) xs env := rfl
theorem exS_whl {c : E} {b : S} : exS G (.whl c b) env = whlGo (condF c (evE G c)) (exS G b) fuel env := rfl
end
/-- a comprehension whose turns leave the places as they are -/
theorem compGo_map {turn : U → En → Res (Option U × En)} {e : En} {f : U → U} : ∀ {us : List U}, (∀ x ∈ us, turn x e = .ok (some (f x), e)) → compGo turn us e = .ok (us.map f, e)
  | [], _ => rfl
  | x :: r, h => by
    unfold compGo
    have ih := compGo_map (us := r) (fun y hy => h y (by simp [hy]))
    rw [h x (by simp), Res.bind_ok]
    show (compGo turn r e).bind _ = _
    rw [ih]
    rfl
theorem compGo_filter {turn : U → En → Res (Option U × En)} {e : En} {g : U → Option U} : ∀ {us : List U}, (∀ x ∈ us, turn x e = .ok (g x, e)) → compGo turn us e = .ok (us.filterMap g, e)
  | [], _ => rfl
  | x :: r, h => by
    unfold compGo
    have ih := compGo_filter (us := r) (fun y hy => h y (by simp [hy]))
    rw [h x (by simp), Res.bind_ok]
    show (compGo turn r e).bind _ = _
    rw [ih]
    cases q : g x <;> simp [List.filterMap_cons, q]
/-- a loop that runs to its end: what holds at each turn -/
theorem forGo_inv {turn : U → En → Res (Fl × En)} (P : Nat → En → Prop) : ∀ {us : List U} {n : Nat} {e : En}, P n e → (∀ i x e, us[i]? = some x → P (n + i) e → ∃ e', turn x e = .ok (.nx, e') ∧ P (n + i + 1) e') → ∃ e', forGo turn us e = .ok (.nx, e') ∧ P (n + us.length) e'
  | [], n, e, h, _ => ⟨e, rfl, h⟩
  | x :: r, n, e, h, hs => by
    obtain ⟨e1, h1, h2⟩ := hs 0 x e rfl h
    obtain ⟨e2, h3, h4⟩ := forGo_inv P (us := r) (n := n + 1) (e := e1) h2 fun i y e q p => by
      have := hs (i + 1) y e (by simpa using q) (by rw [show n + (i + 1) = n + 1 + i by omega]; exact p)
      rw [show n + (i + 1) + 1 = n + 1 + i + 1 by omega] at this
      exact this
    refine ⟨e2, ?_, by rw [show n + (x :: r).length = n + 1 + r.length by simp; omega]; exact h4⟩
    unfold forGo
    rw [h1, Res.bind_ok]
    exact h3
section
variable {G : Gx} {vs : List Nat} {tg it c elt : E} {env env1 env2 : En} {xs : List U}
theorem noExc_ok {α : Type} {a : α} : noExc (Res.ok a) = .ok a := rfl
theorem comp_map {f : U → U} (hI : evI G it env = .ok (xs, env1)) (ok : vs.all (okS env1) = true) (ht : ∀ x ∈ xs, turnC vs tg c (evE G c) (evE G elt) x (wipeE env1 vs) = .ok (some (f x), wipeE env1 vs)) (hz : xs.length ≤ sizeLine)
    (hu : unwipe env1 (wipeE env1 vs) vs = env2) : evE G (.cmp1 vs tg it c elt) env = .ok (.own (.lst (xs.map f)) false, env2) := by
  rw [evE_cmp1, hI, Res.bind_ok]
  show (if vs.all (okS env1) then _ else _) = _
  rw [if_pos ok, compGo_map ht, noExc_ok, Res.bind_ok]
  show (if (xs.map f).length ≤ sizeLine then _ else _) = _
  rw [if_pos (by simpa using hz), hu]
theorem comp_filter {g : U → Option U} (hI : evI G it env = .ok (xs, env1)) (ok : vs.all (okS env1) = true) (ht : ∀ x ∈ xs, turnC vs tg c (evE G c) (evE G elt) x (wipeE env1 vs) = .ok (g x, wipeE env1 vs)) (hz : xs.length ≤ sizeLine)
    (hu : unwipe env1 (wipeE env1 vs) vs = env2) : evE G (.cmp1 vs tg it c elt) env = .ok (.own (.lst (xs.filterMap g)) false, env2) := by
  rw [evE_cmp1, hI, Res.bind_ok]
  show (if vs.all (okS env1) then _ else _) = _
  rw [if_pos ok, compGo_filter ht, noExc_ok, Res.bind_ok]
  show (if (xs.filterMap g).length ≤ sizeLine then _ else _) = _
  rw [if_pos (Nat.le_trans (List.length_filterMap_le g xs) hz), hu]
/-- a loop: what is walked first -/
theorem for_run {tg it : E} {b : S} (hI : evI G it env = .ok (xs, env1)) : exS G (.for_ tg it b) env = forGo (fun x env => (Res.of (storeU tg x env)).bind fun env => exS G b env) xs env1 := by
  rw [exS_for_, hI]
  rfl
end
theorem run_val {G : Gx} {f : Fn} {as env0 env : En} {u : U} (h0 : as ++ List.replicate (f.n - as.length) .emp = env0) (h : exS G f.body env0 = .ok (.rt (.val u), env)) : runFn G f as = .ok (.val u, outsF f.md env as) := by
  unfold runFn; rw [h0, h]
theorem run_own {G : Gx} {f : Fn} {as env0 env : En} {u : U} (h0 : as ++ List.replicate (f.n - as.length) .emp = env0) (h : exS G f.body env0 = .ok (.rt (.own u false), env)) : runFn G f as = .ok (.own u false, outsF f.md env as) := by
  unfold runFn; rw [h0, h]
theorem ret_ok {G : Gx} {e : E} {env env1 : En} {w : Slot} (h : evE G e env = .ok (w, env1)) (hw : ∀ i, w ≠ .bor i) : exS G (.ret e) env = .ok (.rt w, env1) := by
  rw [exS_ret, h, Res.bind_ok]
  cases w <;> first | rfl | exact (hw _ rfl).elim
theorem seq_nx {G : Gx} {a r : S} {env env1 : En} (h : exS G a env = .ok (.nx, env1)) : exS G (.seq a r) env = exS G r env1 := by
  rw [exS_seq, h]; rfl
theorem seq_rt {G : Gx} {a r : S} {env env1 : En} {w : Slot} (h : exS G a env = .ok (.rt w, env1)) : exS G (.seq a r) env = .ok (.rt w, env1) := by
  rw [exS_seq, h]; rfl
theorem setS_ok {G : Gx} {i : Nat} {e : E} {env env1 env2 : En} {w : Slot} {u : U} (h : evE G e env = .ok (w, env1)) (h1 : frz w = some u) (h2 : put env1 i (.val u) = some env2) : exS G (.set i e) env = .ok (.nx, env2) := by
  rw [exS_set, h, Res.bind_ok]
  show (Res.of (frz w)).bind _ = _
  rw [h1, Res.of_some, Res.bind_ok, h2]
  rfl
theorem ownS_ok {G : Gx} {i : Nat} {e : E} {env env1 env2 : En} {w : Slot} (h : evE G e env = .ok (w, env1)) (h2 : keepF env1 i w = some env2) : exS G (.own i e) env = .ok (.nx, env2) := by
  rw [exS_own, h, Res.bind_ok]
  show (Res.of (keepF env1 i w)).bind _ = _
  rw [h2]
  rfl
end PF
end
section
set_option Elab.async false
set_option autoImplicit false
set_option linter.all false
set_option maxRecDepth 100000
set_option maxHeartbeats 0
open PF
namespace K02
open PySem PySem.Spec PyProof.Rows L2
def top (i : Nat) : Stmt := PySem.Challenge.pw_archesjoined_k02_whole_joinings_and_halv.main.body.getD i (.Pass ⟨0, 0, 0, 0⟩)
/-- is_whole (statement 1): value low high -/
def f_is_whole : Fn := ⟨3, [false, false, false], (.seq (.ret (.and (.ist .int (.var 0)) (.and (.not (.ist .bool (.var 0))) (.chn .le .le (.var 1) (.var 0) (.var 2))))) .nil)⟩
/-- is_tuple_of (statement 2): value low high -/
def f_is_tuple_of : Fn := ⟨3, [false, false, false], (.seq (.ret (.and (.ist .tuple (.var 0)) (.chn .le .le (.var 1) (.blt .len (.cons (.var 0) .nil)) (.var 2)))) .nil)⟩
/-- is_pairing (statement 5): value most own at -/
def f_is_pairing : Fn := ⟨4, [false, false], (.seq (.iff (.or (.not (.call 1 (.cons (.var 0) (.cons (.con (.int 0)) (.cons (.var 1) .nil))))) (.not (.blt .all (.cons (.cmp1 [2] (.tnm 2) (.itr .plain (.cons (.var 0) .nil)) .nil (.call 0 (.cons (.var 2) (.cons (.con (.int 0)) (.cons (.bin .sub (.blt .len (.cons (.var 0) .nil)) (.con (.int 1))) .nil))))) .nil)))) (.seq (.ret (.con (.bl false))) .nil) .nil) (.seq (.ret (.blt .all (.cons (.cmp1 [2, 3] (.ttp (.cons (.tnm 3) (.cons (.tnm 2) .nil))) (.itr .enum (.cons (.var 0) .nil)) .nil (.cmp .eq (.idx (.var 0) (.var 2)) (.var 3))) .nil))) .nil))⟩
/-- rim_of (statement 6): above below -/
def f_rim_of : Fn := ⟨2, [false, false], (.seq (.ret (.bin .add (.lrg .rng1 (.cons (.var 0) .nil)) (.lrg .rng3 (.cons (.bin .sub (.bin .add (.var 0) (.var 1)) (.con (.int 1))) (.cons (.bin .sub (.var 0) (.con (.int 1))) (.cons (.neg (.con (.int 1))) .nil)))))) .nil)⟩
/-- is_planar (statement 7): mates rim waiting point -/
def f_is_planar : Fn := ⟨4, [false, false], (.seq (.set 2 (.lst .nil)) (.seq (.for_ (.tnm 3) (.itr .plain (.cons (.var 1) .nil)) (.seq (.iff (.cmp .eq (.idx (.var 0) (.var 3)) (.var 3)) (.seq (.iff (.cmp .ne (.var 2) (.lst .nil)) (.seq (.ret (.con (.bl false))) .nil) .nil) .nil) (.seq (.iff (.and (.cmp .ne (.var 2) (.lst .nil)) (.cmp .eq (.idx (.var 2) (.neg (.con (.int 1)))) (.idx (.var 0) (.var 3)))) (.seq (.set 2 (.slc (.var 2) .nil (.neg (.con (.int 1))))) .nil) (.seq (.set 2 (.bin .add (.var 2) (.lst (.cons (.var 3) .nil)))) .nil)) .nil)) .nil)) (.seq (.ret (.cmp .eq (.var 2) (.lst .nil))) .nil)))⟩
/-- is_joining (statement 8): value above below mates at -/
def f_is_joining : Fn := ⟨5, [false], (.seq (.iff (.or (.not (.call 1 (.cons (.var 0) (.cons (.con (.int 3)) (.cons (.con (.int 3)) .nil))))) (.or (.not (.call 0 (.cons (.idx (.var 0) (.con (.int 0))) (.cons (.con (.int 0)) (.cons (.glc 0) .nil))))) (.not (.call 0 (.cons (.idx (.var 0) (.con (.int 1))) (.cons (.con (.int 0)) (.cons (.glc 0) .nil))))))) (.seq (.ret (.con (.bl false))) .nil) .nil) (.seq (.unp (.ttp (.cons (.tnm 1) (.cons (.tnm 2) (.cons (.tnm 3) .nil)))) (.var 0)) (.seq (.iff (.or (.not (.call 2 (.cons (.var 3) (.cons (.glc 0) .nil)))) (.cmp .ne (.blt .len (.cons (.var 3) .nil)) (.bin .add (.var 1) (.var 2)))) (.seq (.ret (.con (.bl false))) .nil) .nil) (.seq (.ret (.and (.blt .all (.cons (.cmp1 [4] (.tnm 4) (.itr .rng1 (.cons (.bin .add (.var 1) (.var 2)) .nil)) .nil (.cmp .ne (.idx (.var 3) (.var 4)) (.var 4))) .nil)) (.call 4 (.cons (.var 3) (.cons (.call 3 (.cons (.var 1) (.cons (.var 2) .nil))) .nil))))) .nil))))⟩
/-- is_half (statement 9): value -/
def f_is_half : Fn := ⟨1, [false], (.seq (.ret (.and (.call 2 (.cons (.var 0) (.cons (.glc 0) .nil))) (.call 4 (.cons (.var 0) (.cons (.lrg .rng1 (.cons (.blt .len (.cons (.var 0) .nil)) .nil)) .nil))))) .nil)⟩
/-- _law_cup (statement 11): script cell -/
def f_law_cup : Fn := ⟨2, [false], (.seq (.set 1 (.blt .abs (.cons (.idx (.bin .add (.blt .list (.cons (.var 0) .nil)) (.lst (.cons (.con (.int 0)) .nil))) (.con (.int 0))) .nil))) (.seq (.ret (.lst (.cons (.ite (.cmp .ge (.var 1) (.bin .pow (.con (.int 10)) (.con (.int 18)))) (.bin .fdiv (.var 1) (.con (.int 293))) (.con (.int 0))) (.cons (.bin .mod (.blt .int (.cons (.bin .add (.bin .mul (.var 1) (.con (.int 1069))) (.con (.int 91571))) .nil)) (.con (.int 1048576))) .nil)))) .nil))⟩
/-- _law_roll (statement 12): cup many found -/
def f_law_roll : Fn := ⟨3, [true, false], (.seq (.iff (.cmp .gt (.idx (.bor 0) (.con (.int 0))) (.con (.int 0))) (.seq (.set 2 (.bin .mod (.blt .int (.cons (.idx (.bor 0) (.con (.int 0))) .nil)) (.var 1))) (.seq (.sub 0 (.con (.int 0)) (.bin .fdiv (.idx (.bor 0) (.con (.int 0))) (.var 1))) (.seq (.ret (.var 2)) .nil))) .nil) (.seq (.sub 0 (.con (.int 1)) (.bin .mod (.blt .int (.cons (.bin .add (.bin .mul (.idx (.bor 0) (.con (.int 1))) (.con (.int 20161))) (.con (.int 42299))) .nil)) (.con (.int 1048576)))) (.seq (.ret (.bin .mod (.blt .int (.cons (.bin .fdiv (.idx (.bor 0) (.con (.int 1))) (.con (.int 127))) .nil)) (.var 1))) .nil)))⟩
/-- _law_sort (statement 13): value -/
def f_law_sort : Fn := ⟨1, [false], (.seq (.iff (.or (.cmp .is (.var 0) (.con .non)) (.ist .bool (.var 0))) (.seq (.ret (.ite (.cmp .is (.var 0) (.con .non)) (.con (.int 0)) (.con (.int 1)))) .nil) .nil) (.seq (.iff (.or (.ist .int (.var 0)) (.ist .str (.var 0))) (.seq (.ret (.ite (.ist .int (.var 0)) (.con (.int 2)) (.con (.int 3)))) .nil) .nil) (.seq (.ret (.ite (.ist .tuple (.var 0)) (.con (.int 4)) (.ite (.ist .list (.var 0)) (.con (.int 5)) (.con (.int 6))))) .nil)))⟩
/-- _law_like (statement 14): one other sort first second -/
def f_law_like : Fn := ⟨5, [false, false], (.seq (.set 2 (.call 9 (.cons (.var 1) .nil))) (.seq (.iff (.or (.cmp .ne (.call 9 (.cons (.var 0) .nil)) (.var 2)) (.cmp .eq (.var 2) (.con (.int 6)))) (.seq (.ret (.con (.bl false))) .nil) .nil) (.seq (.iff (.cmp .isin (.var 2) (.tup (.cons (.con (.int 4)) (.cons (.con (.int 5)) .nil)))) (.seq (.ret (.and (.cmp .eq (.blt .len (.cons (.var 0) .nil)) (.blt .len (.cons (.var 1) .nil))) (.cmp .eq (.cmp1 [3, 4] (.ttp (.cons (.tnm 3) (.cons (.tnm 4) .nil))) (.itr .zip (.cons (.var 0) (.cons (.var 1) .nil))) (.not (.call 10 (.cons (.var 3) (.cons (.var 4) .nil)))) (.con (.int 1))) (.lst .nil)))) .nil) .nil) (.seq (.ret (.cmp .eq (.var 0) (.var 1))) .nil))))⟩
/-- _law_pairing (statement 15): cup points threads left mates turn one other own -/
def f_law_pairing : Fn := ⟨9, [true, false, false], (.seq (.par (.cons (.tnm 3) (.cons (.mov 4) .nil)) (.cons (.lrg .rng1 (.cons (.var 1) .nil)) (.cons (.lrg .rng1 (.cons (.var 1) .nil)) .nil))) (.seq (.for_ (.tnm 5) (.itr .rng1 (.cons (.bin .fdiv (.bin .sub (.var 1) (.var 2)) (.con (.int 2))) .nil)) (.seq (.set 6 (.idx (.var 3) (.call 8 (.cons (.bor 0) (.cons (.blt .len (.cons (.var 3) .nil)) .nil))))) (.seq (.set 3 (.cmp1 [8] (.tnm 8) (.itr .plain (.cons (.var 3) .nil)) (.cmp .ne (.var 8) (.var 6)) (.var 8))) (.seq (.set 7 (.ite (.cmp .eq (.call 8 (.cons (.bor 0) (.cons (.con (.int 2)) .nil))) (.con (.int 0))) (.idx (.var 3) (.con (.int 0))) (.idx (.var 3) (.call 8 (.cons (.bor 0) (.cons (.blt .len (.cons (.var 3) .nil)) .nil)))))) (.seq (.set 3 (.cmp1 [8] (.tnm 8) (.itr .plain (.cons (.var 3) .nil)) (.cmp .ne (.var 8) (.var 7)) (.var 8))) (.seq (.par2 4 (.var 6) 4 (.var 7) (.var 7) (.var 6)) .nil)))))) (.seq (.ret (.blt .tuple (.cons (.bor 4) .nil))) .nil)))⟩
/-- _law_crosses (statement 16): mates rim place at point one other begin end -/
def f_law_crosses : Fn := ⟨9, [false, false], (.seq (.own 2 .dic0) (.seq (.for_ (.ttp (.cons (.tnm 3) (.cons (.tnm 4) .nil))) (.itr .enum (.cons (.var 1) .nil)) (.seq (.sub 2 (.var 4) (.var 3)) .nil)) (.seq (.for_ (.tnm 5) (.itr .plain (.cons (.var 1) .nil)) (.seq (.for_ (.tnm 6) (.itr .plain (.cons (.var 1) .nil)) (.seq (.par (.cons (.tnm 7) (.cons (.tnm 8) .nil)) (.cons (.idx (.bor 2) (.var 5)) (.cons (.idx (.bor 2) (.idx (.var 0) (.var 5))) .nil))) (.seq (.iff (.and (.cmp .lt (.var 7) (.var 8)) (.and (.chn .lt .lt (.var 7) (.idx (.bor 2) (.var 6)) (.var 8)) (.not (.chn .lt .lt (.var 7) (.idx (.bor 2) (.idx (.var 0) (.var 6))) (.var 8))))) (.seq (.ret (.con (.bl true))) .nil) .nil) (.seq (.iff (.and (.cmp .lt (.var 7) (.var 8)) (.and (.cmp .eq (.idx (.var 0) (.var 6)) (.var 6)) (.chn .lt .lt (.var 7) (.idx (.bor 2) (.var 6)) (.var 8)))) (.seq (.ret (.con (.bl true))) .nil) .nil) .nil)))) .nil)) (.seq (.ret (.con (.bl false))) .nil))))⟩
/-- _law_rim (statement 17): above below found at -/
def f_law_rim : Fn := ⟨4, [false, false], (.seq (.own 2 (.lrg .rng1 (.cons (.var 0) .nil))) (.seq (.for_ (.tnm 3) (.itr .rng1 (.cons (.var 1) .nil)) (.seq (.app 2 (.bin .sub (.bin .sub (.bin .add (.var 0) (.var 1)) (.con (.int 1))) (.var 3))) .nil)) (.seq (.ret (.mov 2)) .nil)))⟩
/-- _law_right (statement 18): cup points threads half even above mates due -/
def f_law_right : Fn := ⟨8, [true], (.seq (.set 1 (.call 8 (.cons (.bor 0) (.cons (.con (.int 13)) .nil)))) (.seq (.set 2 (.ite (.cmp .gt (.var 1) (.con (.int 3))) (.bin .add (.bin .mod (.blt .int (.cons (.var 1) .nil)) (.con (.int 2))) (.bin .mul (.con (.int 2)) (.call 8 (.cons (.bor 0) (.cons (.con (.int 2)) .nil))))) (.bin .mod (.blt .int (.cons (.var 1) .nil)) (.con (.int 2))))) (.seq (.set 3 (.call 11 (.cons (.bor 0) (.cons (.var 1) (.cons (.var 2) .nil))))) (.seq (.iff (.not (.call 10 (.cons (.call 6 (.cons (.var 3) .nil)) (.cons (.not (.call 12 (.cons (.var 3) (.cons (.lrg .rng1 (.cons (.var 1) .nil)) .nil)))) .nil)))) (.seq (.ret (.con (.bl false))) .nil) .nil) (.seq (.set 4 (.bin .sub (.var 1) (.bin .mod (.blt .int (.cons (.var 1) .nil)) (.con (.int 2))))) (.seq (.par (.cons (.tnm 5) (.cons (.tnm 6) .nil)) (.cons (.call 8 (.cons (.bor 0) (.cons (.bin .add (.var 4) (.con (.int 1))) .nil))) (.cons (.call 11 (.cons (.bor 0) (.cons (.var 4) (.cons (.con (.int 0)) .nil)))) .nil))) (.seq (.set 7 (.not (.call 12 (.cons (.var 6) (.cons (.call 13 (.cons (.var 5) (.cons (.bin .sub (.var 4) (.var 5)) .nil))) .nil))))) (.seq (.ret (.call 10 (.cons (.lst (.cons (.call 5 (.cons (.tup (.cons (.var 5) (.cons (.bin .sub (.var 4) (.var 5)) (.cons (.var 6) .nil)))) .nil)) (.cons (.call 5 (.cons (.lst (.cons (.var 5) (.cons (.bin .sub (.var 4) (.var 5)) (.cons (.var 6) .nil)))) .nil)) (.cons (.call 5 (.cons (.tup (.cons (.var 5) (.cons (.bin .sub (.var 4) (.var 5)) (.cons (.blt .list (.cons (.var 6) .nil)) .nil)))) .nil)) .nil)))) (.cons (.lst (.cons (.var 7) (.cons (.con (.bl false)) (.cons (.con (.bl false)) .nil)))) .nil)))) .nil))))))))⟩
/-- _law_all (statement 19): points found at longer row spot -/
def f_law_all : Fn := ⟨6, [false], (.seq (.set 1 (.lst (.cons (.lst .nil) .nil))) (.seq (.for_ (.tnm 2) (.itr .rng1 (.cons (.var 0) .nil)) (.seq (.own 3 (.lst .nil)) (.seq (.for_ (.tnm 4) (.itr .plain (.cons (.var 1) .nil)) (.seq (.app 3 (.bin .add (.var 4) (.lst (.cons (.var 2) .nil)))) (.seq (.own 3 (.bin .add (.bor 3) (.cmp1 [5] (.tnm 5) (.itr .rng1 (.cons (.var 2) .nil)) (.cmp .eq (.idx (.var 4) (.var 5)) (.var 5)) (.bin .add (.bin .add (.bin .add (.slc (.var 4) .nil (.var 5)) (.lst (.cons (.var 2) .nil))) (.slc (.var 4) (.bin .add (.var 5) (.con (.int 1))) .nil)) (.lst (.cons (.var 5) .nil)))))) .nil))) (.seq (.set 1 (.var 3)) .nil)))) (.seq (.ret (.var 1)) .nil)))⟩
/-- _law_counts_right (statement 20): told points rows closed above row at due -/
def f_law_counts_right : Fn := ⟨8, [], (.seq (.own 0 (.lst .nil)) (.seq (.for_ (.tnm 1) (.itr .rng1 (.cons (.con (.int 7)) .nil)) (.seq (.set 2 (.cmp1 [5] (.tnm 5) (.itr .plain (.cons (.call 15 (.cons (.var 1) .nil)) .nil)) .nil (.blt .tuple (.cons (.var 5) .nil)))) (.seq (.app 0 (.blt .len (.cons (.cmp1 [5] (.tnm 5) (.itr .plain (.cons (.var 2) .nil)) (.call 6 (.cons (.var 5) .nil)) (.var 5)) .nil))) (.seq (.set 3 (.cmp1 [5] (.tnm 5) (.itr .plain (.cons (.var 2) .nil)) (.not (.blt .any (.cons (.cmp1 [6] (.tnm 6) (.itr .rng1 (.cons (.var 1) .nil)) .nil (.cmp .eq (.idx (.var 5) (.var 6)) (.var 6))) .nil))) (.var 5))) (.seq (.for_ (.tnm 4) (.itr .rng1 (.cons (.bin .add (.var 1) (.con (.int 1))) .nil)) (.seq (.app 0 (.blt .len (.cons (.cmp1 [5] (.tnm 5) (.itr .plain (.cons (.var 3) .nil)) (.call 5 (.cons (.tup (.cons (.var 4) (.cons (.bin .sub (.var 1) (.var 4)) (.cons (.var 5) .nil)))) .nil)) (.var 5)) .nil))) .nil)) .nil))))) (.seq (.set 7 (.bin .add (.bin .add (.bin .add (.lst (.cons (.con (.int 1)) (.cons (.con (.int 1)) (.cons (.con (.int 1)) (.cons (.con (.int 0)) (.cons (.con (.int 0)) (.cons (.con (.int 2)) (.cons (.con (.int 1)) (.cons (.con (.int 1)) (.cons (.con (.int 1)) (.cons (.con (.int 3)) (.cons (.con (.int 0)) (.cons (.con (.int 0)) (.cons (.con (.int 0)) (.cons (.con (.int 0)) (.cons (.con (.int 6)) (.cons (.con (.int 2)) (.cons (.con (.int 2)) (.cons (.con (.int 2)) (.cons (.con (.int 2)) (.cons (.con (.int 2)) (.cons (.con (.int 10)) .nil)))))))))))))))))))))) (.bin .mul (.lst (.cons (.con (.int 0)) .nil)) (.con (.int 6)))) (.lst (.cons (.con (.int 20)) .nil))) (.bin .mul (.lst (.cons (.con (.int 5)) .nil)) (.con (.int 7))))) (.seq (.ret (.call 10 (.cons (.var 0) (.cons (.var 7) .nil)))) .nil))))⟩
/-- _law_limits_right (statement 21): flat at far told due odds halves odd -/
def f_law_limits_right : Fn := ⟨8, [], (.seq (.set 0 (.blt .tuple (.cons (.cmp1 [1] (.tnm 1) (.itr .rng1 (.cons (.con (.int 16)) .nil)) .nil (.bin .sub (.bin .add (.var 1) (.con (.int 1))) (.bin .mul (.con (.int 2)) (.bin .mod (.blt .int (.cons (.var 1) .nil)) (.con (.int 2)))))) .nil))) (.seq (.set 2 (.blt .tuple (.cons (.cmp1 [1] (.tnm 1) (.itr .rng1 (.cons (.con (.int 18)) .nil)) .nil (.bin .sub (.bin .add (.var 1) (.con (.int 1))) (.bin .mul (.con (.int 2)) (.bin .mod (.blt .int (.cons (.var 1) .nil)) (.con (.int 2)))))) .nil))) (.seq (.set 3 (.lst (.cons (.call 5 (.cons (.tup (.cons (.con (.int 2)) (.cons (.con (.int 2)) (.cons (.tup (.cons (.con (.int 1)) (.cons (.con (.int 0)) (.cons (.con (.int 3)) (.cons (.con (.int 2)) .nil))))) .nil)))) .nil)) (.cons (.call 5 (.cons (.tup (.cons (.con (.int 2)) (.cons (.con (.int 2)) (.cons (.tup (.cons (.con (.int 2)) (.cons (.con (.int 3)) (.cons (.con (.int 0)) (.cons (.con (.int 1)) .nil))))) .nil)))) .nil)) (.cons (.call 5 (.cons (.tup (.cons (.con (.int 2)) (.cons (.con (.int 2)) (.cons (.tup (.cons (.con (.int 3)) (.cons (.con (.int 2)) (.cons (.con (.int 1)) (.cons (.con (.int 0)) .nil))))) .nil)))) .nil)) .nil))))) (.seq (.set 3 (.bin .add (.var 3) (.lst (.cons (.call 5 (.cons (.tup (.cons (.con (.int 0)) (.cons (.con (.int 0)) (.cons (.tup .nil) .nil)))) .nil)) (.cons (.call 5 (.cons (.tup (.cons (.con (.int 1)) (.cons (.con (.int 3)) (.cons (.tup (.cons (.con (.int 1)) (.cons (.con (.int 0)) (.cons (.con (.int 3)) (.cons (.con (.int 2)) .nil))))) .nil)))) .nil)) (.cons (.call 5 (.cons (.tup (.cons (.con (.int 1)) (.cons (.con (.int 2)) (.cons (.tup (.cons (.con (.int 1)) (.cons (.con (.int 0)) (.cons (.con (.int 2)) .nil)))) .nil)))) .nil)) .nil)))))) (.seq (.set 4 (.lst (.cons (.con (.bl true)) (.cons (.con (.bl true)) (.cons (.con (.bl false)) (.cons (.con (.bl true)) (.cons (.con (.bl true)) (.cons (.con (.bl false)) .nil)))))))) (.seq (.set 3 (.bin .add (.var 3) (.lst (.cons (.call 6 (.cons (.tup (.cons (.con (.int 1)) (.cons (.con (.int 0)) (.cons (.con (.int 2)) .nil)))) .nil)) (.cons (.call 6 (.cons (.tup (.cons (.con (.int 0)) (.cons (.con (.int 2)) (.cons (.con (.int 1)) .nil)))) .nil)) (.cons (.call 6 (.cons (.tup (.cons (.con (.int 2)) (.cons (.con (.int 1)) (.cons (.con (.int 0)) .nil)))) .nil)) (.cons (.call 6 (.cons (.tup (.cons (.con (.int 3)) (.cons (.con (.int 2)) (.cons (.con (.int 1)) (.cons (.con (.int 0)) .nil))))) .nil)) (.cons (.call 6 (.cons (.tup (.cons (.con (.int 2)) (.cons (.con (.int 3)) (.cons (.con (.int 0)) (.cons (.con (.int 1)) .nil))))) .nil)) .nil)))))))) (.seq (.set 3 (.bin .add (.var 3) (.lst (.cons (.call 6 (.cons (.tup .nil) .nil)) (.cons (.call 6 (.cons (.trg .rng1 (.cons (.con (.int 16)) .nil)) .nil)) (.cons (.call 6 (.cons (.trg .rng1 (.cons (.con (.int 17)) .nil)) .nil)) .nil)))))) (.seq (.set 4 (.bin .add (.var 4) (.lst (.cons (.con (.bl true)) (.cons (.con (.bl true)) (.cons (.con (.bl false)) (.cons (.con (.bl true)) (.cons (.con (.bl false)) (.cons (.con (.bl true)) (.cons (.con (.bl true)) (.cons (.con (.bl false)) .nil))))))))))) (.seq (.set 3 (.bin .add (.var 3) (.lst (.cons (.call 5 (.cons (.tup (.cons (.con (.int 8)) (.cons (.con (.int 8)) (.cons (.var 0) .nil)))) .nil)) (.cons (.call 5 (.cons (.tup (.cons (.con (.int 16)) (.cons (.con (.int 0)) (.cons (.var 0) .nil)))) .nil)) (.cons (.call 5 (.cons (.tup (.cons (.con (.int 0)) (.cons (.con (.int 16)) (.cons (.var 0) .nil)))) .nil)) (.cons (.call 5 (.cons (.tup (.cons (.con (.int 17)) (.cons (.con (.int 1)) (.cons (.var 2) .nil)))) .nil)) (.cons (.call 6 (.cons (.var 0) .nil)) (.cons (.call 6 (.cons (.var 2) .nil)) (.cons (.call 5 (.cons (.tup (.cons (.con (.int 3)) (.cons (.con (.int 1)) (.cons (.tup (.cons (.con (.int 1)) (.cons (.con (.int 0)) (.cons (.con (.int 3)) (.cons (.con (.int 2)) .nil))))) .nil)))) .nil)) .nil)))))))))) (.seq (.set 4 (.bin .add (.var 4) (.lst (.cons (.con (.bl true)) (.cons (.con (.bl true)) (.cons (.con (.bl true)) (.cons (.con (.bl false)) (.cons (.con (.bl true)) (.cons (.con (.bl false)) (.cons (.con (.bl true)) .nil)))))))))) (.seq (.iff (.not (.call 10 (.cons (.var 3) (.cons (.var 4) .nil)))) (.seq (.ret (.con (.bl false))) .nil) .nil) (.seq (.set 5 (.lst (.cons (.con .non) (.cons (.tup .nil) (.cons (.tup (.cons (.con (.int 2)) (.cons (.con (.int 2)) .nil))) (.cons (.tup (.cons (.con (.int 2)) (.cons (.con (.int 2)) (.cons (.tup .nil) .nil)))) (.cons (.tup (.cons (.con (.int 2)) (.cons (.con (.int 2)) (.cons (.tup (.cons (.con (.int 1)) (.cons (.con (.int 0)) .nil))) .nil)))) (.cons (.tup (.cons (.con (.int 1)) (.cons (.con (.int 1)) (.cons (.tup (.cons (.con (.int 0)) (.cons (.con (.int 1)) .nil))) .nil)))) (.cons (.tup (.cons (.neg (.con (.int 1))) (.cons (.con (.int 3)) (.cons (.tup (.cons (.con (.int 1)) (.cons (.con (.int 0)) .nil))) .nil)))) (.cons (.tup (.cons (.con (.bl true)) (.cons (.con (.int 1)) (.cons (.tup (.cons (.con (.int 1)) (.cons (.con (.int 0)) .nil))) .nil)))) .nil)))))))))) (.seq (.set 5 (.bin .add (.var 5) (.lst (.cons (.tup (.cons (.con (.int 1)) (.cons (.con (.int 1)) (.cons (.tup (.cons (.con (.bl true)) (.cons (.con (.bl false)) .nil))) .nil)))) (.cons (.tup (.cons (.con (.int 1)) (.cons (.con (.int 1)) (.cons (.tup (.cons (.con (.int 1)) (.cons (.con .non) .nil))) .nil)))) (.cons (.tup (.cons (.con (.int 1)) (.cons (.con (.int 1)) (.cons (.tup (.cons (.con (.int 1)) (.cons (.con (.int 1)) .nil))) .nil)))) (.cons (.tup (.cons (.con (.int 1)) (.cons (.con (.int 1)) (.cons (.tup (.cons (.con (.int 2)) (.cons (.con (.int 0)) .nil))) .nil)))) (.cons (.tup (.cons (.con (.int 2)) (.cons (.con (.int 2)) (.cons (.tup (.cons (.con (.int 1)) (.cons (.con (.int 2)) (.cons (.con (.int 3)) (.cons (.con (.int 0)) .nil))))) .nil)))) (.cons (.con (.int 0)) .nil))))))))) (.seq (.set 6 (.lst (.cons (.con .non) (.cons (.con (.int 0)) (.cons (.lst (.cons (.con (.int 1)) (.cons (.con (.int 0)) .nil))) (.cons (.tup (.cons (.con (.int 1)) .nil)) (.cons (.tup (.cons (.con (.int 1)) (.cons (.con (.int 1)) .nil))) (.cons (.tup (.cons (.con (.int 1)) (.cons (.con (.int 2)) (.cons (.con (.int 0)) .nil)))) (.cons (.tup (.cons (.neg (.con (.int 1))) .nil)) (.cons (.tup (.cons (.con (.bl true)) (.cons (.con (.bl false)) .nil))) (.cons (.tup (.cons (.con .non) .nil)) (.cons (.tup (.cons (.tup (.cons (.con (.int 0)) .nil)) .nil)) (.cons (.con (.str ⟨#[48]⟩)) .nil))))))))))))) (.seq (.ret (.call 10 (.cons (.bin .add (.cmp1 [7] (.tnm 7) (.itr .plain (.cons (.var 5) .nil)) .nil (.call 5 (.cons (.var 7) .nil))) (.cmp1 [7] (.tnm 7) (.itr .plain (.cons (.var 6) .nil)) .nil (.call 6 (.cons (.var 7) .nil)))) (.cons (.bin .mul (.lst (.cons (.con (.bl false)) .nil)) (.con (.int 25))) .nil)))) .nil)))))))))))))))⟩
/-- law (statement 22): script cup turn -/
def f_law : Fn := ⟨3, [false], (.seq (.own 1 (.call 7 (.cons (.var 0) .nil))) (.seq (.iff (.or (.not (.call 17 .nil)) (.not (.call 16 .nil))) (.seq (.ret (.con (.bl false))) .nil) .nil) (.seq (.for_ (.tnm 2) (.itr .rng1 (.cons (.con (.int 20)) .nil)) (.seq (.iff (.not (.call 14 (.cons (.bor 1) .nil))) (.seq (.ret (.con (.bl false))) .nil) .nil) .nil)) (.seq (.ret (.con (.bl true))) .nil))))⟩
def fns : List Fn := [f_is_whole, f_is_tuple_of, f_is_pairing, f_rim_of, f_is_planar, f_is_joining, f_is_half, f_law_cup, f_law_roll, f_law_sort, f_law_like, f_law_pairing, f_law_crosses, f_law_rim, f_law_right, f_law_all, f_law_counts_right, f_law_limits_right, f_law]
def prg : Prg := ⟨fns, [((.int 16))]⟩

def T : Tbl := ⟨["is_whole", "is_tuple_of", "is_pairing", "rim_of", "is_planar", "is_joining", "is_half", "_law_cup", "_law_roll", "_law_sort", "_law_like", "_law_pairing", "_law_crosses", "_law_rim", "_law_right", "_law_all", "_law_counts_right", "_law_limits_right", "law"], ["POINTS"], ["abs", "all", "any", "bool", "enumerate", "int", "isinstance", "len", "list", "range", "str", "tuple", "zip"]⟩
abbrev s_is_whole : Stmt := top 1
def N_is_whole : List Str := ["value", "low", "high"]
def d_is_whole : He.DefD := ⟨("is_whole", none), "is_whole", "is_whole", defArgs s_is_whole, defBody s_is_whole, defScope s_is_whole, [], []⟩
abbrev s_is_tuple_of : Stmt := top 2
def N_is_tuple_of : List Str := ["value", "low", "high"]
def d_is_tuple_of : He.DefD := ⟨("is_tuple_of", none), "is_tuple_of", "is_tuple_of", defArgs s_is_tuple_of, defBody s_is_tuple_of, defScope s_is_tuple_of, [], []⟩
abbrev s_is_pairing : Stmt := top 5
def N_is_pairing : List Str := ["value", "most", "own", "at"]
def d_is_pairing : He.DefD := ⟨("is_pairing", none), "is_pairing", "is_pairing", defArgs s_is_pairing, defBody s_is_pairing, defScope s_is_pairing, [], []⟩
abbrev s_rim_of : Stmt := top 6
def N_rim_of : List Str := ["above", "below"]
def d_rim_of : He.DefD := ⟨("rim_of", none), "rim_of", "rim_of", defArgs s_rim_of, defBody s_rim_of, defScope s_rim_of, [], []⟩
abbrev s_is_planar : Stmt := top 7
def N_is_planar : List Str := ["mates", "rim", "waiting", "point"]
def d_is_planar : He.DefD := ⟨("is_planar", none), "is_planar", "is_planar", defArgs s_is_planar, defBody s_is_planar, defScope s_is_planar, [], []⟩
abbrev s_is_joining : Stmt := top 8
def N_is_joining : List Str := ["value", "above", "below", "mates", "at"]
def d_is_joining : He.DefD := ⟨("is_joining", none), "is_joining", "is_joining", defArgs s_is_joining, defBody s_is_joining, defScope s_is_joining, [], []⟩
abbrev s_is_half : Stmt := top 9
def N_is_half : List Str := ["value"]
def d_is_half : He.DefD := ⟨("is_half", none), "is_half", "is_half", defArgs s_is_half, defBody s_is_half, defScope s_is_half, [], []⟩
abbrev s_law_cup : Stmt := top 11
def N_law_cup : List Str := ["script", "cell"]
def d_law_cup : He.DefD := ⟨("_law_cup", none), "_law_cup", "_law_cup", defArgs s_law_cup, defBody s_law_cup, defScope s_law_cup, [], []⟩
abbrev s_law_roll : Stmt := top 12
def N_law_roll : List Str := ["cup", "many", "found"]
def d_law_roll : He.DefD := ⟨("_law_roll", none), "_law_roll", "_law_roll", defArgs s_law_roll, defBody s_law_roll, defScope s_law_roll, [], []⟩
abbrev s_law_sort : Stmt := top 13
def N_law_sort : List Str := ["value"]
def d_law_sort : He.DefD := ⟨("_law_sort", none), "_law_sort", "_law_sort", defArgs s_law_sort, defBody s_law_sort, defScope s_law_sort, [], []⟩
abbrev s_law_like : Stmt := top 14
def N_law_like : List Str := ["one", "other", "sort", "first", "second"]
def d_law_like : He.DefD := ⟨("_law_like", none), "_law_like", "_law_like", defArgs s_law_like, defBody s_law_like, defScope s_law_like, [], []⟩
abbrev s_law_pairing : Stmt := top 15
def N_law_pairing : List Str := ["cup", "points", "threads", "left", "mates", "turn", "one", "other", "own"]
def d_law_pairing : He.DefD := ⟨("_law_pairing", none), "_law_pairing", "_law_pairing", defArgs s_law_pairing, defBody s_law_pairing, defScope s_law_pairing, [], []⟩
abbrev s_law_crosses : Stmt := top 16
def N_law_crosses : List Str := ["mates", "rim", "place", "at", "point", "one", "other", "begin", "end"]
def d_law_crosses : He.DefD := ⟨("_law_crosses", none), "_law_crosses", "_law_crosses", defArgs s_law_crosses, defBody s_law_crosses, defScope s_law_crosses, [], []⟩
abbrev s_law_rim : Stmt := top 17
def N_law_rim : List Str := ["above", "below", "found", "at"]
def d_law_rim : He.DefD := ⟨("_law_rim", none), "_law_rim", "_law_rim", defArgs s_law_rim, defBody s_law_rim, defScope s_law_rim, [], []⟩
abbrev s_law_right : Stmt := top 18
def N_law_right : List Str := ["cup", "points", "threads", "half", "even", "above", "mates", "due"]
def d_law_right : He.DefD := ⟨("_law_right", none), "_law_right", "_law_right", defArgs s_law_right, defBody s_law_right, defScope s_law_right, [], []⟩
abbrev s_law_all : Stmt := top 19
def N_law_all : List Str := ["points", "found", "at", "longer", "row", "spot"]
def d_law_all : He.DefD := ⟨("_law_all", none), "_law_all", "_law_all", defArgs s_law_all, defBody s_law_all, defScope s_law_all, [], []⟩
abbrev s_law_counts_right : Stmt := top 20
def N_law_counts_right : List Str := ["told", "points", "rows", "closed", "above", "row", "at", "due"]
def d_law_counts_right : He.DefD := ⟨("_law_counts_right", none), "_law_counts_right", "_law_counts_right", defArgs s_law_counts_right, defBody s_law_counts_right, defScope s_law_counts_right, [], []⟩
abbrev s_law_limits_right : Stmt := top 21
def N_law_limits_right : List Str := ["flat", "at", "far", "told", "due", "odds", "halves", "odd"]
def d_law_limits_right : He.DefD := ⟨("_law_limits_right", none), "_law_limits_right", "_law_limits_right", defArgs s_law_limits_right, defBody s_law_limits_right, defScope s_law_limits_right, [], []⟩
abbrev s_law : Stmt := top 22
def N_law : List Str := ["script", "cup", "turn"]
def d_law : He.DefD := ⟨("law", none), "law", "law", defArgs s_law, defBody s_law, defScope s_law, [], []⟩
def fnl : List He.DefD := [d_is_whole, d_is_tuple_of, d_is_pairing, d_rim_of, d_is_planar, d_is_joining, d_is_half, d_law_cup, d_law_roll, d_law_sort, d_law_like, d_law_pairing, d_law_crosses, d_law_rim, d_law_right, d_law_all, d_law_counts_right, d_law_limits_right, d_law]
def facts : List He.Fa := [.glo "is_whole", .glo "is_tuple_of", .glo "is_pairing", .glo "rim_of", .glo "is_planar", .glo "is_joining", .glo "is_half", .glo "_law_cup", .glo "_law_roll", .glo "_law_sort", .glo "_law_like", .glo "_law_pairing", .glo "_law_crosses", .glo "_law_rim", .glo "_law_right", .glo "_law_all", .glo "_law_counts_right", .glo "_law_limits_right", .glo "law", .int "POINTS" 16, .free "abs", .free "all", .free "any", .free "bool", .free "enumerate", .free "int", .free "isinstance", .free "len", .free "list", .free "range", .free "str", .free "tuple", .free "zip"]
section
variable {K : PySem.W.Frag}
theorem k_is_whole : chkB T N_is_whole f_is_whole.body (defScope s_is_whole) (defBody s_is_whole) = true := by decide +kernel
theorem o_is_whole (c : He.SaysD facts fnl K) : ∃ fn x qual params body scope fd N ps, DefOk prg T K 0 (He.ga K "is_whole") fn x qual params body scope fd N ps := by
  obtain ⟨fd, F⟩ := c.def_ 0 (d := d_is_whole) rfl
  exact ⟨f_is_whole, _, _, _, _, _, fd, N_is_whole, ["value", "low", "high"], rfl, F, F.bindsN fun _ _ _ _ _ _ us hl => match us, hl with | [_, _, _], _ => rfl, C8.fnScope_by (by decide +kernel), rfl, rfl, k_is_whole⟩
theorem k_is_tuple_of : chkB T N_is_tuple_of f_is_tuple_of.body (defScope s_is_tuple_of) (defBody s_is_tuple_of) = true := by decide +kernel
theorem o_is_tuple_of (c : He.SaysD facts fnl K) : ∃ fn x qual params body scope fd N ps, DefOk prg T K 1 (He.ga K "is_tuple_of") fn x qual params body scope fd N ps := by
  obtain ⟨fd, F⟩ := c.def_ 1 (d := d_is_tuple_of) rfl
  exact ⟨f_is_tuple_of, _, _, _, _, _, fd, N_is_tuple_of, ["value", "low", "high"], rfl, F, F.bindsN fun _ _ _ _ _ _ us hl => match us, hl with | [_, _, _], _ => rfl, C8.fnScope_by (by decide +kernel), rfl, rfl, k_is_tuple_of⟩
theorem k_is_pairing : chkB T N_is_pairing f_is_pairing.body (defScope s_is_pairing) (defBody s_is_pairing) = true := by decide +kernel
theorem o_is_pairing (c : He.SaysD facts fnl K) : ∃ fn x qual params body scope fd N ps, DefOk prg T K 2 (He.ga K "is_pairing") fn x qual params body scope fd N ps := by
  obtain ⟨fd, F⟩ := c.def_ 2 (d := d_is_pairing) rfl
  exact ⟨f_is_pairing, _, _, _, _, _, fd, N_is_pairing, ["value", "most"], rfl, F, F.bindsN fun _ _ _ _ _ _ us hl => match us, hl with | [_, _], _ => rfl, C8.fnScope_by (by decide +kernel), rfl, rfl, k_is_pairing⟩
theorem k_rim_of : chkB T N_rim_of f_rim_of.body (defScope s_rim_of) (defBody s_rim_of) = true := by decide +kernel
theorem o_rim_of (c : He.SaysD facts fnl K) : ∃ fn x qual params body scope fd N ps, DefOk prg T K 3 (He.ga K "rim_of") fn x qual params body scope fd N ps := by
  obtain ⟨fd, F⟩ := c.def_ 3 (d := d_rim_of) rfl
  exact ⟨f_rim_of, _, _, _, _, _, fd, N_rim_of, ["above", "below"], rfl, F, F.bindsN fun _ _ _ _ _ _ us hl => match us, hl with | [_, _], _ => rfl, C8.fnScope_by (by decide +kernel), rfl, rfl, k_rim_of⟩
theorem k_is_planar : chkB T N_is_planar f_is_planar.body (defScope s_is_planar) (defBody s_is_planar) = true := by decide +kernel
theorem o_is_planar (c : He.SaysD facts fnl K) : ∃ fn x qual params body scope fd N ps, DefOk prg T K 4 (He.ga K "is_planar") fn x qual params body scope fd N ps := by
  obtain ⟨fd, F⟩ := c.def_ 4 (d := d_is_planar) rfl
  exact ⟨f_is_planar, _, _, _, _, _, fd, N_is_planar, ["mates", "rim"], rfl, F, F.bindsN fun _ _ _ _ _ _ us hl => match us, hl with | [_, _], _ => rfl, C8.fnScope_by (by decide +kernel), rfl, rfl, k_is_planar⟩
theorem k_is_joining : chkB T N_is_joining f_is_joining.body (defScope s_is_joining) (defBody s_is_joining) = true := by decide +kernel
theorem o_is_joining (c : He.SaysD facts fnl K) : ∃ fn x qual params body scope fd N ps, DefOk prg T K 5 (He.ga K "is_joining") fn x qual params body scope fd N ps := by
  obtain ⟨fd, F⟩ := c.def_ 5 (d := d_is_joining) rfl
  exact ⟨f_is_joining, _, _, _, _, _, fd, N_is_joining, ["value"], rfl, F, F.bindsN fun _ _ _ _ _ _ us hl => match us, hl with | [_], _ => rfl, C8.fnScope_by (by decide +kernel), rfl, rfl, k_is_joining⟩
theorem k_is_half : chkB T N_is_half f_is_half.body (defScope s_is_half) (defBody s_is_half) = true := by decide +kernel
theorem o_is_half (c : He.SaysD facts fnl K) : ∃ fn x qual params body scope fd N ps, DefOk prg T K 6 (He.ga K "is_half") fn x qual params body scope fd N ps := by
  obtain ⟨fd, F⟩ := c.def_ 6 (d := d_is_half) rfl
  exact ⟨f_is_half, _, _, _, _, _, fd, N_is_half, ["value"], rfl, F, F.bindsN fun _ _ _ _ _ _ us hl => match us, hl with | [_], _ => rfl, C8.fnScope_by (by decide +kernel), rfl, rfl, k_is_half⟩
theorem k_law_cup : chkB T N_law_cup f_law_cup.body (defScope s_law_cup) (defBody s_law_cup) = true := by decide +kernel
theorem o_law_cup (c : He.SaysD facts fnl K) : ∃ fn x qual params body scope fd N ps, DefOk prg T K 7 (He.ga K "_law_cup") fn x qual params body scope fd N ps := by
  obtain ⟨fd, F⟩ := c.def_ 7 (d := d_law_cup) rfl
  exact ⟨f_law_cup, _, _, _, _, _, fd, N_law_cup, ["script"], rfl, F, F.bindsN fun _ _ _ _ _ _ us hl => match us, hl with | [_], _ => rfl, C8.fnScope_by (by decide +kernel), rfl, rfl, k_law_cup⟩
theorem k_law_roll : chkB T N_law_roll f_law_roll.body (defScope s_law_roll) (defBody s_law_roll) = true := by decide +kernel
theorem o_law_roll (c : He.SaysD facts fnl K) : ∃ fn x qual params body scope fd N ps, DefOk prg T K 8 (He.ga K "_law_roll") fn x qual params body scope fd N ps := by
  obtain ⟨fd, F⟩ := c.def_ 8 (d := d_law_roll) rfl
  exact ⟨f_law_roll, _, _, _, _, _, fd, N_law_roll, ["cup", "many"], rfl, F, F.bindsN fun _ _ _ _ _ _ us hl => match us, hl with | [_, _], _ => rfl, C8.fnScope_by (by decide +kernel), rfl, rfl, k_law_roll⟩
theorem k_law_sort : chkB T N_law_sort f_law_sort.body (defScope s_law_sort) (defBody s_law_sort) = true := by decide +kernel
theorem o_law_sort (c : He.SaysD facts fnl K) : ∃ fn x qual params body scope fd N ps, DefOk prg T K 9 (He.ga K "_law_sort") fn x qual params body scope fd N ps := by
  obtain ⟨fd, F⟩ := c.def_ 9 (d := d_law_sort) rfl
  exact ⟨f_law_sort, _, _, _, _, _, fd, N_law_sort, ["value"], rfl, F, F.bindsN fun _ _ _ _ _ _ us hl => match us, hl with | [_], _ => rfl, C8.fnScope_by (by decide +kernel), rfl, rfl, k_law_sort⟩
theorem k_law_like : chkB T N_law_like f_law_like.body (defScope s_law_like) (defBody s_law_like) = true := by decide +kernel
theorem o_law_like (c : He.SaysD facts fnl K) : ∃ fn x qual params body scope fd N ps, DefOk prg T K 10 (He.ga K "_law_like") fn x qual params body scope fd N ps := by
  obtain ⟨fd, F⟩ := c.def_ 10 (d := d_law_like) rfl
  exact ⟨f_law_like, _, _, _, _, _, fd, N_law_like, ["one", "other"], rfl, F, F.bindsN fun _ _ _ _ _ _ us hl => match us, hl with | [_, _], _ => rfl, C8.fnScope_by (by decide +kernel), rfl, rfl, k_law_like⟩
theorem k_law_pairing : chkB T N_law_pairing f_law_pairing.body (defScope s_law_pairing) (defBody s_law_pairing) = true := by decide +kernel
theorem o_law_pairing (c : He.SaysD facts fnl K) : ∃ fn x qual params body scope fd N ps, DefOk prg T K 11 (He.ga K "_law_pairing") fn x qual params body scope fd N ps := by
  obtain ⟨fd, F⟩ := c.def_ 11 (d := d_law_pairing) rfl
  exact ⟨f_law_pairing, _, _, _, _, _, fd, N_law_pairing, ["cup", "points", "threads"], rfl, F, F.bindsN fun _ _ _ _ _ _ us hl => match us, hl with | [_, _, _], _ => rfl, C8.fnScope_by (by decide +kernel), rfl, rfl, k_law_pairing⟩
theorem k_law_crosses : chkB T N_law_crosses f_law_crosses.body (defScope s_law_crosses) (defBody s_law_crosses) = true := by decide +kernel
theorem o_law_crosses (c : He.SaysD facts fnl K) : ∃ fn x qual params body scope fd N ps, DefOk prg T K 12 (He.ga K "_law_crosses") fn x qual params body scope fd N ps := by
  obtain ⟨fd, F⟩ := c.def_ 12 (d := d_law_crosses) rfl
  exact ⟨f_law_crosses, _, _, _, _, _, fd, N_law_crosses, ["mates", "rim"], rfl, F, F.bindsN fun _ _ _ _ _ _ us hl => match us, hl with | [_, _], _ => rfl, C8.fnScope_by (by decide +kernel), rfl, rfl, k_law_crosses⟩
theorem k_law_rim : chkB T N_law_rim f_law_rim.body (defScope s_law_rim) (defBody s_law_rim) = true := by decide +kernel
theorem o_law_rim (c : He.SaysD facts fnl K) : ∃ fn x qual params body scope fd N ps, DefOk prg T K 13 (He.ga K "_law_rim") fn x qual params body scope fd N ps := by
  obtain ⟨fd, F⟩ := c.def_ 13 (d := d_law_rim) rfl
  exact ⟨f_law_rim, _, _, _, _, _, fd, N_law_rim, ["above", "below"], rfl, F, F.bindsN fun _ _ _ _ _ _ us hl => match us, hl with | [_, _], _ => rfl, C8.fnScope_by (by decide +kernel), rfl, rfl, k_law_rim⟩
theorem k_law_right : chkB T N_law_right f_law_right.body (defScope s_law_right) (defBody s_law_right) = true := by decide +kernel
theorem o_law_right (c : He.SaysD facts fnl K) : ∃ fn x qual params body scope fd N ps, DefOk prg T K 14 (He.ga K "_law_right") fn x qual params body scope fd N ps := by
  obtain ⟨fd, F⟩ := c.def_ 14 (d := d_law_right) rfl
  exact ⟨f_law_right, _, _, _, _, _, fd, N_law_right, ["cup"], rfl, F, F.bindsN fun _ _ _ _ _ _ us hl => match us, hl with | [_], _ => rfl, C8.fnScope_by (by decide +kernel), rfl, rfl, k_law_right⟩
theorem k_law_all : chkB T N_law_all f_law_all.body (defScope s_law_all) (defBody s_law_all) = true := by decide +kernel
theorem o_law_all (c : He.SaysD facts fnl K) : ∃ fn x qual params body scope fd N ps, DefOk prg T K 15 (He.ga K "_law_all") fn x qual params body scope fd N ps := by
  obtain ⟨fd, F⟩ := c.def_ 15 (d := d_law_all) rfl
  exact ⟨f_law_all, _, _, _, _, _, fd, N_law_all, ["points"], rfl, F, F.bindsN fun _ _ _ _ _ _ us hl => match us, hl with | [_], _ => rfl, C8.fnScope_by (by decide +kernel), rfl, rfl, k_law_all⟩
theorem k_law_counts_right : chkB T N_law_counts_right f_law_counts_right.body (defScope s_law_counts_right) (defBody s_law_counts_right) = true := by decide +kernel
theorem o_law_counts_right (c : He.SaysD facts fnl K) : ∃ fn x qual params body scope fd N ps, DefOk prg T K 16 (He.ga K "_law_counts_right") fn x qual params body scope fd N ps := by
  obtain ⟨fd, F⟩ := c.def_ 16 (d := d_law_counts_right) rfl
  exact ⟨f_law_counts_right, _, _, _, _, _, fd, N_law_counts_right, [], rfl, F, F.bindsN fun _ _ _ _ _ _ us hl => match us, hl with | [], _ => rfl, C8.fnScope_by (by decide +kernel), rfl, rfl, k_law_counts_right⟩
theorem k_law_limits_right : chkB T N_law_limits_right f_law_limits_right.body (defScope s_law_limits_right) (defBody s_law_limits_right) = true := by decide +kernel
theorem o_law_limits_right (c : He.SaysD facts fnl K) : ∃ fn x qual params body scope fd N ps, DefOk prg T K 17 (He.ga K "_law_limits_right") fn x qual params body scope fd N ps := by
  obtain ⟨fd, F⟩ := c.def_ 17 (d := d_law_limits_right) rfl
  exact ⟨f_law_limits_right, _, _, _, _, _, fd, N_law_limits_right, [], rfl, F, F.bindsN fun _ _ _ _ _ _ us hl => match us, hl with | [], _ => rfl, C8.fnScope_by (by decide +kernel), rfl, rfl, k_law_limits_right⟩
theorem k_law : chkB T N_law f_law.body (defScope s_law) (defBody s_law) = true := by decide +kernel
theorem o_law (c : He.SaysD facts fnl K) : ∃ fn x qual params body scope fd N ps, DefOk prg T K 18 (He.ga K "law") fn x qual params body scope fd N ps := by
  obtain ⟨fd, F⟩ := c.def_ 18 (d := d_law) rfl
  exact ⟨f_law, _, _, _, _, _, fd, N_law, ["script"], rfl, F, F.bindsN fun _ _ _ _ _ _ us hl => match us, hl with | [_], _ => rfl, C8.fnScope_by (by decide +kernel), rfl, rfl, k_law⟩
end
def fa (K : PySem.W.Frag) : FA := fun i => (T.fns[i]?).map fun x => He.ga K x
theorem prg_ok {K : PySem.W.Frag} {h : Heap} {mg : Str → Option Value} (X : K.In h) (G : h.Ns mainGlobals mg) (c : He.SaysD facts fnl K) : PrgOk prg T K mg (fa K) where
  free := fun x hx => by
    have hx : x ∈ T.free := by simpa using hx
    simp only [T, List.mem_cons, List.not_mem_nil, or_false] at hx
    rcases hx with rfl | rfl | rfl | rfl | rfl | rfl | rfl | rfl | rfl | rfl | rfl | rfl | rfl
    · exact He.free_ok X G (c.fact 20 (f := .free "abs") rfl)
    · exact He.free_ok X G (c.fact 21 (f := .free "all") rfl)
    · exact He.free_ok X G (c.fact 22 (f := .free "any") rfl)
    · exact He.free_ok X G (c.fact 23 (f := .free "bool") rfl)
    · exact He.free_ok X G (c.fact 24 (f := .free "enumerate") rfl)
    · exact He.free_ok X G (c.fact 25 (f := .free "int") rfl)
    · exact He.free_ok X G (c.fact 26 (f := .free "isinstance") rfl)
    · exact He.free_ok X G (c.fact 27 (f := .free "len") rfl)
    · exact He.free_ok X G (c.fact 28 (f := .free "list") rfl)
    · exact He.free_ok X G (c.fact 29 (f := .free "range") rfl)
    · exact He.free_ok X G (c.fact 30 (f := .free "str") rfl)
    · exact He.free_ok X G (c.fact 31 (f := .free "tuple") rfl)
    · exact He.free_ok X G (c.fact 32 (f := .free "zip") rfl)
  cst := fun i x hx => by
    match i, hx with
    | 0, hx =>
      cases hx
      obtain ⟨t, e⟩ := He.int_ok X G (c.fact 19 (f := .int "POINTS" 16) rfl)
      exact ⟨_, _, .int 16, rfl, e, ⟨t, rfl⟩, fun F => .int _⟩
    | i + 1, hx => simp [evL, evI, look, looks, frz, frzs, put, U.tru, cmpF, opF, bltF, keepF, subF, subE, ownB, ownL, appE, idxF, atU, istF, inF, slcF, T] at hx
  fns := fun i x hx => by
    refine ⟨He.ga K x, by unfold fa; rw [hx]; rfl, ?_⟩
    match i, hx with
    | 0, hx => cases hx; exact He.glo_ok X G (c.fact 0 (f := .glo "is_whole") rfl)
    | 1, hx => cases hx; exact He.glo_ok X G (c.fact 1 (f := .glo "is_tuple_of") rfl)
    | 2, hx => cases hx; exact He.glo_ok X G (c.fact 2 (f := .glo "is_pairing") rfl)
    | 3, hx => cases hx; exact He.glo_ok X G (c.fact 3 (f := .glo "rim_of") rfl)
    | 4, hx => cases hx; exact He.glo_ok X G (c.fact 4 (f := .glo "is_planar") rfl)
    | 5, hx => cases hx; exact He.glo_ok X G (c.fact 5 (f := .glo "is_joining") rfl)
    | 6, hx => cases hx; exact He.glo_ok X G (c.fact 6 (f := .glo "is_half") rfl)
    | 7, hx => cases hx; exact He.glo_ok X G (c.fact 7 (f := .glo "_law_cup") rfl)
    | 8, hx => cases hx; exact He.glo_ok X G (c.fact 8 (f := .glo "_law_roll") rfl)
    | 9, hx => cases hx; exact He.glo_ok X G (c.fact 9 (f := .glo "_law_sort") rfl)
    | 10, hx => cases hx; exact He.glo_ok X G (c.fact 10 (f := .glo "_law_like") rfl)
    | 11, hx => cases hx; exact He.glo_ok X G (c.fact 11 (f := .glo "_law_pairing") rfl)
    | 12, hx => cases hx; exact He.glo_ok X G (c.fact 12 (f := .glo "_law_crosses") rfl)
    | 13, hx => cases hx; exact He.glo_ok X G (c.fact 13 (f := .glo "_law_rim") rfl)
    | 14, hx => cases hx; exact He.glo_ok X G (c.fact 14 (f := .glo "_law_right") rfl)
    | 15, hx => cases hx; exact He.glo_ok X G (c.fact 15 (f := .glo "_law_all") rfl)
    | 16, hx => cases hx; exact He.glo_ok X G (c.fact 16 (f := .glo "_law_counts_right") rfl)
    | 17, hx => cases hx; exact He.glo_ok X G (c.fact 17 (f := .glo "_law_limits_right") rfl)
    | 18, hx => cases hx; exact He.glo_ok X G (c.fact 18 (f := .glo "law") rfl)
    | i + 19, hx => simp [evL, evI, look, looks, frz, frzs, put, U.tru, cmpF, opF, bltF, keepF, subF, subE, ownB, ownL, appE, idxF, atU, istF, inF, slcF, T] at hx
  defs := fun i f hf => by
    match i, hf with
    | 0, hf => cases hf; exact o_is_whole c
    | 1, hf => cases hf; exact o_is_tuple_of c
    | 2, hf => cases hf; exact o_is_pairing c
    | 3, hf => cases hf; exact o_rim_of c
    | 4, hf => cases hf; exact o_is_planar c
    | 5, hf => cases hf; exact o_is_joining c
    | 6, hf => cases hf; exact o_is_half c
    | 7, hf => cases hf; exact o_law_cup c
    | 8, hf => cases hf; exact o_law_roll c
    | 9, hf => cases hf; exact o_law_sort c
    | 10, hf => cases hf; exact o_law_like c
    | 11, hf => cases hf; exact o_law_pairing c
    | 12, hf => cases hf; exact o_law_crosses c
    | 13, hf => cases hf; exact o_law_rim c
    | 14, hf => cases hf; exact o_law_right c
    | 15, hf => cases hf; exact o_law_all c
    | 16, hf => cases hf; exact o_law_counts_right c
    | 17, hf => cases hf; exact o_law_limits_right c
    | 18, hf => cases hf; exact o_law c
    | i + 19, hf => simp [evL, evI, look, looks, frz, frzs, put, U.tru, cmpF, opF, bltF, keepF, subF, subE, ownB, ownL, appE, idxF, atU, istF, inF, slcF, fa, T] at hf
abbrev R : PySem.W.OpenRow := PySem.W.OpenLaw.row PySem.Challenge.rw_archesjoined_k02_whole_joinings_and_halv
abbrev hk : PySem.W.Hook := He.hookD 4 facts fnl
def ob (s : PySem.W.SharedT) : He.AlD := He.obsDG 4 facts fnl (HandSHeadRun.getT s)
theorem ob_eq (s : PySem.W.SharedT) : ob s = hk.obs s.abs := He.obsDG_eq (HandSHeadRun.getT_eq s)
def loose : List PySem.Str := ["is_whole", "is_tuple_of", "is_pairing", "rim_of", "is_planar", "is_joining", "is_half", "_law_cup", "_law_roll", "_law_sort", "_law_like", "_law_pairing", "_law_crosses", "_law_rim", "_law_right", "_law_all", "_law_counts_right", "_law_limits_right", "POINTS", "__name__"]
theorem run (w : World) : HandSHeadRun.RunEq R (PySem.W.view R.prog [22]) hk ob 4000 loose w := by
  intro os
  kernel_rfl
/-- the law holds where PF's run of it answers True -/
theorem holds_of (main : ∀ ns : List Int, ns.length ≤ 63 → (∀ z ∈ ns, Builtin.Int.intBits z ≤ 1048576) → ∃ os, prg.den 40 18 [.val (.scr (ns.map U.int))] = .ok (.val (.bl true), os)) : PySem.Challenge.rw_archesjoined_k02_whole_joinings_and_halv.Holds := by
  w_on; o_law
  refine HandSHeadRun.head_any (r := R) (q := PySem.W.view R.prog [22]) (H := hk) (ob := ob) (M := 4000) (loose := loose) (d := HandSHeadRun.topDef R.prog 22) (kwd := []) ob_eq
    (by kernel_rfl) (fun s => by kernel_rfl) run (by kernel_rfl) (by kernel_rfl) (by kernel_rfl) (by rfl) (by first | assumption | decide +kernel) (by decide +kernel) ⟨rfl, rfl, rfl, rfl, rfl, by decide +kernel⟩ ?hw ?hc
  case hw => w_witness2
  case hc =>
    refine walk_ofW (l := PySem.Challenge.rw_archesjoined_k02_whole_joinings_and_halv) (n := 63) (k := 40) (x := "script") (CX := fun w => L2.CX PySem.Challenge.pw_archesjoined_k02_whole_joinings_and_halv w) rfl (by decide) (by kernel_rfl) ⟨rfl, by decide, by decide⟩ ?F (fun _ _ _ _ _ z => cx_false z)
    intro w mg f h Y G hmg0
    obtain ⟨K, KX, c⟩ := Y
    have hmg : mg ("law" : PySem.Str) = some (.ref f) := by
      have e : (HandSHeadRun.topDef R.prog 22).name = ("law" : PySem.Str) := by kernel_rfl
      rw [← e]
      exact hmg0
    obtain ⟨fd, F⟩ := c.def_ 18 (d := d_law) rfl
    have e := hmg.symm.trans (He.glo_ok KX G (c.fact 18 (f := .glo "law") rfl))
    cases e
    have D : DefOk prg T K 18 (He.ga K "law") f_law _ _ _ _ _ fd N_law ["script"] := ⟨rfl, F, F.bindsN fun _ _ _ _ _ _ us hl => match us, hl with | [_], _ => rfl, C8.fnScope_by (by decide +kernel), rfl, rfl, k_law⟩
    exact ⟨K, fd, spF K (fa K) XR0 (prg.den 40) 18 [false], KX, fun s u => F.bindsA (ps := ["script"]) (fun _ _ _ _ _ _ us hl => match us, hl with | [_], _ => rfl) s [u] rfl, fun H a ns hl hb _ hS => (main ns hl hb).elim fun os q => law_sp hS q, fun base _ _ => law_end (prg_ok KX G c) D base⟩
end K02
end
section
set_option Elab.async false
set_option autoImplicit false
set_option linter.all false
namespace K02

/-- the walk along a rim: the points that wait -/
def scan (m : Nat → Nat) : List Nat → List Nat → Option (List Nat)
  | [], ws => some ws
  | p :: r, ws => if m p = p then (if ws = [] then scan m r ws else none)
    else if ws.getLast? = some (m p) then scan m r ws.dropLast else scan m r (ws ++ [p])
structure Inv (m : Nat → Nat) (rim : List Nat) : Prop where
  nd : rim.Nodup
  mem : ∀ p ∈ rim, m p ∈ rim
  inv : ∀ p ∈ rim, m (m p) = p
def viol (m : Nat → Nat) (rim : List Nat) (one other : Nat) : Prop :=
  (rim.idxOf one < rim.idxOf (m one) ∧ (rim.idxOf one < rim.idxOf other ∧ rim.idxOf other < rim.idxOf (m one)) ∧ ¬ (rim.idxOf one < rim.idxOf (m other) ∧ rim.idxOf (m other) < rim.idxOf (m one))) ∨
  (rim.idxOf one < rim.idxOf (m one) ∧ m other = other ∧ (rim.idxOf one < rim.idxOf other ∧ rim.idxOf other < rim.idxOf (m one)))
def Cross (m : Nat → Nat) (rim : List Nat) : Prop := ∃ one ∈ rim, ∃ other ∈ rim, viol m rim one other
section
variable {m : Nat → Nat} {rim : List Nat}
theorem q_lt {p : Nat} (h : p ∈ rim) : rim.idxOf p < rim.length := List.idxOf_lt_length_of_mem h
theorem q_inj {p r : Nat} (h : p ∈ rim) (h' : r ∈ rim) (e : rim.idxOf p = rim.idxOf r) : p = r := by
  have a := List.getElem_idxOf (q_lt h)
  have b := List.getElem_idxOf (q_lt h')
  rw [← a, ← b]
  congr 1
theorem q_get (nd : rim.Nodup) {k : Nat} (h : k < rim.length) : rim.idxOf rim[k] = k := nd.idxOf_getElem k h
theorem mem_take {k p : Nat} (nd : rim.Nodup) : p ∈ rim.take k ↔ p ∈ rim ∧ rim.idxOf p < k := by
  constructor
  · intro h
    obtain ⟨i, hi, e⟩ := List.mem_take_iff_getElem.mp h
    have hi2 : i < rim.length := by omega
    refine ⟨List.mem_of_mem_take h, ?_⟩
    rw [← e, q_get nd hi2]
    omega
  · rintro ⟨h1, h2⟩
    exact List.mem_take_iff_getElem.mpr ⟨rim.idxOf p, by have := q_lt h1; omega, List.getElem_idxOf (q_lt h1)⟩
def openL (m : Nat → Nat) (rim : List Nat) (k : Nat) : List Nat := (rim.take k).filter fun p => decide (k ≤ rim.idxOf (m p))
theorem mem_open {k p : Nat} (nd : rim.Nodup) : p ∈ openL m rim k ↔ (p ∈ rim ∧ rim.idxOf p < k) ∧ k ≤ rim.idxOf (m p) := by
  unfold openL
  rw [List.mem_filter, mem_take nd]
  simp
/-- the waiting ones stand in the rim's order -/
theorem open_sorted (nd : rim.Nodup) (k : Nat) : (openL m rim k).Pairwise fun a b => rim.idxOf a < rim.idxOf b := by
  have h : rim.Pairwise fun a b => rim.idxOf a < rim.idxOf b := by
    rw [List.pairwise_iff_getElem]
    intro i j hi hj hij
    rw [q_get nd hi, q_get nd hj]
    exact hij
  exact (h.sublist (List.take_sublist k rim)).sublist List.filter_sublist
theorem last_max {ws : List Nat} (h : ws.Pairwise fun a b => rim.idxOf a < rim.idxOf b) {x y : Nat} (hx : ws.getLast? = some x) (hy : y ∈ ws) : y = x ∨ rim.idxOf y < rim.idxOf x := by
  obtain ⟨l, rfl⟩ := List.getLast?_eq_some_iff.mp hx
  rcases List.mem_append.mp hy with z | z
  · exact .inr ((List.pairwise_append.mp h).2.2 y z x (by simp))
  · exact .inl (by simpa using z)
structure NC (m : Nat → Nat) (rim : List Nat) (k : Nat) : Prop where
  arc : ∀ one ∈ rim, ∀ other ∈ rim, rim.idxOf (m one) < k → ¬ viol m rim one other
  fix : ∀ p ∈ rim, m p = p → rim.idxOf p < k → ∀ one ∈ rim, ¬ (rim.idxOf one < rim.idxOf p ∧ rim.idxOf p < rim.idxOf (m one))
/-- a point that waits behind its mate waits for ever -/
theorem dead (I : Inv m rim) {d : Nat} (hd : d ∈ rim) : ∀ (n k : Nat) (ws : List Nat), rim.length - k = n → d ∈ ws → rim.idxOf d < k → rim.idxOf (m d) < k → scan m (rim.drop k) ws ≠ some [] := by
  intro n
  induction n with
  | zero =>
    intro k ws hk hw _ _ h
    rw [List.drop_eq_nil_of_le (by omega)] at h
    simp only [scan, Option.some.injEq] at h
    rw [h] at hw
    cases hw
  | succ n ih =>
    intro k ws hk hw h1 h2 h
    have hkl : k < rim.length := by omega
    rw [List.drop_eq_getElem_cons hkl] at h
    unfold scan at h
    split at h
    · split at h
      · rename_i e; rw [e] at hw; cases hw
      · cases h
    · split at h
      · rename_i e
        refine ih (k + 1) _ (by omega) ?_ (by omega) (by omega) h
        obtain ⟨l, rfl⟩ := List.getLast?_eq_some_iff.mp e
        rw [List.dropLast_concat]
        rcases List.mem_append.mp hw with z | z
        · exact z
        · exfalso
          have z : d = m rim[k] := by simpa using z
          have e2 : m d = rim[k] := by rw [z]; exact I.inv _ (List.getElem_mem hkl)
          rw [e2, q_get I.nd hkl] at h2
          omega
      · exact ih (k + 1) _ (by omega) (List.mem_append_left _ hw) (by omega) (by omega) h
theorem filter_last {ws : List Nat} {x : Nat} (nd : ws.Nodup) (h : ws.getLast? = some x) : ws.filter (fun y => decide (y ≠ x)) = ws.dropLast := by
  obtain ⟨l, rfl⟩ := List.getLast?_eq_some_iff.mp h
  rw [List.dropLast_concat, List.filter_append]
  have h1 : x ∉ l := fun z => by
    have := (List.nodup_append.mp nd).2.2 x z x (by simp)
    exact this rfl
  rw [List.filter_eq_self.mpr (fun y hy => by simp; exact fun z => h1 (z ▸ hy))]
  simp
theorem alive (I : Inv m rim) : ∀ (n k : Nat) (ws : List Nat), rim.length - k = n → k ≤ rim.length → ws = openL m rim k → NC m rim k → (scan m (rim.drop k) ws = some [] ↔ ¬ Cross m rim) := by
  intro n
  induction n with
  | zero =>
    intro k ws hk hle hw hnc
    have hk' : k = rim.length := by omega
    subst hk'
    have e : openL m rim rim.length = [] := by
      apply List.eq_nil_iff_forall_not_mem.mpr
      intro p hp
      obtain ⟨⟨h1, _⟩, h2⟩ := (mem_open I.nd).mp hp
      have := q_lt (I.mem p h1)
      omega
    rw [hw, e, List.drop_length]
    simp only [scan, true_iff]
    rintro ⟨one, h1, other, h2, v⟩
    exact hnc.arc one h1 other h2 (q_lt (I.mem one h1)) v
  | succ n ih =>
    intro k ws hk hle hw hnc
    have hkl : k < rim.length := by omega
    have qp := q_get I.nd hkl
    have hp : rim[k] ∈ rim := List.getElem_mem hkl
    rw [List.drop_eq_getElem_cons hkl]
    generalize hpe : rim[k] = p at qp hp
    have back : ∀ y ∈ rim, rim.idxOf (m y) = k → y = m p := fun y hy e => by
      have : m y = p := q_inj (I.mem y hy) hp (by omega)
      rw [← this, I.inv y hy]
    have tk : rim.take (k + 1) = rim.take k ++ [p] := by rw [List.take_succ, List.getElem?_eq_getElem hkl, hpe]; rfl
    have op : openL m rim (k + 1) = (rim.take k).filter (fun y => decide (k + 1 ≤ rim.idxOf (m y))) ++ (if k + 1 ≤ rim.idxOf (m p) then [p] else []) := by
      unfold openL
      rw [tk, List.filter_append]
      congr 1
      by_cases c : k + 1 ≤ rim.idxOf (m p) <;> simp [c]
    have wnd : ws.Nodup := by
      rw [hw]
      exact (I.nd.sublist (List.take_sublist k rim)).sublist List.filter_sublist
    have wsort : ws.Pairwise fun a b => rim.idxOf a < rim.idxOf b := by rw [hw]; exact open_sorted I.nd k
    have wmem : ∀ y, y ∈ ws ↔ (y ∈ rim ∧ rim.idxOf y < k) ∧ k ≤ rim.idxOf (m y) := fun y => by rw [hw]; exact mem_open I.nd
    unfold scan
    by_cases c1 : m p = p
    · rw [if_pos c1]
      by_cases c2 : ws = []
      · rw [if_pos c2]
        refine ih (k + 1) ws (by omega) (by omega) ?_ ⟨fun one h1 other h2 h3 v => ?_, fun f h1 h2 h3 one h4 h5 => ?_⟩
        · rw [op, if_neg (by rw [c1]; omega), c2, List.append_nil]
          symm
          apply List.eq_nil_iff_forall_not_mem.mpr
          intro y hy
          obtain ⟨x1, x2⟩ := List.mem_filter.mp hy
          have := (wmem y).mpr ⟨(mem_take I.nd).mp x1, by have := of_decide_eq_true x2; omega⟩
          rw [c2] at this
          cases this
        · by_cases c3 : rim.idxOf (m one) = k
          · have := back one h1 c3
            rw [c1] at this
            subst this
            rcases v with ⟨v, _⟩ | ⟨v, _⟩ <;> (rw [c1] at v; omega)
          · exact hnc.arc one h1 other h2 (by omega) v
        · by_cases c3 : rim.idxOf f = k
          · have : one ∈ ws := (wmem one).mpr ⟨⟨h4, by omega⟩, by omega⟩
            rw [c2] at this
            cases this
          · exact hnc.fix f h1 h2 (by omega) one h4 h5
      · rw [if_neg c2]
        obtain ⟨x, hx⟩ := List.exists_mem_of_ne_nil ws c2
        obtain ⟨⟨x1, x2⟩, x3⟩ := (wmem x).mp hx
        have : rim.idxOf (m x) ≠ k := fun z => by
          have := back x x1 z
          rw [c1] at this
          subst this
          omega
        refine ⟨fun z => (by cases z), fun z => (z ⟨x, x1, p, hp, .inr ⟨by omega, c1, by omega, by omega⟩⟩).elim⟩
    · rw [if_neg c1]
      have nfix : ∀ f ∈ rim, m f = f → rim.idxOf f < k + 1 → ∀ one ∈ rim, ¬ (rim.idxOf one < rim.idxOf f ∧ rim.idxOf f < rim.idxOf (m one)) := fun f h1 h2 h3 one h4 h5 => by
        have : rim.idxOf f ≠ k := fun z => by
          have : f = p := q_inj h1 hp (by omega)
          subst this
          exact c1 h2
        exact hnc.fix f h1 h2 (by omega) one h4 h5
      by_cases c2 : ws.getLast? = some (m p)
      · rw [if_pos c2]
        have xw : m p ∈ ws := List.mem_of_getLast? c2
        obtain ⟨⟨x1, x2⟩, x3⟩ := (wmem _).mp xw
        refine ih (k + 1) _ (by omega) (by omega) ?_ ⟨fun one h1 other h2 h3 v => ?_, nfix⟩
        · rw [op, if_neg (by omega), List.append_nil, ← filter_last wnd c2, hw]
          unfold openL
          rw [List.filter_filter]
          apply List.filter_congr
          intro y hy
          obtain ⟨y1, y2⟩ := (mem_take I.nd).mp hy
          have : rim.idxOf (m y) = k ↔ y = m p := ⟨back y y1, fun z => by rw [z, I.inv p hp]; exact qp⟩
          by_cases c : y = m p
          · simp [c, I.inv p hp, qp]
          · have : rim.idxOf (m y) ≠ k := fun z => c (this.mp z)
            simp only [ne_eq, c, not_false_eq_true, decide_true, Bool.true_and]
            by_cases d : k ≤ rim.idxOf (m y)
            · have d' : k + 1 ≤ rim.idxOf (m y) := by omega
              simp [d, d']
            · have d' : ¬ k + 1 ≤ rim.idxOf (m y) := by omega
              simp [d, d']
        · by_cases c3 : rim.idxOf (m one) = k
          · have := back one h1 c3
            subst this
            -- the arc from m p to p
            have em : m (m p) = p := I.inv p hp
            have hin : rim.idxOf (m p) < rim.idxOf other ∧ rim.idxOf other < k := by
              rcases v with ⟨_, v, _⟩ | ⟨_, _, v⟩ <;> (rw [em] at v; omega)
            have h4 : m other ≠ other := fun z => nfix other h2 z (by omega) (m p) x1 ⟨hin.1, by rw [em]; omega⟩
            have h5 : rim.idxOf (m other) < k := by
              rcases Nat.lt_or_ge (rim.idxOf (m other)) k with z | z
              · exact z
              · exfalso
                rcases last_max wsort c2 ((wmem other).mpr ⟨⟨h2, hin.2⟩, z⟩) with y | y
                · rw [y] at hin; omega
                · omega
            have h6 : rim.idxOf (m p) < rim.idxOf (m other) := by
              rcases Nat.lt_trichotomy (rim.idxOf (m p)) (rim.idxOf (m other)) with z | z | z
              · exact z
              · exfalso
                have e := q_inj x1 (I.mem _ h2) z
                have : p = other := by rw [← I.inv p hp, e, I.inv other h2]
                subst this
                omega
              · exfalso
                refine hnc.arc (m other) (I.mem _ h2) (m p) x1 (by rw [I.inv other h2]; exact hin.2) (.inl ⟨by rw [I.inv other h2]; omega, by rw [I.inv other h2]; omega, ?_⟩)
                rw [I.inv other h2, em]
                omega
            rcases v with ⟨_, _, v⟩ | ⟨_, v, _⟩
            · exact v (by rw [em]; omega)
            · exact h4 v
          · exact hnc.arc one h1 other h2 (by omega) v
      · rw [if_neg c2]
        have hne : rim.idxOf (m p) ≠ k := fun z => c1 (q_inj (I.mem p hp) hp (by omega))
        by_cases c3 : rim.idxOf (m p) < k
        · -- the mate waits, but not last
          have xw : m p ∈ ws := (wmem _).mpr ⟨⟨I.mem p hp, c3⟩, by rw [I.inv p hp]; omega⟩
          have em : m (m p) = p := I.inv p hp
          have hcross : Cross m rim := by
            cases e : ws.getLast? with
            | none => rw [List.getLast?_eq_none_iff.mp e] at xw; cases xw
            | some y =>
              have yw : y ∈ ws := List.mem_of_getLast? e
              obtain ⟨⟨y1, y2⟩, y3⟩ := (wmem y).mp yw
              have yx : y ≠ m p := fun z => c2 (by rw [e, z])
              have ylt : rim.idxOf (m p) < rim.idxOf y := by
                rcases last_max wsort e xw with z | z
                · exact (yx z.symm).elim
                · exact z
              have : rim.idxOf (m y) ≠ k := fun z => yx (back y y1 z)
              refine ⟨m p, I.mem p hp, y, y1, .inl ⟨by rw [em]; omega, by rw [em]; omega, ?_⟩⟩
              rw [em]
              omega
          refine ⟨fun z => (dead I hp (rim.length - (k + 1)) (k + 1) _ rfl (by simp) (by omega) (by omega) z).elim, fun z => (z hcross).elim⟩
        · refine ih (k + 1) _ (by omega) (by omega) ?_ ⟨fun one h1 other h2 h3 v => ?_, nfix⟩
          · rw [op, if_pos (by omega), hw]
            congr 1
            unfold openL
            apply List.filter_congr
            intro y hy
            obtain ⟨y1, y2⟩ := (mem_take I.nd).mp hy
            have : rim.idxOf (m y) ≠ k := fun z => by
              have := back y y1 z
              rw [this] at y2
              omega
            by_cases d : k ≤ rim.idxOf (m y)
            · have d' : k + 1 ≤ rim.idxOf (m y) := by omega
              simp [d, d']
            · have d' : ¬ k + 1 ≤ rim.idxOf (m y) := by omega
              simp [d, d']
          · by_cases c4 : rim.idxOf (m one) = k
            · have := back one h1 c4
              subst this
              rw [viol, I.inv p hp] at v
              omega
            · exact hnc.arc one h1 other h2 (by omega) v
theorem planar_iff (I : Inv m rim) : scan m rim [] = some [] ↔ ¬ Cross m rim := by
  have := alive I rim.length 0 [] (by simp) (Nat.zero_le _) rfl ⟨fun _ _ _ _ h => absurd h (Nat.not_lt_zero _), fun _ _ _ h => absurd h (Nat.not_lt_zero _)⟩
  simpa using this
end
end K02
end
section
set_option Elab.async false
set_option maxRecDepth 100000
set_option maxHeartbeats 0
namespace K02
open PF
def saysT : Res (Slot × List Slot) → Bool
  | .ok (.val (.bl true), []) => true
  | _ => false
theorem saysT_of {r : Res (Slot × List Slot)} (h : saysT r = true) : r = .ok (.val (.bl true), []) := by
  unfold saysT at h
  split at h
  · rfl
  · cases h
theorem limits : saysT (prg.den 39 17 []) = true := by decide +kernel
end K02
end
section
set_option Elab.async false
set_option maxRecDepth 100000
set_option maxHeartbeats 0
namespace K02
open PF
theorem counts : saysT (prg.den 39 16 []) = true := by decide +kernel
end K02
end
section
set_option Elab.async false
set_option linter.all false
set_option maxRecDepth 100000
namespace K02
open PF PySem
abbrev GG (k : Nat) : Gx := ⟨prg.modes, prg.cst, prg.den k⟩
abbrev iv (i : Int) : Slot := .val (.int i)
abbrev bv (b : Bool) : Slot := .val (.bl b)
abbrev il (ns : List Int) : List U := ns.map U.int
theorem den_whole (k : Nat) (as : List Slot) : prg.den (k + 1) 0 as = runFn (GG k) f_is_whole as := rfl
theorem den_tof (k : Nat) (as : List Slot) : prg.den (k + 1) 1 as = runFn (GG k) f_is_tuple_of as := rfl
theorem den_pairing (k : Nat) (as : List Slot) : prg.den (k + 1) 2 as = runFn (GG k) f_is_pairing as := rfl
theorem den_rimof (k : Nat) (as : List Slot) : prg.den (k + 1) 3 as = runFn (GG k) f_rim_of as := rfl
theorem den_planar (k : Nat) (as : List Slot) : prg.den (k + 1) 4 as = runFn (GG k) f_is_planar as := rfl
theorem den_joining (k : Nat) (as : List Slot) : prg.den (k + 1) 5 as = runFn (GG k) f_is_joining as := rfl
theorem den_half (k : Nat) (as : List Slot) : prg.den (k + 1) 6 as = runFn (GG k) f_is_half as := rfl
theorem den_cup (k : Nat) (as : List Slot) : prg.den (k + 1) 7 as = runFn (GG k) f_law_cup as := rfl
theorem den_roll (k : Nat) (as : List Slot) : prg.den (k + 1) 8 as = runFn (GG k) f_law_roll as := rfl
theorem den_sort (k : Nat) (as : List Slot) : prg.den (k + 1) 9 as = runFn (GG k) f_law_sort as := rfl
theorem den_like (k : Nat) (as : List Slot) : prg.den (k + 1) 10 as = runFn (GG k) f_law_like as := rfl
theorem den_lpair (k : Nat) (as : List Slot) : prg.den (k + 1) 11 as = runFn (GG k) f_law_pairing as := rfl
theorem den_crosses (k : Nat) (as : List Slot) : prg.den (k + 1) 12 as = runFn (GG k) f_law_crosses as := rfl
theorem den_rim (k : Nat) (as : List Slot) : prg.den (k + 1) 13 as = runFn (GG k) f_law_rim as := rfl
theorem den_right (k : Nat) (as : List Slot) : prg.den (k + 1) 14 as = runFn (GG k) f_law_right as := rfl
theorem den_law (k : Nat) (as : List Slot) : prg.den (k + 1) 18 as = runFn (GG k) f_law as := rfl
/-- a roll of 0 .. m - 1 -/
theorem roll (k : Nat) (a b m : Int) (ha : 0 ≤ a) (hb : 0 ≤ b) (hm : 0 < m) (hm2 : m < 1073741824) : ∃ r a' b', 0 ≤ r ∧ r < m ∧ 0 ≤ a' ∧ 0 ≤ b' ∧ prg.den (k + 1) 8 [.own (.lst [.int a, .int b]) true, iv m] = .ok (iv r, [.own (.lst [.int a', .int b']) true, iv m]) := by
  by_cases h : 0 < a
  · refine ⟨a % m, a / m, b, Int.emod_nonneg _ (by omega), Int.emod_lt_of_pos _ hm, Int.ediv_nonneg ha (by omega), hb, ?_⟩
    rw [den_roll]
    simp [evL, evI, look, looks, frz, frzs, put, U.tru, cmpF, opF, bltF, keepF, subF, subE, ownB, ownL, appE, idxF, atU, istF, inF, slcF, runFn, f_law_roll, L2.atI, L2.ixN, outsF, hm, h, divOk, hm2]
  · refine ⟨(b * 20161 + 42299) % 1048576 / 127 % m, a, (b * 20161 + 42299) % 1048576, Int.emod_nonneg _ (by omega), Int.emod_lt_of_pos _ hm, ha, by omega, ?_⟩
    rw [den_roll]
    simp [evL, evI, look, looks, frz, frzs, put, U.tru, cmpF, opF, bltF, keepF, subF, subE, ownB, ownL, appE, idxF, atU, istF, inF, slcF, runFn, f_law_roll, L2.atI, L2.ixN, outsF, hm, h, divOk, hm2, mulOk]
theorem whole (k : Nat) (i lo hi : Int) : prg.den (k + 1) 0 [iv i, iv lo, iv hi] = .ok (bv (decide (lo ≤ i ∧ i ≤ hi)), [iv i, iv lo, iv hi]) := by
  rw [den_whole]
  by_cases h1 : lo ≤ i <;> simp [evL, evI, look, looks, frz, frzs, put, U.tru, cmpF, opF, bltF, keepF, subF, subE, ownB, ownL, appE, idxF, atU, istF, inF, slcF, runFn, f_is_whole, outsF, h1]
theorem tof (k : Nat) (us : List U) (lo hi : Int) : prg.den (k + 1) 1 [.val (.tup us), iv lo, iv hi] = .ok (bv (decide (lo ≤ us.length ∧ us.length ≤ hi)), [.val (.tup us), iv lo, iv hi]) := by
  rw [den_tof]
  by_cases h1 : lo ≤ us.length <;> simp [evL, evI, look, looks, frz, frzs, put, U.tru, cmpF, opF, bltF, keepF, subF, subE, ownB, ownL, appE, idxF, atU, istF, inF, slcF, runFn, f_is_tuple_of, outsF, h1]
theorem tof_lst (k : Nat) (us : List U) (lo hi : Int) : prg.den (k + 1) 1 [.val (.lst us), iv lo, iv hi] = .ok (bv false, [.val (.lst us), iv lo, iv hi]) := by
  rw [den_tof]
  simp [evL, evI, look, looks, frz, frzs, put, U.tru, cmpF, opF, bltF, keepF, subF, subE, ownB, ownL, appE, idxF, atU, istF, inF, slcF, runFn, f_is_tuple_of, outsF]
theorem like (k : Nat) (a b : Bool) : prg.den (k + 2) 10 [bv a, bv b] = .ok (bv (a == b), [bv a, bv b]) := by
  cases a <;> cases b <;> rfl
theorem like3 (k : Nat) (a b : Bool) : prg.den (k + 3) 10 [.val (.lst [.bl a, .bl false, .bl false]), .val (.lst [.bl b, .bl false, .bl false])] = .ok (bv (a == b), [.val (.lst [.bl a, .bl false, .bl false]), .val (.lst [.bl b, .bl false, .bl false])]) := by
  cases a <;> cases b <;> rfl
theorem cup (k : Nat) (ns : List Int) (h : ns.length ≤ 63) : ∃ a b, 0 ≤ a ∧ 0 ≤ b ∧ prg.den (k + 1) 7 [.val (.scr (il ns))] = .ok (.own (.lst [.int a, .int b]) false, [.val (.scr (il ns))]) := by
  rw [den_cup]
  cases ns with
  | nil => exact ⟨0, 91571, by omega, by omega, rfl⟩
  | cons n r =>
    have hl : r.length + 1 + 1 ≤ sizeLine := by simp [evL, evI, look, looks, frz, frzs, put, U.tru, cmpF, opF, bltF, keepF, subF, subE, ownB, ownL, appE, idxF, atU, istF, inF, slcF] at h; show _ ≤ 16777216; omega
    have hc : ∀ c : Int, 0 ≤ c → ∃ a b, 0 ≤ a ∧ 0 ≤ b ∧ a = (if 10 ^ 18 ≤ c then c / 293 else 0) ∧ b = (c * 1069 + 91571) % 1048576 := fun c hc => ⟨_, _, by split; exact Int.ediv_nonneg hc (by omega); omega, by omega, rfl, rfl⟩
    obtain ⟨a, b, h1, h2, h3, h4⟩ := hc (if n < 0 then -n else n) (by split <;> omega)
    refine ⟨a, b, h1, h2, ?_⟩
    have e18 : (10 : Int) ^ 18 = 1000000000000000000 := by decide
    have hz : (2 : Nat) ≤ sizeLine := by decide
    have h0 : (0 : Int) < (r.length : Int) + 1 + 1 := by omega
    have hz1 : (1 : Nat) ≤ sizeLine := by decide
    by_cases c : (1000000000000000000 : Int) ≤ (if n < 0 then -n else n)
    · simp [evL, evI, look, looks, frz, frzs, put, U.tru, cmpF, opF, bltF, keepF, subF, subE, ownB, ownL, appE, idxF, atU, istF, inF, slcF, runFn, f_law_cup, L2.atI, L2.ixN, outsF, divOk, mulOk, hl, hz, hz1, h0, h3, h4, c]

    · simp [evL, evI, look, looks, frz, frzs, put, U.tru, cmpF, opF, bltF, keepF, subF, subE, ownB, ownL, appE, idxF, atU, istF, inF, slcF, runFn, f_law_cup, L2.atI, L2.ixN, outsF, divOk, mulOk, hl, hz, hz1, h0, h3, h4, c]

end K02
end
section
set_option Elab.async false
set_option linter.all false
set_option maxRecDepth 100000
namespace K02
open PF PySem

@[simp] theorem atI_cast {xs : List U} {p : Nat} : L2.atI xs (p : Int) = xs[p]? := by
  unfold L2.atI L2.ixN
  rw [if_pos (by omega)]
  split
  · simp [evL, evI, look, looks, frz, frzs, put, U.tru, cmpF, opF, bltF, keepF, subF, subE, ownB, ownL, appE, idxF, atU, istF, inF, slcF]
  · rename_i h
    rw [List.getElem?_eq_none (by omega)]
    rfl
@[simp] theorem atI_zero {xs : List U} : L2.atI xs 0 = xs[0]? := atI_cast (p := 0)
@[simp] theorem atI_one {xs : List U} : L2.atI xs 1 = xs[1]? := atI_cast (p := 1)
theorem atI_last {xs : List U} (h : xs ≠ []) : L2.atI xs (-1) = xs.getLast? := by
  unfold L2.atI L2.ixN
  have hl := List.length_pos_iff.mpr h
  rw [if_neg (by omega), if_pos (by omega), List.getLast?_eq_getElem?]
  show xs[((-1 : Int) + xs.length).toNat]? = _
  congr 1
  omega
def nl (ns : List Nat) : List U := ns.map fun (n : Nat) => U.int (n : Int)
theorem nl_get {ns : List Nat} {p : Nat} (h : p < ns.length) : (nl ns)[p]? = some (.int (ns[p] : Nat)) := by simp [evL, evI, look, looks, frz, frzs, put, U.tru, cmpF, opF, bltF, keepF, subF, subE, ownB, ownL, appE, idxF, atU, istF, inF, slcF, nl, List.getElem?_eq_getElem h]
@[simp] theorem nl_length {ns : List Nat} : (nl ns).length = ns.length := by simp [evL, evI, look, looks, frz, frzs, put, U.tru, cmpF, opF, bltF, keepF, subF, subE, ownB, ownL, appE, idxF, atU, istF, inF, slcF, nl]
@[simp] theorem nl_snoc {ns : List Nat} {p : Nat} : nl ns ++ [U.int (p : Int)] = nl (ns ++ [p]) := by simp [evL, evI, look, looks, frz, frzs, put, U.tru, cmpF, opF, bltF, keepF, subF, subE, ownB, ownL, appE, idxF, atU, istF, inF, slcF, nl]
@[simp] theorem nl_init {ns : List Nat} : (nl ns).dropLast = nl ns.dropLast := by simp [evL, evI, look, looks, frz, frzs, put, U.tru, cmpF, opF, bltF, keepF, subF, subE, ownB, ownL, appE, idxF, atU, istF, inF, slcF, nl, List.map_dropLast]
@[simp] theorem nl_empty {ns : List Nat} : (nl ns).isEmpty = ns.isEmpty := by cases ns <;> rfl
theorem nl_nil : nl [] = [] := rfl
theorem nl_one {p : Nat} : nl [p] = [U.int (p : Int)] := rfl
theorem nl_ne {ns : List Nat} (h : ns ≠ []) : nl ns ≠ [] := by cases ns <;> simp [evL, evI, look, looks, frz, frzs, put, U.tru, cmpF, opF, bltF, keepF, subF, subE, ownB, ownL, appE, idxF, atU, istF, inF, slcF, nl] at *
theorem nl_last {ns : List Nat} {w : Nat} (h : ns.getLast? = some w) : L2.atI (nl ns) (-1) = some (.int (w : Int)) := by
  have : ns ≠ [] := by rintro rfl; cases h
  rw [atI_last (nl_ne this)]
  simp [evL, evI, look, looks, frz, frzs, put, U.tru, cmpF, opF, bltF, keepF, subF, subE, ownB, ownL, appE, idxF, atU, istF, inF, slcF, nl, h]
theorem dep_nl (ns : List Nat) : U.deps (nl ns) = 0 := by
  induction ns with
  | nil => rfl
  | cons n r ih => simp only [nl, List.map_cons, U.deps, U.dep] at ih ⊢; rw [ih]; rfl
@[simp] theorem data_nl (ns : List Nat) : (U.lst (nl ns)).data = true := by simp [evL, evI, look, looks, frz, frzs, put, U.tru, cmpF, opF, bltF, keepF, subF, subE, ownB, ownL, appE, idxF, atU, istF, inF, slcF, U.data, U.dep, dep_nl]
@[simp] theorem data_nil : (U.lst []).data = true := rfl
@[simp] theorem data_int (i : Int) : (U.int i).data = true := rfl
@[simp] theorem eq_int (i j : Int) : U.eq (.int i) (.int j) = (i == j) := by simp [evL, evI, look, looks, frz, frzs, put, U.tru, cmpF, opF, bltF, keepF, subF, subE, ownB, ownL, appE, idxF, atU, istF, inF, slcF, U.eq]
@[simp] theorem eq_nil (ns : List Nat) : U.eq (.lst (nl ns)) (.lst []) = ns.isEmpty := by cases ns <;> simp [evL, evI, look, looks, frz, frzs, put, U.tru, cmpF, opF, bltF, keepF, subF, subE, ownB, ownL, appE, idxF, atU, istF, inF, slcF, nl, U.eq, U.eqs]
theorem eq_nil2 : U.eq (.lst []) (.lst []) = true := rfl
theorem cut_init {xs : List U} : cutU xs none (some (-1)) = xs.dropLast := by
  unfold cutU
  have e1 : HT.sIx xs.length 0 none = 0 := rfl
  have e2 : HT.sIx xs.length xs.length (some (-1)) = xs.length - 1 := by
    show (if (-1 : Int) < 0 then ((-1 : Int) + (xs.length : Int)).toNat else min (-1 : Int).toNat xs.length) = xs.length - 1
    rw [if_pos (by decide)]
    omega
  rw [e1, e2, List.dropLast_eq_take]
  simp [evL, evI, look, looks, frz, frzs, put, U.tru, cmpF, opF, bltF, keepF, subF, subE, ownB, ownL, appE, idxF, atU, istF, inF, slcF]
theorem s1 {n : Nat} (h : n ≤ 2000) : n ≤ sizeLine := Nat.le_trans h (by decide)
abbrev planarB : S := (.seq (.iff (.cmp .eq (.idx (.var 0) (.var 3)) (.var 3)) (.seq (.iff (.cmp .ne (.var 2) (.lst .nil)) (.seq (.ret (.con (.bl false))) .nil) .nil) .nil) (.seq (.iff (.and (.cmp .ne (.var 2) (.lst .nil)) (.cmp .eq (.idx (.var 2) (.neg (.con (.int 1)))) (.idx (.var 0) (.var 3)))) (.seq (.set 2 (.slc (.var 2) .nil (.neg (.con (.int 1))))) .nil) (.seq (.set 2 (.bin .add (.var 2) (.lst (.cons (.var 3) .nil)))) .nil)) .nil)) .nil)
def lk (ms : List Nat) (p : Nat) : Nat := ms.getD p 0
theorem planar_turn (k : Nat) (ms : List Nat) (rv : Slot) (ws : List Nat) (p : Nat) (hp : p < ms.length) (hz : ws.length ≤ 1000) :
    exS (GG k) planarB [.val (.tup (nl ms)), rv, .val (.lst (nl ws)), iv p] =
    if lk ms p = p then (if ws = [] then .ok (.nx, [.val (.tup (nl ms)), rv, .val (.lst (nl ws)), iv p]) else .ok (.rt (bv false), [.val (.tup (nl ms)), rv, .val (.lst (nl ws)), iv p]))
    else if ws.getLast? = some (lk ms p) then .ok (.nx, [.val (.tup (nl ms)), rv, .val (.lst (nl ws.dropLast)), iv p]) else .ok (.nx, [.val (.tup (nl ms)), rv, .val (.lst (nl (ws ++ [p]))), iv p]) := by
  have e1 : (nl ms)[p]? = some (.int (lk ms p : Nat)) := by rw [nl_get hp]; simp [evL, evI, look, looks, frz, frzs, put, U.tru, cmpF, opF, bltF, keepF, subF, subE, ownB, ownL, appE, idxF, atU, istF, inF, slcF, lk, List.getElem?_eq_getElem hp]
  have z0 : (0 : Nat) ≤ sizeLine := Nat.zero_le _
  have z1 : (1 : Nat) ≤ sizeLine := by decide
  have hw : ws.length + 1 ≤ sizeLine := s1 (by omega)
  by_cases c1 : lk ms p = p
  · have c1' : ((lk ms p : Nat) : Int) = p := by rw [c1]
    by_cases c2 : ws = []
    · subst c2
      simp [evL, evI, look, looks, frz, frzs, put, U.tru, cmpF, opF, bltF, keepF, subF, subE, ownB, ownL, appE, idxF, atU, istF, inF, slcF, storeU, e1, c1, c1', z0, eq_nil2, nl_nil]
    · have c3 : ws.isEmpty = false := by simpa using c2
      simp [evL, evI, look, looks, frz, frzs, put, U.tru, cmpF, opF, bltF, keepF, subF, subE, ownB, ownL, appE, idxF, atU, istF, inF, slcF, storeU, e1, c1, c1', z0, c2, c3]
  · have c1' : ((lk ms p : Nat) : Int) ≠ p := fun z => c1 (by omega)
    by_cases c2 : ws = []
    · subst c2
      simp [evL, evI, look, looks, frz, frzs, put, U.tru, cmpF, opF, bltF, keepF, subF, subE, ownB, ownL, appE, idxF, atU, istF, inF, slcF, storeU, e1, c1, c1', z0, z1, eq_nil2, nl_nil, nl_one]
    · have c3 : ws.isEmpty = false := by simpa using c2
      obtain ⟨w, hw2⟩ : ∃ w, ws.getLast? = some w := ⟨ws.getLast c2, List.getLast?_eq_some_getLast c2⟩
      have hl := nl_last hw2
      by_cases c4 : w = lk ms p
      · have c4' : ((w : Nat) : Int) = (lk ms p : Nat) := by rw [c4]
        simp [evL, evI, look, looks, frz, frzs, put, U.tru, cmpF, opF, bltF, keepF, subF, subE, ownB, ownL, appE, idxF, atU, istF, inF, slcF, storeU, e1, c1, c1', z0, hl, cut_init, c3, c4, c4', hw2, slcF]
      · have c4' : ((w : Nat) : Int) ≠ (lk ms p : Nat) := fun z => c4 (by omega)
        simp [evL, evI, look, looks, frz, frzs, put, U.tru, cmpF, opF, bltF, keepF, subF, subE, ownB, ownL, appE, idxF, atU, istF, inF, slcF, storeU, e1, c1, c1', z0, z1, hl, cut_init, c3, c4, c4', hw, hw2]
end K02
end
section
set_option Elab.async false
set_option linter.all false
set_option maxRecDepth 100000
namespace K02
open PF PySem

/-- a name's place in a loop: empty or an int -/
def isv (s : Slot) : Prop := s = .emp ∨ ∃ u, s = .val u
theorem put_isv {env : En} {i : Nat} {s : Slot} {t : Slot} (h : env[i]? = some s) (hs : isv s) : put env i t = some (env.set i t) := by
  unfold put
  rcases hs with rfl | ⟨u, rfl⟩ <;> rw [h]
theorem planar_go (k : Nat) (ms : List Nat) (rv : Slot) : ∀ (rs ws : List Nat) (pv : Slot), isv pv → (∀ p ∈ rs, p < ms.length) → ws.length + rs.length ≤ 1000 →
    (∀ ws', scan (lk ms) rs ws = some ws' → ∃ pv', forGo (fun x env => (Res.of (storeU (.tnm 3) x env)).bind fun env => exS (GG k) planarB env) (nl rs) [.val (.tup (nl ms)), rv, .val (.lst (nl ws)), pv] = .ok (.nx, [.val (.tup (nl ms)), rv, .val (.lst (nl ws')), pv'])) ∧
    (scan (lk ms) rs ws = none → ∃ w pv', forGo (fun x env => (Res.of (storeU (.tnm 3) x env)).bind fun env => exS (GG k) planarB env) (nl rs) [.val (.tup (nl ms)), rv, .val (.lst (nl ws)), pv] = .ok (.rt (bv false), [.val (.tup (nl ms)), rv, w, pv'])) := by
  intro rs
  induction rs with
  | nil =>
    intro ws pv _ _ _
    refine ⟨fun ws' h => ?_, fun h => by simp [evL, evI, look, looks, frz, frzs, put, U.tru, cmpF, opF, bltF, keepF, subF, subE, ownB, ownL, appE, idxF, atU, istF, inF, slcF, scan] at h⟩
    simp only [scan, Option.some.injEq] at h
    subst h
    exact ⟨pv, rfl⟩
  | cons p r ih =>
    intro ws pv hv hp hz
    have hz' : ws.length + (r.length + 1) ≤ 1000 := by simpa using hz
    have t := planar_turn k ms rv ws p (hp p (by simp [evL, evI, look, looks, frz, frzs, put, U.tru, cmpF, opF, bltF, keepF, subF, subE, ownB, ownL, appE, idxF, atU, istF, inF, slcF])) (by omega)
    have st : storeU (.tnm 3) (.int (p : Int)) [.val (.tup (nl ms)), rv, .val (.lst (nl ws)), pv] = some [.val (.tup (nl ms)), rv, .val (.lst (nl ws)), iv p] := by
      unfold storeU
      rw [put_isv (s := pv) rfl hv]
      rfl
    have e : nl (p :: r) = .int (p : Int) :: nl r := rfl
    have hp' : ∀ q ∈ r, q < ms.length := fun q hq => hp q (by simp [evL, evI, look, looks, frz, frzs, put, U.tru, cmpF, opF, bltF, keepF, subF, subE, ownB, ownL, appE, idxF, atU, istF, inF, slcF, hq])
    have hi : isv (iv p) := .inr ⟨_, rfl⟩
    rw [e]
    unfold forGo scan
    rw [st]
    simp only [Res.of_some, Res.bind_ok]
    rw [t]
    by_cases c1 : lk ms p = p
    · rw [if_pos c1, if_pos c1]
      by_cases c2 : ws = []
      · rw [if_pos c2, if_pos c2]
        exact ih ws (iv p) hi hp' (by omega)
      · rw [if_neg c2, if_neg c2]
        exact ⟨fun ws' h => (by cases h), fun _ => ⟨_, _, rfl⟩⟩
    · rw [if_neg c1, if_neg c1]
      by_cases c2 : ws.getLast? = some (lk ms p)
      · rw [if_pos c2, if_pos c2]
        exact ih ws.dropLast (iv p) hi hp' (by simp [evL, evI, look, looks, frz, frzs, put, U.tru, cmpF, opF, bltF, keepF, subF, subE, ownB, ownL, appE, idxF, atU, istF, inF, slcF]; omega)
      · rw [if_neg c2, if_neg c2]
        exact ih (ws ++ [p]) (iv p) hi hp' (by simp [evL, evI, look, looks, frz, frzs, put, U.tru, cmpF, opF, bltF, keepF, subF, subE, ownB, ownL, appE, idxF, atU, istF, inF, slcF]; omega)
theorem planar (k : Nat) (ms rs : List Nat) (hp : ∀ p ∈ rs, p < ms.length) (hz : rs.length ≤ 1000) :
    prg.den (k + 1) 4 [.val (.tup (nl ms)), .val (.lst (nl rs))] = .ok (bv (decide (scan (lk ms) rs [] = some [])), [.val (.tup (nl ms)), .val (.lst (nl rs))]) := by
  rw [den_planar]
  obtain ⟨h1, h2⟩ := planar_go k ms (.val (.lst (nl rs))) rs [] .emp (.inl rfl) hp (by simpa using hz)
  have z0 : (0 : Nat) ≤ sizeLine := Nat.zero_le _
  have hf : exS (GG k) (.for_ (.tnm 3) (.itr .plain (.cons (.var 1) .nil)) planarB) [.val (.tup (nl ms)), .val (.lst (nl rs)), .val (.lst []), .emp] =
      forGo (fun x env => (Res.of (storeU (.tnm 3) x env)).bind fun env => exS (GG k) planarB env) (nl rs) [.val (.tup (nl ms)), .val (.lst (nl rs)), .val (.lst []), .emp] := by
    rw [exS_for_, show evI (GG k) (.itr .plain (.cons (.var 1) .nil)) [.val (.tup (nl ms)), .val (.lst (nl rs)), .val (.lst []), .emp] = .ok (nl rs, [.val (.tup (nl ms)), .val (.lst (nl rs)), .val (.lst []), .emp]) by simp [evL, evI, look, looks, frz, frzs, put, U.tru, cmpF, opF, bltF, keepF, subF, subE, ownB, ownL, appE, idxF, atU, istF, inF, slcF, itF]]
    rfl
  rw [nl_nil] at h1 h2
  cases e : scan (lk ms) rs [] with
  | none =>
    obtain ⟨w, pv, h⟩ := h2 e
    rw [h] at hf
    simp [evL, evI, look, looks, frz, frzs, put, U.tru, cmpF, opF, bltF, keepF, subF, subE, ownB, ownL, appE, idxF, atU, istF, inF, slcF, runFn, f_is_planar, z0, hf, outsF]
  | some ws =>
    obtain ⟨pv, h⟩ := h1 ws e
    rw [h] at hf
    simp [evL, evI, look, looks, frz, frzs, put, U.tru, cmpF, opF, bltF, keepF, subF, subE, ownB, ownL, appE, idxF, atU, istF, inF, slcF, runFn, f_is_planar, z0, hf, outsF]
    cases ws <;> simp [evL, evI, look, looks, frz, frzs, put, U.tru, cmpF, opF, bltF, keepF, subF, subE, ownB, ownL, appE, idxF, atU, istF, inF, slcF]
end K02
end
section
set_option Elab.async false
set_option linter.all false
set_option maxRecDepth 100000
namespace K02
open PF PySem
@[simp] theorem md0 : prg.modes 0 = some [false, false, false] := rfl
@[simp] theorem md1 : prg.modes 1 = some [false, false, false] := rfl
@[simp] theorem md2 : prg.modes 2 = some [false, false] := rfl
@[simp] theorem md3 : prg.modes 3 = some [false, false] := rfl
@[simp] theorem md4 : prg.modes 4 = some [false, false] := rfl
@[simp] theorem md5 : prg.modes 5 = some [false] := rfl
@[simp] theorem md6 : prg.modes 6 = some [false] := rfl
@[simp] theorem md7 : prg.modes 7 = some [false] := rfl
@[simp] theorem md8 : prg.modes 8 = some [true, false] := rfl
@[simp] theorem md9 : prg.modes 9 = some [false] := rfl
@[simp] theorem md10 : prg.modes 10 = some [false, false] := rfl
@[simp] theorem md11 : prg.modes 11 = some [true, false, false] := rfl
@[simp] theorem md12 : prg.modes 12 = some [false, false] := rfl
@[simp] theorem md13 : prg.modes 13 = some [false, false] := rfl
@[simp] theorem md14 : prg.modes 14 = some [true] := rfl
@[simp] theorem md16 : prg.modes 16 = some [] := rfl
@[simp] theorem md17 : prg.modes 17 = some [] := rfl
@[simp] theorem cst0 : prg.cst = [.int 16] := rfl
/-- mates that are mates of one another -/
structure Valid (ms : List Nat) : Prop where
  lt : ∀ p, p < ms.length → lk ms p < ms.length
  inv : ∀ p, p < ms.length → lk ms (lk ms p) = p
theorem nl_mem {ms : List Nat} {x : U} (h : x ∈ nl ms) : ∃ p, p ∈ ms ∧ x = .int (p : Int) := by
  unfold nl at h
  obtain ⟨p, h1, rfl⟩ := List.mem_map.mp h
  exact ⟨p, h1, rfl⟩
theorem lk_mem {ms : List Nat} {p : Nat} (h : p ∈ ms) : ∃ i, i < ms.length ∧ p = lk ms i := by
  obtain ⟨i, hi, e⟩ := List.getElem_of_mem h
  exact ⟨i, hi, by simp [evL, evI, look, looks, frz, frzs, put, U.tru, cmpF, opF, bltF, keepF, subF, subE, ownB, ownL, appE, idxF, atU, istF, inF, slcF, callD, argsF, backF, borrows, lk, List.getElem?_eq_getElem hi, e]⟩
theorem nl_lk {ms : List Nat} {p : Nat} (hp : p < ms.length) : (nl ms)[p]? = some (.int (lk ms p : Nat)) := by
  rw [nl_get hp]; simp [evL, evI, look, looks, frz, frzs, put, U.tru, cmpF, opF, bltF, keepF, subF, subE, ownB, ownL, appE, idxF, atU, istF, inF, slcF, callD, argsF, backF, borrows, lk, List.getElem?_eq_getElem hp]
abbrev c1E : E := (.call 0 (.cons (.var 2) (.cons (.con (.int 0)) (.cons (.bin .sub (.blt .len (.cons (.var 0) .nil)) (.con (.int 1))) .nil))))
theorem bls_true {α : Type} (f : α → U) (h : ∀ x, f x = .bl true) : ∀ xs : List α, U.bls (xs.map f) = some (xs.map fun _ => true)
  | [] => rfl
  | x :: r => by rw [List.map_cons, h x]; simp [evL, evI, look, looks, frz, frzs, put, U.tru, cmpF, opF, bltF, keepF, subF, subE, ownB, ownL, appE, idxF, atU, istF, inF, slcF, callD, argsF, backF, borrows, U.bls, bls_true f h r]
theorem enum_mem : ∀ {xs : List U} {n : Nat} {x : U}, x ∈ enumU n xs → ∃ i u, xs[i]? = some u ∧ x = .tup [.int ((n + i : Nat) : Int), u]
  | [], n, x, h => by simp [evL, evI, look, looks, frz, frzs, put, U.tru, cmpF, opF, bltF, keepF, subF, subE, ownB, ownL, appE, idxF, atU, istF, inF, slcF, callD, argsF, backF, borrows, enumU] at h
  | y :: r, n, x, h => by
    rcases List.mem_cons.mp h with rfl | h
    · exact ⟨0, y, rfl, rfl⟩
    · obtain ⟨i, u, h1, h2⟩ := enum_mem h
      exact ⟨i + 1, u, by simpa using h1, by rw [h2, show n + 1 + i = n + (i + 1) by omega]⟩
theorem pairing (k : Nat) (ms : List Nat) (hv : Valid ms) (hl : ms.length ≤ 16) : prg.den (k + 2) 2 [.val (.tup (nl ms)), iv 16] = .ok (bv true, [.val (.tup (nl ms)), iv 16]) := by
  rw [den_pairing]
  have h1 : evE (GG (k + 1)) (.cmp1 [2] (.tnm 2) (.itr .plain (.cons (.var 0) .nil)) .nil c1E) [.val (.tup (nl ms)), iv 16, .emp, .emp] = .ok (.own (.lst ((nl ms).map fun _ => .bl true)) false, [.val (.tup (nl ms)), iv 16, .emp, .emp]) := by
    refine comp_map (env1 := [.val (.tup (nl ms)), iv 16, .emp, .emp]) (by simp [evL, evI, look, looks, frz, frzs, put, U.tru, cmpF, opF, bltF, keepF, subF, subE, ownB, ownL, appE, idxF, atU, istF, inF, slcF, callD, argsF, backF, borrows, itF]) (by simp [evL, evI, look, looks, frz, frzs, put, U.tru, cmpF, opF, bltF, keepF, subF, subE, ownB, ownL, appE, idxF, atU, istF, inF, slcF, callD, argsF, backF, borrows, okS]) (fun x hx => ?_) (by rw [nl_length]; exact s1 (by omega)) (by simp [evL, evI, look, looks, frz, frzs, put, U.tru, cmpF, opF, bltF, keepF, subF, subE, ownB, ownL, appE, idxF, atU, istF, inF, slcF, callD, argsF, backF, borrows, unwipe, wipeE])
    obtain ⟨p, hp, rfl⟩ := nl_mem hx
    obtain ⟨i, hi, rfl⟩ := lk_mem hp
    have := hv.lt i hi
    have q1 : (0 : Int) ≤ (lk ms i : Nat) ∧ ((lk ms i : Nat) : Int) ≤ (ms.length : Int) - 1 := by omega
    simp [evL, evI, look, looks, frz, frzs, put, U.tru, cmpF, opF, bltF, keepF, subF, subE, ownB, ownL, appE, idxF, atU, istF, inF, slcF, callD, argsF, backF, borrows, turnC, storeU, wipeE, whole, q1]
  have h2 : evE (GG (k + 1)) (.cmp1 [2, 3] (.ttp (.cons (.tnm 3) (.cons (.tnm 2) .nil))) (.itr .enum (.cons (.var 0) .nil)) .nil (.cmp .eq (.idx (.var 0) (.var 2)) (.var 3))) [.val (.tup (nl ms)), iv 16, .emp, .emp] = .ok (.own (.lst ((enumU 0 (nl ms)).map fun _ => .bl true)) false, [.val (.tup (nl ms)), iv 16, .emp, .emp]) := by
    refine comp_map (env1 := [.val (.tup (nl ms)), iv 16, .emp, .emp]) (by simp [evL, evI, look, looks, frz, frzs, put, U.tru, cmpF, opF, bltF, keepF, subF, subE, ownB, ownL, appE, idxF, atU, istF, inF, slcF, callD, argsF, backF, borrows, itF]) (by simp [evL, evI, look, looks, frz, frzs, put, U.tru, cmpF, opF, bltF, keepF, subF, subE, ownB, ownL, appE, idxF, atU, istF, inF, slcF, callD, argsF, backF, borrows, okS]) (fun x hx => ?_) (by rw [enumU_length, nl_length]; exact s1 (by omega)) (by simp [evL, evI, look, looks, frz, frzs, put, U.tru, cmpF, opF, bltF, keepF, subF, subE, ownB, ownL, appE, idxF, atU, istF, inF, slcF, callD, argsF, backF, borrows, unwipe, wipeE])
    obtain ⟨i, u, hu, rfl⟩ := enum_mem hx
    have hi : i < ms.length := by have := ltOf hu; simpa using this
    rw [nl_lk hi] at hu
    cases hu
    have e1 := nl_lk (hv.lt i hi)
    rw [hv.inv i hi] at e1
    simp [evL, evI, look, looks, frz, frzs, put, U.tru, cmpF, opF, bltF, keepF, subF, subE, ownB, ownL, appE, idxF, atU, istF, inF, slcF, callD, argsF, backF, borrows, turnC, storeU, wipeE, e1]
  have q2 : (ms.length : Int) ≤ 16 := by omega
  simp [evL, evI, look, looks, frz, frzs, put, U.tru, cmpF, opF, bltF, keepF, subF, subE, ownB, ownL, appE, idxF, atU, istF, inF, slcF, callD, argsF, backF, borrows, runFn, f_is_pairing, tof, q2, h1, h2, bls_true, outsF]
end K02
end
section
set_option Elab.async false
set_option linter.all false
set_option maxRecDepth 100000
namespace K02
open PF PySem
theorem near_nat {n : Nat} (h : n ≤ 2000) : near (n : Int) = true := by
  unfold near
  have a : -(2 : Int) ^ 62 ≤ (n : Int) := by
    have : -(2 : Int) ^ 62 ≤ 0 := by decide
    omega
  have b : (n : Int) < (2 : Int) ^ 62 := by
    have : (2000 : Int) < 2 ^ 62 := by decide
    omega
  simp only [a, b, decide_true, Bool.and_self]
theorem near_sub {n : Nat} (h : n ≤ 2000) : near ((n : Int) - 1) = true := by
  unfold near
  have a : -(2 : Int) ^ 62 ≤ (n : Int) - 1 := by
    have : -(2 : Int) ^ 62 ≤ -1 := by decide
    omega
  have b : (n : Int) - 1 < (2 : Int) ^ 62 := by
    have : (2000 : Int) < 2 ^ 62 := by decide
    omega
  simp only [a, b, decide_true, Bool.and_self]
theorem upU_nl (a : Nat) : upU 0 a = nl (List.range a) := by
  unfold upU nl
  simp [evL, evI, look, looks, frz, frzs, put, U.tru, cmpF, opF, bltF, keepF, subF, subE, ownB, ownL, appE, idxF, atU, istF, inF, slcF, callD, argsF, backF, borrows]
theorem downU_nl (a b : Nat) : downU ((a : Int) + b - 1) ((a : Int) - 1) = nl ((List.range b).map fun i => a + b - 1 - i) := by
  unfold downU nl
  rw [show ((a : Int) + b - 1 - ((a : Int) - 1)).toNat = b by omega, List.map_map]
  apply List.map_congr_left
  intro i hi
  have := List.mem_range.mp hi
  show U.int _ = U.int _
  congr 1
  show (a : Int) + b - 1 + (i : Int) * (-1) = ((a + b - 1 - i : Nat) : Int)
  omega
theorem itr1 (a : Nat) (h : a ≤ 2000) : itF .rng1 [.int (a : Int)] = some (nl (List.range a)) := by
  show (if near (a : Int) then some (upU 0 a) else none) = _
  rw [if_pos (near_nat h), upU_nl]
theorem itr3 (a b : Nat) (h : a + b ≤ 2000) : itF .rng3 [.int ((a : Int) + b - 1), .int ((a : Int) - 1), .int (-1)] = some (nl ((List.range b).map fun i => a + b - 1 - i)) := by
  have n2 := near_sub (n := a + b) (by omega)
  have n3 := near_sub (n := a) (by omega)
  have n2' : near ((a : Int) + b - 1) = true := by rw [← n2]; congr 1
  show (if (near ((a : Int) + b - 1) && near ((a : Int) - 1) && ((-1 : Int) == -1)) = true then some (downU ((a : Int) + b - 1) ((a : Int) - 1)) else none) = _
  rw [n2', n3]
  show some (downU ((a : Int) + b - 1) ((a : Int) - 1)) = _
  rw [downU_nl]
theorem itr_ok {G : Gx} {kk : ItK} {es : E} {env env1 : En} {ws : List Slot} {us xs : List U} (h1 : evL G es env = .ok (ws, env1)) (h2 : frzs ws = some us) (h3 : itF kk us = some xs) : evI G (.itr kk es) env = .ok (xs, env1) := by
  unfold evI
  rw [h1, Res.bind_ok]
  show (Res.of (frzs ws)).bind _ = _
  rw [h2, Res.of_some, Res.bind_ok, h3, Res.of_some, Res.bind_ok]
theorem lrg_ok {G : Gx} {kk : ItK} {es : E} {env env1 : En} {ws : List Slot} {us xs : List U} (h1 : evL G es env = .ok (ws, env1)) (h2 : looks env1 ws = some us) (h3 : itF kk us = some xs) (h4 : xs.length ≤ sizeLine) : evE G (.lrg kk es) env = .ok (.own (.lst xs) false, env1) := by
  rw [evE_lrg, h1, Res.bind_ok]
  show (Res.of (looks env1 ws)).bind _ = _
  rw [h2, Res.of_some, Res.bind_ok, h3, Res.of_some, Res.bind_ok, if_pos h4]
theorem nl_app {xs ys : List Nat} : nl xs ++ nl ys = nl (xs ++ ys) := by simp [evL, evI, look, looks, frz, frzs, put, U.tru, cmpF, opF, bltF, keepF, subF, subE, ownB, ownL, appE, idxF, atU, istF, inF, slcF, callD, argsF, backF, borrows, nl]
def rimL (a b : Nat) : List Nat := List.range a ++ (List.range b).map fun i => a + b - 1 - i
theorem rimL_len (a b : Nat) : (rimL a b).length = a + b := by simp [evL, evI, look, looks, frz, frzs, put, U.tru, cmpF, opF, bltF, keepF, subF, subE, ownB, ownL, appE, idxF, atU, istF, inF, slcF, callD, argsF, backF, borrows, rimL]
theorem rimof (k : Nat) (a b : Nat) (h : a + b ≤ 1000) : prg.den (k + 1) 3 [iv a, iv b] = .ok (.own (.lst (nl (rimL a b))) false, [iv a, iv b]) := by
  rw [den_rimof]
  have e1 : evE (GG k) (.lrg .rng1 (.cons (.var 0) .nil)) [iv a, iv b] = .ok (.own (.lst (nl (List.range a))) false, [iv a, iv b]) :=
    lrg_ok (env1 := [iv a, iv b]) (ws := [iv a]) (us := [.int a]) (by simp [evL, evI, look, looks, frz, frzs, put, U.tru, cmpF, opF, bltF, keepF, subF, subE, ownB, ownL, appE, idxF, atU, istF, inF, slcF, callD, argsF, backF, borrows]) (by simp [evL, evI, look, looks, frz, frzs, put, U.tru, cmpF, opF, bltF, keepF, subF, subE, ownB, ownL, appE, idxF, atU, istF, inF, slcF, callD, argsF, backF, borrows]) (itr1 a (by omega)) (by rw [nl_length, List.length_range]; exact s1 (by omega))
  have e2 : evE (GG k) (.lrg .rng3 (.cons (.bin .sub (.bin .add (.var 0) (.var 1)) (.con (.int 1))) (.cons (.bin .sub (.var 0) (.con (.int 1))) (.cons (.neg (.con (.int 1))) .nil)))) [iv a, iv b] = .ok (.own (.lst (nl ((List.range b).map fun i => a + b - 1 - i))) false, [iv a, iv b]) :=
    lrg_ok (env1 := [iv a, iv b]) (ws := [iv ((a : Int) + b - 1), iv ((a : Int) - 1), iv (-1)]) (us := [.int ((a : Int) + b - 1), .int ((a : Int) - 1), .int (-1)]) (by simp [evL, evI, look, looks, frz, frzs, put, U.tru, cmpF, opF, bltF, keepF, subF, subE, ownB, ownL, appE, idxF, atU, istF, inF, slcF, callD, argsF, backF, borrows]) (by simp [evL, evI, look, looks, frz, frzs, put, U.tru, cmpF, opF, bltF, keepF, subF, subE, ownB, ownL, appE, idxF, atU, istF, inF, slcF, callD, argsF, backF, borrows]) (itr3 a b (by omega)) (by rw [nl_length, List.length_map, List.length_range]; exact s1 (by omega))
  have z : (nl (List.range a)).length + (nl ((List.range b).map fun i => a + b - 1 - i)).length ≤ sizeLine := by
    rw [nl_length, nl_length]
    exact s1 (by simp [evL, evI, look, looks, frz, frzs, put, U.tru, cmpF, opF, bltF, keepF, subF, subE, ownB, ownL, appE, idxF, atU, istF, inF, slcF, callD, argsF, backF, borrows]; omega)
  have e3 : evE (GG k) (.bin .add (.lrg .rng1 (.cons (.var 0) .nil)) (.lrg .rng3 (.cons (.bin .sub (.bin .add (.var 0) (.var 1)) (.con (.int 1))) (.cons (.bin .sub (.var 0) (.con (.int 1))) (.cons (.neg (.con (.int 1))) .nil))))) [iv a, iv b] = .ok (.own (.lst (nl (rimL a b))) false, [iv a, iv b]) := by
    rw [evE_bin, e1, Res.bind_ok]
    simp only
    rw [e2, Res.bind_ok]
    simp only [look, Res.of_some, Res.bind_ok, opF, if_pos z]
    rw [nl_app]
    rfl
  exact run_own (env0 := [iv a, iv b]) (env := [iv a, iv b]) rfl (seq_rt (ret_ok e3 fun i z => by cases z))
theorem s2 {n : Nat} (h : n ≤ 2000) : n < sizeLine := Nat.lt_of_le_of_lt h (by decide)
theorem app_ok {G : Gx} {i : Nat} {e : E} {env env1 env2 : En} {w : Slot} {u : U} (h0 : ownL env i = true) (h : evE G e env = .ok (w, env1)) (h1 : frz w = some u) (h2 : appE env1 i u = some env2) : exS G (.app i e) env = .ok (.nx, env2) := by
  rw [exS_app, if_pos h0, h, Res.bind_ok]
  show (Res.of (frz w)).bind _ = _
  rw [h1, Res.of_some, Res.bind_ok, h2]
  rfl
abbrev rimB : S := (.seq (.app 2 (.bin .sub (.bin .sub (.bin .add (.var 0) (.var 1)) (.con (.int 1))) (.var 3))) .nil)
theorem rim_turn (k : Nat) (a b i : Nat) (L : List U) (hz : L.length < sizeLine) (hi : i < b) : exS (GG k) rimB [iv a, iv b, .own (.lst L) false, iv i] = .ok (.nx, [iv a, iv b, .own (.lst (L ++ [.int ((a + b - 1 - i : Nat) : Int)])) false, iv i]) := by
  have ei : (a : Int) + b - 1 - (i : Int) = ((a + b - 1 - i : Nat) : Int) := by omega
  rw [← ei]
  refine (seq_nx (app_ok (env1 := [iv a, iv b, .own (.lst L) false, iv i]) (w := iv ((a : Int) + b - 1 - (i : Int))) (env2 := [iv a, iv b, .own (.lst (L ++ [.int ((a : Int) + b - 1 - (i : Int))])) false, iv i]) rfl rfl rfl ?_)).trans rfl
  show (if L.length < sizeLine then _ else _) = _
  rw [if_pos hz]
  rfl
theorem rim (k : Nat) (a b : Nat) (h : a + b ≤ 1000) : prg.den (k + 1) 13 [iv a, iv b] = .ok (.own (.lst (nl (rimL a b))) false, [iv a, iv b]) := by
  rw [den_rim]
  have e1 : evE (GG k) (.lrg .rng1 (.cons (.var 0) .nil)) [iv a, iv b, .emp, .emp] = .ok (.own (.lst (nl (List.range a))) false, [iv a, iv b, .emp, .emp]) :=
    lrg_ok (env1 := [iv a, iv b, .emp, .emp]) (ws := [iv a]) (us := [.int a]) (by simp [evL, evI, look, looks, frz, frzs, put, U.tru, cmpF, opF, bltF, keepF, subF, subE, ownB, ownL, appE, idxF, atU, istF, inF, slcF, callD, argsF, backF, borrows]) (by simp [evL, evI, look, looks, frz, frzs, put, U.tru, cmpF, opF, bltF, keepF, subF, subE, ownB, ownL, appE, idxF, atU, istF, inF, slcF, callD, argsF, backF, borrows]) (itr1 a (by omega)) (by rw [nl_length, List.length_range]; exact s1 (by omega))
  have hI : evI (GG k) (.itr .rng1 (.cons (.var 1) .nil)) [iv a, iv b, .own (.lst (nl (List.range a))) false, .emp] = .ok (nl (List.range b), [iv a, iv b, .own (.lst (nl (List.range a))) false, .emp]) := by
    exact itr_ok (us := [.int b]) (ws := [iv b]) (env1 := [iv a, iv b, .own (.lst (nl (List.range a))) false, .emp]) (by simp [evL, evI, look, looks, frz, frzs, put, U.tru, cmpF, opF, bltF, keepF, subF, subE, ownB, ownL, appE, idxF, atU, istF, inF, slcF, callD, argsF, backF, borrows]) (by simp [evL, evI, look, looks, frz, frzs, put, U.tru, cmpF, opF, bltF, keepF, subF, subE, ownB, ownL, appE, idxF, atU, istF, inF, slcF, callD, argsF, backF, borrows]) (itr1 b (by omega))
  obtain ⟨e', h1, pv, h2, h3⟩ := forGo_inv (turn := fun x env => (Res.of (storeU (.tnm 3) x env)).bind fun env => exS (GG k) rimB env)
    (P := fun i e => ∃ pv, isv pv ∧ e = [iv a, iv b, .own (.lst (nl (List.range a ++ (List.range i).map fun i => a + b - 1 - i))) false, pv]) (us := nl (List.range b)) (n := 0) (e := [iv a, iv b, .own (.lst (nl (List.range a))) false, .emp]) ⟨.emp, .inl rfl, by simp⟩ (fun i x e hx ⟨pv, hv, he⟩ => by
      have hi : i < b := by have := ltOf hx; simpa using this
      rw [nl_get (by simpa using hi)] at hx
      simp only [List.getElem_range, Option.some.injEq] at hx
      subst hx he
      have hlen : (List.range a ++ (List.range i).map fun i => a + b - 1 - i).length ≤ 2000 := by simp [evL, evI, look, looks, frz, frzs, put, U.tru, cmpF, opF, bltF, keepF, subF, subE, ownB, ownL, appE, idxF, atU, istF, inF, slcF, callD, argsF, backF, borrows]; omega
      rw [Nat.zero_add]
      have e3 : nl (List.range a ++ (List.range (i + 1)).map fun i => a + b - 1 - i) = nl (List.range a ++ (List.range i).map fun i => a + b - 1 - i) ++ [.int ((a + b - 1 - i : Nat) : Int)] := by
        rw [List.range_succ, List.map_append, ← List.append_assoc, List.map_cons, List.map_nil, ← nl_snoc]
      have zz : (nl (List.range a ++ (List.range i).map fun i => a + b - 1 - i)).length < sizeLine := by rw [nl_length]; exact s2 hlen
      rw [e3]
      generalize nl (List.range a ++ (List.range i).map fun i => a + b - 1 - i) = L at zz
      refine ⟨[iv a, iv b, .own (.lst (L ++ [.int ((a + b - 1 - i : Nat) : Int)])) false, iv i], ?_, iv i, .inr ⟨_, rfl⟩, rfl⟩
      have st : storeU (.tnm 3) (.int (i : Int)) [iv a, iv b, .own (.lst L) false, pv] = some [iv a, iv b, .own (.lst L) false, iv i] := by
        unfold storeU
        rw [put_isv (s := pv) rfl hv]
        rfl
      rw [st, Res.of_some, Res.bind_ok]
      exact rim_turn k a b i L zz hi)
  have hf : exS (GG k) (.for_ (.tnm 3) (.itr .rng1 (.cons (.var 1) .nil)) rimB) [iv a, iv b, .own (.lst (nl (List.range a))) false, .emp] = .ok (.nx, [iv a, iv b, .own (.lst (nl (rimL a b))) false, pv]) := by
    rw [for_run hI, h1, h3, Nat.zero_add, nl_length, List.length_range]
    rfl
  refine run_own (env0 := [iv a, iv b, .emp, .emp]) (env := [iv a, iv b, .emp, pv]) rfl ?_
  show exS (GG k) (.seq (.own 2 (.lrg .rng1 (.cons (.var 0) .nil))) _) _ = _
  rw [seq_nx (ownS_ok (env2 := [iv a, iv b, .own (.lst (nl (List.range a))) false, .emp]) e1 rfl), seq_nx hf]
  exact seq_rt (ret_ok (env1 := [iv a, iv b, .emp, pv]) rfl fun i z => by cases z)
end K02
end
section
set_option Elab.async false
set_option linter.all false
set_option autoImplicit false
set_option maxRecDepth 100000
namespace K02
open PF PySem
open L2 (Key)
theorem call_val {G : Gx} {f : Nat} {es : E} {env env1 env2 : En} {ws as os : List Slot} {md : List Bool} {u : U} (h1 : evL G es env = .ok (ws, env1)) (h2 : G.modes f = some md) (h3 : argsF env1 md ws = some as) (h4 : (borrows ws).Nodup) (h5 : G.den f as = .ok (.val u, os)) (h6 : backF env1 ws os = some env2) :
    evE G (.call f es) env = .ok (.val u, env2) := by
  rw [evE_call, h1, Res.bind_ok]
  show callD G f ws env1 = _
  unfold callD
  rw [h2, Res.of_some, Res.bind_ok, h3, Res.of_some, Res.bind_ok, if_pos h4, h5]
  show (Res.of (backF env1 ws os)).bind _ = _
  rw [h6]
  rfl
theorem call_own {G : Gx} {f : Nat} {es : E} {env env1 env2 : En} {ws as os : List Slot} {md : List Bool} {u : U} (h1 : evL G es env = .ok (ws, env1)) (h2 : G.modes f = some md) (h3 : argsF env1 md ws = some as) (h4 : (borrows ws).Nodup) (h5 : G.den f as = .ok (.own u false, os)) (h6 : backF env1 ws os = some env2) :
    evE G (.call f es) env = .ok (.own u false, env2) := by
  rw [evE_call, h1, Res.bind_ok]
  show callD G f ws env1 = _
  unfold callD
  rw [h2, Res.of_some, Res.bind_ok, h3, Res.of_some, Res.bind_ok, if_pos h4, h5]
  show (Res.of (backF env1 ws os)).bind _ = _
  rw [h6]
  rfl
theorem and_true {G : Gx} {a b : E} {env env1 : En} {p : Slot} {u : U} (h : evE G a env = .ok (p, env1)) (h1 : frz p = some u) (h2 : u.tru = some true) : evE G (.and a b) env = evE G b env1 := by
  rw [evE_and, h, Res.bind_ok]
  show (Res.of (frz p)).bind _ = _
  rw [h1, Res.of_some, Res.bind_ok, h2, Res.of_some, Res.bind_ok, if_pos rfl]
theorem consL_ok {G : Gx} {a r : E} {env env1 env2 : En} {w : Slot} {ws : List Slot} (h : evE G a env = .ok (w, env1)) (h2 : evL G r env1 = .ok (ws, env2)) : evL G (.cons a r) env = .ok (w :: ws, env2) := by
  unfold evL
  rw [h, Res.bind_ok]
  show (evL G r env1).bind _ = _
  rw [h2, Res.bind_ok]
theorem half (k : Nat) (ms : List Nat) (hv : Valid ms) (hl : ms.length ≤ 16) : prg.den (k + 3) 6 [.val (.tup (nl ms))] = .ok (bv (decide (scan (lk ms) (List.range ms.length) [] = some [])), [.val (.tup (nl ms))]) := by
  rw [den_half]
  have e1 : evE (GG (k + 2)) (.call 2 (.cons (.var 0) (.cons (.glc 0) .nil))) [.val (.tup (nl ms))] = .ok (bv true, [.val (.tup (nl ms))]) :=
    call_val (ws := [.val (.tup (nl ms)), iv 16]) (env1 := [.val (.tup (nl ms))]) (by simp [evL, evI, look, looks, frz, frzs, put, U.tru, cmpF, opF, bltF, keepF, subF, subE, ownB, ownL, appE, idxF, atU, istF, inF, slcF, callD, argsF, backF, borrows]) md2 (by simp [evL, evI, look, looks, frz, frzs, put, U.tru, cmpF, opF, bltF, keepF, subF, subE, ownB, ownL, appE, idxF, atU, istF, inF, slcF, callD, argsF, backF, borrows]) (by simp [evL, evI, look, looks, frz, frzs, put, U.tru, cmpF, opF, bltF, keepF, subF, subE, ownB, ownL, appE, idxF, atU, istF, inF, slcF, callD, argsF, backF, borrows]) (pairing k ms hv hl) (by simp [evL, evI, look, looks, frz, frzs, put, U.tru, cmpF, opF, bltF, keepF, subF, subE, ownB, ownL, appE, idxF, atU, istF, inF, slcF, callD, argsF, backF, borrows])
  have e2 : evE (GG (k + 2)) (.lrg .rng1 (.cons (.blt .len (.cons (.var 0) .nil)) .nil)) [.val (.tup (nl ms))] = .ok (.own (.lst (nl (List.range ms.length))) false, [.val (.tup (nl ms))]) :=
    lrg_ok (env1 := [.val (.tup (nl ms))]) (ws := [iv ms.length]) (us := [.int ms.length]) (by simp [evL, evI, look, looks, frz, frzs, put, U.tru, cmpF, opF, bltF, keepF, subF, subE, ownB, ownL, appE, idxF, atU, istF, inF, slcF, callD, argsF, backF, borrows]) (by simp [evL, evI, look, looks, frz, frzs, put, U.tru, cmpF, opF, bltF, keepF, subF, subE, ownB, ownL, appE, idxF, atU, istF, inF, slcF, callD, argsF, backF, borrows]) (itr1 _ (by omega)) (by rw [nl_length, List.length_range]; exact s1 (by omega))
  have e3 : evE (GG (k + 2)) (.call 4 (.cons (.var 0) (.cons (.lrg .rng1 (.cons (.blt .len (.cons (.var 0) .nil)) .nil)) .nil))) [.val (.tup (nl ms))] = .ok (bv (decide (scan (lk ms) (List.range ms.length) [] = some [])), [.val (.tup (nl ms))]) :=
    call_val (ws := [.val (.tup (nl ms)), .own (.lst (nl (List.range ms.length))) false]) (env1 := [.val (.tup (nl ms))]) (as := [.val (.tup (nl ms)), .val (.lst (nl (List.range ms.length)))]) (os := [.val (.tup (nl ms)), .val (.lst (nl (List.range ms.length)))])
      (consL_ok (env1 := [.val (.tup (nl ms))]) (by simp [evL, evI, look, looks, frz, frzs, put, U.tru, cmpF, opF, bltF, keepF, subF, subE, ownB, ownL, appE, idxF, atU, istF, inF, slcF, callD, argsF, backF, borrows]) (consL_ok e2 (by simp [evL, evI, look, looks, frz, frzs, put, U.tru, cmpF, opF, bltF, keepF, subF, subE, ownB, ownL, appE, idxF, atU, istF, inF, slcF, callD, argsF, backF, borrows]))) md4 (by simp [evL, evI, look, looks, frz, frzs, put, U.tru, cmpF, opF, bltF, keepF, subF, subE, ownB, ownL, appE, idxF, atU, istF, inF, slcF, callD, argsF, backF, borrows]) (by simp [evL, evI, look, looks, frz, frzs, put, U.tru, cmpF, opF, bltF, keepF, subF, subE, ownB, ownL, appE, idxF, atU, istF, inF, slcF, callD, argsF, backF, borrows]) (planar (k + 1) ms _ (fun p hp => by simpa using hp) (by simp [evL, evI, look, looks, frz, frzs, put, U.tru, cmpF, opF, bltF, keepF, subF, subE, ownB, ownL, appE, idxF, atU, istF, inF, slcF, callD, argsF, backF, borrows]; omega)) (by simp [evL, evI, look, looks, frz, frzs, put, U.tru, cmpF, opF, bltF, keepF, subF, subE, ownB, ownL, appE, idxF, atU, istF, inF, slcF, callD, argsF, backF, borrows])
  exact run_val (env0 := [.val (.tup (nl ms))]) (env := [.val (.tup (nl ms))]) rfl (seq_rt (ret_ok ((and_true e1 rfl rfl).trans e3) fun i z => by cases z))

def dicL : Nat → List Nat → List (Key × U)
  | _, [] => []
  | n, p :: r => (.inl (p : Int), .int (n : Int)) :: dicL (n + 1) r
theorem dicL_len : ∀ (n : Nat) (rs : List Nat), (dicL n rs).length = rs.length
  | _, [] => rfl
  | n, _ :: r => by simp [evL, evI, look, looks, frz, frzs, put, U.tru, cmpF, opF, bltF, keepF, subF, subE, ownB, ownL, appE, idxF, atU, istF, inF, slcF, callD, argsF, backF, borrows, dicL, dicL_len (n + 1) r]
theorem dicL_snoc : ∀ (n : Nat) (rs : List Nat) (p : Nat), dicL n (rs ++ [p]) = dicL n rs ++ [(.inl (p : Int), .int ((n + rs.length : Nat) : Int))]
  | _, [], _ => rfl
  | n, q :: r, p => by simp [evL, evI, look, looks, frz, frzs, put, U.tru, cmpF, opF, bltF, keepF, subF, subE, ownB, ownL, appE, idxF, atU, istF, inF, slcF, callD, argsF, backF, borrows, dicL, dicL_snoc (n + 1) r p]; omega
theorem key_ne {p q : Nat} : (Sum.inl (p : Int) : Key) = .inl (q : Int) ↔ p = q := ⟨fun h => by have := Sum.inl.inj h; omega, fun h => by rw [h]⟩
theorem dicL_has : ∀ (n : Nat) (rs : List Nat) (p : Nat), ((dicL n rs).any fun kv => decide (kv.1 = .inl (p : Int))) = decide (p ∈ rs)
  | _, [], _ => rfl
  | n, q :: r, p => by
    simp only [dicL, List.any_cons, dicL_has (n + 1) r p, key_ne]
    by_cases h : q = p
    · simp [evL, evI, look, looks, frz, frzs, put, U.tru, cmpF, opF, bltF, keepF, subF, subE, ownB, ownL, appE, idxF, atU, istF, inF, slcF, callD, argsF, backF, borrows, h]
    · have : ¬ p = q := fun z => h z.symm
      simp [evL, evI, look, looks, frz, frzs, put, U.tru, cmpF, opF, bltF, keepF, subF, subE, ownB, ownL, appE, idxF, atU, istF, inF, slcF, callD, argsF, backF, borrows, h, this]
theorem dicL_val : ∀ (n : Nat) (rs : List Nat) (p : Nat), p ∈ rs → valU (dicL n rs) (.inl (p : Int)) = some (.int ((n + rs.idxOf p : Nat) : Int))
  | _, [], _, h => by cases h
  | n, q :: r, p, h => by
    unfold valU
    simp only [dicL, List.find?_cons, key_ne]
    by_cases c : q = p
    · subst c; simp [evL, evI, look, looks, frz, frzs, put, U.tru, cmpF, opF, bltF, keepF, subF, subE, ownB, ownL, appE, idxF, atU, istF, inF, slcF, callD, argsF, backF, borrows]
    · have c' : p ≠ q := fun z => c z.symm
      have h' : p ∈ r := by
        rcases List.mem_cons.mp h with z | z
        · exact (c' z).elim
        · exact z
      have := dicL_val (n + 1) r p h'
      unfold valU at this
      have ei : (q :: r).idxOf p = r.idxOf p + 1 := by rw [List.idxOf_cons, show (q == p) = false by simpa using c]; rfl
      rw [ei]
      simp only [c, decide_false]
      rw [this]
      congr 3
      omega
theorem dicL_put {n : Nat} {rs : List Nat} {p : Nat} (h : p ∉ rs) : putU (dicL n rs) (.inl (p : Int)) (.int ((n + rs.length : Nat) : Int)) = dicL n (rs ++ [p]) := by
  unfold putU
  rw [dicL_has]
  simp only [h, decide_false, Bool.false_eq_true, if_false]
  rw [dicL_snoc]
end K02
end
section
set_option Elab.async false
set_option linter.all false
set_option autoImplicit false
set_option maxRecDepth 100000
set_option maxHeartbeats 0
namespace K02
open PF PySem
open L2 (Key)
/-- a walk that ends at the first bad one -/
theorem forGo_search {turn : U → En → Res (Fl × En)} {w : Slot} (bad : U → Prop) (P Q : En → Prop) : ∀ {us : List U} {e : En}, P e →
    (∀ x ∈ us, ∀ e, P e → (bad x → ∃ e', turn x e = .ok (.rt w, e') ∧ Q e') ∧ (¬ bad x → ∃ e', turn x e = .ok (.nx, e') ∧ P e')) →
    ((∃ x ∈ us, bad x) → ∃ e', forGo turn us e = .ok (.rt w, e') ∧ Q e') ∧ ((¬ ∃ x ∈ us, bad x) → ∃ e', forGo turn us e = .ok (.nx, e') ∧ P e')
  | [], e, h, _ => ⟨fun ⟨x, hx, _⟩ => (by cases hx), fun _ => ⟨e, rfl, h⟩⟩
  | x :: r, e, h, hs => by
    by_cases c : bad x
    · obtain ⟨e', h1, h2⟩ := (hs x (by simp [evL, evI, look, looks, frz, frzs, put, U.tru, cmpF, opF, bltF, keepF, subF, subE, ownB, ownL, appE, idxF, atU, istF, inF, slcF, callD, argsF, backF, borrows, keyF, parF]) e h).1 c
      refine ⟨fun _ => ⟨e', ?_, h2⟩, fun z => (z ⟨x, by simp, c⟩).elim⟩
      unfold forGo
      rw [h1, Res.bind_ok]
    · obtain ⟨e', h1, h2⟩ := (hs x (by simp [evL, evI, look, looks, frz, frzs, put, U.tru, cmpF, opF, bltF, keepF, subF, subE, ownB, ownL, appE, idxF, atU, istF, inF, slcF, callD, argsF, backF, borrows, keyF, parF]) e h).2 c
      obtain ⟨q1, q2⟩ := forGo_search bad P Q (us := r) h2 fun y hy => hs y (by simp [evL, evI, look, looks, frz, frzs, put, U.tru, cmpF, opF, bltF, keepF, subF, subE, ownB, ownL, appE, idxF, atU, istF, inF, slcF, callD, argsF, backF, borrows, keyF, parF, hy])
      have e0 : forGo turn (x :: r) e = forGo turn r e' := by
        conv => lhs; unfold forGo
        rw [h1, Res.bind_ok]
      rw [e0]
      refine ⟨fun ⟨y, hy, hb⟩ => q1 ?_, fun z => q2 fun ⟨y, hy, hb⟩ => z ⟨y, by simp [evL, evI, look, looks, frz, frzs, put, U.tru, cmpF, opF, bltF, keepF, subF, subE, ownB, ownL, appE, idxF, atU, istF, inF, slcF, callD, argsF, backF, borrows, keyF, parF, hy], hb⟩⟩
      rcases List.mem_cons.mp hy with rfl | hy
      · exact (c hb).elim
      · exact ⟨y, hy, hb⟩
abbrev crB1 : S := (.seq (.par (.cons (.tnm 7) (.cons (.tnm 8) .nil)) (.cons (.idx (.bor 2) (.var 5)) (.cons (.idx (.bor 2) (.idx (.var 0) (.var 5))) .nil))) (.seq (.iff (.and (.cmp .lt (.var 7) (.var 8)) (.and (.chn .lt .lt (.var 7) (.idx (.bor 2) (.var 6)) (.var 8)) (.not (.chn .lt .lt (.var 7) (.idx (.bor 2) (.idx (.var 0) (.var 6))) (.var 8))))) (.seq (.ret (.con (.bl true))) .nil) .nil) (.seq (.iff (.and (.cmp .lt (.var 7) (.var 8)) (.and (.cmp .eq (.idx (.var 0) (.var 6)) (.var 6)) (.chn .lt .lt (.var 7) (.idx (.bor 2) (.var 6)) (.var 8)))) (.seq (.ret (.con (.bl true))) .nil) .nil) .nil)))
theorem cross_turn (k : Nat) (M : List U) (R s3 s4 : Slot) (D : List (Key × U)) (one other m1 m2 b e o q : Nat) (s7 s8 : Slot) (h7 : isv s7) (h8 : isv s8)
    (e1 : M[one]? = some (.int (m1 : Int))) (e2 : M[other]? = some (.int (m2 : Int))) (v1 : valU D (.inl (one : Int)) = some (.int (b : Int))) (v2 : valU D (.inl (m1 : Int)) = some (.int (e : Int))) (v3 : valU D (.inl (other : Int)) = some (.int (o : Int))) (v4 : valU D (.inl (m2 : Int)) = some (.int (q : Int))) :
    exS (GG k) crB1 [.val (.tup M), R, .own (.dic D) false, s3, s4, iv one, iv other, s7, s8] =
      if (b < e ∧ (b < o ∧ o < e) ∧ ¬ (b < q ∧ q < e)) ∨ (b < e ∧ m2 = other ∧ (b < o ∧ o < e)) then .ok (.rt (bv true), [.val (.tup M), R, .own (.dic D) false, s3, s4, iv one, iv other, iv b, iv e])
      else .ok (.nx, [.val (.tup M), R, .own (.dic D) false, s3, s4, iv one, iv other, iv b, iv e]) := by
  have p7 : ∀ t, put [.val (.tup M), R, .own (.dic D) false, s3, s4, iv one, iv other, s7, s8] 7 t = some [.val (.tup M), R, .own (.dic D) false, s3, s4, iv one, iv other, t, s8] := fun t => by rw [put_isv (s := s7) rfl h7]; rfl
  have p8 : ∀ u t, put [.val (.tup M), R, .own (.dic D) false, s3, s4, iv one, iv other, u, s8] 8 t = some [.val (.tup M), R, .own (.dic D) false, s3, s4, iv one, iv other, u, t] := fun u t => by rw [put_isv (s := s8) rfl h8]; rfl
  have hpar : exS (GG k) (.par (.cons (.tnm 7) (.cons (.tnm 8) .nil)) (.cons (.idx (.bor 2) (.var 5)) (.cons (.idx (.bor 2) (.idx (.var 0) (.var 5))) .nil))) [.val (.tup M), R, .own (.dic D) false, s3, s4, iv one, iv other, s7, s8] = .ok (.nx, [.val (.tup M), R, .own (.dic D) false, s3, s4, iv one, iv other, iv b, iv e]) := by
    simp [evL, evI, look, looks, frz, frzs, U.tru, cmpF, opF, bltF, keepF, subF, subE, ownB, ownL, appE, idxF, atU, istF, inF, slcF, callD, argsF, backF, borrows, keyF, parF, v1, v2, e1, p7, p8]
  rw [seq_nx hpar]
  by_cases c1 : b < e
  · by_cases c2 : b < o
    · by_cases c3 : o < e
      · by_cases c4 : b < q
        · by_cases c5 : q < e
          · by_cases c6 : m2 = other
            · subst c6; simp [evL, evI, look, looks, frz, frzs, put, U.tru, cmpF, opF, bltF, keepF, subF, subE, ownB, ownL, appE, idxF, atU, istF, inF, slcF, callD, argsF, backF, borrows, keyF, parF, v3, v4, e2, c1, c2, c3, c4, c5]
            · have c6' : (m2 : Int) ≠ (other : Int) := fun z => c6 (by omega)
              simp [evL, evI, look, looks, frz, frzs, put, U.tru, cmpF, opF, bltF, keepF, subF, subE, ownB, ownL, appE, idxF, atU, istF, inF, slcF, callD, argsF, backF, borrows, keyF, parF, v3, v4, e2, c1, c2, c3, c4, c5, c6, c6']
          · simp [evL, evI, look, looks, frz, frzs, put, U.tru, cmpF, opF, bltF, keepF, subF, subE, ownB, ownL, appE, idxF, atU, istF, inF, slcF, callD, argsF, backF, borrows, keyF, parF, v3, v4, e2, c1, c2, c3, c4, c5]
        · simp [evL, evI, look, looks, frz, frzs, put, U.tru, cmpF, opF, bltF, keepF, subF, subE, ownB, ownL, appE, idxF, atU, istF, inF, slcF, callD, argsF, backF, borrows, keyF, parF, v3, v4, e2, c1, c2, c3, c4]
      · by_cases c6 : m2 = other
        · subst c6; simp [evL, evI, look, looks, frz, frzs, put, U.tru, cmpF, opF, bltF, keepF, subF, subE, ownB, ownL, appE, idxF, atU, istF, inF, slcF, callD, argsF, backF, borrows, keyF, parF, v3, v4, e2, c1, c2, c3]
        · have c6' : (m2 : Int) ≠ (other : Int) := fun z => c6 (by omega)
          simp [evL, evI, look, looks, frz, frzs, put, U.tru, cmpF, opF, bltF, keepF, subF, subE, ownB, ownL, appE, idxF, atU, istF, inF, slcF, callD, argsF, backF, borrows, keyF, parF, v3, v4, e2, c1, c2, c3, c6, c6']
    · by_cases c6 : m2 = other
      · subst c6; simp [evL, evI, look, looks, frz, frzs, put, U.tru, cmpF, opF, bltF, keepF, subF, subE, ownB, ownL, appE, idxF, atU, istF, inF, slcF, callD, argsF, backF, borrows, keyF, parF, v3, v4, e2, c1, c2]
      · have c6' : (m2 : Int) ≠ (other : Int) := fun z => c6 (by omega)
        simp [evL, evI, look, looks, frz, frzs, put, U.tru, cmpF, opF, bltF, keepF, subF, subE, ownB, ownL, appE, idxF, atU, istF, inF, slcF, callD, argsF, backF, borrows, keyF, parF, v3, v4, e2, c1, c2, c6, c6']
  · simp [evL, evI, look, looks, frz, frzs, put, U.tru, cmpF, opF, bltF, keepF, subF, subE, ownB, ownL, appE, idxF, atU, istF, inF, slcF, callD, argsF, backF, borrows, keyF, parF, v3, v4, e2, c1]
end K02
end
section
set_option Elab.async false
set_option linter.all false
set_option autoImplicit false
set_option maxRecDepth 100000
namespace K02
open PF PySem
open L2 (Key)
theorem sub_ok {G : Gx} {i : Nat} {ke e : E} {env env1 env2 env3 : En} {w r : Slot} {u x : U} (h : evE G e env = .ok (w, env1)) (h1 : frz w = some u) (h2 : ownB env1 i = true) (h3 : evE G ke env1 = .ok (r, env2)) (h4 : look env2 r = some x) (h5 : subE env2 i x u = some env3) :
    exS G (.sub i ke e) env = .ok (.nx, env3) := by
  rw [exS_sub, h, Res.bind_ok]
  show (Res.of (frz w)).bind _ = _
  rw [h1, Res.of_some, Res.bind_ok, if_pos h2, h3, Res.bind_ok]
  show (Res.of (look env2 r)).bind _ = _
  rw [h4, Res.of_some, Res.bind_ok, h5]
  rfl
theorem enum_nl {rs : List Nat} {i : Nat} {x : U} (h : (enumU 0 (nl rs))[i]? = some x) : ∃ (hi : i < rs.length), x = .tup [.int (i : Int), .int (rs[i] : Nat)] := by
  obtain ⟨w, h1, h2⟩ := enumU_get h
  have hi : i < rs.length := by have := ltOf h1; simpa using this
  rw [nl_get hi] at h1
  cases h1
  exact ⟨hi, by rw [h2, Nat.zero_add]⟩
theorem crosses (k : Nat) (ms rs : List Nat) (nd : rs.Nodup) (hm : ∀ p ∈ rs, p < ms.length) (hin : ∀ p ∈ rs, lk ms p ∈ rs) (hz : rs.length ≤ 1000) :
    ∃ b, prg.den (k + 1) 12 [.val (.tup (nl ms)), .val (.lst (nl rs))] = .ok (bv b, [.val (.tup (nl ms)), .val (.lst (nl rs))]) ∧ (b = true ↔ Cross (lk ms) rs) := by
  rw [den_crosses]
  generalize hM : Slot.val (.tup (nl ms)) = M
  generalize hR : Slot.val (.lst (nl rs)) = R
  -- the dict of places
  obtain ⟨ea, h1, s3, s4, v3, v4, h2⟩ := forGo_inv (turn := fun x env => (Res.of (storeU (.ttp (.cons (.tnm 3) (.cons (.tnm 4) .nil))) x env)).bind fun env => exS (GG k) (.seq (.sub 2 (.var 4) (.var 3)) .nil) env)
    (P := fun i e => ∃ s3 s4, isv s3 ∧ isv s4 ∧ e = [M, R, .own (.dic (dicL 0 (rs.take i))) false, s3, s4, .emp, .emp, .emp, .emp]) (us := enumU 0 (nl rs)) (n := 0) (e := [M, R, .own (.dic []) false, .emp, .emp, .emp, .emp, .emp, .emp]) ⟨.emp, .emp, .inl rfl, .inl rfl, by simp [evL, evI, look, looks, frz, frzs, put, U.tru, cmpF, opF, bltF, keepF, subF, subE, ownB, ownL, appE, idxF, atU, istF, inF, slcF, callD, argsF, backF, borrows, keyF, parF, dicL]⟩ (fun i x e hx ⟨s3, s4, v3, v4, he⟩ => by
      obtain ⟨hi, rfl⟩ := enum_nl hx
      subst he
      rw [Nat.zero_add]
      have st : storeU (.ttp (.cons (.tnm 3) (.cons (.tnm 4) .nil))) (.tup [.int (i : Int), .int (rs[i] : Nat)]) [M, R, .own (.dic (dicL 0 (rs.take i))) false, s3, s4, .emp, .emp, .emp, .emp] = some [M, R, .own (.dic (dicL 0 (rs.take i))) false, iv i, iv (rs[i] : Nat), .emp, .emp, .emp, .emp] := by
        show (put _ 3 _).bind _ = _
        rw [put_isv (s := s3) rfl v3]
        show (put _ 4 _).bind _ = _
        rw [put_isv (s := s4) rfl v4]
        rfl
      rw [st, Res.of_some, Res.bind_ok]
      have hn : rs[i] ∉ rs.take i := fun z => by
        have := ((mem_take nd).mp z).2
        rw [q_get nd hi] at this
        omega
      have hlen : (rs.take i).length = i := by simp [evL, evI, look, looks, frz, frzs, put, U.tru, cmpF, opF, bltF, keepF, subF, subE, ownB, ownL, appE, idxF, atU, istF, inF, slcF, callD, argsF, backF, borrows, keyF, parF]; omega
      have hp := dicL_put (n := 0) hn
      rw [hlen, Nat.zero_add] at hp
      have hz2 : (dicL 0 (rs.take i)).length < sizeLine := by rw [dicL_len]; exact s2 (by omega)
      have htk : rs.take (i + 1) = rs.take i ++ [rs[i]] := by rw [List.take_succ, List.getElem?_eq_getElem hi]; rfl
      rw [← htk] at hp
      generalize dicL 0 (rs.take i) = D at hp hz2
      generalize dicL 0 (rs.take (i + 1)) = D' at hp
      refine ⟨[M, R, .own (.dic D') false, iv i, iv (rs[i] : Nat), .emp, .emp, .emp, .emp], (seq_nx (sub_ok (env1 := [M, R, .own (.dic D) false, iv i, iv (rs[i] : Nat), .emp, .emp, .emp, .emp]) (env2 := [M, R, .own (.dic D) false, iv i, iv (rs[i] : Nat), .emp, .emp, .emp, .emp]) rfl rfl rfl rfl rfl ?_)).trans rfl, iv i, iv (rs[i] : Nat), .inr ⟨_, rfl⟩, .inr ⟨_, rfl⟩, rfl⟩
      show ((if D.length < sizeLine then some (U.dic (putU D (.inl (rs[i] : Nat)) (.int (i : Int)))) else none).map _) = _
      rw [if_pos hz2, hp]
      rfl)
  rw [Nat.zero_add, enumU_length, nl_length, List.take_length] at h2
  have hval : ∀ p ∈ rs, valU (dicL 0 rs) (.inl (p : Int)) = some (.int (rs.idxOf p : Nat)) := fun p hp => by
    have := dicL_val 0 rs p hp
    rwa [Nat.zero_add] at this
  have hf1 : exS (GG k) (.for_ (.ttp (.cons (.tnm 3) (.cons (.tnm 4) .nil))) (.itr .enum (.cons (.var 1) .nil)) (.seq (.sub 2 (.var 4) (.var 3)) .nil)) [M, R, .own (.dic []) false, .emp, .emp, .emp, .emp, .emp, .emp] = .ok (.nx, [M, R, .own (.dic (dicL 0 rs)) false, s3, s4, .emp, .emp, .emp, .emp]) := by
    rw [for_run (itr_ok (env1 := [M, R, .own (.dic []) false, .emp, .emp, .emp, .emp, .emp, .emp]) (ws := [R]) (us := [.lst (nl rs)]) (by subst hR; simp [evL, evI, look, looks, frz, frzs, put, U.tru, cmpF, opF, bltF, keepF, subF, subE, ownB, ownL, appE, idxF, atU, istF, inF, slcF, callD, argsF, backF, borrows, keyF, parF]) (by subst hR; rfl) rfl), h1, h2]
  generalize hD : dicL 0 rs = D at *
  -- the walk over pairs
  have turn : ∀ one ∈ rs, ∀ other ∈ rs, ∀ s7 s8, isv s7 → isv s8 → (viol (lk ms) rs one other → exS (GG k) crB1 [M, R, .own (.dic D) false, s3, s4, iv one, iv other, s7, s8] = .ok (.rt (bv true), [M, R, .own (.dic D) false, s3, s4, iv one, iv other, iv (rs.idxOf one : Nat), iv (rs.idxOf (lk ms one) : Nat)])) ∧
      (¬ viol (lk ms) rs one other → exS (GG k) crB1 [M, R, .own (.dic D) false, s3, s4, iv one, iv other, s7, s8] = .ok (.nx, [M, R, .own (.dic D) false, s3, s4, iv one, iv other, iv (rs.idxOf one : Nat), iv (rs.idxOf (lk ms one) : Nat)])) := fun one h1 other h2 s7 s8 h7 h8 => by
    have t := cross_turn k (nl ms) R s3 s4 D one other _ _ _ _ _ _ s7 s8 h7 h8 (nl_lk (hm one h1)) (nl_lk (hm other h2)) (hval one h1) (hval _ (hin one h1)) (hval other h2) (hval _ (hin other h2))
    rw [hM] at t
    rw [t]
    unfold viol
    exact ⟨fun h => if_pos h, fun h => if_neg h⟩
  have inner : ∀ one ∈ rs, ∀ s6 s7 s8, isv s6 → isv s7 → isv s8 →
      ((∃ x ∈ nl rs, ∃ other : Nat, x = .int ((other : Nat) : Int) ∧ viol (lk ms) rs one other) → ∃ e', forGo (fun x env => (Res.of (storeU (.tnm 6) x env)).bind fun env => exS (GG k) crB1 env) (nl rs) [M, R, .own (.dic D) false, s3, s4, iv one, s6, s7, s8] = .ok (.rt (bv true), e') ∧ ∃ r, e' = M :: R :: r) ∧
      ((¬ ∃ x ∈ nl rs, ∃ other : Nat, x = .int ((other : Nat) : Int) ∧ viol (lk ms) rs one other) → ∃ e', forGo (fun x env => (Res.of (storeU (.tnm 6) x env)).bind fun env => exS (GG k) crB1 env) (nl rs) [M, R, .own (.dic D) false, s3, s4, iv one, s6, s7, s8] = .ok (.nx, e') ∧ ∃ s6 s7 s8, isv s6 ∧ isv s7 ∧ isv s8 ∧ e' = [M, R, .own (.dic D) false, s3, s4, iv one, s6, s7, s8]) := fun one h1 s6 s7 s8 h6 h7 h8 => by
    refine forGo_search (fun x => ∃ other : Nat, x = .int ((other : Nat) : Int) ∧ viol (lk ms) rs one other) (fun e' => ∃ s6 s7 s8, isv s6 ∧ isv s7 ∧ isv s8 ∧ e' = [M, R, .own (.dic D) false, s3, s4, iv one, s6, s7, s8]) (fun e' => ∃ r, e' = M :: R :: r) ⟨s6, s7, s8, h6, h7, h8, rfl⟩ ?_
    rintro x hx e ⟨s6, s7, s8, h6, h7, h8, rfl⟩
    obtain ⟨other, ho, rfl⟩ := nl_mem hx
    have st : storeU (.tnm 6) (.int (other : Int)) [M, R, .own (.dic D) false, s3, s4, iv one, s6, s7, s8] = some [M, R, .own (.dic D) false, s3, s4, iv one, iv other, s7, s8] := by
      show put _ 6 _ = _
      rw [put_isv (s := s6) rfl h6]
      rfl
    rw [st, Res.of_some, Res.bind_ok]
    obtain ⟨t1, t2⟩ := turn one h1 other ho s7 s8 h7 h8
    refine ⟨fun ⟨o2, e2, v⟩ => ?_, fun z => ?_⟩
    · have : o2 = other := by have := U.int.inj e2; omega
      subst this
      exact ⟨_, t1 v, _, rfl⟩
    · exact ⟨_, t2 fun v => z ⟨other, rfl, v⟩, iv other, _, _, .inr ⟨_, rfl⟩, .inr ⟨_, rfl⟩, .inr ⟨_, rfl⟩, rfl⟩
  have outer := forGo_search (turn := fun x env => (Res.of (storeU (.tnm 5) x env)).bind fun env => exS (GG k) (.seq (.for_ (.tnm 6) (.itr .plain (.cons (.var 1) .nil)) crB1) .nil) env) (w := bv true)
    (fun x => ∃ one, x = .int ((one : Nat) : Int) ∧ ∃ y ∈ nl rs, ∃ other, y = .int ((other : Nat) : Int) ∧ viol (lk ms) rs one other) (fun e' => ∃ s5 s6 s7 s8, isv s5 ∧ isv s6 ∧ isv s7 ∧ isv s8 ∧ e' = [M, R, .own (.dic D) false, s3, s4, s5, s6, s7, s8]) (fun e' => ∃ r, e' = M :: R :: r) (us := nl rs)
    (e := [M, R, .own (.dic D) false, s3, s4, .emp, .emp, .emp, .emp]) ⟨.emp, .emp, .emp, .emp, .inl rfl, .inl rfl, .inl rfl, .inl rfl, rfl⟩ (by
      rintro x hx e ⟨s5, s6, s7, s8, h5, h6, h7, h8, rfl⟩
      obtain ⟨one, h1, rfl⟩ := nl_mem hx
      have st : storeU (.tnm 5) (.int (one : Int)) [M, R, .own (.dic D) false, s3, s4, s5, s6, s7, s8] = some [M, R, .own (.dic D) false, s3, s4, iv one, s6, s7, s8] := by
        show put _ 5 _ = _
        rw [put_isv (s := s5) rfl h5]
        rfl
      rw [st, Res.of_some, Res.bind_ok]
      have hI : evI (GG k) (.itr .plain (.cons (.var 1) .nil)) [M, R, .own (.dic D) false, s3, s4, iv one, s6, s7, s8] = .ok (nl rs, [M, R, .own (.dic D) false, s3, s4, iv one, s6, s7, s8]) :=
        itr_ok (ws := [R]) (us := [.lst (nl rs)]) (by subst hR; simp [evL, evI, look, looks, frz, frzs, put, U.tru, cmpF, opF, bltF, keepF, subF, subE, ownB, ownL, appE, idxF, atU, istF, inF, slcF, callD, argsF, backF, borrows, keyF, parF]) (by subst hR; rfl) rfl
      have hrun := for_run (tg := .tnm 6) (b := crB1) hI
      obtain ⟨i1, i2⟩ := inner one h1 s6 s7 s8 h6 h7 h8
      refine ⟨fun ⟨o2, e2, y, hy, v⟩ => ?_, fun z => ?_⟩
      · have : o2 = one := by have := U.int.inj e2; omega
        subst this
        obtain ⟨e', q1, q2⟩ := i1 ⟨y, hy, v⟩
        exact ⟨e', seq_rt (hrun.trans q1), q2⟩
      · obtain ⟨e', q1, s6', s7', s8', g6, g7, g8, q2⟩ := i2 fun ⟨y, hy, v⟩ => z ⟨one, rfl, y, hy, v⟩
        exact ⟨e', (seq_nx (hrun.trans q1)).trans rfl, iv one, s6', s7', s8', .inr ⟨_, rfl⟩, g6, g7, g8, q2⟩)
  have hcr : (∃ x ∈ nl rs, ∃ one, x = .int ((one : Nat) : Int) ∧ ∃ y ∈ nl rs, ∃ other, y = .int ((other : Nat) : Int) ∧ viol (lk ms) rs one other) ↔ Cross (lk ms) rs := by
    constructor
    · rintro ⟨x, hx, one, rfl, y, hy, other, rfl, v⟩
      obtain ⟨o1, g1, e1⟩ := nl_mem hx
      obtain ⟨o2, g2, e2⟩ := nl_mem hy
      have z1 : o1 = one := by have := U.int.inj e1; omega
      have z2 : o2 = other := by have := U.int.inj e2; omega
      subst z1 z2
      exact ⟨_, g1, _, g2, v⟩
    · rintro ⟨one, g1, other, g2, v⟩
      exact ⟨.int (one : Int), List.mem_map.mpr ⟨one, g1, rfl⟩, one, rfl, .int (other : Int), List.mem_map.mpr ⟨other, g2, rfl⟩, other, rfl, v⟩
  have hI2 : evI (GG k) (.itr .plain (.cons (.var 1) .nil)) [M, R, .own (.dic D) false, s3, s4, .emp, .emp, .emp, .emp] = .ok (nl rs, [M, R, .own (.dic D) false, s3, s4, .emp, .emp, .emp, .emp]) :=
    itr_ok (ws := [R]) (us := [.lst (nl rs)]) (by subst hR; simp [evL, evI, look, looks, frz, frzs, put, U.tru, cmpF, opF, bltF, keepF, subF, subE, ownB, ownL, appE, idxF, atU, istF, inF, slcF, callD, argsF, backF, borrows, keyF, parF]) (by subst hR; rfl) rfl
  have hrun2 := for_run (tg := .tnm 5) (b := .seq (.for_ (.tnm 6) (.itr .plain (.cons (.var 1) .nil)) crB1) .nil) hI2
  have h0 : exS (GG k) (.own 2 .dic0) [M, R, .emp, .emp, .emp, .emp, .emp, .emp, .emp] = .ok (.nx, [M, R, .own (.dic []) false, .emp, .emp, .emp, .emp, .emp, .emp]) := rfl
  by_cases c : Cross (lk ms) rs
  · obtain ⟨e', q1, r, rfl⟩ := outer.1 (hcr.mpr c)
    refine ⟨true, ?_, by simp [evL, evI, look, looks, frz, frzs, put, U.tru, cmpF, opF, bltF, keepF, subF, subE, ownB, ownL, appE, idxF, atU, istF, inF, slcF, callD, argsF, backF, borrows, keyF, parF, c]⟩
    refine run_val (env0 := [M, R, .emp, .emp, .emp, .emp, .emp, .emp, .emp]) (env := M :: R :: r) rfl ?_
    show exS (GG k) (.seq (.own 2 .dic0) (.seq (.for_ _ _ _) (.seq (.for_ _ _ _) _))) _ = _
    rw [seq_nx h0, seq_nx hf1]
    exact seq_rt (hrun2.trans q1)
  · obtain ⟨e', q1, s5, s6, s7, s8, _, _, _, _, rfl⟩ := outer.2 fun z => c (hcr.mp z)
    refine ⟨false, ?_, by simp [evL, evI, look, looks, frz, frzs, put, U.tru, cmpF, opF, bltF, keepF, subF, subE, ownB, ownL, appE, idxF, atU, istF, inF, slcF, callD, argsF, backF, borrows, keyF, parF, c]⟩
    refine run_val (env0 := [M, R, .emp, .emp, .emp, .emp, .emp, .emp, .emp]) (env := [M, R, .own (.dic D) false, s3, s4, s5, s6, s7, s8]) rfl ?_
    show exS (GG k) (.seq (.own 2 .dic0) (.seq (.for_ _ _ _) (.seq (.for_ _ _ _) _))) _ = _
    rw [seq_nx h0, seq_nx hf1, seq_nx (hrun2.trans q1)]
    rfl
end K02
end
section
set_option Elab.async false
set_option linter.all false
set_option autoImplicit false
set_option maxRecDepth 100000
set_option maxHeartbeats 0
namespace K02
open PF PySem
open L2 (Key)
theorem iff_false {G : Gx} {c : E} {a b : S} {env env1 : En} (h : condF c (evE G c) env = .ok (false, env1)) : exS G (.iff c a b) env = exS G b env1 := by
  rw [exS_iff, h, Res.bind_ok]
  rfl
theorem iff_true {G : Gx} {c : E} {a b : S} {env env1 : En} (h : condF c (evE G c) env = .ok (true, env1)) : exS G (.iff c a b) env = exS G a env1 := by
  rw [exS_iff, h, Res.bind_ok]
  rfl
theorem join_lst (k : Nat) (us : List U) : prg.den (k + 2) 5 [.val (.lst us)] = .ok (bv false, [.val (.lst us)]) := by
  rw [den_joining]
  refine run_val (env0 := [.val (.lst us), .emp, .emp, .emp, .emp]) (env := [.val (.lst us), .emp, .emp, .emp, .emp]) rfl ?_
  refine seq_rt ((iff_true (env1 := [.val (.lst us), .emp, .emp, .emp, .emp]) ?_).trans rfl)
  simp [evL, evI, look, looks, frz, frzs, put, U.tru, cmpF, opF, bltF, keepF, subF, subE, ownB, ownL, appE, idxF, atU, istF, inF, slcF, callD, argsF, backF, borrows, keyF, parF, tof_lst]
theorem pair_lst (k : Nat) (us : List U) : prg.den (k + 2) 2 [.val (.lst us), iv 16] = .ok (bv false, [.val (.lst us), iv 16]) := by
  rw [den_pairing]
  refine run_val (env0 := [.val (.lst us), iv 16, .emp, .emp]) (env := [.val (.lst us), iv 16, .emp, .emp]) rfl ?_
  refine seq_rt ((iff_true (env1 := [.val (.lst us), iv 16, .emp, .emp]) ?_).trans rfl)
  simp [evL, evI, look, looks, frz, frzs, put, U.tru, cmpF, opF, bltF, keepF, subF, subE, ownB, ownL, appE, idxF, atU, istF, inF, slcF, callD, argsF, backF, borrows, keyF, parF, tof_lst]
theorem join_head (k : Nat) (a b : Nat) (x : U) (h : a + b ≤ 16) (r : S) : exS (GG (k + 1)) (.seq (.iff (.or (.not (.call 1 (.cons (.var 0) (.cons (.con (.int 3)) (.cons (.con (.int 3)) .nil))))) (.or (.not (.call 0 (.cons (.idx (.var 0) (.con (.int 0))) (.cons (.con (.int 0)) (.cons (.glc 0) .nil))))) (.not (.call 0 (.cons (.idx (.var 0) (.con (.int 1))) (.cons (.con (.int 0)) (.cons (.glc 0) .nil))))))) (.seq (.ret (.con (.bl false))) .nil) .nil) (.seq (.unp (.ttp (.cons (.tnm 1) (.cons (.tnm 2) (.cons (.tnm 3) .nil)))) (.var 0)) r)) [.val (.tup [.int a, .int b, x]), .emp, .emp, .emp, .emp] =
    exS (GG (k + 1)) r [.val (.tup [.int a, .int b, x]), iv a, iv b, .val x, .emp] := by
  have q1 : (a : Int) ≤ 16 := by omega
  have q2 : (b : Int) ≤ 16 := by omega
  rw [seq_nx (env1 := [.val (.tup [.int a, .int b, x]), .emp, .emp, .emp, .emp]) ((iff_false (env1 := [.val (.tup [.int a, .int b, x]), .emp, .emp, .emp, .emp]) (by simp [evL, evI, look, looks, frz, frzs, put, U.tru, cmpF, opF, bltF, keepF, subF, subE, ownB, ownL, appE, idxF, atU, istF, inF, slcF, callD, argsF, backF, borrows, keyF, parF, tof, whole, q1, q2])).trans rfl)]
  exact seq_nx rfl
theorem join_bad (k : Nat) (a b : Nat) (us : List U) (h : a + b ≤ 16) : prg.den (k + 3) 5 [.val (.tup [.int a, .int b, .lst us])] = .ok (bv false, [.val (.tup [.int a, .int b, .lst us])]) := by
  rw [den_joining]
  refine run_val (env0 := [.val (.tup [.int a, .int b, .lst us]), .emp, .emp, .emp, .emp]) (env := [.val (.tup [.int a, .int b, .lst us]), iv a, iv b, .val (.lst us), .emp]) rfl ?_
  refine (join_head (k + 1) a b (.lst us) h _).trans ?_
  refine seq_rt ((iff_true (env1 := [.val (.tup [.int a, .int b, .lst us]), iv a, iv b, .val (.lst us), .emp]) ?_).trans rfl)
  have := pair_lst k us
  simp [evL, evI, look, looks, frz, frzs, put, U.tru, cmpF, opF, bltF, keepF, subF, subE, ownB, ownL, appE, idxF, atU, istF, inF, slcF, callD, argsF, backF, borrows, keyF, parF, this]
theorem join_e3 (k : Nat) (a b : Int) (RL : List U) (x y z : Slot) (hr : prg.den (k + 3) 3 [iv a, iv b] = .ok (.own (.lst RL) false, [iv a, iv b])) :
    evE (GG (k + 3)) (.call 3 (.cons (.var 1) (.cons (.var 2) .nil))) [x, iv a, iv b, y, z] = .ok (.own (.lst RL) false, [x, iv a, iv b, y, z]) := by
  simp [evL, evI, look, looks, frz, frzs, put, U.tru, cmpF, opF, bltF, keepF, subF, subE, ownB, ownL, appE, idxF, atU, istF, inF, slcF, callD, argsF, backF, borrows, keyF, parF, hr]
theorem joining (k : Nat) (a b : Nat) (ms : List Nat) (hv : Valid ms) (hl : ms.length = a + b) (h : a + b ≤ 16) (hf : ∀ p, p < ms.length → lk ms p ≠ p) :
    prg.den (k + 4) 5 [.val (.tup [.int a, .int b, .tup (nl ms)])] = .ok (bv (decide (scan (lk ms) (rimL a b) [] = some [])), [.val (.tup [.int a, .int b, .tup (nl ms)])]) := by
  rw [den_joining]
  have hp := pairing (k + 1) ms hv (by omega)
  have hpl := planar (k + 2) ms (rimL a b) (fun p hp => by
    unfold rimL at hp
    rcases List.mem_append.mp hp with z | z
    · have := List.mem_range.mp z; omega
    · obtain ⟨i, hi, rfl⟩ := List.mem_map.mp z
      have := List.mem_range.mp hi; omega) (by rw [rimL_len]; omega)
  have hr : prg.den (k + 3) 3 [iv a, iv b] = .ok (.own (.lst (nl (rimL a b))) false, [iv a, iv b]) := rimof (k + 2) a b (by omega)
  have hlen : (nl ms).length = a + b := by rw [nl_length, hl]
  have hat : ∀ p, p < a + b → (nl ms)[p]? = some (.int (lk ms p : Nat)) := fun p hp => nl_lk (by omega)
  generalize nl ms = L at *
  obtain ⟨RL, hRL⟩ : ∃ RL, RL = nl (rimL a b) := ⟨_, rfl⟩
  rw [← hRL] at hpl hr
  clear hRL
  refine run_val (env0 := [.val (.tup [.int a, .int b, .tup L]), .emp, .emp, .emp, .emp]) (env := [.val (.tup [.int a, .int b, .tup L]), iv a, iv b, .val (.tup L), .emp]) rfl ?_
  refine (join_head (k + 2) a b (.tup L) h _).trans ?_
  have hlen2 : (L.length : Int) = (a : Int) + b := by omega
  rw [seq_nx (env1 := [.val (.tup [.int a, .int b, .tup L]), iv a, iv b, .val (.tup L), .emp]) ((iff_false (env1 := [.val (.tup [.int a, .int b, .tup L]), iv a, iv b, .val (.tup L), .emp]) (by simp [evL, evI, look, looks, frz, frzs, put, U.tru, cmpF, opF, bltF, keepF, subF, subE, ownB, ownL, appE, idxF, atU, istF, inF, slcF, callD, argsF, backF, borrows, keyF, parF, hp, hlen2])).trans exS_nil)]
  have e1 : evE (GG (k + 3)) (.cmp1 [4] (.tnm 4) (.itr .rng1 (.cons (.bin .add (.var 1) (.var 2)) .nil)) .nil (.cmp .ne (.idx (.var 3) (.var 4)) (.var 4))) [.val (.tup [.int a, .int b, .tup L]), iv a, iv b, .val (.tup L), .emp] = .ok (.own (.lst ((nl (List.range (a + b))).map fun _ => .bl true)) false, [.val (.tup [.int a, .int b, .tup L]), iv a, iv b, .val (.tup L), .emp]) := by
    refine comp_map (env1 := [.val (.tup [.int a, .int b, .tup L]), iv a, iv b, .val (.tup L), .emp]) (itr_ok (ws := [iv ((a : Int) + b)]) (us := [.int ((a : Int) + b)]) (by simp [evL, evI, look, looks, frz, frzs, put, U.tru, cmpF, opF, bltF, keepF, subF, subE, ownB, ownL, appE, idxF, atU, istF, inF, slcF, callD, argsF, backF, borrows, keyF, parF]) (by simp [evL, evI, look, looks, frz, frzs, put, U.tru, cmpF, opF, bltF, keepF, subF, subE, ownB, ownL, appE, idxF, atU, istF, inF, slcF, callD, argsF, backF, borrows, keyF, parF]) ?_) (by simp [evL, evI, look, looks, frz, frzs, put, U.tru, cmpF, opF, bltF, keepF, subF, subE, ownB, ownL, appE, idxF, atU, istF, inF, slcF, callD, argsF, backF, borrows, keyF, parF, okS]) (fun x hx => ?_) (by rw [nl_length, List.length_range]; exact s1 (by omega)) (by simp [evL, evI, look, looks, frz, frzs, put, U.tru, cmpF, opF, bltF, keepF, subF, subE, ownB, ownL, appE, idxF, atU, istF, inF, slcF, callD, argsF, backF, borrows, keyF, parF, unwipe, wipeE])
    · have e : ((a : Int) + b) = ((a + b : Nat) : Int) := by omega
      rw [e]
      exact itr1 (a + b) (by omega)
    · obtain ⟨p, hp1, rfl⟩ := nl_mem hx
      have hp2 := List.mem_range.mp hp1
      have e := hat p hp2
      have ne : ((lk ms p : Nat) : Int) ≠ (p : Int) := fun z => hf p (by omega) (by omega)
      simp [evL, evI, look, looks, frz, frzs, put, U.tru, cmpF, opF, bltF, keepF, subF, subE, ownB, ownL, appE, idxF, atU, istF, inF, slcF, callD, argsF, backF, borrows, keyF, parF, turnC, storeU, wipeE, e, ne]
  have e2 : evE (GG (k + 3)) (.blt .all (.cons (.cmp1 [4] (.tnm 4) (.itr .rng1 (.cons (.bin .add (.var 1) (.var 2)) .nil)) .nil (.cmp .ne (.idx (.var 3) (.var 4)) (.var 4))) .nil)) [.val (.tup [.int a, .int b, .tup L]), iv a, iv b, .val (.tup L), .emp] = .ok (bv true, [.val (.tup [.int a, .int b, .tup L]), iv a, iv b, .val (.tup L), .emp]) := by
    generalize nl (List.range (a + b)) = Z at e1
    simp [evL, evI, look, looks, frz, frzs, put, U.tru, cmpF, opF, bltF, keepF, subF, subE, ownB, ownL, appE, idxF, atU, istF, inF, slcF, callD, argsF, backF, borrows, keyF, parF, e1, bls_true]
  have e3 : evE (GG (k + 3)) (.call 3 (.cons (.var 1) (.cons (.var 2) .nil))) [.val (.tup [.int a, .int b, .tup L]), iv a, iv b, .val (.tup L), .emp] = .ok (.own (.lst RL) false, [.val (.tup [.int a, .int b, .tup L]), iv a, iv b, .val (.tup L), .emp]) :=
    join_e3 k a b RL _ _ _ hr
  have e4 : evE (GG (k + 3)) (.call 4 (.cons (.var 3) (.cons (.call 3 (.cons (.var 1) (.cons (.var 2) .nil))) .nil))) [.val (.tup [.int a, .int b, .tup L]), iv a, iv b, .val (.tup L), .emp] = .ok (bv (decide (scan (lk ms) (rimL a b) [] = some [])), [.val (.tup [.int a, .int b, .tup L]), iv a, iv b, .val (.tup L), .emp]) :=
    call_val (ws := [.val (.tup L), .own (.lst RL) false]) (env1 := [.val (.tup [.int a, .int b, .tup L]), iv a, iv b, .val (.tup L), .emp]) (as := [.val (.tup L), .val (.lst RL)]) (os := [.val (.tup L), .val (.lst RL)])
      (consL_ok (env1 := [.val (.tup [.int a, .int b, .tup L]), iv a, iv b, .val (.tup L), .emp]) (by simp [evL, evI, look, looks, frz, frzs, put, U.tru, cmpF, opF, bltF, keepF, subF, subE, ownB, ownL, appE, idxF, atU, istF, inF, slcF, callD, argsF, backF, borrows, keyF, parF]) (consL_ok e3 (by simp [evL, evI, look, looks, frz, frzs, put, U.tru, cmpF, opF, bltF, keepF, subF, subE, ownB, ownL, appE, idxF, atU, istF, inF, slcF, callD, argsF, backF, borrows, keyF, parF]))) md4 (by simp [evL, evI, look, looks, frz, frzs, put, U.tru, cmpF, opF, bltF, keepF, subF, subE, ownB, ownL, appE, idxF, atU, istF, inF, slcF, callD, argsF, backF, borrows, keyF, parF]) (by simp [evL, evI, look, looks, frz, frzs, put, U.tru, cmpF, opF, bltF, keepF, subF, subE, ownB, ownL, appE, idxF, atU, istF, inF, slcF, callD, argsF, backF, borrows, keyF, parF]) hpl (by simp [evL, evI, look, looks, frz, frzs, put, U.tru, cmpF, opF, bltF, keepF, subF, subE, ownB, ownL, appE, idxF, atU, istF, inF, slcF, callD, argsF, backF, borrows, keyF, parF])
  exact seq_rt (ret_ok ((and_true e2 rfl rfl).trans e4) fun i z => by cases z)
end K02
end
section
set_option Elab.async false
set_option linter.all false
set_option autoImplicit false
set_option maxRecDepth 100000
namespace K02
open PF PySem
/-- pairs drawn so far -/
structure PInv (n : Nat) (left ms : List Nat) : Prop where
  nd : left.Nodup
  len : ms.length = n
  free : ∀ x ∈ left, x < n ∧ lk ms x = x
  pair : ∀ p, p < n → p ∉ left → lk ms p < n ∧ lk ms p ∉ left ∧ lk ms p ≠ p ∧ lk ms (lk ms p) = p
theorem PInv.start (n : Nat) : PInv n (List.range n) (List.range n) where
  nd := List.nodup_range
  len := by simp
  free := fun x hx => by
    have := List.mem_range.mp hx
    exact ⟨this, by simp [lk, List.getElem?_eq_getElem (show x < (List.range n).length by simpa using this)]⟩
  pair := fun p hp h => (h (List.mem_range.mpr hp)).elim
theorem lk_set {ms : List Nat} {i v p : Nat} (h : i < ms.length) : lk (ms.set i v) p = if p = i then v else lk ms p := by
  unfold lk
  by_cases c : p = i
  · subst c; simp [List.getElem?_set_self h]
  · have c' : i ≠ p := fun z => c z.symm
    simp [List.getElem?_set_ne c', c]
theorem PInv.step {n : Nat} {left ms : List Nat} {one other : Nat} (I : PInv n left ms) (h1 : one ∈ left) (h2 : other ∈ left) (hne : other ≠ one) :
    PInv n ((left.filter fun x => decide (x ≠ one)).filter fun x => decide (x ≠ other)) ((ms.set one other).set other one) := by
  obtain ⟨l1, f1⟩ := I.free one h1
  obtain ⟨l2, f2⟩ := I.free other h2
  have hl := I.len
  have g : ∀ p, lk ((ms.set one other).set other one) p = if p = other then one else if p = one then other else lk ms p := fun p => by
    rw [lk_set (by simp; omega), lk_set (by omega)]
  have mem : ∀ x, x ∈ ((left.filter fun x => decide (x ≠ one)).filter fun x => decide (x ≠ other)) ↔ x ∈ left ∧ x ≠ one ∧ x ≠ other := fun x => by
    simp only [List.mem_filter, decide_eq_true_eq, ne_eq, decide_not, Bool.not_eq_true', decide_eq_false_iff_not]
    exact ⟨fun ⟨⟨a, b⟩, c⟩ => ⟨a, b, c⟩, fun ⟨a, b, c⟩ => ⟨⟨a, b⟩, c⟩⟩
  refine ⟨(I.nd.sublist List.filter_sublist).sublist List.filter_sublist, by simp [hl], fun x hx => ?_, fun p hp hn => ?_⟩
  · obtain ⟨a, b, c⟩ := (mem x).mp hx
    rw [g, if_neg c, if_neg b]
    exact I.free x a
  · rw [mem] at hn
    simp only [g, mem]
    by_cases c1 : p = other
    · subst c1
      simp [l1, hne, Ne.symm hne]
    · by_cases c2 : p = one
      · subst c2
        simp [c1, l2, hne]
      · have hpl : p ∉ left := fun z => hn ⟨z, c2, c1⟩
        obtain ⟨q1, q2, q3, q4⟩ := I.pair p hp hpl
        have e1 : lk ms p ≠ other := fun z => q2 (z ▸ h2)
        have e2 : lk ms p ≠ one := fun z => q2 (z ▸ h1)
        simp [c1, c2, q1, q2, q3, q4, e1, e2]
theorem filter_len {left : List Nat} {x : Nat} (nd : left.Nodup) (h : x ∈ left) : (left.filter fun y => decide (y ≠ x)).length + 1 = left.length := by
  have := nd.erase_eq_filter x
  have e : (left.filter fun y => decide (y ≠ x)) = left.erase x := by
    rw [this]
    congr 1
    funext y
    by_cases c : y = x <;> simp [c]
  rw [e, List.length_erase_of_mem h]
  have := List.length_pos_of_mem h
  omega
end K02
end
section
set_option Elab.async false
set_option linter.all false
set_option autoImplicit false
set_option maxRecDepth 100000
namespace K02
open PF PySem
abbrev cupS (a b : Int) (p : Bool) : Slot := .own (.lst [.int a, .int b]) p
theorem roll_call (k : Nat) (a b m : Int) (p : Bool) (rest : En) (e : E) (ha : 0 ≤ a) (hb : 0 ≤ b) (hm : 0 < m) (hm2 : m < 1073741824) (he : evE (GG (k + 1)) e (cupS a b p :: rest) = .ok (iv m, cupS a b p :: rest)) :
    ∃ r a' b', 0 ≤ r ∧ r < m ∧ 0 ≤ a' ∧ 0 ≤ b' ∧ evE (GG (k + 1)) (.call 8 (.cons (.bor 0) (.cons e .nil))) (cupS a b p :: rest) = .ok (iv r, cupS a' b' p :: rest) := by
  obtain ⟨r, a', b', h1, h2, h3, h4, h5⟩ := roll k a b m ha hb hm hm2
  refine ⟨r, a', b', h1, h2, h3, h4, ?_⟩
  exact call_val (ws := [.bor 0, iv m]) (env1 := cupS a b p :: rest) (md := [true, false]) (as := [cupS a b true, iv m]) (os := [cupS a' b' true, iv m]) (consL_ok (env1 := cupS a b p :: rest) (by simp [evL, evI, look, looks, frz, frzs, put, U.tru, cmpF, opF, bltF, keepF, subF, subE, ownB, ownL, appE, idxF, atU, istF, inF, slcF, callD, argsF, backF, borrows, keyF, parF]) (consL_ok he (by simp [evL, evI, look, looks, frz, frzs, put, U.tru, cmpF, opF, bltF, keepF, subF, subE, ownB, ownL, appE, idxF, atU, istF, inF, slcF, callD, argsF, backF, borrows, keyF, parF]))) md8 (by simp [evL, evI, look, looks, frz, frzs, put, U.tru, cmpF, opF, bltF, keepF, subF, subE, ownB, ownL, appE, idxF, atU, istF, inF, slcF, callD, argsF, backF, borrows, keyF, parF]) (by simp [evL, evI, look, looks, frz, frzs, put, U.tru, cmpF, opF, bltF, keepF, subF, subE, ownB, ownL, appE, idxF, atU, istF, inF, slcF, callD, argsF, backF, borrows, keyF, parF]) h5 (by simp [evL, evI, look, looks, frz, frzs, put, U.tru, cmpF, opF, bltF, keepF, subF, subE, ownB, ownL, appE, idxF, atU, istF, inF, slcF, callD, argsF, backF, borrows, keyF, parF])
theorem drop6_turn (k : Nat) (C s1 s2 s3 s4 s5 s7 : Slot) (x one : Int) : turnC [8] (.tnm 8) (.cmp .ne (.var 8) (.var 6)) (evE (GG k) (.cmp .ne (.var 8) (.var 6))) (evE (GG k) (.var 8)) (.int x) [C, s1, s2, s3, s4, s5, iv one, s7, .emp] =
    .ok (if x = one then none else some (.int x), [C, s1, s2, s3, s4, s5, iv one, s7, .emp]) := by
  by_cases c : x = one <;> simp [evL, evI, look, looks, frz, frzs, put, U.tru, cmpF, opF, bltF, keepF, subF, subE, ownB, ownL, appE, idxF, atU, istF, inF, slcF, callD, argsF, backF, borrows, keyF, parF, turnC, storeU, wipeE, c]
theorem drop7_turn (k : Nat) (C s1 s2 s3 s4 s5 s6 : Slot) (x one : Int) : turnC [8] (.tnm 8) (.cmp .ne (.var 8) (.var 7)) (evE (GG k) (.cmp .ne (.var 8) (.var 7))) (evE (GG k) (.var 8)) (.int x) [C, s1, s2, s3, s4, s5, s6, iv one, .emp] =
    .ok (if x = one then none else some (.int x), [C, s1, s2, s3, s4, s5, s6, iv one, .emp]) := by
  by_cases c : x = one <;> simp [evL, evI, look, looks, frz, frzs, put, U.tru, cmpF, opF, bltF, keepF, subF, subE, ownB, ownL, appE, idxF, atU, istF, inF, slcF, callD, argsF, backF, borrows, keyF, parF, turnC, storeU, wipeE, c]
theorem s1' {n : Nat} (h : n ≤ 1000) : n ≤ sizeLine := s1 (by omega)
def gD (one : Nat) : U → Option U
  | .int x => if x = (one : Int) then none else some (.int x)
  | _ => none
theorem gD_nl (one : Nat) : ∀ left : List Nat, (nl left).filterMap (gD one) = nl (left.filter fun x => decide (x ≠ one))
  | [] => rfl
  | x :: r => by
    have ih := gD_nl one r
    have e : nl (x :: r) = .int (x : Int) :: nl r := rfl
    by_cases c : x = one
    · have c' : (x : Int) = (one : Int) := by omega
      rw [e, List.filterMap_cons]
      simp only [gD, c', if_true]
      rw [ih, List.filter_cons_of_neg (by simp [evL, evI, look, looks, frz, frzs, put, U.tru, cmpF, opF, bltF, keepF, subF, subE, ownB, ownL, appE, idxF, atU, istF, inF, slcF, callD, argsF, backF, borrows, keyF, parF, c])]
    · have c' : (x : Int) ≠ (one : Int) := fun z => c (by omega)
      rw [e, List.filterMap_cons]
      simp only [gD, c', if_false]
      rw [ih, List.filter_cons_of_pos (by simp [evL, evI, look, looks, frz, frzs, put, U.tru, cmpF, opF, bltF, keepF, subF, subE, ownB, ownL, appE, idxF, atU, istF, inF, slcF, callD, argsF, backF, borrows, keyF, parF, c])]
      rfl
theorem drop6 (k : Nat) (C s1 s2 s4 s5 s7 : Slot) (left : List Nat) (one : Nat) (hz : left.length ≤ 1000) (h7 : s7 = .emp ∨ True) :
    evE (GG k) (.cmp1 [8] (.tnm 8) (.itr .plain (.cons (.var 3) .nil)) (.cmp .ne (.var 8) (.var 6)) (.var 8)) [C, s1, s2, .val (.lst (nl left)), s4, s5, iv one, s7, .emp] =
      .ok (.own (.lst (nl (left.filter fun x => decide (x ≠ one)))) false, [C, s1, s2, .val (.lst (nl left)), s4, s5, iv one, s7, .emp]) := by
  have hlen : (nl left).length ≤ sizeLine := by rw [nl_length]; exact s1' hz
  rw [← gD_nl]
  refine comp_filter (env1 := [C, s1, s2, .val (.lst (nl left)), s4, s5, iv one, s7, .emp]) (itr_ok (ws := [.val (.lst (nl left))]) (us := [.lst (nl left)]) (by simp [evL, evI, look, looks, frz, frzs, put, U.tru, cmpF, opF, bltF, keepF, subF, subE, ownB, ownL, appE, idxF, atU, istF, inF, slcF, callD, argsF, backF, borrows, keyF, parF]) rfl rfl) (by simp [evL, evI, look, looks, frz, frzs, put, U.tru, cmpF, opF, bltF, keepF, subF, subE, ownB, ownL, appE, idxF, atU, istF, inF, slcF, callD, argsF, backF, borrows, keyF, parF, okS]) (fun x hx => ?_) hlen (by simp [evL, evI, look, looks, frz, frzs, put, U.tru, cmpF, opF, bltF, keepF, subF, subE, ownB, ownL, appE, idxF, atU, istF, inF, slcF, callD, argsF, backF, borrows, keyF, parF, unwipe, wipeE])
  obtain ⟨p, _, rfl⟩ := nl_mem hx
  exact drop6_turn k C s1 s2 _ s4 s5 s7 p one
theorem drop7 (k : Nat) (C s1 s2 s4 s5 s6 : Slot) (left : List Nat) (one : Nat) (hz : left.length ≤ 1000) :
    evE (GG k) (.cmp1 [8] (.tnm 8) (.itr .plain (.cons (.var 3) .nil)) (.cmp .ne (.var 8) (.var 7)) (.var 8)) [C, s1, s2, .val (.lst (nl left)), s4, s5, s6, iv one, .emp] =
      .ok (.own (.lst (nl (left.filter fun x => decide (x ≠ one)))) false, [C, s1, s2, .val (.lst (nl left)), s4, s5, s6, iv one, .emp]) := by
  have hlen : (nl left).length ≤ sizeLine := by rw [nl_length]; exact s1' hz
  rw [← gD_nl]
  refine comp_filter (env1 := [C, s1, s2, .val (.lst (nl left)), s4, s5, s6, iv one, .emp]) (itr_ok (ws := [.val (.lst (nl left))]) (us := [.lst (nl left)]) (by simp [evL, evI, look, looks, frz, frzs, put, U.tru, cmpF, opF, bltF, keepF, subF, subE, ownB, ownL, appE, idxF, atU, istF, inF, slcF, callD, argsF, backF, borrows, keyF, parF]) rfl rfl) (by simp [evL, evI, look, looks, frz, frzs, put, U.tru, cmpF, opF, bltF, keepF, subF, subE, ownB, ownL, appE, idxF, atU, istF, inF, slcF, callD, argsF, backF, borrows, keyF, parF, okS]) (fun x hx => ?_) hlen (by simp [evL, evI, look, looks, frz, frzs, put, U.tru, cmpF, opF, bltF, keepF, subF, subE, ownB, ownL, appE, idxF, atU, istF, inF, slcF, callD, argsF, backF, borrows, keyF, parF, unwipe, wipeE])
  obtain ⟨p, _, rfl⟩ := nl_mem hx
  exact drop7_turn k C s1 s2 _ s4 s5 s6 p one
theorem idx_ok {G : Gx} {x y : E} {env env1 env2 : En} {p q : Slot} {u v w : U} (h1 : evE G x env = .ok (p, env1)) (h2 : evE G y env1 = .ok (q, env2)) (h3 : look env2 p = some u) (h4 : look env2 q = some v) (h5 : idxF u v = some w) : evE G (.idx x y) env = .ok (.val w, env2) := by
  rw [evE_idx, h1, Res.bind_ok]
  show (evE G y env1).bind _ = _
  rw [h2, Res.bind_ok]
  show (Res.of (look env2 p)).bind _ = _
  rw [h3, Res.of_some, Res.bind_ok, h4, Res.of_some, Res.bind_ok, h5, Res.of_some, Res.bind_ok]
/-- one drawn from the unpaired -/
theorem draw (k : Nat) (a b : Int) (pin : Bool) (s1 s2 s4 s5 s6 s7 s8 : Slot) (left : List Nat) (ha : 0 ≤ a) (hb : 0 ≤ b) (hz : left.length ≤ 1000) (hne : left ≠ []) :
    ∃ one a' b', one ∈ left ∧ 0 ≤ a' ∧ 0 ≤ b' ∧ evE (GG (k + 1)) (.idx (.var 3) (.call 8 (.cons (.bor 0) (.cons (.blt .len (.cons (.var 3) .nil)) .nil)))) [cupS a b pin, s1, s2, .val (.lst (nl left)), s4, s5, s6, s7, s8] = .ok (iv (one : Nat), [cupS a' b' pin, s1, s2, .val (.lst (nl left)), s4, s5, s6, s7, s8]) := by
  have hl := List.length_pos_iff.mpr hne
  obtain ⟨r, a', b', h1, h2, h3, h4, h5⟩ := roll_call k a b left.length pin [s1, s2, .val (.lst (nl left)), s4, s5, s6, s7, s8] (.blt .len (.cons (.var 3) .nil)) ha hb (by omega) (by omega) (by simp [evL, evI, look, looks, frz, frzs, put, U.tru, cmpF, opF, bltF, keepF, subF, subE, ownB, ownL, appE, idxF, atU, istF, inF, slcF, callD, argsF, backF, borrows, keyF, parF])
  obtain ⟨r, rfl⟩ := Int.eq_ofNat_of_zero_le h1
  have hr : r < left.length := by omega
  refine ⟨left[r], a', b', List.getElem_mem hr, h3, h4, ?_⟩
  refine idx_ok (env1 := [cupS a b pin, s1, s2, .val (.lst (nl left)), s4, s5, s6, s7, s8]) (p := .val (.lst (nl left))) (u := .lst (nl left)) (v := .int (r : Int)) (by simp [evL, evI, look, looks, frz, frzs, put, U.tru, cmpF, opF, bltF, keepF, subF, subE, ownB, ownL, appE, idxF, atU, istF, inF, slcF, callD, argsF, backF, borrows, keyF, parF]) h5 rfl rfl ?_
  show L2.atI (nl left) (r : Int) = _
  rw [atI_cast, nl_get hr]
end K02
end
section
set_option Elab.async false
set_option linter.all false
set_option autoImplicit false
set_option maxRecDepth 100000
namespace K02
open PF PySem
theorem ite_t {G : Gx} {c a b : E} {env env1 : En} {p : Slot} {u : U} (h : evE G c env = .ok (p, env1)) (h1 : look env1 p = some u) (h2 : u.tru = some true) : evE G (.ite c a b) env = evE G a env1 := by
  rw [evE_ite, h, Res.bind_ok]
  show (Res.of (look env1 p)).bind _ = _
  rw [h1, Res.of_some, Res.bind_ok, h2, Res.of_some, Res.bind_ok, if_pos rfl]
theorem ite_f {G : Gx} {c a b : E} {env env1 : En} {p : Slot} {u : U} (h : evE G c env = .ok (p, env1)) (h1 : look env1 p = some u) (h2 : u.tru = some false) : evE G (.ite c a b) env = evE G b env1 := by
  rw [evE_ite, h, Res.bind_ok]
  show (Res.of (look env1 p)).bind _ = _
  rw [h1, Res.of_some, Res.bind_ok, h2, Res.of_some, Res.bind_ok, if_neg (by simp [evL, evI, look, looks, frz, frzs, put, U.tru, cmpF, opF, bltF, keepF, subF, subE, ownB, ownL, appE, idxF, atU, istF, inF, slcF, callD, argsF, backF, borrows, keyF, parF])]
/-- the first of the unpaired, or one drawn -/
theorem draw2 (k : Nat) (a b : Int) (pin : Bool) (s1 s2 s4 s5 s6 s7 s8 : Slot) (left : List Nat) (ha : 0 ≤ a) (hb : 0 ≤ b) (hz : left.length ≤ 1000) (hne : left ≠ []) :
    ∃ one a' b', one ∈ left ∧ 0 ≤ a' ∧ 0 ≤ b' ∧ evE (GG (k + 1)) (.ite (.cmp .eq (.call 8 (.cons (.bor 0) (.cons (.con (.int 2)) .nil))) (.con (.int 0))) (.idx (.var 3) (.con (.int 0))) (.idx (.var 3) (.call 8 (.cons (.bor 0) (.cons (.blt .len (.cons (.var 3) .nil)) .nil))))) [cupS a b pin, s1, s2, .val (.lst (nl left)), s4, s5, s6, s7, s8] = .ok (iv (one : Nat), [cupS a' b' pin, s1, s2, .val (.lst (nl left)), s4, s5, s6, s7, s8]) := by
  obtain ⟨r, a', b', h1, h2, h3, h4, h5⟩ := roll_call k a b 2 pin [s1, s2, .val (.lst (nl left)), s4, s5, s6, s7, s8] (.con (.int 2)) ha hb (by omega) (by omega) (by simp [evL, evI, look, looks, frz, frzs, put, U.tru, cmpF, opF, bltF, keepF, subF, subE, ownB, ownL, appE, idxF, atU, istF, inF, slcF, callD, argsF, backF, borrows, keyF, parF])
  have hc : evE (GG (k + 1)) (.cmp .eq (.call 8 (.cons (.bor 0) (.cons (.con (.int 2)) .nil))) (.con (.int 0))) [cupS a b pin, s1, s2, .val (.lst (nl left)), s4, s5, s6, s7, s8] = .ok (bv (r == 0), [cupS a' b' pin, s1, s2, .val (.lst (nl left)), s4, s5, s6, s7, s8]) := by
    rw [evE_cmp, h5]
    simp [evL, evI, look, looks, frz, frzs, put, U.tru, cmpF, opF, bltF, keepF, subF, subE, ownB, ownL, appE, idxF, atU, istF, inF, slcF, callD, argsF, backF, borrows, keyF, parF]
  by_cases c : r = 0
  · subst c
    obtain ⟨x, l, rfl⟩ := List.exists_cons_of_ne_nil hne
    refine ⟨x, a', b', by simp, h3, h4, (ite_t hc rfl rfl).trans ?_⟩
    exact idx_ok (env1 := [cupS a' b' pin, s1, s2, .val (.lst (nl (x :: l))), s4, s5, s6, s7, s8]) (env2 := [cupS a' b' pin, s1, s2, .val (.lst (nl (x :: l))), s4, s5, s6, s7, s8]) (p := .val (.lst (nl (x :: l)))) (q := iv 0) (u := .lst (nl (x :: l))) (v := .int 0) rfl rfl rfl rfl (by show L2.atI _ 0 = _; rw [atI_zero]; rfl)
  · obtain ⟨one, a2, b2, g1, g2, g3, g4⟩ := draw k a' b' pin s1 s2 s4 s5 s6 s7 s8 left h3 h4 hz hne
    exact ⟨one, a2, b2, g1, g2, g3, (ite_f hc rfl (by simp [evL, evI, look, looks, frz, frzs, put, U.tru, cmpF, opF, bltF, keepF, subF, subE, ownB, ownL, appE, idxF, atU, istF, inF, slcF, callD, argsF, backF, borrows, keyF, parF, c])).trans g4⟩
end K02
end
section
set_option Elab.async false
set_option linter.all false
set_option autoImplicit false
set_option maxRecDepth 100000
namespace K02
open PF PySem
abbrev prE1 : E := (.idx (.var 3) (.call 8 (.cons (.bor 0) (.cons (.blt .len (.cons (.var 3) .nil)) .nil))))
abbrev prE2 : E := (.cmp1 [8] (.tnm 8) (.itr .plain (.cons (.var 3) .nil)) (.cmp .ne (.var 8) (.var 6)) (.var 8))
abbrev prE3 : E := (.ite (.cmp .eq (.call 8 (.cons (.bor 0) (.cons (.con (.int 2)) .nil))) (.con (.int 0))) (.idx (.var 3) (.con (.int 0))) (.idx (.var 3) (.call 8 (.cons (.bor 0) (.cons (.blt .len (.cons (.var 3) .nil)) .nil)))))
abbrev prE4 : E := (.cmp1 [8] (.tnm 8) (.itr .plain (.cons (.var 3) .nil)) (.cmp .ne (.var 8) (.var 7)) (.var 8))
abbrev prB : S := (.seq (.set 6 prE1) (.seq (.set 3 prE2) (.seq (.set 7 prE3) (.seq (.set 3 prE4) (.seq (.par2 4 (.var 6) 4 (.var 7) (.var 7) (.var 6)) .nil)))))
theorem ixN_nat {n p : Nat} (h : p < n) : L2.ixN n (p : Int) = some p := by
  unfold L2.ixN
  rw [if_pos (by omega), if_pos (by omega)]
  simp [evL, evI, look, looks, frz, frzs, put, U.tru, cmpF, opF, bltF, keepF, subF, subE, ownB, ownL, appE, idxF, atU, istF, inF, slcF, callD, argsF, backF, borrows, keyF, parF]
theorem par2_ok {G : Gx} {i j : Nat} {k l a b : E} {env env1 env2 env3 env4 env5 : En} {ws : List Slot} {u v x y : U} {r r' : Slot} (h0 : evL G (.cons a (.cons b .nil)) env = .ok (ws, env1)) (h1 : frzs ws = some [u, v]) (o1 : ownB env1 i = true) (h2 : evE G k env1 = .ok (r, env2)) (h3 : look env2 r = some x)
    (h4 : subE env2 i x u = some env3) (o2 : ownB env3 j = true) (h5 : evE G l env3 = .ok (r', env4)) (h6 : look env4 r' = some y) (h7 : subE env4 j y v = some env5) : exS G (.par2 i k j l a b) env = .ok (.nx, env5) := by
  rw [exS_par2, h0, Res.bind_ok]
  simp only [h1, Res.of_some, Res.bind_ok, o1, if_true, h2, h3, h4, o2, h5, h6, h7]
theorem swap_gen (G : Gx) (C s1 s2 s3 s5 s8 : Slot) (L L1 L2' : List U) (I J : Int) (h1 : subF (.lst L) (.int I) (.int J) = some (.lst L1)) (h2 : subF (.lst L1) (.int J) (.int I) = some (.lst L2')) :
    exS G (.par2 4 (.var 6) 4 (.var 7) (.var 7) (.var 6)) [C, s1, s2, s3, .own (.lst L) false, s5, iv I, iv J, s8] = .ok (.nx, [C, s1, s2, s3, .own (.lst L2') false, s5, iv I, iv J, s8]) := by
  have g1 : subE [C, s1, s2, s3, .own (.lst L) false, s5, iv I, iv J, s8] 4 (.int I) (.int J) = some [C, s1, s2, s3, .own (.lst L1) false, s5, iv I, iv J, s8] := by
    show (subF (.lst L) (.int I) (.int J)).map _ = _
    rw [h1]; rfl
  have g2 : subE [C, s1, s2, s3, .own (.lst L1) false, s5, iv I, iv J, s8] 4 (.int J) (.int I) = some [C, s1, s2, s3, .own (.lst L2') false, s5, iv I, iv J, s8] := by
    show (subF (.lst L1) (.int J) (.int I)).map _ = _
    rw [h2]; rfl
  have e0 : evL G (.cons (.var 7) (.cons (.var 6) .nil)) [C, s1, s2, s3, .own (.lst L) false, s5, iv I, iv J, s8] = .ok ([iv J, iv I], [C, s1, s2, s3, .own (.lst L) false, s5, iv I, iv J, s8]) := rfl
  exact par2_ok e0 rfl rfl rfl rfl g1 rfl rfl rfl g2
theorem subF_nat {L : List U} {i : Nat} {v : U} (h : i < L.length) : subF (.lst L) (.int (i : Int)) v = some (.lst (L.set i v)) := by
  show (L2.ixN L.length (i : Int)).map _ = _
  rw [ixN_nat h]
  rfl
theorem swap_ok (G : Gx) (C s1 s2 s3 s5 s8 : Slot) (ms : List Nat) (i j : Nat) (hi : i < ms.length) (hj : j < ms.length) :
    exS G (.par2 4 (.var 6) 4 (.var 7) (.var 7) (.var 6)) [C, s1, s2, s3, .own (.lst (nl ms)) false, s5, iv (i : Nat), iv (j : Nat), s8] = .ok (.nx, [C, s1, s2, s3, .own (.lst (nl ((ms.set i j).set j i))) false, s5, iv (i : Nat), iv (j : Nat), s8]) := by
  refine swap_gen G C s1 s2 s3 s5 s8 (nl ms) (nl (ms.set i j)) _ i j ?_ ?_
  · rw [subF_nat (by simpa using hi)]; simp [evL, evI, look, looks, frz, frzs, put, U.tru, cmpF, opF, bltF, keepF, subF, subE, ownB, ownL, appE, idxF, atU, istF, inF, slcF, callD, argsF, backF, borrows, keyF, parF, nl, List.map_set]
  · rw [subF_nat (by simpa using hj)]; simp [evL, evI, look, looks, frz, frzs, put, U.tru, cmpF, opF, bltF, keepF, subF, subE, ownB, ownL, appE, idxF, atU, istF, inF, slcF, callD, argsF, backF, borrows, keyF, parF, nl, List.map_set]
theorem set6 (env : En) (s6 t : Slot) (a0 a1 a2 a3 a4 a5 a7 a8 : Slot) (h : isv s6) : put [a0, a1, a2, a3, a4, a5, s6, a7, a8] 6 t = some [a0, a1, a2, a3, a4, a5, t, a7, a8] := put_isv (s := s6) rfl h
/-- one turn: two unpaired ones are paired -/
theorem pair_turn (k n : Nat) (a b : Int) (pin : Bool) (s1 s2 s5 s6 s7 : Slot) (left ms : List Nat) (ha : 0 ≤ a) (hb : 0 ≤ b) (hz : left.length ≤ 1000) (h2 : 2 ≤ left.length) (I : PInv n left ms) (h6 : isv s6) (h7 : isv s7) :
    ∃ a' b' left' ms' s6' s7', 0 ≤ a' ∧ 0 ≤ b' ∧ left'.length + 2 = left.length ∧ PInv n left' ms' ∧ isv s6' ∧ isv s7' ∧
      exS (GG (k + 1)) prB [cupS a b pin, s1, s2, .val (.lst (nl left)), .own (.lst (nl ms)) false, s5, s6, s7, .emp] = .ok (.nx, [cupS a' b' pin, s1, s2, .val (.lst (nl left')), .own (.lst (nl ms')) false, s5, s6', s7', .emp]) := by
  have hne : left ≠ [] := by rintro rfl; simp [evL, evI, look, looks, frz, frzs, put, U.tru, cmpF, opF, bltF, keepF, subF, subE, ownB, ownL, appE, idxF, atU, istF, inF, slcF, callD, argsF, backF, borrows, keyF, parF] at h2
  obtain ⟨one, a1, b1, m1, p1, q1, e1⟩ := draw k a b pin s1 s2 (.own (.lst (nl ms)) false) s5 s6 s7 .emp left ha hb hz hne
  have len1 := filter_len I.nd m1
  have hne1 : (left.filter fun x => decide (x ≠ one)) ≠ [] := by
    intro z
    have : (left.filter fun x => decide (x ≠ one)).length = 0 := by rw [z]; rfl
    omega
  obtain ⟨other, a2, b2, m2, p2, q2, e3⟩ := draw2 k a1 b1 pin s1 s2 (.own (.lst (nl ms)) false) s5 (iv (one : Nat)) s7 .emp (left.filter fun x => decide (x ≠ one)) p1 q1 (by omega) hne1
  have m2' := List.mem_filter.mp m2
  have hne2 : other ≠ one := by simpa using m2'.2
  have len2 := filter_len (I.nd.sublist List.filter_sublist) m2
  obtain ⟨lo, _⟩ := I.free one m1
  obtain ⟨lo2, _⟩ := I.free other m2'.1
  have hl := I.len
  refine ⟨a2, b2, _, _, iv (one : Nat), iv (other : Nat), p2, q2, ?_, I.step m1 m2'.1 hne2, .inr ⟨_, rfl⟩, .inr ⟨_, rfl⟩, ?_⟩
  · omega
  · rw [seq_nx (setS_ok e1 rfl (put_isv (s := s6) rfl h6))]
    show exS (GG (k + 1)) (.seq (.set 3 prE2) _) [cupS a1 b1 pin, s1, s2, .val (.lst (nl left)), .own (.lst (nl ms)) false, s5, iv (one : Nat), s7, .emp] = _
    rw [seq_nx (setS_ok (drop6 (k + 1) (cupS a1 b1 pin) s1 s2 _ s5 s7 left one hz (.inr trivial)) rfl rfl)]
    show exS (GG (k + 1)) (.seq (.set 7 prE3) _) [cupS a1 b1 pin, s1, s2, .val (.lst (nl (left.filter fun x => decide (x ≠ one)))), .own (.lst (nl ms)) false, s5, iv (one : Nat), s7, .emp] = _
    rw [seq_nx (setS_ok e3 rfl (put_isv (s := s7) rfl h7))]
    show exS (GG (k + 1)) (.seq (.set 3 prE4) _) [cupS a2 b2 pin, s1, s2, .val (.lst (nl (left.filter fun x => decide (x ≠ one)))), .own (.lst (nl ms)) false, s5, iv (one : Nat), iv (other : Nat), .emp] = _
    rw [seq_nx (setS_ok (drop7 (k + 1) (cupS a2 b2 pin) s1 s2 _ s5 _ (left.filter fun x => decide (x ≠ one)) other (by omega)) rfl rfl)]
    show exS (GG (k + 1)) (.seq (.par2 4 (.var 6) 4 (.var 7) (.var 7) (.var 6)) .nil) [cupS a2 b2 pin, s1, s2, .val (.lst (nl ((left.filter fun x => decide (x ≠ one)).filter fun x => decide (x ≠ other)))), .own (.lst (nl ms)) false, s5, iv (one : Nat), iv (other : Nat), .emp] = _
    rw [seq_nx (swap_ok (GG (k + 1)) _ _ _ _ _ _ ms one other (by omega) (by omega))]
    rfl
/-- the law's pairing: mates that are mates of one another; without threads, none is its own -/
theorem lpairing (k n t : Nat) (a b : Int) (ha : 0 ≤ a) (hb : 0 ≤ b) (hn : n ≤ 16) (ht : t ≤ n) : ∃ a' b' ms, 0 ≤ a' ∧ 0 ≤ b' ∧ ms.length = n ∧ Valid ms ∧ ((n - t) % 2 = 0 → t = 0 → ∀ p, p < n → lk ms p ≠ p) ∧
    prg.den (k + 2) 11 [cupS a b true, iv n, iv t] = .ok (.val (.tup (nl ms)), [cupS a' b' true, iv n, iv t]) := by
  rw [den_lpair]
  have h1 : evE (GG (k + 1)) (.lrg .rng1 (.cons (.var 1) .nil)) [cupS a b true, iv n, iv t, .emp, .emp, .emp, .emp, .emp, .emp] = .ok (.own (.lst (nl (List.range n))) false, [cupS a b true, iv n, iv t, .emp, .emp, .emp, .emp, .emp, .emp]) :=
    lrg_ok (env1 := [cupS a b true, iv n, iv t, .emp, .emp, .emp, .emp, .emp, .emp]) (ws := [iv n]) (us := [.int n]) (by simp [evL, evI, look, looks, frz, frzs, put, U.tru, cmpF, opF, bltF, keepF, subF, subE, ownB, ownL, appE, idxF, atU, istF, inF, slcF, callD, argsF, backF, borrows, keyF, parF]) (by simp [evL, evI, look, looks, frz, frzs, put, U.tru, cmpF, opF, bltF, keepF, subF, subE, ownB, ownL, appE, idxF, atU, istF, inF, slcF, callD, argsF, backF, borrows, keyF, parF]) (itr1 _ (by omega)) (by rw [nl_length, List.length_range]; exact s1 (by omega))
  have hpar : exS (GG (k + 1)) (.par (.cons (.tnm 3) (.cons (.mov 4) .nil)) (.cons (.lrg .rng1 (.cons (.var 1) .nil)) (.cons (.lrg .rng1 (.cons (.var 1) .nil)) .nil))) [cupS a b true, iv n, iv t, .emp, .emp, .emp, .emp, .emp, .emp] =
      .ok (.nx, [cupS a b true, iv n, iv t, .val (.lst (nl (List.range n))), .own (.lst (nl (List.range n))) false, .emp, .emp, .emp, .emp]) := by
    rw [exS_par, consL_ok h1 (consL_ok h1 rfl), Res.bind_ok]
    rfl
  have hI : evI (GG (k + 1)) (.itr .rng1 (.cons (.bin .fdiv (.bin .sub (.var 1) (.var 2)) (.con (.int 2))) .nil)) [cupS a b true, iv n, iv t, .val (.lst (nl (List.range n))), .own (.lst (nl (List.range n))) false, .emp, .emp, .emp, .emp] =
      .ok (nl (List.range ((n - t) / 2)), [cupS a b true, iv n, iv t, .val (.lst (nl (List.range n))), .own (.lst (nl (List.range n))) false, .emp, .emp, .emp, .emp]) := by
    refine itr_ok (ws := [iv ((((n - t) / 2 : Nat) : Nat) : Int)]) (us := [.int (((n - t) / 2 : Nat) : Int)]) ?_ (by simp [evL, evI, look, looks, frz, frzs, put, U.tru, cmpF, opF, bltF, keepF, subF, subE, ownB, ownL, appE, idxF, atU, istF, inF, slcF, callD, argsF, backF, borrows, keyF, parF]) (itr1 _ (by omega))
    have e : ((n : Int) - (t : Int)) / 2 = (((n - t) / 2 : Nat) : Int) := by omega
    simp [evL, evI, look, looks, frz, frzs, put, U.tru, cmpF, opF, bltF, keepF, subF, subE, ownB, ownL, appE, idxF, atU, istF, inF, slcF, callD, argsF, backF, borrows, keyF, parF, divOk, e]
  obtain ⟨e', h2, a', b', left', ms', s5, s6, s7, g1, g2, g3, g4, g5, g6, g7, rfl⟩ := forGo_inv (turn := fun x env => (Res.of (storeU (.tnm 5) x env)).bind fun env => exS (GG (k + 1)) prB env)
    (fun i e => ∃ (a b : Int) (left ms : List Nat) (s5 s6 s7 : Slot), 0 ≤ a ∧ 0 ≤ b ∧ left.length + 2 * i = n ∧ PInv n left ms ∧ isv s5 ∧ isv s6 ∧ isv s7 ∧ e = [cupS a b true, iv n, iv t, .val (.lst (nl left)), .own (.lst (nl ms)) false, s5, s6, s7, .emp])
    (us := nl (List.range ((n - t) / 2))) (n := 0) (e := [cupS a b true, iv n, iv t, .val (.lst (nl (List.range n))), .own (.lst (nl (List.range n))) false, .emp, .emp, .emp, .emp])
    ⟨a, b, _, _, .emp, .emp, .emp, ha, hb, by simp, PInv.start n, .inl rfl, .inl rfl, .inl rfl, rfl⟩ (by
      rintro i x e hx ⟨a, b, left, ms, s5, s6, s7, ha, hb, hl, I, h5, h6, h7, rfl⟩
      have hi := ltOf hx
      rw [nl_length, List.length_range] at hi
      have st : storeU (.tnm 5) x [cupS a b true, iv n, iv t, .val (.lst (nl left)), .own (.lst (nl ms)) false, s5, s6, s7, .emp] = some [cupS a b true, iv n, iv t, .val (.lst (nl left)), .own (.lst (nl ms)) false, .val x, s6, s7, .emp] := by
        show put _ 5 _ = _
        rw [put_isv (s := s5) rfl h5]
        rfl
      obtain ⟨a', b', left', ms', s6', s7', g1, g2, g3, g4, g5, g6, g7⟩ := pair_turn k n a b true (iv n) (iv t) (.val x) s6 s7 left ms ha hb (by omega) (by omega) I h6 h7
      rw [st, Res.of_some, Res.bind_ok]
      exact ⟨_, g7, a', b', left', ms', .val x, s6', s7', g1, g2, by omega, g4, .inr ⟨_, rfl⟩, g5, g6, rfl⟩)
  rw [nl_length, List.length_range] at g3
  have hlen := g4.len
  refine ⟨a', b', ms', g1, g2, hlen, ⟨fun p hp => ?_, fun p hp => ?_⟩, fun he h0 p hp => ?_, ?_⟩
  · by_cases c : p ∈ left'
    · rw [(g4.free p c).2]; omega
    · have := (g4.pair p (by omega) c).1; omega
  · by_cases c : p ∈ left'
    · rw [(g4.free p c).2, (g4.free p c).2]
    · exact (g4.pair p (by omega) c).2.2.2
  · have : left' = [] := List.length_eq_zero_iff.mp (by omega)
    subst this
    exact (g4.pair p hp (by simp [evL, evI, look, looks, frz, frzs, put, U.tru, cmpF, opF, bltF, keepF, subF, subE, ownB, ownL, appE, idxF, atU, istF, inF, slcF, callD, argsF, backF, borrows, keyF, parF])).2.2.1
  · refine run_val (env0 := [cupS a b true, iv n, iv t, .emp, .emp, .emp, .emp, .emp, .emp]) (env := [cupS a' b' true, iv n, iv t, .val (.lst (nl left')), .own (.lst (nl ms')) false, s5, s6, s7, .emp]) rfl ?_
    show exS (GG (k + 1)) (.seq (.par _ _) (.seq (.for_ (.tnm 5) _ prB) _)) _ = _
    rw [seq_nx hpar, seq_nx ((for_run (tg := .tnm 5) (b := prB) hI).trans h2)]
    refine seq_rt (ret_ok (w := .val (.tup (nl ms'))) ?_ fun i z => by cases z)
    simp [evL, evI, look, looks, frz, frzs, put, U.tru, cmpF, opF, bltF, keepF, subF, subE, ownB, ownL, appE, idxF, atU, istF, inF, slcF, callD, argsF, backF, borrows, keyF, parF]
end K02
end
section
set_option Elab.async false
set_option linter.all false
set_option autoImplicit false
set_option maxRecDepth 100000
namespace K02
open PF PySem
theorem Inv.range {ms : List Nat} (v : Valid ms) : Inv (lk ms) (List.range ms.length) where
  nd := List.nodup_range
  mem := fun p hp => List.mem_range.mpr (v.lt p (List.mem_range.mp hp))
  inv := fun p hp => v.inv p (List.mem_range.mp hp)
theorem rimL_mem {a b p : Nat} : p ∈ rimL a b ↔ p < a + b := by
  unfold rimL
  rw [List.mem_append, List.mem_range, List.mem_map]
  constructor
  · rintro (h | ⟨i, hi, rfl⟩)
    · omega
    · have := List.mem_range.mp hi; omega
  · intro h
    by_cases c : p < a
    · exact .inl c
    · exact .inr ⟨a + b - 1 - p, List.mem_range.mpr (by omega), by omega⟩
theorem rimL_nodup (a b : Nat) : (rimL a b).Nodup := by
  unfold rimL
  refine List.nodup_append.mpr ⟨List.nodup_range, ?_, ?_⟩
  · refine List.pairwise_map.mpr ?_
    rw [List.pairwise_iff_getElem]
    intro i j hi hj hij
    rw [List.length_range] at hi hj
    rw [List.getElem_range, List.getElem_range]
    omega
  · intro x hx y hy
    have := List.mem_range.mp hx
    obtain ⟨i, hi, rfl⟩ := List.mem_map.mp hy
    have := List.mem_range.mp hi
    omega
theorem Inv.rim {ms : List Nat} {a b : Nat} (v : Valid ms) (h : ms.length = a + b) : Inv (lk ms) (rimL a b) where
  nd := rimL_nodup a b
  mem := fun p hp => rimL_mem.mpr (by have := v.lt p (by have := rimL_mem.mp hp; omega); omega)
  inv := fun p hp => v.inv p (by have := rimL_mem.mp hp; omega)
theorem not_val {G : Gx} {x : E} {env env1 : En} {b : Bool} (h : evE G x env = .ok (bv b, env1)) : evE G (.not x) env = .ok (bv (!b), env1) := by
  rw [evE_not, h, Res.bind_ok]
  rfl
theorem mod2 (P : Nat) : ((P : Int) % 2) = ((P % 2 : Nat) : Int) := by omega
theorem set_at {G : Gx} {i : Nat} {e : E} {env env1 env2 : En} {u : U} (h : evE G e env = .ok (.val u, env1)) (h2 : put env1 i (.val u) = some env2) : exS G (.set i e) env = .ok (.nx, env2) := setS_ok h rfl h2
/-- the half's part -/
theorem half_part (k : Nat) (C s2 s4 s5 s6 s7 : Slot) (P : Nat) (ms : List Nat) (hP : P ≤ 16) (hl : ms.length = P) (hv : Valid ms) :
    exS (GG (k + 4)) (.iff (.not (.call 10 (.cons (.call 6 (.cons (.var 3) .nil)) (.cons (.not (.call 12 (.cons (.var 3) (.cons (.lrg .rng1 (.cons (.var 1) .nil)) .nil)))) .nil)))) (.seq (.ret (.con (.bl false))) .nil) .nil)
      [C, iv P, s2, .val (.tup (nl ms)), s4, s5, s6, s7] = .ok (.nx, [C, iv P, s2, .val (.tup (nl ms)), s4, s5, s6, s7]) := by
  have e1 : evE (GG (k + 4)) (.call 6 (.cons (.var 3) .nil)) [C, iv P, s2, .val (.tup (nl ms)), s4, s5, s6, s7] = .ok (bv (decide (scan (lk ms) (List.range ms.length) [] = some [])), [C, iv P, s2, .val (.tup (nl ms)), s4, s5, s6, s7]) :=
    call_val (ws := [.val (.tup (nl ms))]) (env1 := [C, iv P, s2, .val (.tup (nl ms)), s4, s5, s6, s7]) (md := [false]) (as := [.val (.tup (nl ms))]) rfl md6 rfl (by simp [evL, evI, look, looks, frz, frzs, put, U.tru, cmpF, opF, bltF, keepF, subF, subE, ownB, ownL, appE, idxF, atU, istF, inF, slcF, callD, argsF, backF, borrows, keyF, parF]) (half (k + 1) ms hv (by omega)) rfl
  have e2 : evE (GG (k + 4)) (.lrg .rng1 (.cons (.var 1) .nil)) [C, iv P, s2, .val (.tup (nl ms)), s4, s5, s6, s7] = .ok (.own (.lst (nl (List.range P))) false, [C, iv P, s2, .val (.tup (nl ms)), s4, s5, s6, s7]) :=
    lrg_ok (env1 := [C, iv P, s2, .val (.tup (nl ms)), s4, s5, s6, s7]) (ws := [iv P]) (us := [.int P]) rfl rfl (itr1 _ (by omega)) (by rw [nl_length, List.length_range]; exact s1 (by omega))
  obtain ⟨b, e3, hb⟩ := crosses (k + 3) ms (List.range P) List.nodup_range (fun p hp => by have := List.mem_range.mp hp; omega) (fun p hp => List.mem_range.mpr (by have := hv.lt p (by have := List.mem_range.mp hp; omega); omega)) (by simp [evL, evI, look, looks, frz, frzs, put, U.tru, cmpF, opF, bltF, keepF, subF, subE, ownB, ownL, appE, idxF, atU, istF, inF, slcF, callD, argsF, backF, borrows, keyF, parF]; omega)
  have e4 : evE (GG (k + 4)) (.call 12 (.cons (.var 3) (.cons (.lrg .rng1 (.cons (.var 1) .nil)) .nil))) [C, iv P, s2, .val (.tup (nl ms)), s4, s5, s6, s7] = .ok (bv b, [C, iv P, s2, .val (.tup (nl ms)), s4, s5, s6, s7]) :=
    call_val (ws := [.val (.tup (nl ms)), .own (.lst (nl (List.range P))) false]) (env1 := [C, iv P, s2, .val (.tup (nl ms)), s4, s5, s6, s7]) (md := [false, false]) (as := [.val (.tup (nl ms)), .val (.lst (nl (List.range P)))]) (consL_ok rfl (consL_ok e2 rfl)) md12 rfl (by simp [evL, evI, look, looks, frz, frzs, put, U.tru, cmpF, opF, bltF, keepF, subF, subE, ownB, ownL, appE, idxF, atU, istF, inF, slcF, callD, argsF, backF, borrows, keyF, parF]) e3 rfl
  have e5 : evE (GG (k + 4)) (.call 10 (.cons (.call 6 (.cons (.var 3) .nil)) (.cons (.not (.call 12 (.cons (.var 3) (.cons (.lrg .rng1 (.cons (.var 1) .nil)) .nil)))) .nil))) [C, iv P, s2, .val (.tup (nl ms)), s4, s5, s6, s7] = .ok (bv (decide (scan (lk ms) (List.range ms.length) [] = some []) == !b), [C, iv P, s2, .val (.tup (nl ms)), s4, s5, s6, s7]) :=
    call_val (ws := [bv (decide (scan (lk ms) (List.range ms.length) [] = some [])), bv (!b)]) (env1 := [C, iv P, s2, .val (.tup (nl ms)), s4, s5, s6, s7]) (md := [false, false]) (as := [bv (decide (scan (lk ms) (List.range ms.length) [] = some [])), bv (!b)]) (consL_ok e1 (consL_ok (not_val e4) rfl)) md10 rfl (by simp [evL, evI, look, looks, frz, frzs, put, U.tru, cmpF, opF, bltF, keepF, subF, subE, ownB, ownL, appE, idxF, atU, istF, inF, slcF, callD, argsF, backF, borrows, keyF, parF]) (like (k + 2) _ _) rfl
  have hx : (decide (scan (lk ms) (List.range ms.length) [] = some []) == !b) = true := by
    have p := planar_iff (Inv.range hv)
    have d : decide (scan (lk ms) (List.range ms.length) [] = some []) = !b := by
      rw [← hl] at hb
      cases b with
      | true => exact decide_eq_false fun z => p.mp z (hb.mp rfl)
      | false => exact decide_eq_true (p.mpr fun z => by have := hb.mpr z; cases this)
    rw [d]
    simp [evL, evI, look, looks, frz, frzs, put, U.tru, cmpF, opF, bltF, keepF, subF, subE, ownB, ownL, appE, idxF, atU, istF, inF, slcF, callD, argsF, backF, borrows, keyF, parF]
  rw [hx] at e5
  refine (iff_false (env1 := [C, iv P, s2, .val (.tup (nl ms)), s4, s5, s6, s7]) ?_).trans rfl
  rw [condF_not, not_val e5]
  rfl
theorem call13 (G : Gx) (A B m : Int) (RL : List U) (hm : G.modes 13 = some [false,false]) (hr : G.den 13 [iv A, iv B] = .ok (.own (.lst RL) false, [iv A, iv B])) (hsub : m - A = B) (C s1 s2 s3 s6 s7 : Slot) :
   evE G (.call 13 (.cons (.var 5) (.cons (.bin .sub (.var 4) (.var 5)) .nil))) [C, s1, s2, s3, iv m, iv A, s6, s7] = .ok (.own (.lst RL) false, [C, s1, s2, s3, iv m, iv A, s6, s7]) := by
  refine call_own (f := 13) (ws := [iv A, iv B]) (env1 := [C, s1, s2, s3, iv m, iv A, s6, s7]) (md := [false, false]) (as := [iv A, iv B]) (os := [iv A, iv B]) ?_ hm (by simp [evL, evI, look, looks, frz, frzs, put, U.tru, cmpF, opF, bltF, keepF, subF, subE, ownB, ownL, appE, idxF, atU, istF, inF, slcF, callD, argsF, backF, borrows, keyF, parF]) (by simp [evL, evI, look, looks, frz, frzs, put, U.tru, cmpF, opF, bltF, keepF, subF, subE, ownB, ownL, appE, idxF, atU, istF, inF, slcF, callD, argsF, backF, borrows, keyF, parF]) hr (by simp [evL, evI, look, looks, frz, frzs, put, U.tru, cmpF, opF, bltF, keepF, subF, subE, ownB, ownL, appE, idxF, atU, istF, inF, slcF, callD, argsF, backF, borrows, keyF, parF])
  refine consL_ok rfl (consL_ok ?_ rfl)
  rw [← hsub]
  rfl
theorem tup_ok {G : Gx} {es : E} {env env1 : En} {ws : List Slot} {us : List U} (h : evL G es env = .ok (ws, env1)) (h1 : frzs ws = some us) (h2 : us.length ≤ sizeLine) : evE G (.tup es) env = .ok (.val (.tup us), env1) := by
  rw [evE_tup, h, Res.bind_ok]
  simp only [h1, Res.of_some, Res.bind_ok, h2, if_true]
theorem lst_ok {G : Gx} {es : E} {env env1 : En} {ws : List Slot} {us : List U} (h : evL G es env = .ok (ws, env1)) (h1 : frzs ws = some us) (h2 : us.length ≤ sizeLine) : evE G (.lst es) env = .ok (.own (.lst us) false, env1) := by
  rw [evE_lst, h, Res.bind_ok]
  simp only [h1, Res.of_some, Res.bind_ok, h2, if_true]
abbrev joA : E := (.lst (.cons (.call 5 (.cons (.tup (.cons (.var 5) (.cons (.bin .sub (.var 4) (.var 5)) (.cons (.var 6) .nil)))) .nil)) (.cons (.call 5 (.cons (.lst (.cons (.var 5) (.cons (.bin .sub (.var 4) (.var 5)) (.cons (.var 6) .nil)))) .nil)) (.cons (.call 5 (.cons (.tup (.cons (.var 5) (.cons (.bin .sub (.var 4) (.var 5)) (.cons (.blt .list (.cons (.var 6) .nil)) .nil)))) .nil)) .nil))))
abbrev joB : E := (.lst (.cons (.var 7) (.cons (.con (.bl false)) (.cons (.con (.bl false)) .nil))))
/-- the joining's part -/
theorem join_part (k : Nat) (C s1' s2 s3 : Slot) (a b : Nat) (m : Int) (hsub : m - (a : Int) = (b : Int)) (ms : List Nat) (h : a + b ≤ 16) (hl : ms.length = a + b) (hv : Valid ms) (hf : ∀ p, p < ms.length → lk ms p ≠ p) :
    ∃ env', exS (GG (k + 4)) (.seq (.set 7 (.not (.call 12 (.cons (.var 6) (.cons (.call 13 (.cons (.var 5) (.cons (.bin .sub (.var 4) (.var 5)) .nil))) .nil))))) (.seq (.ret (.call 10 (.cons joA (.cons joB .nil)))) .nil))
      [C, s1', s2, s3, iv m, iv a, .val (.tup (nl ms)), .emp] = .ok (.rt (bv true), env') ∧ env'[0]? = some C := by
  have e1 : evE (GG (k + 4)) (.call 13 (.cons (.var 5) (.cons (.bin .sub (.var 4) (.var 5)) .nil))) [C, s1', s2, s3, iv m, iv a, .val (.tup (nl ms)), .emp] = .ok (.own (.lst (nl (rimL a b))) false, [C, s1', s2, s3, iv m, iv a, .val (.tup (nl ms)), .emp]) := by
    refine call13 (GG (k + 4)) a b m _ md13 ?_ hsub C s1' s2 s3 _ _
    dsimp only
    exact rim (k + 3) a b (by omega)
  obtain ⟨c, e3, hb⟩ := crosses (k + 3) ms (rimL a b) (rimL_nodup a b) (fun p hp => by have := rimL_mem.mp hp; omega) (fun p hp => rimL_mem.mpr (by have := hv.lt p (by have := rimL_mem.mp hp; omega); omega)) (by rw [rimL_len]; omega)
  have e4 : evE (GG (k + 4)) (.call 12 (.cons (.var 6) (.cons (.call 13 (.cons (.var 5) (.cons (.bin .sub (.var 4) (.var 5)) .nil))) .nil))) [C, s1', s2, s3, iv m, iv a, .val (.tup (nl ms)), .emp] = .ok (bv c, [C, s1', s2, s3, iv m, iv a, .val (.tup (nl ms)), .emp]) :=
    call_val (ws := [.val (.tup (nl ms)), .own (.lst (nl (rimL a b))) false]) (env1 := [C, s1', s2, s3, iv m, iv a, .val (.tup (nl ms)), .emp]) (md := [false, false]) (as := [.val (.tup (nl ms)), .val (.lst (nl (rimL a b)))]) (consL_ok (env1 := [C, s1', s2, s3, iv m, iv a, .val (.tup (nl ms)), .emp]) (by simp [evL, evI, look, looks, frz, frzs, put, U.tru, cmpF, opF, bltF, keepF, subF, subE, ownB, ownL, appE, idxF, atU, istF, inF, slcF, callD, argsF, backF, borrows, keyF, parF]) (consL_ok e1 (by simp [evL, evI, look, looks, frz, frzs, put, U.tru, cmpF, opF, bltF, keepF, subF, subE, ownB, ownL, appE, idxF, atU, istF, inF, slcF, callD, argsF, backF, borrows, keyF, parF]))) md12 (by simp [evL, evI, look, looks, frz, frzs, put, U.tru, cmpF, opF, bltF, keepF, subF, subE, ownB, ownL, appE, idxF, atU, istF, inF, slcF, callD, argsF, backF, borrows, keyF, parF]) (by simp [evL, evI, look, looks, frz, frzs, put, U.tru, cmpF, opF, bltF, keepF, subF, subE, ownB, ownL, appE, idxF, atU, istF, inF, slcF, callD, argsF, backF, borrows, keyF, parF]) e3 (by simp [evL, evI, look, looks, frz, frzs, put, U.tru, cmpF, opF, bltF, keepF, subF, subE, ownB, ownL, appE, idxF, atU, istF, inF, slcF, callD, argsF, backF, borrows, keyF, parF])
  refine ⟨[C, s1', s2, s3, iv m, iv a, .val (.tup (nl ms)), bv (!c)], ?_, rfl⟩
  rw [seq_nx (set_at (not_val e4) rfl)]
  show exS (GG (k + 4)) _ [C, s1', s2, s3, iv m, iv a, .val (.tup (nl ms)), bv (!c)] = _
  generalize hE : ([C, s1', s2, s3, iv m, iv a, .val (.tup (nl ms)), bv (!c)] : En) = E
  have v5 : evE (GG (k + 4)) (.var 5) E = .ok (iv a, E) := by subst hE; rfl
  have v6 : evE (GG (k + 4)) (.var 6) E = .ok (.val (.tup (nl ms)), E) := by subst hE; rfl
  have v7 : evE (GG (k + 4)) (.var 7) E = .ok (bv (!c), E) := by subst hE; rfl
  have v4 : evE (GG (k + 4)) (.bin .sub (.var 4) (.var 5)) E = .ok (iv b, E) := by subst hE; rw [← hsub]; rfl
  have hz3 : (3 : Nat) ≤ sizeLine := by decide
  have t1 : evE (GG (k + 4)) (.tup (.cons (.var 5) (.cons (.bin .sub (.var 4) (.var 5)) (.cons (.var 6) .nil)))) E = .ok (.val (.tup [.int a, .int b, .tup (nl ms)]), E) :=
    tup_ok (consL_ok v5 (consL_ok v4 (consL_ok v6 rfl))) rfl hz3
  have t2 : evE (GG (k + 4)) (.lst (.cons (.var 5) (.cons (.bin .sub (.var 4) (.var 5)) (.cons (.var 6) .nil)))) E = .ok (.own (.lst [.int a, .int b, .tup (nl ms)]) false, E) :=
    lst_ok (consL_ok v5 (consL_ok v4 (consL_ok v6 rfl))) rfl hz3
  have t3 : evE (GG (k + 4)) (.blt .list (.cons (.var 6) .nil)) E = .ok (.own (.lst (nl ms)) false, E) := by
    rw [evE_blt, consL_ok v6 rfl, Res.bind_ok]
    rfl
  have t4 : evE (GG (k + 4)) (.tup (.cons (.var 5) (.cons (.bin .sub (.var 4) (.var 5)) (.cons (.blt .list (.cons (.var 6) .nil)) .nil)))) E = .ok (.val (.tup [.int a, .int b, .lst (nl ms)]), E) :=
    tup_ok (consL_ok v5 (consL_ok v4 (consL_ok t3 rfl))) rfl hz3
  have c1 := call_val (f := 5) (es := .cons (.tup (.cons (.var 5) (.cons (.bin .sub (.var 4) (.var 5)) (.cons (.var 6) .nil)))) .nil) (ws := [.val (.tup [.int a, .int b, .tup (nl ms)])]) (env1 := E) (env2 := E) (md := [false]) (as := [.val (.tup [.int a, .int b, .tup (nl ms)])]) (consL_ok t1 rfl) md5 rfl (by simp [evL, evI, look, looks, frz, frzs, put, U.tru, cmpF, opF, bltF, keepF, subF, subE, ownB, ownL, appE, idxF, atU, istF, inF, slcF, callD, argsF, backF, borrows, keyF, parF]) (joining k a b ms hv hl h hf) rfl
  have c2 := call_val (f := 5) (es := .cons (.lst (.cons (.var 5) (.cons (.bin .sub (.var 4) (.var 5)) (.cons (.var 6) .nil)))) .nil) (ws := [.own (.lst [.int a, .int b, .tup (nl ms)]) false]) (env1 := E) (env2 := E) (md := [false]) (as := [.val (.lst [.int a, .int b, .tup (nl ms)])]) (consL_ok t2 rfl) md5 rfl (by simp [evL, evI, look, looks, frz, frzs, put, U.tru, cmpF, opF, bltF, keepF, subF, subE, ownB, ownL, appE, idxF, atU, istF, inF, slcF, callD, argsF, backF, borrows, keyF, parF]) (join_lst (k + 2) _) rfl
  have c3 := call_val (f := 5) (es := .cons (.tup (.cons (.var 5) (.cons (.bin .sub (.var 4) (.var 5)) (.cons (.blt .list (.cons (.var 6) .nil)) .nil)))) .nil) (ws := [.val (.tup [.int a, .int b, .lst (nl ms)])]) (env1 := E) (env2 := E) (md := [false]) (as := [.val (.tup [.int a, .int b, .lst (nl ms)])]) (consL_ok t4 rfl) md5 rfl (by simp [evL, evI, look, looks, frz, frzs, put, U.tru, cmpF, opF, bltF, keepF, subF, subE, ownB, ownL, appE, idxF, atU, istF, inF, slcF, callD, argsF, backF, borrows, keyF, parF]) (join_bad (k + 1) a b (nl ms) h) rfl
  have hx : decide (scan (lk ms) (rimL a b) [] = some []) = !c := by
    have p := planar_iff (Inv.rim hv hl)
    cases c with
    | true => exact decide_eq_false fun z => p.mp z (hb.mp rfl)
    | false => exact decide_eq_true (p.mpr fun z => by have := hb.mpr z; cases this)
  rw [hx] at c1
  have l1 : evE (GG (k + 4)) joA E = .ok (.own (.lst [.bl (!c), .bl false, .bl false]) false, E) :=
    lst_ok (consL_ok c1 (consL_ok c2 (consL_ok c3 rfl))) rfl hz3
  have l2 : evE (GG (k + 4)) joB E = .ok (.own (.lst [.bl (!c), .bl false, .bl false]) false, E) :=
    lst_ok (consL_ok v7 (consL_ok evE_con (consL_ok evE_con rfl))) rfl hz3
  have c4 := call_val (f := 10) (es := .cons joA (.cons joB .nil)) (ws := [.own (.lst [.bl (!c), .bl false, .bl false]) false, .own (.lst [.bl (!c), .bl false, .bl false]) false]) (env1 := E) (env2 := E) (md := [false, false]) (as := [.val (.lst [.bl (!c), .bl false, .bl false]), .val (.lst [.bl (!c), .bl false, .bl false])]) (consL_ok l1 (consL_ok l2 rfl)) md10 rfl (by simp [evL, evI, look, looks, frz, frzs, put, U.tru, cmpF, opF, bltF, keepF, subF, subE, ownB, ownL, appE, idxF, atU, istF, inF, slcF, callD, argsF, backF, borrows, keyF, parF]) (like3 (k + 1) (!c) (!c)) rfl
  refine seq_rt (ret_ok (w := bv true) ?_ fun i z => by cases z)
  rw [c4]
  simp [evL, evI, look, looks, frz, frzs, put, U.tru, cmpF, opF, bltF, keepF, subF, subE, ownB, ownL, appE, idxF, atU, istF, inF, slcF, callD, argsF, backF, borrows, keyF, parF]
end K02
end
section
set_option Elab.async false
set_option linter.all false
set_option autoImplicit false
set_option maxRecDepth 100000
namespace K02
open PF PySem
abbrev thE : E := (.ite (.cmp .gt (.var 1) (.con (.int 3))) (.bin .add (.bin .mod (.blt .int (.cons (.var 1) .nil)) (.con (.int 2))) (.bin .mul (.con (.int 2)) (.call 8 (.cons (.bor 0) (.cons (.con (.int 2)) .nil))))) (.bin .mod (.blt .int (.cons (.var 1) .nil)) (.con (.int 2))))
theorem th_mod (G : Gx) (P : Int) (C s2 s3 s4 s5 s6 s7 : Slot) : evE G (.bin .mod (.blt .int (.cons (.var 1) .nil)) (.con (.int 2))) [C, iv P, s2, s3, s4, s5, s6, s7] = .ok (iv (P % 2), [C, iv P, s2, s3, s4, s5, s6, s7]) := by
  simp [evL, evI, look, looks, frz, frzs, put, U.tru, cmpF, opF, bltF, keepF, subF, subE, ownB, ownL, appE, idxF, atU, istF, inF, slcF, callD, argsF, backF, borrows, keyF, parF]
theorem th_cmp (G : Gx) (P : Int) (C s2 s3 s4 s5 s6 s7 : Slot) : evE G (.cmp .gt (.var 1) (.con (.int 3))) [C, iv P, s2, s3, s4, s5, s6, s7] = .ok (bv (decide (3 < P)), [C, iv P, s2, s3, s4, s5, s6, s7]) := by
  simp [evL, evI, look, looks, frz, frzs, put, U.tru, cmpF, opF, bltF, keepF, subF, subE, ownB, ownL, appE, idxF, atU, istF, inF, slcF, callD, argsF, backF, borrows, keyF, parF]
theorem bin_ok {G : Gx} {o : BOp} {x y : E} {env env1 env2 : En} {p q w : Slot} {u v : U} (h1 : evE G x env = .ok (p, env1)) (h2 : evE G y env1 = .ok (q, env2)) (h3 : look env2 p = some u) (h4 : look env2 q = some v) (h5 : opF o u v = some w) : evE G (.bin o x y) env = .ok (w, env2) := by
  rw [evE_bin, h1, Res.bind_ok]
  simp only [h2, h3, h4, h5, Res.of_some, Res.bind_ok]
theorem threads (k : Nat) (a b : Int) (P : Int) (hP : 0 ≤ P) (s2 s3 s4 s5 s6 s7 : Slot) (ha : 0 ≤ a) (hb : 0 ≤ b) :
    ∃ a' b' t, 0 ≤ a' ∧ 0 ≤ b' ∧ 0 ≤ t ∧ t ≤ P ∧ evE (GG (k + 1)) thE [cupS a b true, iv P, s2, s3, s4, s5, s6, s7] = .ok (iv t, [cupS a' b' true, iv P, s2, s3, s4, s5, s6, s7]) := by
  by_cases c : 3 < P
  · obtain ⟨r, a', b', h1, h2, h3, h4, h5⟩ := roll_call k a b 2 true [iv P, s2, s3, s4, s5, s6, s7] (.con (.int 2)) ha hb (by omega) (by omega) (by simp [evL, evI, look, looks, frz, frzs, put, U.tru, cmpF, opF, bltF, keepF, subF, subE, ownB, ownL, appE, idxF, atU, istF, inF, slcF, callD, argsF, backF, borrows, keyF, parF])
    refine ⟨a', b', P % 2 + 2 * r, h3, h4, by omega, by omega, ?_⟩
    have hc := th_cmp (GG (k + 1)) P (cupS a b true) s2 s3 s4 s5 s6 s7
    rw [decide_eq_true c] at hc
    refine (ite_t hc rfl rfl).trans ?_
    have hm : mulOk 2 r = true := by simp [evL, evI, look, looks, frz, frzs, put, U.tru, cmpF, opF, bltF, keepF, subF, subE, ownB, ownL, appE, idxF, atU, istF, inF, slcF, callD, argsF, backF, borrows, keyF, parF, mulOk]
    have e2 : evE (GG (k + 1)) (.bin .mul (.con (.int 2)) (.call 8 (.cons (.bor 0) (.cons (.con (.int 2)) .nil)))) [cupS a b true, iv P, s2, s3, s4, s5, s6, s7] = .ok (iv (2 * r), [cupS a' b' true, iv P, s2, s3, s4, s5, s6, s7]) :=
      bin_ok evE_con h5 rfl rfl (by show (if mulOk 2 r then _ else _) = _; rw [if_pos hm])
    exact bin_ok (th_mod _ P _ _ _ _ _ _ _) e2 rfl rfl rfl
  · refine ⟨a, b, P % 2, ha, hb, by omega, by omega, ?_⟩
    have hc := th_cmp (GG (k + 1)) P (cupS a b true) s2 s3 s4 s5 s6 s7
    rw [decide_eq_false c] at hc
    exact (ite_f hc rfl rfl).trans (th_mod _ P _ _ _ _ _ _ _)
theorem call11 (G : Gx) (a b a' b' N T : Int) (u : U) (e1 e2 : E) (rest : En) (hm : G.modes 11 = some [true, false, false]) (hr : G.den 11 [cupS a b true, iv N, iv T] = .ok (.val u, [cupS a' b' true, iv N, iv T])) (h1 : ∀ C, evE G e1 (C :: rest) = .ok (iv N, C :: rest)) (h2 : ∀ C, evE G e2 (C :: rest) = .ok (iv T, C :: rest)) :
    evE G (.call 11 (.cons (.bor 0) (.cons e1 (.cons e2 .nil)))) (cupS a b true :: rest) = .ok (.val u, cupS a' b' true :: rest) :=
  call_val (f := 11) (ws := [.bor 0, iv N, iv T]) (env1 := cupS a b true :: rest) (md := [true, false, false]) (as := [cupS a b true, iv N, iv T]) (os := [cupS a' b' true, iv N, iv T]) (consL_ok rfl (consL_ok (h1 _) (consL_ok (h2 _) rfl))) hm rfl (by simp [evL, evI, look, looks, frz, frzs, put, U.tru, cmpF, opF, bltF, keepF, subF, subE, ownB, ownL, appE, idxF, atU, istF, inF, slcF, callD, argsF, backF, borrows, keyF, parF]) hr rfl
theorem par_ok {G : Gx} {ts es : E} {env env1 env2 : En} {ws : List Slot} (h : evL G es env = .ok (ws, env1)) (h1 : parF ts ws env1 = some env2) : exS G (.par ts es) env = .ok (.nx, env2) := by
  rw [exS_par, h, Res.bind_ok]
  simp only [h1, Res.of_some, Res.bind_ok]
/-- the law's pairing called -/
theorem lp_call (k n t : Nat) (a b : Int) (e1 e2 : E) (rest : En) (ha : 0 ≤ a) (hb : 0 ≤ b) (hn : n ≤ 16) (ht : t ≤ n) (h1 : ∀ C, evE (GG (k + 2)) e1 (C :: rest) = .ok (iv n, C :: rest)) (h2 : ∀ C, evE (GG (k + 2)) e2 (C :: rest) = .ok (iv t, C :: rest)) :
    ∃ a' b' ms, 0 ≤ a' ∧ 0 ≤ b' ∧ ms.length = n ∧ Valid ms ∧ ((n - t) % 2 = 0 → t = 0 → ∀ p, p < n → lk ms p ≠ p) ∧
      evE (GG (k + 2)) (.call 11 (.cons (.bor 0) (.cons e1 (.cons e2 .nil)))) (cupS a b true :: rest) = .ok (.val (.tup (nl ms)), cupS a' b' true :: rest) := by
  obtain ⟨a', b', ms, g1, g2, g3, g4, g5, g6⟩ := lpairing k n t a b ha hb hn ht
  refine ⟨a', b', ms, g1, g2, g3, g4, g5, ?_⟩
  refine call11 (GG (k + 2)) a b a' b' n t _ e1 e2 rest md11 ?_ h1 h2
  dsimp only
  exact g6
theorem right (k : Nat) (a b : Int) (ha : 0 ≤ a) (hb : 0 ≤ b) : ∃ a' b', 0 ≤ a' ∧ 0 ≤ b' ∧ prg.den (k + 5) 14 [cupS a b true] = .ok (bv true, [cupS a' b' true]) := by
  rw [den_right]
  obtain ⟨P, a1, b1, p1, p2, p3, p4, p5⟩ := roll_call (k + 3) a b 13 true [.emp, .emp, .emp, .emp, .emp, .emp, .emp] (.con (.int 13)) ha hb (by omega) (by omega) (by simp [evL, evI, look, looks, frz, frzs, put, U.tru, cmpF, opF, bltF, keepF, subF, subE, ownB, ownL, appE, idxF, atU, istF, inF, slcF, callD, argsF, backF, borrows, keyF, parF])
  obtain ⟨P, rfl⟩ := Int.eq_ofNat_of_zero_le p1
  obtain ⟨a2, b2, t, q1, q2, q0, q3, q4⟩ := threads (k + 3) a1 b1 P p1 .emp .emp .emp .emp .emp .emp p3 p4
  obtain ⟨t, rfl⟩ := Int.eq_ofNat_of_zero_le q0
  obtain ⟨a3, b3, ms, r1, r2, r3, r4, _, r6⟩ := lp_call (k + 2) P t a2 b2 (.var 1) (.var 2) [iv P, iv t, .emp, .emp, .emp, .emp, .emp] q1 q2 (by omega) (by omega) (fun _ => rfl) (fun _ => rfl)
  have hh := half_part k (cupS a3 b3 true) (iv t) .emp .emp .emp .emp P ms (by omega) r3 r4
  obtain ⟨A, a4, b4, t1, t2, t3, t4, t5⟩ := roll_call (k + 3) a3 b3 ((P : Int) - ((P % 2 : Nat) : Int) + 1) true [iv P, iv t, .val (.tup (nl ms)), iv ((P : Int) - ((P % 2 : Nat) : Int)), .emp, .emp, .emp] (.bin .add (.var 4) (.con (.int 1))) r1 r2 (by omega) (by omega) (by simp [evL, evI, look, looks, frz, frzs, put, U.tru, cmpF, opF, bltF, keepF, subF, subE, ownB, ownL, appE, idxF, atU, istF, inF, slcF, callD, argsF, backF, borrows, keyF, parF])
  obtain ⟨A, rfl⟩ := Int.eq_ofNat_of_zero_le t1
  have hev : ((P - P % 2 : Nat) : Int) = (P : Int) - ((P % 2 : Nat) : Int) := by omega
  obtain ⟨a5, b5, ms2, u1, u2, u3, u4, u5, u6⟩ := lp_call (k + 2) (P - P % 2) 0 a4 b4 (.var 4) (.con (.int 0)) [iv P, iv t, .val (.tup (nl ms)), iv ((P - P % 2 : Nat) : Int), .emp, .emp, .emp] t3 t4 (by omega) (by omega) (fun _ => rfl) (fun _ => rfl)
  rw [hev] at u6
  obtain ⟨env', j1, j2⟩ := join_part k (cupS a5 b5 true) (iv P) (iv t) (.val (.tup (nl ms))) A (P - P % 2 - A) ((P : Int) - ((P % 2 : Nat) : Int)) (by omega) ms2 (by omega) (by omega) u4 (fun p hp => u5 (by omega) rfl p (by omega))
  refine ⟨a5, b5, u1, u2, ?_⟩
  have hout : outsF f_law_right.md env' [cupS a b true] = [cupS a5 b5 true] := by
    show outsF [true] env' [cupS a b true] = _
    cases env' with
    | nil => cases j2
    | cons x r => simp [evL, evI, look, looks, frz, frzs, put, U.tru, cmpF, opF, bltF, keepF, subF, subE, ownB, ownL, appE, idxF, atU, istF, inF, slcF, callD, argsF, backF, borrows, keyF, parF] at j2; subst j2; rfl
  rw [← hout]
  refine run_val (env0 := [cupS a b true, .emp, .emp, .emp, .emp, .emp, .emp, .emp]) rfl ?_
  show exS (GG (k + 4)) (.seq (.set 1 _) (.seq (.set 2 thE) (.seq (.set 3 _) (.seq (.iff _ _ _) (.seq (.set 4 _) (.seq (.par _ _) _)))))) _ = _
  rw [seq_nx (set_at p5 rfl)]
  show exS (GG (k + 4)) _ [cupS a1 b1 true, iv P, .emp, .emp, .emp, .emp, .emp, .emp] = _
  rw [seq_nx (set_at q4 rfl)]
  show exS (GG (k + 4)) _ [cupS a2 b2 true, iv P, iv t, .emp, .emp, .emp, .emp, .emp] = _
  rw [seq_nx (set_at r6 rfl)]
  show exS (GG (k + 4)) _ [cupS a3 b3 true, iv P, iv t, .val (.tup (nl ms)), .emp, .emp, .emp, .emp] = _
  rw [seq_nx hh]
  have e4 : evE (GG (k + 4)) (.bin .sub (.var 1) (.bin .mod (.blt .int (.cons (.var 1) .nil)) (.con (.int 2)))) [cupS a3 b3 true, iv P, iv t, .val (.tup (nl ms)), .emp, .emp, .emp, .emp] = .ok (iv ((P : Int) - ((P % 2 : Nat) : Int)), [cupS a3 b3 true, iv P, iv t, .val (.tup (nl ms)), .emp, .emp, .emp, .emp]) := by
    rw [← mod2]
    exact bin_ok (p := iv P) rfl (th_mod _ _ _ _ _ _ _ _ _) rfl rfl rfl
  rw [seq_nx (set_at e4 rfl)]
  show exS (GG (k + 4)) _ [cupS a3 b3 true, iv P, iv t, .val (.tup (nl ms)), iv ((P : Int) - ((P % 2 : Nat) : Int)), .emp, .emp, .emp] = _
  rw [seq_nx (par_ok (consL_ok t5 (consL_ok u6 rfl)) rfl)]
  exact j1
theorem call0 (G : Gx) (f : Nat) (u : U) (E : En) (hm : G.modes f = some []) (hr : G.den f [] = .ok (.val u, [])) : evE G (.call f .nil) E = .ok (.val u, E) :=
  call_val (f := f) (ws := []) (env1 := E) (md := []) (as := []) (os := []) rfl hm rfl (by simp [evL, evI, look, looks, frz, frzs, put, U.tru, cmpF, opF, bltF, keepF, subF, subE, ownB, ownL, appE, idxF, atU, istF, inF, slcF, callD, argsF, backF, borrows, keyF, parF]) hr rfl
theorem call7 (G : Gx) (X W : Slot) (u : U) (r : En) (x : U) (hX : X = .val x) (hm : G.modes 7 = some [false]) (hr : G.den 7 [X] = .ok (.own u false, [X])) : evE G (.call 7 (.cons (.var 0) .nil)) (X :: r) = .ok (.own u false, X :: r) := by
  subst hX
  exact call_own (f := 7) (ws := [.val x]) (env1 := .val x :: r) (md := [false]) (as := [.val x]) (os := [.val x]) rfl hm rfl (by simp [evL, evI, look, looks, frz, frzs, put, U.tru, cmpF, opF, bltF, keepF, subF, subE, ownB, ownL, appE, idxF, atU, istF, inF, slcF, callD, argsF, backF, borrows, keyF, parF]) hr rfl
theorem call14 (G : Gx) (X Y : Slot) (a b a' b' : Int) (hm : G.modes 14 = some [true]) (hr : G.den 14 [cupS a b true] = .ok (bv true, [cupS a' b' true])) : evE G (.call 14 (.cons (.bor 1) .nil)) [X, cupS a b false, Y] = .ok (bv true, [X, cupS a' b' false, Y]) :=
  call_val (f := 14) (ws := [.bor 1]) (env1 := [X, cupS a b false, Y]) (md := [true]) (as := [cupS a b true]) (os := [cupS a' b' true]) rfl hm rfl (by simp [evL, evI, look, looks, frz, frzs, put, U.tru, cmpF, opF, bltF, keepF, subF, subE, ownB, ownL, appE, idxF, atU, istF, inF, slcF, callD, argsF, backF, borrows, keyF, parF]) hr rfl
theorem main' (D : Den) (x : U) (a b : Int) (ha : 0 ≤ a) (hb : 0 ≤ b) (h : D 7 [.val x] = .ok (.own (.lst [.int a, .int b]) false, [.val x])) (h17 : D 17 [] = .ok (bv true, [])) (h16 : D 16 [] = .ok (bv true, []))
    (hr : ∀ a b : Int, 0 ≤ a → 0 ≤ b → ∃ a' b', 0 ≤ a' ∧ 0 ≤ b' ∧ D 14 [cupS a b true] = .ok (bv true, [cupS a' b' true])) : ∃ os, runFn ⟨prg.modes, prg.cst, D⟩ f_law [.val x] = .ok (bv true, os) := by
  generalize hG : (⟨prg.modes, prg.cst, D⟩ : Gx) = G
  have hm : G.modes = prg.modes := by subst hG; rfl
  have hd : G.den = D := by subst hG; rfl
  rw [← hd] at h h17 h16 hr
  have m7 : G.modes 7 = some [false] := by rw [hm]; rfl
  have m14 : G.modes 14 = some [true] := by rw [hm]; rfl
  have m16 : G.modes 16 = some [] := by rw [hm]; rfl
  have m17 : G.modes 17 = some [] := by rw [hm]; rfl
  generalize hX : Slot.val x = X at h ⊢
  have e1 : evE (G) (.call 7 (.cons (.var 0) .nil)) [X, .emp, .emp] = .ok (.own (.lst [.int a, .int b]) false, [X, .emp, .emp]) := by
    exact call7 (G) X X _ _ _ hX.symm m7 h
  have c17 : ∀ E : En, evE (G) (.call 17 .nil) E = .ok (bv true, E) := fun E => by
    exact call0 (G) 17 _ E m17 h17
  have c16 : ∀ E : En, evE (G) (.call 16 .nil) E = .ok (bv true, E) := fun E => by
    exact call0 (G) 16 _ E m16 h16
  have hif : exS (G) (.iff (.or (.not (.call 17 .nil)) (.not (.call 16 .nil))) (.seq (.ret (.con (.bl false))) .nil) .nil) [X, cupS a b false, .emp] = .ok (.nx, [X, cupS a b false, .emp]) := by
    refine (iff_false (env1 := [X, cupS a b false, .emp]) ?_).trans rfl
    rw [condF_or, evE_or, not_val (c17 _), Res.bind_ok]
    show (evE (G) (.not (.call 16 .nil)) [X, cupS a b false, .emp]).bind _ = _
    rw [not_val (c16 _)]
    rfl
  have hI : evI (G) (.itr .rng1 (.cons (.con (.int 20)) .nil)) [X, cupS a b false, .emp] = .ok (nl (List.range 20), [X, cupS a b false, .emp]) :=
    itr_ok (ws := [iv ((20 : Nat) : Int)]) (us := [.int ((20 : Nat) : Int)]) rfl rfl (itr1 20 (by omega))
  obtain ⟨e', h2, a', b', s2, g1, g2, g3, rfl⟩ := forGo_inv (turn := fun x env => (Res.of (storeU (.tnm 2) x env)).bind fun env => exS (G) (.seq (.iff (.not (.call 14 (.cons (.bor 1) .nil))) (.seq (.ret (.con (.bl false))) .nil) .nil) .nil) env)
    (fun _ e => ∃ (a b : Int) (s2 : Slot), 0 ≤ a ∧ 0 ≤ b ∧ isv s2 ∧ e = [X, cupS a b false, s2])
    (us := nl (List.range 20)) (n := 0) (e := [X, cupS a b false, .emp]) ⟨a, b, .emp, ha, hb, .inl rfl, rfl⟩ (by
      rintro i x e hx ⟨a, b, s2, ha, hb, h2, rfl⟩
      have st : storeU (.tnm 2) x [X, cupS a b false, s2] = some [X, cupS a b false, .val x] := by
        show put _ 2 _ = _
        rw [put_isv (s := s2) rfl h2]
        rfl
      rw [st, Res.of_some, Res.bind_ok]
      obtain ⟨a', b', g1, g2, g3⟩ := hr a b ha hb
      have ec : evE (G) (.call 14 (.cons (.bor 1) .nil)) [X, cupS a b false, .val x] = .ok (bv true, [X, cupS a' b' false, .val x]) := by
        exact call14 (G) X (.val x) a b a' b' m14 g3
      refine ⟨[X, cupS a' b' false, .val x], (seq_nx ((iff_false (env1 := [X, cupS a' b' false, .val x]) ?_).trans rfl)).trans rfl, a', b', _, g1, g2, .inr ⟨_, rfl⟩, rfl⟩
      rw [condF_not, not_val ec]
      rfl)
  refine ⟨_, run_val (env0 := [X, .emp, .emp]) (env := [X, cupS a' b' false, s2]) rfl ?_⟩
  show exS (G) (.seq (.own 1 _) (.seq (.iff _ _ _) (.seq (.for_ (.tnm 2) _ _) _))) _ = _
  rw [seq_nx (ownS_ok e1 rfl)]
  show exS (G) _ [X, cupS a b false, .emp] = _
  rw [seq_nx hif, seq_nx ((for_run (tg := .tnm 2) hI).trans h2)]
  rfl
theorem main (ns : List Int) (hl : ns.length ≤ 63) (_ : ∀ z ∈ ns, Builtin.Int.intBits z ≤ 1048576) : ∃ os, prg.den 40 18 [.val (.scr (ns.map U.int))] = .ok (.val (.bl true), os) := by
  obtain ⟨a, b, ha, hb, h⟩ := cup 38 ns hl
  exact main' (prg.den 39) _ a b ha hb h (saysT_of limits) (saysT_of counts) fun a b ha hb => right 34 a b ha hb
theorem holds : PySem.Challenge.rw_archesjoined_k02_whole_joinings_and_halv.Holds := holds_of main
end K02
end
theorem PySem.Challenge.cw_archesjoined_k02_whole_joinings_and_halv_holds : PySem.Challenge.rw_archesjoined_k02_whole_joinings_and_halv.Holds :=
  K02.holds
